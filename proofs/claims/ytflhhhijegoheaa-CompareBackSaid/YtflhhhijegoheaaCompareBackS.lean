/- The functions of a program come to the trees of the table; printed by program. No conditions. -/
import Derived.Test.YtflhhhijegoheaaCompareBackM1
import Derived.Test.YtflhhhijegoheaaProg
import Derived.KernelRfl
namespace Go.Proofs.Ytflhhhijegoheaa.Dx
open Go
def seatL : List (Nat × Nat) := [(48, 5), (39, 9), (50, 10), (15, 11), (81, 12), (12, 22), (17, 28), (28, 126), (55, 280), (64, 281), (111, 282), (61, 283), (89, 284), (56, 285), (57, 286), (87, 287), (83, 332)]
def fidM (f : FuncId) : Option Nat := (seatL.find? (·.1 == f)).map (·.2)
noncomputable def C : Ctx := { P := Try.prog, fid := fidM, spec := spc, canon := none }
theorem c5 : symFun C Try.f48 sp5 = some tr5 := by kernel_rfl
theorem c9 : symFun C Try.f39 sp9 = some tr9 := by kernel_rfl
theorem c10 : symFun C Try.f50 sp10 = some tr10 := by kernel_rfl
theorem c11 : symFun C Try.f15 sp11 = some tr11 := by kernel_rfl
theorem c12 : symFun C Try.f81 sp12 = some tr12 := by kernel_rfl
theorem c22 : symFun C Try.f12 sp22 = some tr22 := by kernel_rfl
theorem c28 : symFun C Try.f17 sp28 = some tr28 := by kernel_rfl
theorem c126 : symFun C Try.f28 sp126 = some tr126 := by kernel_rfl
theorem c280 : symFun C Try.f55 sp280 = some tr280 := by kernel_rfl
theorem c281 : symFun C Try.f64 sp281 = some tr281 := by kernel_rfl
theorem c282 : symFun C Try.f111 sp282 = some tr282 := by kernel_rfl
theorem c283 : symFun C Try.f61 sp283 = some tr283 := by kernel_rfl
theorem c284 : symFun C Try.f89 sp284 = some tr284 := by kernel_rfl
theorem c285 : symFun C Try.f56 sp285 = some tr285 := by kernel_rfl
theorem c286 : symFun C Try.f57 sp286 = some tr286 := by kernel_rfl
theorem c287 : symFun C Try.f87 sp287 = some tr287 := by kernel_rfl
theorem c332 : symFun C Try.f83 sp332 = some tr332 := by kernel_rfl
theorem cbody : (seatL.all fun p => (C.P.funcs[p.1]?).any fun fn => fn.body.isSome && fn.name != "runtime.NumGoroutine") = true := by kernel_rfl
theorem cmixed : C.P.follows .mixedOrders = true := by kernel_rfl
theorem crows : ∀ p ∈ seatL, RowOK C tab p := by
  unfold seatL
  refine List.forall_mem_cons.2 ⟨⟨Try.f48, tr5, sp5, Try.func48, rfl, c5, rfl⟩, ?_⟩
  refine List.forall_mem_cons.2 ⟨⟨Try.f39, tr9, sp9, Try.func39, rfl, c9, rfl⟩, ?_⟩
  refine List.forall_mem_cons.2 ⟨⟨Try.f50, tr10, sp10, Try.func50, rfl, c10, rfl⟩, ?_⟩
  refine List.forall_mem_cons.2 ⟨⟨Try.f15, tr11, sp11, Try.func15, rfl, c11, rfl⟩, ?_⟩
  refine List.forall_mem_cons.2 ⟨⟨Try.f81, tr12, sp12, Try.func81, rfl, c12, rfl⟩, ?_⟩
  refine List.forall_mem_cons.2 ⟨⟨Try.f12, tr22, sp22, Try.func12, rfl, c22, rfl⟩, ?_⟩
  refine List.forall_mem_cons.2 ⟨⟨Try.f17, tr28, sp28, Try.func17, rfl, c28, rfl⟩, ?_⟩
  refine List.forall_mem_cons.2 ⟨⟨Try.f28, tr126, sp126, Try.func28, rfl, c126, rfl⟩, ?_⟩
  refine List.forall_mem_cons.2 ⟨⟨Try.f55, tr280, sp280, Try.func55, rfl, c280, rfl⟩, ?_⟩
  refine List.forall_mem_cons.2 ⟨⟨Try.f64, tr281, sp281, Try.func64, rfl, c281, rfl⟩, ?_⟩
  refine List.forall_mem_cons.2 ⟨⟨Try.f111, tr282, sp282, Try.func111, rfl, c282, rfl⟩, ?_⟩
  refine List.forall_mem_cons.2 ⟨⟨Try.f61, tr283, sp283, Try.func61, rfl, c283, rfl⟩, ?_⟩
  refine List.forall_mem_cons.2 ⟨⟨Try.f89, tr284, sp284, Try.func89, rfl, c284, rfl⟩, ?_⟩
  refine List.forall_mem_cons.2 ⟨⟨Try.f56, tr285, sp285, Try.func56, rfl, c285, rfl⟩, ?_⟩
  refine List.forall_mem_cons.2 ⟨⟨Try.f57, tr286, sp286, Try.func57, rfl, c286, rfl⟩, ?_⟩
  refine List.forall_mem_cons.2 ⟨⟨Try.f87, tr287, sp287, Try.func87, rfl, c287, rfl⟩, ?_⟩
  refine List.forall_mem_cons.2 ⟨⟨Try.f83, tr332, sp332, Try.func83, rfl, c332, rfl⟩, ?_⟩
  exact List.forall_mem_nil _
theorem tabok : TabOK C tab := tabOK_of (l := seatL) (fun _ => rfl) cbody cmixed crows (fun k id ps qs h _ => by cases h)
end Go.Proofs.Ytflhhhijegoheaa.Dx
