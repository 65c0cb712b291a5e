/- The functions of a program come to the trees of the table; printed by program. No conditions. -/
import Derived.Test.YtflhhhijegoheaaCompareExpsM1
import Derived.Test.YtflhhhijegoheaaProg
import Derived.KernelRfl
namespace Go.Proofs.Ytflhhhijegoheaa.Dx
open Go
def seatL : List (Nat × Nat) := [(48, 5), (39, 9), (50, 10), (15, 11), (81, 12), (11, 23), (17, 28), (88, 89), (97, 90), (60, 91), (74, 94), (95, 95), (19, 96), (110, 100), (63, 110), (78, 114), (32, 120), (73, 121), (33, 122), (30, 125), (28, 126), (34, 128), (49, 141), (55, 280), (64, 281), (111, 282), (61, 283), (89, 284), (56, 285), (57, 286), (87, 287), (83, 332)]
def fidM (f : FuncId) : Option Nat := (seatL.find? (·.1 == f)).map (·.2)
noncomputable def C : Ctx := { P := Try.prog, fid := fidM, spec := spc, canon := none }
theorem c5 : symFun C Try.f48 sp5 = some tr5 := by kernel_rfl
theorem c9 : symFun C Try.f39 sp9 = some tr9 := by kernel_rfl
theorem c10 : symFun C Try.f50 sp10 = some tr10 := by kernel_rfl
theorem c11 : symFun C Try.f15 sp11 = some tr11 := by kernel_rfl
theorem c12 : symFun C Try.f81 sp12 = some tr12 := by kernel_rfl
theorem c23 : symFun C Try.f11 sp23 = some tr23 := by kernel_rfl
theorem c28 : symFun C Try.f17 sp28 = some tr28 := by kernel_rfl
theorem c89 : symFun C Try.f88 sp89 = some tr89 := by kernel_rfl
theorem c90 : symFun C Try.f97 sp90 = some tr90 := by kernel_rfl
theorem c91 : symFun C Try.f60 sp91 = some tr91 := by kernel_rfl
theorem c94 : symFun C Try.f74 sp94 = some tr94 := by kernel_rfl
theorem c95 : symFun C Try.f95 sp95 = some tr95 := by kernel_rfl
theorem c96 : symFun C Try.f19 sp96 = some tr96 := by kernel_rfl
theorem c100 : symFun C Try.f110 sp100 = some tr100 := by kernel_rfl
theorem c110 : symFun C Try.f63 sp110 = some tr110 := by kernel_rfl
theorem c114 : symFun C Try.f78 sp114 = some tr114 := by kernel_rfl
theorem c120 : symFun C Try.f32 sp120 = some tr120 := by kernel_rfl
theorem c121 : symFun C Try.f73 sp121 = some tr121 := by kernel_rfl
theorem c122 : symFun C Try.f33 sp122 = some tr122 := by kernel_rfl
theorem c125 : symFun C Try.f30 sp125 = some tr125 := by kernel_rfl
theorem c126 : symFun C Try.f28 sp126 = some tr126 := by kernel_rfl
theorem c128 : symFun C Try.f34 sp128 = some tr128 := by kernel_rfl
theorem c141 : symFun C Try.f49 sp141 = some tr141 := by kernel_rfl
theorem c280 : symFun C Try.f55 sp280 = some tr280 := by kernel_rfl
theorem c281 : symFun C Try.f64 sp281 = some tr281 := by kernel_rfl
theorem c282 : symFun C Try.f111 sp282 = some tr282 := by kernel_rfl
theorem c283 : symFun C Try.f61 sp283 = some tr283 := by kernel_rfl
theorem c284 : symFun C Try.f89 sp284 = some tr284 := by kernel_rfl
theorem c285 : symFun C Try.f56 sp285 = some tr285 := by kernel_rfl
theorem c286 : symFun C Try.f57 sp286 = some tr286 := by kernel_rfl
theorem c287 : symFun C Try.f87 sp287 = some tr287 := by kernel_rfl
theorem c332 : symFun C Try.f83 sp332 = some tr332 := by kernel_rfl
theorem cbody : (seatL.all fun p => (C.P.funcs[p.1]?).any fun fn => fn.body.isSome && fn.name != "runtime.NumGoroutine") = true := by kernel_rfl
theorem cmixed : C.P.follows .mixedOrders = true := by kernel_rfl
theorem crows : ∀ p ∈ seatL, RowOK C tab p := by
  unfold seatL
  refine List.forall_mem_cons.2 ⟨⟨Try.f48, tr5, sp5, Try.func48, rfl, c5, rfl⟩, ?_⟩
  refine List.forall_mem_cons.2 ⟨⟨Try.f39, tr9, sp9, Try.func39, rfl, c9, rfl⟩, ?_⟩
  refine List.forall_mem_cons.2 ⟨⟨Try.f50, tr10, sp10, Try.func50, rfl, c10, rfl⟩, ?_⟩
  refine List.forall_mem_cons.2 ⟨⟨Try.f15, tr11, sp11, Try.func15, rfl, c11, rfl⟩, ?_⟩
  refine List.forall_mem_cons.2 ⟨⟨Try.f81, tr12, sp12, Try.func81, rfl, c12, rfl⟩, ?_⟩
  refine List.forall_mem_cons.2 ⟨⟨Try.f11, tr23, sp23, Try.func11, rfl, c23, rfl⟩, ?_⟩
  refine List.forall_mem_cons.2 ⟨⟨Try.f17, tr28, sp28, Try.func17, rfl, c28, rfl⟩, ?_⟩
  refine List.forall_mem_cons.2 ⟨⟨Try.f88, tr89, sp89, Try.func88, rfl, c89, rfl⟩, ?_⟩
  refine List.forall_mem_cons.2 ⟨⟨Try.f97, tr90, sp90, Try.func97, rfl, c90, rfl⟩, ?_⟩
  refine List.forall_mem_cons.2 ⟨⟨Try.f60, tr91, sp91, Try.func60, rfl, c91, rfl⟩, ?_⟩
  refine List.forall_mem_cons.2 ⟨⟨Try.f74, tr94, sp94, Try.func74, rfl, c94, rfl⟩, ?_⟩
  refine List.forall_mem_cons.2 ⟨⟨Try.f95, tr95, sp95, Try.func95, rfl, c95, rfl⟩, ?_⟩
  refine List.forall_mem_cons.2 ⟨⟨Try.f19, tr96, sp96, Try.func19, rfl, c96, rfl⟩, ?_⟩
  refine List.forall_mem_cons.2 ⟨⟨Try.f110, tr100, sp100, Try.func110, rfl, c100, rfl⟩, ?_⟩
  refine List.forall_mem_cons.2 ⟨⟨Try.f63, tr110, sp110, Try.func63, rfl, c110, rfl⟩, ?_⟩
  refine List.forall_mem_cons.2 ⟨⟨Try.f78, tr114, sp114, Try.func78, rfl, c114, rfl⟩, ?_⟩
  refine List.forall_mem_cons.2 ⟨⟨Try.f32, tr120, sp120, Try.func32, rfl, c120, rfl⟩, ?_⟩
  refine List.forall_mem_cons.2 ⟨⟨Try.f73, tr121, sp121, Try.func73, rfl, c121, rfl⟩, ?_⟩
  refine List.forall_mem_cons.2 ⟨⟨Try.f33, tr122, sp122, Try.func33, rfl, c122, rfl⟩, ?_⟩
  refine List.forall_mem_cons.2 ⟨⟨Try.f30, tr125, sp125, Try.func30, rfl, c125, rfl⟩, ?_⟩
  refine List.forall_mem_cons.2 ⟨⟨Try.f28, tr126, sp126, Try.func28, rfl, c126, rfl⟩, ?_⟩
  refine List.forall_mem_cons.2 ⟨⟨Try.f34, tr128, sp128, Try.func34, rfl, c128, rfl⟩, ?_⟩
  refine List.forall_mem_cons.2 ⟨⟨Try.f49, tr141, sp141, Try.func49, rfl, c141, rfl⟩, ?_⟩
  refine List.forall_mem_cons.2 ⟨⟨Try.f55, tr280, sp280, Try.func55, rfl, c280, rfl⟩, ?_⟩
  refine List.forall_mem_cons.2 ⟨⟨Try.f64, tr281, sp281, Try.func64, rfl, c281, rfl⟩, ?_⟩
  refine List.forall_mem_cons.2 ⟨⟨Try.f111, tr282, sp282, Try.func111, rfl, c282, rfl⟩, ?_⟩
  refine List.forall_mem_cons.2 ⟨⟨Try.f61, tr283, sp283, Try.func61, rfl, c283, rfl⟩, ?_⟩
  refine List.forall_mem_cons.2 ⟨⟨Try.f89, tr284, sp284, Try.func89, rfl, c284, rfl⟩, ?_⟩
  refine List.forall_mem_cons.2 ⟨⟨Try.f56, tr285, sp285, Try.func56, rfl, c285, rfl⟩, ?_⟩
  refine List.forall_mem_cons.2 ⟨⟨Try.f57, tr286, sp286, Try.func57, rfl, c286, rfl⟩, ?_⟩
  refine List.forall_mem_cons.2 ⟨⟨Try.f87, tr287, sp287, Try.func87, rfl, c287, rfl⟩, ?_⟩
  refine List.forall_mem_cons.2 ⟨⟨Try.f83, tr332, sp332, Try.func83, rfl, c332, rfl⟩, ?_⟩
  exact List.forall_mem_nil _
theorem tabok : TabOK C tab := tabOK_of (l := seatL) (fun _ => rfl) cbody cmixed crows (fun k id sp ps qs h _ _ _ => by cases h)
end Go.Proofs.Ytflhhhijegoheaa.Dx
