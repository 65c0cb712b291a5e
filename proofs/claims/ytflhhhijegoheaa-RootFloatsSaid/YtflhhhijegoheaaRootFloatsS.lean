/- The functions of a program come to the trees of the table; printed by program. No conditions. -/
import Derived.Test.YtflhhhijegoheaaRootFloatsM2
import Derived.Test.YtflhhhijegoheaaProg
import Derived.KernelRfl
namespace Go.Proofs.Ytflhhhijegoheaa.Dx
open Go
def seatL : List (Nat × Nat) := [(14, 14), (25, 19), (38, 20), (73, 121), (33, 122), (28, 126), (52, 134), (26, 272), (23, 273), (66, 274), (64, 281), (111, 282), (61, 283), (89, 284), (56, 285), (57, 286), (87, 287), (54, 328), (65, 331), (83, 332)]
def fidM (f : FuncId) : Option Nat := (seatL.find? (·.1 == f)).map (·.2)
noncomputable def C : Ctx := { P := Try.prog, fid := fidM, spec := spc, canon := some 134 }
theorem c14 : symFun C Try.f14 sp14 = some tr14 := by kernel_rfl
theorem c19 : symFun C Try.f25 sp19 = some tr19 := by kernel_rfl
theorem c20 : symFun C Try.f38 sp20 = some tr20 := by kernel_rfl
theorem c121 : symFun C Try.f73 sp121 = some tr121 := by kernel_rfl
theorem c122 : symFun C Try.f33 sp122 = some tr122 := by kernel_rfl
theorem c126 : symFun C Try.f28 sp126 = some tr126 := by kernel_rfl
theorem c134 : symFun C Try.f52 sp134 = some tr134 := by kernel_rfl
theorem c272 : symFun C Try.f26 sp272 = some tr272 := by kernel_rfl
theorem c273 : symFun C Try.f23 sp273 = some tr273 := by kernel_rfl
theorem c274 : symFun C Try.f66 sp274 = some tr274 := by kernel_rfl
theorem c281 : symFun C Try.f64 sp281 = some tr281 := by kernel_rfl
theorem c282 : symFun C Try.f111 sp282 = some tr282 := by kernel_rfl
theorem c283 : symFun C Try.f61 sp283 = some tr283 := by kernel_rfl
theorem c284 : symFun C Try.f89 sp284 = some tr284 := by kernel_rfl
theorem c285 : symFun C Try.f56 sp285 = some tr285 := by kernel_rfl
theorem c286 : symFun C Try.f57 sp286 = some tr286 := by kernel_rfl
theorem c287 : symFun C Try.f87 sp287 = some tr287 := by kernel_rfl
theorem c328 : symFun C Try.f54 sp328 = some tr328 := by kernel_rfl
theorem c331 : symFun C Try.f65 sp331 = some tr331 := by kernel_rfl
theorem c332 : symFun C Try.f83 sp332 = some tr332 := by kernel_rfl
theorem cbody : (seatL.all fun p => (C.P.funcs[p.1]?).any fun fn => fn.body.isSome && fn.name != "runtime.NumGoroutine") = true := by kernel_rfl
theorem cmixed : C.P.follows .mixedOrders = true := by kernel_rfl
theorem crows : ∀ p ∈ seatL, RowOK C tab p := by
  unfold seatL
  refine List.forall_mem_cons.2 ⟨⟨Try.f14, tr14, sp14, Try.func14, rfl, c14, rfl⟩, ?_⟩
  refine List.forall_mem_cons.2 ⟨⟨Try.f25, tr19, sp19, Try.func25, rfl, c19, rfl⟩, ?_⟩
  refine List.forall_mem_cons.2 ⟨⟨Try.f38, tr20, sp20, Try.func38, rfl, c20, rfl⟩, ?_⟩
  refine List.forall_mem_cons.2 ⟨⟨Try.f73, tr121, sp121, Try.func73, rfl, c121, rfl⟩, ?_⟩
  refine List.forall_mem_cons.2 ⟨⟨Try.f33, tr122, sp122, Try.func33, rfl, c122, rfl⟩, ?_⟩
  refine List.forall_mem_cons.2 ⟨⟨Try.f28, tr126, sp126, Try.func28, rfl, c126, rfl⟩, ?_⟩
  refine List.forall_mem_cons.2 ⟨⟨Try.f52, tr134, sp134, Try.func52, rfl, c134, rfl⟩, ?_⟩
  refine List.forall_mem_cons.2 ⟨⟨Try.f26, tr272, sp272, Try.func26, rfl, c272, rfl⟩, ?_⟩
  refine List.forall_mem_cons.2 ⟨⟨Try.f23, tr273, sp273, Try.func23, rfl, c273, rfl⟩, ?_⟩
  refine List.forall_mem_cons.2 ⟨⟨Try.f66, tr274, sp274, Try.func66, rfl, c274, rfl⟩, ?_⟩
  refine List.forall_mem_cons.2 ⟨⟨Try.f64, tr281, sp281, Try.func64, rfl, c281, rfl⟩, ?_⟩
  refine List.forall_mem_cons.2 ⟨⟨Try.f111, tr282, sp282, Try.func111, rfl, c282, rfl⟩, ?_⟩
  refine List.forall_mem_cons.2 ⟨⟨Try.f61, tr283, sp283, Try.func61, rfl, c283, rfl⟩, ?_⟩
  refine List.forall_mem_cons.2 ⟨⟨Try.f89, tr284, sp284, Try.func89, rfl, c284, rfl⟩, ?_⟩
  refine List.forall_mem_cons.2 ⟨⟨Try.f56, tr285, sp285, Try.func56, rfl, c285, rfl⟩, ?_⟩
  refine List.forall_mem_cons.2 ⟨⟨Try.f57, tr286, sp286, Try.func57, rfl, c286, rfl⟩, ?_⟩
  refine List.forall_mem_cons.2 ⟨⟨Try.f87, tr287, sp287, Try.func87, rfl, c287, rfl⟩, ?_⟩
  refine List.forall_mem_cons.2 ⟨⟨Try.f54, tr328, sp328, Try.func54, rfl, c328, rfl⟩, ?_⟩
  refine List.forall_mem_cons.2 ⟨⟨Try.f65, tr331, sp331, Try.func65, rfl, c331, rfl⟩, ?_⟩
  refine List.forall_mem_cons.2 ⟨⟨Try.f83, tr332, sp332, Try.func83, rfl, c332, rfl⟩, ?_⟩
  exact List.forall_mem_nil _
theorem tabok : TabOK C tab := tabOK_of (l := seatL) (fun _ => rfl) cbody cmixed crows (fun k id sp ps qs h h1 h2 h3 => by cases h; cases h1; exact canon_raw k h2 h3)
end Go.Proofs.Ytflhhhijegoheaa.Dx
