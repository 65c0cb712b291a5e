/- The functions of a program come to the trees of the table; printed by program. No conditions. -/
import Derived.Test.YtflhhhijegoheaaRootBetweenM2
import Derived.Test.YtflhhhijegoheaaProg
import Derived.KernelRfl
namespace Go.Proofs.Ytflhhhijegoheaa.Dx
open Go
def seatL : List (Nat × Nat) := [(8, 13), (25, 19), (35, 21), (71, 86), (70, 88), (88, 89), (97, 90), (60, 91), (100, 92), (69, 93), (74, 94), (95, 95), (19, 96), (58, 98), (110, 100), (101, 101), (98, 102), (99, 103), (76, 104), (36, 105), (103, 106), (102, 107), (37, 108), (104, 109), (63, 110), (75, 111), (77, 112), (79, 113), (78, 114), (32, 120), (73, 121), (33, 122), (30, 125), (28, 126), (34, 128), (26, 272), (23, 273), (66, 274), (64, 281), (111, 282), (61, 283), (89, 284), (56, 285), (57, 286), (87, 287), (65, 331), (83, 332)]
def fidM (f : FuncId) : Option Nat := (seatL.find? (·.1 == f)).map (·.2)
noncomputable def C : Ctx := { P := Try.prog, fid := fidM, spec := spc, canon := none }
theorem c13 : symFun C Try.f8 sp13 = some tr13 := by kernel_rfl
theorem c19 : symFun C Try.f25 sp19 = some tr19 := by kernel_rfl
theorem c21 : symFun C Try.f35 sp21 = some tr21 := by kernel_rfl
theorem c86 : symFun C Try.f71 sp86 = some tr86 := by kernel_rfl
theorem c88 : symFun C Try.f70 sp88 = some tr88 := by kernel_rfl
theorem c89 : symFun C Try.f88 sp89 = some tr89 := by kernel_rfl
theorem c90 : symFun C Try.f97 sp90 = some tr90 := by kernel_rfl
theorem c91 : symFun C Try.f60 sp91 = some tr91 := by kernel_rfl
theorem c92 : symFun C Try.f100 sp92 = some tr92 := by kernel_rfl
theorem c93 : symFun C Try.f69 sp93 = some tr93 := by kernel_rfl
theorem c94 : symFun C Try.f74 sp94 = some tr94 := by kernel_rfl
theorem c95 : symFun C Try.f95 sp95 = some tr95 := by kernel_rfl
theorem c96 : symFun C Try.f19 sp96 = some tr96 := by kernel_rfl
theorem c98 : symFun C Try.f58 sp98 = some tr98 := by kernel_rfl
theorem c100 : symFun C Try.f110 sp100 = some tr100 := by kernel_rfl
theorem c101 : symFun C Try.f101 sp101 = some tr101 := by kernel_rfl
theorem c102 : symFun C Try.f98 sp102 = some tr102 := by kernel_rfl
theorem c103 : symFun C Try.f99 sp103 = some tr103 := by kernel_rfl
theorem c104 : symFun C Try.f76 sp104 = some tr104 := by kernel_rfl
theorem c105 : symFun C Try.f36 sp105 = some tr105 := by kernel_rfl
theorem c106 : symFun C Try.f103 sp106 = some tr106 := by kernel_rfl
theorem c107 : symFun C Try.f102 sp107 = some tr107 := by kernel_rfl
theorem c108 : symFun C Try.f37 sp108 = some tr108 := by kernel_rfl
theorem c109 : symFun C Try.f104 sp109 = some tr109 := by kernel_rfl
theorem c110 : symFun C Try.f63 sp110 = some tr110 := by kernel_rfl
theorem c111 : symFun C Try.f75 sp111 = some tr111 := by kernel_rfl
theorem c112 : symFun C Try.f77 sp112 = some tr112 := by kernel_rfl
theorem c113 : symFun C Try.f79 sp113 = some tr113 := by kernel_rfl
theorem c114 : symFun C Try.f78 sp114 = some tr114 := by kernel_rfl
theorem c120 : symFun C Try.f32 sp120 = some tr120 := by kernel_rfl
theorem c121 : symFun C Try.f73 sp121 = some tr121 := by kernel_rfl
theorem c122 : symFun C Try.f33 sp122 = some tr122 := by kernel_rfl
theorem c125 : symFun C Try.f30 sp125 = some tr125 := by kernel_rfl
theorem c126 : symFun C Try.f28 sp126 = some tr126 := by kernel_rfl
theorem c128 : symFun C Try.f34 sp128 = some tr128 := by kernel_rfl
theorem c272 : symFun C Try.f26 sp272 = some tr272 := by kernel_rfl
theorem c273 : symFun C Try.f23 sp273 = some tr273 := by kernel_rfl
theorem c274 : symFun C Try.f66 sp274 = some tr274 := by kernel_rfl
theorem c281 : symFun C Try.f64 sp281 = some tr281 := by kernel_rfl
theorem c282 : symFun C Try.f111 sp282 = some tr282 := by kernel_rfl
theorem c283 : symFun C Try.f61 sp283 = some tr283 := by kernel_rfl
theorem c284 : symFun C Try.f89 sp284 = some tr284 := by kernel_rfl
theorem c285 : symFun C Try.f56 sp285 = some tr285 := by kernel_rfl
theorem c286 : symFun C Try.f57 sp286 = some tr286 := by kernel_rfl
theorem c287 : symFun C Try.f87 sp287 = some tr287 := by kernel_rfl
theorem c331 : symFun C Try.f65 sp331 = some tr331 := by kernel_rfl
theorem c332 : symFun C Try.f83 sp332 = some tr332 := by kernel_rfl
theorem cbody : (seatL.all fun p => (C.P.funcs[p.1]?).any fun fn => fn.body.isSome && fn.name != "runtime.NumGoroutine") = true := by kernel_rfl
theorem cmixed : C.P.follows .mixedOrders = true := by kernel_rfl
theorem crows : ∀ p ∈ seatL, RowOK C tab p := by
  unfold seatL
  refine List.forall_mem_cons.2 ⟨⟨Try.f8, tr13, sp13, Try.func8, rfl, c13, rfl⟩, ?_⟩
  refine List.forall_mem_cons.2 ⟨⟨Try.f25, tr19, sp19, Try.func25, rfl, c19, rfl⟩, ?_⟩
  refine List.forall_mem_cons.2 ⟨⟨Try.f35, tr21, sp21, Try.func35, rfl, c21, rfl⟩, ?_⟩
  refine List.forall_mem_cons.2 ⟨⟨Try.f71, tr86, sp86, Try.func71, rfl, c86, rfl⟩, ?_⟩
  refine List.forall_mem_cons.2 ⟨⟨Try.f70, tr88, sp88, Try.func70, rfl, c88, rfl⟩, ?_⟩
  refine List.forall_mem_cons.2 ⟨⟨Try.f88, tr89, sp89, Try.func88, rfl, c89, rfl⟩, ?_⟩
  refine List.forall_mem_cons.2 ⟨⟨Try.f97, tr90, sp90, Try.func97, rfl, c90, rfl⟩, ?_⟩
  refine List.forall_mem_cons.2 ⟨⟨Try.f60, tr91, sp91, Try.func60, rfl, c91, rfl⟩, ?_⟩
  refine List.forall_mem_cons.2 ⟨⟨Try.f100, tr92, sp92, Try.func100, rfl, c92, rfl⟩, ?_⟩
  refine List.forall_mem_cons.2 ⟨⟨Try.f69, tr93, sp93, Try.func69, rfl, c93, rfl⟩, ?_⟩
  refine List.forall_mem_cons.2 ⟨⟨Try.f74, tr94, sp94, Try.func74, rfl, c94, rfl⟩, ?_⟩
  refine List.forall_mem_cons.2 ⟨⟨Try.f95, tr95, sp95, Try.func95, rfl, c95, rfl⟩, ?_⟩
  refine List.forall_mem_cons.2 ⟨⟨Try.f19, tr96, sp96, Try.func19, rfl, c96, rfl⟩, ?_⟩
  refine List.forall_mem_cons.2 ⟨⟨Try.f58, tr98, sp98, Try.func58, rfl, c98, rfl⟩, ?_⟩
  refine List.forall_mem_cons.2 ⟨⟨Try.f110, tr100, sp100, Try.func110, rfl, c100, rfl⟩, ?_⟩
  refine List.forall_mem_cons.2 ⟨⟨Try.f101, tr101, sp101, Try.func101, rfl, c101, rfl⟩, ?_⟩
  refine List.forall_mem_cons.2 ⟨⟨Try.f98, tr102, sp102, Try.func98, rfl, c102, rfl⟩, ?_⟩
  refine List.forall_mem_cons.2 ⟨⟨Try.f99, tr103, sp103, Try.func99, rfl, c103, rfl⟩, ?_⟩
  refine List.forall_mem_cons.2 ⟨⟨Try.f76, tr104, sp104, Try.func76, rfl, c104, rfl⟩, ?_⟩
  refine List.forall_mem_cons.2 ⟨⟨Try.f36, tr105, sp105, Try.func36, rfl, c105, rfl⟩, ?_⟩
  refine List.forall_mem_cons.2 ⟨⟨Try.f103, tr106, sp106, Try.func103, rfl, c106, rfl⟩, ?_⟩
  refine List.forall_mem_cons.2 ⟨⟨Try.f102, tr107, sp107, Try.func102, rfl, c107, rfl⟩, ?_⟩
  refine List.forall_mem_cons.2 ⟨⟨Try.f37, tr108, sp108, Try.func37, rfl, c108, rfl⟩, ?_⟩
  refine List.forall_mem_cons.2 ⟨⟨Try.f104, tr109, sp109, Try.func104, rfl, c109, rfl⟩, ?_⟩
  refine List.forall_mem_cons.2 ⟨⟨Try.f63, tr110, sp110, Try.func63, rfl, c110, rfl⟩, ?_⟩
  refine List.forall_mem_cons.2 ⟨⟨Try.f75, tr111, sp111, Try.func75, rfl, c111, rfl⟩, ?_⟩
  refine List.forall_mem_cons.2 ⟨⟨Try.f77, tr112, sp112, Try.func77, rfl, c112, rfl⟩, ?_⟩
  refine List.forall_mem_cons.2 ⟨⟨Try.f79, tr113, sp113, Try.func79, rfl, c113, rfl⟩, ?_⟩
  refine List.forall_mem_cons.2 ⟨⟨Try.f78, tr114, sp114, Try.func78, rfl, c114, rfl⟩, ?_⟩
  refine List.forall_mem_cons.2 ⟨⟨Try.f32, tr120, sp120, Try.func32, rfl, c120, rfl⟩, ?_⟩
  refine List.forall_mem_cons.2 ⟨⟨Try.f73, tr121, sp121, Try.func73, rfl, c121, rfl⟩, ?_⟩
  refine List.forall_mem_cons.2 ⟨⟨Try.f33, tr122, sp122, Try.func33, rfl, c122, rfl⟩, ?_⟩
  refine List.forall_mem_cons.2 ⟨⟨Try.f30, tr125, sp125, Try.func30, rfl, c125, rfl⟩, ?_⟩
  refine List.forall_mem_cons.2 ⟨⟨Try.f28, tr126, sp126, Try.func28, rfl, c126, rfl⟩, ?_⟩
  refine List.forall_mem_cons.2 ⟨⟨Try.f34, tr128, sp128, Try.func34, rfl, c128, rfl⟩, ?_⟩
  refine List.forall_mem_cons.2 ⟨⟨Try.f26, tr272, sp272, Try.func26, rfl, c272, rfl⟩, ?_⟩
  refine List.forall_mem_cons.2 ⟨⟨Try.f23, tr273, sp273, Try.func23, rfl, c273, rfl⟩, ?_⟩
  refine List.forall_mem_cons.2 ⟨⟨Try.f66, tr274, sp274, Try.func66, rfl, c274, rfl⟩, ?_⟩
  refine List.forall_mem_cons.2 ⟨⟨Try.f64, tr281, sp281, Try.func64, rfl, c281, rfl⟩, ?_⟩
  refine List.forall_mem_cons.2 ⟨⟨Try.f111, tr282, sp282, Try.func111, rfl, c282, rfl⟩, ?_⟩
  refine List.forall_mem_cons.2 ⟨⟨Try.f61, tr283, sp283, Try.func61, rfl, c283, rfl⟩, ?_⟩
  refine List.forall_mem_cons.2 ⟨⟨Try.f89, tr284, sp284, Try.func89, rfl, c284, rfl⟩, ?_⟩
  refine List.forall_mem_cons.2 ⟨⟨Try.f56, tr285, sp285, Try.func56, rfl, c285, rfl⟩, ?_⟩
  refine List.forall_mem_cons.2 ⟨⟨Try.f57, tr286, sp286, Try.func57, rfl, c286, rfl⟩, ?_⟩
  refine List.forall_mem_cons.2 ⟨⟨Try.f87, tr287, sp287, Try.func87, rfl, c287, rfl⟩, ?_⟩
  refine List.forall_mem_cons.2 ⟨⟨Try.f65, tr331, sp331, Try.func65, rfl, c331, rfl⟩, ?_⟩
  refine List.forall_mem_cons.2 ⟨⟨Try.f83, tr332, sp332, Try.func83, rfl, c332, rfl⟩, ?_⟩
  exact List.forall_mem_nil _
theorem tabok : TabOK C tab := tabOK_of (l := seatL) (fun _ => rfl) cbody cmixed crows (fun k id sp ps qs h _ _ _ => by cases h)
end Go.Proofs.Ytflhhhijegoheaa.Dx
