/- The functions of a program come to the trees of the table; printed by program. No conditions. -/
import Derived.Test.YtcjhfgjgmkfmnaaCompareScalesM2
import Derived.Test.YtcjhfgjgmkfmnaaProg
import Derived.KernelRfl
namespace Go.Proofs.Ytcjhfgjgmkfmnaa.Dx
open Go
def seatL : List (Nat × Nat) := [(76, 9), (15, 10), (77, 11), (129, 12), (3, 26), (21, 28), (20, 29), (137, 86), (167, 88), (103, 89), (139, 90), (101, 91), (163, 92), (87, 94), (102, 95), (47, 96), (152, 98), (141, 100), (164, 101), (134, 102), (90, 104), (36, 105), (138, 106), (136, 107), (88, 109), (46, 110), (37, 111), (93, 112), (34, 113), (94, 114), (86, 121), (71, 122), (50, 123), (120, 124), (27, 125), (85, 126), (72, 127), (28, 128), (121, 129), (122, 130), (123, 131), (119, 132), (151, 133), (17, 134), (16, 145), (79, 280), (67, 281), (150, 282), (69, 283), (118, 284), (68, 285), (70, 286), (117, 287), (153, 322), (127, 323), (128, 324), (124, 325), (125, 326), (19, 327), (74, 329), (126, 330)]
def fidM (f : FuncId) : Option Nat := (seatL.find? (·.1 == f)).map (·.2)
noncomputable def C : Ctx := { P := Try.prog, fid := fidM, spec := spc, canon := some 134 }
theorem c9 : symFun C Try.f76 sp9 = some tr9 := by kernel_rfl
theorem c10 : symFun C Try.f15 sp10 = some tr10 := by kernel_rfl
theorem c11 : symFun C Try.f77 sp11 = some tr11 := by kernel_rfl
theorem c12 : symFun C Try.f129 sp12 = some tr12 := by kernel_rfl
theorem c26 : symFun C Try.f3 sp26 = some tr26 := by kernel_rfl
theorem c28 : symFun C Try.f21 sp28 = some tr28 := by kernel_rfl
theorem c29 : symFun C Try.f20 sp29 = some tr29 := by kernel_rfl
theorem c86 : symFun C Try.f137 sp86 = some tr86 := by kernel_rfl
theorem c88 : symFun C Try.f167 sp88 = some tr88 := by kernel_rfl
theorem c89 : symFun C Try.f103 sp89 = some tr89 := by kernel_rfl
theorem c90 : symFun C Try.f139 sp90 = some tr90 := by kernel_rfl
theorem c91 : symFun C Try.f101 sp91 = some tr91 := by kernel_rfl
theorem c92 : symFun C Try.f163 sp92 = some tr92 := by kernel_rfl
theorem c94 : symFun C Try.f87 sp94 = some tr94 := by kernel_rfl
theorem c95 : symFun C Try.f102 sp95 = some tr95 := by kernel_rfl
theorem c96 : symFun C Try.f47 sp96 = some tr96 := by kernel_rfl
theorem c98 : symFun C Try.f152 sp98 = some tr98 := by kernel_rfl
theorem c100 : symFun C Try.f141 sp100 = some tr100 := by kernel_rfl
theorem c101 : symFun C Try.f164 sp101 = some tr101 := by kernel_rfl
theorem c102 : symFun C Try.f134 sp102 = some tr102 := by kernel_rfl
theorem c104 : symFun C Try.f90 sp104 = some tr104 := by kernel_rfl
theorem c105 : symFun C Try.f36 sp105 = some tr105 := by kernel_rfl
theorem c106 : symFun C Try.f138 sp106 = some tr106 := by kernel_rfl
theorem c107 : symFun C Try.f136 sp107 = some tr107 := by kernel_rfl
theorem c109 : symFun C Try.f88 sp109 = some tr109 := by kernel_rfl
theorem c110 : symFun C Try.f46 sp110 = some tr110 := by kernel_rfl
theorem c111 : symFun C Try.f37 sp111 = some tr111 := by kernel_rfl
theorem c112 : symFun C Try.f93 sp112 = some tr112 := by kernel_rfl
theorem c113 : symFun C Try.f34 sp113 = some tr113 := by kernel_rfl
theorem c114 : symFun C Try.f94 sp114 = some tr114 := by kernel_rfl
theorem c121 : symFun C Try.f86 sp121 = some tr121 := by kernel_rfl
theorem c122 : symFun C Try.f71 sp122 = some tr122 := by kernel_rfl
theorem c123 : symFun C Try.f50 sp123 = some tr123 := by kernel_rfl
theorem c124 : symFun C Try.f120 sp124 = some tr124 := by kernel_rfl
theorem c125 : symFun C Try.f27 sp125 = some tr125 := by kernel_rfl
theorem c126 : symFun C Try.f85 sp126 = some tr126 := by kernel_rfl
theorem c127 : symFun C Try.f72 sp127 = some tr127 := by kernel_rfl
theorem c128 : symFun C Try.f28 sp128 = some tr128 := by kernel_rfl
theorem c129 : symFun C Try.f121 sp129 = some tr129 := by kernel_rfl
theorem c130 : symFun C Try.f122 sp130 = some tr130 := by kernel_rfl
theorem c131 : symFun C Try.f123 sp131 = some tr131 := by kernel_rfl
theorem c132 : symFun C Try.f119 sp132 = some tr132 := by kernel_rfl
theorem c133 : symFun C Try.f151 sp133 = some tr133 := by kernel_rfl
theorem c134 : symFun C Try.f17 sp134 = some tr134 := by kernel_rfl
theorem c145 : symFun C Try.f16 sp145 = some tr145 := by kernel_rfl
theorem c280 : symFun C Try.f79 sp280 = some tr280 := by kernel_rfl
theorem c281 : symFun C Try.f67 sp281 = some tr281 := by kernel_rfl
theorem c282 : symFun C Try.f150 sp282 = some tr282 := by kernel_rfl
theorem c283 : symFun C Try.f69 sp283 = some tr283 := by kernel_rfl
theorem c284 : symFun C Try.f118 sp284 = some tr284 := by kernel_rfl
theorem c285 : symFun C Try.f68 sp285 = some tr285 := by kernel_rfl
theorem c286 : symFun C Try.f70 sp286 = some tr286 := by kernel_rfl
theorem c287 : symFun C Try.f117 sp287 = some tr287 := by kernel_rfl
theorem c322 : symFun C Try.f153 sp322 = some tr322 := by kernel_rfl
theorem c323 : symFun C Try.f127 sp323 = some tr323 := by kernel_rfl
theorem c324 : symFun C Try.f128 sp324 = some tr324 := by kernel_rfl
theorem c325 : symFun C Try.f124 sp325 = some tr325 := by kernel_rfl
theorem c326 : symFun C Try.f125 sp326 = some tr326 := by kernel_rfl
theorem c327 : symFun C Try.f19 sp327 = some tr327 := by kernel_rfl
theorem c329 : symFun C Try.f74 sp329 = some tr329 := by kernel_rfl
theorem c330 : symFun C Try.f126 sp330 = some tr330 := by kernel_rfl
theorem cbody : (seatL.all fun p => (C.P.funcs[p.1]?).any fun fn => fn.body.isSome && fn.name != "runtime.NumGoroutine") = true := by kernel_rfl
theorem cmixed : C.P.follows .mixedOrders = true := by kernel_rfl
theorem crows : ∀ p ∈ seatL, RowOK C tab p := by
  unfold seatL
  refine List.forall_mem_cons.2 ⟨⟨Try.f76, tr9, sp9, Try.func76, rfl, c9, rfl⟩, ?_⟩
  refine List.forall_mem_cons.2 ⟨⟨Try.f15, tr10, sp10, Try.func15, rfl, c10, rfl⟩, ?_⟩
  refine List.forall_mem_cons.2 ⟨⟨Try.f77, tr11, sp11, Try.func77, rfl, c11, rfl⟩, ?_⟩
  refine List.forall_mem_cons.2 ⟨⟨Try.f129, tr12, sp12, Try.func129, rfl, c12, rfl⟩, ?_⟩
  refine List.forall_mem_cons.2 ⟨⟨Try.f3, tr26, sp26, Try.func3, rfl, c26, rfl⟩, ?_⟩
  refine List.forall_mem_cons.2 ⟨⟨Try.f21, tr28, sp28, Try.func21, rfl, c28, rfl⟩, ?_⟩
  refine List.forall_mem_cons.2 ⟨⟨Try.f20, tr29, sp29, Try.func20, rfl, c29, rfl⟩, ?_⟩
  refine List.forall_mem_cons.2 ⟨⟨Try.f137, tr86, sp86, Try.func137, rfl, c86, rfl⟩, ?_⟩
  refine List.forall_mem_cons.2 ⟨⟨Try.f167, tr88, sp88, Try.func167, rfl, c88, rfl⟩, ?_⟩
  refine List.forall_mem_cons.2 ⟨⟨Try.f103, tr89, sp89, Try.func103, rfl, c89, rfl⟩, ?_⟩
  refine List.forall_mem_cons.2 ⟨⟨Try.f139, tr90, sp90, Try.func139, rfl, c90, rfl⟩, ?_⟩
  refine List.forall_mem_cons.2 ⟨⟨Try.f101, tr91, sp91, Try.func101, rfl, c91, rfl⟩, ?_⟩
  refine List.forall_mem_cons.2 ⟨⟨Try.f163, tr92, sp92, Try.func163, rfl, c92, rfl⟩, ?_⟩
  refine List.forall_mem_cons.2 ⟨⟨Try.f87, tr94, sp94, Try.func87, rfl, c94, rfl⟩, ?_⟩
  refine List.forall_mem_cons.2 ⟨⟨Try.f102, tr95, sp95, Try.func102, rfl, c95, rfl⟩, ?_⟩
  refine List.forall_mem_cons.2 ⟨⟨Try.f47, tr96, sp96, Try.func47, rfl, c96, rfl⟩, ?_⟩
  refine List.forall_mem_cons.2 ⟨⟨Try.f152, tr98, sp98, Try.func152, rfl, c98, rfl⟩, ?_⟩
  refine List.forall_mem_cons.2 ⟨⟨Try.f141, tr100, sp100, Try.func141, rfl, c100, rfl⟩, ?_⟩
  refine List.forall_mem_cons.2 ⟨⟨Try.f164, tr101, sp101, Try.func164, rfl, c101, rfl⟩, ?_⟩
  refine List.forall_mem_cons.2 ⟨⟨Try.f134, tr102, sp102, Try.func134, rfl, c102, rfl⟩, ?_⟩
  refine List.forall_mem_cons.2 ⟨⟨Try.f90, tr104, sp104, Try.func90, rfl, c104, rfl⟩, ?_⟩
  refine List.forall_mem_cons.2 ⟨⟨Try.f36, tr105, sp105, Try.func36, rfl, c105, rfl⟩, ?_⟩
  refine List.forall_mem_cons.2 ⟨⟨Try.f138, tr106, sp106, Try.func138, rfl, c106, rfl⟩, ?_⟩
  refine List.forall_mem_cons.2 ⟨⟨Try.f136, tr107, sp107, Try.func136, rfl, c107, rfl⟩, ?_⟩
  refine List.forall_mem_cons.2 ⟨⟨Try.f88, tr109, sp109, Try.func88, rfl, c109, rfl⟩, ?_⟩
  refine List.forall_mem_cons.2 ⟨⟨Try.f46, tr110, sp110, Try.func46, rfl, c110, rfl⟩, ?_⟩
  refine List.forall_mem_cons.2 ⟨⟨Try.f37, tr111, sp111, Try.func37, rfl, c111, rfl⟩, ?_⟩
  refine List.forall_mem_cons.2 ⟨⟨Try.f93, tr112, sp112, Try.func93, rfl, c112, rfl⟩, ?_⟩
  refine List.forall_mem_cons.2 ⟨⟨Try.f34, tr113, sp113, Try.func34, rfl, c113, rfl⟩, ?_⟩
  refine List.forall_mem_cons.2 ⟨⟨Try.f94, tr114, sp114, Try.func94, rfl, c114, rfl⟩, ?_⟩
  refine List.forall_mem_cons.2 ⟨⟨Try.f86, tr121, sp121, Try.func86, rfl, c121, rfl⟩, ?_⟩
  refine List.forall_mem_cons.2 ⟨⟨Try.f71, tr122, sp122, Try.func71, rfl, c122, rfl⟩, ?_⟩
  refine List.forall_mem_cons.2 ⟨⟨Try.f50, tr123, sp123, Try.func50, rfl, c123, rfl⟩, ?_⟩
  refine List.forall_mem_cons.2 ⟨⟨Try.f120, tr124, sp124, Try.func120, rfl, c124, rfl⟩, ?_⟩
  refine List.forall_mem_cons.2 ⟨⟨Try.f27, tr125, sp125, Try.func27, rfl, c125, rfl⟩, ?_⟩
  refine List.forall_mem_cons.2 ⟨⟨Try.f85, tr126, sp126, Try.func85, rfl, c126, rfl⟩, ?_⟩
  refine List.forall_mem_cons.2 ⟨⟨Try.f72, tr127, sp127, Try.func72, rfl, c127, rfl⟩, ?_⟩
  refine List.forall_mem_cons.2 ⟨⟨Try.f28, tr128, sp128, Try.func28, rfl, c128, rfl⟩, ?_⟩
  refine List.forall_mem_cons.2 ⟨⟨Try.f121, tr129, sp129, Try.func121, rfl, c129, rfl⟩, ?_⟩
  refine List.forall_mem_cons.2 ⟨⟨Try.f122, tr130, sp130, Try.func122, rfl, c130, rfl⟩, ?_⟩
  refine List.forall_mem_cons.2 ⟨⟨Try.f123, tr131, sp131, Try.func123, rfl, c131, rfl⟩, ?_⟩
  refine List.forall_mem_cons.2 ⟨⟨Try.f119, tr132, sp132, Try.func119, rfl, c132, rfl⟩, ?_⟩
  refine List.forall_mem_cons.2 ⟨⟨Try.f151, tr133, sp133, Try.func151, rfl, c133, rfl⟩, ?_⟩
  refine List.forall_mem_cons.2 ⟨⟨Try.f17, tr134, sp134, Try.func17, rfl, c134, rfl⟩, ?_⟩
  refine List.forall_mem_cons.2 ⟨⟨Try.f16, tr145, sp145, Try.func16, rfl, c145, rfl⟩, ?_⟩
  refine List.forall_mem_cons.2 ⟨⟨Try.f79, tr280, sp280, Try.func79, rfl, c280, rfl⟩, ?_⟩
  refine List.forall_mem_cons.2 ⟨⟨Try.f67, tr281, sp281, Try.func67, rfl, c281, rfl⟩, ?_⟩
  refine List.forall_mem_cons.2 ⟨⟨Try.f150, tr282, sp282, Try.func150, rfl, c282, rfl⟩, ?_⟩
  refine List.forall_mem_cons.2 ⟨⟨Try.f69, tr283, sp283, Try.func69, rfl, c283, rfl⟩, ?_⟩
  refine List.forall_mem_cons.2 ⟨⟨Try.f118, tr284, sp284, Try.func118, rfl, c284, rfl⟩, ?_⟩
  refine List.forall_mem_cons.2 ⟨⟨Try.f68, tr285, sp285, Try.func68, rfl, c285, rfl⟩, ?_⟩
  refine List.forall_mem_cons.2 ⟨⟨Try.f70, tr286, sp286, Try.func70, rfl, c286, rfl⟩, ?_⟩
  refine List.forall_mem_cons.2 ⟨⟨Try.f117, tr287, sp287, Try.func117, rfl, c287, rfl⟩, ?_⟩
  refine List.forall_mem_cons.2 ⟨⟨Try.f153, tr322, sp322, Try.func153, rfl, c322, rfl⟩, ?_⟩
  refine List.forall_mem_cons.2 ⟨⟨Try.f127, tr323, sp323, Try.func127, rfl, c323, rfl⟩, ?_⟩
  refine List.forall_mem_cons.2 ⟨⟨Try.f128, tr324, sp324, Try.func128, rfl, c324, rfl⟩, ?_⟩
  refine List.forall_mem_cons.2 ⟨⟨Try.f124, tr325, sp325, Try.func124, rfl, c325, rfl⟩, ?_⟩
  refine List.forall_mem_cons.2 ⟨⟨Try.f125, tr326, sp326, Try.func125, rfl, c326, rfl⟩, ?_⟩
  refine List.forall_mem_cons.2 ⟨⟨Try.f19, tr327, sp327, Try.func19, rfl, c327, rfl⟩, ?_⟩
  refine List.forall_mem_cons.2 ⟨⟨Try.f74, tr329, sp329, Try.func74, rfl, c329, rfl⟩, ?_⟩
  refine List.forall_mem_cons.2 ⟨⟨Try.f126, tr330, sp330, Try.func126, rfl, c330, rfl⟩, ?_⟩
  exact List.forall_mem_nil _
theorem tabok : TabOK C tab := tabOK_of (l := seatL) (fun _ => rfl) cbody cmixed crows (fun k id sp ps qs h h1 h2 h3 => by cases h; cases h1; exact canon_raw k h2 h3)
end Go.Proofs.Ytcjhfgjgmkfmnaa.Dx
