/- The functions of a program come to the trees of the table; printed by program. No conditions. -/
import Derived.Test.YtcjhfgjgmkfmnaaGivensKeepsM2
import Derived.Test.YtcjhfgjgmkfmnaaProg
import Derived.KernelRfl
namespace Go.Proofs.Ytcjhfgjgmkfmnaa.Dx
open Go
def seatL : List (Nat × Nat) := [(92, 3), (80, 5), (15, 10), (10, 38), (44, 44), (137, 86), (167, 88), (103, 89), (139, 90), (101, 91), (163, 92), (89, 93), (87, 94), (102, 95), (47, 96), (152, 98), (141, 100), (164, 101), (134, 102), (135, 103), (90, 104), (36, 105), (138, 106), (136, 107), (30, 108), (88, 109), (46, 110), (37, 111), (93, 112), (34, 113), (94, 114), (26, 120), (86, 121), (71, 122), (27, 125), (85, 126), (28, 128), (78, 141), (64, 155), (29, 157), (31, 162), (23, 164), (58, 172), (53, 178), (54, 183), (51, 184), (52, 231), (45, 232), (104, 246), (142, 259), (133, 272), (162, 274), (79, 280), (67, 281), (150, 282), (69, 283), (118, 284), (68, 285), (70, 286), (117, 287), (131, 288), (143, 289), (155, 290), (154, 291), (140, 300), (132, 301), (156, 302), (158, 303), (157, 304), (160, 305), (82, 306), (33, 309), (100, 310), (83, 313), (81, 315), (84, 316), (105, 317), (161, 331), (130, 332), (159, 333)]
def fidM (f : FuncId) : Option Nat := (seatL.find? (·.1 == f)).map (·.2)
noncomputable def C : Ctx := { P := Try.prog, fid := fidM, spec := spc, canon := none }
theorem c3 : symFun C Try.f92 sp3 = some tr3 := by kernel_rfl
theorem c5 : symFun C Try.f80 sp5 = some tr5 := by kernel_rfl
theorem c10 : symFun C Try.f15 sp10 = some tr10 := by kernel_rfl
theorem c38 : symFun C Try.f10 sp38 = some tr38 := by kernel_rfl
theorem c44 : symFun C Try.f44 sp44 = some tr44 := by kernel_rfl
theorem c86 : symFun C Try.f137 sp86 = some tr86 := by kernel_rfl
theorem c88 : symFun C Try.f167 sp88 = some tr88 := by kernel_rfl
theorem c89 : symFun C Try.f103 sp89 = some tr89 := by kernel_rfl
theorem c90 : symFun C Try.f139 sp90 = some tr90 := by kernel_rfl
theorem c91 : symFun C Try.f101 sp91 = some tr91 := by kernel_rfl
theorem c92 : symFun C Try.f163 sp92 = some tr92 := by kernel_rfl
theorem c93 : symFun C Try.f89 sp93 = some tr93 := by kernel_rfl
theorem c94 : symFun C Try.f87 sp94 = some tr94 := by kernel_rfl
theorem c95 : symFun C Try.f102 sp95 = some tr95 := by kernel_rfl
theorem c96 : symFun C Try.f47 sp96 = some tr96 := by kernel_rfl
theorem c98 : symFun C Try.f152 sp98 = some tr98 := by kernel_rfl
theorem c100 : symFun C Try.f141 sp100 = some tr100 := by kernel_rfl
theorem c101 : symFun C Try.f164 sp101 = some tr101 := by kernel_rfl
theorem c102 : symFun C Try.f134 sp102 = some tr102 := by kernel_rfl
theorem c103 : symFun C Try.f135 sp103 = some tr103 := by kernel_rfl
theorem c104 : symFun C Try.f90 sp104 = some tr104 := by kernel_rfl
theorem c105 : symFun C Try.f36 sp105 = some tr105 := by kernel_rfl
theorem c106 : symFun C Try.f138 sp106 = some tr106 := by kernel_rfl
theorem c107 : symFun C Try.f136 sp107 = some tr107 := by kernel_rfl
theorem c108 : symFun C Try.f30 sp108 = some tr108 := by kernel_rfl
theorem c109 : symFun C Try.f88 sp109 = some tr109 := by kernel_rfl
theorem c110 : symFun C Try.f46 sp110 = some tr110 := by kernel_rfl
theorem c111 : symFun C Try.f37 sp111 = some tr111 := by kernel_rfl
theorem c112 : symFun C Try.f93 sp112 = some tr112 := by kernel_rfl
theorem c113 : symFun C Try.f34 sp113 = some tr113 := by kernel_rfl
theorem c114 : symFun C Try.f94 sp114 = some tr114 := by kernel_rfl
theorem c120 : symFun C Try.f26 sp120 = some tr120 := by kernel_rfl
theorem c121 : symFun C Try.f86 sp121 = some tr121 := by kernel_rfl
theorem c122 : symFun C Try.f71 sp122 = some tr122 := by kernel_rfl
theorem c125 : symFun C Try.f27 sp125 = some tr125 := by kernel_rfl
theorem c126 : symFun C Try.f85 sp126 = some tr126 := by kernel_rfl
theorem c128 : symFun C Try.f28 sp128 = some tr128 := by kernel_rfl
theorem c141 : symFun C Try.f78 sp141 = some tr141 := by kernel_rfl
theorem c155 : symFun C Try.f64 sp155 = some tr155 := by kernel_rfl
theorem c157 : symFun C Try.f29 sp157 = some tr157 := by kernel_rfl
theorem c162 : symFun C Try.f31 sp162 = some tr162 := by kernel_rfl
theorem c164 : symFun C Try.f23 sp164 = some tr164 := by kernel_rfl
theorem c172 : symFun C Try.f58 sp172 = some tr172 := by kernel_rfl
theorem c178 : symFun C Try.f53 sp178 = some tr178 := by kernel_rfl
theorem c183 : symFun C Try.f54 sp183 = some tr183 := by kernel_rfl
theorem c184 : symFun C Try.f51 sp184 = some tr184 := by kernel_rfl
theorem c231 : symFun C Try.f52 sp231 = some tr231 := by kernel_rfl
theorem c232 : symFun C Try.f45 sp232 = some tr232 := by kernel_rfl
theorem c246 : symFun C Try.f104 sp246 = some tr246 := by kernel_rfl
theorem c259 : symFun C Try.f142 sp259 = some tr259 := by kernel_rfl
theorem c272 : symFun C Try.f133 sp272 = some tr272 := by kernel_rfl
theorem c274 : symFun C Try.f162 sp274 = some tr274 := by kernel_rfl
theorem c280 : symFun C Try.f79 sp280 = some tr280 := by kernel_rfl
theorem c281 : symFun C Try.f67 sp281 = some tr281 := by kernel_rfl
theorem c282 : symFun C Try.f150 sp282 = some tr282 := by kernel_rfl
theorem c283 : symFun C Try.f69 sp283 = some tr283 := by kernel_rfl
theorem c284 : symFun C Try.f118 sp284 = some tr284 := by kernel_rfl
theorem c285 : symFun C Try.f68 sp285 = some tr285 := by kernel_rfl
theorem c286 : symFun C Try.f70 sp286 = some tr286 := by kernel_rfl
theorem c287 : symFun C Try.f117 sp287 = some tr287 := by kernel_rfl
theorem c288 : symFun C Try.f131 sp288 = some tr288 := by kernel_rfl
theorem c289 : symFun C Try.f143 sp289 = some tr289 := by kernel_rfl
theorem c290 : symFun C Try.f155 sp290 = some tr290 := by kernel_rfl
theorem c291 : symFun C Try.f154 sp291 = some tr291 := by kernel_rfl
theorem c300 : symFun C Try.f140 sp300 = some tr300 := by kernel_rfl
theorem c301 : symFun C Try.f132 sp301 = some tr301 := by kernel_rfl
theorem c302 : symFun C Try.f156 sp302 = some tr302 := by kernel_rfl
theorem c303 : symFun C Try.f158 sp303 = some tr303 := by kernel_rfl
theorem c304 : symFun C Try.f157 sp304 = some tr304 := by kernel_rfl
theorem c305 : symFun C Try.f160 sp305 = some tr305 := by kernel_rfl
theorem c306 : symFun C Try.f82 sp306 = some tr306 := by kernel_rfl
theorem c309 : symFun C Try.f33 sp309 = some tr309 := by kernel_rfl
theorem c310 : symFun C Try.f100 sp310 = some tr310 := by kernel_rfl
theorem c313 : symFun C Try.f83 sp313 = some tr313 := by kernel_rfl
theorem c315 : symFun C Try.f81 sp315 = some tr315 := by kernel_rfl
theorem c316 : symFun C Try.f84 sp316 = some tr316 := by kernel_rfl
theorem c317 : symFun C Try.f105 sp317 = some tr317 := by kernel_rfl
theorem c331 : symFun C Try.f161 sp331 = some tr331 := by kernel_rfl
theorem c332 : symFun C Try.f130 sp332 = some tr332 := by kernel_rfl
theorem c333 : symFun C Try.f159 sp333 = some tr333 := by kernel_rfl
theorem cbody : (seatL.all fun p => (C.P.funcs[p.1]?).any fun fn => fn.body.isSome && fn.name != "runtime.NumGoroutine") = true := by kernel_rfl
theorem cmixed : C.P.follows .mixedOrders = true := by kernel_rfl
theorem crows : ∀ p ∈ seatL, RowOK C tab p := by
  unfold seatL
  refine List.forall_mem_cons.2 ⟨⟨Try.f92, tr3, sp3, Try.func92, rfl, c3, rfl⟩, ?_⟩
  refine List.forall_mem_cons.2 ⟨⟨Try.f80, tr5, sp5, Try.func80, rfl, c5, rfl⟩, ?_⟩
  refine List.forall_mem_cons.2 ⟨⟨Try.f15, tr10, sp10, Try.func15, rfl, c10, rfl⟩, ?_⟩
  refine List.forall_mem_cons.2 ⟨⟨Try.f10, tr38, sp38, Try.func10, rfl, c38, rfl⟩, ?_⟩
  refine List.forall_mem_cons.2 ⟨⟨Try.f44, tr44, sp44, Try.func44, rfl, c44, rfl⟩, ?_⟩
  refine List.forall_mem_cons.2 ⟨⟨Try.f137, tr86, sp86, Try.func137, rfl, c86, rfl⟩, ?_⟩
  refine List.forall_mem_cons.2 ⟨⟨Try.f167, tr88, sp88, Try.func167, rfl, c88, rfl⟩, ?_⟩
  refine List.forall_mem_cons.2 ⟨⟨Try.f103, tr89, sp89, Try.func103, rfl, c89, rfl⟩, ?_⟩
  refine List.forall_mem_cons.2 ⟨⟨Try.f139, tr90, sp90, Try.func139, rfl, c90, rfl⟩, ?_⟩
  refine List.forall_mem_cons.2 ⟨⟨Try.f101, tr91, sp91, Try.func101, rfl, c91, rfl⟩, ?_⟩
  refine List.forall_mem_cons.2 ⟨⟨Try.f163, tr92, sp92, Try.func163, rfl, c92, rfl⟩, ?_⟩
  refine List.forall_mem_cons.2 ⟨⟨Try.f89, tr93, sp93, Try.func89, rfl, c93, rfl⟩, ?_⟩
  refine List.forall_mem_cons.2 ⟨⟨Try.f87, tr94, sp94, Try.func87, rfl, c94, rfl⟩, ?_⟩
  refine List.forall_mem_cons.2 ⟨⟨Try.f102, tr95, sp95, Try.func102, rfl, c95, rfl⟩, ?_⟩
  refine List.forall_mem_cons.2 ⟨⟨Try.f47, tr96, sp96, Try.func47, rfl, c96, rfl⟩, ?_⟩
  refine List.forall_mem_cons.2 ⟨⟨Try.f152, tr98, sp98, Try.func152, rfl, c98, rfl⟩, ?_⟩
  refine List.forall_mem_cons.2 ⟨⟨Try.f141, tr100, sp100, Try.func141, rfl, c100, rfl⟩, ?_⟩
  refine List.forall_mem_cons.2 ⟨⟨Try.f164, tr101, sp101, Try.func164, rfl, c101, rfl⟩, ?_⟩
  refine List.forall_mem_cons.2 ⟨⟨Try.f134, tr102, sp102, Try.func134, rfl, c102, rfl⟩, ?_⟩
  refine List.forall_mem_cons.2 ⟨⟨Try.f135, tr103, sp103, Try.func135, rfl, c103, rfl⟩, ?_⟩
  refine List.forall_mem_cons.2 ⟨⟨Try.f90, tr104, sp104, Try.func90, rfl, c104, rfl⟩, ?_⟩
  refine List.forall_mem_cons.2 ⟨⟨Try.f36, tr105, sp105, Try.func36, rfl, c105, rfl⟩, ?_⟩
  refine List.forall_mem_cons.2 ⟨⟨Try.f138, tr106, sp106, Try.func138, rfl, c106, rfl⟩, ?_⟩
  refine List.forall_mem_cons.2 ⟨⟨Try.f136, tr107, sp107, Try.func136, rfl, c107, rfl⟩, ?_⟩
  refine List.forall_mem_cons.2 ⟨⟨Try.f30, tr108, sp108, Try.func30, rfl, c108, rfl⟩, ?_⟩
  refine List.forall_mem_cons.2 ⟨⟨Try.f88, tr109, sp109, Try.func88, rfl, c109, rfl⟩, ?_⟩
  refine List.forall_mem_cons.2 ⟨⟨Try.f46, tr110, sp110, Try.func46, rfl, c110, rfl⟩, ?_⟩
  refine List.forall_mem_cons.2 ⟨⟨Try.f37, tr111, sp111, Try.func37, rfl, c111, rfl⟩, ?_⟩
  refine List.forall_mem_cons.2 ⟨⟨Try.f93, tr112, sp112, Try.func93, rfl, c112, rfl⟩, ?_⟩
  refine List.forall_mem_cons.2 ⟨⟨Try.f34, tr113, sp113, Try.func34, rfl, c113, rfl⟩, ?_⟩
  refine List.forall_mem_cons.2 ⟨⟨Try.f94, tr114, sp114, Try.func94, rfl, c114, rfl⟩, ?_⟩
  refine List.forall_mem_cons.2 ⟨⟨Try.f26, tr120, sp120, Try.func26, rfl, c120, rfl⟩, ?_⟩
  refine List.forall_mem_cons.2 ⟨⟨Try.f86, tr121, sp121, Try.func86, rfl, c121, rfl⟩, ?_⟩
  refine List.forall_mem_cons.2 ⟨⟨Try.f71, tr122, sp122, Try.func71, rfl, c122, rfl⟩, ?_⟩
  refine List.forall_mem_cons.2 ⟨⟨Try.f27, tr125, sp125, Try.func27, rfl, c125, rfl⟩, ?_⟩
  refine List.forall_mem_cons.2 ⟨⟨Try.f85, tr126, sp126, Try.func85, rfl, c126, rfl⟩, ?_⟩
  refine List.forall_mem_cons.2 ⟨⟨Try.f28, tr128, sp128, Try.func28, rfl, c128, rfl⟩, ?_⟩
  refine List.forall_mem_cons.2 ⟨⟨Try.f78, tr141, sp141, Try.func78, rfl, c141, rfl⟩, ?_⟩
  refine List.forall_mem_cons.2 ⟨⟨Try.f64, tr155, sp155, Try.func64, rfl, c155, rfl⟩, ?_⟩
  refine List.forall_mem_cons.2 ⟨⟨Try.f29, tr157, sp157, Try.func29, rfl, c157, rfl⟩, ?_⟩
  refine List.forall_mem_cons.2 ⟨⟨Try.f31, tr162, sp162, Try.func31, rfl, c162, rfl⟩, ?_⟩
  refine List.forall_mem_cons.2 ⟨⟨Try.f23, tr164, sp164, Try.func23, rfl, c164, rfl⟩, ?_⟩
  refine List.forall_mem_cons.2 ⟨⟨Try.f58, tr172, sp172, Try.func58, rfl, c172, rfl⟩, ?_⟩
  refine List.forall_mem_cons.2 ⟨⟨Try.f53, tr178, sp178, Try.func53, rfl, c178, rfl⟩, ?_⟩
  refine List.forall_mem_cons.2 ⟨⟨Try.f54, tr183, sp183, Try.func54, rfl, c183, rfl⟩, ?_⟩
  refine List.forall_mem_cons.2 ⟨⟨Try.f51, tr184, sp184, Try.func51, rfl, c184, rfl⟩, ?_⟩
  refine List.forall_mem_cons.2 ⟨⟨Try.f52, tr231, sp231, Try.func52, rfl, c231, rfl⟩, ?_⟩
  refine List.forall_mem_cons.2 ⟨⟨Try.f45, tr232, sp232, Try.func45, rfl, c232, rfl⟩, ?_⟩
  refine List.forall_mem_cons.2 ⟨⟨Try.f104, tr246, sp246, Try.func104, rfl, c246, rfl⟩, ?_⟩
  refine List.forall_mem_cons.2 ⟨⟨Try.f142, tr259, sp259, Try.func142, rfl, c259, rfl⟩, ?_⟩
  refine List.forall_mem_cons.2 ⟨⟨Try.f133, tr272, sp272, Try.func133, rfl, c272, rfl⟩, ?_⟩
  refine List.forall_mem_cons.2 ⟨⟨Try.f162, tr274, sp274, Try.func162, rfl, c274, rfl⟩, ?_⟩
  refine List.forall_mem_cons.2 ⟨⟨Try.f79, tr280, sp280, Try.func79, rfl, c280, rfl⟩, ?_⟩
  refine List.forall_mem_cons.2 ⟨⟨Try.f67, tr281, sp281, Try.func67, rfl, c281, rfl⟩, ?_⟩
  refine List.forall_mem_cons.2 ⟨⟨Try.f150, tr282, sp282, Try.func150, rfl, c282, rfl⟩, ?_⟩
  refine List.forall_mem_cons.2 ⟨⟨Try.f69, tr283, sp283, Try.func69, rfl, c283, rfl⟩, ?_⟩
  refine List.forall_mem_cons.2 ⟨⟨Try.f118, tr284, sp284, Try.func118, rfl, c284, rfl⟩, ?_⟩
  refine List.forall_mem_cons.2 ⟨⟨Try.f68, tr285, sp285, Try.func68, rfl, c285, rfl⟩, ?_⟩
  refine List.forall_mem_cons.2 ⟨⟨Try.f70, tr286, sp286, Try.func70, rfl, c286, rfl⟩, ?_⟩
  refine List.forall_mem_cons.2 ⟨⟨Try.f117, tr287, sp287, Try.func117, rfl, c287, rfl⟩, ?_⟩
  refine List.forall_mem_cons.2 ⟨⟨Try.f131, tr288, sp288, Try.func131, rfl, c288, rfl⟩, ?_⟩
  refine List.forall_mem_cons.2 ⟨⟨Try.f143, tr289, sp289, Try.func143, rfl, c289, rfl⟩, ?_⟩
  refine List.forall_mem_cons.2 ⟨⟨Try.f155, tr290, sp290, Try.func155, rfl, c290, rfl⟩, ?_⟩
  refine List.forall_mem_cons.2 ⟨⟨Try.f154, tr291, sp291, Try.func154, rfl, c291, rfl⟩, ?_⟩
  refine List.forall_mem_cons.2 ⟨⟨Try.f140, tr300, sp300, Try.func140, rfl, c300, rfl⟩, ?_⟩
  refine List.forall_mem_cons.2 ⟨⟨Try.f132, tr301, sp301, Try.func132, rfl, c301, rfl⟩, ?_⟩
  refine List.forall_mem_cons.2 ⟨⟨Try.f156, tr302, sp302, Try.func156, rfl, c302, rfl⟩, ?_⟩
  refine List.forall_mem_cons.2 ⟨⟨Try.f158, tr303, sp303, Try.func158, rfl, c303, rfl⟩, ?_⟩
  refine List.forall_mem_cons.2 ⟨⟨Try.f157, tr304, sp304, Try.func157, rfl, c304, rfl⟩, ?_⟩
  refine List.forall_mem_cons.2 ⟨⟨Try.f160, tr305, sp305, Try.func160, rfl, c305, rfl⟩, ?_⟩
  refine List.forall_mem_cons.2 ⟨⟨Try.f82, tr306, sp306, Try.func82, rfl, c306, rfl⟩, ?_⟩
  refine List.forall_mem_cons.2 ⟨⟨Try.f33, tr309, sp309, Try.func33, rfl, c309, rfl⟩, ?_⟩
  refine List.forall_mem_cons.2 ⟨⟨Try.f100, tr310, sp310, Try.func100, rfl, c310, rfl⟩, ?_⟩
  refine List.forall_mem_cons.2 ⟨⟨Try.f83, tr313, sp313, Try.func83, rfl, c313, rfl⟩, ?_⟩
  refine List.forall_mem_cons.2 ⟨⟨Try.f81, tr315, sp315, Try.func81, rfl, c315, rfl⟩, ?_⟩
  refine List.forall_mem_cons.2 ⟨⟨Try.f84, tr316, sp316, Try.func84, rfl, c316, rfl⟩, ?_⟩
  refine List.forall_mem_cons.2 ⟨⟨Try.f105, tr317, sp317, Try.func105, rfl, c317, rfl⟩, ?_⟩
  refine List.forall_mem_cons.2 ⟨⟨Try.f161, tr331, sp331, Try.func161, rfl, c331, rfl⟩, ?_⟩
  refine List.forall_mem_cons.2 ⟨⟨Try.f130, tr332, sp332, Try.func130, rfl, c332, rfl⟩, ?_⟩
  refine List.forall_mem_cons.2 ⟨⟨Try.f159, tr333, sp333, Try.func159, rfl, c333, rfl⟩, ?_⟩
  exact List.forall_mem_nil _
theorem tabok : TabOK C tab := tabOK_of (l := seatL) (fun _ => rfl) cbody cmixed crows (fun k id sp ps qs h _ _ _ => by cases h)
end Go.Proofs.Ytcjhfgjgmkfmnaa.Dx
