/- The functions of a program come to the trees of the table; printed by program. No conditions. -/
import Derived.Test.YtogcdllpjcnbkaaHouseMirrorsM3
import Derived.Test.YtogcdllpjcnbkaaProg
import Derived.KernelRfl
namespace Go.Proofs.Ytogcdllpjcnbkaa.Dx
open Go
def seatL : List (Nat × Nat) := [(95, 3), (47, 5), (98, 10), (3, 49), (11, 51), (106, 86), (148, 88), (110, 89), (124, 90), (108, 91), (135, 92), (114, 93), (113, 94), (109, 95), (67, 96), (137, 98), (138, 100), (136, 101), (134, 102), (139, 103), (64, 104), (68, 105), (107, 106), (105, 107), (74, 108), (75, 109), (66, 110), (65, 111), (111, 112), (69, 113), (91, 114), (40, 120), (90, 121), (41, 122), (112, 125), (89, 126), (70, 128), (42, 141), (63, 155), (20, 162), (10, 164), (31, 166), (73, 167), (19, 169), (25, 172), (72, 173), (15, 176), (16, 177), (14, 178), (71, 179), (18, 182), (17, 186), (13, 238), (12, 239), (46, 240), (57, 241), (52, 242), (44, 243), (45, 244), (49, 245), (59, 246), (60, 247), (102, 257), (101, 259), (127, 272), (146, 274), (55, 280), (92, 281), (53, 282), (128, 283), (147, 284), (93, 285), (51, 286), (125, 287), (126, 288), (99, 289), (144, 290), (143, 291), (100, 300), (104, 301), (129, 302), (131, 303), (130, 304), (132, 305), (96, 306), (48, 309), (58, 310), (61, 311), (43, 312), (62, 313), (50, 314), (54, 315), (97, 316), (56, 317), (103, 321), (145, 331), (94, 332), (133, 333)]
def fidM (f : FuncId) : Option Nat := (seatL.find? (·.1 == f)).map (·.2)
noncomputable def C : Ctx := { P := Try.prog, fid := fidM, spec := spc, canon := none }
theorem c3 : symFun C Try.f95 sp3 = some tr3 := by kernel_rfl
theorem c5 : symFun C Try.f47 sp5 = some tr5 := by kernel_rfl
theorem c10 : symFun C Try.f98 sp10 = some tr10 := by kernel_rfl
theorem c49 : symFun C Try.f3 sp49 = some tr49 := by kernel_rfl
theorem c51 : symFun C Try.f11 sp51 = some tr51 := by kernel_rfl
theorem c86 : symFun C Try.f106 sp86 = some tr86 := by kernel_rfl
theorem c88 : symFun C Try.f148 sp88 = some tr88 := by kernel_rfl
theorem c89 : symFun C Try.f110 sp89 = some tr89 := by kernel_rfl
theorem c90 : symFun C Try.f124 sp90 = some tr90 := by kernel_rfl
theorem c91 : symFun C Try.f108 sp91 = some tr91 := by kernel_rfl
theorem c92 : symFun C Try.f135 sp92 = some tr92 := by kernel_rfl
theorem c93 : symFun C Try.f114 sp93 = some tr93 := by kernel_rfl
theorem c94 : symFun C Try.f113 sp94 = some tr94 := by kernel_rfl
theorem c95 : symFun C Try.f109 sp95 = some tr95 := by kernel_rfl
theorem c96 : symFun C Try.f67 sp96 = some tr96 := by kernel_rfl
theorem c98 : symFun C Try.f137 sp98 = some tr98 := by kernel_rfl
theorem c100 : symFun C Try.f138 sp100 = some tr100 := by kernel_rfl
theorem c101 : symFun C Try.f136 sp101 = some tr101 := by kernel_rfl
theorem c102 : symFun C Try.f134 sp102 = some tr102 := by kernel_rfl
theorem c103 : symFun C Try.f139 sp103 = some tr103 := by kernel_rfl
theorem c104 : symFun C Try.f64 sp104 = some tr104 := by kernel_rfl
theorem c105 : symFun C Try.f68 sp105 = some tr105 := by kernel_rfl
theorem c106 : symFun C Try.f107 sp106 = some tr106 := by kernel_rfl
theorem c107 : symFun C Try.f105 sp107 = some tr107 := by kernel_rfl
theorem c108 : symFun C Try.f74 sp108 = some tr108 := by kernel_rfl
theorem c109 : symFun C Try.f75 sp109 = some tr109 := by kernel_rfl
theorem c110 : symFun C Try.f66 sp110 = some tr110 := by kernel_rfl
theorem c111 : symFun C Try.f65 sp111 = some tr111 := by kernel_rfl
theorem c112 : symFun C Try.f111 sp112 = some tr112 := by kernel_rfl
theorem c113 : symFun C Try.f69 sp113 = some tr113 := by kernel_rfl
theorem c114 : symFun C Try.f91 sp114 = some tr114 := by kernel_rfl
theorem c120 : symFun C Try.f40 sp120 = some tr120 := by kernel_rfl
theorem c121 : symFun C Try.f90 sp121 = some tr121 := by kernel_rfl
theorem c122 : symFun C Try.f41 sp122 = some tr122 := by kernel_rfl
theorem c125 : symFun C Try.f112 sp125 = some tr125 := by kernel_rfl
theorem c126 : symFun C Try.f89 sp126 = some tr126 := by kernel_rfl
theorem c128 : symFun C Try.f70 sp128 = some tr128 := by kernel_rfl
theorem c141 : symFun C Try.f42 sp141 = some tr141 := by kernel_rfl
theorem c155 : symFun C Try.f63 sp155 = some tr155 := by kernel_rfl
theorem c162 : symFun C Try.f20 sp162 = some tr162 := by kernel_rfl
theorem c164 : symFun C Try.f10 sp164 = some tr164 := by kernel_rfl
theorem c166 : symFun C Try.f31 sp166 = some tr166 := by kernel_rfl
theorem c167 : symFun C Try.f73 sp167 = some tr167 := by kernel_rfl
theorem c169 : symFun C Try.f19 sp169 = some tr169 := by kernel_rfl
theorem c172 : symFun C Try.f25 sp172 = some tr172 := by kernel_rfl
theorem c173 : symFun C Try.f72 sp173 = some tr173 := by kernel_rfl
theorem c176 : symFun C Try.f15 sp176 = some tr176 := by kernel_rfl
theorem c177 : symFun C Try.f16 sp177 = some tr177 := by kernel_rfl
theorem c178 : symFun C Try.f14 sp178 = some tr178 := by kernel_rfl
theorem c179 : symFun C Try.f71 sp179 = some tr179 := by kernel_rfl
theorem c182 : symFun C Try.f18 sp182 = some tr182 := by kernel_rfl
theorem c186 : symFun C Try.f17 sp186 = some tr186 := by kernel_rfl
theorem c238 : symFun C Try.f13 sp238 = some tr238 := by kernel_rfl
theorem c239 : symFun C Try.f12 sp239 = some tr239 := by kernel_rfl
theorem c240 : symFun C Try.f46 sp240 = some tr240 := by kernel_rfl
theorem c241 : symFun C Try.f57 sp241 = some tr241 := by kernel_rfl
theorem c242 : symFun C Try.f52 sp242 = some tr242 := by kernel_rfl
theorem c243 : symFun C Try.f44 sp243 = some tr243 := by kernel_rfl
theorem c244 : symFun C Try.f45 sp244 = some tr244 := by kernel_rfl
theorem c245 : symFun C Try.f49 sp245 = some tr245 := by kernel_rfl
theorem c246 : symFun C Try.f59 sp246 = some tr246 := by kernel_rfl
theorem c247 : symFun C Try.f60 sp247 = some tr247 := by kernel_rfl
theorem c257 : symFun C Try.f102 sp257 = some tr257 := by kernel_rfl
theorem c259 : symFun C Try.f101 sp259 = some tr259 := by kernel_rfl
theorem c272 : symFun C Try.f127 sp272 = some tr272 := by kernel_rfl
theorem c274 : symFun C Try.f146 sp274 = some tr274 := by kernel_rfl
theorem c280 : symFun C Try.f55 sp280 = some tr280 := by kernel_rfl
theorem c281 : symFun C Try.f92 sp281 = some tr281 := by kernel_rfl
theorem c282 : symFun C Try.f53 sp282 = some tr282 := by kernel_rfl
theorem c283 : symFun C Try.f128 sp283 = some tr283 := by kernel_rfl
theorem c284 : symFun C Try.f147 sp284 = some tr284 := by kernel_rfl
theorem c285 : symFun C Try.f93 sp285 = some tr285 := by kernel_rfl
theorem c286 : symFun C Try.f51 sp286 = some tr286 := by kernel_rfl
theorem c287 : symFun C Try.f125 sp287 = some tr287 := by kernel_rfl
theorem c288 : symFun C Try.f126 sp288 = some tr288 := by kernel_rfl
theorem c289 : symFun C Try.f99 sp289 = some tr289 := by kernel_rfl
theorem c290 : symFun C Try.f144 sp290 = some tr290 := by kernel_rfl
theorem c291 : symFun C Try.f143 sp291 = some tr291 := by kernel_rfl
theorem c300 : symFun C Try.f100 sp300 = some tr300 := by kernel_rfl
theorem c301 : symFun C Try.f104 sp301 = some tr301 := by kernel_rfl
theorem c302 : symFun C Try.f129 sp302 = some tr302 := by kernel_rfl
theorem c303 : symFun C Try.f131 sp303 = some tr303 := by kernel_rfl
theorem c304 : symFun C Try.f130 sp304 = some tr304 := by kernel_rfl
theorem c305 : symFun C Try.f132 sp305 = some tr305 := by kernel_rfl
theorem c306 : symFun C Try.f96 sp306 = some tr306 := by kernel_rfl
theorem c309 : symFun C Try.f48 sp309 = some tr309 := by kernel_rfl
theorem c310 : symFun C Try.f58 sp310 = some tr310 := by kernel_rfl
theorem c311 : symFun C Try.f61 sp311 = some tr311 := by kernel_rfl
theorem c312 : symFun C Try.f43 sp312 = some tr312 := by kernel_rfl
theorem c313 : symFun C Try.f62 sp313 = some tr313 := by kernel_rfl
theorem c314 : symFun C Try.f50 sp314 = some tr314 := by kernel_rfl
theorem c315 : symFun C Try.f54 sp315 = some tr315 := by kernel_rfl
theorem c316 : symFun C Try.f97 sp316 = some tr316 := by kernel_rfl
theorem c317 : symFun C Try.f56 sp317 = some tr317 := by kernel_rfl
theorem c321 : symFun C Try.f103 sp321 = some tr321 := by kernel_rfl
theorem c331 : symFun C Try.f145 sp331 = some tr331 := by kernel_rfl
theorem c332 : symFun C Try.f94 sp332 = some tr332 := by kernel_rfl
theorem c333 : symFun C Try.f133 sp333 = some tr333 := by kernel_rfl
theorem cbody : (seatL.all fun p => (C.P.funcs[p.1]?).any fun fn => fn.body.isSome && fn.name != "runtime.NumGoroutine") = true := by kernel_rfl
theorem cmixed : C.P.follows .mixedOrders = true := by kernel_rfl
theorem crows : ∀ p ∈ seatL, RowOK C tab p := by
  unfold seatL
  refine List.forall_mem_cons.2 ⟨⟨Try.f95, tr3, sp3, Try.func95, rfl, c3, rfl⟩, ?_⟩
  refine List.forall_mem_cons.2 ⟨⟨Try.f47, tr5, sp5, Try.func47, rfl, c5, rfl⟩, ?_⟩
  refine List.forall_mem_cons.2 ⟨⟨Try.f98, tr10, sp10, Try.func98, rfl, c10, rfl⟩, ?_⟩
  refine List.forall_mem_cons.2 ⟨⟨Try.f3, tr49, sp49, Try.func3, rfl, c49, rfl⟩, ?_⟩
  refine List.forall_mem_cons.2 ⟨⟨Try.f11, tr51, sp51, Try.func11, rfl, c51, rfl⟩, ?_⟩
  refine List.forall_mem_cons.2 ⟨⟨Try.f106, tr86, sp86, Try.func106, rfl, c86, rfl⟩, ?_⟩
  refine List.forall_mem_cons.2 ⟨⟨Try.f148, tr88, sp88, Try.func148, rfl, c88, rfl⟩, ?_⟩
  refine List.forall_mem_cons.2 ⟨⟨Try.f110, tr89, sp89, Try.func110, rfl, c89, rfl⟩, ?_⟩
  refine List.forall_mem_cons.2 ⟨⟨Try.f124, tr90, sp90, Try.func124, rfl, c90, rfl⟩, ?_⟩
  refine List.forall_mem_cons.2 ⟨⟨Try.f108, tr91, sp91, Try.func108, rfl, c91, rfl⟩, ?_⟩
  refine List.forall_mem_cons.2 ⟨⟨Try.f135, tr92, sp92, Try.func135, rfl, c92, rfl⟩, ?_⟩
  refine List.forall_mem_cons.2 ⟨⟨Try.f114, tr93, sp93, Try.func114, rfl, c93, rfl⟩, ?_⟩
  refine List.forall_mem_cons.2 ⟨⟨Try.f113, tr94, sp94, Try.func113, rfl, c94, rfl⟩, ?_⟩
  refine List.forall_mem_cons.2 ⟨⟨Try.f109, tr95, sp95, Try.func109, rfl, c95, rfl⟩, ?_⟩
  refine List.forall_mem_cons.2 ⟨⟨Try.f67, tr96, sp96, Try.func67, rfl, c96, rfl⟩, ?_⟩
  refine List.forall_mem_cons.2 ⟨⟨Try.f137, tr98, sp98, Try.func137, rfl, c98, rfl⟩, ?_⟩
  refine List.forall_mem_cons.2 ⟨⟨Try.f138, tr100, sp100, Try.func138, rfl, c100, rfl⟩, ?_⟩
  refine List.forall_mem_cons.2 ⟨⟨Try.f136, tr101, sp101, Try.func136, rfl, c101, rfl⟩, ?_⟩
  refine List.forall_mem_cons.2 ⟨⟨Try.f134, tr102, sp102, Try.func134, rfl, c102, rfl⟩, ?_⟩
  refine List.forall_mem_cons.2 ⟨⟨Try.f139, tr103, sp103, Try.func139, rfl, c103, rfl⟩, ?_⟩
  refine List.forall_mem_cons.2 ⟨⟨Try.f64, tr104, sp104, Try.func64, rfl, c104, rfl⟩, ?_⟩
  refine List.forall_mem_cons.2 ⟨⟨Try.f68, tr105, sp105, Try.func68, rfl, c105, rfl⟩, ?_⟩
  refine List.forall_mem_cons.2 ⟨⟨Try.f107, tr106, sp106, Try.func107, rfl, c106, rfl⟩, ?_⟩
  refine List.forall_mem_cons.2 ⟨⟨Try.f105, tr107, sp107, Try.func105, rfl, c107, rfl⟩, ?_⟩
  refine List.forall_mem_cons.2 ⟨⟨Try.f74, tr108, sp108, Try.func74, rfl, c108, rfl⟩, ?_⟩
  refine List.forall_mem_cons.2 ⟨⟨Try.f75, tr109, sp109, Try.func75, rfl, c109, rfl⟩, ?_⟩
  refine List.forall_mem_cons.2 ⟨⟨Try.f66, tr110, sp110, Try.func66, rfl, c110, rfl⟩, ?_⟩
  refine List.forall_mem_cons.2 ⟨⟨Try.f65, tr111, sp111, Try.func65, rfl, c111, rfl⟩, ?_⟩
  refine List.forall_mem_cons.2 ⟨⟨Try.f111, tr112, sp112, Try.func111, rfl, c112, rfl⟩, ?_⟩
  refine List.forall_mem_cons.2 ⟨⟨Try.f69, tr113, sp113, Try.func69, rfl, c113, rfl⟩, ?_⟩
  refine List.forall_mem_cons.2 ⟨⟨Try.f91, tr114, sp114, Try.func91, rfl, c114, rfl⟩, ?_⟩
  refine List.forall_mem_cons.2 ⟨⟨Try.f40, tr120, sp120, Try.func40, rfl, c120, rfl⟩, ?_⟩
  refine List.forall_mem_cons.2 ⟨⟨Try.f90, tr121, sp121, Try.func90, rfl, c121, rfl⟩, ?_⟩
  refine List.forall_mem_cons.2 ⟨⟨Try.f41, tr122, sp122, Try.func41, rfl, c122, rfl⟩, ?_⟩
  refine List.forall_mem_cons.2 ⟨⟨Try.f112, tr125, sp125, Try.func112, rfl, c125, rfl⟩, ?_⟩
  refine List.forall_mem_cons.2 ⟨⟨Try.f89, tr126, sp126, Try.func89, rfl, c126, rfl⟩, ?_⟩
  refine List.forall_mem_cons.2 ⟨⟨Try.f70, tr128, sp128, Try.func70, rfl, c128, rfl⟩, ?_⟩
  refine List.forall_mem_cons.2 ⟨⟨Try.f42, tr141, sp141, Try.func42, rfl, c141, rfl⟩, ?_⟩
  refine List.forall_mem_cons.2 ⟨⟨Try.f63, tr155, sp155, Try.func63, rfl, c155, rfl⟩, ?_⟩
  refine List.forall_mem_cons.2 ⟨⟨Try.f20, tr162, sp162, Try.func20, rfl, c162, rfl⟩, ?_⟩
  refine List.forall_mem_cons.2 ⟨⟨Try.f10, tr164, sp164, Try.func10, rfl, c164, rfl⟩, ?_⟩
  refine List.forall_mem_cons.2 ⟨⟨Try.f31, tr166, sp166, Try.func31, rfl, c166, rfl⟩, ?_⟩
  refine List.forall_mem_cons.2 ⟨⟨Try.f73, tr167, sp167, Try.func73, rfl, c167, rfl⟩, ?_⟩
  refine List.forall_mem_cons.2 ⟨⟨Try.f19, tr169, sp169, Try.func19, rfl, c169, rfl⟩, ?_⟩
  refine List.forall_mem_cons.2 ⟨⟨Try.f25, tr172, sp172, Try.func25, rfl, c172, rfl⟩, ?_⟩
  refine List.forall_mem_cons.2 ⟨⟨Try.f72, tr173, sp173, Try.func72, rfl, c173, rfl⟩, ?_⟩
  refine List.forall_mem_cons.2 ⟨⟨Try.f15, tr176, sp176, Try.func15, rfl, c176, rfl⟩, ?_⟩
  refine List.forall_mem_cons.2 ⟨⟨Try.f16, tr177, sp177, Try.func16, rfl, c177, rfl⟩, ?_⟩
  refine List.forall_mem_cons.2 ⟨⟨Try.f14, tr178, sp178, Try.func14, rfl, c178, rfl⟩, ?_⟩
  refine List.forall_mem_cons.2 ⟨⟨Try.f71, tr179, sp179, Try.func71, rfl, c179, rfl⟩, ?_⟩
  refine List.forall_mem_cons.2 ⟨⟨Try.f18, tr182, sp182, Try.func18, rfl, c182, rfl⟩, ?_⟩
  refine List.forall_mem_cons.2 ⟨⟨Try.f17, tr186, sp186, Try.func17, rfl, c186, rfl⟩, ?_⟩
  refine List.forall_mem_cons.2 ⟨⟨Try.f13, tr238, sp238, Try.func13, rfl, c238, rfl⟩, ?_⟩
  refine List.forall_mem_cons.2 ⟨⟨Try.f12, tr239, sp239, Try.func12, rfl, c239, rfl⟩, ?_⟩
  refine List.forall_mem_cons.2 ⟨⟨Try.f46, tr240, sp240, Try.func46, rfl, c240, rfl⟩, ?_⟩
  refine List.forall_mem_cons.2 ⟨⟨Try.f57, tr241, sp241, Try.func57, rfl, c241, rfl⟩, ?_⟩
  refine List.forall_mem_cons.2 ⟨⟨Try.f52, tr242, sp242, Try.func52, rfl, c242, rfl⟩, ?_⟩
  refine List.forall_mem_cons.2 ⟨⟨Try.f44, tr243, sp243, Try.func44, rfl, c243, rfl⟩, ?_⟩
  refine List.forall_mem_cons.2 ⟨⟨Try.f45, tr244, sp244, Try.func45, rfl, c244, rfl⟩, ?_⟩
  refine List.forall_mem_cons.2 ⟨⟨Try.f49, tr245, sp245, Try.func49, rfl, c245, rfl⟩, ?_⟩
  refine List.forall_mem_cons.2 ⟨⟨Try.f59, tr246, sp246, Try.func59, rfl, c246, rfl⟩, ?_⟩
  refine List.forall_mem_cons.2 ⟨⟨Try.f60, tr247, sp247, Try.func60, rfl, c247, rfl⟩, ?_⟩
  refine List.forall_mem_cons.2 ⟨⟨Try.f102, tr257, sp257, Try.func102, rfl, c257, rfl⟩, ?_⟩
  refine List.forall_mem_cons.2 ⟨⟨Try.f101, tr259, sp259, Try.func101, rfl, c259, rfl⟩, ?_⟩
  refine List.forall_mem_cons.2 ⟨⟨Try.f127, tr272, sp272, Try.func127, rfl, c272, rfl⟩, ?_⟩
  refine List.forall_mem_cons.2 ⟨⟨Try.f146, tr274, sp274, Try.func146, rfl, c274, rfl⟩, ?_⟩
  refine List.forall_mem_cons.2 ⟨⟨Try.f55, tr280, sp280, Try.func55, rfl, c280, rfl⟩, ?_⟩
  refine List.forall_mem_cons.2 ⟨⟨Try.f92, tr281, sp281, Try.func92, rfl, c281, rfl⟩, ?_⟩
  refine List.forall_mem_cons.2 ⟨⟨Try.f53, tr282, sp282, Try.func53, rfl, c282, rfl⟩, ?_⟩
  refine List.forall_mem_cons.2 ⟨⟨Try.f128, tr283, sp283, Try.func128, rfl, c283, rfl⟩, ?_⟩
  refine List.forall_mem_cons.2 ⟨⟨Try.f147, tr284, sp284, Try.func147, rfl, c284, rfl⟩, ?_⟩
  refine List.forall_mem_cons.2 ⟨⟨Try.f93, tr285, sp285, Try.func93, rfl, c285, rfl⟩, ?_⟩
  refine List.forall_mem_cons.2 ⟨⟨Try.f51, tr286, sp286, Try.func51, rfl, c286, rfl⟩, ?_⟩
  refine List.forall_mem_cons.2 ⟨⟨Try.f125, tr287, sp287, Try.func125, rfl, c287, rfl⟩, ?_⟩
  refine List.forall_mem_cons.2 ⟨⟨Try.f126, tr288, sp288, Try.func126, rfl, c288, rfl⟩, ?_⟩
  refine List.forall_mem_cons.2 ⟨⟨Try.f99, tr289, sp289, Try.func99, rfl, c289, rfl⟩, ?_⟩
  refine List.forall_mem_cons.2 ⟨⟨Try.f144, tr290, sp290, Try.func144, rfl, c290, rfl⟩, ?_⟩
  refine List.forall_mem_cons.2 ⟨⟨Try.f143, tr291, sp291, Try.func143, rfl, c291, rfl⟩, ?_⟩
  refine List.forall_mem_cons.2 ⟨⟨Try.f100, tr300, sp300, Try.func100, rfl, c300, rfl⟩, ?_⟩
  refine List.forall_mem_cons.2 ⟨⟨Try.f104, tr301, sp301, Try.func104, rfl, c301, rfl⟩, ?_⟩
  refine List.forall_mem_cons.2 ⟨⟨Try.f129, tr302, sp302, Try.func129, rfl, c302, rfl⟩, ?_⟩
  refine List.forall_mem_cons.2 ⟨⟨Try.f131, tr303, sp303, Try.func131, rfl, c303, rfl⟩, ?_⟩
  refine List.forall_mem_cons.2 ⟨⟨Try.f130, tr304, sp304, Try.func130, rfl, c304, rfl⟩, ?_⟩
  refine List.forall_mem_cons.2 ⟨⟨Try.f132, tr305, sp305, Try.func132, rfl, c305, rfl⟩, ?_⟩
  refine List.forall_mem_cons.2 ⟨⟨Try.f96, tr306, sp306, Try.func96, rfl, c306, rfl⟩, ?_⟩
  refine List.forall_mem_cons.2 ⟨⟨Try.f48, tr309, sp309, Try.func48, rfl, c309, rfl⟩, ?_⟩
  refine List.forall_mem_cons.2 ⟨⟨Try.f58, tr310, sp310, Try.func58, rfl, c310, rfl⟩, ?_⟩
  refine List.forall_mem_cons.2 ⟨⟨Try.f61, tr311, sp311, Try.func61, rfl, c311, rfl⟩, ?_⟩
  refine List.forall_mem_cons.2 ⟨⟨Try.f43, tr312, sp312, Try.func43, rfl, c312, rfl⟩, ?_⟩
  refine List.forall_mem_cons.2 ⟨⟨Try.f62, tr313, sp313, Try.func62, rfl, c313, rfl⟩, ?_⟩
  refine List.forall_mem_cons.2 ⟨⟨Try.f50, tr314, sp314, Try.func50, rfl, c314, rfl⟩, ?_⟩
  refine List.forall_mem_cons.2 ⟨⟨Try.f54, tr315, sp315, Try.func54, rfl, c315, rfl⟩, ?_⟩
  refine List.forall_mem_cons.2 ⟨⟨Try.f97, tr316, sp316, Try.func97, rfl, c316, rfl⟩, ?_⟩
  refine List.forall_mem_cons.2 ⟨⟨Try.f56, tr317, sp317, Try.func56, rfl, c317, rfl⟩, ?_⟩
  refine List.forall_mem_cons.2 ⟨⟨Try.f103, tr321, sp321, Try.func103, rfl, c321, rfl⟩, ?_⟩
  refine List.forall_mem_cons.2 ⟨⟨Try.f145, tr331, sp331, Try.func145, rfl, c331, rfl⟩, ?_⟩
  refine List.forall_mem_cons.2 ⟨⟨Try.f94, tr332, sp332, Try.func94, rfl, c332, rfl⟩, ?_⟩
  refine List.forall_mem_cons.2 ⟨⟨Try.f133, tr333, sp333, Try.func133, rfl, c333, rfl⟩, ?_⟩
  exact List.forall_mem_nil _
theorem tabok : TabOK C tab := tabOK_of (l := seatL) (fun _ => rfl) cbody cmixed crows (fun k id sp ps qs h _ _ _ => by cases h)
end Go.Proofs.Ytogcdllpjcnbkaa.Dx
