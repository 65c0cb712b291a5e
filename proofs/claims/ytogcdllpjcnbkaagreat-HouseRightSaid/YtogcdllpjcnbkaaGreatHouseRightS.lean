/- The functions of a program come to the trees of the table; printed by program. No conditions. -/
import Derived.Test.YtogcdllpjcnbkaaGreatHouseRightM2
import Derived.Test.YtogcdllpjcnbkaaGreatProg
import Derived.KernelRfl
namespace Go.Proofs.YtogcdllpjcnbkaaGreat.Dx
open Go
def seatL : List (Nat × Nat) := [(100, 3), (45, 5), (104, 10), (4, 50), (12, 51), (21, 52), (73, 86), (154, 88), (114, 89), (121, 90), (112, 91), (117, 92), (115, 93), (68, 94), (113, 95), (66, 96), (119, 98), (152, 100), (118, 101), (116, 102), (153, 103), (23, 104), (25, 105), (74, 106), (72, 107), (71, 108), (70, 109), (69, 110), (22, 111), (78, 112), (20, 113), (79, 114), (14, 120), (67, 121), (64, 122), (16, 123), (15, 125), (65, 126), (17, 128), (147, 134), (108, 140), (58, 141), (107, 143), (146, 144), (163, 147), (75, 148), (109, 150), (59, 151), (111, 154), (76, 156), (18, 157), (24, 158), (60, 160), (77, 161), (19, 162), (13, 164), (8, 239), (44, 240), (55, 241), (50, 242), (42, 243), (43, 244), (47, 245), (140, 272), (161, 274), (53, 280), (97, 281), (51, 282), (141, 283), (162, 284), (98, 285), (49, 286), (137, 287), (138, 288), (105, 289), (158, 290), (157, 291), (106, 300), (139, 301), (142, 302), (144, 303), (143, 304), (145, 305), (101, 306), (46, 309), (56, 310), (41, 312), (102, 313), (48, 314), (52, 315), (103, 316), (54, 317), (170, 322), (167, 323), (168, 324), (164, 325), (165, 326), (110, 327), (120, 328), (150, 329), (166, 330), (160, 331), (99, 332), (159, 333)]
def fidM (f : FuncId) : Option Nat := (seatL.find? (·.1 == f)).map (·.2)
noncomputable def C : Ctx := { P := Tryz.prog, fid := fidM, spec := spc, canon := some 134 }
theorem c3 : symFun C Tryz.f100 sp3 = some tr3 := by kernel_rfl
theorem c5 : symFun C Tryz.f45 sp5 = some tr5 := by kernel_rfl
theorem c10 : symFun C Tryz.f104 sp10 = some tr10 := by kernel_rfl
theorem c50 : symFun C Tryz.f4 sp50 = some tr50 := by kernel_rfl
theorem c51 : symFun C Tryz.f12 sp51 = some tr51 := by kernel_rfl
theorem c52 : symFun C Tryz.f21 sp52 = some tr52 := by kernel_rfl
theorem c86 : symFun C Tryz.f73 sp86 = some tr86 := by kernel_rfl
theorem c88 : symFun C Tryz.f154 sp88 = some tr88 := by kernel_rfl
theorem c89 : symFun C Tryz.f114 sp89 = some tr89 := by kernel_rfl
theorem c90 : symFun C Tryz.f121 sp90 = some tr90 := by kernel_rfl
theorem c91 : symFun C Tryz.f112 sp91 = some tr91 := by kernel_rfl
theorem c92 : symFun C Tryz.f117 sp92 = some tr92 := by kernel_rfl
theorem c93 : symFun C Tryz.f115 sp93 = some tr93 := by kernel_rfl
theorem c94 : symFun C Tryz.f68 sp94 = some tr94 := by kernel_rfl
theorem c95 : symFun C Tryz.f113 sp95 = some tr95 := by kernel_rfl
theorem c96 : symFun C Tryz.f66 sp96 = some tr96 := by kernel_rfl
theorem c98 : symFun C Tryz.f119 sp98 = some tr98 := by kernel_rfl
theorem c100 : symFun C Tryz.f152 sp100 = some tr100 := by kernel_rfl
theorem c101 : symFun C Tryz.f118 sp101 = some tr101 := by kernel_rfl
theorem c102 : symFun C Tryz.f116 sp102 = some tr102 := by kernel_rfl
theorem c103 : symFun C Tryz.f153 sp103 = some tr103 := by kernel_rfl
theorem c104 : symFun C Tryz.f23 sp104 = some tr104 := by kernel_rfl
theorem c105 : symFun C Tryz.f25 sp105 = some tr105 := by kernel_rfl
theorem c106 : symFun C Tryz.f74 sp106 = some tr106 := by kernel_rfl
theorem c107 : symFun C Tryz.f72 sp107 = some tr107 := by kernel_rfl
theorem c108 : symFun C Tryz.f71 sp108 = some tr108 := by kernel_rfl
theorem c109 : symFun C Tryz.f70 sp109 = some tr109 := by kernel_rfl
theorem c110 : symFun C Tryz.f69 sp110 = some tr110 := by kernel_rfl
theorem c111 : symFun C Tryz.f22 sp111 = some tr111 := by kernel_rfl
theorem c112 : symFun C Tryz.f78 sp112 = some tr112 := by kernel_rfl
theorem c113 : symFun C Tryz.f20 sp113 = some tr113 := by kernel_rfl
theorem c114 : symFun C Tryz.f79 sp114 = some tr114 := by kernel_rfl
theorem c120 : symFun C Tryz.f14 sp120 = some tr120 := by kernel_rfl
theorem c121 : symFun C Tryz.f67 sp121 = some tr121 := by kernel_rfl
theorem c122 : symFun C Tryz.f64 sp122 = some tr122 := by kernel_rfl
theorem c123 : symFun C Tryz.f16 sp123 = some tr123 := by kernel_rfl
theorem c125 : symFun C Tryz.f15 sp125 = some tr125 := by kernel_rfl
theorem c126 : symFun C Tryz.f65 sp126 = some tr126 := by kernel_rfl
theorem c128 : symFun C Tryz.f17 sp128 = some tr128 := by kernel_rfl
theorem c134 : symFun C Tryz.f147 sp134 = some tr134 := by kernel_rfl
theorem c140 : symFun C Tryz.f108 sp140 = some tr140 := by kernel_rfl
theorem c141 : symFun C Tryz.f58 sp141 = some tr141 := by kernel_rfl
theorem c143 : symFun C Tryz.f107 sp143 = some tr143 := by kernel_rfl
theorem c144 : symFun C Tryz.f146 sp144 = some tr144 := by kernel_rfl
theorem c147 : symFun C Tryz.f163 sp147 = some tr147 := by kernel_rfl
theorem c148 : symFun C Tryz.f75 sp148 = some tr148 := by kernel_rfl
theorem c150 : symFun C Tryz.f109 sp150 = some tr150 := by kernel_rfl
theorem c151 : symFun C Tryz.f59 sp151 = some tr151 := by kernel_rfl
theorem c154 : symFun C Tryz.f111 sp154 = some tr154 := by kernel_rfl
theorem c156 : symFun C Tryz.f76 sp156 = some tr156 := by kernel_rfl
theorem c157 : symFun C Tryz.f18 sp157 = some tr157 := by kernel_rfl
theorem c158 : symFun C Tryz.f24 sp158 = some tr158 := by kernel_rfl
theorem c160 : symFun C Tryz.f60 sp160 = some tr160 := by kernel_rfl
theorem c161 : symFun C Tryz.f77 sp161 = some tr161 := by kernel_rfl
theorem c162 : symFun C Tryz.f19 sp162 = some tr162 := by kernel_rfl
theorem c164 : symFun C Tryz.f13 sp164 = some tr164 := by kernel_rfl
theorem c239 : symFun C Tryz.f8 sp239 = some tr239 := by kernel_rfl
theorem c240 : symFun C Tryz.f44 sp240 = some tr240 := by kernel_rfl
theorem c241 : symFun C Tryz.f55 sp241 = some tr241 := by kernel_rfl
theorem c242 : symFun C Tryz.f50 sp242 = some tr242 := by kernel_rfl
theorem c243 : symFun C Tryz.f42 sp243 = some tr243 := by kernel_rfl
theorem c244 : symFun C Tryz.f43 sp244 = some tr244 := by kernel_rfl
theorem c245 : symFun C Tryz.f47 sp245 = some tr245 := by kernel_rfl
theorem c272 : symFun C Tryz.f140 sp272 = some tr272 := by kernel_rfl
theorem c274 : symFun C Tryz.f161 sp274 = some tr274 := by kernel_rfl
theorem c280 : symFun C Tryz.f53 sp280 = some tr280 := by kernel_rfl
theorem c281 : symFun C Tryz.f97 sp281 = some tr281 := by kernel_rfl
theorem c282 : symFun C Tryz.f51 sp282 = some tr282 := by kernel_rfl
theorem c283 : symFun C Tryz.f141 sp283 = some tr283 := by kernel_rfl
theorem c284 : symFun C Tryz.f162 sp284 = some tr284 := by kernel_rfl
theorem c285 : symFun C Tryz.f98 sp285 = some tr285 := by kernel_rfl
theorem c286 : symFun C Tryz.f49 sp286 = some tr286 := by kernel_rfl
theorem c287 : symFun C Tryz.f137 sp287 = some tr287 := by kernel_rfl
theorem c288 : symFun C Tryz.f138 sp288 = some tr288 := by kernel_rfl
theorem c289 : symFun C Tryz.f105 sp289 = some tr289 := by kernel_rfl
theorem c290 : symFun C Tryz.f158 sp290 = some tr290 := by kernel_rfl
theorem c291 : symFun C Tryz.f157 sp291 = some tr291 := by kernel_rfl
theorem c300 : symFun C Tryz.f106 sp300 = some tr300 := by kernel_rfl
theorem c301 : symFun C Tryz.f139 sp301 = some tr301 := by kernel_rfl
theorem c302 : symFun C Tryz.f142 sp302 = some tr302 := by kernel_rfl
theorem c303 : symFun C Tryz.f144 sp303 = some tr303 := by kernel_rfl
theorem c304 : symFun C Tryz.f143 sp304 = some tr304 := by kernel_rfl
theorem c305 : symFun C Tryz.f145 sp305 = some tr305 := by kernel_rfl
theorem c306 : symFun C Tryz.f101 sp306 = some tr306 := by kernel_rfl
theorem c309 : symFun C Tryz.f46 sp309 = some tr309 := by kernel_rfl
theorem c310 : symFun C Tryz.f56 sp310 = some tr310 := by kernel_rfl
theorem c312 : symFun C Tryz.f41 sp312 = some tr312 := by kernel_rfl
theorem c313 : symFun C Tryz.f102 sp313 = some tr313 := by kernel_rfl
theorem c314 : symFun C Tryz.f48 sp314 = some tr314 := by kernel_rfl
theorem c315 : symFun C Tryz.f52 sp315 = some tr315 := by kernel_rfl
theorem c316 : symFun C Tryz.f103 sp316 = some tr316 := by kernel_rfl
theorem c317 : symFun C Tryz.f54 sp317 = some tr317 := by kernel_rfl
theorem c322 : symFun C Tryz.f170 sp322 = some tr322 := by kernel_rfl
theorem c323 : symFun C Tryz.f167 sp323 = some tr323 := by kernel_rfl
theorem c324 : symFun C Tryz.f168 sp324 = some tr324 := by kernel_rfl
theorem c325 : symFun C Tryz.f164 sp325 = some tr325 := by kernel_rfl
theorem c326 : symFun C Tryz.f165 sp326 = some tr326 := by kernel_rfl
theorem c327 : symFun C Tryz.f110 sp327 = some tr327 := by kernel_rfl
theorem c328 : symFun C Tryz.f120 sp328 = some tr328 := by kernel_rfl
theorem c329 : symFun C Tryz.f150 sp329 = some tr329 := by kernel_rfl
theorem c330 : symFun C Tryz.f166 sp330 = some tr330 := by kernel_rfl
theorem c331 : symFun C Tryz.f160 sp331 = some tr331 := by kernel_rfl
theorem c332 : symFun C Tryz.f99 sp332 = some tr332 := by kernel_rfl
theorem c333 : symFun C Tryz.f159 sp333 = some tr333 := by kernel_rfl
theorem cbody : (seatL.all fun p => (C.P.funcs[p.1]?).any fun fn => fn.body.isSome && fn.name != "runtime.NumGoroutine") = true := by kernel_rfl
theorem cmixed : C.P.follows .mixedOrders = true := by kernel_rfl
theorem crows : ∀ p ∈ seatL, RowOK C tab p := by
  unfold seatL
  refine List.forall_mem_cons.2 ⟨⟨Tryz.f100, tr3, sp3, Tryz.func100, rfl, c3, rfl⟩, ?_⟩
  refine List.forall_mem_cons.2 ⟨⟨Tryz.f45, tr5, sp5, Tryz.func45, rfl, c5, rfl⟩, ?_⟩
  refine List.forall_mem_cons.2 ⟨⟨Tryz.f104, tr10, sp10, Tryz.func104, rfl, c10, rfl⟩, ?_⟩
  refine List.forall_mem_cons.2 ⟨⟨Tryz.f4, tr50, sp50, Tryz.func4, rfl, c50, rfl⟩, ?_⟩
  refine List.forall_mem_cons.2 ⟨⟨Tryz.f12, tr51, sp51, Tryz.func12, rfl, c51, rfl⟩, ?_⟩
  refine List.forall_mem_cons.2 ⟨⟨Tryz.f21, tr52, sp52, Tryz.func21, rfl, c52, rfl⟩, ?_⟩
  refine List.forall_mem_cons.2 ⟨⟨Tryz.f73, tr86, sp86, Tryz.func73, rfl, c86, rfl⟩, ?_⟩
  refine List.forall_mem_cons.2 ⟨⟨Tryz.f154, tr88, sp88, Tryz.func154, rfl, c88, rfl⟩, ?_⟩
  refine List.forall_mem_cons.2 ⟨⟨Tryz.f114, tr89, sp89, Tryz.func114, rfl, c89, rfl⟩, ?_⟩
  refine List.forall_mem_cons.2 ⟨⟨Tryz.f121, tr90, sp90, Tryz.func121, rfl, c90, rfl⟩, ?_⟩
  refine List.forall_mem_cons.2 ⟨⟨Tryz.f112, tr91, sp91, Tryz.func112, rfl, c91, rfl⟩, ?_⟩
  refine List.forall_mem_cons.2 ⟨⟨Tryz.f117, tr92, sp92, Tryz.func117, rfl, c92, rfl⟩, ?_⟩
  refine List.forall_mem_cons.2 ⟨⟨Tryz.f115, tr93, sp93, Tryz.func115, rfl, c93, rfl⟩, ?_⟩
  refine List.forall_mem_cons.2 ⟨⟨Tryz.f68, tr94, sp94, Tryz.func68, rfl, c94, rfl⟩, ?_⟩
  refine List.forall_mem_cons.2 ⟨⟨Tryz.f113, tr95, sp95, Tryz.func113, rfl, c95, rfl⟩, ?_⟩
  refine List.forall_mem_cons.2 ⟨⟨Tryz.f66, tr96, sp96, Tryz.func66, rfl, c96, rfl⟩, ?_⟩
  refine List.forall_mem_cons.2 ⟨⟨Tryz.f119, tr98, sp98, Tryz.func119, rfl, c98, rfl⟩, ?_⟩
  refine List.forall_mem_cons.2 ⟨⟨Tryz.f152, tr100, sp100, Tryz.func152, rfl, c100, rfl⟩, ?_⟩
  refine List.forall_mem_cons.2 ⟨⟨Tryz.f118, tr101, sp101, Tryz.func118, rfl, c101, rfl⟩, ?_⟩
  refine List.forall_mem_cons.2 ⟨⟨Tryz.f116, tr102, sp102, Tryz.func116, rfl, c102, rfl⟩, ?_⟩
  refine List.forall_mem_cons.2 ⟨⟨Tryz.f153, tr103, sp103, Tryz.func153, rfl, c103, rfl⟩, ?_⟩
  refine List.forall_mem_cons.2 ⟨⟨Tryz.f23, tr104, sp104, Tryz.func23, rfl, c104, rfl⟩, ?_⟩
  refine List.forall_mem_cons.2 ⟨⟨Tryz.f25, tr105, sp105, Tryz.func25, rfl, c105, rfl⟩, ?_⟩
  refine List.forall_mem_cons.2 ⟨⟨Tryz.f74, tr106, sp106, Tryz.func74, rfl, c106, rfl⟩, ?_⟩
  refine List.forall_mem_cons.2 ⟨⟨Tryz.f72, tr107, sp107, Tryz.func72, rfl, c107, rfl⟩, ?_⟩
  refine List.forall_mem_cons.2 ⟨⟨Tryz.f71, tr108, sp108, Tryz.func71, rfl, c108, rfl⟩, ?_⟩
  refine List.forall_mem_cons.2 ⟨⟨Tryz.f70, tr109, sp109, Tryz.func70, rfl, c109, rfl⟩, ?_⟩
  refine List.forall_mem_cons.2 ⟨⟨Tryz.f69, tr110, sp110, Tryz.func69, rfl, c110, rfl⟩, ?_⟩
  refine List.forall_mem_cons.2 ⟨⟨Tryz.f22, tr111, sp111, Tryz.func22, rfl, c111, rfl⟩, ?_⟩
  refine List.forall_mem_cons.2 ⟨⟨Tryz.f78, tr112, sp112, Tryz.func78, rfl, c112, rfl⟩, ?_⟩
  refine List.forall_mem_cons.2 ⟨⟨Tryz.f20, tr113, sp113, Tryz.func20, rfl, c113, rfl⟩, ?_⟩
  refine List.forall_mem_cons.2 ⟨⟨Tryz.f79, tr114, sp114, Tryz.func79, rfl, c114, rfl⟩, ?_⟩
  refine List.forall_mem_cons.2 ⟨⟨Tryz.f14, tr120, sp120, Tryz.func14, rfl, c120, rfl⟩, ?_⟩
  refine List.forall_mem_cons.2 ⟨⟨Tryz.f67, tr121, sp121, Tryz.func67, rfl, c121, rfl⟩, ?_⟩
  refine List.forall_mem_cons.2 ⟨⟨Tryz.f64, tr122, sp122, Tryz.func64, rfl, c122, rfl⟩, ?_⟩
  refine List.forall_mem_cons.2 ⟨⟨Tryz.f16, tr123, sp123, Tryz.func16, rfl, c123, rfl⟩, ?_⟩
  refine List.forall_mem_cons.2 ⟨⟨Tryz.f15, tr125, sp125, Tryz.func15, rfl, c125, rfl⟩, ?_⟩
  refine List.forall_mem_cons.2 ⟨⟨Tryz.f65, tr126, sp126, Tryz.func65, rfl, c126, rfl⟩, ?_⟩
  refine List.forall_mem_cons.2 ⟨⟨Tryz.f17, tr128, sp128, Tryz.func17, rfl, c128, rfl⟩, ?_⟩
  refine List.forall_mem_cons.2 ⟨⟨Tryz.f147, tr134, sp134, Tryz.func147, rfl, c134, rfl⟩, ?_⟩
  refine List.forall_mem_cons.2 ⟨⟨Tryz.f108, tr140, sp140, Tryz.func108, rfl, c140, rfl⟩, ?_⟩
  refine List.forall_mem_cons.2 ⟨⟨Tryz.f58, tr141, sp141, Tryz.func58, rfl, c141, rfl⟩, ?_⟩
  refine List.forall_mem_cons.2 ⟨⟨Tryz.f107, tr143, sp143, Tryz.func107, rfl, c143, rfl⟩, ?_⟩
  refine List.forall_mem_cons.2 ⟨⟨Tryz.f146, tr144, sp144, Tryz.func146, rfl, c144, rfl⟩, ?_⟩
  refine List.forall_mem_cons.2 ⟨⟨Tryz.f163, tr147, sp147, Tryz.func163, rfl, c147, rfl⟩, ?_⟩
  refine List.forall_mem_cons.2 ⟨⟨Tryz.f75, tr148, sp148, Tryz.func75, rfl, c148, rfl⟩, ?_⟩
  refine List.forall_mem_cons.2 ⟨⟨Tryz.f109, tr150, sp150, Tryz.func109, rfl, c150, rfl⟩, ?_⟩
  refine List.forall_mem_cons.2 ⟨⟨Tryz.f59, tr151, sp151, Tryz.func59, rfl, c151, rfl⟩, ?_⟩
  refine List.forall_mem_cons.2 ⟨⟨Tryz.f111, tr154, sp154, Tryz.func111, rfl, c154, rfl⟩, ?_⟩
  refine List.forall_mem_cons.2 ⟨⟨Tryz.f76, tr156, sp156, Tryz.func76, rfl, c156, rfl⟩, ?_⟩
  refine List.forall_mem_cons.2 ⟨⟨Tryz.f18, tr157, sp157, Tryz.func18, rfl, c157, rfl⟩, ?_⟩
  refine List.forall_mem_cons.2 ⟨⟨Tryz.f24, tr158, sp158, Tryz.func24, rfl, c158, rfl⟩, ?_⟩
  refine List.forall_mem_cons.2 ⟨⟨Tryz.f60, tr160, sp160, Tryz.func60, rfl, c160, rfl⟩, ?_⟩
  refine List.forall_mem_cons.2 ⟨⟨Tryz.f77, tr161, sp161, Tryz.func77, rfl, c161, rfl⟩, ?_⟩
  refine List.forall_mem_cons.2 ⟨⟨Tryz.f19, tr162, sp162, Tryz.func19, rfl, c162, rfl⟩, ?_⟩
  refine List.forall_mem_cons.2 ⟨⟨Tryz.f13, tr164, sp164, Tryz.func13, rfl, c164, rfl⟩, ?_⟩
  refine List.forall_mem_cons.2 ⟨⟨Tryz.f8, tr239, sp239, Tryz.func8, rfl, c239, rfl⟩, ?_⟩
  refine List.forall_mem_cons.2 ⟨⟨Tryz.f44, tr240, sp240, Tryz.func44, rfl, c240, rfl⟩, ?_⟩
  refine List.forall_mem_cons.2 ⟨⟨Tryz.f55, tr241, sp241, Tryz.func55, rfl, c241, rfl⟩, ?_⟩
  refine List.forall_mem_cons.2 ⟨⟨Tryz.f50, tr242, sp242, Tryz.func50, rfl, c242, rfl⟩, ?_⟩
  refine List.forall_mem_cons.2 ⟨⟨Tryz.f42, tr243, sp243, Tryz.func42, rfl, c243, rfl⟩, ?_⟩
  refine List.forall_mem_cons.2 ⟨⟨Tryz.f43, tr244, sp244, Tryz.func43, rfl, c244, rfl⟩, ?_⟩
  refine List.forall_mem_cons.2 ⟨⟨Tryz.f47, tr245, sp245, Tryz.func47, rfl, c245, rfl⟩, ?_⟩
  refine List.forall_mem_cons.2 ⟨⟨Tryz.f140, tr272, sp272, Tryz.func140, rfl, c272, rfl⟩, ?_⟩
  refine List.forall_mem_cons.2 ⟨⟨Tryz.f161, tr274, sp274, Tryz.func161, rfl, c274, rfl⟩, ?_⟩
  refine List.forall_mem_cons.2 ⟨⟨Tryz.f53, tr280, sp280, Tryz.func53, rfl, c280, rfl⟩, ?_⟩
  refine List.forall_mem_cons.2 ⟨⟨Tryz.f97, tr281, sp281, Tryz.func97, rfl, c281, rfl⟩, ?_⟩
  refine List.forall_mem_cons.2 ⟨⟨Tryz.f51, tr282, sp282, Tryz.func51, rfl, c282, rfl⟩, ?_⟩
  refine List.forall_mem_cons.2 ⟨⟨Tryz.f141, tr283, sp283, Tryz.func141, rfl, c283, rfl⟩, ?_⟩
  refine List.forall_mem_cons.2 ⟨⟨Tryz.f162, tr284, sp284, Tryz.func162, rfl, c284, rfl⟩, ?_⟩
  refine List.forall_mem_cons.2 ⟨⟨Tryz.f98, tr285, sp285, Tryz.func98, rfl, c285, rfl⟩, ?_⟩
  refine List.forall_mem_cons.2 ⟨⟨Tryz.f49, tr286, sp286, Tryz.func49, rfl, c286, rfl⟩, ?_⟩
  refine List.forall_mem_cons.2 ⟨⟨Tryz.f137, tr287, sp287, Tryz.func137, rfl, c287, rfl⟩, ?_⟩
  refine List.forall_mem_cons.2 ⟨⟨Tryz.f138, tr288, sp288, Tryz.func138, rfl, c288, rfl⟩, ?_⟩
  refine List.forall_mem_cons.2 ⟨⟨Tryz.f105, tr289, sp289, Tryz.func105, rfl, c289, rfl⟩, ?_⟩
  refine List.forall_mem_cons.2 ⟨⟨Tryz.f158, tr290, sp290, Tryz.func158, rfl, c290, rfl⟩, ?_⟩
  refine List.forall_mem_cons.2 ⟨⟨Tryz.f157, tr291, sp291, Tryz.func157, rfl, c291, rfl⟩, ?_⟩
  refine List.forall_mem_cons.2 ⟨⟨Tryz.f106, tr300, sp300, Tryz.func106, rfl, c300, rfl⟩, ?_⟩
  refine List.forall_mem_cons.2 ⟨⟨Tryz.f139, tr301, sp301, Tryz.func139, rfl, c301, rfl⟩, ?_⟩
  refine List.forall_mem_cons.2 ⟨⟨Tryz.f142, tr302, sp302, Tryz.func142, rfl, c302, rfl⟩, ?_⟩
  refine List.forall_mem_cons.2 ⟨⟨Tryz.f144, tr303, sp303, Tryz.func144, rfl, c303, rfl⟩, ?_⟩
  refine List.forall_mem_cons.2 ⟨⟨Tryz.f143, tr304, sp304, Tryz.func143, rfl, c304, rfl⟩, ?_⟩
  refine List.forall_mem_cons.2 ⟨⟨Tryz.f145, tr305, sp305, Tryz.func145, rfl, c305, rfl⟩, ?_⟩
  refine List.forall_mem_cons.2 ⟨⟨Tryz.f101, tr306, sp306, Tryz.func101, rfl, c306, rfl⟩, ?_⟩
  refine List.forall_mem_cons.2 ⟨⟨Tryz.f46, tr309, sp309, Tryz.func46, rfl, c309, rfl⟩, ?_⟩
  refine List.forall_mem_cons.2 ⟨⟨Tryz.f56, tr310, sp310, Tryz.func56, rfl, c310, rfl⟩, ?_⟩
  refine List.forall_mem_cons.2 ⟨⟨Tryz.f41, tr312, sp312, Tryz.func41, rfl, c312, rfl⟩, ?_⟩
  refine List.forall_mem_cons.2 ⟨⟨Tryz.f102, tr313, sp313, Tryz.func102, rfl, c313, rfl⟩, ?_⟩
  refine List.forall_mem_cons.2 ⟨⟨Tryz.f48, tr314, sp314, Tryz.func48, rfl, c314, rfl⟩, ?_⟩
  refine List.forall_mem_cons.2 ⟨⟨Tryz.f52, tr315, sp315, Tryz.func52, rfl, c315, rfl⟩, ?_⟩
  refine List.forall_mem_cons.2 ⟨⟨Tryz.f103, tr316, sp316, Tryz.func103, rfl, c316, rfl⟩, ?_⟩
  refine List.forall_mem_cons.2 ⟨⟨Tryz.f54, tr317, sp317, Tryz.func54, rfl, c317, rfl⟩, ?_⟩
  refine List.forall_mem_cons.2 ⟨⟨Tryz.f170, tr322, sp322, Tryz.func170, rfl, c322, rfl⟩, ?_⟩
  refine List.forall_mem_cons.2 ⟨⟨Tryz.f167, tr323, sp323, Tryz.func167, rfl, c323, rfl⟩, ?_⟩
  refine List.forall_mem_cons.2 ⟨⟨Tryz.f168, tr324, sp324, Tryz.func168, rfl, c324, rfl⟩, ?_⟩
  refine List.forall_mem_cons.2 ⟨⟨Tryz.f164, tr325, sp325, Tryz.func164, rfl, c325, rfl⟩, ?_⟩
  refine List.forall_mem_cons.2 ⟨⟨Tryz.f165, tr326, sp326, Tryz.func165, rfl, c326, rfl⟩, ?_⟩
  refine List.forall_mem_cons.2 ⟨⟨Tryz.f110, tr327, sp327, Tryz.func110, rfl, c327, rfl⟩, ?_⟩
  refine List.forall_mem_cons.2 ⟨⟨Tryz.f120, tr328, sp328, Tryz.func120, rfl, c328, rfl⟩, ?_⟩
  refine List.forall_mem_cons.2 ⟨⟨Tryz.f150, tr329, sp329, Tryz.func150, rfl, c329, rfl⟩, ?_⟩
  refine List.forall_mem_cons.2 ⟨⟨Tryz.f166, tr330, sp330, Tryz.func166, rfl, c330, rfl⟩, ?_⟩
  refine List.forall_mem_cons.2 ⟨⟨Tryz.f160, tr331, sp331, Tryz.func160, rfl, c331, rfl⟩, ?_⟩
  refine List.forall_mem_cons.2 ⟨⟨Tryz.f99, tr332, sp332, Tryz.func99, rfl, c332, rfl⟩, ?_⟩
  refine List.forall_mem_cons.2 ⟨⟨Tryz.f159, tr333, sp333, Tryz.func159, rfl, c333, rfl⟩, ?_⟩
  exact List.forall_mem_nil _
theorem tabok : TabOK C tab := tabOK_of (l := seatL) (fun _ => rfl) cbody cmixed crows (fun k id sp ps qs h h1 h2 h3 => by cases h; cases h1; exact canon_raw k h2 h3)
end Go.Proofs.YtogcdllpjcnbkaaGreat.Dx
