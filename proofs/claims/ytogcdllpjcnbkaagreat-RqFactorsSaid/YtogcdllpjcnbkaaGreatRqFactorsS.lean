/- The functions of a program come to the trees of the table; printed by program. No conditions. -/
import Derived.Test.YtogcdllpjcnbkaaGreatRqFactorsM2
import Derived.Test.YtogcdllpjcnbkaaGreatProg
import Derived.KernelRfl
namespace Go.Proofs.YtogcdllpjcnbkaaGreat.Dx
open Go
def seatL : List (Nat × Nat) := [(80, 2), (100, 3), (45, 5), (104, 10), (7, 59), (40, 62), (39, 63), (73, 86), (154, 88), (114, 89), (121, 90), (112, 91), (117, 92), (68, 94), (113, 95), (66, 96), (119, 98), (152, 100), (118, 101), (116, 102), (23, 104), (25, 105), (74, 106), (72, 107), (70, 109), (69, 110), (78, 112), (20, 113), (79, 114), (14, 120), (67, 121), (64, 122), (16, 123), (15, 125), (65, 126), (17, 128), (147, 134), (108, 140), (58, 141), (107, 143), (146, 144), (163, 147), (75, 148), (109, 150), (59, 151), (63, 152), (130, 153), (111, 154), (9, 155), (76, 156), (24, 158), (11, 159), (60, 160), (77, 161), (62, 163), (128, 166), (85, 167), (88, 169), (36, 172), (136, 173), (84, 174), (94, 175), (129, 176), (131, 177), (28, 178), (87, 190), (10, 192), (61, 193), (57, 194), (31, 195), (86, 197), (95, 198), (96, 200), (37, 201), (38, 202), (83, 238), (8, 239), (44, 240), (55, 241), (50, 242), (42, 243), (43, 244), (47, 245), (122, 246), (123, 247), (82, 248), (126, 249), (91, 255), (134, 256), (133, 257), (125, 258), (124, 259), (27, 268), (81, 271), (140, 272), (161, 274), (93, 275), (135, 276), (34, 277), (35, 278), (92, 279), (53, 280), (97, 281), (51, 282), (141, 283), (162, 284), (98, 285), (49, 286), (137, 287), (138, 288), (105, 289), (158, 290), (157, 291), (106, 300), (139, 301), (142, 302), (144, 303), (143, 304), (145, 305), (101, 306), (46, 309), (56, 310), (127, 311), (41, 312), (102, 313), (48, 314), (52, 315), (103, 316), (54, 317), (156, 321), (170, 322), (167, 323), (168, 324), (164, 325), (165, 326), (110, 327), (120, 328), (150, 329), (166, 330), (160, 331), (99, 332), (159, 333)]
def fidM (f : FuncId) : Option Nat := (seatL.find? (·.1 == f)).map (·.2)
noncomputable def C : Ctx := { P := Tryz.prog, fid := fidM, spec := spc, canon := some 134 }
theorem c2 : symFun C Tryz.f80 sp2 = some tr2 := by kernel_rfl
theorem c3 : symFun C Tryz.f100 sp3 = some tr3 := by kernel_rfl
theorem c5 : symFun C Tryz.f45 sp5 = some tr5 := by kernel_rfl
theorem c10 : symFun C Tryz.f104 sp10 = some tr10 := by kernel_rfl
theorem c59 : symFun C Tryz.f7 sp59 = some tr59 := by kernel_rfl
theorem c62 : symFun C Tryz.f40 sp62 = some tr62 := by kernel_rfl
theorem c63 : symFun C Tryz.f39 sp63 = some tr63 := by kernel_rfl
theorem c86 : symFun C Tryz.f73 sp86 = some tr86 := by kernel_rfl
theorem c88 : symFun C Tryz.f154 sp88 = some tr88 := by kernel_rfl
theorem c89 : symFun C Tryz.f114 sp89 = some tr89 := by kernel_rfl
theorem c90 : symFun C Tryz.f121 sp90 = some tr90 := by kernel_rfl
theorem c91 : symFun C Tryz.f112 sp91 = some tr91 := by kernel_rfl
theorem c92 : symFun C Tryz.f117 sp92 = some tr92 := by kernel_rfl
theorem c94 : symFun C Tryz.f68 sp94 = some tr94 := by kernel_rfl
theorem c95 : symFun C Tryz.f113 sp95 = some tr95 := by kernel_rfl
theorem c96 : symFun C Tryz.f66 sp96 = some tr96 := by kernel_rfl
theorem c98 : symFun C Tryz.f119 sp98 = some tr98 := by kernel_rfl
theorem c100 : symFun C Tryz.f152 sp100 = some tr100 := by kernel_rfl
theorem c101 : symFun C Tryz.f118 sp101 = some tr101 := by kernel_rfl
theorem c102 : symFun C Tryz.f116 sp102 = some tr102 := by kernel_rfl
theorem c104 : symFun C Tryz.f23 sp104 = some tr104 := by kernel_rfl
theorem c105 : symFun C Tryz.f25 sp105 = some tr105 := by kernel_rfl
theorem c106 : symFun C Tryz.f74 sp106 = some tr106 := by kernel_rfl
theorem c107 : symFun C Tryz.f72 sp107 = some tr107 := by kernel_rfl
theorem c109 : symFun C Tryz.f70 sp109 = some tr109 := by kernel_rfl
theorem c110 : symFun C Tryz.f69 sp110 = some tr110 := by kernel_rfl
theorem c112 : symFun C Tryz.f78 sp112 = some tr112 := by kernel_rfl
theorem c113 : symFun C Tryz.f20 sp113 = some tr113 := by kernel_rfl
theorem c114 : symFun C Tryz.f79 sp114 = some tr114 := by kernel_rfl
theorem c120 : symFun C Tryz.f14 sp120 = some tr120 := by kernel_rfl
theorem c121 : symFun C Tryz.f67 sp121 = some tr121 := by kernel_rfl
theorem c122 : symFun C Tryz.f64 sp122 = some tr122 := by kernel_rfl
theorem c123 : symFun C Tryz.f16 sp123 = some tr123 := by kernel_rfl
theorem c125 : symFun C Tryz.f15 sp125 = some tr125 := by kernel_rfl
theorem c126 : symFun C Tryz.f65 sp126 = some tr126 := by kernel_rfl
theorem c128 : symFun C Tryz.f17 sp128 = some tr128 := by kernel_rfl
theorem c134 : symFun C Tryz.f147 sp134 = some tr134 := by kernel_rfl
theorem c140 : symFun C Tryz.f108 sp140 = some tr140 := by kernel_rfl
theorem c141 : symFun C Tryz.f58 sp141 = some tr141 := by kernel_rfl
theorem c143 : symFun C Tryz.f107 sp143 = some tr143 := by kernel_rfl
theorem c144 : symFun C Tryz.f146 sp144 = some tr144 := by kernel_rfl
theorem c147 : symFun C Tryz.f163 sp147 = some tr147 := by kernel_rfl
theorem c148 : symFun C Tryz.f75 sp148 = some tr148 := by kernel_rfl
theorem c150 : symFun C Tryz.f109 sp150 = some tr150 := by kernel_rfl
theorem c151 : symFun C Tryz.f59 sp151 = some tr151 := by kernel_rfl
theorem c152 : symFun C Tryz.f63 sp152 = some tr152 := by kernel_rfl
theorem c153 : symFun C Tryz.f130 sp153 = some tr153 := by kernel_rfl
theorem c154 : symFun C Tryz.f111 sp154 = some tr154 := by kernel_rfl
theorem c155 : symFun C Tryz.f9 sp155 = some tr155 := by kernel_rfl
theorem c156 : symFun C Tryz.f76 sp156 = some tr156 := by kernel_rfl
theorem c158 : symFun C Tryz.f24 sp158 = some tr158 := by kernel_rfl
theorem c159 : symFun C Tryz.f11 sp159 = some tr159 := by kernel_rfl
theorem c160 : symFun C Tryz.f60 sp160 = some tr160 := by kernel_rfl
theorem c161 : symFun C Tryz.f77 sp161 = some tr161 := by kernel_rfl
theorem c163 : symFun C Tryz.f62 sp163 = some tr163 := by kernel_rfl
theorem c166 : symFun C Tryz.f128 sp166 = some tr166 := by kernel_rfl
theorem c167 : symFun C Tryz.f85 sp167 = some tr167 := by kernel_rfl
theorem c169 : symFun C Tryz.f88 sp169 = some tr169 := by kernel_rfl
theorem c172 : symFun C Tryz.f36 sp172 = some tr172 := by kernel_rfl
theorem c173 : symFun C Tryz.f136 sp173 = some tr173 := by kernel_rfl
theorem c174 : symFun C Tryz.f84 sp174 = some tr174 := by kernel_rfl
theorem c175 : symFun C Tryz.f94 sp175 = some tr175 := by kernel_rfl
theorem c176 : symFun C Tryz.f129 sp176 = some tr176 := by kernel_rfl
theorem c177 : symFun C Tryz.f131 sp177 = some tr177 := by kernel_rfl
theorem c178 : symFun C Tryz.f28 sp178 = some tr178 := by kernel_rfl
theorem c190 : symFun C Tryz.f87 sp190 = some tr190 := by kernel_rfl
theorem c192 : symFun C Tryz.f10 sp192 = some tr192 := by kernel_rfl
theorem c193 : symFun C Tryz.f61 sp193 = some tr193 := by kernel_rfl
theorem c194 : symFun C Tryz.f57 sp194 = some tr194 := by kernel_rfl
theorem c195 : symFun C Tryz.f31 sp195 = some tr195 := by kernel_rfl
theorem c197 : symFun C Tryz.f86 sp197 = some tr197 := by kernel_rfl
theorem c198 : symFun C Tryz.f95 sp198 = some tr198 := by kernel_rfl
theorem c200 : symFun C Tryz.f96 sp200 = some tr200 := by kernel_rfl
theorem c201 : symFun C Tryz.f37 sp201 = some tr201 := by kernel_rfl
theorem c202 : symFun C Tryz.f38 sp202 = some tr202 := by kernel_rfl
theorem c238 : symFun C Tryz.f83 sp238 = some tr238 := by kernel_rfl
theorem c239 : symFun C Tryz.f8 sp239 = some tr239 := by kernel_rfl
theorem c240 : symFun C Tryz.f44 sp240 = some tr240 := by kernel_rfl
theorem c241 : symFun C Tryz.f55 sp241 = some tr241 := by kernel_rfl
theorem c242 : symFun C Tryz.f50 sp242 = some tr242 := by kernel_rfl
theorem c243 : symFun C Tryz.f42 sp243 = some tr243 := by kernel_rfl
theorem c244 : symFun C Tryz.f43 sp244 = some tr244 := by kernel_rfl
theorem c245 : symFun C Tryz.f47 sp245 = some tr245 := by kernel_rfl
theorem c246 : symFun C Tryz.f122 sp246 = some tr246 := by kernel_rfl
theorem c247 : symFun C Tryz.f123 sp247 = some tr247 := by kernel_rfl
theorem c248 : symFun C Tryz.f82 sp248 = some tr248 := by kernel_rfl
theorem c249 : symFun C Tryz.f126 sp249 = some tr249 := by kernel_rfl
theorem c255 : symFun C Tryz.f91 sp255 = some tr255 := by kernel_rfl
theorem c256 : symFun C Tryz.f134 sp256 = some tr256 := by kernel_rfl
theorem c257 : symFun C Tryz.f133 sp257 = some tr257 := by kernel_rfl
theorem c258 : symFun C Tryz.f125 sp258 = some tr258 := by kernel_rfl
theorem c259 : symFun C Tryz.f124 sp259 = some tr259 := by kernel_rfl
theorem c268 : symFun C Tryz.f27 sp268 = some tr268 := by kernel_rfl
theorem c271 : symFun C Tryz.f81 sp271 = some tr271 := by kernel_rfl
theorem c272 : symFun C Tryz.f140 sp272 = some tr272 := by kernel_rfl
theorem c274 : symFun C Tryz.f161 sp274 = some tr274 := by kernel_rfl
theorem c275 : symFun C Tryz.f93 sp275 = some tr275 := by kernel_rfl
theorem c276 : symFun C Tryz.f135 sp276 = some tr276 := by kernel_rfl
theorem c277 : symFun C Tryz.f34 sp277 = some tr277 := by kernel_rfl
theorem c278 : symFun C Tryz.f35 sp278 = some tr278 := by kernel_rfl
theorem c279 : symFun C Tryz.f92 sp279 = some tr279 := by kernel_rfl
theorem c280 : symFun C Tryz.f53 sp280 = some tr280 := by kernel_rfl
theorem c281 : symFun C Tryz.f97 sp281 = some tr281 := by kernel_rfl
theorem c282 : symFun C Tryz.f51 sp282 = some tr282 := by kernel_rfl
theorem c283 : symFun C Tryz.f141 sp283 = some tr283 := by kernel_rfl
theorem c284 : symFun C Tryz.f162 sp284 = some tr284 := by kernel_rfl
theorem c285 : symFun C Tryz.f98 sp285 = some tr285 := by kernel_rfl
theorem c286 : symFun C Tryz.f49 sp286 = some tr286 := by kernel_rfl
theorem c287 : symFun C Tryz.f137 sp287 = some tr287 := by kernel_rfl
theorem c288 : symFun C Tryz.f138 sp288 = some tr288 := by kernel_rfl
theorem c289 : symFun C Tryz.f105 sp289 = some tr289 := by kernel_rfl
theorem c290 : symFun C Tryz.f158 sp290 = some tr290 := by kernel_rfl
theorem c291 : symFun C Tryz.f157 sp291 = some tr291 := by kernel_rfl
theorem c300 : symFun C Tryz.f106 sp300 = some tr300 := by kernel_rfl
theorem c301 : symFun C Tryz.f139 sp301 = some tr301 := by kernel_rfl
theorem c302 : symFun C Tryz.f142 sp302 = some tr302 := by kernel_rfl
theorem c303 : symFun C Tryz.f144 sp303 = some tr303 := by kernel_rfl
theorem c304 : symFun C Tryz.f143 sp304 = some tr304 := by kernel_rfl
theorem c305 : symFun C Tryz.f145 sp305 = some tr305 := by kernel_rfl
theorem c306 : symFun C Tryz.f101 sp306 = some tr306 := by kernel_rfl
theorem c309 : symFun C Tryz.f46 sp309 = some tr309 := by kernel_rfl
theorem c310 : symFun C Tryz.f56 sp310 = some tr310 := by kernel_rfl
theorem c311 : symFun C Tryz.f127 sp311 = some tr311 := by kernel_rfl
theorem c312 : symFun C Tryz.f41 sp312 = some tr312 := by kernel_rfl
theorem c313 : symFun C Tryz.f102 sp313 = some tr313 := by kernel_rfl
theorem c314 : symFun C Tryz.f48 sp314 = some tr314 := by kernel_rfl
theorem c315 : symFun C Tryz.f52 sp315 = some tr315 := by kernel_rfl
theorem c316 : symFun C Tryz.f103 sp316 = some tr316 := by kernel_rfl
theorem c317 : symFun C Tryz.f54 sp317 = some tr317 := by kernel_rfl
theorem c321 : symFun C Tryz.f156 sp321 = some tr321 := by kernel_rfl
theorem c322 : symFun C Tryz.f170 sp322 = some tr322 := by kernel_rfl
theorem c323 : symFun C Tryz.f167 sp323 = some tr323 := by kernel_rfl
theorem c324 : symFun C Tryz.f168 sp324 = some tr324 := by kernel_rfl
theorem c325 : symFun C Tryz.f164 sp325 = some tr325 := by kernel_rfl
theorem c326 : symFun C Tryz.f165 sp326 = some tr326 := by kernel_rfl
theorem c327 : symFun C Tryz.f110 sp327 = some tr327 := by kernel_rfl
theorem c328 : symFun C Tryz.f120 sp328 = some tr328 := by kernel_rfl
theorem c329 : symFun C Tryz.f150 sp329 = some tr329 := by kernel_rfl
theorem c330 : symFun C Tryz.f166 sp330 = some tr330 := by kernel_rfl
theorem c331 : symFun C Tryz.f160 sp331 = some tr331 := by kernel_rfl
theorem c332 : symFun C Tryz.f99 sp332 = some tr332 := by kernel_rfl
theorem c333 : symFun C Tryz.f159 sp333 = some tr333 := by kernel_rfl
theorem cbody : (seatL.all fun p => (C.P.funcs[p.1]?).any fun fn => fn.body.isSome && fn.name != "runtime.NumGoroutine") = true := by kernel_rfl
theorem cmixed : C.P.follows .mixedOrders = true := by kernel_rfl
theorem crows : ∀ p ∈ seatL, RowOK C tab p := by
  unfold seatL
  refine List.forall_mem_cons.2 ⟨⟨Tryz.f80, tr2, sp2, Tryz.func80, rfl, c2, rfl⟩, ?_⟩
  refine List.forall_mem_cons.2 ⟨⟨Tryz.f100, tr3, sp3, Tryz.func100, rfl, c3, rfl⟩, ?_⟩
  refine List.forall_mem_cons.2 ⟨⟨Tryz.f45, tr5, sp5, Tryz.func45, rfl, c5, rfl⟩, ?_⟩
  refine List.forall_mem_cons.2 ⟨⟨Tryz.f104, tr10, sp10, Tryz.func104, rfl, c10, rfl⟩, ?_⟩
  refine List.forall_mem_cons.2 ⟨⟨Tryz.f7, tr59, sp59, Tryz.func7, rfl, c59, rfl⟩, ?_⟩
  refine List.forall_mem_cons.2 ⟨⟨Tryz.f40, tr62, sp62, Tryz.func40, rfl, c62, rfl⟩, ?_⟩
  refine List.forall_mem_cons.2 ⟨⟨Tryz.f39, tr63, sp63, Tryz.func39, rfl, c63, rfl⟩, ?_⟩
  refine List.forall_mem_cons.2 ⟨⟨Tryz.f73, tr86, sp86, Tryz.func73, rfl, c86, rfl⟩, ?_⟩
  refine List.forall_mem_cons.2 ⟨⟨Tryz.f154, tr88, sp88, Tryz.func154, rfl, c88, rfl⟩, ?_⟩
  refine List.forall_mem_cons.2 ⟨⟨Tryz.f114, tr89, sp89, Tryz.func114, rfl, c89, rfl⟩, ?_⟩
  refine List.forall_mem_cons.2 ⟨⟨Tryz.f121, tr90, sp90, Tryz.func121, rfl, c90, rfl⟩, ?_⟩
  refine List.forall_mem_cons.2 ⟨⟨Tryz.f112, tr91, sp91, Tryz.func112, rfl, c91, rfl⟩, ?_⟩
  refine List.forall_mem_cons.2 ⟨⟨Tryz.f117, tr92, sp92, Tryz.func117, rfl, c92, rfl⟩, ?_⟩
  refine List.forall_mem_cons.2 ⟨⟨Tryz.f68, tr94, sp94, Tryz.func68, rfl, c94, rfl⟩, ?_⟩
  refine List.forall_mem_cons.2 ⟨⟨Tryz.f113, tr95, sp95, Tryz.func113, rfl, c95, rfl⟩, ?_⟩
  refine List.forall_mem_cons.2 ⟨⟨Tryz.f66, tr96, sp96, Tryz.func66, rfl, c96, rfl⟩, ?_⟩
  refine List.forall_mem_cons.2 ⟨⟨Tryz.f119, tr98, sp98, Tryz.func119, rfl, c98, rfl⟩, ?_⟩
  refine List.forall_mem_cons.2 ⟨⟨Tryz.f152, tr100, sp100, Tryz.func152, rfl, c100, rfl⟩, ?_⟩
  refine List.forall_mem_cons.2 ⟨⟨Tryz.f118, tr101, sp101, Tryz.func118, rfl, c101, rfl⟩, ?_⟩
  refine List.forall_mem_cons.2 ⟨⟨Tryz.f116, tr102, sp102, Tryz.func116, rfl, c102, rfl⟩, ?_⟩
  refine List.forall_mem_cons.2 ⟨⟨Tryz.f23, tr104, sp104, Tryz.func23, rfl, c104, rfl⟩, ?_⟩
  refine List.forall_mem_cons.2 ⟨⟨Tryz.f25, tr105, sp105, Tryz.func25, rfl, c105, rfl⟩, ?_⟩
  refine List.forall_mem_cons.2 ⟨⟨Tryz.f74, tr106, sp106, Tryz.func74, rfl, c106, rfl⟩, ?_⟩
  refine List.forall_mem_cons.2 ⟨⟨Tryz.f72, tr107, sp107, Tryz.func72, rfl, c107, rfl⟩, ?_⟩
  refine List.forall_mem_cons.2 ⟨⟨Tryz.f70, tr109, sp109, Tryz.func70, rfl, c109, rfl⟩, ?_⟩
  refine List.forall_mem_cons.2 ⟨⟨Tryz.f69, tr110, sp110, Tryz.func69, rfl, c110, rfl⟩, ?_⟩
  refine List.forall_mem_cons.2 ⟨⟨Tryz.f78, tr112, sp112, Tryz.func78, rfl, c112, rfl⟩, ?_⟩
  refine List.forall_mem_cons.2 ⟨⟨Tryz.f20, tr113, sp113, Tryz.func20, rfl, c113, rfl⟩, ?_⟩
  refine List.forall_mem_cons.2 ⟨⟨Tryz.f79, tr114, sp114, Tryz.func79, rfl, c114, rfl⟩, ?_⟩
  refine List.forall_mem_cons.2 ⟨⟨Tryz.f14, tr120, sp120, Tryz.func14, rfl, c120, rfl⟩, ?_⟩
  refine List.forall_mem_cons.2 ⟨⟨Tryz.f67, tr121, sp121, Tryz.func67, rfl, c121, rfl⟩, ?_⟩
  refine List.forall_mem_cons.2 ⟨⟨Tryz.f64, tr122, sp122, Tryz.func64, rfl, c122, rfl⟩, ?_⟩
  refine List.forall_mem_cons.2 ⟨⟨Tryz.f16, tr123, sp123, Tryz.func16, rfl, c123, rfl⟩, ?_⟩
  refine List.forall_mem_cons.2 ⟨⟨Tryz.f15, tr125, sp125, Tryz.func15, rfl, c125, rfl⟩, ?_⟩
  refine List.forall_mem_cons.2 ⟨⟨Tryz.f65, tr126, sp126, Tryz.func65, rfl, c126, rfl⟩, ?_⟩
  refine List.forall_mem_cons.2 ⟨⟨Tryz.f17, tr128, sp128, Tryz.func17, rfl, c128, rfl⟩, ?_⟩
  refine List.forall_mem_cons.2 ⟨⟨Tryz.f147, tr134, sp134, Tryz.func147, rfl, c134, rfl⟩, ?_⟩
  refine List.forall_mem_cons.2 ⟨⟨Tryz.f108, tr140, sp140, Tryz.func108, rfl, c140, rfl⟩, ?_⟩
  refine List.forall_mem_cons.2 ⟨⟨Tryz.f58, tr141, sp141, Tryz.func58, rfl, c141, rfl⟩, ?_⟩
  refine List.forall_mem_cons.2 ⟨⟨Tryz.f107, tr143, sp143, Tryz.func107, rfl, c143, rfl⟩, ?_⟩
  refine List.forall_mem_cons.2 ⟨⟨Tryz.f146, tr144, sp144, Tryz.func146, rfl, c144, rfl⟩, ?_⟩
  refine List.forall_mem_cons.2 ⟨⟨Tryz.f163, tr147, sp147, Tryz.func163, rfl, c147, rfl⟩, ?_⟩
  refine List.forall_mem_cons.2 ⟨⟨Tryz.f75, tr148, sp148, Tryz.func75, rfl, c148, rfl⟩, ?_⟩
  refine List.forall_mem_cons.2 ⟨⟨Tryz.f109, tr150, sp150, Tryz.func109, rfl, c150, rfl⟩, ?_⟩
  refine List.forall_mem_cons.2 ⟨⟨Tryz.f59, tr151, sp151, Tryz.func59, rfl, c151, rfl⟩, ?_⟩
  refine List.forall_mem_cons.2 ⟨⟨Tryz.f63, tr152, sp152, Tryz.func63, rfl, c152, rfl⟩, ?_⟩
  refine List.forall_mem_cons.2 ⟨⟨Tryz.f130, tr153, sp153, Tryz.func130, rfl, c153, rfl⟩, ?_⟩
  refine List.forall_mem_cons.2 ⟨⟨Tryz.f111, tr154, sp154, Tryz.func111, rfl, c154, rfl⟩, ?_⟩
  refine List.forall_mem_cons.2 ⟨⟨Tryz.f9, tr155, sp155, Tryz.func9, rfl, c155, rfl⟩, ?_⟩
  refine List.forall_mem_cons.2 ⟨⟨Tryz.f76, tr156, sp156, Tryz.func76, rfl, c156, rfl⟩, ?_⟩
  refine List.forall_mem_cons.2 ⟨⟨Tryz.f24, tr158, sp158, Tryz.func24, rfl, c158, rfl⟩, ?_⟩
  refine List.forall_mem_cons.2 ⟨⟨Tryz.f11, tr159, sp159, Tryz.func11, rfl, c159, rfl⟩, ?_⟩
  refine List.forall_mem_cons.2 ⟨⟨Tryz.f60, tr160, sp160, Tryz.func60, rfl, c160, rfl⟩, ?_⟩
  refine List.forall_mem_cons.2 ⟨⟨Tryz.f77, tr161, sp161, Tryz.func77, rfl, c161, rfl⟩, ?_⟩
  refine List.forall_mem_cons.2 ⟨⟨Tryz.f62, tr163, sp163, Tryz.func62, rfl, c163, rfl⟩, ?_⟩
  refine List.forall_mem_cons.2 ⟨⟨Tryz.f128, tr166, sp166, Tryz.func128, rfl, c166, rfl⟩, ?_⟩
  refine List.forall_mem_cons.2 ⟨⟨Tryz.f85, tr167, sp167, Tryz.func85, rfl, c167, rfl⟩, ?_⟩
  refine List.forall_mem_cons.2 ⟨⟨Tryz.f88, tr169, sp169, Tryz.func88, rfl, c169, rfl⟩, ?_⟩
  refine List.forall_mem_cons.2 ⟨⟨Tryz.f36, tr172, sp172, Tryz.func36, rfl, c172, rfl⟩, ?_⟩
  refine List.forall_mem_cons.2 ⟨⟨Tryz.f136, tr173, sp173, Tryz.func136, rfl, c173, rfl⟩, ?_⟩
  refine List.forall_mem_cons.2 ⟨⟨Tryz.f84, tr174, sp174, Tryz.func84, rfl, c174, rfl⟩, ?_⟩
  refine List.forall_mem_cons.2 ⟨⟨Tryz.f94, tr175, sp175, Tryz.func94, rfl, c175, rfl⟩, ?_⟩
  refine List.forall_mem_cons.2 ⟨⟨Tryz.f129, tr176, sp176, Tryz.func129, rfl, c176, rfl⟩, ?_⟩
  refine List.forall_mem_cons.2 ⟨⟨Tryz.f131, tr177, sp177, Tryz.func131, rfl, c177, rfl⟩, ?_⟩
  refine List.forall_mem_cons.2 ⟨⟨Tryz.f28, tr178, sp178, Tryz.func28, rfl, c178, rfl⟩, ?_⟩
  refine List.forall_mem_cons.2 ⟨⟨Tryz.f87, tr190, sp190, Tryz.func87, rfl, c190, rfl⟩, ?_⟩
  refine List.forall_mem_cons.2 ⟨⟨Tryz.f10, tr192, sp192, Tryz.func10, rfl, c192, rfl⟩, ?_⟩
  refine List.forall_mem_cons.2 ⟨⟨Tryz.f61, tr193, sp193, Tryz.func61, rfl, c193, rfl⟩, ?_⟩
  refine List.forall_mem_cons.2 ⟨⟨Tryz.f57, tr194, sp194, Tryz.func57, rfl, c194, rfl⟩, ?_⟩
  refine List.forall_mem_cons.2 ⟨⟨Tryz.f31, tr195, sp195, Tryz.func31, rfl, c195, rfl⟩, ?_⟩
  refine List.forall_mem_cons.2 ⟨⟨Tryz.f86, tr197, sp197, Tryz.func86, rfl, c197, rfl⟩, ?_⟩
  refine List.forall_mem_cons.2 ⟨⟨Tryz.f95, tr198, sp198, Tryz.func95, rfl, c198, rfl⟩, ?_⟩
  refine List.forall_mem_cons.2 ⟨⟨Tryz.f96, tr200, sp200, Tryz.func96, rfl, c200, rfl⟩, ?_⟩
  refine List.forall_mem_cons.2 ⟨⟨Tryz.f37, tr201, sp201, Tryz.func37, rfl, c201, rfl⟩, ?_⟩
  refine List.forall_mem_cons.2 ⟨⟨Tryz.f38, tr202, sp202, Tryz.func38, rfl, c202, rfl⟩, ?_⟩
  refine List.forall_mem_cons.2 ⟨⟨Tryz.f83, tr238, sp238, Tryz.func83, rfl, c238, rfl⟩, ?_⟩
  refine List.forall_mem_cons.2 ⟨⟨Tryz.f8, tr239, sp239, Tryz.func8, rfl, c239, rfl⟩, ?_⟩
  refine List.forall_mem_cons.2 ⟨⟨Tryz.f44, tr240, sp240, Tryz.func44, rfl, c240, rfl⟩, ?_⟩
  refine List.forall_mem_cons.2 ⟨⟨Tryz.f55, tr241, sp241, Tryz.func55, rfl, c241, rfl⟩, ?_⟩
  refine List.forall_mem_cons.2 ⟨⟨Tryz.f50, tr242, sp242, Tryz.func50, rfl, c242, rfl⟩, ?_⟩
  refine List.forall_mem_cons.2 ⟨⟨Tryz.f42, tr243, sp243, Tryz.func42, rfl, c243, rfl⟩, ?_⟩
  refine List.forall_mem_cons.2 ⟨⟨Tryz.f43, tr244, sp244, Tryz.func43, rfl, c244, rfl⟩, ?_⟩
  refine List.forall_mem_cons.2 ⟨⟨Tryz.f47, tr245, sp245, Tryz.func47, rfl, c245, rfl⟩, ?_⟩
  refine List.forall_mem_cons.2 ⟨⟨Tryz.f122, tr246, sp246, Tryz.func122, rfl, c246, rfl⟩, ?_⟩
  refine List.forall_mem_cons.2 ⟨⟨Tryz.f123, tr247, sp247, Tryz.func123, rfl, c247, rfl⟩, ?_⟩
  refine List.forall_mem_cons.2 ⟨⟨Tryz.f82, tr248, sp248, Tryz.func82, rfl, c248, rfl⟩, ?_⟩
  refine List.forall_mem_cons.2 ⟨⟨Tryz.f126, tr249, sp249, Tryz.func126, rfl, c249, rfl⟩, ?_⟩
  refine List.forall_mem_cons.2 ⟨⟨Tryz.f91, tr255, sp255, Tryz.func91, rfl, c255, rfl⟩, ?_⟩
  refine List.forall_mem_cons.2 ⟨⟨Tryz.f134, tr256, sp256, Tryz.func134, rfl, c256, rfl⟩, ?_⟩
  refine List.forall_mem_cons.2 ⟨⟨Tryz.f133, tr257, sp257, Tryz.func133, rfl, c257, rfl⟩, ?_⟩
  refine List.forall_mem_cons.2 ⟨⟨Tryz.f125, tr258, sp258, Tryz.func125, rfl, c258, rfl⟩, ?_⟩
  refine List.forall_mem_cons.2 ⟨⟨Tryz.f124, tr259, sp259, Tryz.func124, rfl, c259, rfl⟩, ?_⟩
  refine List.forall_mem_cons.2 ⟨⟨Tryz.f27, tr268, sp268, Tryz.func27, rfl, c268, rfl⟩, ?_⟩
  refine List.forall_mem_cons.2 ⟨⟨Tryz.f81, tr271, sp271, Tryz.func81, rfl, c271, rfl⟩, ?_⟩
  refine List.forall_mem_cons.2 ⟨⟨Tryz.f140, tr272, sp272, Tryz.func140, rfl, c272, rfl⟩, ?_⟩
  refine List.forall_mem_cons.2 ⟨⟨Tryz.f161, tr274, sp274, Tryz.func161, rfl, c274, rfl⟩, ?_⟩
  refine List.forall_mem_cons.2 ⟨⟨Tryz.f93, tr275, sp275, Tryz.func93, rfl, c275, rfl⟩, ?_⟩
  refine List.forall_mem_cons.2 ⟨⟨Tryz.f135, tr276, sp276, Tryz.func135, rfl, c276, rfl⟩, ?_⟩
  refine List.forall_mem_cons.2 ⟨⟨Tryz.f34, tr277, sp277, Tryz.func34, rfl, c277, rfl⟩, ?_⟩
  refine List.forall_mem_cons.2 ⟨⟨Tryz.f35, tr278, sp278, Tryz.func35, rfl, c278, rfl⟩, ?_⟩
  refine List.forall_mem_cons.2 ⟨⟨Tryz.f92, tr279, sp279, Tryz.func92, rfl, c279, rfl⟩, ?_⟩
  refine List.forall_mem_cons.2 ⟨⟨Tryz.f53, tr280, sp280, Tryz.func53, rfl, c280, rfl⟩, ?_⟩
  refine List.forall_mem_cons.2 ⟨⟨Tryz.f97, tr281, sp281, Tryz.func97, rfl, c281, rfl⟩, ?_⟩
  refine List.forall_mem_cons.2 ⟨⟨Tryz.f51, tr282, sp282, Tryz.func51, rfl, c282, rfl⟩, ?_⟩
  refine List.forall_mem_cons.2 ⟨⟨Tryz.f141, tr283, sp283, Tryz.func141, rfl, c283, rfl⟩, ?_⟩
  refine List.forall_mem_cons.2 ⟨⟨Tryz.f162, tr284, sp284, Tryz.func162, rfl, c284, rfl⟩, ?_⟩
  refine List.forall_mem_cons.2 ⟨⟨Tryz.f98, tr285, sp285, Tryz.func98, rfl, c285, rfl⟩, ?_⟩
  refine List.forall_mem_cons.2 ⟨⟨Tryz.f49, tr286, sp286, Tryz.func49, rfl, c286, rfl⟩, ?_⟩
  refine List.forall_mem_cons.2 ⟨⟨Tryz.f137, tr287, sp287, Tryz.func137, rfl, c287, rfl⟩, ?_⟩
  refine List.forall_mem_cons.2 ⟨⟨Tryz.f138, tr288, sp288, Tryz.func138, rfl, c288, rfl⟩, ?_⟩
  refine List.forall_mem_cons.2 ⟨⟨Tryz.f105, tr289, sp289, Tryz.func105, rfl, c289, rfl⟩, ?_⟩
  refine List.forall_mem_cons.2 ⟨⟨Tryz.f158, tr290, sp290, Tryz.func158, rfl, c290, rfl⟩, ?_⟩
  refine List.forall_mem_cons.2 ⟨⟨Tryz.f157, tr291, sp291, Tryz.func157, rfl, c291, rfl⟩, ?_⟩
  refine List.forall_mem_cons.2 ⟨⟨Tryz.f106, tr300, sp300, Tryz.func106, rfl, c300, rfl⟩, ?_⟩
  refine List.forall_mem_cons.2 ⟨⟨Tryz.f139, tr301, sp301, Tryz.func139, rfl, c301, rfl⟩, ?_⟩
  refine List.forall_mem_cons.2 ⟨⟨Tryz.f142, tr302, sp302, Tryz.func142, rfl, c302, rfl⟩, ?_⟩
  refine List.forall_mem_cons.2 ⟨⟨Tryz.f144, tr303, sp303, Tryz.func144, rfl, c303, rfl⟩, ?_⟩
  refine List.forall_mem_cons.2 ⟨⟨Tryz.f143, tr304, sp304, Tryz.func143, rfl, c304, rfl⟩, ?_⟩
  refine List.forall_mem_cons.2 ⟨⟨Tryz.f145, tr305, sp305, Tryz.func145, rfl, c305, rfl⟩, ?_⟩
  refine List.forall_mem_cons.2 ⟨⟨Tryz.f101, tr306, sp306, Tryz.func101, rfl, c306, rfl⟩, ?_⟩
  refine List.forall_mem_cons.2 ⟨⟨Tryz.f46, tr309, sp309, Tryz.func46, rfl, c309, rfl⟩, ?_⟩
  refine List.forall_mem_cons.2 ⟨⟨Tryz.f56, tr310, sp310, Tryz.func56, rfl, c310, rfl⟩, ?_⟩
  refine List.forall_mem_cons.2 ⟨⟨Tryz.f127, tr311, sp311, Tryz.func127, rfl, c311, rfl⟩, ?_⟩
  refine List.forall_mem_cons.2 ⟨⟨Tryz.f41, tr312, sp312, Tryz.func41, rfl, c312, rfl⟩, ?_⟩
  refine List.forall_mem_cons.2 ⟨⟨Tryz.f102, tr313, sp313, Tryz.func102, rfl, c313, rfl⟩, ?_⟩
  refine List.forall_mem_cons.2 ⟨⟨Tryz.f48, tr314, sp314, Tryz.func48, rfl, c314, rfl⟩, ?_⟩
  refine List.forall_mem_cons.2 ⟨⟨Tryz.f52, tr315, sp315, Tryz.func52, rfl, c315, rfl⟩, ?_⟩
  refine List.forall_mem_cons.2 ⟨⟨Tryz.f103, tr316, sp316, Tryz.func103, rfl, c316, rfl⟩, ?_⟩
  refine List.forall_mem_cons.2 ⟨⟨Tryz.f54, tr317, sp317, Tryz.func54, rfl, c317, rfl⟩, ?_⟩
  refine List.forall_mem_cons.2 ⟨⟨Tryz.f156, tr321, sp321, Tryz.func156, rfl, c321, rfl⟩, ?_⟩
  refine List.forall_mem_cons.2 ⟨⟨Tryz.f170, tr322, sp322, Tryz.func170, rfl, c322, rfl⟩, ?_⟩
  refine List.forall_mem_cons.2 ⟨⟨Tryz.f167, tr323, sp323, Tryz.func167, rfl, c323, rfl⟩, ?_⟩
  refine List.forall_mem_cons.2 ⟨⟨Tryz.f168, tr324, sp324, Tryz.func168, rfl, c324, rfl⟩, ?_⟩
  refine List.forall_mem_cons.2 ⟨⟨Tryz.f164, tr325, sp325, Tryz.func164, rfl, c325, rfl⟩, ?_⟩
  refine List.forall_mem_cons.2 ⟨⟨Tryz.f165, tr326, sp326, Tryz.func165, rfl, c326, rfl⟩, ?_⟩
  refine List.forall_mem_cons.2 ⟨⟨Tryz.f110, tr327, sp327, Tryz.func110, rfl, c327, rfl⟩, ?_⟩
  refine List.forall_mem_cons.2 ⟨⟨Tryz.f120, tr328, sp328, Tryz.func120, rfl, c328, rfl⟩, ?_⟩
  refine List.forall_mem_cons.2 ⟨⟨Tryz.f150, tr329, sp329, Tryz.func150, rfl, c329, rfl⟩, ?_⟩
  refine List.forall_mem_cons.2 ⟨⟨Tryz.f166, tr330, sp330, Tryz.func166, rfl, c330, rfl⟩, ?_⟩
  refine List.forall_mem_cons.2 ⟨⟨Tryz.f160, tr331, sp331, Tryz.func160, rfl, c331, rfl⟩, ?_⟩
  refine List.forall_mem_cons.2 ⟨⟨Tryz.f99, tr332, sp332, Tryz.func99, rfl, c332, rfl⟩, ?_⟩
  refine List.forall_mem_cons.2 ⟨⟨Tryz.f159, tr333, sp333, Tryz.func159, rfl, c333, rfl⟩, ?_⟩
  exact List.forall_mem_nil _
theorem tabok : TabOK C tab := tabOK_of (l := seatL) (fun _ => rfl) cbody cmixed crows (fun k id sp ps qs h h1 h2 h3 => by cases h; cases h1; exact canon_raw k h2 h3)
end Go.Proofs.YtogcdllpjcnbkaaGreat.Dx
