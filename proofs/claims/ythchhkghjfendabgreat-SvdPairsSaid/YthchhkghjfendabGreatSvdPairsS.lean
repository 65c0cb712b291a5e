/- The functions of a program come to the trees of the table; printed by program. No conditions. -/
import Derived.Test.YthchhkghjfendabGreatSvdPairsM3
import Derived.Test.YthchhkghjfendabGreatProg
import Derived.KernelRfl
namespace Go.Proofs.YthchhkghjfendabGreat.Dx
open Go
def seatL : List (Nat × Nat) := [(41, 2), (104, 3), (42, 5), (78, 7), (52, 9), (114, 10), (117, 12), (4, 79), (10, 84), (12, 85), (119, 86), (210, 88), (59, 89), (127, 90), (57, 91), (177, 92), (64, 93), (126, 94), (58, 95), (16, 96), (179, 98), (122, 100), (178, 101), (128, 102), (129, 103), (55, 104), (22, 105), (120, 106), (118, 107), (23, 108), (121, 109), (15, 110), (17, 111), (62, 112), (56, 113), (63, 114), (88, 120), (123, 121), (98, 122), (125, 125), (124, 126), (61, 128), (91, 141), (69, 155), (21, 162), (40, 164), (60, 166), (19, 167), (39, 172), (26, 178), (20, 179), (18, 183), (9, 184), (13, 186), (112, 230), (152, 231), (99, 246), (115, 247), (45, 248), (107, 249), (172, 255), (207, 256), (174, 257), (106, 258), (105, 259), (169, 272), (205, 274), (100, 280), (101, 281), (113, 282), (173, 283), (208, 284), (102, 285), (171, 286), (166, 287), (167, 288), (187, 289), (198, 290), (197, 291), (11, 293), (51, 294), (53, 295), (49, 296), (47, 297), (44, 298), (111, 299), (206, 300), (168, 301), (199, 302), (201, 303), (200, 304), (203, 305), (108, 306), (43, 309), (170, 310), (132, 311), (54, 312), (109, 313), (46, 314), (48, 315), (110, 316), (133, 317), (186, 321), (204, 331), (103, 332), (202, 333), (50, 334), (175, 335), (209, 336), (116, 337), (221, 338), (176, 339)]
def fidM (f : FuncId) : Option Nat := (seatL.find? (·.1 == f)).map (·.2)
noncomputable def C : Ctx := { P := Tryz.prog, fid := fidM, spec := spc, canon := none }
theorem c2 : symFun C Tryz.f41 sp2 = some tr2 := by kernel_rfl
theorem c3 : symFun C Tryz.f104 sp3 = some tr3 := by kernel_rfl
theorem c5 : symFun C Tryz.f42 sp5 = some tr5 := by kernel_rfl
theorem c7 : symFun C Tryz.f78 sp7 = some tr7 := by kernel_rfl
theorem c9 : symFun C Tryz.f52 sp9 = some tr9 := by kernel_rfl
theorem c10 : symFun C Tryz.f114 sp10 = some tr10 := by kernel_rfl
theorem c12 : symFun C Tryz.f117 sp12 = some tr12 := by kernel_rfl
theorem c79 : symFun C Tryz.f4 sp79 = some tr79 := by kernel_rfl
theorem c84 : symFun C Tryz.f10 sp84 = some tr84 := by kernel_rfl
theorem c85 : symFun C Tryz.f12 sp85 = some tr85 := by kernel_rfl
theorem c86 : symFun C Tryz.f119 sp86 = some tr86 := by kernel_rfl
theorem c88 : symFun C Tryz.f210 sp88 = some tr88 := by kernel_rfl
theorem c89 : symFun C Tryz.f59 sp89 = some tr89 := by kernel_rfl
theorem c90 : symFun C Tryz.f127 sp90 = some tr90 := by kernel_rfl
theorem c91 : symFun C Tryz.f57 sp91 = some tr91 := by kernel_rfl
theorem c92 : symFun C Tryz.f177 sp92 = some tr92 := by kernel_rfl
theorem c93 : symFun C Tryz.f64 sp93 = some tr93 := by kernel_rfl
theorem c94 : symFun C Tryz.f126 sp94 = some tr94 := by kernel_rfl
theorem c95 : symFun C Tryz.f58 sp95 = some tr95 := by kernel_rfl
theorem c96 : symFun C Tryz.f16 sp96 = some tr96 := by kernel_rfl
theorem c98 : symFun C Tryz.f179 sp98 = some tr98 := by kernel_rfl
theorem c100 : symFun C Tryz.f122 sp100 = some tr100 := by kernel_rfl
theorem c101 : symFun C Tryz.f178 sp101 = some tr101 := by kernel_rfl
theorem c102 : symFun C Tryz.f128 sp102 = some tr102 := by kernel_rfl
theorem c103 : symFun C Tryz.f129 sp103 = some tr103 := by kernel_rfl
theorem c104 : symFun C Tryz.f55 sp104 = some tr104 := by kernel_rfl
theorem c105 : symFun C Tryz.f22 sp105 = some tr105 := by kernel_rfl
theorem c106 : symFun C Tryz.f120 sp106 = some tr106 := by kernel_rfl
theorem c107 : symFun C Tryz.f118 sp107 = some tr107 := by kernel_rfl
theorem c108 : symFun C Tryz.f23 sp108 = some tr108 := by kernel_rfl
theorem c109 : symFun C Tryz.f121 sp109 = some tr109 := by kernel_rfl
theorem c110 : symFun C Tryz.f15 sp110 = some tr110 := by kernel_rfl
theorem c111 : symFun C Tryz.f17 sp111 = some tr111 := by kernel_rfl
theorem c112 : symFun C Tryz.f62 sp112 = some tr112 := by kernel_rfl
theorem c113 : symFun C Tryz.f56 sp113 = some tr113 := by kernel_rfl
theorem c114 : symFun C Tryz.f63 sp114 = some tr114 := by kernel_rfl
theorem c120 : symFun C Tryz.f88 sp120 = some tr120 := by kernel_rfl
theorem c121 : symFun C Tryz.f123 sp121 = some tr121 := by kernel_rfl
theorem c122 : symFun C Tryz.f98 sp122 = some tr122 := by kernel_rfl
theorem c125 : symFun C Tryz.f125 sp125 = some tr125 := by kernel_rfl
theorem c126 : symFun C Tryz.f124 sp126 = some tr126 := by kernel_rfl
theorem c128 : symFun C Tryz.f61 sp128 = some tr128 := by kernel_rfl
theorem c141 : symFun C Tryz.f91 sp141 = some tr141 := by kernel_rfl
theorem c155 : symFun C Tryz.f69 sp155 = some tr155 := by kernel_rfl
theorem c162 : symFun C Tryz.f21 sp162 = some tr162 := by kernel_rfl
theorem c164 : symFun C Tryz.f40 sp164 = some tr164 := by kernel_rfl
theorem c166 : symFun C Tryz.f60 sp166 = some tr166 := by kernel_rfl
theorem c167 : symFun C Tryz.f19 sp167 = some tr167 := by kernel_rfl
theorem c172 : symFun C Tryz.f39 sp172 = some tr172 := by kernel_rfl
theorem c178 : symFun C Tryz.f26 sp178 = some tr178 := by kernel_rfl
theorem c179 : symFun C Tryz.f20 sp179 = some tr179 := by kernel_rfl
theorem c183 : symFun C Tryz.f18 sp183 = some tr183 := by kernel_rfl
theorem c184 : symFun C Tryz.f9 sp184 = some tr184 := by kernel_rfl
theorem c186 : symFun C Tryz.f13 sp186 = some tr186 := by kernel_rfl
theorem c230 : symFun C Tryz.f112 sp230 = some tr230 := by kernel_rfl
theorem c231 : symFun C Tryz.f152 sp231 = some tr231 := by kernel_rfl
theorem c246 : symFun C Tryz.f99 sp246 = some tr246 := by kernel_rfl
theorem c247 : symFun C Tryz.f115 sp247 = some tr247 := by kernel_rfl
theorem c248 : symFun C Tryz.f45 sp248 = some tr248 := by kernel_rfl
theorem c249 : symFun C Tryz.f107 sp249 = some tr249 := by kernel_rfl
theorem c255 : symFun C Tryz.f172 sp255 = some tr255 := by kernel_rfl
theorem c256 : symFun C Tryz.f207 sp256 = some tr256 := by kernel_rfl
theorem c257 : symFun C Tryz.f174 sp257 = some tr257 := by kernel_rfl
theorem c258 : symFun C Tryz.f106 sp258 = some tr258 := by kernel_rfl
theorem c259 : symFun C Tryz.f105 sp259 = some tr259 := by kernel_rfl
theorem c272 : symFun C Tryz.f169 sp272 = some tr272 := by kernel_rfl
theorem c274 : symFun C Tryz.f205 sp274 = some tr274 := by kernel_rfl
theorem c280 : symFun C Tryz.f100 sp280 = some tr280 := by kernel_rfl
theorem c281 : symFun C Tryz.f101 sp281 = some tr281 := by kernel_rfl
theorem c282 : symFun C Tryz.f113 sp282 = some tr282 := by kernel_rfl
theorem c283 : symFun C Tryz.f173 sp283 = some tr283 := by kernel_rfl
theorem c284 : symFun C Tryz.f208 sp284 = some tr284 := by kernel_rfl
theorem c285 : symFun C Tryz.f102 sp285 = some tr285 := by kernel_rfl
theorem c286 : symFun C Tryz.f171 sp286 = some tr286 := by kernel_rfl
theorem c287 : symFun C Tryz.f166 sp287 = some tr287 := by kernel_rfl
theorem c288 : symFun C Tryz.f167 sp288 = some tr288 := by kernel_rfl
theorem c289 : symFun C Tryz.f187 sp289 = some tr289 := by kernel_rfl
theorem c290 : symFun C Tryz.f198 sp290 = some tr290 := by kernel_rfl
theorem c291 : symFun C Tryz.f197 sp291 = some tr291 := by kernel_rfl
theorem c293 : symFun C Tryz.f11 sp293 = some tr293 := by kernel_rfl
theorem c294 : symFun C Tryz.f51 sp294 = some tr294 := by kernel_rfl
theorem c295 : symFun C Tryz.f53 sp295 = some tr295 := by kernel_rfl
theorem c296 : symFun C Tryz.f49 sp296 = some tr296 := by kernel_rfl
theorem c297 : symFun C Tryz.f47 sp297 = some tr297 := by kernel_rfl
theorem c298 : symFun C Tryz.f44 sp298 = some tr298 := by kernel_rfl
theorem c299 : symFun C Tryz.f111 sp299 = some tr299 := by kernel_rfl
theorem c300 : symFun C Tryz.f206 sp300 = some tr300 := by kernel_rfl
theorem c301 : symFun C Tryz.f168 sp301 = some tr301 := by kernel_rfl
theorem c302 : symFun C Tryz.f199 sp302 = some tr302 := by kernel_rfl
theorem c303 : symFun C Tryz.f201 sp303 = some tr303 := by kernel_rfl
theorem c304 : symFun C Tryz.f200 sp304 = some tr304 := by kernel_rfl
theorem c305 : symFun C Tryz.f203 sp305 = some tr305 := by kernel_rfl
theorem c306 : symFun C Tryz.f108 sp306 = some tr306 := by kernel_rfl
theorem c309 : symFun C Tryz.f43 sp309 = some tr309 := by kernel_rfl
theorem c310 : symFun C Tryz.f170 sp310 = some tr310 := by kernel_rfl
theorem c311 : symFun C Tryz.f132 sp311 = some tr311 := by kernel_rfl
theorem c312 : symFun C Tryz.f54 sp312 = some tr312 := by kernel_rfl
theorem c313 : symFun C Tryz.f109 sp313 = some tr313 := by kernel_rfl
theorem c314 : symFun C Tryz.f46 sp314 = some tr314 := by kernel_rfl
theorem c315 : symFun C Tryz.f48 sp315 = some tr315 := by kernel_rfl
theorem c316 : symFun C Tryz.f110 sp316 = some tr316 := by kernel_rfl
theorem c317 : symFun C Tryz.f133 sp317 = some tr317 := by kernel_rfl
theorem c321 : symFun C Tryz.f186 sp321 = some tr321 := by kernel_rfl
theorem c331 : symFun C Tryz.f204 sp331 = some tr331 := by kernel_rfl
theorem c332 : symFun C Tryz.f103 sp332 = some tr332 := by kernel_rfl
theorem c333 : symFun C Tryz.f202 sp333 = some tr333 := by kernel_rfl
theorem c334 : symFun C Tryz.f50 sp334 = some tr334 := by kernel_rfl
theorem c335 : symFun C Tryz.f175 sp335 = some tr335 := by kernel_rfl
theorem c336 : symFun C Tryz.f209 sp336 = some tr336 := by kernel_rfl
theorem c337 : symFun C Tryz.f116 sp337 = some tr337 := by kernel_rfl
theorem c338 : symFun C Tryz.f221 sp338 = some tr338 := by kernel_rfl
theorem c339 : symFun C Tryz.f176 sp339 = some tr339 := by kernel_rfl
theorem cbody : (seatL.all fun p => (C.P.funcs[p.1]?).any fun fn => fn.body.isSome && fn.name != "runtime.NumGoroutine") = true := by kernel_rfl
theorem cmixed : C.P.follows .mixedOrders = true := by kernel_rfl
theorem crows : ∀ p ∈ seatL, RowOK C tab p := by
  unfold seatL
  refine List.forall_mem_cons.2 ⟨⟨Tryz.f41, tr2, sp2, Tryz.func41, rfl, c2, rfl⟩, ?_⟩
  refine List.forall_mem_cons.2 ⟨⟨Tryz.f104, tr3, sp3, Tryz.func104, rfl, c3, rfl⟩, ?_⟩
  refine List.forall_mem_cons.2 ⟨⟨Tryz.f42, tr5, sp5, Tryz.func42, rfl, c5, rfl⟩, ?_⟩
  refine List.forall_mem_cons.2 ⟨⟨Tryz.f78, tr7, sp7, Tryz.func78, rfl, c7, rfl⟩, ?_⟩
  refine List.forall_mem_cons.2 ⟨⟨Tryz.f52, tr9, sp9, Tryz.func52, rfl, c9, rfl⟩, ?_⟩
  refine List.forall_mem_cons.2 ⟨⟨Tryz.f114, tr10, sp10, Tryz.func114, rfl, c10, rfl⟩, ?_⟩
  refine List.forall_mem_cons.2 ⟨⟨Tryz.f117, tr12, sp12, Tryz.func117, rfl, c12, rfl⟩, ?_⟩
  refine List.forall_mem_cons.2 ⟨⟨Tryz.f4, tr79, sp79, Tryz.func4, rfl, c79, rfl⟩, ?_⟩
  refine List.forall_mem_cons.2 ⟨⟨Tryz.f10, tr84, sp84, Tryz.func10, rfl, c84, rfl⟩, ?_⟩
  refine List.forall_mem_cons.2 ⟨⟨Tryz.f12, tr85, sp85, Tryz.func12, rfl, c85, rfl⟩, ?_⟩
  refine List.forall_mem_cons.2 ⟨⟨Tryz.f119, tr86, sp86, Tryz.func119, rfl, c86, rfl⟩, ?_⟩
  refine List.forall_mem_cons.2 ⟨⟨Tryz.f210, tr88, sp88, Tryz.func210, rfl, c88, rfl⟩, ?_⟩
  refine List.forall_mem_cons.2 ⟨⟨Tryz.f59, tr89, sp89, Tryz.func59, rfl, c89, rfl⟩, ?_⟩
  refine List.forall_mem_cons.2 ⟨⟨Tryz.f127, tr90, sp90, Tryz.func127, rfl, c90, rfl⟩, ?_⟩
  refine List.forall_mem_cons.2 ⟨⟨Tryz.f57, tr91, sp91, Tryz.func57, rfl, c91, rfl⟩, ?_⟩
  refine List.forall_mem_cons.2 ⟨⟨Tryz.f177, tr92, sp92, Tryz.func177, rfl, c92, rfl⟩, ?_⟩
  refine List.forall_mem_cons.2 ⟨⟨Tryz.f64, tr93, sp93, Tryz.func64, rfl, c93, rfl⟩, ?_⟩
  refine List.forall_mem_cons.2 ⟨⟨Tryz.f126, tr94, sp94, Tryz.func126, rfl, c94, rfl⟩, ?_⟩
  refine List.forall_mem_cons.2 ⟨⟨Tryz.f58, tr95, sp95, Tryz.func58, rfl, c95, rfl⟩, ?_⟩
  refine List.forall_mem_cons.2 ⟨⟨Tryz.f16, tr96, sp96, Tryz.func16, rfl, c96, rfl⟩, ?_⟩
  refine List.forall_mem_cons.2 ⟨⟨Tryz.f179, tr98, sp98, Tryz.func179, rfl, c98, rfl⟩, ?_⟩
  refine List.forall_mem_cons.2 ⟨⟨Tryz.f122, tr100, sp100, Tryz.func122, rfl, c100, rfl⟩, ?_⟩
  refine List.forall_mem_cons.2 ⟨⟨Tryz.f178, tr101, sp101, Tryz.func178, rfl, c101, rfl⟩, ?_⟩
  refine List.forall_mem_cons.2 ⟨⟨Tryz.f128, tr102, sp102, Tryz.func128, rfl, c102, rfl⟩, ?_⟩
  refine List.forall_mem_cons.2 ⟨⟨Tryz.f129, tr103, sp103, Tryz.func129, rfl, c103, rfl⟩, ?_⟩
  refine List.forall_mem_cons.2 ⟨⟨Tryz.f55, tr104, sp104, Tryz.func55, rfl, c104, rfl⟩, ?_⟩
  refine List.forall_mem_cons.2 ⟨⟨Tryz.f22, tr105, sp105, Tryz.func22, rfl, c105, rfl⟩, ?_⟩
  refine List.forall_mem_cons.2 ⟨⟨Tryz.f120, tr106, sp106, Tryz.func120, rfl, c106, rfl⟩, ?_⟩
  refine List.forall_mem_cons.2 ⟨⟨Tryz.f118, tr107, sp107, Tryz.func118, rfl, c107, rfl⟩, ?_⟩
  refine List.forall_mem_cons.2 ⟨⟨Tryz.f23, tr108, sp108, Tryz.func23, rfl, c108, rfl⟩, ?_⟩
  refine List.forall_mem_cons.2 ⟨⟨Tryz.f121, tr109, sp109, Tryz.func121, rfl, c109, rfl⟩, ?_⟩
  refine List.forall_mem_cons.2 ⟨⟨Tryz.f15, tr110, sp110, Tryz.func15, rfl, c110, rfl⟩, ?_⟩
  refine List.forall_mem_cons.2 ⟨⟨Tryz.f17, tr111, sp111, Tryz.func17, rfl, c111, rfl⟩, ?_⟩
  refine List.forall_mem_cons.2 ⟨⟨Tryz.f62, tr112, sp112, Tryz.func62, rfl, c112, rfl⟩, ?_⟩
  refine List.forall_mem_cons.2 ⟨⟨Tryz.f56, tr113, sp113, Tryz.func56, rfl, c113, rfl⟩, ?_⟩
  refine List.forall_mem_cons.2 ⟨⟨Tryz.f63, tr114, sp114, Tryz.func63, rfl, c114, rfl⟩, ?_⟩
  refine List.forall_mem_cons.2 ⟨⟨Tryz.f88, tr120, sp120, Tryz.func88, rfl, c120, rfl⟩, ?_⟩
  refine List.forall_mem_cons.2 ⟨⟨Tryz.f123, tr121, sp121, Tryz.func123, rfl, c121, rfl⟩, ?_⟩
  refine List.forall_mem_cons.2 ⟨⟨Tryz.f98, tr122, sp122, Tryz.func98, rfl, c122, rfl⟩, ?_⟩
  refine List.forall_mem_cons.2 ⟨⟨Tryz.f125, tr125, sp125, Tryz.func125, rfl, c125, rfl⟩, ?_⟩
  refine List.forall_mem_cons.2 ⟨⟨Tryz.f124, tr126, sp126, Tryz.func124, rfl, c126, rfl⟩, ?_⟩
  refine List.forall_mem_cons.2 ⟨⟨Tryz.f61, tr128, sp128, Tryz.func61, rfl, c128, rfl⟩, ?_⟩
  refine List.forall_mem_cons.2 ⟨⟨Tryz.f91, tr141, sp141, Tryz.func91, rfl, c141, rfl⟩, ?_⟩
  refine List.forall_mem_cons.2 ⟨⟨Tryz.f69, tr155, sp155, Tryz.func69, rfl, c155, rfl⟩, ?_⟩
  refine List.forall_mem_cons.2 ⟨⟨Tryz.f21, tr162, sp162, Tryz.func21, rfl, c162, rfl⟩, ?_⟩
  refine List.forall_mem_cons.2 ⟨⟨Tryz.f40, tr164, sp164, Tryz.func40, rfl, c164, rfl⟩, ?_⟩
  refine List.forall_mem_cons.2 ⟨⟨Tryz.f60, tr166, sp166, Tryz.func60, rfl, c166, rfl⟩, ?_⟩
  refine List.forall_mem_cons.2 ⟨⟨Tryz.f19, tr167, sp167, Tryz.func19, rfl, c167, rfl⟩, ?_⟩
  refine List.forall_mem_cons.2 ⟨⟨Tryz.f39, tr172, sp172, Tryz.func39, rfl, c172, rfl⟩, ?_⟩
  refine List.forall_mem_cons.2 ⟨⟨Tryz.f26, tr178, sp178, Tryz.func26, rfl, c178, rfl⟩, ?_⟩
  refine List.forall_mem_cons.2 ⟨⟨Tryz.f20, tr179, sp179, Tryz.func20, rfl, c179, rfl⟩, ?_⟩
  refine List.forall_mem_cons.2 ⟨⟨Tryz.f18, tr183, sp183, Tryz.func18, rfl, c183, rfl⟩, ?_⟩
  refine List.forall_mem_cons.2 ⟨⟨Tryz.f9, tr184, sp184, Tryz.func9, rfl, c184, rfl⟩, ?_⟩
  refine List.forall_mem_cons.2 ⟨⟨Tryz.f13, tr186, sp186, Tryz.func13, rfl, c186, rfl⟩, ?_⟩
  refine List.forall_mem_cons.2 ⟨⟨Tryz.f112, tr230, sp230, Tryz.func112, rfl, c230, rfl⟩, ?_⟩
  refine List.forall_mem_cons.2 ⟨⟨Tryz.f152, tr231, sp231, Tryz.func152, rfl, c231, rfl⟩, ?_⟩
  refine List.forall_mem_cons.2 ⟨⟨Tryz.f99, tr246, sp246, Tryz.func99, rfl, c246, rfl⟩, ?_⟩
  refine List.forall_mem_cons.2 ⟨⟨Tryz.f115, tr247, sp247, Tryz.func115, rfl, c247, rfl⟩, ?_⟩
  refine List.forall_mem_cons.2 ⟨⟨Tryz.f45, tr248, sp248, Tryz.func45, rfl, c248, rfl⟩, ?_⟩
  refine List.forall_mem_cons.2 ⟨⟨Tryz.f107, tr249, sp249, Tryz.func107, rfl, c249, rfl⟩, ?_⟩
  refine List.forall_mem_cons.2 ⟨⟨Tryz.f172, tr255, sp255, Tryz.func172, rfl, c255, rfl⟩, ?_⟩
  refine List.forall_mem_cons.2 ⟨⟨Tryz.f207, tr256, sp256, Tryz.func207, rfl, c256, rfl⟩, ?_⟩
  refine List.forall_mem_cons.2 ⟨⟨Tryz.f174, tr257, sp257, Tryz.func174, rfl, c257, rfl⟩, ?_⟩
  refine List.forall_mem_cons.2 ⟨⟨Tryz.f106, tr258, sp258, Tryz.func106, rfl, c258, rfl⟩, ?_⟩
  refine List.forall_mem_cons.2 ⟨⟨Tryz.f105, tr259, sp259, Tryz.func105, rfl, c259, rfl⟩, ?_⟩
  refine List.forall_mem_cons.2 ⟨⟨Tryz.f169, tr272, sp272, Tryz.func169, rfl, c272, rfl⟩, ?_⟩
  refine List.forall_mem_cons.2 ⟨⟨Tryz.f205, tr274, sp274, Tryz.func205, rfl, c274, rfl⟩, ?_⟩
  refine List.forall_mem_cons.2 ⟨⟨Tryz.f100, tr280, sp280, Tryz.func100, rfl, c280, rfl⟩, ?_⟩
  refine List.forall_mem_cons.2 ⟨⟨Tryz.f101, tr281, sp281, Tryz.func101, rfl, c281, rfl⟩, ?_⟩
  refine List.forall_mem_cons.2 ⟨⟨Tryz.f113, tr282, sp282, Tryz.func113, rfl, c282, rfl⟩, ?_⟩
  refine List.forall_mem_cons.2 ⟨⟨Tryz.f173, tr283, sp283, Tryz.func173, rfl, c283, rfl⟩, ?_⟩
  refine List.forall_mem_cons.2 ⟨⟨Tryz.f208, tr284, sp284, Tryz.func208, rfl, c284, rfl⟩, ?_⟩
  refine List.forall_mem_cons.2 ⟨⟨Tryz.f102, tr285, sp285, Tryz.func102, rfl, c285, rfl⟩, ?_⟩
  refine List.forall_mem_cons.2 ⟨⟨Tryz.f171, tr286, sp286, Tryz.func171, rfl, c286, rfl⟩, ?_⟩
  refine List.forall_mem_cons.2 ⟨⟨Tryz.f166, tr287, sp287, Tryz.func166, rfl, c287, rfl⟩, ?_⟩
  refine List.forall_mem_cons.2 ⟨⟨Tryz.f167, tr288, sp288, Tryz.func167, rfl, c288, rfl⟩, ?_⟩
  refine List.forall_mem_cons.2 ⟨⟨Tryz.f187, tr289, sp289, Tryz.func187, rfl, c289, rfl⟩, ?_⟩
  refine List.forall_mem_cons.2 ⟨⟨Tryz.f198, tr290, sp290, Tryz.func198, rfl, c290, rfl⟩, ?_⟩
  refine List.forall_mem_cons.2 ⟨⟨Tryz.f197, tr291, sp291, Tryz.func197, rfl, c291, rfl⟩, ?_⟩
  refine List.forall_mem_cons.2 ⟨⟨Tryz.f11, tr293, sp293, Tryz.func11, rfl, c293, rfl⟩, ?_⟩
  refine List.forall_mem_cons.2 ⟨⟨Tryz.f51, tr294, sp294, Tryz.func51, rfl, c294, rfl⟩, ?_⟩
  refine List.forall_mem_cons.2 ⟨⟨Tryz.f53, tr295, sp295, Tryz.func53, rfl, c295, rfl⟩, ?_⟩
  refine List.forall_mem_cons.2 ⟨⟨Tryz.f49, tr296, sp296, Tryz.func49, rfl, c296, rfl⟩, ?_⟩
  refine List.forall_mem_cons.2 ⟨⟨Tryz.f47, tr297, sp297, Tryz.func47, rfl, c297, rfl⟩, ?_⟩
  refine List.forall_mem_cons.2 ⟨⟨Tryz.f44, tr298, sp298, Tryz.func44, rfl, c298, rfl⟩, ?_⟩
  refine List.forall_mem_cons.2 ⟨⟨Tryz.f111, tr299, sp299, Tryz.func111, rfl, c299, rfl⟩, ?_⟩
  refine List.forall_mem_cons.2 ⟨⟨Tryz.f206, tr300, sp300, Tryz.func206, rfl, c300, rfl⟩, ?_⟩
  refine List.forall_mem_cons.2 ⟨⟨Tryz.f168, tr301, sp301, Tryz.func168, rfl, c301, rfl⟩, ?_⟩
  refine List.forall_mem_cons.2 ⟨⟨Tryz.f199, tr302, sp302, Tryz.func199, rfl, c302, rfl⟩, ?_⟩
  refine List.forall_mem_cons.2 ⟨⟨Tryz.f201, tr303, sp303, Tryz.func201, rfl, c303, rfl⟩, ?_⟩
  refine List.forall_mem_cons.2 ⟨⟨Tryz.f200, tr304, sp304, Tryz.func200, rfl, c304, rfl⟩, ?_⟩
  refine List.forall_mem_cons.2 ⟨⟨Tryz.f203, tr305, sp305, Tryz.func203, rfl, c305, rfl⟩, ?_⟩
  refine List.forall_mem_cons.2 ⟨⟨Tryz.f108, tr306, sp306, Tryz.func108, rfl, c306, rfl⟩, ?_⟩
  refine List.forall_mem_cons.2 ⟨⟨Tryz.f43, tr309, sp309, Tryz.func43, rfl, c309, rfl⟩, ?_⟩
  refine List.forall_mem_cons.2 ⟨⟨Tryz.f170, tr310, sp310, Tryz.func170, rfl, c310, rfl⟩, ?_⟩
  refine List.forall_mem_cons.2 ⟨⟨Tryz.f132, tr311, sp311, Tryz.func132, rfl, c311, rfl⟩, ?_⟩
  refine List.forall_mem_cons.2 ⟨⟨Tryz.f54, tr312, sp312, Tryz.func54, rfl, c312, rfl⟩, ?_⟩
  refine List.forall_mem_cons.2 ⟨⟨Tryz.f109, tr313, sp313, Tryz.func109, rfl, c313, rfl⟩, ?_⟩
  refine List.forall_mem_cons.2 ⟨⟨Tryz.f46, tr314, sp314, Tryz.func46, rfl, c314, rfl⟩, ?_⟩
  refine List.forall_mem_cons.2 ⟨⟨Tryz.f48, tr315, sp315, Tryz.func48, rfl, c315, rfl⟩, ?_⟩
  refine List.forall_mem_cons.2 ⟨⟨Tryz.f110, tr316, sp316, Tryz.func110, rfl, c316, rfl⟩, ?_⟩
  refine List.forall_mem_cons.2 ⟨⟨Tryz.f133, tr317, sp317, Tryz.func133, rfl, c317, rfl⟩, ?_⟩
  refine List.forall_mem_cons.2 ⟨⟨Tryz.f186, tr321, sp321, Tryz.func186, rfl, c321, rfl⟩, ?_⟩
  refine List.forall_mem_cons.2 ⟨⟨Tryz.f204, tr331, sp331, Tryz.func204, rfl, c331, rfl⟩, ?_⟩
  refine List.forall_mem_cons.2 ⟨⟨Tryz.f103, tr332, sp332, Tryz.func103, rfl, c332, rfl⟩, ?_⟩
  refine List.forall_mem_cons.2 ⟨⟨Tryz.f202, tr333, sp333, Tryz.func202, rfl, c333, rfl⟩, ?_⟩
  refine List.forall_mem_cons.2 ⟨⟨Tryz.f50, tr334, sp334, Tryz.func50, rfl, c334, rfl⟩, ?_⟩
  refine List.forall_mem_cons.2 ⟨⟨Tryz.f175, tr335, sp335, Tryz.func175, rfl, c335, rfl⟩, ?_⟩
  refine List.forall_mem_cons.2 ⟨⟨Tryz.f209, tr336, sp336, Tryz.func209, rfl, c336, rfl⟩, ?_⟩
  refine List.forall_mem_cons.2 ⟨⟨Tryz.f116, tr337, sp337, Tryz.func116, rfl, c337, rfl⟩, ?_⟩
  refine List.forall_mem_cons.2 ⟨⟨Tryz.f221, tr338, sp338, Tryz.func221, rfl, c338, rfl⟩, ?_⟩
  refine List.forall_mem_cons.2 ⟨⟨Tryz.f176, tr339, sp339, Tryz.func176, rfl, c339, rfl⟩, ?_⟩
  exact List.forall_mem_nil _
theorem tabok : TabOK C tab := tabOK_of (l := seatL) (fun _ => rfl) cbody cmixed crows (fun k id sp ps qs h _ _ _ => by cases h)
end Go.Proofs.YthchhkghjfendabGreat.Dx
