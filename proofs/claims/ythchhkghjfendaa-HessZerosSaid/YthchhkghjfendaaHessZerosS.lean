/- The functions of a program come to the trees of the table; printed by program. No conditions. -/
import Derived.Test.YthchhkghjfendaaHessZerosM2
import Derived.Test.YthchhkghjfendaaProg
import Derived.KernelRfl
namespace Go.Proofs.Ythchhkghjfendaa.Dx
open Go
def seatL : List (Nat × Nat) := [(20, 0), (19, 1), (11, 2), (70, 3), (48, 5), (73, 10), (4, 75), (9, 76), (45, 159), (10, 166), (22, 169), (23, 174), (44, 176), (43, 177), (42, 230), (41, 231), (39, 232), (8, 233), (40, 235), (21, 236), (18, 237), (16, 238), (30, 239), (56, 240), (61, 241), (59, 242), (54, 243), (55, 244), (57, 245), (24, 246), (28, 247), (15, 248), (33, 249), (68, 250), (85, 251), (86, 254), (67, 255), (83, 256), (52, 257), (32, 258), (31, 259), (84, 260), (37, 268), (38, 270), (66, 271), (75, 272), (91, 274), (25, 280), (46, 281), (60, 282), (87, 283), (92, 284), (71, 285), (58, 286), (69, 287), (74, 288), (65, 289), (89, 290), (88, 291), (77, 300), (64, 301), (78, 302), (80, 303), (79, 304), (82, 305), (50, 306), (47, 309), (62, 310), (34, 311), (17, 312), (35, 313), (27, 314), (49, 315), (51, 316), (36, 317), (63, 321), (90, 331), (72, 332), (81, 333)]
def fidM (f : FuncId) : Option Nat := (seatL.find? (·.1 == f)).map (·.2)
noncomputable def C : Ctx := { P := Try.prog, fid := fidM, spec := spc, canon := none }
theorem c0 : symFun C Try.f20 sp0 = some tr0 := by kernel_rfl
theorem c1 : symFun C Try.f19 sp1 = some tr1 := by kernel_rfl
theorem c2 : symFun C Try.f11 sp2 = some tr2 := by kernel_rfl
theorem c3 : symFun C Try.f70 sp3 = some tr3 := by kernel_rfl
theorem c5 : symFun C Try.f48 sp5 = some tr5 := by kernel_rfl
theorem c10 : symFun C Try.f73 sp10 = some tr10 := by kernel_rfl
theorem c75 : symFun C Try.f4 sp75 = some tr75 := by kernel_rfl
theorem c76 : symFun C Try.f9 sp76 = some tr76 := by kernel_rfl
theorem c159 : symFun C Try.f45 sp159 = some tr159 := by kernel_rfl
theorem c166 : symFun C Try.f10 sp166 = some tr166 := by kernel_rfl
theorem c169 : symFun C Try.f22 sp169 = some tr169 := by kernel_rfl
theorem c174 : symFun C Try.f23 sp174 = some tr174 := by kernel_rfl
theorem c176 : symFun C Try.f44 sp176 = some tr176 := by kernel_rfl
theorem c177 : symFun C Try.f43 sp177 = some tr177 := by kernel_rfl
theorem c230 : symFun C Try.f42 sp230 = some tr230 := by kernel_rfl
theorem c231 : symFun C Try.f41 sp231 = some tr231 := by kernel_rfl
theorem c232 : symFun C Try.f39 sp232 = some tr232 := by kernel_rfl
theorem c233 : symFun C Try.f8 sp233 = some tr233 := by kernel_rfl
theorem c235 : symFun C Try.f40 sp235 = some tr235 := by kernel_rfl
theorem c236 : symFun C Try.f21 sp236 = some tr236 := by kernel_rfl
theorem c237 : symFun C Try.f18 sp237 = some tr237 := by kernel_rfl
theorem c238 : symFun C Try.f16 sp238 = some tr238 := by kernel_rfl
theorem c239 : symFun C Try.f30 sp239 = some tr239 := by kernel_rfl
theorem c240 : symFun C Try.f56 sp240 = some tr240 := by kernel_rfl
theorem c241 : symFun C Try.f61 sp241 = some tr241 := by kernel_rfl
theorem c242 : symFun C Try.f59 sp242 = some tr242 := by kernel_rfl
theorem c243 : symFun C Try.f54 sp243 = some tr243 := by kernel_rfl
theorem c244 : symFun C Try.f55 sp244 = some tr244 := by kernel_rfl
theorem c245 : symFun C Try.f57 sp245 = some tr245 := by kernel_rfl
theorem c246 : symFun C Try.f24 sp246 = some tr246 := by kernel_rfl
theorem c247 : symFun C Try.f28 sp247 = some tr247 := by kernel_rfl
theorem c248 : symFun C Try.f15 sp248 = some tr248 := by kernel_rfl
theorem c249 : symFun C Try.f33 sp249 = some tr249 := by kernel_rfl
theorem c250 : symFun C Try.f68 sp250 = some tr250 := by kernel_rfl
theorem c251 : symFun C Try.f85 sp251 = some tr251 := by kernel_rfl
theorem c254 : symFun C Try.f86 sp254 = some tr254 := by kernel_rfl
theorem c255 : symFun C Try.f67 sp255 = some tr255 := by kernel_rfl
theorem c256 : symFun C Try.f83 sp256 = some tr256 := by kernel_rfl
theorem c257 : symFun C Try.f52 sp257 = some tr257 := by kernel_rfl
theorem c258 : symFun C Try.f32 sp258 = some tr258 := by kernel_rfl
theorem c259 : symFun C Try.f31 sp259 = some tr259 := by kernel_rfl
theorem c260 : symFun C Try.f84 sp260 = some tr260 := by kernel_rfl
theorem c268 : symFun C Try.f37 sp268 = some tr268 := by kernel_rfl
theorem c270 : symFun C Try.f38 sp270 = some tr270 := by kernel_rfl
theorem c271 : symFun C Try.f66 sp271 = some tr271 := by kernel_rfl
theorem c272 : symFun C Try.f75 sp272 = some tr272 := by kernel_rfl
theorem c274 : symFun C Try.f91 sp274 = some tr274 := by kernel_rfl
theorem c280 : symFun C Try.f25 sp280 = some tr280 := by kernel_rfl
theorem c281 : symFun C Try.f46 sp281 = some tr281 := by kernel_rfl
theorem c282 : symFun C Try.f60 sp282 = some tr282 := by kernel_rfl
theorem c283 : symFun C Try.f87 sp283 = some tr283 := by kernel_rfl
theorem c284 : symFun C Try.f92 sp284 = some tr284 := by kernel_rfl
theorem c285 : symFun C Try.f71 sp285 = some tr285 := by kernel_rfl
theorem c286 : symFun C Try.f58 sp286 = some tr286 := by kernel_rfl
theorem c287 : symFun C Try.f69 sp287 = some tr287 := by kernel_rfl
theorem c288 : symFun C Try.f74 sp288 = some tr288 := by kernel_rfl
theorem c289 : symFun C Try.f65 sp289 = some tr289 := by kernel_rfl
theorem c290 : symFun C Try.f89 sp290 = some tr290 := by kernel_rfl
theorem c291 : symFun C Try.f88 sp291 = some tr291 := by kernel_rfl
theorem c300 : symFun C Try.f77 sp300 = some tr300 := by kernel_rfl
theorem c301 : symFun C Try.f64 sp301 = some tr301 := by kernel_rfl
theorem c302 : symFun C Try.f78 sp302 = some tr302 := by kernel_rfl
theorem c303 : symFun C Try.f80 sp303 = some tr303 := by kernel_rfl
theorem c304 : symFun C Try.f79 sp304 = some tr304 := by kernel_rfl
theorem c305 : symFun C Try.f82 sp305 = some tr305 := by kernel_rfl
theorem c306 : symFun C Try.f50 sp306 = some tr306 := by kernel_rfl
theorem c309 : symFun C Try.f47 sp309 = some tr309 := by kernel_rfl
theorem c310 : symFun C Try.f62 sp310 = some tr310 := by kernel_rfl
theorem c311 : symFun C Try.f34 sp311 = some tr311 := by kernel_rfl
theorem c312 : symFun C Try.f17 sp312 = some tr312 := by kernel_rfl
theorem c313 : symFun C Try.f35 sp313 = some tr313 := by kernel_rfl
theorem c314 : symFun C Try.f27 sp314 = some tr314 := by kernel_rfl
theorem c315 : symFun C Try.f49 sp315 = some tr315 := by kernel_rfl
theorem c316 : symFun C Try.f51 sp316 = some tr316 := by kernel_rfl
theorem c317 : symFun C Try.f36 sp317 = some tr317 := by kernel_rfl
theorem c321 : symFun C Try.f63 sp321 = some tr321 := by kernel_rfl
theorem c331 : symFun C Try.f90 sp331 = some tr331 := by kernel_rfl
theorem c332 : symFun C Try.f72 sp332 = some tr332 := by kernel_rfl
theorem c333 : symFun C Try.f81 sp333 = some tr333 := by kernel_rfl
theorem cbody : (seatL.all fun p => (C.P.funcs[p.1]?).any fun fn => fn.body.isSome && fn.name != "runtime.NumGoroutine") = true := by kernel_rfl
theorem cmixed : C.P.follows .mixedOrders = true := by kernel_rfl
theorem crows : ∀ p ∈ seatL, RowOK C tab p := by
  unfold seatL
  refine List.forall_mem_cons.2 ⟨⟨Try.f20, tr0, sp0, Try.func20, rfl, c0, rfl⟩, ?_⟩
  refine List.forall_mem_cons.2 ⟨⟨Try.f19, tr1, sp1, Try.func19, rfl, c1, rfl⟩, ?_⟩
  refine List.forall_mem_cons.2 ⟨⟨Try.f11, tr2, sp2, Try.func11, rfl, c2, rfl⟩, ?_⟩
  refine List.forall_mem_cons.2 ⟨⟨Try.f70, tr3, sp3, Try.func70, rfl, c3, rfl⟩, ?_⟩
  refine List.forall_mem_cons.2 ⟨⟨Try.f48, tr5, sp5, Try.func48, rfl, c5, rfl⟩, ?_⟩
  refine List.forall_mem_cons.2 ⟨⟨Try.f73, tr10, sp10, Try.func73, rfl, c10, rfl⟩, ?_⟩
  refine List.forall_mem_cons.2 ⟨⟨Try.f4, tr75, sp75, Try.func4, rfl, c75, rfl⟩, ?_⟩
  refine List.forall_mem_cons.2 ⟨⟨Try.f9, tr76, sp76, Try.func9, rfl, c76, rfl⟩, ?_⟩
  refine List.forall_mem_cons.2 ⟨⟨Try.f45, tr159, sp159, Try.func45, rfl, c159, rfl⟩, ?_⟩
  refine List.forall_mem_cons.2 ⟨⟨Try.f10, tr166, sp166, Try.func10, rfl, c166, rfl⟩, ?_⟩
  refine List.forall_mem_cons.2 ⟨⟨Try.f22, tr169, sp169, Try.func22, rfl, c169, rfl⟩, ?_⟩
  refine List.forall_mem_cons.2 ⟨⟨Try.f23, tr174, sp174, Try.func23, rfl, c174, rfl⟩, ?_⟩
  refine List.forall_mem_cons.2 ⟨⟨Try.f44, tr176, sp176, Try.func44, rfl, c176, rfl⟩, ?_⟩
  refine List.forall_mem_cons.2 ⟨⟨Try.f43, tr177, sp177, Try.func43, rfl, c177, rfl⟩, ?_⟩
  refine List.forall_mem_cons.2 ⟨⟨Try.f42, tr230, sp230, Try.func42, rfl, c230, rfl⟩, ?_⟩
  refine List.forall_mem_cons.2 ⟨⟨Try.f41, tr231, sp231, Try.func41, rfl, c231, rfl⟩, ?_⟩
  refine List.forall_mem_cons.2 ⟨⟨Try.f39, tr232, sp232, Try.func39, rfl, c232, rfl⟩, ?_⟩
  refine List.forall_mem_cons.2 ⟨⟨Try.f8, tr233, sp233, Try.func8, rfl, c233, rfl⟩, ?_⟩
  refine List.forall_mem_cons.2 ⟨⟨Try.f40, tr235, sp235, Try.func40, rfl, c235, rfl⟩, ?_⟩
  refine List.forall_mem_cons.2 ⟨⟨Try.f21, tr236, sp236, Try.func21, rfl, c236, rfl⟩, ?_⟩
  refine List.forall_mem_cons.2 ⟨⟨Try.f18, tr237, sp237, Try.func18, rfl, c237, rfl⟩, ?_⟩
  refine List.forall_mem_cons.2 ⟨⟨Try.f16, tr238, sp238, Try.func16, rfl, c238, rfl⟩, ?_⟩
  refine List.forall_mem_cons.2 ⟨⟨Try.f30, tr239, sp239, Try.func30, rfl, c239, rfl⟩, ?_⟩
  refine List.forall_mem_cons.2 ⟨⟨Try.f56, tr240, sp240, Try.func56, rfl, c240, rfl⟩, ?_⟩
  refine List.forall_mem_cons.2 ⟨⟨Try.f61, tr241, sp241, Try.func61, rfl, c241, rfl⟩, ?_⟩
  refine List.forall_mem_cons.2 ⟨⟨Try.f59, tr242, sp242, Try.func59, rfl, c242, rfl⟩, ?_⟩
  refine List.forall_mem_cons.2 ⟨⟨Try.f54, tr243, sp243, Try.func54, rfl, c243, rfl⟩, ?_⟩
  refine List.forall_mem_cons.2 ⟨⟨Try.f55, tr244, sp244, Try.func55, rfl, c244, rfl⟩, ?_⟩
  refine List.forall_mem_cons.2 ⟨⟨Try.f57, tr245, sp245, Try.func57, rfl, c245, rfl⟩, ?_⟩
  refine List.forall_mem_cons.2 ⟨⟨Try.f24, tr246, sp246, Try.func24, rfl, c246, rfl⟩, ?_⟩
  refine List.forall_mem_cons.2 ⟨⟨Try.f28, tr247, sp247, Try.func28, rfl, c247, rfl⟩, ?_⟩
  refine List.forall_mem_cons.2 ⟨⟨Try.f15, tr248, sp248, Try.func15, rfl, c248, rfl⟩, ?_⟩
  refine List.forall_mem_cons.2 ⟨⟨Try.f33, tr249, sp249, Try.func33, rfl, c249, rfl⟩, ?_⟩
  refine List.forall_mem_cons.2 ⟨⟨Try.f68, tr250, sp250, Try.func68, rfl, c250, rfl⟩, ?_⟩
  refine List.forall_mem_cons.2 ⟨⟨Try.f85, tr251, sp251, Try.func85, rfl, c251, rfl⟩, ?_⟩
  refine List.forall_mem_cons.2 ⟨⟨Try.f86, tr254, sp254, Try.func86, rfl, c254, rfl⟩, ?_⟩
  refine List.forall_mem_cons.2 ⟨⟨Try.f67, tr255, sp255, Try.func67, rfl, c255, rfl⟩, ?_⟩
  refine List.forall_mem_cons.2 ⟨⟨Try.f83, tr256, sp256, Try.func83, rfl, c256, rfl⟩, ?_⟩
  refine List.forall_mem_cons.2 ⟨⟨Try.f52, tr257, sp257, Try.func52, rfl, c257, rfl⟩, ?_⟩
  refine List.forall_mem_cons.2 ⟨⟨Try.f32, tr258, sp258, Try.func32, rfl, c258, rfl⟩, ?_⟩
  refine List.forall_mem_cons.2 ⟨⟨Try.f31, tr259, sp259, Try.func31, rfl, c259, rfl⟩, ?_⟩
  refine List.forall_mem_cons.2 ⟨⟨Try.f84, tr260, sp260, Try.func84, rfl, c260, rfl⟩, ?_⟩
  refine List.forall_mem_cons.2 ⟨⟨Try.f37, tr268, sp268, Try.func37, rfl, c268, rfl⟩, ?_⟩
  refine List.forall_mem_cons.2 ⟨⟨Try.f38, tr270, sp270, Try.func38, rfl, c270, rfl⟩, ?_⟩
  refine List.forall_mem_cons.2 ⟨⟨Try.f66, tr271, sp271, Try.func66, rfl, c271, rfl⟩, ?_⟩
  refine List.forall_mem_cons.2 ⟨⟨Try.f75, tr272, sp272, Try.func75, rfl, c272, rfl⟩, ?_⟩
  refine List.forall_mem_cons.2 ⟨⟨Try.f91, tr274, sp274, Try.func91, rfl, c274, rfl⟩, ?_⟩
  refine List.forall_mem_cons.2 ⟨⟨Try.f25, tr280, sp280, Try.func25, rfl, c280, rfl⟩, ?_⟩
  refine List.forall_mem_cons.2 ⟨⟨Try.f46, tr281, sp281, Try.func46, rfl, c281, rfl⟩, ?_⟩
  refine List.forall_mem_cons.2 ⟨⟨Try.f60, tr282, sp282, Try.func60, rfl, c282, rfl⟩, ?_⟩
  refine List.forall_mem_cons.2 ⟨⟨Try.f87, tr283, sp283, Try.func87, rfl, c283, rfl⟩, ?_⟩
  refine List.forall_mem_cons.2 ⟨⟨Try.f92, tr284, sp284, Try.func92, rfl, c284, rfl⟩, ?_⟩
  refine List.forall_mem_cons.2 ⟨⟨Try.f71, tr285, sp285, Try.func71, rfl, c285, rfl⟩, ?_⟩
  refine List.forall_mem_cons.2 ⟨⟨Try.f58, tr286, sp286, Try.func58, rfl, c286, rfl⟩, ?_⟩
  refine List.forall_mem_cons.2 ⟨⟨Try.f69, tr287, sp287, Try.func69, rfl, c287, rfl⟩, ?_⟩
  refine List.forall_mem_cons.2 ⟨⟨Try.f74, tr288, sp288, Try.func74, rfl, c288, rfl⟩, ?_⟩
  refine List.forall_mem_cons.2 ⟨⟨Try.f65, tr289, sp289, Try.func65, rfl, c289, rfl⟩, ?_⟩
  refine List.forall_mem_cons.2 ⟨⟨Try.f89, tr290, sp290, Try.func89, rfl, c290, rfl⟩, ?_⟩
  refine List.forall_mem_cons.2 ⟨⟨Try.f88, tr291, sp291, Try.func88, rfl, c291, rfl⟩, ?_⟩
  refine List.forall_mem_cons.2 ⟨⟨Try.f77, tr300, sp300, Try.func77, rfl, c300, rfl⟩, ?_⟩
  refine List.forall_mem_cons.2 ⟨⟨Try.f64, tr301, sp301, Try.func64, rfl, c301, rfl⟩, ?_⟩
  refine List.forall_mem_cons.2 ⟨⟨Try.f78, tr302, sp302, Try.func78, rfl, c302, rfl⟩, ?_⟩
  refine List.forall_mem_cons.2 ⟨⟨Try.f80, tr303, sp303, Try.func80, rfl, c303, rfl⟩, ?_⟩
  refine List.forall_mem_cons.2 ⟨⟨Try.f79, tr304, sp304, Try.func79, rfl, c304, rfl⟩, ?_⟩
  refine List.forall_mem_cons.2 ⟨⟨Try.f82, tr305, sp305, Try.func82, rfl, c305, rfl⟩, ?_⟩
  refine List.forall_mem_cons.2 ⟨⟨Try.f50, tr306, sp306, Try.func50, rfl, c306, rfl⟩, ?_⟩
  refine List.forall_mem_cons.2 ⟨⟨Try.f47, tr309, sp309, Try.func47, rfl, c309, rfl⟩, ?_⟩
  refine List.forall_mem_cons.2 ⟨⟨Try.f62, tr310, sp310, Try.func62, rfl, c310, rfl⟩, ?_⟩
  refine List.forall_mem_cons.2 ⟨⟨Try.f34, tr311, sp311, Try.func34, rfl, c311, rfl⟩, ?_⟩
  refine List.forall_mem_cons.2 ⟨⟨Try.f17, tr312, sp312, Try.func17, rfl, c312, rfl⟩, ?_⟩
  refine List.forall_mem_cons.2 ⟨⟨Try.f35, tr313, sp313, Try.func35, rfl, c313, rfl⟩, ?_⟩
  refine List.forall_mem_cons.2 ⟨⟨Try.f27, tr314, sp314, Try.func27, rfl, c314, rfl⟩, ?_⟩
  refine List.forall_mem_cons.2 ⟨⟨Try.f49, tr315, sp315, Try.func49, rfl, c315, rfl⟩, ?_⟩
  refine List.forall_mem_cons.2 ⟨⟨Try.f51, tr316, sp316, Try.func51, rfl, c316, rfl⟩, ?_⟩
  refine List.forall_mem_cons.2 ⟨⟨Try.f36, tr317, sp317, Try.func36, rfl, c317, rfl⟩, ?_⟩
  refine List.forall_mem_cons.2 ⟨⟨Try.f63, tr321, sp321, Try.func63, rfl, c321, rfl⟩, ?_⟩
  refine List.forall_mem_cons.2 ⟨⟨Try.f90, tr331, sp331, Try.func90, rfl, c331, rfl⟩, ?_⟩
  refine List.forall_mem_cons.2 ⟨⟨Try.f72, tr332, sp332, Try.func72, rfl, c332, rfl⟩, ?_⟩
  refine List.forall_mem_cons.2 ⟨⟨Try.f81, tr333, sp333, Try.func81, rfl, c333, rfl⟩, ?_⟩
  exact List.forall_mem_nil _
theorem tabok : TabOK C tab := tabOK_of (l := seatL) (fun _ => rfl) cbody cmixed crows (fun k id sp ps qs h _ _ _ => by cases h)
end Go.Proofs.Ythchhkghjfendaa.Dx
