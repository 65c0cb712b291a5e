/- The functions of a program come to the trees of the table; printed by program. No conditions. -/
import Derived.Test.YtogcdllpjcnbkaaRqZerosM2
import Derived.Test.YtogcdllpjcnbkaaProg
import Derived.KernelRfl
namespace Go.Proofs.Ytogcdllpjcnbkaa.Dx
open Go
def seatL : List (Nat × Nat) := [(80, 2), (95, 3), (47, 5), (98, 10), (9, 61), (36, 62), (31, 166), (13, 238), (12, 239), (46, 240), (57, 241), (52, 242), (44, 243), (45, 244), (49, 245), (59, 246), (60, 247), (82, 248), (119, 249), (83, 255), (120, 256), (102, 257), (118, 258), (101, 259), (29, 268), (81, 271), (127, 272), (146, 274), (35, 275), (85, 276), (38, 277), (39, 278), (88, 279), (55, 280), (92, 281), (53, 282), (128, 283), (147, 284), (93, 285), (51, 286), (125, 287), (126, 288), (99, 289), (144, 290), (143, 291), (100, 300), (104, 301), (129, 302), (131, 303), (130, 304), (132, 305), (96, 306), (48, 309), (58, 310), (61, 311), (43, 312), (62, 313), (50, 314), (54, 315), (97, 316), (56, 317), (103, 321), (145, 331), (94, 332), (133, 333)]
def fidM (f : FuncId) : Option Nat := (seatL.find? (·.1 == f)).map (·.2)
noncomputable def C : Ctx := { P := Try.prog, fid := fidM, spec := spc, canon := none }
theorem c2 : symFun C Try.f80 sp2 = some tr2 := by kernel_rfl
theorem c3 : symFun C Try.f95 sp3 = some tr3 := by kernel_rfl
theorem c5 : symFun C Try.f47 sp5 = some tr5 := by kernel_rfl
theorem c10 : symFun C Try.f98 sp10 = some tr10 := by kernel_rfl
theorem c61 : symFun C Try.f9 sp61 = some tr61 := by kernel_rfl
theorem c62 : symFun C Try.f36 sp62 = some tr62 := by kernel_rfl
theorem c166 : symFun C Try.f31 sp166 = some tr166 := by kernel_rfl
theorem c238 : symFun C Try.f13 sp238 = some tr238 := by kernel_rfl
theorem c239 : symFun C Try.f12 sp239 = some tr239 := by kernel_rfl
theorem c240 : symFun C Try.f46 sp240 = some tr240 := by kernel_rfl
theorem c241 : symFun C Try.f57 sp241 = some tr241 := by kernel_rfl
theorem c242 : symFun C Try.f52 sp242 = some tr242 := by kernel_rfl
theorem c243 : symFun C Try.f44 sp243 = some tr243 := by kernel_rfl
theorem c244 : symFun C Try.f45 sp244 = some tr244 := by kernel_rfl
theorem c245 : symFun C Try.f49 sp245 = some tr245 := by kernel_rfl
theorem c246 : symFun C Try.f59 sp246 = some tr246 := by kernel_rfl
theorem c247 : symFun C Try.f60 sp247 = some tr247 := by kernel_rfl
theorem c248 : symFun C Try.f82 sp248 = some tr248 := by kernel_rfl
theorem c249 : symFun C Try.f119 sp249 = some tr249 := by kernel_rfl
theorem c255 : symFun C Try.f83 sp255 = some tr255 := by kernel_rfl
theorem c256 : symFun C Try.f120 sp256 = some tr256 := by kernel_rfl
theorem c257 : symFun C Try.f102 sp257 = some tr257 := by kernel_rfl
theorem c258 : symFun C Try.f118 sp258 = some tr258 := by kernel_rfl
theorem c259 : symFun C Try.f101 sp259 = some tr259 := by kernel_rfl
theorem c268 : symFun C Try.f29 sp268 = some tr268 := by kernel_rfl
theorem c271 : symFun C Try.f81 sp271 = some tr271 := by kernel_rfl
theorem c272 : symFun C Try.f127 sp272 = some tr272 := by kernel_rfl
theorem c274 : symFun C Try.f146 sp274 = some tr274 := by kernel_rfl
theorem c275 : symFun C Try.f35 sp275 = some tr275 := by kernel_rfl
theorem c276 : symFun C Try.f85 sp276 = some tr276 := by kernel_rfl
theorem c277 : symFun C Try.f38 sp277 = some tr277 := by kernel_rfl
theorem c278 : symFun C Try.f39 sp278 = some tr278 := by kernel_rfl
theorem c279 : symFun C Try.f88 sp279 = some tr279 := by kernel_rfl
theorem c280 : symFun C Try.f55 sp280 = some tr280 := by kernel_rfl
theorem c281 : symFun C Try.f92 sp281 = some tr281 := by kernel_rfl
theorem c282 : symFun C Try.f53 sp282 = some tr282 := by kernel_rfl
theorem c283 : symFun C Try.f128 sp283 = some tr283 := by kernel_rfl
theorem c284 : symFun C Try.f147 sp284 = some tr284 := by kernel_rfl
theorem c285 : symFun C Try.f93 sp285 = some tr285 := by kernel_rfl
theorem c286 : symFun C Try.f51 sp286 = some tr286 := by kernel_rfl
theorem c287 : symFun C Try.f125 sp287 = some tr287 := by kernel_rfl
theorem c288 : symFun C Try.f126 sp288 = some tr288 := by kernel_rfl
theorem c289 : symFun C Try.f99 sp289 = some tr289 := by kernel_rfl
theorem c290 : symFun C Try.f144 sp290 = some tr290 := by kernel_rfl
theorem c291 : symFun C Try.f143 sp291 = some tr291 := by kernel_rfl
theorem c300 : symFun C Try.f100 sp300 = some tr300 := by kernel_rfl
theorem c301 : symFun C Try.f104 sp301 = some tr301 := by kernel_rfl
theorem c302 : symFun C Try.f129 sp302 = some tr302 := by kernel_rfl
theorem c303 : symFun C Try.f131 sp303 = some tr303 := by kernel_rfl
theorem c304 : symFun C Try.f130 sp304 = some tr304 := by kernel_rfl
theorem c305 : symFun C Try.f132 sp305 = some tr305 := by kernel_rfl
theorem c306 : symFun C Try.f96 sp306 = some tr306 := by kernel_rfl
theorem c309 : symFun C Try.f48 sp309 = some tr309 := by kernel_rfl
theorem c310 : symFun C Try.f58 sp310 = some tr310 := by kernel_rfl
theorem c311 : symFun C Try.f61 sp311 = some tr311 := by kernel_rfl
theorem c312 : symFun C Try.f43 sp312 = some tr312 := by kernel_rfl
theorem c313 : symFun C Try.f62 sp313 = some tr313 := by kernel_rfl
theorem c314 : symFun C Try.f50 sp314 = some tr314 := by kernel_rfl
theorem c315 : symFun C Try.f54 sp315 = some tr315 := by kernel_rfl
theorem c316 : symFun C Try.f97 sp316 = some tr316 := by kernel_rfl
theorem c317 : symFun C Try.f56 sp317 = some tr317 := by kernel_rfl
theorem c321 : symFun C Try.f103 sp321 = some tr321 := by kernel_rfl
theorem c331 : symFun C Try.f145 sp331 = some tr331 := by kernel_rfl
theorem c332 : symFun C Try.f94 sp332 = some tr332 := by kernel_rfl
theorem c333 : symFun C Try.f133 sp333 = some tr333 := by kernel_rfl
theorem cbody : (seatL.all fun p => (C.P.funcs[p.1]?).any fun fn => fn.body.isSome && fn.name != "runtime.NumGoroutine") = true := by kernel_rfl
theorem cmixed : C.P.follows .mixedOrders = true := by kernel_rfl
theorem crows : ∀ p ∈ seatL, RowOK C tab p := by
  unfold seatL
  refine List.forall_mem_cons.2 ⟨⟨Try.f80, tr2, sp2, Try.func80, rfl, c2, rfl⟩, ?_⟩
  refine List.forall_mem_cons.2 ⟨⟨Try.f95, tr3, sp3, Try.func95, rfl, c3, rfl⟩, ?_⟩
  refine List.forall_mem_cons.2 ⟨⟨Try.f47, tr5, sp5, Try.func47, rfl, c5, rfl⟩, ?_⟩
  refine List.forall_mem_cons.2 ⟨⟨Try.f98, tr10, sp10, Try.func98, rfl, c10, rfl⟩, ?_⟩
  refine List.forall_mem_cons.2 ⟨⟨Try.f9, tr61, sp61, Try.func9, rfl, c61, rfl⟩, ?_⟩
  refine List.forall_mem_cons.2 ⟨⟨Try.f36, tr62, sp62, Try.func36, rfl, c62, rfl⟩, ?_⟩
  refine List.forall_mem_cons.2 ⟨⟨Try.f31, tr166, sp166, Try.func31, rfl, c166, rfl⟩, ?_⟩
  refine List.forall_mem_cons.2 ⟨⟨Try.f13, tr238, sp238, Try.func13, rfl, c238, rfl⟩, ?_⟩
  refine List.forall_mem_cons.2 ⟨⟨Try.f12, tr239, sp239, Try.func12, rfl, c239, rfl⟩, ?_⟩
  refine List.forall_mem_cons.2 ⟨⟨Try.f46, tr240, sp240, Try.func46, rfl, c240, rfl⟩, ?_⟩
  refine List.forall_mem_cons.2 ⟨⟨Try.f57, tr241, sp241, Try.func57, rfl, c241, rfl⟩, ?_⟩
  refine List.forall_mem_cons.2 ⟨⟨Try.f52, tr242, sp242, Try.func52, rfl, c242, rfl⟩, ?_⟩
  refine List.forall_mem_cons.2 ⟨⟨Try.f44, tr243, sp243, Try.func44, rfl, c243, rfl⟩, ?_⟩
  refine List.forall_mem_cons.2 ⟨⟨Try.f45, tr244, sp244, Try.func45, rfl, c244, rfl⟩, ?_⟩
  refine List.forall_mem_cons.2 ⟨⟨Try.f49, tr245, sp245, Try.func49, rfl, c245, rfl⟩, ?_⟩
  refine List.forall_mem_cons.2 ⟨⟨Try.f59, tr246, sp246, Try.func59, rfl, c246, rfl⟩, ?_⟩
  refine List.forall_mem_cons.2 ⟨⟨Try.f60, tr247, sp247, Try.func60, rfl, c247, rfl⟩, ?_⟩
  refine List.forall_mem_cons.2 ⟨⟨Try.f82, tr248, sp248, Try.func82, rfl, c248, rfl⟩, ?_⟩
  refine List.forall_mem_cons.2 ⟨⟨Try.f119, tr249, sp249, Try.func119, rfl, c249, rfl⟩, ?_⟩
  refine List.forall_mem_cons.2 ⟨⟨Try.f83, tr255, sp255, Try.func83, rfl, c255, rfl⟩, ?_⟩
  refine List.forall_mem_cons.2 ⟨⟨Try.f120, tr256, sp256, Try.func120, rfl, c256, rfl⟩, ?_⟩
  refine List.forall_mem_cons.2 ⟨⟨Try.f102, tr257, sp257, Try.func102, rfl, c257, rfl⟩, ?_⟩
  refine List.forall_mem_cons.2 ⟨⟨Try.f118, tr258, sp258, Try.func118, rfl, c258, rfl⟩, ?_⟩
  refine List.forall_mem_cons.2 ⟨⟨Try.f101, tr259, sp259, Try.func101, rfl, c259, rfl⟩, ?_⟩
  refine List.forall_mem_cons.2 ⟨⟨Try.f29, tr268, sp268, Try.func29, rfl, c268, rfl⟩, ?_⟩
  refine List.forall_mem_cons.2 ⟨⟨Try.f81, tr271, sp271, Try.func81, rfl, c271, rfl⟩, ?_⟩
  refine List.forall_mem_cons.2 ⟨⟨Try.f127, tr272, sp272, Try.func127, rfl, c272, rfl⟩, ?_⟩
  refine List.forall_mem_cons.2 ⟨⟨Try.f146, tr274, sp274, Try.func146, rfl, c274, rfl⟩, ?_⟩
  refine List.forall_mem_cons.2 ⟨⟨Try.f35, tr275, sp275, Try.func35, rfl, c275, rfl⟩, ?_⟩
  refine List.forall_mem_cons.2 ⟨⟨Try.f85, tr276, sp276, Try.func85, rfl, c276, rfl⟩, ?_⟩
  refine List.forall_mem_cons.2 ⟨⟨Try.f38, tr277, sp277, Try.func38, rfl, c277, rfl⟩, ?_⟩
  refine List.forall_mem_cons.2 ⟨⟨Try.f39, tr278, sp278, Try.func39, rfl, c278, rfl⟩, ?_⟩
  refine List.forall_mem_cons.2 ⟨⟨Try.f88, tr279, sp279, Try.func88, rfl, c279, rfl⟩, ?_⟩
  refine List.forall_mem_cons.2 ⟨⟨Try.f55, tr280, sp280, Try.func55, rfl, c280, rfl⟩, ?_⟩
  refine List.forall_mem_cons.2 ⟨⟨Try.f92, tr281, sp281, Try.func92, rfl, c281, rfl⟩, ?_⟩
  refine List.forall_mem_cons.2 ⟨⟨Try.f53, tr282, sp282, Try.func53, rfl, c282, rfl⟩, ?_⟩
  refine List.forall_mem_cons.2 ⟨⟨Try.f128, tr283, sp283, Try.func128, rfl, c283, rfl⟩, ?_⟩
  refine List.forall_mem_cons.2 ⟨⟨Try.f147, tr284, sp284, Try.func147, rfl, c284, rfl⟩, ?_⟩
  refine List.forall_mem_cons.2 ⟨⟨Try.f93, tr285, sp285, Try.func93, rfl, c285, rfl⟩, ?_⟩
  refine List.forall_mem_cons.2 ⟨⟨Try.f51, tr286, sp286, Try.func51, rfl, c286, rfl⟩, ?_⟩
  refine List.forall_mem_cons.2 ⟨⟨Try.f125, tr287, sp287, Try.func125, rfl, c287, rfl⟩, ?_⟩
  refine List.forall_mem_cons.2 ⟨⟨Try.f126, tr288, sp288, Try.func126, rfl, c288, rfl⟩, ?_⟩
  refine List.forall_mem_cons.2 ⟨⟨Try.f99, tr289, sp289, Try.func99, rfl, c289, rfl⟩, ?_⟩
  refine List.forall_mem_cons.2 ⟨⟨Try.f144, tr290, sp290, Try.func144, rfl, c290, rfl⟩, ?_⟩
  refine List.forall_mem_cons.2 ⟨⟨Try.f143, tr291, sp291, Try.func143, rfl, c291, rfl⟩, ?_⟩
  refine List.forall_mem_cons.2 ⟨⟨Try.f100, tr300, sp300, Try.func100, rfl, c300, rfl⟩, ?_⟩
  refine List.forall_mem_cons.2 ⟨⟨Try.f104, tr301, sp301, Try.func104, rfl, c301, rfl⟩, ?_⟩
  refine List.forall_mem_cons.2 ⟨⟨Try.f129, tr302, sp302, Try.func129, rfl, c302, rfl⟩, ?_⟩
  refine List.forall_mem_cons.2 ⟨⟨Try.f131, tr303, sp303, Try.func131, rfl, c303, rfl⟩, ?_⟩
  refine List.forall_mem_cons.2 ⟨⟨Try.f130, tr304, sp304, Try.func130, rfl, c304, rfl⟩, ?_⟩
  refine List.forall_mem_cons.2 ⟨⟨Try.f132, tr305, sp305, Try.func132, rfl, c305, rfl⟩, ?_⟩
  refine List.forall_mem_cons.2 ⟨⟨Try.f96, tr306, sp306, Try.func96, rfl, c306, rfl⟩, ?_⟩
  refine List.forall_mem_cons.2 ⟨⟨Try.f48, tr309, sp309, Try.func48, rfl, c309, rfl⟩, ?_⟩
  refine List.forall_mem_cons.2 ⟨⟨Try.f58, tr310, sp310, Try.func58, rfl, c310, rfl⟩, ?_⟩
  refine List.forall_mem_cons.2 ⟨⟨Try.f61, tr311, sp311, Try.func61, rfl, c311, rfl⟩, ?_⟩
  refine List.forall_mem_cons.2 ⟨⟨Try.f43, tr312, sp312, Try.func43, rfl, c312, rfl⟩, ?_⟩
  refine List.forall_mem_cons.2 ⟨⟨Try.f62, tr313, sp313, Try.func62, rfl, c313, rfl⟩, ?_⟩
  refine List.forall_mem_cons.2 ⟨⟨Try.f50, tr314, sp314, Try.func50, rfl, c314, rfl⟩, ?_⟩
  refine List.forall_mem_cons.2 ⟨⟨Try.f54, tr315, sp315, Try.func54, rfl, c315, rfl⟩, ?_⟩
  refine List.forall_mem_cons.2 ⟨⟨Try.f97, tr316, sp316, Try.func97, rfl, c316, rfl⟩, ?_⟩
  refine List.forall_mem_cons.2 ⟨⟨Try.f56, tr317, sp317, Try.func56, rfl, c317, rfl⟩, ?_⟩
  refine List.forall_mem_cons.2 ⟨⟨Try.f103, tr321, sp321, Try.func103, rfl, c321, rfl⟩, ?_⟩
  refine List.forall_mem_cons.2 ⟨⟨Try.f145, tr331, sp331, Try.func145, rfl, c331, rfl⟩, ?_⟩
  refine List.forall_mem_cons.2 ⟨⟨Try.f94, tr332, sp332, Try.func94, rfl, c332, rfl⟩, ?_⟩
  refine List.forall_mem_cons.2 ⟨⟨Try.f133, tr333, sp333, Try.func133, rfl, c333, rfl⟩, ?_⟩
  exact List.forall_mem_nil _
theorem tabok : TabOK C tab := tabOK_of (l := seatL) (fun _ => rfl) cbody cmixed crows (fun k id sp ps qs h _ _ _ => by cases h)
end Go.Proofs.Ytogcdllpjcnbkaa.Dx
