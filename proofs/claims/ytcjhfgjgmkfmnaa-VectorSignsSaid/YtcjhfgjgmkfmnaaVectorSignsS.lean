/- The functions of a program come to the trees of the table; printed by program. No conditions. -/
import Derived.Test.YtcjhfgjgmkfmnaaVectorSignsM3
import Derived.Test.YtcjhfgjgmkfmnaaProg
import Derived.KernelRfl
namespace Go.Proofs.Ytcjhfgjgmkfmnaa.Dx
open Go
def seatL : List (Nat × Nat) := [(92, 3), (80, 5), (15, 10), (11, 35), (24, 36), (22, 37), (103, 89), (139, 90), (101, 91), (87, 94), (102, 95), (47, 96), (141, 100), (46, 110), (94, 114), (26, 120), (86, 121), (71, 122), (50, 123), (27, 125), (85, 126), (28, 128), (17, 134), (78, 141), (106, 150), (107, 154), (55, 160), (23, 164), (133, 272), (162, 274), (79, 280), (67, 281), (150, 282), (69, 283), (118, 284), (68, 285), (70, 286), (117, 287), (131, 288), (155, 290), (154, 291), (132, 301), (156, 302), (158, 303), (157, 304), (160, 305), (82, 306), (33, 309), (83, 313), (25, 314), (81, 315), (84, 316), (153, 322), (127, 323), (128, 324), (124, 325), (125, 326), (19, 327), (74, 329), (126, 330), (161, 331), (130, 332), (159, 333)]
def fidM (f : FuncId) : Option Nat := (seatL.find? (·.1 == f)).map (·.2)
noncomputable def C : Ctx := { P := Try.prog, fid := fidM, spec := spc, canon := some 134 }
theorem c3 : symFun C Try.f92 sp3 = some tr3 := by kernel_rfl
theorem c5 : symFun C Try.f80 sp5 = some tr5 := by kernel_rfl
theorem c10 : symFun C Try.f15 sp10 = some tr10 := by kernel_rfl
theorem c35 : symFun C Try.f11 sp35 = some tr35 := by kernel_rfl
theorem c36 : symFun C Try.f24 sp36 = some tr36 := by kernel_rfl
theorem c37 : symFun C Try.f22 sp37 = some tr37 := by kernel_rfl
theorem c89 : symFun C Try.f103 sp89 = some tr89 := by kernel_rfl
theorem c90 : symFun C Try.f139 sp90 = some tr90 := by kernel_rfl
theorem c91 : symFun C Try.f101 sp91 = some tr91 := by kernel_rfl
theorem c94 : symFun C Try.f87 sp94 = some tr94 := by kernel_rfl
theorem c95 : symFun C Try.f102 sp95 = some tr95 := by kernel_rfl
theorem c96 : symFun C Try.f47 sp96 = some tr96 := by kernel_rfl
theorem c100 : symFun C Try.f141 sp100 = some tr100 := by kernel_rfl
theorem c110 : symFun C Try.f46 sp110 = some tr110 := by kernel_rfl
theorem c114 : symFun C Try.f94 sp114 = some tr114 := by kernel_rfl
theorem c120 : symFun C Try.f26 sp120 = some tr120 := by kernel_rfl
theorem c121 : symFun C Try.f86 sp121 = some tr121 := by kernel_rfl
theorem c122 : symFun C Try.f71 sp122 = some tr122 := by kernel_rfl
theorem c123 : symFun C Try.f50 sp123 = some tr123 := by kernel_rfl
theorem c125 : symFun C Try.f27 sp125 = some tr125 := by kernel_rfl
theorem c126 : symFun C Try.f85 sp126 = some tr126 := by kernel_rfl
theorem c128 : symFun C Try.f28 sp128 = some tr128 := by kernel_rfl
theorem c134 : symFun C Try.f17 sp134 = some tr134 := by kernel_rfl
theorem c141 : symFun C Try.f78 sp141 = some tr141 := by kernel_rfl
theorem c150 : symFun C Try.f106 sp150 = some tr150 := by kernel_rfl
theorem c154 : symFun C Try.f107 sp154 = some tr154 := by kernel_rfl
theorem c160 : symFun C Try.f55 sp160 = some tr160 := by kernel_rfl
theorem c164 : symFun C Try.f23 sp164 = some tr164 := by kernel_rfl
theorem c272 : symFun C Try.f133 sp272 = some tr272 := by kernel_rfl
theorem c274 : symFun C Try.f162 sp274 = some tr274 := by kernel_rfl
theorem c280 : symFun C Try.f79 sp280 = some tr280 := by kernel_rfl
theorem c281 : symFun C Try.f67 sp281 = some tr281 := by kernel_rfl
theorem c282 : symFun C Try.f150 sp282 = some tr282 := by kernel_rfl
theorem c283 : symFun C Try.f69 sp283 = some tr283 := by kernel_rfl
theorem c284 : symFun C Try.f118 sp284 = some tr284 := by kernel_rfl
theorem c285 : symFun C Try.f68 sp285 = some tr285 := by kernel_rfl
theorem c286 : symFun C Try.f70 sp286 = some tr286 := by kernel_rfl
theorem c287 : symFun C Try.f117 sp287 = some tr287 := by kernel_rfl
theorem c288 : symFun C Try.f131 sp288 = some tr288 := by kernel_rfl
theorem c290 : symFun C Try.f155 sp290 = some tr290 := by kernel_rfl
theorem c291 : symFun C Try.f154 sp291 = some tr291 := by kernel_rfl
theorem c301 : symFun C Try.f132 sp301 = some tr301 := by kernel_rfl
theorem c302 : symFun C Try.f156 sp302 = some tr302 := by kernel_rfl
theorem c303 : symFun C Try.f158 sp303 = some tr303 := by kernel_rfl
theorem c304 : symFun C Try.f157 sp304 = some tr304 := by kernel_rfl
theorem c305 : symFun C Try.f160 sp305 = some tr305 := by kernel_rfl
theorem c306 : symFun C Try.f82 sp306 = some tr306 := by kernel_rfl
theorem c309 : symFun C Try.f33 sp309 = some tr309 := by kernel_rfl
theorem c313 : symFun C Try.f83 sp313 = some tr313 := by kernel_rfl
theorem c314 : symFun C Try.f25 sp314 = some tr314 := by kernel_rfl
theorem c315 : symFun C Try.f81 sp315 = some tr315 := by kernel_rfl
theorem c316 : symFun C Try.f84 sp316 = some tr316 := by kernel_rfl
theorem c322 : symFun C Try.f153 sp322 = some tr322 := by kernel_rfl
theorem c323 : symFun C Try.f127 sp323 = some tr323 := by kernel_rfl
theorem c324 : symFun C Try.f128 sp324 = some tr324 := by kernel_rfl
theorem c325 : symFun C Try.f124 sp325 = some tr325 := by kernel_rfl
theorem c326 : symFun C Try.f125 sp326 = some tr326 := by kernel_rfl
theorem c327 : symFun C Try.f19 sp327 = some tr327 := by kernel_rfl
theorem c329 : symFun C Try.f74 sp329 = some tr329 := by kernel_rfl
theorem c330 : symFun C Try.f126 sp330 = some tr330 := by kernel_rfl
theorem c331 : symFun C Try.f161 sp331 = some tr331 := by kernel_rfl
theorem c332 : symFun C Try.f130 sp332 = some tr332 := by kernel_rfl
theorem c333 : symFun C Try.f159 sp333 = some tr333 := by kernel_rfl
theorem cbody : (seatL.all fun p => (C.P.funcs[p.1]?).any fun fn => fn.body.isSome && fn.name != "runtime.NumGoroutine") = true := by kernel_rfl
theorem cmixed : C.P.follows .mixedOrders = true := by kernel_rfl
theorem crows : ∀ p ∈ seatL, RowOK C tab p := by
  unfold seatL
  refine List.forall_mem_cons.2 ⟨⟨Try.f92, tr3, sp3, Try.func92, rfl, c3, rfl⟩, ?_⟩
  refine List.forall_mem_cons.2 ⟨⟨Try.f80, tr5, sp5, Try.func80, rfl, c5, rfl⟩, ?_⟩
  refine List.forall_mem_cons.2 ⟨⟨Try.f15, tr10, sp10, Try.func15, rfl, c10, rfl⟩, ?_⟩
  refine List.forall_mem_cons.2 ⟨⟨Try.f11, tr35, sp35, Try.func11, rfl, c35, rfl⟩, ?_⟩
  refine List.forall_mem_cons.2 ⟨⟨Try.f24, tr36, sp36, Try.func24, rfl, c36, rfl⟩, ?_⟩
  refine List.forall_mem_cons.2 ⟨⟨Try.f22, tr37, sp37, Try.func22, rfl, c37, rfl⟩, ?_⟩
  refine List.forall_mem_cons.2 ⟨⟨Try.f103, tr89, sp89, Try.func103, rfl, c89, rfl⟩, ?_⟩
  refine List.forall_mem_cons.2 ⟨⟨Try.f139, tr90, sp90, Try.func139, rfl, c90, rfl⟩, ?_⟩
  refine List.forall_mem_cons.2 ⟨⟨Try.f101, tr91, sp91, Try.func101, rfl, c91, rfl⟩, ?_⟩
  refine List.forall_mem_cons.2 ⟨⟨Try.f87, tr94, sp94, Try.func87, rfl, c94, rfl⟩, ?_⟩
  refine List.forall_mem_cons.2 ⟨⟨Try.f102, tr95, sp95, Try.func102, rfl, c95, rfl⟩, ?_⟩
  refine List.forall_mem_cons.2 ⟨⟨Try.f47, tr96, sp96, Try.func47, rfl, c96, rfl⟩, ?_⟩
  refine List.forall_mem_cons.2 ⟨⟨Try.f141, tr100, sp100, Try.func141, rfl, c100, rfl⟩, ?_⟩
  refine List.forall_mem_cons.2 ⟨⟨Try.f46, tr110, sp110, Try.func46, rfl, c110, rfl⟩, ?_⟩
  refine List.forall_mem_cons.2 ⟨⟨Try.f94, tr114, sp114, Try.func94, rfl, c114, rfl⟩, ?_⟩
  refine List.forall_mem_cons.2 ⟨⟨Try.f26, tr120, sp120, Try.func26, rfl, c120, rfl⟩, ?_⟩
  refine List.forall_mem_cons.2 ⟨⟨Try.f86, tr121, sp121, Try.func86, rfl, c121, rfl⟩, ?_⟩
  refine List.forall_mem_cons.2 ⟨⟨Try.f71, tr122, sp122, Try.func71, rfl, c122, rfl⟩, ?_⟩
  refine List.forall_mem_cons.2 ⟨⟨Try.f50, tr123, sp123, Try.func50, rfl, c123, rfl⟩, ?_⟩
  refine List.forall_mem_cons.2 ⟨⟨Try.f27, tr125, sp125, Try.func27, rfl, c125, rfl⟩, ?_⟩
  refine List.forall_mem_cons.2 ⟨⟨Try.f85, tr126, sp126, Try.func85, rfl, c126, rfl⟩, ?_⟩
  refine List.forall_mem_cons.2 ⟨⟨Try.f28, tr128, sp128, Try.func28, rfl, c128, rfl⟩, ?_⟩
  refine List.forall_mem_cons.2 ⟨⟨Try.f17, tr134, sp134, Try.func17, rfl, c134, rfl⟩, ?_⟩
  refine List.forall_mem_cons.2 ⟨⟨Try.f78, tr141, sp141, Try.func78, rfl, c141, rfl⟩, ?_⟩
  refine List.forall_mem_cons.2 ⟨⟨Try.f106, tr150, sp150, Try.func106, rfl, c150, rfl⟩, ?_⟩
  refine List.forall_mem_cons.2 ⟨⟨Try.f107, tr154, sp154, Try.func107, rfl, c154, rfl⟩, ?_⟩
  refine List.forall_mem_cons.2 ⟨⟨Try.f55, tr160, sp160, Try.func55, rfl, c160, rfl⟩, ?_⟩
  refine List.forall_mem_cons.2 ⟨⟨Try.f23, tr164, sp164, Try.func23, rfl, c164, rfl⟩, ?_⟩
  refine List.forall_mem_cons.2 ⟨⟨Try.f133, tr272, sp272, Try.func133, rfl, c272, rfl⟩, ?_⟩
  refine List.forall_mem_cons.2 ⟨⟨Try.f162, tr274, sp274, Try.func162, rfl, c274, rfl⟩, ?_⟩
  refine List.forall_mem_cons.2 ⟨⟨Try.f79, tr280, sp280, Try.func79, rfl, c280, rfl⟩, ?_⟩
  refine List.forall_mem_cons.2 ⟨⟨Try.f67, tr281, sp281, Try.func67, rfl, c281, rfl⟩, ?_⟩
  refine List.forall_mem_cons.2 ⟨⟨Try.f150, tr282, sp282, Try.func150, rfl, c282, rfl⟩, ?_⟩
  refine List.forall_mem_cons.2 ⟨⟨Try.f69, tr283, sp283, Try.func69, rfl, c283, rfl⟩, ?_⟩
  refine List.forall_mem_cons.2 ⟨⟨Try.f118, tr284, sp284, Try.func118, rfl, c284, rfl⟩, ?_⟩
  refine List.forall_mem_cons.2 ⟨⟨Try.f68, tr285, sp285, Try.func68, rfl, c285, rfl⟩, ?_⟩
  refine List.forall_mem_cons.2 ⟨⟨Try.f70, tr286, sp286, Try.func70, rfl, c286, rfl⟩, ?_⟩
  refine List.forall_mem_cons.2 ⟨⟨Try.f117, tr287, sp287, Try.func117, rfl, c287, rfl⟩, ?_⟩
  refine List.forall_mem_cons.2 ⟨⟨Try.f131, tr288, sp288, Try.func131, rfl, c288, rfl⟩, ?_⟩
  refine List.forall_mem_cons.2 ⟨⟨Try.f155, tr290, sp290, Try.func155, rfl, c290, rfl⟩, ?_⟩
  refine List.forall_mem_cons.2 ⟨⟨Try.f154, tr291, sp291, Try.func154, rfl, c291, rfl⟩, ?_⟩
  refine List.forall_mem_cons.2 ⟨⟨Try.f132, tr301, sp301, Try.func132, rfl, c301, rfl⟩, ?_⟩
  refine List.forall_mem_cons.2 ⟨⟨Try.f156, tr302, sp302, Try.func156, rfl, c302, rfl⟩, ?_⟩
  refine List.forall_mem_cons.2 ⟨⟨Try.f158, tr303, sp303, Try.func158, rfl, c303, rfl⟩, ?_⟩
  refine List.forall_mem_cons.2 ⟨⟨Try.f157, tr304, sp304, Try.func157, rfl, c304, rfl⟩, ?_⟩
  refine List.forall_mem_cons.2 ⟨⟨Try.f160, tr305, sp305, Try.func160, rfl, c305, rfl⟩, ?_⟩
  refine List.forall_mem_cons.2 ⟨⟨Try.f82, tr306, sp306, Try.func82, rfl, c306, rfl⟩, ?_⟩
  refine List.forall_mem_cons.2 ⟨⟨Try.f33, tr309, sp309, Try.func33, rfl, c309, rfl⟩, ?_⟩
  refine List.forall_mem_cons.2 ⟨⟨Try.f83, tr313, sp313, Try.func83, rfl, c313, rfl⟩, ?_⟩
  refine List.forall_mem_cons.2 ⟨⟨Try.f25, tr314, sp314, Try.func25, rfl, c314, rfl⟩, ?_⟩
  refine List.forall_mem_cons.2 ⟨⟨Try.f81, tr315, sp315, Try.func81, rfl, c315, rfl⟩, ?_⟩
  refine List.forall_mem_cons.2 ⟨⟨Try.f84, tr316, sp316, Try.func84, rfl, c316, rfl⟩, ?_⟩
  refine List.forall_mem_cons.2 ⟨⟨Try.f153, tr322, sp322, Try.func153, rfl, c322, rfl⟩, ?_⟩
  refine List.forall_mem_cons.2 ⟨⟨Try.f127, tr323, sp323, Try.func127, rfl, c323, rfl⟩, ?_⟩
  refine List.forall_mem_cons.2 ⟨⟨Try.f128, tr324, sp324, Try.func128, rfl, c324, rfl⟩, ?_⟩
  refine List.forall_mem_cons.2 ⟨⟨Try.f124, tr325, sp325, Try.func124, rfl, c325, rfl⟩, ?_⟩
  refine List.forall_mem_cons.2 ⟨⟨Try.f125, tr326, sp326, Try.func125, rfl, c326, rfl⟩, ?_⟩
  refine List.forall_mem_cons.2 ⟨⟨Try.f19, tr327, sp327, Try.func19, rfl, c327, rfl⟩, ?_⟩
  refine List.forall_mem_cons.2 ⟨⟨Try.f74, tr329, sp329, Try.func74, rfl, c329, rfl⟩, ?_⟩
  refine List.forall_mem_cons.2 ⟨⟨Try.f126, tr330, sp330, Try.func126, rfl, c330, rfl⟩, ?_⟩
  refine List.forall_mem_cons.2 ⟨⟨Try.f161, tr331, sp331, Try.func161, rfl, c331, rfl⟩, ?_⟩
  refine List.forall_mem_cons.2 ⟨⟨Try.f130, tr332, sp332, Try.func130, rfl, c332, rfl⟩, ?_⟩
  refine List.forall_mem_cons.2 ⟨⟨Try.f159, tr333, sp333, Try.func159, rfl, c333, rfl⟩, ?_⟩
  exact List.forall_mem_nil _
theorem tabok : TabOK C tab := tabOK_of (l := seatL) (fun _ => rfl) cbody cmixed crows (fun k id sp ps qs h h1 h2 h3 => by cases h; cases h1; exact canon_raw k h2 h3)
end Go.Proofs.Ytcjhfgjgmkfmnaa.Dx
