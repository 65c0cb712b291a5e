/- The functions of a program come to the trees of the table; printed by program. No conditions. -/
import Derived.Test.YtcjhfgjgmkfmnaaVectorAxpysM2
import Derived.Test.YtcjhfgjgmkfmnaaProg
import Derived.KernelRfl
namespace Go.Proofs.Ytcjhfgjgmkfmnaa.Dx
open Go
def seatL : List (Nat × Nat) := [(92, 3), (80, 5), (15, 10), (7, 30), (24, 36), (22, 37), (86, 121), (71, 122), (85, 126), (17, 134), (95, 148), (42, 149), (106, 150), (107, 154), (96, 156), (41, 159), (43, 165), (133, 272), (162, 274), (79, 280), (67, 281), (150, 282), (69, 283), (118, 284), (68, 285), (70, 286), (117, 287), (131, 288), (155, 290), (154, 291), (132, 301), (156, 302), (158, 303), (157, 304), (160, 305), (82, 306), (39, 307), (98, 308), (33, 309), (83, 313), (25, 314), (81, 315), (84, 316), (40, 318), (99, 319), (97, 320), (91, 321), (161, 331), (130, 332), (159, 333)]
def fidM (f : FuncId) : Option Nat := (seatL.find? (·.1 == f)).map (·.2)
noncomputable def C : Ctx := { P := Try.prog, fid := fidM, spec := spc, canon := some 134 }
theorem c3 : symFun C Try.f92 sp3 = some tr3 := by kernel_rfl
theorem c5 : symFun C Try.f80 sp5 = some tr5 := by kernel_rfl
theorem c10 : symFun C Try.f15 sp10 = some tr10 := by kernel_rfl
theorem c30 : symFun C Try.f7 sp30 = some tr30 := by kernel_rfl
theorem c36 : symFun C Try.f24 sp36 = some tr36 := by kernel_rfl
theorem c37 : symFun C Try.f22 sp37 = some tr37 := by kernel_rfl
theorem c121 : symFun C Try.f86 sp121 = some tr121 := by kernel_rfl
theorem c122 : symFun C Try.f71 sp122 = some tr122 := by kernel_rfl
theorem c126 : symFun C Try.f85 sp126 = some tr126 := by kernel_rfl
theorem c134 : symFun C Try.f17 sp134 = some tr134 := by kernel_rfl
theorem c148 : symFun C Try.f95 sp148 = some tr148 := by kernel_rfl
theorem c149 : symFun C Try.f42 sp149 = some tr149 := by kernel_rfl
theorem c150 : symFun C Try.f106 sp150 = some tr150 := by kernel_rfl
theorem c154 : symFun C Try.f107 sp154 = some tr154 := by kernel_rfl
theorem c156 : symFun C Try.f96 sp156 = some tr156 := by kernel_rfl
theorem c159 : symFun C Try.f41 sp159 = some tr159 := by kernel_rfl
theorem c165 : symFun C Try.f43 sp165 = some tr165 := by kernel_rfl
theorem c272 : symFun C Try.f133 sp272 = some tr272 := by kernel_rfl
theorem c274 : symFun C Try.f162 sp274 = some tr274 := by kernel_rfl
theorem c280 : symFun C Try.f79 sp280 = some tr280 := by kernel_rfl
theorem c281 : symFun C Try.f67 sp281 = some tr281 := by kernel_rfl
theorem c282 : symFun C Try.f150 sp282 = some tr282 := by kernel_rfl
theorem c283 : symFun C Try.f69 sp283 = some tr283 := by kernel_rfl
theorem c284 : symFun C Try.f118 sp284 = some tr284 := by kernel_rfl
theorem c285 : symFun C Try.f68 sp285 = some tr285 := by kernel_rfl
theorem c286 : symFun C Try.f70 sp286 = some tr286 := by kernel_rfl
theorem c287 : symFun C Try.f117 sp287 = some tr287 := by kernel_rfl
theorem c288 : symFun C Try.f131 sp288 = some tr288 := by kernel_rfl
theorem c290 : symFun C Try.f155 sp290 = some tr290 := by kernel_rfl
theorem c291 : symFun C Try.f154 sp291 = some tr291 := by kernel_rfl
theorem c301 : symFun C Try.f132 sp301 = some tr301 := by kernel_rfl
theorem c302 : symFun C Try.f156 sp302 = some tr302 := by kernel_rfl
theorem c303 : symFun C Try.f158 sp303 = some tr303 := by kernel_rfl
theorem c304 : symFun C Try.f157 sp304 = some tr304 := by kernel_rfl
theorem c305 : symFun C Try.f160 sp305 = some tr305 := by kernel_rfl
theorem c306 : symFun C Try.f82 sp306 = some tr306 := by kernel_rfl
theorem c307 : symFun C Try.f39 sp307 = some tr307 := by kernel_rfl
theorem c308 : symFun C Try.f98 sp308 = some tr308 := by kernel_rfl
theorem c309 : symFun C Try.f33 sp309 = some tr309 := by kernel_rfl
theorem c313 : symFun C Try.f83 sp313 = some tr313 := by kernel_rfl
theorem c314 : symFun C Try.f25 sp314 = some tr314 := by kernel_rfl
theorem c315 : symFun C Try.f81 sp315 = some tr315 := by kernel_rfl
theorem c316 : symFun C Try.f84 sp316 = some tr316 := by kernel_rfl
theorem c318 : symFun C Try.f40 sp318 = some tr318 := by kernel_rfl
theorem c319 : symFun C Try.f99 sp319 = some tr319 := by kernel_rfl
theorem c320 : symFun C Try.f97 sp320 = some tr320 := by kernel_rfl
theorem c321 : symFun C Try.f91 sp321 = some tr321 := by kernel_rfl
theorem c331 : symFun C Try.f161 sp331 = some tr331 := by kernel_rfl
theorem c332 : symFun C Try.f130 sp332 = some tr332 := by kernel_rfl
theorem c333 : symFun C Try.f159 sp333 = some tr333 := by kernel_rfl
theorem cbody : (seatL.all fun p => (C.P.funcs[p.1]?).any fun fn => fn.body.isSome && fn.name != "runtime.NumGoroutine") = true := by kernel_rfl
theorem cmixed : C.P.follows .mixedOrders = true := by kernel_rfl
theorem crows : ∀ p ∈ seatL, RowOK C tab p := by
  unfold seatL
  refine List.forall_mem_cons.2 ⟨⟨Try.f92, tr3, sp3, Try.func92, rfl, c3, rfl⟩, ?_⟩
  refine List.forall_mem_cons.2 ⟨⟨Try.f80, tr5, sp5, Try.func80, rfl, c5, rfl⟩, ?_⟩
  refine List.forall_mem_cons.2 ⟨⟨Try.f15, tr10, sp10, Try.func15, rfl, c10, rfl⟩, ?_⟩
  refine List.forall_mem_cons.2 ⟨⟨Try.f7, tr30, sp30, Try.func7, rfl, c30, rfl⟩, ?_⟩
  refine List.forall_mem_cons.2 ⟨⟨Try.f24, tr36, sp36, Try.func24, rfl, c36, rfl⟩, ?_⟩
  refine List.forall_mem_cons.2 ⟨⟨Try.f22, tr37, sp37, Try.func22, rfl, c37, rfl⟩, ?_⟩
  refine List.forall_mem_cons.2 ⟨⟨Try.f86, tr121, sp121, Try.func86, rfl, c121, rfl⟩, ?_⟩
  refine List.forall_mem_cons.2 ⟨⟨Try.f71, tr122, sp122, Try.func71, rfl, c122, rfl⟩, ?_⟩
  refine List.forall_mem_cons.2 ⟨⟨Try.f85, tr126, sp126, Try.func85, rfl, c126, rfl⟩, ?_⟩
  refine List.forall_mem_cons.2 ⟨⟨Try.f17, tr134, sp134, Try.func17, rfl, c134, rfl⟩, ?_⟩
  refine List.forall_mem_cons.2 ⟨⟨Try.f95, tr148, sp148, Try.func95, rfl, c148, rfl⟩, ?_⟩
  refine List.forall_mem_cons.2 ⟨⟨Try.f42, tr149, sp149, Try.func42, rfl, c149, rfl⟩, ?_⟩
  refine List.forall_mem_cons.2 ⟨⟨Try.f106, tr150, sp150, Try.func106, rfl, c150, rfl⟩, ?_⟩
  refine List.forall_mem_cons.2 ⟨⟨Try.f107, tr154, sp154, Try.func107, rfl, c154, rfl⟩, ?_⟩
  refine List.forall_mem_cons.2 ⟨⟨Try.f96, tr156, sp156, Try.func96, rfl, c156, rfl⟩, ?_⟩
  refine List.forall_mem_cons.2 ⟨⟨Try.f41, tr159, sp159, Try.func41, rfl, c159, rfl⟩, ?_⟩
  refine List.forall_mem_cons.2 ⟨⟨Try.f43, tr165, sp165, Try.func43, rfl, c165, rfl⟩, ?_⟩
  refine List.forall_mem_cons.2 ⟨⟨Try.f133, tr272, sp272, Try.func133, rfl, c272, rfl⟩, ?_⟩
  refine List.forall_mem_cons.2 ⟨⟨Try.f162, tr274, sp274, Try.func162, rfl, c274, rfl⟩, ?_⟩
  refine List.forall_mem_cons.2 ⟨⟨Try.f79, tr280, sp280, Try.func79, rfl, c280, rfl⟩, ?_⟩
  refine List.forall_mem_cons.2 ⟨⟨Try.f67, tr281, sp281, Try.func67, rfl, c281, rfl⟩, ?_⟩
  refine List.forall_mem_cons.2 ⟨⟨Try.f150, tr282, sp282, Try.func150, rfl, c282, rfl⟩, ?_⟩
  refine List.forall_mem_cons.2 ⟨⟨Try.f69, tr283, sp283, Try.func69, rfl, c283, rfl⟩, ?_⟩
  refine List.forall_mem_cons.2 ⟨⟨Try.f118, tr284, sp284, Try.func118, rfl, c284, rfl⟩, ?_⟩
  refine List.forall_mem_cons.2 ⟨⟨Try.f68, tr285, sp285, Try.func68, rfl, c285, rfl⟩, ?_⟩
  refine List.forall_mem_cons.2 ⟨⟨Try.f70, tr286, sp286, Try.func70, rfl, c286, rfl⟩, ?_⟩
  refine List.forall_mem_cons.2 ⟨⟨Try.f117, tr287, sp287, Try.func117, rfl, c287, rfl⟩, ?_⟩
  refine List.forall_mem_cons.2 ⟨⟨Try.f131, tr288, sp288, Try.func131, rfl, c288, rfl⟩, ?_⟩
  refine List.forall_mem_cons.2 ⟨⟨Try.f155, tr290, sp290, Try.func155, rfl, c290, rfl⟩, ?_⟩
  refine List.forall_mem_cons.2 ⟨⟨Try.f154, tr291, sp291, Try.func154, rfl, c291, rfl⟩, ?_⟩
  refine List.forall_mem_cons.2 ⟨⟨Try.f132, tr301, sp301, Try.func132, rfl, c301, rfl⟩, ?_⟩
  refine List.forall_mem_cons.2 ⟨⟨Try.f156, tr302, sp302, Try.func156, rfl, c302, rfl⟩, ?_⟩
  refine List.forall_mem_cons.2 ⟨⟨Try.f158, tr303, sp303, Try.func158, rfl, c303, rfl⟩, ?_⟩
  refine List.forall_mem_cons.2 ⟨⟨Try.f157, tr304, sp304, Try.func157, rfl, c304, rfl⟩, ?_⟩
  refine List.forall_mem_cons.2 ⟨⟨Try.f160, tr305, sp305, Try.func160, rfl, c305, rfl⟩, ?_⟩
  refine List.forall_mem_cons.2 ⟨⟨Try.f82, tr306, sp306, Try.func82, rfl, c306, rfl⟩, ?_⟩
  refine List.forall_mem_cons.2 ⟨⟨Try.f39, tr307, sp307, Try.func39, rfl, c307, rfl⟩, ?_⟩
  refine List.forall_mem_cons.2 ⟨⟨Try.f98, tr308, sp308, Try.func98, rfl, c308, rfl⟩, ?_⟩
  refine List.forall_mem_cons.2 ⟨⟨Try.f33, tr309, sp309, Try.func33, rfl, c309, rfl⟩, ?_⟩
  refine List.forall_mem_cons.2 ⟨⟨Try.f83, tr313, sp313, Try.func83, rfl, c313, rfl⟩, ?_⟩
  refine List.forall_mem_cons.2 ⟨⟨Try.f25, tr314, sp314, Try.func25, rfl, c314, rfl⟩, ?_⟩
  refine List.forall_mem_cons.2 ⟨⟨Try.f81, tr315, sp315, Try.func81, rfl, c315, rfl⟩, ?_⟩
  refine List.forall_mem_cons.2 ⟨⟨Try.f84, tr316, sp316, Try.func84, rfl, c316, rfl⟩, ?_⟩
  refine List.forall_mem_cons.2 ⟨⟨Try.f40, tr318, sp318, Try.func40, rfl, c318, rfl⟩, ?_⟩
  refine List.forall_mem_cons.2 ⟨⟨Try.f99, tr319, sp319, Try.func99, rfl, c319, rfl⟩, ?_⟩
  refine List.forall_mem_cons.2 ⟨⟨Try.f97, tr320, sp320, Try.func97, rfl, c320, rfl⟩, ?_⟩
  refine List.forall_mem_cons.2 ⟨⟨Try.f91, tr321, sp321, Try.func91, rfl, c321, rfl⟩, ?_⟩
  refine List.forall_mem_cons.2 ⟨⟨Try.f161, tr331, sp331, Try.func161, rfl, c331, rfl⟩, ?_⟩
  refine List.forall_mem_cons.2 ⟨⟨Try.f130, tr332, sp332, Try.func130, rfl, c332, rfl⟩, ?_⟩
  refine List.forall_mem_cons.2 ⟨⟨Try.f159, tr333, sp333, Try.func159, rfl, c333, rfl⟩, ?_⟩
  exact List.forall_mem_nil _
theorem tabok : TabOK C tab := tabOK_of (l := seatL) (fun _ => rfl) cbody cmixed crows (fun k id sp ps qs h h1 h2 h3 => by cases h; cases h1; exact canon_raw k h2 h3)
end Go.Proofs.Ytcjhfgjgmkfmnaa.Dx
