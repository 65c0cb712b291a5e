/- The functions of a program come to the trees of the table; printed by program. No conditions. -/
import Derived.Test.YtcjhfgjgmkfmnaaGivensRowsM2
import Derived.Test.YtcjhfgjgmkfmnaaProg
import Derived.KernelRfl
namespace Go.Proofs.Ytcjhfgjgmkfmnaa.Dx
open Go
def seatL : List (Nat × Nat) := [(92, 3), (80, 5), (15, 10), (12, 41), (44, 44), (59, 45), (86, 121), (71, 122), (85, 126), (17, 134), (95, 148), (106, 150), (107, 154), (96, 156), (41, 159), (112, 163), (110, 166), (56, 168), (58, 172), (109, 174), (113, 175), (111, 176), (147, 177), (61, 187), (60, 188), (57, 230), (52, 231), (45, 232), (104, 246), (108, 255), (145, 256), (146, 257), (144, 258), (142, 259), (133, 272), (162, 274), (79, 280), (67, 281), (150, 282), (69, 283), (118, 284), (68, 285), (70, 286), (117, 287), (131, 288), (143, 289), (155, 290), (154, 291), (140, 300), (132, 301), (156, 302), (158, 303), (157, 304), (160, 305), (82, 306), (33, 309), (100, 310), (83, 313), (81, 315), (84, 316), (105, 317), (161, 331), (130, 332), (159, 333)]
def fidM (f : FuncId) : Option Nat := (seatL.find? (·.1 == f)).map (·.2)
noncomputable def C : Ctx := { P := Try.prog, fid := fidM, spec := spc, canon := some 134 }
theorem c3 : symFun C Try.f92 sp3 = some tr3 := by kernel_rfl
theorem c5 : symFun C Try.f80 sp5 = some tr5 := by kernel_rfl
theorem c10 : symFun C Try.f15 sp10 = some tr10 := by kernel_rfl
theorem c41 : symFun C Try.f12 sp41 = some tr41 := by kernel_rfl
theorem c44 : symFun C Try.f44 sp44 = some tr44 := by kernel_rfl
theorem c45 : symFun C Try.f59 sp45 = some tr45 := by kernel_rfl
theorem c121 : symFun C Try.f86 sp121 = some tr121 := by kernel_rfl
theorem c122 : symFun C Try.f71 sp122 = some tr122 := by kernel_rfl
theorem c126 : symFun C Try.f85 sp126 = some tr126 := by kernel_rfl
theorem c134 : symFun C Try.f17 sp134 = some tr134 := by kernel_rfl
theorem c148 : symFun C Try.f95 sp148 = some tr148 := by kernel_rfl
theorem c150 : symFun C Try.f106 sp150 = some tr150 := by kernel_rfl
theorem c154 : symFun C Try.f107 sp154 = some tr154 := by kernel_rfl
theorem c156 : symFun C Try.f96 sp156 = some tr156 := by kernel_rfl
theorem c159 : symFun C Try.f41 sp159 = some tr159 := by kernel_rfl
theorem c163 : symFun C Try.f112 sp163 = some tr163 := by kernel_rfl
theorem c166 : symFun C Try.f110 sp166 = some tr166 := by kernel_rfl
theorem c168 : symFun C Try.f56 sp168 = some tr168 := by kernel_rfl
theorem c172 : symFun C Try.f58 sp172 = some tr172 := by kernel_rfl
theorem c174 : symFun C Try.f109 sp174 = some tr174 := by kernel_rfl
theorem c175 : symFun C Try.f113 sp175 = some tr175 := by kernel_rfl
theorem c176 : symFun C Try.f111 sp176 = some tr176 := by kernel_rfl
theorem c177 : symFun C Try.f147 sp177 = some tr177 := by kernel_rfl
theorem c187 : symFun C Try.f61 sp187 = some tr187 := by kernel_rfl
theorem c188 : symFun C Try.f60 sp188 = some tr188 := by kernel_rfl
theorem c230 : symFun C Try.f57 sp230 = some tr230 := by kernel_rfl
theorem c231 : symFun C Try.f52 sp231 = some tr231 := by kernel_rfl
theorem c232 : symFun C Try.f45 sp232 = some tr232 := by kernel_rfl
theorem c246 : symFun C Try.f104 sp246 = some tr246 := by kernel_rfl
theorem c255 : symFun C Try.f108 sp255 = some tr255 := by kernel_rfl
theorem c256 : symFun C Try.f145 sp256 = some tr256 := by kernel_rfl
theorem c257 : symFun C Try.f146 sp257 = some tr257 := by kernel_rfl
theorem c258 : symFun C Try.f144 sp258 = some tr258 := by kernel_rfl
theorem c259 : symFun C Try.f142 sp259 = some tr259 := by kernel_rfl
theorem c272 : symFun C Try.f133 sp272 = some tr272 := by kernel_rfl
theorem c274 : symFun C Try.f162 sp274 = some tr274 := by kernel_rfl
theorem c280 : symFun C Try.f79 sp280 = some tr280 := by kernel_rfl
theorem c281 : symFun C Try.f67 sp281 = some tr281 := by kernel_rfl
theorem c282 : symFun C Try.f150 sp282 = some tr282 := by kernel_rfl
theorem c283 : symFun C Try.f69 sp283 = some tr283 := by kernel_rfl
theorem c284 : symFun C Try.f118 sp284 = some tr284 := by kernel_rfl
theorem c285 : symFun C Try.f68 sp285 = some tr285 := by kernel_rfl
theorem c286 : symFun C Try.f70 sp286 = some tr286 := by kernel_rfl
theorem c287 : symFun C Try.f117 sp287 = some tr287 := by kernel_rfl
theorem c288 : symFun C Try.f131 sp288 = some tr288 := by kernel_rfl
theorem c289 : symFun C Try.f143 sp289 = some tr289 := by kernel_rfl
theorem c290 : symFun C Try.f155 sp290 = some tr290 := by kernel_rfl
theorem c291 : symFun C Try.f154 sp291 = some tr291 := by kernel_rfl
theorem c300 : symFun C Try.f140 sp300 = some tr300 := by kernel_rfl
theorem c301 : symFun C Try.f132 sp301 = some tr301 := by kernel_rfl
theorem c302 : symFun C Try.f156 sp302 = some tr302 := by kernel_rfl
theorem c303 : symFun C Try.f158 sp303 = some tr303 := by kernel_rfl
theorem c304 : symFun C Try.f157 sp304 = some tr304 := by kernel_rfl
theorem c305 : symFun C Try.f160 sp305 = some tr305 := by kernel_rfl
theorem c306 : symFun C Try.f82 sp306 = some tr306 := by kernel_rfl
theorem c309 : symFun C Try.f33 sp309 = some tr309 := by kernel_rfl
theorem c310 : symFun C Try.f100 sp310 = some tr310 := by kernel_rfl
theorem c313 : symFun C Try.f83 sp313 = some tr313 := by kernel_rfl
theorem c315 : symFun C Try.f81 sp315 = some tr315 := by kernel_rfl
theorem c316 : symFun C Try.f84 sp316 = some tr316 := by kernel_rfl
theorem c317 : symFun C Try.f105 sp317 = some tr317 := by kernel_rfl
theorem c331 : symFun C Try.f161 sp331 = some tr331 := by kernel_rfl
theorem c332 : symFun C Try.f130 sp332 = some tr332 := by kernel_rfl
theorem c333 : symFun C Try.f159 sp333 = some tr333 := by kernel_rfl
theorem cbody : (seatL.all fun p => (C.P.funcs[p.1]?).any fun fn => fn.body.isSome && fn.name != "runtime.NumGoroutine") = true := by kernel_rfl
theorem cmixed : C.P.follows .mixedOrders = true := by kernel_rfl
theorem crows : ∀ p ∈ seatL, RowOK C tab p := by
  unfold seatL
  refine List.forall_mem_cons.2 ⟨⟨Try.f92, tr3, sp3, Try.func92, rfl, c3, rfl⟩, ?_⟩
  refine List.forall_mem_cons.2 ⟨⟨Try.f80, tr5, sp5, Try.func80, rfl, c5, rfl⟩, ?_⟩
  refine List.forall_mem_cons.2 ⟨⟨Try.f15, tr10, sp10, Try.func15, rfl, c10, rfl⟩, ?_⟩
  refine List.forall_mem_cons.2 ⟨⟨Try.f12, tr41, sp41, Try.func12, rfl, c41, rfl⟩, ?_⟩
  refine List.forall_mem_cons.2 ⟨⟨Try.f44, tr44, sp44, Try.func44, rfl, c44, rfl⟩, ?_⟩
  refine List.forall_mem_cons.2 ⟨⟨Try.f59, tr45, sp45, Try.func59, rfl, c45, rfl⟩, ?_⟩
  refine List.forall_mem_cons.2 ⟨⟨Try.f86, tr121, sp121, Try.func86, rfl, c121, rfl⟩, ?_⟩
  refine List.forall_mem_cons.2 ⟨⟨Try.f71, tr122, sp122, Try.func71, rfl, c122, rfl⟩, ?_⟩
  refine List.forall_mem_cons.2 ⟨⟨Try.f85, tr126, sp126, Try.func85, rfl, c126, rfl⟩, ?_⟩
  refine List.forall_mem_cons.2 ⟨⟨Try.f17, tr134, sp134, Try.func17, rfl, c134, rfl⟩, ?_⟩
  refine List.forall_mem_cons.2 ⟨⟨Try.f95, tr148, sp148, Try.func95, rfl, c148, rfl⟩, ?_⟩
  refine List.forall_mem_cons.2 ⟨⟨Try.f106, tr150, sp150, Try.func106, rfl, c150, rfl⟩, ?_⟩
  refine List.forall_mem_cons.2 ⟨⟨Try.f107, tr154, sp154, Try.func107, rfl, c154, rfl⟩, ?_⟩
  refine List.forall_mem_cons.2 ⟨⟨Try.f96, tr156, sp156, Try.func96, rfl, c156, rfl⟩, ?_⟩
  refine List.forall_mem_cons.2 ⟨⟨Try.f41, tr159, sp159, Try.func41, rfl, c159, rfl⟩, ?_⟩
  refine List.forall_mem_cons.2 ⟨⟨Try.f112, tr163, sp163, Try.func112, rfl, c163, rfl⟩, ?_⟩
  refine List.forall_mem_cons.2 ⟨⟨Try.f110, tr166, sp166, Try.func110, rfl, c166, rfl⟩, ?_⟩
  refine List.forall_mem_cons.2 ⟨⟨Try.f56, tr168, sp168, Try.func56, rfl, c168, rfl⟩, ?_⟩
  refine List.forall_mem_cons.2 ⟨⟨Try.f58, tr172, sp172, Try.func58, rfl, c172, rfl⟩, ?_⟩
  refine List.forall_mem_cons.2 ⟨⟨Try.f109, tr174, sp174, Try.func109, rfl, c174, rfl⟩, ?_⟩
  refine List.forall_mem_cons.2 ⟨⟨Try.f113, tr175, sp175, Try.func113, rfl, c175, rfl⟩, ?_⟩
  refine List.forall_mem_cons.2 ⟨⟨Try.f111, tr176, sp176, Try.func111, rfl, c176, rfl⟩, ?_⟩
  refine List.forall_mem_cons.2 ⟨⟨Try.f147, tr177, sp177, Try.func147, rfl, c177, rfl⟩, ?_⟩
  refine List.forall_mem_cons.2 ⟨⟨Try.f61, tr187, sp187, Try.func61, rfl, c187, rfl⟩, ?_⟩
  refine List.forall_mem_cons.2 ⟨⟨Try.f60, tr188, sp188, Try.func60, rfl, c188, rfl⟩, ?_⟩
  refine List.forall_mem_cons.2 ⟨⟨Try.f57, tr230, sp230, Try.func57, rfl, c230, rfl⟩, ?_⟩
  refine List.forall_mem_cons.2 ⟨⟨Try.f52, tr231, sp231, Try.func52, rfl, c231, rfl⟩, ?_⟩
  refine List.forall_mem_cons.2 ⟨⟨Try.f45, tr232, sp232, Try.func45, rfl, c232, rfl⟩, ?_⟩
  refine List.forall_mem_cons.2 ⟨⟨Try.f104, tr246, sp246, Try.func104, rfl, c246, rfl⟩, ?_⟩
  refine List.forall_mem_cons.2 ⟨⟨Try.f108, tr255, sp255, Try.func108, rfl, c255, rfl⟩, ?_⟩
  refine List.forall_mem_cons.2 ⟨⟨Try.f145, tr256, sp256, Try.func145, rfl, c256, rfl⟩, ?_⟩
  refine List.forall_mem_cons.2 ⟨⟨Try.f146, tr257, sp257, Try.func146, rfl, c257, rfl⟩, ?_⟩
  refine List.forall_mem_cons.2 ⟨⟨Try.f144, tr258, sp258, Try.func144, rfl, c258, rfl⟩, ?_⟩
  refine List.forall_mem_cons.2 ⟨⟨Try.f142, tr259, sp259, Try.func142, rfl, c259, rfl⟩, ?_⟩
  refine List.forall_mem_cons.2 ⟨⟨Try.f133, tr272, sp272, Try.func133, rfl, c272, rfl⟩, ?_⟩
  refine List.forall_mem_cons.2 ⟨⟨Try.f162, tr274, sp274, Try.func162, rfl, c274, rfl⟩, ?_⟩
  refine List.forall_mem_cons.2 ⟨⟨Try.f79, tr280, sp280, Try.func79, rfl, c280, rfl⟩, ?_⟩
  refine List.forall_mem_cons.2 ⟨⟨Try.f67, tr281, sp281, Try.func67, rfl, c281, rfl⟩, ?_⟩
  refine List.forall_mem_cons.2 ⟨⟨Try.f150, tr282, sp282, Try.func150, rfl, c282, rfl⟩, ?_⟩
  refine List.forall_mem_cons.2 ⟨⟨Try.f69, tr283, sp283, Try.func69, rfl, c283, rfl⟩, ?_⟩
  refine List.forall_mem_cons.2 ⟨⟨Try.f118, tr284, sp284, Try.func118, rfl, c284, rfl⟩, ?_⟩
  refine List.forall_mem_cons.2 ⟨⟨Try.f68, tr285, sp285, Try.func68, rfl, c285, rfl⟩, ?_⟩
  refine List.forall_mem_cons.2 ⟨⟨Try.f70, tr286, sp286, Try.func70, rfl, c286, rfl⟩, ?_⟩
  refine List.forall_mem_cons.2 ⟨⟨Try.f117, tr287, sp287, Try.func117, rfl, c287, rfl⟩, ?_⟩
  refine List.forall_mem_cons.2 ⟨⟨Try.f131, tr288, sp288, Try.func131, rfl, c288, rfl⟩, ?_⟩
  refine List.forall_mem_cons.2 ⟨⟨Try.f143, tr289, sp289, Try.func143, rfl, c289, rfl⟩, ?_⟩
  refine List.forall_mem_cons.2 ⟨⟨Try.f155, tr290, sp290, Try.func155, rfl, c290, rfl⟩, ?_⟩
  refine List.forall_mem_cons.2 ⟨⟨Try.f154, tr291, sp291, Try.func154, rfl, c291, rfl⟩, ?_⟩
  refine List.forall_mem_cons.2 ⟨⟨Try.f140, tr300, sp300, Try.func140, rfl, c300, rfl⟩, ?_⟩
  refine List.forall_mem_cons.2 ⟨⟨Try.f132, tr301, sp301, Try.func132, rfl, c301, rfl⟩, ?_⟩
  refine List.forall_mem_cons.2 ⟨⟨Try.f156, tr302, sp302, Try.func156, rfl, c302, rfl⟩, ?_⟩
  refine List.forall_mem_cons.2 ⟨⟨Try.f158, tr303, sp303, Try.func158, rfl, c303, rfl⟩, ?_⟩
  refine List.forall_mem_cons.2 ⟨⟨Try.f157, tr304, sp304, Try.func157, rfl, c304, rfl⟩, ?_⟩
  refine List.forall_mem_cons.2 ⟨⟨Try.f160, tr305, sp305, Try.func160, rfl, c305, rfl⟩, ?_⟩
  refine List.forall_mem_cons.2 ⟨⟨Try.f82, tr306, sp306, Try.func82, rfl, c306, rfl⟩, ?_⟩
  refine List.forall_mem_cons.2 ⟨⟨Try.f33, tr309, sp309, Try.func33, rfl, c309, rfl⟩, ?_⟩
  refine List.forall_mem_cons.2 ⟨⟨Try.f100, tr310, sp310, Try.func100, rfl, c310, rfl⟩, ?_⟩
  refine List.forall_mem_cons.2 ⟨⟨Try.f83, tr313, sp313, Try.func83, rfl, c313, rfl⟩, ?_⟩
  refine List.forall_mem_cons.2 ⟨⟨Try.f81, tr315, sp315, Try.func81, rfl, c315, rfl⟩, ?_⟩
  refine List.forall_mem_cons.2 ⟨⟨Try.f84, tr316, sp316, Try.func84, rfl, c316, rfl⟩, ?_⟩
  refine List.forall_mem_cons.2 ⟨⟨Try.f105, tr317, sp317, Try.func105, rfl, c317, rfl⟩, ?_⟩
  refine List.forall_mem_cons.2 ⟨⟨Try.f161, tr331, sp331, Try.func161, rfl, c331, rfl⟩, ?_⟩
  refine List.forall_mem_cons.2 ⟨⟨Try.f130, tr332, sp332, Try.func130, rfl, c332, rfl⟩, ?_⟩
  refine List.forall_mem_cons.2 ⟨⟨Try.f159, tr333, sp333, Try.func159, rfl, c333, rfl⟩, ?_⟩
  exact List.forall_mem_nil _
theorem tabok : TabOK C tab := tabOK_of (l := seatL) (fun _ => rfl) cbody cmixed crows (fun k id sp ps qs h h1 h2 h3 => by cases h; cases h1; exact canon_raw k h2 h3)
end Go.Proofs.Ytcjhfgjgmkfmnaa.Dx
