/- The trees of the functions, by their numbers; printed by program. No conditions. -/
import Derived.Test.YtflhhhijegoheaaL3
namespace Go.Proofs.Ytflhhhijegoheaa.Dx
open Go
/-- dioptra/dioptralaw07.RootWholes -/
def sp18 : Spec := ⟨[(false, [.sc (.i .u64)])], [(false, [.sc .b])]⟩
def tr18 : TT Unit := (.call (.bool true) 273 [(.var 0)] 2 (.call (.bool true) 137 [(.var 0)] 1 (.call (.tri .ite (.bi .eq (.var 1) (.var 3)) (.bi .beq (.var 2) (.bi .eq (.bi (.mul .u64) (.var 1) (.var 1)) (.var 0))) (.bool false)) 19 [] 1 (.yield .ret [(.tri .ite (.tri .ite (.bi .eq (.var 1) (.var 3)) (.bi .beq (.var 2) (.bi .eq (.bi (.mul .u64) (.var 1) (.var 1)) (.var 0))) (.bool false)) (.var 4) (.bool false))]))))
/-- dioptra/dioptralaw07.awake -/
def sp19 : Spec := ⟨[], [(false, [.sc .b])]⟩
def tr19 : TT Unit := (.call (.bool true) 272 [(.int .u64 4611686018427387904)] 2 (.call (.bool true) 273 [(.int .u64 16)] 2 (.yield .ret [(.tri .ite (.tri .ite (.tri .ite (.bi .eq (.var 0) (.int .u64 4609047870845172685)) (.bi .eq (.var 1) (.int .u8 1)) (.bool false)) (.bi .eq (.var 2) (.int .u64 4)) (.bool false)) (.var 3) (.bool false))])))
/-- dioptra/dioptraref07.Small -/
def sp137 : Spec := ⟨[(false, [.sc (.i .u64)])], [(false, [.sc (.i .u64)])]⟩
def tr137 : TT Unit := (.loop [(.int .u64 0), (.int .u64 2147483648)] (.ite (.bi .gt (.var 2) (.int .u64 0)) (.scope (.ite (.bi .le (.bi (.mul .u64) (.bi (.add .u64) (.var 1) (.var 2)) (.bi (.add .u64) (.var 1) (.var 2))) (.var 0)) (.yield .norm [(.bi (.add .u64) (.var 1) (.var 2))]) (.yield .norm [(.var 1)])) (.cons .norm (.assert (.bi .ne (.int .u64 2) (.int .u64 0)) (.yield .cont [(.var 3), (.bi (.quo .u64) (.var 2) (.int .u64 2))])) .nil)) (.yield (.ext 0) [(.var 1)])) (.cons (.ext 0) (.yield .ret [(.var 1)]) .nil))
/-- dioptra/root.Sqrt -/
def sp272 : Spec := ⟨[(false, [.sc (.i .u64)])], [(false, [.sc (.i .u64)]), (false, [.sc (.i .u8)])]⟩
def tr272 : TT Unit := (.scope (.call (.bool true) 281 [(.var 0)] 1 (.ite (.bi .eq (.var 1) (.int .i64 4)) (.yield .ret []) (.call (.bool true) 281 [(.var 0)] 1 (.ite (.bi .eq (.var 2) (.int .i64 0)) (.yield .norm []) (.ite (.bi .eq (.var 0) (.int .u64 9218868437227405312)) (.yield .norm []) (.call (.bool true) 286 [(.var 0)] 1 (.ite (.var 3) (.yield (.ext 4) []) (.yield (.ext 0) [])))))))) (.cons .ret (.yield .ret [(.int .u64 9221120237041090560), (.int .u8 0)]) (.cons .norm (.yield .ret [(.var 0), (.int .u8 0)]) (.cons (.ext 4) (.yield .ret [(.int .u64 9221120237041090560), (.int .u8 16)]) (.cons (.ext 0) (.call (.bool true) 285 [(.var 0)] 2 (.call (.bool true) 331 [(.var 1)] 1 (.scope (.assert (.bi .ne (.int .i64 2) (.int .i64 0)) (.ite (.bi .ne (.bi (.rem .i64) (.bi (.sub .i64) (.var 2) (.bi (.sub .i64) (.var 3) (.int .i64 2))) (.int .i64 2)) (.int .i64 0)) (.yield .norm [(.bi (.sub .i64) (.bi (.sub .i64) (.var 3) (.int .i64 2)) (.int .i64 1))]) (.yield .norm [(.bi (.sub .i64) (.var 3) (.int .i64 2))]))) (.cons .norm (.assert (.bi .ge (.var 4) (.int .i64 0)) (.call (.bool true) 274 [(.bi (.shl .u64) (.var 1) (.var 4))] 2 (.loop [(.bi (.sub .i64) (.var 2) (.var 4)), (.var 5), (.un .not (.var 6))] (.ite (.bi .ge (.var 8) (.int .u64 4611686018427387904)) (.assert (.bi .ge (.int .u64 1) (.int .i64 0)) (.yield .cont [(.bi (.add .i64) (.var 7) (.int .i64 2)), (.bi (.shr .u64) (.var 8) (.int .u64 1)), (.tri .ite (.var 9) (.bool true) (.bi .eq (.bi (.and .u64) (.var 8) (.int .u64 1)) (.int .u64 1)))])) (.yield (.ext 5) [(.var 7), (.var 8), (.var 9)])) (.cons (.ext 5) (.assert (.bi .ne (.int .i64 2) (.int .i64 0)) (.call (.bool true) 283 [(.bool false), (.var 8), (.bi (.sub .i64) (.bi (.quo .i64) (.var 7) (.int .i64 2)) (.int .i64 32)), (.var 9)] 2 (.yield .ret [(.var 10), (.var 11)]))) .nil)))) .nil)))) .nil)))))
/-- dioptra/root.Whole -/
def sp273 : Spec := ⟨[(false, [.sc (.i .u64)])], [(false, [.sc (.i .u64)]), (false, [.sc .b])]⟩
def tr273 : TT Unit := (.loop [(.int .u64 0), (.int .u64 0), (.int .i64 0)] (.ite (.bi .lt (.var 3) (.int .i64 32)) (.scope (.assert (.bi .ge (.int .u64 2) (.int .i64 0)) (.assert (.bi .ge (.bi (.sub .i64) (.int .i64 62) (.bi (.mul .i64) (.int .i64 2) (.var 3))) (.int .i64 0)) (.assert (.bi .ge (.int .u64 2) (.int .i64 0)) (.assert (.bi .ge (.int .u64 1) (.int .i64 0)) (.ite (.bi .ge (.bi (.or .u64) (.bi (.shl .u64) (.var 2) (.int .u64 2)) (.bi (.and .u64) (.bi (.shr .u64) (.var 0) (.bi (.sub .i64) (.int .i64 62) (.bi (.mul .i64) (.int .i64 2) (.var 3)))) (.int .u64 3))) (.bi (.or .u64) (.bi (.shl .u64) (.var 1) (.int .u64 2)) (.int .u64 1))) (.yield .norm [(.bi (.or .u64) (.bi (.shl .u64) (.var 1) (.int .u64 1)) (.int .u64 1)), (.bi (.sub .u64) (.bi (.or .u64) (.bi (.shl .u64) (.var 2) (.int .u64 2)) (.bi (.and .u64) (.bi (.shr .u64) (.var 0) (.bi (.sub .i64) (.int .i64 62) (.bi (.mul .i64) (.int .i64 2) (.var 3)))) (.int .u64 3))) (.bi (.or .u64) (.bi (.shl .u64) (.var 1) (.int .u64 2)) (.int .u64 1)))]) (.yield .norm [(.bi (.shl .u64) (.var 1) (.int .u64 1)), (.bi (.or .u64) (.bi (.shl .u64) (.var 2) (.int .u64 2)) (.bi (.and .u64) (.bi (.shr .u64) (.var 0) (.bi (.sub .i64) (.int .i64 62) (.bi (.mul .i64) (.int .i64 2) (.var 3)))) (.int .u64 3)))])))))) (.cons .norm (.yield .cont [(.var 4), (.var 5), (.bi (.add .i64) (.var 3) (.int .i64 1))]) .nil)) (.yield (.ext 0) [(.var 1), (.var 2)])) (.cons (.ext 0) (.yield .ret [(.var 1), (.bi .eq (.var 2) (.int .u64 0))]) .nil))
/-- dioptra/root.long -/
def sp274 : Spec := ⟨[(false, [.sc (.i .u64)])], [(false, [.sc (.i .u64)]), (false, [.sc .b])]⟩
def tr274 : TT Unit := (.loop [(.int .u64 0), (.int .u64 0), (.int .u64 0), (.int .i64 0)] (.ite (.bi .lt (.var 4) (.int .i64 64)) (.scope (.scope (.ite (.bi .lt (.var 4) (.int .i64 32)) (.assert (.bi .ge (.bi (.sub .i64) (.int .i64 62) (.bi (.mul .i64) (.int .i64 2) (.var 4))) (.int .i64 0)) (.yield .norm [(.bi (.and .u64) (.bi (.shr .u64) (.var 0) (.bi (.sub .i64) (.int .i64 62) (.bi (.mul .i64) (.int .i64 2) (.var 4)))) (.int .u64 3))])) (.yield .norm [(.int .u64 0)])) (.cons .norm (.assert (.bi .ge (.int .u64 2) (.int .i64 0)) (.assert (.bi .ge (.int .u64 62) (.int .i64 0)) (.assert (.bi .ge (.int .u64 2) (.int .i64 0)) (.assert (.bi .ge (.int .u64 62) (.int .i64 0)) (.assert (.bi .ge (.int .u64 2) (.int .i64 0)) (.assert (.bi .ge (.int .u64 1) (.int .i64 0)) (.assert (.bi .le (.int .u64 0) (.int .u64 1)) (.assert (.bi .le (.tri .sborrow (.bi (.or .u64) (.bi (.shl .u64) (.var 3) (.int .u64 2)) (.var 5)) (.bi (.or .u64) (.bi (.shl .u64) (.var 1) (.int .u64 2)) (.int .u64 1)) (.int .u64 0)) (.int .u64 1)) (.ite (.bi .eq (.tri .sborrow (.bi (.or .u64) (.bi (.shl .u64) (.var 2) (.int .u64 2)) (.bi (.shr .u64) (.var 3) (.int .u64 62))) (.bi (.shr .u64) (.var 1) (.int .u64 62)) (.tri .sborrow (.bi (.or .u64) (.bi (.shl .u64) (.var 3) (.int .u64 2)) (.var 5)) (.bi (.or .u64) (.bi (.shl .u64) (.var 1) (.int .u64 2)) (.int .u64 1)) (.int .u64 0))) (.int .u64 0)) (.yield .norm [(.tri .ssub (.bi (.or .u64) (.bi (.shl .u64) (.var 2) (.int .u64 2)) (.bi (.shr .u64) (.var 3) (.int .u64 62))) (.bi (.shr .u64) (.var 1) (.int .u64 62)) (.tri .sborrow (.bi (.or .u64) (.bi (.shl .u64) (.var 3) (.int .u64 2)) (.var 5)) (.bi (.or .u64) (.bi (.shl .u64) (.var 1) (.int .u64 2)) (.int .u64 1)) (.int .u64 0))), (.tri .ssub (.bi (.or .u64) (.bi (.shl .u64) (.var 3) (.int .u64 2)) (.var 5)) (.bi (.or .u64) (.bi (.shl .u64) (.var 1) (.int .u64 2)) (.int .u64 1)) (.int .u64 0)), (.bi (.or .u64) (.bi (.shl .u64) (.var 1) (.int .u64 1)) (.int .u64 1))]) (.yield .norm [(.bi (.or .u64) (.bi (.shl .u64) (.var 2) (.int .u64 2)) (.bi (.shr .u64) (.var 3) (.int .u64 62))), (.bi (.or .u64) (.bi (.shl .u64) (.var 3) (.int .u64 2)) (.var 5)), (.bi (.shl .u64) (.var 1) (.int .u64 1))])))))))))) .nil)) (.cons .norm (.yield .cont [(.var 7), (.var 5), (.var 6), (.bi (.add .i64) (.var 4) (.int .i64 1))]) .nil)) (.yield (.ext 0) [(.var 1), (.var 2), (.var 3)])) (.cons (.ext 0) (.yield .ret [(.var 1), (.tri .ite (.bi .eq (.var 2) (.int .u64 0)) (.bi .eq (.var 3) (.int .u64 0)) (.bool false))]) .nil))
/-- dioptra/soft.Kind -/
def sp281 : Spec := ⟨[(false, [.sc (.i .u64)])], [(false, [.sc (.i .i64)])]⟩
def tr281 : TT Unit := (.call (.bool true) 287 [(.var 0)] 3 (.ite (.tri .ite (.bi .beq (.var 1) (.var 1)) (.tri .ite (.bi .eq (.var 2) (.int .i64 2047)) (.tri .ite (.bi .eq (.var 3) (.int .u64 0)) (.bool true) (.bool false)) (.bool false)) (.bool false)) (.yield .ret [(.int .i64 3)]) (.ite (.bi .eq (.var 2) (.int .i64 2047)) (.yield .ret [(.int .i64 4)]) (.ite (.bi .gt (.var 2) (.int .i64 0)) (.yield .ret [(.int .i64 2)]) (.ite (.bi .gt (.var 3) (.int .u64 0)) (.yield .ret [(.int .i64 1)]) (.yield .ret [(.int .i64 0)]))))))
/-- dioptra/soft.Minus -/
def sp282 : Spec := ⟨[(false, [.sc (.i .u64)])], [(false, [.sc (.i .u64)])]⟩
def tr282 : TT Unit := (.yield .ret [(.bi (.xor .u64) (.var 0) (.int .u64 9223372036854775808))])
/-- dioptra/soft.Near -/
def sp283 : Spec := ⟨[(false, [.sc .b]), (false, [.sc (.i .u64)]), (false, [.sc (.i .i64)]), (false, [.sc .b])], [(false, [.sc (.i .u64)]), (false, [.sc (.i .u8)])]⟩
def tr283 : TT Unit := (.ite (.tri .ite (.bi .eq (.var 1) (.int .u64 0)) (.un .not (.var 3)) (.bool false)) (.call (.bool true) 284 [(.var 0), (.int .u64 0), (.int .i64 (-1074))] 1 (.yield .ret [(.var 4), (.int .u8 0)])) (.loop [(.int .i64 0)] (.assert (.bi .ge (.var 4) (.int .i64 0)) (.ite (.tri .ite (.bi .ge (.bi (.shr .u64) (.var 1) (.var 4)) (.int .u64 9007199254740992)) (.bool true) (.bi .lt (.bi (.add .i64) (.var 2) (.var 4)) (.int .i64 (-1074)))) (.ite (.bi .eq (.bi (.add .i64) (.var 4) (.int .i64 1)) (.int .i64 63)) (.yield (.ext 0) [(.bi (.add .i64) (.var 4) (.int .i64 1))]) (.yield .cont [(.bi (.add .i64) (.var 4) (.int .i64 1))])) (.yield (.ext 0) [(.var 4)]))) (.cons (.ext 0) (.assert (.bi .ge (.var 4) (.int .i64 0)) (.assert (.bi .ge (.var 4) (.int .i64 0)) (.scope (.ite (.bi .gt (.var 4) (.int .i64 0)) (.assert (.bi .ge (.bi (.sub .i64) (.var 4) (.int .i64 1)) (.int .i64 0)) (.yield .norm [(.bi (.shl .u64) (.int .u64 1) (.bi (.sub .i64) (.var 4) (.int .i64 1)))])) (.yield .norm [(.int .u64 0)])) (.cons .norm (.scope (.ite (.tri .ite (.bi .gt (.var 4) (.int .i64 0)) (.tri .ite (.bi .gt (.bi (.and .u64) (.var 1) (.bi (.sub .u64) (.bi (.shl .u64) (.int .u64 1) (.var 4)) (.int .u64 1))) (.var 5)) (.bool true) (.tri .ite (.bi .eq (.bi (.and .u64) (.var 1) (.bi (.sub .u64) (.bi (.shl .u64) (.int .u64 1) (.var 4)) (.int .u64 1))) (.var 5)) (.tri .ite (.var 3) (.bool true) (.bi .eq (.bi (.and .u64) (.bi (.shr .u64) (.var 1) (.var 4)) (.int .u64 1)) (.int .u64 1))) (.bool false))) (.bool false)) (.yield .norm [(.bi (.add .u64) (.bi (.shr .u64) (.var 1) (.var 4)) (.int .u64 1))]) (.yield .norm [(.bi (.shr .u64) (.var 1) (.var 4))])) (.cons .norm (.scope (.ite (.bi .lt (.bi (.add .i64) (.var 2) (.var 4)) (.int .i64 (-1074))) (.yield .norm [(.int .u64 0)]) (.yield .norm [(.var 6)])) (.cons .norm (.call (.bool true) 284 [(.var 0), (.var 7), (.bi (.max .i64) (.bi (.add .i64) (.var 2) (.var 4)) (.int .i64 (-1074)))] 1 (.scope (.ite (.tri .ite (.un .not (.tri .ite (.bi .eq (.bi (.and .u64) (.var 1) (.bi (.sub .u64) (.bi (.shl .u64) (.int .u64 1) (.var 4)) (.int .u64 1))) (.int .u64 0)) (.un .not (.var 3)) (.bool false))) (.bool true) (.bi .eq (.bi (.andNot .u64) (.var 8) (.int .u64 9223372036854775808)) (.int .u64 9218868437227405312))) (.call (.bool true) 281 [(.var 8)] 1 (.ite (.bi .eq (.var 9) (.int .i64 3)) (.yield .norm [(.bi (.or .u8) (.int .u8 1) (.int .u8 4))]) (.scope (.ite (.bi .eq (.var 9) (.int .i64 0)) (.yield .norm [(.bi .eq (.var 9) (.int .i64 0))]) (.yield .norm [(.bi .eq (.var 9) (.int .i64 1))])) (.cons .norm (.ite (.var 10) (.yield .norm [(.bi (.or .u8) (.int .u8 1) (.int .u8 2))]) (.yield .norm [(.int .u8 1)])) .nil)))) (.yield .norm [(.int .u8 0)])) (.cons .norm (.yield .ret [(.var 8), (.var 9)]) .nil))) .nil)) .nil)) .nil)))) .nil)))
/-- dioptra/soft.Pack -/
def sp284 : Spec := ⟨[(false, [.sc .b]), (false, [.sc (.i .u64)]), (false, [.sc (.i .i64)])], [(false, [.sc (.i .u64)])]⟩
def tr284 : TT Unit := (.scope (.ite (.bi .eq (.var 1) (.int .u64 0)) (.yield .norm [(.int .u64 0)]) (.ite (.bi .ge (.var 1) (.int .u64 9007199254740992)) (.assert (.bi .ge (.int .u64 1) (.int .i64 0)) (.call (.bool true) 284 [(.var 0), (.bi (.shr .u64) (.var 1) (.int .u64 1)), (.bi (.add .i64) (.var 2) (.int .i64 1))] 1 (.yield .ret [(.var 3)]))) (.ite (.tri .ite (.bi .lt (.var 1) (.int .u64 4503599627370496)) (.bi .gt (.var 2) (.int .i64 (-1074))) (.bool false)) (.assert (.bi .ge (.int .u64 1) (.int .i64 0)) (.call (.bool true) 284 [(.var 0), (.bi (.shl .u64) (.var 1) (.int .u64 1)), (.bi (.sub .i64) (.var 2) (.int .i64 1))] 1 (.yield .ret [(.var 3)]))) (.ite (.bi .lt (.var 1) (.int .u64 4503599627370496)) (.yield .norm [(.var 1)]) (.ite (.bi .ge (.bi (.add .i64) (.var 2) (.int .i64 1075)) (.int .i64 2047)) (.yield .norm [(.int .u64 9218868437227405312)]) (.assert (.bi .ge (.int .u64 52) (.int .i64 0)) (.yield .norm [(.bi (.or .u64) (.bi (.shl .u64) (.un (.conv .u64) (.bi (.add .i64) (.var 2) (.int .i64 1075))) (.int .u64 52)) (.bi (.and .u64) (.var 1) (.int .u64 4503599627370495)))]))))))) (.cons .norm (.scope (.ite (.var 0) (.call (.bool true) 282 [(.var 3)] 1 (.yield .norm [(.var 4)])) (.yield .norm [(.var 3)])) (.cons .norm (.yield .ret [(.var 4)]) .nil)) (.cons .ret (.yield .ret [(.var 3)]) .nil)))
/-- dioptra/soft.Parts -/
def sp285 : Spec := ⟨[(false, [.sc (.i .u64)])], [(false, [.sc (.i .u64)]), (false, [.sc (.i .i64)])]⟩
def tr285 : TT Unit := (.call (.bool true) 287 [(.var 0)] 3 (.ite (.bi .eq (.var 2) (.int .i64 0)) (.yield .ret [(.var 3), (.int .i64 (-1074))]) (.yield .ret [(.bi (.or .u64) (.var 3) (.int .u64 4503599627370496)), (.bi (.sub .i64) (.var 2) (.int .i64 1075))])))
/-- dioptra/soft.Sign -/
def sp286 : Spec := ⟨[(false, [.sc (.i .u64)])], [(false, [.sc .b])]⟩
def tr286 : TT Unit := (.assert (.bi .ge (.int .u64 63) (.int .i64 0)) (.yield .ret [(.bi .eq (.bi (.shr .u64) (.var 0) (.int .u64 63)) (.int .u64 1))]))
/-- dioptra/soft.Split -/
def sp287 : Spec := ⟨[(false, [.sc (.i .u64)])], [(true, [.sc .b, .sc (.i .i64), .sc (.i .u64)])]⟩
def tr287 : TT Unit := (.assert (.bi .ge (.int .u64 63) (.int .i64 0)) (.assert (.bi .ge (.int .u64 52) (.int .i64 0)) (.yield .ret [(.bi .eq (.bi (.shr .u64) (.var 0) (.int .u64 63)) (.int .u64 1)), (.un (.conv .i64) (.bi (.and .u64) (.bi (.shr .u64) (.var 0) (.int .u64 52)) (.int .u64 2047))), (.bi (.and .u64) (.var 0) (.int .u64 4503599627370495))])))
/-- math/bits.LeadingZeros64 -/
def sp331 : Spec := ⟨[(false, [.sc (.i .u64)])], [(false, [.sc (.i .i64)])]⟩
def tr331 : TT Unit := (.call (.bool true) 332 [(.var 0)] 1 (.yield .ret [(.bi (.sub .i64) (.int .i64 64) (.var 1))]))
/-- math/bits.Len64 -/
def sp332 : Spec := ⟨[(false, [.sc (.i .u64)])], [(false, [.sc (.i .i64)])]⟩
def tr332 : TT Unit := (.scope (.ite (.bi .ge (.var 0) (.int .u64 4294967296)) (.assert (.bi .ge (.int .u64 32) (.int .i64 0)) (.yield .norm [(.bi (.shr .u64) (.var 0) (.int .u64 32)), (.int .i64 32)])) (.yield .norm [(.var 0), (.int .i64 0)])) (.cons .norm (.scope (.ite (.bi .ge (.var 1) (.int .u64 65536)) (.assert (.bi .ge (.int .u64 16) (.int .i64 0)) (.yield .norm [(.bi (.shr .u64) (.var 1) (.int .u64 16)), (.bi (.add .i64) (.var 2) (.int .i64 16))])) (.yield .norm [(.var 1), (.var 2)])) (.cons .norm (.scope (.ite (.bi .ge (.var 3) (.int .u64 256)) (.assert (.bi .ge (.int .u64 8) (.int .i64 0)) (.yield .norm [(.bi (.shr .u64) (.var 3) (.int .u64 8)), (.bi (.add .i64) (.var 4) (.int .i64 8))])) (.yield .norm [(.var 3), (.var 4)])) (.cons .norm (.assert (.bi .le (.int .i64 0) (.un (.conv .u8) (.var 5))) (.assert (.bi .lt (.un (.conv .u8) (.var 5)) (.int .i64 256)) (.yield .ret [(.bi (.add .i64) (.var 6) (.un (.conv .i64) (.un .tab8 (.un (.conv .u8) (.var 5)))))]))) .nil)) .nil)) .nil))
def spc : Nat → Option Spec
  | 18 => some sp18
  | 19 => some sp19
  | 137 => some sp137
  | 272 => some sp272
  | 273 => some sp273
  | 274 => some sp274
  | 281 => some sp281
  | 282 => some sp282
  | 283 => some sp283
  | 284 => some sp284
  | 285 => some sp285
  | 286 => some sp286
  | 287 => some sp287
  | 331 => some sp331
  | 332 => some sp332
  | _ => none
def tab : Nat → Option (TT Unit)
  | 18 => some tr18
  | 19 => some tr19
  | 137 => some tr137
  | 272 => some tr272
  | 273 => some tr273
  | 274 => some tr274
  | 281 => some tr281
  | 282 => some tr282
  | 283 => some tr283
  | 284 => some tr284
  | 285 => some tr285
  | 286 => some tr286
  | 287 => some tr287
  | 331 => some tr331
  | 332 => some tr332
  | _ => none
theorem tab18 : tab 18 = some tr18 := rfl
theorem tab19 : tab 19 = some tr19 := rfl
theorem tab137 : tab 137 = some tr137 := rfl
theorem tab272 : tab 272 = some tr272 := rfl
theorem tab273 : tab 273 = some tr273 := rfl
theorem tab274 : tab 274 = some tr274 := rfl
theorem tab281 : tab 281 = some tr281 := rfl
theorem tab282 : tab 282 = some tr282 := rfl
theorem tab283 : tab 283 = some tr283 := rfl
theorem tab284 : tab 284 = some tr284 := rfl
theorem tab285 : tab 285 = some tr285 := rfl
theorem tab286 : tab 286 = some tr286 := rfl
theorem tab287 : tab 287 = some tr287 := rfl
theorem tab331 : tab 331 = some tr331 := rfl
theorem tab332 : tab 332 = some tr332 := rfl
end Go.Proofs.Ytflhhhijegoheaa.Dx
