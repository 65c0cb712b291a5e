/- For every input the law 'PivotWhole' returns true, and its arguments read as before: the given statement. No conditions. -/
import Derived.Test.YthchhkghjfendaaGreatRows
import Derived.Test.YthchhkghjfendaaGreatPivotWholeS
import Derived.WalkKit
import Derived.ProofKit
import Derived.OpenShut
import Derived.SizedLaws
namespace Go.Proofs.YthchhkghjfendaaGreat.pivotWhole
open Go.ChangeShapes Go.WideShapes Go.ChangeAt Go.RowKit
set_option linter.unusedVariables false

theorem own : ownKnob Tryz.prog.godebug = none := by kernel_rfl
theorem laidOut : laidOutB Tryz.prog = true := by kernel_rfl
/-- The pure law, of whatever the arguments come to. -/
theorem entry : ∀ ps, Dx.All2 Dx.PvT ([.int .u8, .int .u8, .sl .i8] : List Dx.Bs) ps → ∃ k, Dx.fden Dx.tab k 68 ps = some [.v (.bool true)]
  | [_, _, _], ⟨h0, h1, h2, _⟩ => by
    obtain ⟨n0, rfl, a0⟩ := Dx.pv_u8 h0
    obtain ⟨n1, rfl, a1⟩ := Dx.pv_u8 h1
    obtain ⟨n2, rfl, a2, b2⟩ := Dx.pv_l8 h2
    exact Dx.val_iff.1 (Dx.law_PivotWhole a0 a1 a2 b2)
  | [], h => by simp [Dx.All2] at h
  | [_], h => by simp [Dx.All2] at h
  | [_, _], h => by simp [Dx.All2] at h
  | _ :: _ :: _ :: _ :: _, h => by simp [Dx.All2] at h

set_option maxRecDepth 100000 in
theorem lifted (os : Os) (started : os.Started) (H : Type) (enc : TypeId × Value → H) :
    ReturnsInHanded {} Tryz.checked os 4 .any (Rows.pivotWholeSpec.pre6 enc Tryz.prog Tryz.f4 Rows.pivotWholeRow.domain false) (Rows.pivotWholeSpec.post enc Tryz.prog Tryz.f4 false true false false) := by
  refine returnsInHanded_of_change_sized (C := Tryz.checked) own started (by kernel_rfl) Tryz.func4
    (ChangeSpec.witness6 (enc := enc) (C := Tryz.checked) false ⟨#[], #[.int .u8 0, .int .u8 0, .slice none 0 0], []⟩ 8 (by kernel_rfl) (by kernel_rfl) (by kernel_rfl) (by kernel_rfl)) ?_
  intro W base args ds gs before hval hW hcnd hsz _
  exact Dx.law_post (C := Dx.C) Dx.tabok (id := 68) (sp := Dx.sp68) (fn := Tryz.f4) (s := Rows.pivotWholeSpec) (shs := [(false, [.int .u8]), (false, [.int .u8]), (false, [.sl .i8])]) rfl rfl rfl rfl (by kernel_rfl) (by kernel_rfl) rfl (fun ds h => by
    match ds, h with
    | [_, _, _], _ => exact ⟨rfl, rfl, rfl⟩) rfl Tryz.underlying4 laidOut (by kernel_rfl) hval hW hsz entry

theorem over : Rows.pivotWholeRow.holds Tryz.pinned (OpenSpec.ofChange Rows.pivotWholeSpec) :=
  OpenClaim.holds_of_wide 4 Tryz.f4 rfl rfl rfl rfl rfl rfl rfl ⟨rfl, rfl, rfl, rfl, rfl⟩ rfl rfl rfl rfl rfl (by kernel_rfl) Tryz.func4 (by kernel_rfl)
    (of_decide_eq_true (by kernel_rfl)) (by unfold Func.isWrapper; first | (rw [if_pos (by decide +kernel)]; kernel_rfl) | (rw [if_neg (by decide +kernel)]; exact ⟨rfl, rfl⟩))
    (fun os started H enc _ => lifted os started H enc)

theorem proved : Rows.PivotWholeSaid := over
#print axioms proved
end Go.Proofs.YthchhkghjfendaaGreat.pivotWhole
