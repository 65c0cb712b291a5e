/- For every input the law 'PivotFalls' returns true, and its arguments read as before: the given statement. No conditions. -/
import Derived.Test.YthchhkghjfendaaGreatRows
import Derived.Test.YthchhkghjfendaaGreatPivotFallsS
import Derived.WalkKit
import Derived.ProofKit
import Derived.OpenShut
import Derived.SizedLaws
namespace Go.Proofs.YthchhkghjfendaaGreat.pivotFalls
open Go.ChangeShapes Go.WideShapes Go.ChangeAt Go.RowKit
set_option linter.unusedVariables false

theorem own : ownKnob Tryz.prog.godebug = none := by kernel_rfl
theorem laidOut : laidOutB Tryz.prog = true := by kernel_rfl
/-- The pure law, of whatever the arguments come to. -/
theorem entry : ∀ ps, Dx.All2 Dx.PvT ([.int .i64, .int .i64, .sl .u64] : List Dx.Bs) ps → ∃ k, Dx.fden Dx.tab k 65 ps = some [.v (.bool true)]
  | [_, _, _], ⟨h0, h1, h2, _⟩ => by
    obtain ⟨n0, rfl, a0, b0⟩ := Dx.pv_i64 h0
    obtain ⟨n1, rfl, a1, b1⟩ := Dx.pv_i64 h1
    obtain ⟨n2, rfl, a2, b2⟩ := Dx.pv_lu h2
    exact Dx.val_iff.1 (Dx.law_PivotFalls a0 b0 a1 b1 a2 b2)
  | [], h => by simp [Dx.All2] at h
  | [_], h => by simp [Dx.All2] at h
  | [_, _], h => by simp [Dx.All2] at h
  | _ :: _ :: _ :: _ :: _, h => by simp [Dx.All2] at h

set_option maxRecDepth 100000 in
theorem lifted (os : Os) (started : os.Started) (H : Type) (enc : TypeId × Value → H) :
    ReturnsInHanded {} Tryz.checked os 3 .any (Rows.pivotFallsSpec.pre6 enc Tryz.prog Tryz.f3 Rows.pivotFallsRow.domain false) (Rows.pivotFallsSpec.post enc Tryz.prog Tryz.f3 false true false false) := by
  refine returnsInHanded_of_change_sized (C := Tryz.checked) own started (by kernel_rfl) Tryz.func3
    (ChangeSpec.witness6 (enc := enc) (C := Tryz.checked) false ⟨#[], #[.agg #[.int .i64 0, .int .i64 0, .slice none 0 0]], []⟩ 8 (by kernel_rfl) (by kernel_rfl) (by kernel_rfl) (by kernel_rfl)) ?_
  intro W base args ds gs before hval hW hcnd hsz _
  exact Dx.law_post (C := Dx.C) Dx.tabok (id := 65) (sp := Dx.sp65) (fn := Tryz.f3) (s := Rows.pivotFallsSpec) (shs := [(true, [.int .i64, .int .i64, .sl .u64])]) rfl rfl rfl rfl (by kernel_rfl) (by kernel_rfl) rfl (fun ds h => by
    match ds, h with
    | [_], _ => exact ⟨rfl, rfl, rfl⟩) rfl Tryz.underlying4 laidOut (by kernel_rfl) hval hW hsz entry

theorem over : Rows.pivotFallsRow.holds Tryz.pinned (OpenSpec.ofChange Rows.pivotFallsSpec) :=
  OpenClaim.holds_of_wide 3 Tryz.f3 rfl rfl rfl rfl rfl rfl rfl ⟨rfl, rfl, rfl, rfl, rfl⟩ rfl rfl rfl rfl rfl (by kernel_rfl) Tryz.func3 (by kernel_rfl)
    (of_decide_eq_true (by kernel_rfl)) (by unfold Func.isWrapper; first | (rw [if_pos (by decide +kernel)]; kernel_rfl) | (rw [if_neg (by decide +kernel)]; exact ⟨rfl, rfl⟩))
    (fun os started H enc _ => lifted os started H enc)

theorem proved : Rows.PivotFallsSaid := over
#print axioms proved
end Go.Proofs.YthchhkghjfendaaGreat.pivotFalls
