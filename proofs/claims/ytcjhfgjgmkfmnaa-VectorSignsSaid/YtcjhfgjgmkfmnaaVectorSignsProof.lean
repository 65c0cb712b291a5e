/- For every input the law 'VectorSigns' returns true, and its arguments read as before: the given statement. No conditions. -/
import Derived.Test.YtcjhfgjgmkfmnaaRows
import Derived.Test.YtcjhfgjgmkfmnaaVectorSignsS
import Derived.WalkKit
import Derived.ProofKit
import Derived.OpenShut
import Derived.SizedLaws
namespace Go.Proofs.Ytcjhfgjgmkfmnaa.vectorSigns
open Go.ChangeShapes Go.WideShapes Go.ChangeAt Go.RowKit
set_option linter.unusedVariables false

theorem own : ownKnob Try.prog.godebug = none := by kernel_rfl
theorem laidOut : laidOutB Try.prog = true := by kernel_rfl
/-- The pure law, of whatever the arguments come to. -/
theorem entry : ∀ ps, Dx.All2 Dx.PvT ([.sl .u64, .int .u64, .int .i64] : List Dx.Bs) ps → ∃ k, Dx.fden Dx.tab k 35 ps = some [.v (.bool true)]
  | [_, _, _], ⟨h0, h1, h2, _⟩ => by
    obtain ⟨n0, rfl, a0, b0⟩ := Dx.pv_lu h0
    obtain ⟨n1, rfl, a1⟩ := Dx.pv_u64 h1
    obtain ⟨n2, rfl, a2, b2⟩ := Dx.pv_i64 h2
    exact Dx.val_iff.1 (Dx.law_VectorSigns a0 b0 a1 a2 b2)
  | [], h => by simp [Dx.All2] at h
  | [_], h => by simp [Dx.All2] at h
  | [_, _], h => by simp [Dx.All2] at h
  | _ :: _ :: _ :: _ :: _, h => by simp [Dx.All2] at h

set_option maxRecDepth 100000 in
theorem lifted (os : Os) (started : os.Started) (H : Type) (enc : TypeId × Value → H) :
    ReturnsInHanded {} Try.checked os 11 .any (Rows.vectorSignsSpec.pre6 enc Try.prog Try.f11 Rows.vectorSignsRow.domain false) (Rows.vectorSignsSpec.post enc Try.prog Try.f11 false true false false) := by
  refine returnsInHanded_of_change_sized (C := Try.checked) own started (by kernel_rfl) Try.func11
    (ChangeSpec.witness6 (enc := enc) (C := Try.checked) false ⟨#[], #[.slice none 0 0, .int .u64 0, .int .i64 0], []⟩ 8 (by kernel_rfl) (by kernel_rfl) (by kernel_rfl) (by kernel_rfl)) ?_
  intro W base args ds gs before hval hW hcnd hsz _
  exact Dx.law_post (C := Dx.C) Dx.tabok (id := 35) (sp := Dx.sp35) (fn := Try.f11) (s := Rows.vectorSignsSpec) (shs := [(false, [.sl .u64]), (false, [.int .u64]), (false, [.int .i64])]) rfl rfl rfl rfl (by kernel_rfl) (by kernel_rfl) rfl (fun ds h => by
    match ds, h with
    | [_, _, _], _ => exact ⟨rfl, rfl, rfl⟩) rfl Try.underlying4 laidOut (by kernel_rfl) hval hW hsz entry

theorem over : Rows.vectorSignsRow.holds Try.pinned (OpenSpec.ofChange Rows.vectorSignsSpec) :=
  OpenClaim.holds_of_wide 11 Try.f11 rfl rfl rfl rfl rfl rfl rfl ⟨rfl, rfl, rfl, rfl, rfl⟩ rfl rfl rfl rfl rfl (by kernel_rfl) Try.func11 (by kernel_rfl)
    (of_decide_eq_true (by kernel_rfl)) (by unfold Func.isWrapper; first | (rw [if_pos (by decide +kernel)]; kernel_rfl) | (rw [if_neg (by decide +kernel)]; exact ⟨rfl, rfl⟩))
    (fun os started H enc _ => lifted os started H enc)

theorem proved : Rows.VectorSignsSaid := over
#print axioms proved
end Go.Proofs.Ytcjhfgjgmkfmnaa.vectorSigns
