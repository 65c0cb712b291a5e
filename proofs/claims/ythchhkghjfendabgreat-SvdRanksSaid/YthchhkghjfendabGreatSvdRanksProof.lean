/- For every input the law 'SvdRanks' returns true, and its arguments read as before: the given statement. No conditions. -/
import Derived.Test.YthchhkghjfendabGreatRows
import Derived.Test.YthchhkghjfendabGreatSvdRanksS
import Derived.WalkKit
import Derived.ProofKit
import Derived.OpenShut
import Derived.SizedLaws
namespace Go.Proofs.YthchhkghjfendabGreat.svdRanks
open Go.ChangeShapes Go.WideShapes Go.ChangeAt Go.RowKit
set_option linter.unusedVariables false

theorem own : ownKnob Tryz.prog.godebug = none := by kernel_rfl
theorem laidOut : laidOutB Tryz.prog = true := by kernel_rfl
/-- The pure law, of whatever the arguments come to. -/
theorem entry : ∀ ps, Dx.All2 Dx.PvT ([.sl .u64] : List Dx.Bs) ps → ∃ k, Dx.fden Dx.tab k 80 ps = some [.v (.bool true)]
  | [_], ⟨h0, _⟩ => by
    obtain ⟨n0, rfl, a0, b0⟩ := Dx.pv_lu h0
    exact Dx.val_iff.1 (Dx.law_SvdRanks a0 b0)
  | [], h => by simp [Dx.All2] at h
  | _ :: _ :: _, h => by simp [Dx.All2] at h

set_option maxRecDepth 100000 in
theorem lifted (os : Os) (started : os.Started) (H : Type) (enc : TypeId × Value → H) :
    ReturnsInHanded {} Tryz.checked os 6 .any (Rows.svdRanksSpec.pre6 enc Tryz.prog Tryz.f6 Rows.svdRanksRow.domain false) (Rows.svdRanksSpec.post enc Tryz.prog Tryz.f6 false true false false) := by
  refine returnsInHanded_of_change_sized (C := Tryz.checked) own started (by kernel_rfl) Tryz.func6
    (ChangeSpec.witness6 (enc := enc) (C := Tryz.checked) false ⟨#[], #[.slice none 0 0], []⟩ 8 (by kernel_rfl) (by kernel_rfl) (by kernel_rfl) (by kernel_rfl)) ?_
  intro W base args ds gs before hval hW hcnd hsz _
  exact Dx.law_post (C := Dx.C) Dx.tabok (id := 80) (sp := Dx.sp80) (fn := Tryz.f6) (s := Rows.svdRanksSpec) (shs := [(false, [.sl .u64])]) rfl rfl rfl rfl (by kernel_rfl) (by kernel_rfl) rfl (fun ds h => by
    match ds, h with
    | [_], _ => exact ⟨rfl, rfl, rfl⟩) rfl Tryz.underlying4 laidOut (by kernel_rfl) hval hW hsz entry

theorem over : Rows.svdRanksRow.holds Tryz.pinned (OpenSpec.ofChange Rows.svdRanksSpec) :=
  OpenClaim.holds_of_wide 6 Tryz.f6 rfl rfl rfl rfl rfl rfl rfl ⟨rfl, rfl, rfl, rfl, rfl⟩ rfl rfl rfl rfl rfl (by kernel_rfl) Tryz.func6 (by kernel_rfl)
    (of_decide_eq_true (by kernel_rfl)) (by unfold Func.isWrapper; first | (rw [if_pos (by decide +kernel)]; kernel_rfl) | (rw [if_neg (by decide +kernel)]; exact ⟨rfl, rfl⟩))
    (fun os started H enc _ => lifted os started H enc)

theorem proved : Rows.SvdRanksSaid := over
#print axioms proved
end Go.Proofs.YthchhkghjfendabGreat.svdRanks
