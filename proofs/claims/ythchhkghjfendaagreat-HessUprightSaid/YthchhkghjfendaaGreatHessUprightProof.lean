/- For every input the law 'HessUpright' returns true, and its arguments read as before: the given statement. No conditions. -/
import Derived.Test.YthchhkghjfendaaGreatRows
import Derived.Test.YthchhkghjfendaaGreatHessUprightS
import Derived.WalkKit
import Derived.ProofKit
import Derived.OpenShut
import Derived.SizedLaws
namespace Go.Proofs.YthchhkghjfendaaGreat.hessUpright
open Go.ChangeShapes Go.WideShapes Go.ChangeAt Go.RowKit
set_option linter.unusedVariables false

theorem own : ownKnob Tryz.prog.godebug = none := by kernel_rfl
theorem laidOut : laidOutB Tryz.prog = true := by kernel_rfl
/-- The pure law, of whatever the arguments come to. -/
theorem entry : ∀ ps, Dx.All2 Dx.PvT ([.int .i64, .int .i64, .sl .u64, .int .i64, .int .i64, .sl .u64] : List Dx.Bs) ps → ∃ k, Dx.fden Dx.tab k 74 ps = some [.v (.bool true)]
  | [_, _, _, _, _, _], ⟨h0, h1, h2, h3, h4, h5, _⟩ => by
    obtain ⟨n0, rfl, a0, b0⟩ := Dx.pv_i64 h0
    obtain ⟨n1, rfl, a1, b1⟩ := Dx.pv_i64 h1
    obtain ⟨n2, rfl, a2, b2⟩ := Dx.pv_lu h2
    obtain ⟨n3, rfl, a3, b3⟩ := Dx.pv_i64 h3
    obtain ⟨n4, rfl, a4, b4⟩ := Dx.pv_i64 h4
    obtain ⟨n5, rfl, a5, b5⟩ := Dx.pv_lu h5
    exact Dx.val_iff.1 (Dx.law_HessUpright a0 b0 a1 b1 a2 b2 a3 b3 a4 b4 a5 b5)
  | [], h => by simp [Dx.All2] at h
  | [_], h => by simp [Dx.All2] at h
  | [_, _], h => by simp [Dx.All2] at h
  | [_, _, _], h => by simp [Dx.All2] at h
  | [_, _, _, _], h => by simp [Dx.All2] at h
  | [_, _, _, _, _], h => by simp [Dx.All2] at h
  | _ :: _ :: _ :: _ :: _ :: _ :: _ :: _, h => by simp [Dx.All2] at h

set_option maxRecDepth 100000 in
theorem lifted (os : Os) (started : os.Started) (H : Type) (enc : TypeId × Value → H) :
    ReturnsInHanded {} Tryz.checked os 6 .any (Rows.hessUprightSpec.pre6 enc Tryz.prog Tryz.f6 Rows.hessUprightRow.domain false) (Rows.hessUprightSpec.post enc Tryz.prog Tryz.f6 false true false false) := by
  refine returnsInHanded_of_change_sized (C := Tryz.checked) own started (by kernel_rfl) Tryz.func6
    (ChangeSpec.witness6 (enc := enc) (C := Tryz.checked) false ⟨#[], #[.agg #[.int .i64 0, .int .i64 0, .slice none 0 0], .agg #[.int .i64 0, .int .i64 0, .slice none 0 0]], []⟩ 8 (by kernel_rfl) (by kernel_rfl) (by kernel_rfl) (by kernel_rfl)) ?_
  intro W base args ds gs before hval hW hcnd hsz _
  exact Dx.law_post (C := Dx.C) Dx.tabok (id := 74) (sp := Dx.sp74) (fn := Tryz.f6) (s := Rows.hessUprightSpec) (shs := [(true, [.int .i64, .int .i64, .sl .u64]), (true, [.int .i64, .int .i64, .sl .u64])]) rfl rfl rfl rfl (by kernel_rfl) (by kernel_rfl) rfl (fun ds h => by
    match ds, h with
    | [_, _], _ => exact ⟨rfl, rfl, rfl⟩) rfl Tryz.underlying4 laidOut (by kernel_rfl) hval hW hsz entry

theorem over : Rows.hessUprightRow.holds Tryz.pinned (OpenSpec.ofChange Rows.hessUprightSpec) :=
  OpenClaim.holds_of_wide 6 Tryz.f6 rfl rfl rfl rfl rfl rfl rfl ⟨rfl, rfl, rfl, rfl, rfl⟩ rfl rfl rfl rfl rfl (by kernel_rfl) Tryz.func6 (by kernel_rfl)
    (of_decide_eq_true (by kernel_rfl)) (by unfold Func.isWrapper; first | (rw [if_pos (by decide +kernel)]; kernel_rfl) | (rw [if_neg (by decide +kernel)]; exact ⟨rfl, rfl⟩))
    (fun os started H enc _ => lifted os started H enc)

theorem proved : Rows.HessUprightSaid := over
#print axioms proved
end Go.Proofs.YthchhkghjfendaaGreat.hessUpright
