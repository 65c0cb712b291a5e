/- For every input the law 'RqFlips' returns true, and its arguments read as before: the given statement. No conditions. -/
import Derived.Test.YtogcdllpjcnbkaaRows
import Derived.Test.YtogcdllpjcnbkaaRqFlipsS
import Derived.WalkKit
import Derived.ProofKit
import Derived.OpenShut
import Derived.SizedLaws
namespace Go.Proofs.Ytogcdllpjcnbkaa.rqFlips
open Go.ChangeShapes Go.WideShapes Go.ChangeAt Go.RowKit
set_option linter.unusedVariables false

theorem own : ownKnob Try.prog.godebug = none := by kernel_rfl
theorem laidOut : laidOutB Try.prog = true := by kernel_rfl
/-- The pure law, of whatever the arguments come to. -/
theorem entry : ∀ ps, Dx.All2 Dx.PvT ([.int .i64, .int .i64, .sl .u64, .bool, .bool] : List Dx.Bs) ps → ∃ k, Dx.fden Dx.tab k 60 ps = some [.v (.bool true)]
  | [_, _, _, _, _], ⟨h0, h1, h2, h3, h4, _⟩ => by
    obtain ⟨n0, rfl, a0, b0⟩ := Dx.pv_i64 h0
    obtain ⟨n1, rfl, a1, b1⟩ := Dx.pv_i64 h1
    obtain ⟨n2, rfl, a2, b2⟩ := Dx.pv_lu h2
    obtain ⟨n3, rfl⟩ := Dx.pv_bool h3
    obtain ⟨n4, rfl⟩ := Dx.pv_bool h4
    exact Dx.val_iff.1 (Dx.law_RqFlips a0 b0 a1 b1 a2 b2)
  | [], h => by simp [Dx.All2] at h
  | [_], h => by simp [Dx.All2] at h
  | [_, _], h => by simp [Dx.All2] at h
  | [_, _, _], h => by simp [Dx.All2] at h
  | [_, _, _, _], h => by simp [Dx.All2] at h
  | _ :: _ :: _ :: _ :: _ :: _ :: _, h => by simp [Dx.All2] at h

set_option maxRecDepth 100000 in
theorem lifted (os : Os) (started : os.Started) (H : Type) (enc : TypeId × Value → H) :
    ReturnsInHanded {} Try.checked os 8 .any (Rows.rqFlipsSpec.pre6 enc Try.prog Try.f8 Rows.rqFlipsRow.domain false) (Rows.rqFlipsSpec.post enc Try.prog Try.f8 false true false false) := by
  refine returnsInHanded_of_change_sized (C := Try.checked) own started (by kernel_rfl) Try.func8
    (ChangeSpec.witness6 (enc := enc) (C := Try.checked) false ⟨#[], #[.agg #[.int .i64 0, .int .i64 0, .slice none 0 0], .bool false, .bool false], []⟩ 8 (by kernel_rfl) (by kernel_rfl) (by kernel_rfl) (by kernel_rfl)) ?_
  intro W base args ds gs before hval hW hcnd hsz _
  exact Dx.law_post (C := Dx.C) Dx.tabok (id := 60) (sp := Dx.sp60) (fn := Try.f8) (s := Rows.rqFlipsSpec) (shs := [(true, [.int .i64, .int .i64, .sl .u64]), (false, [.bool]), (false, [.bool])]) rfl rfl rfl rfl (by kernel_rfl) (by kernel_rfl) rfl (fun ds h => by
    match ds, h with
    | [_, _, _], _ => exact ⟨rfl, rfl, rfl⟩) rfl Try.underlying4 laidOut (by kernel_rfl) hval hW hsz entry

theorem over : Rows.rqFlipsRow.holds Try.pinned (OpenSpec.ofChange Rows.rqFlipsSpec) :=
  OpenClaim.holds_of_wide 8 Try.f8 rfl rfl rfl rfl rfl rfl rfl ⟨rfl, rfl, rfl, rfl, rfl⟩ rfl rfl rfl rfl rfl (by kernel_rfl) Try.func8 (by kernel_rfl)
    (of_decide_eq_true (by kernel_rfl)) (by unfold Func.isWrapper; first | (rw [if_pos (by decide +kernel)]; kernel_rfl) | (rw [if_neg (by decide +kernel)]; exact ⟨rfl, rfl⟩))
    (fun os started H enc _ => lifted os started H enc)

theorem proved : Rows.RqFlipsSaid := over
#print axioms proved
end Go.Proofs.Ytogcdllpjcnbkaa.rqFlips
