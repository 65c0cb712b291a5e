/- The pure meaning of the functions that the law reaches, and that the law is true of it. No conditions. -/
import Derived.Test.YtogcdllpjcnbkaaHouseMirrorsM2
set_option linter.all false
namespace Go.Proofs.Ytogcdllpjcnbkaa.Dx
open Go

theorem Ab.cancel {a b z : Rat} (h : Ab (a * z) (b * z)) (hz : 0 < z) : Ab a b := by
  obtain ⟨h1, h2⟩ := h
  constructor
  · refine Rat.le_of_mul_le_mul_right (c := z) ?_ hz
    rw [Rat.neg_mul]; exact h1
  · exact Rat.le_of_mul_le_mul_right h2 hz
def MirB (x : List Nat) : Prop := (W (mkBeta x) = 0 ∧ ∀ j, j < x.length → W (el x j) = 0) ∨
  (P2 (-400) ≤ W (mkBeta x) ∧ W (mkBeta x) ≤ P2 400 ∧ (∀ j, j < x.length → W (el x j) ≤ W (mkBeta x)) ∧
    ∀ j, j < x.length → Er (mirX (mkV x) x (mkTau x) j) (if j = 0 then sv (mkBeta x) else 0) (350 * (uu * W (mkBeta x))))
theorem nou_all {x : List Nat} : ∀ (n i : Nat), nou x n i = true → ∀ k, i ≤ k → k < i + n → fKind (el x k) = 0
  | 0, i, _, k, h1, h2 => by omega
  | n + 1, i, h, k, h1, h2 => by
    unfold nou at h
    by_cases c : fKind (el x i) = 0
    · rcases Nat.eq_or_lt_of_le h1 with h3 | h3
      · subst h3; exact c
      · exact nou_all n (i + 1) (by simpa [c] using h) k (by omega) (by omega)
    · simp [c] at h
theorem w1_lin {M2 YM Y2 B YD S U1 U2 U3 U4 u tiny : Rat} (h2 : 0 ≤ U2) (h1 : 0 ≤ U1) (c1 : YD ≤ Y2 + YM + 2 * (U3 + U2)) (c2 : Y2 + YM ≤ YD + 2 * (U3 + U2)) (f1 : S ≤ B + 2 * U4 + tiny) (f2 : B ≤ S + 2 * U4 + tiny)
    (a1 : Y2 + B ≤ M2 + 151 * U1) (a2 : M2 ≤ Y2 + B + 151 * U1) (k7 : U3 + U4 ≤ U1 + 151 / 1000000 * U1) (ht : tiny ≤ u) (hu : u ≤ U1 + U2) : YD + S ≤ M2 + YM + 160 * (U1 + U2) ∧ M2 + YM ≤ YD + S + 160 * (U1 + U2) := by
  constructor <;> grind
theorem mirB {x : List Nat} (hx : Words x) (h1 : 1 ≤ x.length) (h6 : x.length ≤ 6) (hT : TameP x 200) : MirB x := by
  have h64 : x.length ≤ 64 := by omega
  have vl := mkV_len hx h1 h64
  by_cases hn : nouV x = true
  · have e1 : mkTau x = 0 := by unfold mkTau; rw [if_pos hn]
    have e2 : mkBeta x = el x 0 := by unfold mkBeta; rw [if_pos hn]
    have hz : ∀ i, i < x.length → i ≠ 0 → fMag (el x i) = 0 := fun i hi hi0 => (mag_zero _).2 ((kind_zero _).1 (nou_all _ 1 hn i (by omega) (by omega)))
    have s0 : sv 0 = 0 := sv_zero (by decide)
    by_cases h0 : W (el x 0) = 0
    · refine .inl ⟨by rw [e2]; exact h0, fun j hj => ?_⟩
      by_cases hj0 : j = 0
      · subst hj0; exact h0
      · exact W_zero_of (hz j hj hj0)
    · obtain ⟨t1, t2⟩ := hT 0 h1
      obtain ⟨t3, t4⟩ := P2_tame ((tame_W t1 t2).resolve_left h0)
      refine .inr ⟨by rw [e2]; exact t3, by rw [e2]; exact t4, fun j hj => ?_, fun j hj => ?_⟩
      · rw [e2]
        by_cases hj0 : j = 0
        · subst hj0; exact Rat.le_refl
        · rw [W_zero_of (hz j hj hj0)]; exact W_nonneg _
      · have hw := Rat.mul_nonneg uu_pos (W_nonneg (mkBeta x))
        unfold mirX
        rw [e1, s0, e2] at *
        by_cases hj0 : j = 0
        · subst hj0; rw [if_pos rfl]; exact ⟨by grind, by grind⟩
        · rw [if_neg hj0, sv_zero (hz j hj hj0)]; exact ⟨by grind, by grind⟩
  · have hn' : nouV x = false := by simpa using hn
    have H := hset hx h1 h64 hT hn'
    obtain ⟨b1, b2, b3, b4, b5, b6⟩ := hset_ok hx h1 h64 hT H
    obtain ⟨m1, m2, m3, m4⟩ := mu_ok hx h1 h64 H
    obtain ⟨t1, t2, t3⟩ := hTau_ok hx h1 h64 H
    obtain ⟨s1, s2, s3, s4, s5⟩ := hD_small hx h1 h6 H
    obtain ⟨sD, hD2⟩ := hD_W hx h1 h64 H
    obtain ⟨d1, d2, d3⟩ := dd_small hx h1 h64 H
    have e1 : mkTau x = hTau x := by unfold mkTau; rw [if_neg hn]
    have e2 : mkBeta x = hBeta x := by unfold mkBeta; rw [if_neg hn]
    have e3 : ∀ j, j < x.length → el (mkV x) j = if j = 0 then 4607182418800017408 else hVG x j := fun j hj => by
      unfold mkV; rw [if_neg hn, el_mk' hj]; rfl
    have hPP : P2 (hK x) * P2 (-hK x) = 1 := by rw [← P2_add, show hK x + -hK x = 0 by omega, P2_zero]
    have hP := P2_pos (hK x)
    have hk := H.k
    have hBM : W (hBeta x) = W (hR x) * P2 (hK x) := by
      rw [sv_of (b := hBeta x) rfl, sv_of (b := hMu x) rfl, b6, m3] at b3
      cases hs : fNeg (hMu x) <;> rw [hs] at b3 <;> simp only [if_true, if_false, Bool.false_eq_true] at b3 <;> grind
    have o := H.one
    have r5 := r_small hx h1 h6 H
    have xs : ∀ j, j < x.length → sv (el x j) = sv (el (hY x) j) * P2 (hK x) := fun j hj => by
      rw [H.ysv j hj, Rat.mul_assoc, Rat.mul_comm (P2 (-hK x)), hPP, Rat.mul_one]
    have xW : ∀ j, j < x.length → W (el x j) = W (el (hY x) j) * P2 (hK x) := fun j hj => by
      rw [H.yW j hj, Rat.mul_assoc, Rat.mul_comm (P2 (-hK x)), hPP, Rat.mul_one]
    have hY0 := W_nonneg (el (hY x) 0)
    obtain ⟨n1, n2⟩ := ee1
    -- the sum of products, times D
    have hS : Er (sumP (fun i => sv (hVG x (1 + i)) * sv (hD x) * sv (el (hY x) (1 + i))) (x.length - 1)) (sumP (fun i => W (el (hY x) (1 + i)) * W (el (hY x) (1 + i))) (x.length - 1)) (2 * uu * sumP (fun i => W (el (hY x) (1 + i)) * W (el (hY x) (1 + i))) (x.length - 1) + ((x.length - 1 : Nat) : Rat) * (32 * ee)) := by
      rw [← sumP_mul, ← sumP_const, ← sumP_add]
      refine sumP_er fun i hi => ?_
      obtain ⟨v1, v2, v3, v4⟩ := hV_ok hx h1 h6 H (i := 1 + i) (by omega)
      have := v2.mul (Er.refl (sv (el (hY x) (1 + i)))) (sv_ab _) (sv_ab _)
      rw [sv_W] at this
      refine this.mono ?_
      have y2 := H.y2 (1 + i) (by omega)
      have a1 := Rat.mul_le_mul_of_nonneg_right y2 (c := 16 * ee) (by grind)
      generalize W (el (hY x) (1 + i)) = y at *
      generalize uu = u at *
      grind
    have hdot : dotX (mkV x) x x.length * sv (hD x) = (W (el (hY x) 0) * W (hD x) + sumP (fun i => sv (hVG x (1 + i)) * sv (hD x) * sv (el (hY x) (1 + i))) (x.length - 1)) * P2 (hK x) := by
      unfold dotX
      rw [sum_first _ h1, e3 0 h1, if_pos rfl, sv_one, xs 0 h1]
      have e4 : sumP (fun i => sv (el (mkV x) (1 + i)) * sv (el x (1 + i))) (x.length - 1) * sv (hD x) = sumP (fun i => sv (hVG x (1 + i)) * sv (hD x) * sv (el (hY x) (1 + i))) (x.length - 1) * P2 (hK x) := by
        rw [← sumP_mulr, ← sumP_mulr]
        refine sumP_congr fun i hi => ?_
        rw [e3 (1 + i) (by omega), if_neg (by omega), xs (1 + i) (by omega)]
        grind
      have e5 : sv (el (hY x) 0) * sv (hD x) = W (el (hY x) 0) * W (hD x) := by
        rw [H.s0, sv_of sD]
        cases hσ x <;> simp <;> grind
      generalize sumP (fun i => sv (el (mkV x) (1 + i)) * sv (el x (1 + i))) (x.length - 1) = z1 at *
      generalize sumP (fun i => sv (hVG x (1 + i)) * sv (hD x) * sv (el (hY x) (1 + i))) (x.length - 1) = z2 at *
      generalize P2 (hK x) = P at *
      generalize sv (hD x) = D at *
      generalize sv (el (hY x) 0) = y0 at *
      rw [Rat.add_mul, Rat.one_mul, e4, Rat.mul_assoc, Rat.mul_comm P D, ← Rat.mul_assoc, e5]
      grind
    have hN : sumA (fun i => W (el (hY x) i)) x.length = W (el (hY x) 0) * W (el (hY x) 0) + sumP (fun i => W (el (hY x) (1 + i)) * W (el (hY x) (1 + i))) (x.length - 1) := by
      rw [sumA_sumP, sum_first _ h1]
    have hsq := H.sq
    rw [hN] at hsq
    have hB0 : 0 ≤ sumP (fun i => W (el (hY x) (1 + i)) * W (el (hY x) (1 + i))) (x.length - 1) := sumP_nonneg fun i _ => Rat.mul_nonneg (W_nonneg _) (W_nonneg _)
    have htiny : ((x.length - 1 : Nat) : Rat) * (32 * ee) ≤ uu := by
      have a1 : ((x.length - 1 : Nat) : Rat) ≤ ((6 : Nat) : Rat) := Rat.natCast_le_natCast.2 (by omega)
      have a2 : ((6 : Nat) : Rat) = 6 := rfl
      rw [a2] at a1
      have a3 := Rat.mul_le_mul_of_nonneg_right a1 (c := 32 * ee) (by grind)
      exact Rat.le_trans a3 (by decide +kernel)
    generalize ((x.length - 1 : Nat) : Rat) * (32 * ee) = tiny at *
    generalize sumP (fun i => sv (hVG x (1 + i)) * sv (hD x) * sv (el (hY x) (1 + i))) (x.length - 1) = S at *
    generalize sumP (fun i => W (el (hY x) (1 + i)) * W (el (hY x) (1 + i))) (x.length - 1) = B at *
    have hdd0 : 0 ≤ W (el (hY x) 0) + W (hR x) := by grind
    have hMdd : 1 ≤ W (hR x) * (W (el (hY x) 0) + W (hR x)) := by
      have := Rat.mul_le_mul_of_nonneg_left d2 (c := W (hR x)) (by grind)
      grind
    have hYY : 0 ≤ W (el (hY x) 0) * W (el (hY x) 0) := Rat.mul_nonneg hY0 hY0
    have hYM : 0 ≤ W (el (hY x) 0) * W (hR x) := Rat.mul_nonneg hY0 (by grind)
    have hMM : 0 ≤ W (hR x) * W (hR x) := Rat.mul_nonneg (by grind) (by grind)
    have hw1 : Re (W (el (hY x) 0) * W (hD x) + S) (W (hR x) * (W (el (hY x) 0) + W (hR x))) 160 := by
      obtain ⟨a1, a2⟩ := Re.symm hsq (by grind) (by decide +kernel) (by decide +kernel)
      obtain ⟨c1, c2⟩ := hD2
      obtain ⟨f1, f2⟩ := hS
      have g1 := Rat.mul_le_mul_of_nonneg_left c1 hY0
      have g2 := Rat.mul_le_mul_of_nonneg_left c2 hY0
      have k1 : uu * 1 ≤ uu * (W (hR x) * (W (el (hY x) 0) + W (hR x))) := Rat.mul_le_mul_of_nonneg_left hMdd uu_pos
      have k2 := Rat.mul_nonneg uu_pos hYY
      have k3 := Rat.mul_nonneg uu_pos hYM
      have k4 := Rat.mul_nonneg uu_pos hMM
      have k5 := Rat.mul_nonneg uu_pos hB0
      have k6 : uu * (uu * (W (hR x) * W (hR x))) ≤ 1 / 1000000 * (uu * (W (hR x) * W (hR x))) := Rat.mul_le_mul_of_nonneg_right (by decide +kernel) k4
      have k7 : uu * (W (el (hY x) 0) * W (el (hY x) 0) + B) ≤ uu * (W (hR x) * W (hR x) + (150 + 1) * uu * (W (hR x) * W (hR x))) := Rat.mul_le_mul_of_nonneg_left a1 uu_pos
      clear hdot hBM m1 m3 hN
      show Er _ _ (160 * uu * (W (hR x) * (W (el (hY x) 0) + W (hR x))))
      generalize W (hR x) = M at *
      generalize W (el (hY x) 0) = Y at *
      generalize W (hD x) = Dh at *
      generalize uu = u at *
      have hl := w1_lin (M2 := M * M) (YM := Y * M) (Y2 := Y * Y) (B := B) (YD := Y * Dh) (S := S) (U1 := u * (M * M)) (U2 := u * (Y * M)) (U3 := u * (Y * Y)) (U4 := u * B) (u := u) (tiny := tiny) k3 k4
        (by clear g2 k1 k6 k7 f1 f2 a1 a2; grind) (by clear g1 k1 k6 k7 f1 f2 a1 a2; grind) (by clear g1 g2 k1 k6 k7 a1 a2; grind) (by clear g1 g2 k1 k6 k7 a1 a2; grind) (by clear g1 g2 k1 k6 k7 f1 f2; grind) (by clear g1 g2 k1 k6 k7 f1 f2; grind)
        (by clear g1 g2 k1 f1 f2 a1 a2; grind) htiny (by clear g1 g2 k6 k7 f1 f2 a1 a2; grind)
      obtain ⟨l1, l2⟩ := hl
      clear g1 g2 k1 k6 k7 f1 f2 a1 a2
      exact ⟨by grind, by grind⟩
    have hTw : Re (W (hTau x) * (W (el (hY x) 0) * W (hD x) + S)) ((W (el (hY x) 0) + W (hR x)) * (W (el (hY x) 0) + W (hR x))) 167 := by
      have h3 := (t3.mul hw1 hdd0 (by grind) (by decide +kernel) (by decide +kernel) (by decide +kernel) (by decide +kernel)).mono (k' := 167) (by decide +kernel) (Rat.mul_nonneg hdd0 (by grind))
      have e4 : W (hTau x) * W (hR x) * (W (el (hY x) 0) * W (hD x) + S) = W (hTau x) * (W (el (hY x) 0) * W (hD x) + S) * W (hR x) := by grind
      have e5 : (W (el (hY x) 0) + W (hR x)) * (W (hR x) * (W (el (hY x) 0) + W (hR x))) = (W (el (hY x) 0) + W (hR x)) * (W (el (hY x) 0) + W (hR x)) * W (hR x) := by grind
      rw [e4, e5] at h3
      exact h3.cancel (by grind)
    have hTs : sv (mkTau x) = W (hTau x) := by rw [e1]; exact sv_pos t2
    have hDD := hD2.mul hD2 hdd0 hdd0 (by decide +kernel) (by decide +kernel) (by decide +kernel) (by decide +kernel)
    have hDh : 0 < W (hD x) := by grind
    have hds : ∀ q b : Rat, Ab (q * sv (hD x)) (b * W (hD x)) → Ab q b := fun q b hh => by
      refine Ab.cancel (z := W (hD x)) ?_ hDh
      rw [sv_of sD] at hh
      by_cases hs : hσ x = true
      · rw [if_pos hs] at hh
        have := hh.neg
        have e : -(q * -W (hD x)) = q * W (hD x) := by grind
        rwa [e] at this
      · rw [if_neg hs] at hh; exact hh
    have hsD2 : sv (hD x) * sv (hD x) = W (hD x) * W (hD x) := sv_W _
    refine .inr ⟨?_, ?_, fun j hj => ?_, fun j hj => ?_⟩
    · rw [e2, hBM]
      have a1 : P2 (-400) ≤ P2 (hK x) := P2_mono (by omega)
      have a2 := Rat.mul_le_mul_of_nonneg_right o (Rat.le_of_lt hP)
      grind
    · rw [e2, hBM]
      have a1 : P2 (hK x) ≤ P2 200 := P2_mono (by omega)
      have a2 := Rat.mul_le_mul_of_nonneg_right r5 (Rat.le_of_lt hP)
      have a3 : (5 : Rat) * P2 200 ≤ P2 400 := by decide +kernel
      grind
    · rw [e2, hBM, xW j hj]
      exact Rat.mul_le_mul_of_nonneg_right (H.yle j hj) (Rat.le_of_lt hP)
    · have hdl : dotX (mkV x) x (mkV x).length = dotX (mkV x) x x.length := by rw [vl]
      refine Er.of_ab ?_
      by_cases hj0 : j = 0
      · subst hj0
        rw [if_pos rfl]
        refine hds _ _ ?_
        have key : (mirX (mkV x) x (mkTau x) 0 - sv (mkBeta x)) * sv (hD x) = ((W (el (hY x) 0) + W (hR x)) * W (hD x) - W (hTau x) * (W (el (hY x) 0) * W (hD x) + S)) * P2 (hK x) := by
          unfold mirX
          rw [hdl, e3 0 h1, if_pos rfl, sv_one, hTs, e2, b3, m1]
          have e5 : sv (el x 0) * sv (hD x) = W (el (hY x) 0) * W (hD x) * P2 (hK x) := by
            rw [xs 0 h1, H.s0, sv_of sD]
            cases hσ x <;> simp <;> grind
          have e6 : (if hσ x = true then W (hR x) else -W (hR x)) * sv (hD x) = -(W (hR x) * W (hD x)) := by
            rw [sv_of sD]
            cases hσ x <;> simp <;> grind
          generalize (if hσ x = true then W (hR x) else -W (hR x)) = mm at *
          generalize dotX (mkV x) x x.length = dx at *
          generalize sv (hD x) = D at *
          have : (sv (el x 0) - W (hTau x) * dx * 1 - mm * P2 (hK x)) * D = sv (el x 0) * D - W (hTau x) * (dx * D) - mm * D * P2 (hK x) := by grind
          rw [this, e5, hdot, e6]
          grind
        rw [key, e2, hBM]
        obtain ⟨c1, c2⟩ := hD2
        obtain ⟨f1, f2⟩ := hTw
        have g1 := Rat.mul_le_mul_of_nonneg_left c1 hdd0
        have g2 := Rat.mul_le_mul_of_nonneg_left c2 hdd0
        have q1 : Ab ((W (el (hY x) 0) + W (hR x)) * W (hD x) - W (hTau x) * (W (el (hY x) 0) * W (hD x) + S)) (169 * uu * ((W (el (hY x) 0) + W (hR x)) * (W (el (hY x) 0) + W (hR x)))) := by
          generalize W (hTau x) * (W (el (hY x) 0) * W (hD x) + S) = tw at *
          generalize W (hR x) = M at *
          generalize W (el (hY x) 0) = Y at *
          generalize W (hD x) = Dh at *
          generalize uu = u at *
          exact ⟨by grind, by grind⟩
        have q2 : 169 * uu * ((W (el (hY x) 0) + W (hR x)) * (W (el (hY x) 0) + W (hR x))) ≤ 350 * (uu * (W (hR x) * W (hD x))) := by
          have k0 : (W (el (hY x) 0) + W (hR x)) * (2 * uu) ≤ (W (el (hY x) 0) + W (hR x)) * (1 / 1000) := Rat.mul_le_mul_of_nonneg_left (by decide +kernel) hdd0
          have k1 : W (el (hY x) 0) + W (hR x) ≤ 101 / 100 * W (hD x) := by
            generalize W (hR x) = M at *
            generalize W (el (hY x) 0) = Y at *
            generalize W (hD x) = Dh at *
            generalize uu = u at *
            grind
          have k2 : (W (el (hY x) 0) + W (hR x)) * (W (el (hY x) 0) + W (hR x)) ≤ (2 * W (hR x)) * (W (el (hY x) 0) + W (hR x)) := Rat.mul_le_mul_of_nonneg_right (by grind) hdd0
          have k3 : (2 * W (hR x)) * (W (el (hY x) 0) + W (hR x)) ≤ (2 * W (hR x)) * (101 / 100 * W (hD x)) := Rat.mul_le_mul_of_nonneg_left k1 (by grind)
          have k4 := Rat.mul_le_mul_of_nonneg_left (Rat.le_trans k2 k3) uu_pos
          have k5 : 0 ≤ uu * (W (hR x) * W (hD x)) := Rat.mul_nonneg uu_pos (Rat.mul_nonneg (by grind) (Rat.le_of_lt hDh))
          generalize (W (el (hY x) 0) + W (hR x)) * (W (el (hY x) 0) + W (hR x)) = dd at *
          generalize W (hR x) = M at *
          generalize W (hD x) = Dh at *
          generalize uu = u at *
          grind
        have q3 := (q1.mono q2).mul (y := P2 (hK x)) (b := P2 (hK x)) ⟨by grind, Rat.le_refl⟩
        exact q3.mono (by
          generalize W (hR x) = M at *
          generalize W (hD x) = Dh at *
          generalize P2 (hK x) = P at *
          generalize uu = u at *
          grind)
      · rw [if_neg hj0]
        have hj1 : 1 ≤ j := by omega
        obtain ⟨v1, v2, v3, v4⟩ := hV_ok hx h1 h6 H hj
        have hDD0 : 0 < W (hD x) * W (hD x) := Rat.mul_pos hDh hDh
        refine Ab.cancel (z := W (hD x) * W (hD x)) ?_ hDD0
        have key : (mirX (mkV x) x (mkTau x) j - 0) * (W (hD x) * W (hD x)) = (sv (el (hY x) j) * (W (hD x) * W (hD x)) - W (hTau x) * (W (el (hY x) 0) * W (hD x) + S) * (sv (hVG x j) * sv (hD x))) * P2 (hK x) := by
          unfold mirX
          rw [hdl, e3 j hj, if_neg hj0, hTs, xs j hj, ← hsD2]
          have : (sv (el (hY x) j) * P2 (hK x) - W (hTau x) * dotX (mkV x) x x.length * sv (hVG x j) - 0) * (sv (hD x) * sv (hD x)) = sv (el (hY x) j) * P2 (hK x) * (sv (hD x) * sv (hD x)) - W (hTau x) * (dotX (mkV x) x x.length * sv (hD x)) * (sv (hVG x j) * sv (hD x)) := by grind
          rw [this, hdot]
          grind
        rw [key, e2, hBM]
        have yj := H.yle j hj
        have hyj := W_nonneg (el (hY x) j)
        have hyu : W (el (hY x) j) * (2 * uu) ≤ W (hR x) * (2 * uu) := Rat.mul_le_mul_of_nonneg_right yj (by decide +kernel)
        have hMu : 1 * uu ≤ W (hR x) * uu := Rat.mul_le_mul_of_nonneg_right o uu_pos
        have v5 : Er (sv (hVG x j) * sv (hD x)) (sv (el (hY x) j)) (3 * uu * W (hR x)) := v2.mono (by
          generalize W (hR x) = M at *
          generalize W (el (hY x) j) = y at *
          have := uu_pos
          generalize uu = u at *
          grind)
        have ay : Ab (sv (el (hY x) j)) (W (hR x)) := (sv_ab _).mono yj
        have a1 := v5.bound ay
        have hM3 : 3 * uu * W (hR x) ≤ 1 / 100 * W (hR x) := Rat.mul_le_mul_of_nonneg_right (by decide +kernel) (by grind)
        have hd20 : 0 ≤ (W (el (hY x) 0) + W (hR x)) * (W (el (hY x) 0) + W (hR x)) := Rat.mul_nonneg hdd0 hdd0
        have p1 := Er.mul hTw v5 (a := (W (el (hY x) 0) + W (hR x)) * (W (el (hY x) 0) + W (hR x))) (a' := 101 / 100 * W (hR x)) ⟨by grind, Rat.le_refl⟩ (a1.mono (by grind))
        have p2 := Er.mul (Er.refl (sv (el (hY x) j))) hDD ay (a' := (1 + 1 / 100) * ((W (el (hY x) 0) + W (hR x)) * (W (el (hY x) 0) + W (hR x)))) (by
          have := Er.bound hDD (a := (W (el (hY x) 0) + W (hR x)) * (W (el (hY x) 0) + W (hR x))) ⟨by grind, Rat.le_refl⟩
          refine this.mono ?_
          have h5 : (2 + 2 + 1) * uu * ((W (el (hY x) 0) + W (hR x)) * (W (el (hY x) 0) + W (hR x))) ≤ 1 / 100 * ((W (el (hY x) 0) + W (hR x)) * (W (el (hY x) 0) + W (hR x))) := Rat.mul_le_mul_of_nonneg_right (by decide +kernel) hd20
          grind)
        have p3 := (p2.sub p1).ab
        have e7 : sv (el (hY x) j) * ((W (el (hY x) 0) + W (hR x)) * (W (el (hY x) 0) + W (hR x))) - (W (el (hY x) 0) + W (hR x)) * (W (el (hY x) 0) + W (hR x)) * sv (el (hY x) j) = 0 := by grind
        rw [e7] at p3
        have hdD : (W (el (hY x) 0) + W (hR x)) * (W (el (hY x) 0) + W (hR x)) ≤ 101 / 100 * (W (hD x) * W (hD x)) := by
          obtain ⟨x1, x2⟩ := hDD
          have h5 : (2 + 2 + 1) * uu * ((W (el (hY x) 0) + W (hR x)) * (W (el (hY x) 0) + W (hR x))) ≤ 1 / 1000 * ((W (el (hY x) 0) + W (hR x)) * (W (el (hY x) 0) + W (hR x))) := Rat.mul_le_mul_of_nonneg_right (by decide +kernel) hd20
          generalize (W (el (hY x) 0) + W (hR x)) * (W (el (hY x) 0) + W (hR x)) = dd at *
          generalize W (hD x) * W (hD x) = DD at *
          generalize uu = u at *
          grind
        have hfin : Ab (sv (el (hY x) j) * (W (hD x) * W (hD x)) - W (hTau x) * (W (el (hY x) 0) * W (hD x) + S) * (sv (hVG x j) * sv (hD x))) (350 * (uu * (W (hR x) * (W (hD x) * W (hD x))))) := by
          have p4 : Ab (sv (el (hY x) j) * (W (hD x) * W (hD x)) - W (hTau x) * (W (el (hY x) 0) * W (hD x) + S) * (sv (hVG x j) * sv (hD x))) (180 * uu * (W (hR x) * ((W (el (hY x) 0) + W (hR x)) * (W (el (hY x) 0) + W (hR x))))) := by
            have e8 : ∀ q : Rat, q - 0 = q := fun q => by grind
            rw [e8] at p3
            refine p3.mono ?_
            have h7 : 0 ≤ uu * (W (hR x) * ((W (el (hY x) 0) + W (hR x)) * (W (el (hY x) 0) + W (hR x)))) := Rat.mul_nonneg uu_pos (Rat.mul_nonneg (by grind) hd20)
            generalize (W (el (hY x) 0) + W (hR x)) * (W (el (hY x) 0) + W (hR x)) = dd at *
            generalize W (hR x) = M at *
            generalize uu = u at *
            grind
          refine p4.mono ?_
          have h8 := Rat.mul_le_mul_of_nonneg_left hdD (c := W (hR x)) (by grind)
          have h9 := Rat.mul_le_mul_of_nonneg_left h8 uu_pos
          have h10 : 0 ≤ uu * (W (hR x) * (W (hD x) * W (hD x))) := Rat.mul_nonneg uu_pos (Rat.mul_nonneg (by grind) (Rat.le_of_lt hDD0))
          generalize (W (el (hY x) 0) + W (hR x)) * (W (el (hY x) 0) + W (hR x)) = dd at *
          generalize W (hD x) * W (hD x) = DD at *
          generalize W (hR x) = M at *
          generalize uu = u at *
          grind
        have q3 := hfin.mul (y := P2 (hK x)) (b := P2 (hK x)) ⟨by grind, Rat.le_refl⟩
        exact q3.mono (by
          generalize W (hD x) * W (hD x) = DD at *
          generalize W (hR x) = M at *
          generalize P2 (hK x) = P at *
          generalize uu = u at *
          grind)
end Go.Proofs.Ytogcdllpjcnbkaa.Dx

namespace Go.Proofs.Ytogcdllpjcnbkaa.Dx
open Go

theorem col_own {x : List Nat} (h6 : x.length ≤ 6) : colL x.length 1 x 0 0 = x := by
  refine mat_ext (r := x.length) (c := 1) (by rw [colL_len]; omega) (by omega) fun i k hi hk => ?_
  have hk0 : k = 0 := by omega
  subst hk0
  have e : ps i 1 0 = i := by unfold ps; omega
  rw [e, el_colL (by omega), Nat.zero_add, e]
theorem law_HouseMirrors {x : List Nat} (hx : Words x) (lx : x.length ≤ 17592186043904) : val 49 [Vl x] = some [Vb true] := by
  refine val_of tab49 ?_
  by_cases h0 : x.length = 0
  · simp [tr49, TT.dv, h0, awake_13]
  by_cases h6' : 6 < x.length
  · simp [tr49, TT.dv, h0, show (6 : Int) < x.length by omega, awake_13]
  have n6 : ¬ (6 : Int) < x.length := by omega
  obtain ⟨b, t1, t2⟩ := tame_ok hx (by omega) (K := 200) (by omega)
  cases b
  · simp [tr49, TT.dv, h0, n6, t1, awake_13]
  have hT := t2 rfl
  have h1 : 1 ≤ x.length := by omega
  have h6 : x.length ≤ 6 := by omega
  have h64 : x.length ≤ 64 := by omega
  have M := mirE hx h1 h6 hT
  have MB := mirB hx h1 h6 hT
  have mk := make_ok hx h1 h64 (tame_finV hT)
  rw [M.ok] at mk
  simp only [if_true] at mk
  have vl := mkV_len hx h1 h64
  have vw := mkV_words hx h1 h64
  have tl := mkTau_lt hx h1 h64
  have bl := mkBeta_lt hx h1 h64
  have hm : Mx x.length 1 x := ⟨h6, by omega, by omega, hx⟩
  have hi : 0 + (mkV x).length ≤ x.length := by omega
  have ap := apply_ok hm vw tl (i := 0) hi (k := 0) (by omega)
  have hmx := apV_mx hm vw tl (i := 0) hi (k := 0)
  rw [show ((0 : Nat) : Int) = 0 from rfl, show ((1 : Nat) : Int) = 1 from rfl] at ap
  have vf := M.vf
  have v1 := M.v1
  have tf := M.tf
  have tt := M.t2
  rw [← vl] at vf v1
  have hps : ∀ j, ps j 1 0 = j := fun j => by unfold ps; omega
  have hat : ∀ a, a < x.length → el (apV x.length 1 x 0 0 (mkV x) (mkTau x)) a = mirF (mkV x) x (mkTau x) a := fun a ha => by
    have := apV_at (tau := mkTau x) hm hi (k := 0) (by omega) (b := 0) (Nat.le_refl _) (by omega) (a := a) (by omega)
    rw [col_own h6, take_all (by omega), Nat.zero_add, hps] at this
    exact this
  have hp80 : P2 (-(2 * 40)) = 1 / 1208925819614629174706176 := by decide +kernel
  -- each place
  have hpl : ∀ a, a < x.length → fPow (mirF (mkV x) x (mkTau x) a) ≠ 2047 ∧ Er (sv (mirF (mkV x) x (mkTau x) a)) (if a = 0 then sv (mkBeta x) else 0) (490 * (uu * W (mkBeta x))) := fun a ha => by
    rcases MB with ⟨z1, z2⟩ | ⟨z1, z2, z3, z4⟩
    · obtain ⟨c1, c2⟩ := col_nought tf vf (fun j hj => ⟨(hT j (by omega)).1, z2 j (by omega)⟩) (j := a) (by omega)
      refine ⟨c1, ?_⟩
      rw [sv_zero (mag_of_W c2), sv_zero (mag_of_W z1), z1]
      split <;> exact ⟨by grind, by grind⟩
    · have CO : ColOK (mkV x) x (mkTau x) (W (mkBeta x)) := ⟨by omega, fun j hj => ⟨vf j hj, v1 j hj⟩, fun j hj => ⟨(hT j (by omega)).1, z3 j (by omega)⟩, z1, z2, tf, tl, tt⟩
      obtain ⟨c1, c2, c3⟩ := col_ok CO (j := a) (by omega)
      exact ⟨c1.fin, (c1.er.trans (z4 a ha)).mono (by grind)⟩
  have hfin : finV (apV x.length 1 x 0 0 (mkV x) (mkTau x)) = true := by
    rw [finV_mx hmx]
    intro i k hi2 hk
    rw [show k = 0 by omega, hps, hat i hi2]
    exact (hpl i hi2).1
  have ck := ccheck9_ok (R := x.length) (C := ((1 : Nat) : Int)) hmx.w (by have := hmx.small; omega)
  unfold chk at ck
  rw [if_pos (mx_right hmx), if_pos hfin] at ck
  have zr := zeros_ok (r := x.length) (c := 1) h6 (by omega)
  have zm := zeros_mx (r := x.length) (c := 1) h6 (by omega)
  have wt := with_ok zm (i := 0) (k := 0) (b := mkBeta x) (by omega) (by omega)
  have wm := zm.set (p := ps 0 1 0) bl
  have ey := eye9_ok (n := 1) (by omega)
  have em := eyV_mx (n := 1) (by omega)
  obtain ⟨X, E, r1, r2, r3⟩ := res_ok hmx wm em rfl rfl rfl
  have wq : Words [mkBeta x] := by intro a ha; simp at ha; rw [ha]; exact bl
  obtain ⟨Y, F, y1, y2, y3⟩ := squares_ok wq (by simp)
  rw [show sumA (fun i => W (el [mkBeta x] i)) [mkBeta x].length = 0 + W (mkBeta x) * W (mkBeta x) from rfl] at y3
  have hXY : DV X E ≤ DV Y F * P2 (-(2 * 40)) := by
    rw [r3, y3, hp80]
    have hb := W_nonneg (mkBeta x)
    have hbb := Rat.mul_nonneg hb hb
    have key : ∀ i, i < x.length → sumP (fun k => resX 1 (apV x.length 1 x 0 0 (mkV x) (mkTau x)) 1 ((List.replicate (x.length * 1) 0).set (ps 0 1 0) (mkBeta x)) 1 1 (eyV 1) i k * resX 1 (apV x.length 1 x 0 0 (mkV x) (mkTau x)) 1 ((List.replicate (x.length * 1) 0).set (ps 0 1 0) (mkBeta x)) 1 1 (eyV 1) i k) 1 ≤ 490 * (uu * W (mkBeta x)) * (490 * (uu * W (mkBeta x))) := fun i hi2 => by
      show 0 + _ ≤ _
      have hr : resX 1 (apV x.length 1 x 0 0 (mkV x) (mkTau x)) 1 ((List.replicate (x.length * 1) 0).set (ps 0 1 0) (mkBeta x)) 1 1 (eyV 1) i 0 = sv (mirF (mkV x) x (mkTau x) i) - (if i = 0 then sv (mkBeta x) else 0) := by
        unfold resX
        have e1 : el (eyV 1) (ps 0 1 0) = 4607182418800017408 := by unfold eyV; rw [el_matL _ (by omega) (by omega)]; rfl
        have e2 : sv (el ((List.replicate (x.length * 1) 0).set (ps 0 1 0) (mkBeta x)) (ps i 1 0)) = if i = 0 then sv (mkBeta x) else 0 := by
          rw [el_set, hps, hps]
          by_cases hi0 : i = 0
          · subst hi0
            rw [if_pos ⟨rfl, by simp; omega⟩, if_pos rfl]
          · rw [if_neg (fun hh => hi0 hh.1.symm), if_neg hi0]
            refine sv_zero ?_
            unfold el
            rw [List.getD_eq_getElem?_getD, List.getElem?_replicate]
            split <;> rfl
        show sv (el _ (ps i 1 0)) - (0 + sv (el _ (ps i 1 0)) * sv (el (eyV 1) (ps 0 1 0))) = _
        rw [e1, e2, sv_one, hps, hat i hi2]
        grind
      simp only [hr]
      have hA := (hpl i hi2).2.ab
      have := hA.mul hA
      have h2 := this.2
      grind
    have h3 := sumP_le key
    rw [sumP_const] at h3
    refine Rat.le_trans h3 ?_
    have n6' : ((x.length : Nat) : Rat) ≤ 6 := by
      have : ((x.length : Nat) : Rat) ≤ ((6 : Nat) : Rat) := Rat.natCast_le_natCast.2 h6
      exact this
    have h4 := Rat.mul_le_mul_of_nonneg_right n6' (c := 490 * (uu * W (mkBeta x)) * (490 * (uu * W (mkBeta x)))) (by
      have := Rat.mul_nonneg uu_pos hb
      exact Rat.mul_nonneg (by grind) (by grind))
    refine Rat.le_trans h4 ?_
    have h5 : 6 * (490 * (uu * W (mkBeta x)) * (490 * (uu * W (mkBeta x)))) = (6 * 490 * 490 * (uu * uu)) * (W (mkBeta x) * W (mkBeta x)) := by grind
    rw [h5]
    have h6 : 6 * 490 * 490 * (uu * uu) ≤ 1 / 1208925819614629174706176 := by decide +kernel
    have h7 := Rat.mul_le_mul_of_nonneg_right h6 hbb
    grind
  have wi := within_ok (k := 40) (r2.mono (E' := 5000) (T' := 5000) (by omega) (by omega)) (y2.mono (E' := 5000) (T' := 5000) (by omega) (by simp)) (by omega) (by omega) (by omega) hXY
  have qV : B.cons.den (Vu (mkBeta x)) (Vl []) = Vl [mkBeta x] := rfl
  clear hXY y3 r3 r2 y2 hpl hat hfin vf v1 tf tt hT
  generalize apV x.length 1 x 0 0 (mkV x) (mkTau x) = y at *
  generalize (List.replicate (x.length * 1) 0).set (ps 0 1 0) (mkBeta x) = want at *
  generalize List.replicate (x.length * 1) 0 = zz at *
  generalize eyV 1 = one at *
  generalize mkV x = v at *
  generalize mkTau x = tau at *
  generalize mkBeta x = beta at *
  generalize dS X E = g1 at *
  generalize dL X E = g2 at *
  generalize dE X E = g3 at *
  generalize dS Y F = g4 at *
  generalize dL Y F = g5 at *
  generalize dE Y F = g6 at *
  rw [show ((1 : Nat) : Int) = 1 from rfl] at zr ey r1 ck
  rw [show ((1 : Nat) : Int) = 1 from rfl, show ((0 : Nat) : Int) = 0 from rfl] at wt
  refine Eq.trans (st_call (by simp [h0, n6]) t1 rfl) ?_
  refine Eq.trans (st_f (by simp [h0, n6])) ?_
  refine Eq.trans (st_call rfl mk rfl) ?_
  simp only [List.cons_append, List.nil_append]
  refine Eq.trans (st_call rfl ((by simpa using ap)) rfl) ?_
  simp only [List.cons_append, List.nil_append]
  refine Eq.trans (st_call rfl ck rfl) ?_
  refine Eq.trans (st_f (by simp)) ?_
  simp only [List.cons_append, List.nil_append]
  refine Eq.trans (st_call rfl (by simpa using zr) rfl) ?_
  simp only [List.cons_append, List.nil_append]
  refine Eq.trans (st_call rfl wt rfl) ?_
  refine Eq.trans (st_call rfl ey rfl) ?_
  simp only [List.cons_append, List.nil_append]
  refine Eq.trans (st_call rfl r1 rfl) ?_
  refine Eq.trans (st_call rfl y1 rfl) ?_
  simp only [List.cons_append, List.nil_append]
  refine Eq.trans (st_call rfl wi rfl) ?_
  refine Eq.trans (st_call rfl awake_13 rfl) ?_
  simp [TT.dv]
end Go.Proofs.Ytogcdllpjcnbkaa.Dx
