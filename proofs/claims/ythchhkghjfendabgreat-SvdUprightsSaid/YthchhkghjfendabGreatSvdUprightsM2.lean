/- The pure meaning of the functions that the law reaches, and that the law is true of it. No conditions. -/
import Derived.Test.YthchhkghjfendabGreatSvdUprightsM1
set_option linter.all false
namespace Go.Proofs.YthchhkghjfendabGreat.Dx
open Go

theorem mul_parts {a b c d : Nat} : (a * 4294967296 + b) * (c * 4294967296 + d) = a * c * 18446744073709551616 + a * d * 4294967296 + b * c * 4294967296 + b * d := by
  rw [Nat.add_mul, Nat.mul_add, Nat.mul_add]
  have e1 : a * 4294967296 * (c * 4294967296) = a * c * 18446744073709551616 := by
    rw [Nat.mul_assoc, Nat.mul_left_comm 4294967296 c, ← Nat.mul_assoc, ← Nat.mul_assoc, Nat.mul_assoc (a * c)]
  have e2 : a * 4294967296 * d = a * d * 4294967296 := by rw [Nat.mul_assoc, Nat.mul_comm 4294967296 d, ← Nat.mul_assoc]
  have e3 : b * (c * 4294967296) = b * c * 4294967296 := by rw [Nat.mul_assoc]
  omega
theorem mul64_num {A B C D : Nat} (hA : A ≤ 18446744065119617025) (hB : B ≤ 18446744065119617025) (hC : C ≤ 18446744065119617025) (hD : D ≤ 18446744065119617025) :
    (A * 18446744073709551616 + B * 4294967296 + C * 4294967296 + D) / 18446744073709551616 = A + (B + D / 4294967296) / 4294967296 + ((B + D / 4294967296) % 4294967296 + C) / 4294967296 := by
  omega
theorem half_bd {x y : Nat} (hx : x < 4294967296) (hy : y < 4294967296) : x * y ≤ 18446744065119617025 := Nat.mul_le_mul (show x ≤ 4294967295 by omega) (show y ≤ 4294967295 by omega)
theorem mul64_ok {x y : Nat} (hx : x < 18446744073709551616) (hy : y < 18446744073709551616) : val 333 [Vu x, Vu y] = some [Vu (x * y / 18446744073709551616), Vu (x * y % 18446744073709551616)] := by
  refine val_of tab333 ?_
  have hxy : x * y = (x / 4294967296 * 4294967296 + x % 4294967296) * (y / 4294967296 * 4294967296 + y % 4294967296) := by rw [show x / 4294967296 * 4294967296 + x % 4294967296 = x by omega, show y / 4294967296 * 4294967296 + y % 4294967296 = y by omega]
  rw [mul_parts] at hxy
  have hA := half_bd (show x / 4294967296 < 4294967296 by omega) (show y / 4294967296 < 4294967296 by omega)
  have hB := half_bd (show x / 4294967296 < 4294967296 by omega) (show y % 4294967296 < 4294967296 by omega)
  have hC := half_bd (show x % 4294967296 < 4294967296 by omega) (show y / 4294967296 < 4294967296 by omega)
  have hD := half_bd (show x % 4294967296 < 4294967296 by omega) (show y % 4294967296 < 4294967296 by omega)
  have key := mul64_num hA hB hC hD
  have hlt : x * y / 18446744073709551616 < 18446744073709551616 := by
    have := Nat.mul_le_mul (show x ≤ 18446744073709551615 by omega) (show y ≤ 18446744073709551615 by omega)
    generalize x * y = z at *; omega
  rw [← hxy] at key
  rw [key] at hlt ⊢
  simp only [tr333, TT.dv, isTrue_den, den_bi, den_un, den_var, den_i64, den_u64_lit, ge_uI0, bool_Bo, if_true, List.getD_eq_getElem?_getD, List.getElem?_cons_zero, List.getElem?_cons_succ, Option.getD_some, shr_u_lit, and_32, mul_u, add_u, List.map_cons, List.map_nil]
  simp only [show (2 : Nat) ^ min 32 64 = 4294967296 from rfl]
  generalize x / 4294967296 = xh at *
  generalize x % 4294967296 = xl at *
  generalize y / 4294967296 = yh at *
  generalize y % 4294967296 = yl at *
  generalize xh * yh = A at *
  generalize xh * yl = B at *
  generalize xl * yh = C at *
  generalize xl * yl = D at *
  have e1 : A % 18446744073709551616 = A := by omega
  have e2 : B % 18446744073709551616 = B := by omega
  have e3 : C % 18446744073709551616 = C := by omega
  have e4 : D % 18446744073709551616 = D := by omega
  rw [e1, e2, e3, e4]
  have e5 : (B + D / 4294967296) % 18446744073709551616 = B + D / 4294967296 := by omega
  rw [e5]
  have e6 : ((B + D / 4294967296) % 4294967296 + C) % 18446744073709551616 = (B + D / 4294967296) % 4294967296 + C := by omega
  rw [e6]
  have e7 : ((A + (B + D / 4294967296) / 4294967296) % 18446744073709551616 + ((B + D / 4294967296) % 4294967296 + C) / 4294967296) % 18446744073709551616 = A + (B + D / 4294967296) / 4294967296 + ((B + D / 4294967296) % 4294967296 + C) / 4294967296 := by omega
  rw [e7]

theorem wide_loop {x0 x1 x2 x3 : PV} : ∀ (n : Nat) {m : Nat} {e : Int} {more : Bool}, m = n → m ≠ 0 → m < 18446744073709551616 → -9000000000 ≤ e → e ≤ 9000000000 → ∃ (m' : Nat) (j r : Nat), m' ≠ 0 ∧ m = m' * 2 ^ j + r ∧ r < 2 ^ j ∧ (-1130 ≤ e + j ∨ m' = 1) ∧ (0 < j → e + j ≤ -1130) ∧
    rounds (fun vs => lo305_1.dv (x0 :: x1 :: x2 :: x3 :: vs)) [Vu m, Vi e, Vb more] = some (.y (.ext 0) [Vu m', Vi (e + j), Vb (more || decide (r ≠ 0))]) := by
  intro n
  induction n using Nat.strongRecOn with
  | ind n ih =>
    intro m e more hmn h0 hm he he2
    by_cases h1 : e < -1130 ∧ 1 < m
    · obtain ⟨m', j, r, r1, r2, r3, r4, r5, r6⟩ := ih (m / 2) (by omega) (e := e + 1) (more := more || decide (m % 2 = 1)) rfl (by omega) (by omega) (by omega) (by omega)
      refine ⟨m', j + 1, 2 * r + m % 2, r1, ?_, ?_, by omega, by omega, ?_⟩
      · rw [Nat.pow_succ, ← Nat.mul_assoc]; omega
      · rw [Nat.pow_succ]; omega
      · have e1 : (B.add .i64).den (Vi e) (Vi 1) = Vi (e + 1) := add_i (by omega) (by omega)
        have e3 : (more || decide (2 * r + m % 2 ≠ 0)) = ((more || decide (m % 2 = 1)) || decide (r ≠ 0)) := by
          cases more
          · simp only [Bool.false_or]
            by_cases q1 : m % 2 = 1 <;> by_cases q2 : r = 0 <;> simp [q1, q2] <;> omega
          · simp
        rw [e3, show e + ((j + 1 : Nat) : Int) = e + 1 + j by omega]
        refine Eq.trans (rounds_cont ?_) r6
        have e4 : (B.and .u64).den (Vu m) (Vu 1) = Vu (m % 2) := and_mask m 1 (by omega)
        simp [lo305_1, TT.dv, h1.1, h1.2, e1, e4]
    · refine ⟨m, 0, 0, h0, by simp, by simp, by omega, by omega, rounds_exit ?_ (by simp)⟩
      have : ¬ (e < -1130 ∧ 1 < m) := h1
      by_cases h2 : e < -1130
      · have h3 : ¬ 1 < m := by omega
        simp [lo305_1, TT.dv, h2, h3]
      · simp [lo305_1, TT.dv, h2]
theorem wide_ok {neg more : Bool} {m : Nat} {e : Int} (h0 : m ≠ 0) (hm : m < 18446744073709551616) (he : -9000000000 ≤ e) (he2 : e ≤ 9000000000) (hmore : more = true → e < lastP m e) :
    ∃ f, val 305 [Vb neg, Vu m, Vi e, Vb more] = some [Vu (nearV neg (2 * m + more.toNat) (e - 1)), f] := by
  obtain ⟨m', j, r, r1, r2, r3, r4, r5, r6⟩ := wide_loop (x0 := Vb neg) (x1 := Vu m) (x2 := Vi e) (x3 := Vb more) m (m := m) (e := e) (more := more) rfl h0 hm he he2
  have hj2 : (j : Int) ≤ 100 := by
    have h5 : 2 ^ j ≤ m := by
      have := Nat.mul_le_mul_right (2 ^ j) (show 1 ≤ m' by omega); omega
    by_cases hh : j ≤ 100
    · omega
    · have := Nat.pow_le_pow_right (show 0 < 2 by omega) (show 100 ≤ j by omega)
      omega
  by_cases c4 : e + j < -1130
  · have hm1 : m' = 1 := by omega
    subst hm1
    have hn := near_ok (neg := neg) (more := true) (m := 0) (e := -1074) (by omega) (by omega) (by omega) (fun _ => .inl ⟨rfl, rfl⟩)
    have hlog : (2 * m + more.toNat).log2 = j + 1 := by
      rw [log2_odd h0, r2, log2_mul_add (n := 1) (by omega) r3, show Nat.log2 1 = 0 by decide]; omega
    have hV : nearV neg (2 * 0 + true.toNat) (-1074 - 1) = nearV neg (2 * m + more.toNat) (e - 1) := by
      have h5 : nearR (2 * m + more.toNat) (e - 1) = 0 := by unfold nearR; rw [rung_low2 (by omega) (by rw [hlog]; omega)]; rfl
      unfold nearV; rw [h5]
      have := (near_low true).1
      exact congrArg _ this
    rw [hV] at hn
    refine ⟨Vy (nearF (2 * 0 + true.toNat) (-1074 - 1)), val_of tab305 ?_⟩
    simp only [ne_eq] at r6
    generalize (more || decide (¬ r = 0)) = mo at *
    simp only [Nat.mul_zero, Nat.zero_add] at hn ⊢
    simp [tr305, TT.dv, KS.dv, r6, c4, hn]
  · have hmlt : m' < 18446744073709551616 := by
      have := Nat.le_mul_of_pos_right m' (Nat.two_pow_pos j)
      omega
    have hl : (more || decide (r ≠ 0)) = true → e + j < lastP m' (e + j) := fun hr => by
      by_cases hj : 0 < j
      · have := r5 hj
        unfold lastP; omega
      · have hj0 : j = 0 := by omega
        subst hj0
        simp at r3; subst r3
        simp at hr
        simp at r2; subst r2
        have := hmore hr
        simpa using this
    have hn := near_ok (neg := neg) (more := more || decide (r ≠ 0)) (m := m') (e := e + j) hmlt (by omega) (by omega) (fun h => .inr ⟨r1, hl h⟩)
    have hV : nearR (2 * m' + (more || decide (r ≠ 0)).toNat) (e + j - 1) = nearR (2 * m + more.toNat) (e - 1) := by
      have hs : 2 * m + more.toNat = m' * 2 ^ (j + 1) + (2 * r + more.toNat) := by
        rw [Nat.pow_succ, ← Nat.mul_assoc]; omega
      have hlt : 2 * r + more.toNat < 2 ^ (j + 1) := by
        have := Bool.toNat_le more
        rw [Nat.pow_succ]; omega
      by_cases hz : 2 * r + more.toNat = 0
      · have hm0 : more = false := by cases more; rfl; simp at hz
        have hr0 : r = 0 := by omega
        subst hm0 hr0
        rw [hs]
        simp only [Bool.toNat_false, Nat.mul_zero, Nat.add_zero, ne_eq, not_true_eq_false, decide_false, Bool.or_self]
        have t1 := (near_scale true m' (e + j) 1).2.2
        have t2 := (near_scale true m' (e + j) (j + 1)).2.2
        rw [Nat.pow_one, Nat.mul_comm m' 2] at t1
        rw [show e + (j : Int) - 1 = e + j - ((1 : Nat) : Int) from rfl, t1, ← t2]
        exact congrArg _ (by omega)
      · have ht : (more || decide (r ≠ 0)) = true := by
          cases more
          · simp at hz ⊢; omega
          · rfl
        have := (near_sticky r1 (hl ht) (by omega) hlt).1
        rw [ht, hs]
        rw [show e + (j : Int) - ((j + 1 : Nat) : Int) = e - 1 by omega] at this
        rw [this]; rfl
    have hV2 : nearV neg (2 * m' + (more || decide (r ≠ 0)).toNat) (e + j - 1) = nearV neg (2 * m + more.toNat) (e - 1) := by unfold nearV; rw [hV]
    rw [hV2] at hn
    refine ⟨Vy (nearF (2 * m' + (more || decide (r ≠ 0)).toNat) (e + j - 1)), val_of tab305 ?_⟩
    simp only [ne_eq] at r6 hn ⊢
    generalize (more || decide (¬ r = 0)) = mo at *
    simp [tr305, TT.dv, KS.dv, r6, c4, hn]
/-- A product's digits and what is left of them. -/
theorem mul_near {P : Nat} (h : 2 ^ 100 ≤ P) (p : Int) : nearR (2 * (P / 2 ^ 44) + (decide (P % 2 ^ 44 ≠ 0)).toNat) (p + 44 - 1) = nearR P p := by
  have hN : P / 2 ^ 44 ≠ 0 := by
    have := Nat.div_le_div_right (c := 2 ^ 44) h
    rw [show (2 : Nat) ^ 100 / 2 ^ 44 = 2 ^ 56 from by decide] at this
    have : 0 < 2 ^ 56 := Nat.two_pow_pos 56
    omega
  have hlog : 56 ≤ (P / 2 ^ 44).log2 := by
    rw [Nat.le_log2 hN, Nat.le_div_iff_mul_le (Nat.two_pow_pos _), ← Nat.pow_add]; exact h
  have hP : P = P / 2 ^ 44 * 2 ^ 44 + P % 2 ^ 44 := by rw [Nat.mul_comm]; exact (Nat.div_add_mod _ _).symm
  have hlt : P % 2 ^ 44 < 2 ^ 44 := Nat.mod_lt _ (Nat.two_pow_pos _)
  generalize P / 2 ^ 44 = N at *
  generalize P % 2 ^ 44 = r at *
  subst hP
  by_cases hr : r = 0
  · subst hr
    have t1 := (near_scale true N (p + 44) 1).2.2
    have t2 := (near_scale true N (p + 44) 44).2.2
    rw [Nat.pow_one, Nat.mul_comm N 2] at t1
    simp only [ne_eq, not_true_eq_false, decide_false, Bool.toNat_false, Nat.add_zero]
    rw [show p + 44 - 1 = p + 44 - ((1 : Nat) : Int) by omega, t1, ← t2]
    exact congrArg _ (by omega)
  · have := (near_sticky hN (p := p + 44) (j := 44) (r := r) (by unfold lastP; omega) (by omega) hlt).1
    rw [show p + 44 - ((44 : Nat) : Int) = p by omega] at this
    rw [this]; simp [hr]
end Go.Proofs.YthchhkghjfendabGreat.Dx

namespace Go.Proofs.YthchhkghjfendabGreat.Dx
open Go

theorem or_hi {h l : Nat} (hh : h < 4398046511104) (hl : l < 1048576) : (B.or .u64).den (Vu (h * 1048576)) (Vu l) = Vu (h * 1048576 + l) := by
  have := or_add (a := h) (b := l) (i := 20) (by omega) (by omega) (by omega)
  rw [show (2 : Nat) ^ 20 = 1048576 from rfl, Nat.mul_comm] at this
  exact this
theorem hilo {P : Nat} (h : P < 2 ^ 106) : P / 18446744073709551616 < 4398046511104 ∧ P % 18446744073709551616 / 17592186044416 < 1048576 ∧
    P / 18446744073709551616 * 1048576 + P % 18446744073709551616 / 17592186044416 = P / 2 ^ 44 ∧ (P % 18446744073709551616 * 1048576 % 18446744073709551616 = 0 ↔ P % 2 ^ 44 = 0) ∧ P / 2 ^ 44 < 4611686018427387904 := by
  rw [show (2 : Nat) ^ 106 = 81129638414606681695789005144064 from rfl] at h
  rw [show (2 : Nat) ^ 44 = 17592186044416 from rfl]
  refine ⟨by omega, by omega, by omega, by omega, by omega⟩
theorem times_ok {a b : Nat} (ha : a < 18446744073709551616) (hb : b < 18446744073709551616) : ∃ f, val 301 [Vu a, Vu b] = some [Vu (mulV a b), f] := by
  have s1 := sign_ok a
  have s2 := sign_ok b
  have k1 := kind_ok a
  have k2 := kind_ok b
  have hn := times_nan a b
  unfold mulV
  by_cases c1 : nanB a ∨ nanB b
  · rw [if_pos c1]
    refine ⟨Vy 0, val_of tab301 ?_⟩
    rw [decide_eq_true c1] at hn
    simp [tr301, TT.dv, s1, s2, k1, k2, hn, nan0]
  · rw [if_neg c1]
    rw [decide_eq_false c1] at hn
    have cn1 : ¬ nanB a := fun h => c1 (.inl h)
    have cn2 : ¬ nanB b := fun h => c1 (.inr h)
    by_cases c2 : infB a ∨ infB b
    · rw [if_pos c2]
      by_cases c3 : zeroB a ∨ zeroB b
      · rw [if_pos c3]
        refine ⟨Vy 16, val_of tab301 ?_⟩
        have hc : (fKind a = 3 ∧ fKind b = 0) ∨ (fKind a = 0 ∧ fKind b = 3) := by
          rw [kind_infB, kind_infB, kind_zeroB, kind_zeroB]
          rcases c2 with h | h <;> rcases c3 with g | g
          · exact absurd h.1 (zeroB_fin g)
          · exact .inl ⟨h, g⟩
          · exact .inr ⟨g, h⟩
          · exact absurd h.1 (zeroB_fin g)
        rcases hc with ⟨h1, h2⟩ | ⟨h1, h2⟩ <;> simp [tr301, TT.dv, s1, s2, k1, k2, hn, h1, h2, nan0]
      · rw [if_neg c3]
        refine ⟨Vy 0, val_of tab301 ?_⟩
        have z1 : ¬ fKind a = 0 := fun h => c3 (.inl ((kind_zeroB a).1 h))
        have z2 : ¬ fKind b = 0 := fun h => c3 (.inr ((kind_zeroB b).1 h))
        have hs := signed_ok (b := infR) (fNeg a != fNeg b) (.inl rfl)
        unfold infR at hs ⊢
        rcases c2 with h | h
        · have h1 := (kind_infB a).2 h
          simp [tr301, TT.dv, s1, s2, k1, k2, hn, h1, z1, z2, hs]
        · have h1 := (kind_infB b).2 h
          simp [tr301, TT.dv, s1, s2, k1, k2, hn, h1, z1, z2, hs]
    · rw [if_neg c2]
      have i1 : ¬ fKind a = 3 := fun h => c2 (.inl ((kind_infB a).1 h))
      have i2 : ¬ fKind b = 3 := fun h => c2 (.inr ((kind_infB b).1 h))
      by_cases c3 : zeroB a ∨ zeroB b
      · rw [if_pos c3]
        refine ⟨Vy 0, val_of tab301 ?_⟩
        have hs := signed_ok (b := 0) (fNeg a != fNeg b) (.inr rfl)
        rcases c3 with h | h
        · have h1 := (kind_zeroB a).2 h
          simp [tr301, TT.dv, s1, s2, k1, k2, hn, h1, i1, i2, hs]
        · have h1 := (kind_zeroB b).2 h
          simp [tr301, TT.dv, s1, s2, k1, k2, hn, h1, i1, i2, hs]
      · rw [if_neg c3]
        have z1 : ¬ fKind a = 0 := fun h => c3 (.inl ((kind_zeroB a).1 h))
        have z2 : ¬ fKind b = 0 := fun h => c3 (.inr ((kind_zeroB b).1 h))
        have f1 := fin_of cn1 (fun h => c2 (.inl h))
        have f2 := fin_of cn2 (fun h => c2 (.inr h))
        have m1 : fMag a ≠ 0 := fun h => c3 (.inl ((zeroB_mag f1).2 h))
        have m2 : fMag b ≠ 0 := fun h => c3 (.inr ((zeroB_mag f2).2 h))
        have n1 := norm3_ok m1
        have n2 := norm3_ok m2
        obtain ⟨a1, a2, a3⟩ := nrm_bd m1 (fMag_lt a)
        obtain ⟨b1, b2, b3⟩ := nrm_bd m2 (fMag_lt b)
        obtain ⟨p1, p2⟩ := fPl_bd a
        obtain ⟨q1, q2⟩ := fPl_bd b
        have hw1 : nrm (fMag a) ≤ 52 := by unfold nrm; omega
        have hw2 : nrm (fMag b) ≤ 52 := by unfold nrm; omega
        have hPx : fMag a * 2 ^ nrm (fMag a) * (fMag b * 2 ^ nrm (fMag b)) = fMag a * fMag b * 2 ^ (nrm (fMag a) + nrm (fMag b)) := by
          rw [Nat.pow_add, Nat.mul_assoc, Nat.mul_left_comm (2 ^ nrm (fMag a)), ← Nat.mul_assoc (fMag a)]
        have m64 := mul64_ok (x := fMag a * 2 ^ nrm (fMag a)) (y := fMag b * 2 ^ nrm (fMag b)) (by omega) (by omega)
        have hlo : 2 ^ 100 ≤ fMag a * 2 ^ nrm (fMag a) * (fMag b * 2 ^ nrm (fMag b)) := by
          have := Nat.mul_le_mul a2 b2
          refine Nat.le_trans ?_ this
          decide
        have hhi : fMag a * 2 ^ nrm (fMag a) * (fMag b * 2 ^ nrm (fMag b)) < 2 ^ 106 := by
          have := Nat.mul_lt_mul'' a3 b3
          exact Nat.lt_of_lt_of_le this (by decide)
        have hsc := (near_scale true (fMag a * fMag b) (fPl a + fPl b) (nrm (fMag a) + nrm (fMag b))).2.2
        rw [← hPx] at hsc
        generalize hP : fMag a * 2 ^ nrm (fMag a) * (fMag b * 2 ^ nrm (fMag b)) = P at *
        have hnr := mul_near hlo (fPl a - nrm (fMag a) + (fPl b - nrm (fMag b)))
        obtain ⟨t1, t2, t3, t4, t5⟩ := hilo hhi
        have e1 : (B.add .i64).den (Vi (fPl a - nrm (fMag a))) (Vi (fPl b - nrm (fMag b))) = Vi (fPl a - nrm (fMag a) + (fPl b - nrm (fMag b))) := add_i (by omega) (by omega)
        have e2 : (B.add .i64).den (Vi (fPl a - nrm (fMag a) + (fPl b - nrm (fMag b)))) (Vi 44) = Vi (fPl a - nrm (fMag a) + (fPl b - nrm (fMag b)) + 44) := add_i (by omega) (by omega)
        have e3 : (B.shl .u64).den (Vu (P / 18446744073709551616)) (Vu 20) = Vu (P / 18446744073709551616 * 1048576) := by
          rw [shl_uU]; refine congrArg Vu ?_
          show P / 18446744073709551616 * 1048576 % _ = _
          omega
        have e4 : (B.shr .u64).den (Vu (P % 18446744073709551616)) (Vu 44) = Vu (P % 18446744073709551616 / 17592186044416) := by rw [shr_uU]; rfl
        have e5 := or_hi t1 t2
        rw [t3] at e5
        have e6 : (B.shl .u64).den (Vu (P % 18446744073709551616)) (Vu 20) = Vu (P % 18446744073709551616 * 1048576 % 18446744073709551616) := by rw [shl_uU]; rfl
        have e7 : decide (P % 18446744073709551616 * 1048576 % 18446744073709551616 ≠ 0) = decide (P % 2 ^ 44 ≠ 0) := by
          rw [decide_eq_decide, ne_eq, ne_eq, t4]
        generalize hE : fPl a - nrm (fMag a) + (fPl b - nrm (fMag b)) = E at *
        have hN0 : P / 2 ^ 44 ≠ 0 := by
          have := Nat.div_le_div_right (c := 2 ^ 44) hlo
          rw [show (2 : Nat) ^ 100 / 2 ^ 44 = 72057594037927936 from by decide] at this
          omega
        have hlog : 56 ≤ (P / 2 ^ 44).log2 := by
          rw [Nat.le_log2 hN0, Nat.le_div_iff_mul_le (Nat.two_pow_pos _), ← Nat.pow_add]; exact hlo
        obtain ⟨f, hw⟩ := wide_ok (neg := fNeg a != fNeg b) (more := decide (P % 2 ^ 44 ≠ 0)) (m := P / 2 ^ 44) (e := E + 44) hN0 (by omega) (by omega) (by omega) (fun _ => by unfold lastP; omega)
        have hV : nearV (fNeg a != fNeg b) (2 * (P / 2 ^ 44) + (decide (P % 2 ^ 44 ≠ 0)).toNat) (E + 44 - 1) = nearV (fNeg a != fNeg b) (fMag a * fMag b) (fPl a + fPl b) := by
          unfold nearV
          rw [hnr, ← hsc]
          exact congrArg _ (congrArg _ (by omega))
        rw [hV] at hw
        have e8 : B.ne.den ((B.shl .u64).den (Vu (P % 18446744073709551616)) (Vu 20)) (Vu 0) = Vb (decide (P % 2 ^ 44 ≠ 0)) := by
          rw [e6, ne_u, e7]
        generalize decide (P % 2 ^ 44 ≠ 0) = mo at *
        generalize P / 2 ^ 44 = N at *
        refine ⟨f, val_of tab301 ?_⟩
        simp [-shl_u_lit, -shr_u_lit, -ne_u, tr301, TT.dv, s1, s2, k1, k2, hn, z1, z2, i1, i2, n1, n2, m64, e1, e2, e3, e4, e5, e8, hw]
end Go.Proofs.YthchhkghjfendabGreat.Dx

namespace Go.Proofs.YthchhkghjfendabGreat.Dx
open Go

def quoN (m n k : Nat) : Nat := 2 * (m * 2 ^ k / n) + (decide (m * 2 ^ k % n ≠ 0)).toNat
theorem quo_more {m n k : Nat} {p : Int} (hn : n ≠ 0) (hN : m * 2 ^ k / n ≠ 0) (h : p - k < lastP (m * 2 ^ k / n) (p - k)) (j : Nat) :
    nearR (quoN m n (k + j)) (p - ((k + j : Nat) : Int) - 1) = nearR (quoN m n k) (p - k - 1) := by
  unfold quoN
  have hd : m * 2 ^ (k + j) = (m * 2 ^ k / n * 2 ^ j) * n + m * 2 ^ k % n * 2 ^ j := by
    have : m * 2 ^ k = m * 2 ^ k / n * n + m * 2 ^ k % n := by have := Nat.div_add_mod (m * 2 ^ k) n; rw [Nat.mul_comm n] at this; exact this.symm
    rw [Nat.pow_add, ← Nat.mul_assoc]
    conv => lhs; rw [this]
    rw [Nat.add_mul, Nat.mul_right_comm]
  have hr : m * 2 ^ k % n < n := Nat.mod_lt _ (Nat.pos_of_ne_zero hn)
  generalize m * 2 ^ k / n = N at *
  generalize m * 2 ^ k % n = r at *
  have e1 : m * 2 ^ (k + j) / n = N * 2 ^ j + r * 2 ^ j / n := by
    rw [hd, Nat.add_comm, Nat.add_mul_div_right _ _ (Nat.pos_of_ne_zero hn), Nat.add_comm]
  have e2 : m * 2 ^ (k + j) % n = r * 2 ^ j % n := by rw [hd, Nat.add_comm, Nat.add_mul_mod_self_right]
  rw [e1, e2]
  have h3 : r * 2 ^ j / n < 2 ^ j := by
    rw [Nat.div_lt_iff_lt_mul (Nat.pos_of_ne_zero hn), Nat.mul_comm]; exact Nat.mul_lt_mul_of_pos_left hr (Nat.two_pow_pos j)
  have hs : 2 * (N * 2 ^ j + r * 2 ^ j / n) + (decide (r * 2 ^ j % n ≠ 0)).toNat = N * 2 ^ (j + 1) + (2 * (r * 2 ^ j / n) + (decide (r * 2 ^ j % n ≠ 0)).toNat) := by
    rw [Nat.pow_succ, ← Nat.mul_assoc]; omega
  rw [hs]
  by_cases hr0 : r = 0
  · subst hr0
    simp only [Nat.zero_mul, Nat.zero_div, Nat.zero_mod, ne_eq, not_true_eq_false, decide_false, Bool.toNat_false, Nat.mul_zero, Nat.add_zero]
    have t1 := (near_scale true N (p - k) 1).2.2
    have t2 := (near_scale true N (p - k) (j + 1)).2.2
    rw [Nat.pow_one, Nat.mul_comm N 2] at t1
    rw [show p - (k : Int) - 1 = p - k - ((1 : Nat) : Int) from rfl, t1, ← t2]
    exact congrArg _ (by omega)
  · have hp : 0 < 2 * (r * 2 ^ j / n) + (decide (r * 2 ^ j % n ≠ 0)).toNat := by
      by_cases hq : r * 2 ^ j / n = 0
      · have hm : r * 2 ^ j % n ≠ 0 := by
          have := Nat.div_add_mod (r * 2 ^ j) n
          rw [hq] at this
          have h4 : 0 < r * 2 ^ j := Nat.mul_pos (Nat.pos_of_ne_zero hr0) (Nat.two_pow_pos j)
          omega
        simp [hm]
      · omega
    have hlt : 2 * (r * 2 ^ j / n) + (decide (r * 2 ^ j % n ≠ 0)).toNat < 2 ^ (j + 1) := by
      have := Bool.toNat_le (decide (r * 2 ^ j % n ≠ 0))
      rw [Nat.pow_succ]; omega
    have := (near_sticky hN h hp hlt).1
    rw [show p - ((k + j : Nat) : Int) - 1 = p - k - ((j + 1 : Nat) : Int) by omega, this]
    simp [hr0]
def quoK (m n : Nat) : Nat := 54 + n.log2 - m.log2
def divV (a b : Nat) : Nat :=
  if nanB a ∨ nanB b then nan0 else
  if infB a then (if infB b then nan0 else sgn (fNeg a != fNeg b) infR) else
  if infB b then sgn (fNeg a != fNeg b) 0 else
  if zeroB b then (if zeroB a then nan0 else sgn (fNeg a != fNeg b) infR) else
  if zeroB a then sgn (fNeg a != fNeg b) 0 else nearV (fNeg a != fNeg b) (quoN (fMag a) (fMag b) (quoK (fMag a) (fMag b))) (fPl a - fPl b - quoK (fMag a) (fMag b) - 1)
theorem divB_ok {a b : Nat} (ha : a < 18446744073709551616) (hb : b < 18446744073709551616) : B.fdiv.den (Vf (cnF a)) (Vf (cnF b)) = Vf (divV a b) := by
  show fv (Ieee.double.div (cnF a) (cnF b)) = _
  rw [div_cn]
  unfold divV Ieee.Format.div
  by_cases h1 : nanB a
  · obtain ⟨s, f, h⟩ := rd_nan h1; rw [h, if_pos (.inl h1)]; rfl
  by_cases h2 : nanB b
  · obtain ⟨s, f, h⟩ := rd_nan h2; rw [h, if_pos (.inr h2)]; cases Ieee.double.read a <;> rfl
  rw [if_neg (by simp [h1, h2])]
  by_cases h3 : infB a
  · rw [rd_inf ha h3, if_pos h3]
    by_cases h4 : infB b
    · rw [rd_inf hb h4, if_pos h4]; rfl
    · have hf := fin_of h2 h4
      rw [rd_num hb hf, if_neg h4]
      show fv (some (Ieee.double.write _)) = _
      rw [wr_inf, xor_ne]; rfl
  · have hf := fin_of h1 h3
    rw [if_neg h3, rd_num ha hf]
    by_cases h4 : infB b
    · rw [rd_inf hb h4, if_pos h4]
      show fv (some (Ieee.double.write _)) = _
      rw [wr_num, xor_ne, nearV_zero]; rfl
    · have hg := fin_of h2 h4
      rw [rd_num hb hg, if_neg h4]
      show fv (Option.map _ (if fMag b = 0 then if fMag a = 0 then none else _ else _)) = _
      by_cases h5 : zeroB b
      · rw [if_pos h5, if_pos h5.1]
        by_cases h6 : zeroB a
        · rw [if_pos h6, if_pos h6.1]; rfl
        · rw [if_neg h6, if_neg (fun h => h6 ((zeroB_mag hf).2 h))]
          show fv (some (Ieee.double.write _)) = _
          rw [wr_inf, xor_ne]; rfl
      · rw [if_neg h5, if_neg (fun h => h5 ((zeroB_mag hg).2 h))]
        show fv (some (Ieee.double.write _)) = _
        rw [wr_num, xor_ne]
        have hk : Ieee.double.fractionBits + 2 + (fMag b).log2 - (fMag a).log2 = quoK (fMag a) (fMag b) := rfl
        rw [hk, Nat.shiftLeft_eq]
        have hq : 2 * (fMag a * 2 ^ quoK (fMag a) (fMag b) / fMag b) + (fMag a * 2 ^ quoK (fMag a) (fMag b) % fMag b != 0).toNat = quoN (fMag a) (fMag b) (quoK (fMag a) (fMag b)) := by
          unfold quoN
          refine congrArg _ (congrArg _ ?_)
          by_cases h : fMag a * 2 ^ quoK (fMag a) (fMag b) % fMag b = 0 <;> simp [h]
        rw [hq]
        by_cases h6 : zeroB a
        · rw [if_pos h6]
          have : quoN (fMag a) (fMag b) (quoK (fMag a) (fMag b)) = 0 := by unfold quoN; rw [h6.1]; simp
          rw [this, nearV_zero]; rfl
        · rw [if_neg h6]; rfl
theorem divV_lt {a b : Nat} : divV a b < 18446744073709551616 := by
  have h1 : ∀ s, sgn s infR < 18446744073709551616 := fun s => (sgn_fields _ (Nat.le_refl _)).2.2.2.2
  have h2 : ∀ s, sgn s 0 < 18446744073709551616 := fun s => (sgn_fields _ (Nat.zero_le _)).2.2.2.2
  have h3 : nan0 < 18446744073709551616 := by decide
  unfold divV
  repeat' split
  all_goals first | exact h3 | exact h1 _ | exact h2 _ | exact word_lt _ _ _
theorem divV_nan (a b : Nat) : cnF (divV a b) = divV a b := by
  unfold divV
  repeat' split
  all_goals first | exact cnF_nanB nanB_nan0 | exact cnF_ok (nanB_sgn _).1 | exact cnF_ok (nanB_sgn _).2 | exact cnF_ok (nanB_near _ _ _)

theorem dbl_div {a y : Nat} (hy : 0 < y) : a * 2 / y = 2 * (a / y) + (if y ≤ 2 * (a % y) then 1 else 0) ∧ a * 2 % y = 2 * (a % y) - (if y ≤ 2 * (a % y) then y else 0) := by
  have h := Nat.div_add_mod a y
  have hr := Nat.mod_lt a hy
  generalize a / y = q at *
  generalize a % y = r at *
  have e : a * 2 = 2 * r + y * (2 * q) := by rw [← h, Nat.mul_left_comm y 2 q]; omega
  rw [e, Nat.add_mul_div_left _ _ hy, Nat.add_mul_mod_self_left]
  by_cases hc : y ≤ 2 * r
  · rw [if_pos hc, if_pos hc]
    have e2 : 2 * r = (2 * r - y) + y := by omega
    have h1 : 2 * r / y = 1 := by rw [e2, Nat.add_div_right _ hy, Nat.div_eq_of_lt (by omega)]
    have h2 : 2 * r % y = 2 * r - y := by
      conv => lhs; rw [e2]
      rw [Nat.add_mod_right, Nat.mod_eq_of_lt (by omega)]
    exact ⟨by omega, h2⟩
  · rw [if_neg hc, if_neg hc, Nat.div_eq_of_lt (by omega), Nat.mod_eq_of_lt (by omega)]
    exact ⟨by omega, by omega⟩
theorem div_loop {x0 x1 x2 x3 x4 x5 x6 x7 x8 x10 : PV} {A y : Nat} (hy : 4503599627370496 ≤ y) (hy2 : y < 9007199254740992) (hA : A < 9007199254740992) : ∀ (n : Nat) {i : Nat}, i + n = 61 →
    rounds (fun vs => lo300_1.dv (x0 :: x1 :: x2 :: x3 :: x4 :: x5 :: x6 :: x7 :: x8 :: Vu y :: x10 :: vs)) [Vu (A * 2 ^ i / y), Vu (A * 2 ^ i % y), Vi i] = some (.y (.ext 1) [Vu (A * 2 ^ 61 / y), Vu (A * 2 ^ 61 % y)]) := by
  intro n
  induction n with
  | zero =>
    intro i hi
    have : i = 61 := by omega
    subst this
    refine rounds_exit ?_ (by simp)
    simp [lo300_1, TT.dv]
  | succ n ih =>
    intro i hi
    refine Eq.trans (rounds_cont ?_) (ih (i := i + 1) (by omega))
    have hd := dbl_div (a := A * 2 ^ i) (y := y) (by omega)
    rw [Nat.mul_assoc, ← Nat.pow_succ] at hd
    obtain ⟨d1, d2⟩ := hd
    have hr : A * 2 ^ i % y < y := Nat.mod_lt _ (by omega)
    have hq : A * 2 ^ i / y < 4611686018427387904 := by
      rw [Nat.div_lt_iff_lt_mul (by omega)]
      have h1 : A * 2 ^ i ≤ A * 2 ^ 60 := Nat.mul_le_mul_left A (Nat.pow_le_pow_right (by omega) (by omega))
      rw [show (2 : Nat) ^ 60 = 1152921504606846976 from rfl] at h1
      have h2 : 4611686018427387904 * 4503599627370496 ≤ 4611686018427387904 * y := Nat.mul_le_mul_left _ hy
      omega
    rw [d1, d2]
    generalize A * 2 ^ i / y = q at *
    generalize A * 2 ^ i % y = r at *
    have e1 : (B.shl .u64).den (Vu r) (Vu 1) = Vu (2 * r) := by
      rw [shl_uU]; refine congrArg Vu ?_
      show r * 2 % _ = _; omega
    have e2 : (B.shl .u64).den (Vu q) (Vu 1) = Vu (2 * q) := by
      rw [shl_uU]; refine congrArg Vu ?_
      show q * 2 % _ = _; omega
    have e3 : (B.add .i64).den (Vi i) (Vi 1) = Vi (i + 1) := add_i (by omega) (by omega)
    have e4 : (i : Int) < 61 := by omega
    have e5 : (B.or .u64).den (Vu (2 * q)) (Vu 1) = Vu (2 * q + 1) := or_add (a := q) (b := 1) (i := 1) (by omega) (by omega) (by omega)
    by_cases hc : y ≤ 2 * r
    · have e6 : (B.sub .u64).den (Vu (2 * r)) (Vu y) = Vu (2 * r - y) := sub_u hc (by omega)
      simp [-shl_u_lit, lo300_1, TT.dv, KS.dv, e1, e2, e3, e4, e5, e6, hc]
    · simp [-shl_u_lit, lo300_1, TT.dv, KS.dv, e1, e2, e3, e4, hc]
end Go.Proofs.YthchhkghjfendabGreat.Dx

namespace Go.Proofs.YthchhkghjfendabGreat.Dx
open Go

/-- The quotient of two numbers of 53 digits. -/
theorem quo_near {m n : Nat} (hm : m ≠ 0) (hn : n ≠ 0) (hm2 : m < 9007199254740992) (hn2 : n < 9007199254740992) (i j : Int) (s : Bool) :
    nearV s (quoN (m * 2 ^ nrm m) (n * 2 ^ nrm n) 61) (i - nrm m - (j - nrm n) - 61 - 1) = nearV s (quoN m n (quoK m n)) (i - j - quoK m n - 1) ∧ m * 2 ^ nrm m * 2 ^ 61 / (n * 2 ^ nrm n) ≠ 0 ∧
    60 ≤ (m * 2 ^ nrm m * 2 ^ 61 / (n * 2 ^ nrm n)).log2 := by
  obtain ⟨a1, a2, a3⟩ := nrm_bd hm hm2
  obtain ⟨b1, b2, b3⟩ := nrm_bd hn hn2
  have hk : quoK m n = 54 + n.log2 - m.log2 := rfl
  have hk2 : nrm m + 61 = quoK m n + 7 + nrm n := by rw [hk]; unfold nrm; omega
  have e0 : m * 2 ^ nrm m * 2 ^ 61 = m * 2 ^ (quoK m n + 7) * 2 ^ nrm n := by
    rw [Nat.mul_assoc, ← Nat.pow_add, hk2, Nat.pow_add, Nat.mul_assoc]
  have e1 : m * 2 ^ nrm m * 2 ^ 61 / (n * 2 ^ nrm n) = m * 2 ^ (quoK m n + 7) / n := by rw [e0, Nat.mul_div_mul_right _ _ (Nat.two_pow_pos _)]
  have e2 : m * 2 ^ nrm m * 2 ^ 61 % (n * 2 ^ nrm n) = m * 2 ^ (quoK m n + 7) % n * 2 ^ nrm n := by rw [e0, Nat.mul_mod_mul_right]
  have hq : quoN (m * 2 ^ nrm m) (n * 2 ^ nrm n) 61 = quoN m n (quoK m n + 7) := by
    unfold quoN
    rw [e1, e2]
    refine congrArg _ (congrArg _ ?_)
    rw [decide_eq_decide, ne_eq, ne_eq, Nat.mul_eq_zero]
    simp
  have hlow : 2 ^ 60 ≤ m * 2 ^ nrm m * 2 ^ 61 / (n * 2 ^ nrm n) := by
    rw [Nat.le_div_iff_mul_le (by unfold two52 at b2; omega)]
    have h1 : 2 ^ 60 * (n * 2 ^ nrm n) ≤ 2 ^ 60 * 9007199254740992 := Nat.mul_le_mul_left _ (by omega)
    have h2 : 4503599627370496 * 2 ^ 61 ≤ m * 2 ^ nrm m * 2 ^ 61 := Nat.mul_le_mul_right _ a2
    have h3 : 2 ^ 60 * 9007199254740992 = 4503599627370496 * 2 ^ 61 := by decide
    exact Nat.le_trans h1 (Nat.le_trans (Nat.le_of_eq h3) h2)
  have hpos : 0 < 2 ^ 60 := Nat.two_pow_pos 60
  have hne : m * 2 ^ nrm m * 2 ^ 61 / (n * 2 ^ nrm n) ≠ 0 := by omega
  have hlog : 60 ≤ (m * 2 ^ nrm m * 2 ^ 61 / (n * 2 ^ nrm n)).log2 := by rw [Nat.le_log2 hne]; exact hlow
  refine ⟨?_, hne, hlog⟩
  rw [hq]
  have h0 : m * 2 ^ quoK m n / n ≠ 0 ∧ 53 ≤ (m * 2 ^ quoK m n / n).log2 := by
    have hh : 2 ^ 53 ≤ m * 2 ^ quoK m n / n := by
      rw [Nat.le_div_iff_mul_le (Nat.pos_of_ne_zero hn)]
      have h1 := Nat.mul_le_mul_right (2 ^ quoK m n) (Nat.log2_self_le hm)
      rw [← Nat.pow_add] at h1
      have h2 : 2 ^ 53 * n ≤ 2 ^ 53 * 2 ^ (n.log2 + 1) := Nat.mul_le_mul_left _ (Nat.le_of_lt Nat.lt_log2_self)
      rw [← Nat.pow_add] at h2
      rw [show m.log2 + quoK m n = 53 + (n.log2 + 1) by rw [hk]; omega] at h1
      omega
    have : m * 2 ^ quoK m n / n ≠ 0 := by have := Nat.two_pow_pos 53; omega
    exact ⟨this, by rw [Nat.le_log2 this]; exact hh⟩
  have := quo_more (m := m) (n := n) (k := quoK m n) (p := i - j) hn h0.1 (by unfold lastP; omega) 7
  unfold nearV
  rw [← this]
  exact congrArg _ (congrArg _ (by omega))
theorem div_ok {a b : Nat} (ha : a < 18446744073709551616) (hb : b < 18446744073709551616) : ∃ f, val 300 [Vu a, Vu b] = some [Vu (divV a b), f] := by
  have s1 := sign_ok a
  have s2 := sign_ok b
  have k1 := kind_ok a
  have k2 := kind_ok b
  have hn := times_nan a b
  have hsI := signed_ok (b := infR) (fNeg a != fNeg b) (.inl rfl)
  have hsZ := signed_ok (b := 0) (fNeg a != fNeg b) (.inr rfl)
  have eI : infR = 9218868437227405312 := rfl
  rw [eI] at hsI
  unfold divV
  rw [eI]
  by_cases c1 : nanB a ∨ nanB b
  · rw [if_pos c1]
    refine ⟨Vy 0, val_of tab300 ?_⟩
    rw [decide_eq_true c1] at hn
    simp [tr300, TT.dv, s1, s2, k1, k2, hn, nan0]
  · rw [if_neg c1]
    rw [decide_eq_false c1] at hn
    have cn1 : ¬ nanB a := fun h => c1 (.inl h)
    have cn2 : ¬ nanB b := fun h => c1 (.inr h)
    by_cases c2 : infB a
    · rw [if_pos c2]
      have i1 := (kind_infB a).2 c2
      by_cases c3 : infB b
      · rw [if_pos c3]
        have i2 := (kind_infB b).2 c3
        refine ⟨Vy 16, val_of tab300 ?_⟩
        simp [tr300, TT.dv, s1, s2, k1, k2, hn, i1, i2, nan0]
      · rw [if_neg c3]
        have i2 : ¬ fKind b = 3 := fun h => c3 ((kind_infB b).1 h)
        refine ⟨Vy 0, val_of tab300 ?_⟩
        simp [tr300, TT.dv, s1, s2, k1, k2, hn, i1, i2, hsI]
    · rw [if_neg c2]
      have i1 : ¬ fKind a = 3 := fun h => c2 ((kind_infB a).1 h)
      by_cases c3 : infB b
      · rw [if_pos c3]
        have i2 := (kind_infB b).2 c3
        refine ⟨Vy 0, val_of tab300 ?_⟩
        simp [tr300, TT.dv, s1, s2, k1, k2, hn, i1, i2, hsZ]
      · rw [if_neg c3]
        have i2 : ¬ fKind b = 3 := fun h => c3 ((kind_infB b).1 h)
        by_cases c4 : zeroB b
        · rw [if_pos c4]
          have z2 := (kind_zeroB b).2 c4
          by_cases c5 : zeroB a
          · rw [if_pos c5]
            have z1 := (kind_zeroB a).2 c5
            refine ⟨Vy 16, val_of tab300 ?_⟩
            simp [tr300, TT.dv, s1, s2, k1, k2, hn, z1, z2, nan0]
          · rw [if_neg c5]
            have z1 : ¬ fKind a = 0 := fun h => c5 ((kind_zeroB a).1 h)
            refine ⟨Vy 8, val_of tab300 ?_⟩
            simp [tr300, TT.dv, s1, s2, k1, k2, hn, i1, z1, z2, hsI]
        · rw [if_neg c4]
          have z2 : ¬ fKind b = 0 := fun h => c4 ((kind_zeroB b).1 h)
          by_cases c5 : zeroB a
          · rw [if_pos c5]
            have z1 := (kind_zeroB a).2 c5
            refine ⟨Vy 0, val_of tab300 ?_⟩
            simp [tr300, TT.dv, s1, s2, k1, k2, hn, i2, z1, z2, hsZ]
          · rw [if_neg c5]
            have z1 : ¬ fKind a = 0 := fun h => c5 ((kind_zeroB a).1 h)
            have f1 := fin_of cn1 c2
            have f2 := fin_of cn2 c3
            have m1 : fMag a ≠ 0 := fun h => c5 ((zeroB_mag f1).2 h)
            have m2 : fMag b ≠ 0 := fun h => c4 ((zeroB_mag f2).2 h)
            have n1 := norm3_ok m1
            have n2 := norm3_ok m2
            obtain ⟨a1, a2, a3⟩ := nrm_bd m1 (fMag_lt a)
            obtain ⟨b1, b2, b3⟩ := nrm_bd m2 (fMag_lt b)
            obtain ⟨p1, p2⟩ := fPl_bd a
            obtain ⟨q1, q2⟩ := fPl_bd b
            have hw1 : nrm (fMag a) ≤ 52 := by unfold nrm; omega
            have hw2 : nrm (fMag b) ≤ 52 := by unfold nrm; omega
            obtain ⟨g1, g2, g3⟩ := quo_near m1 m2 (fMag_lt a) (fMag_lt b) (fPl a) (fPl b) (fNeg a != fNeg b)
            rw [← g1]
            unfold two52 at a2 b2
            have hlp := fun x0 x1 x2 x3 x4 x5 x6 x7 x8 x10 => div_loop (x0 := x0) (x1 := x1) (x2 := x2) (x3 := x3) (x4 := x4) (x5 := x5) (x6 := x6) (x7 := x7) (x8 := x8) (x10 := x10) b2 b3 a3 61 (i := 0) rfl
            simp only [Nat.pow_zero, Nat.mul_one, show ((0 : Nat) : Int) = 0 from rfl] at hlp
            generalize hX : fMag a * 2 ^ nrm (fMag a) = X at *
            generalize hY : fMag b * 2 ^ nrm (fMag b) = Y at *
            have e0 : (B.sub .i64).den (Vi (fPl a - nrm (fMag a))) (Vi (fPl b - nrm (fMag b))) = Vi (fPl a - nrm (fMag a) - (fPl b - nrm (fMag b))) := sub_i (by omega) (by omega)
            generalize hE : fPl a - nrm (fMag a) - (fPl b - nrm (fMag b)) = E at *
            have e1 : (B.sub .i64).den (Vi E) (Vi 61) = Vi (E - 61) := sub_i (by omega) (by omega)
            have e2 : (B.quo .u64).den (Vu X) (Vu Y) = Vu (X / Y) := quo_u (by omega)
            have e3 : ¬ Y = 0 := by omega
            have hQ : X * 2 ^ 61 / Y < 18446744073709551616 := by
              rw [Nat.div_lt_iff_lt_mul (by omega)]
              have h2 : 18446744073709551616 * 4503599627370496 ≤ 18446744073709551616 * Y := Nat.mul_le_mul_left _ b2
              omega
            obtain ⟨f, hw⟩ := wide_ok (neg := fNeg a != fNeg b) (more := decide (X * 2 ^ 61 % Y ≠ 0)) (m := X * 2 ^ 61 / Y) (e := E - 61) g2 hQ (by omega) (by omega) (fun _ => by unfold lastP; omega)
            have hw' : val 305 [Vb (fNeg a != fNeg b), Vu (X * 2 ^ 61 / Y), Vi (E - 61), Vb (decide (X * 2 ^ 61 % Y ≠ 0))] = some [Vu (nearV (fNeg a != fNeg b) (quoN X Y 61) (E - 61 - 1)), f] := hw
            have e4 : B.ne.den (Vu (X * 2 ^ 61 % Y)) (Vu 0) = Vb (decide (X * 2 ^ 61 % Y ≠ 0)) := ne_u
            generalize nearV (fNeg a != fNeg b) (quoN X Y 61) (E - 61 - 1) = res at *
            generalize decide (X * 2 ^ 61 % Y ≠ 0) = mo at *
            generalize X * 2 ^ 61 / Y = Q at *
            generalize X * 2 ^ 61 % Y = R at *
            refine ⟨f, val_of tab300 ?_⟩
            simp [-ne_u, tr300, TT.dv, KS.dv, s1, s2, k1, k2, hn, z1, z2, i1, i2, n1, n2, ne_u (a := Y) (b := 0), e0, e1, e2, e3, hlp, e4, hw']
end Go.Proofs.YthchhkghjfendabGreat.Dx

namespace Go.Proofs.YthchhkghjfendabGreat.Dx
open Go

def sumV (s t : Bool) (m n : Nat) (i j : Int) : Nat :=
  nearV (if sg s m * 2 ^ (i - min i j).toNat + sg t n * 2 ^ (j - min i j).toNat = 0 then s && t else decide (sg s m * 2 ^ (i - min i j).toNat + sg t n * 2 ^ (j - min i j).toNat < 0))
    (sg s m * 2 ^ (i - min i j).toNat + sg t n * 2 ^ (j - min i j).toNat).natAbs (min i j)
theorem sumV_comm (s t : Bool) (m n : Nat) (i j : Int) : sumV s t m n i j = sumV t s n m j i := by
  unfold sumV
  rw [Int.add_comm, Bool.and_comm, show min i j = min j i by omega]
def addV (a b : Nat) : Nat :=
  if nanB a ∨ nanB b then nan0 else
  if infB a then (if infB b ∧ fNeg a ≠ fNeg b then nan0 else a) else
  if infB b then b else sumV (fNeg a) (fNeg b) (fMag a) (fMag b) (fPl a) (fPl b)
theorem addB_ok {a b : Nat} (ha : a < 18446744073709551616) (hb : b < 18446744073709551616) : B.fadd.den (Vf (cnF a)) (Vf (cnF b)) = Vf (addV a b) := by
  show fv (Ieee.double.add (cnF a) (cnF b)) = _
  rw [add_cn]
  unfold addV Ieee.Format.add
  by_cases h1 : nanB a
  · obtain ⟨s, f, h⟩ := rd_nan h1; rw [h, if_pos (.inl h1)]; rfl
  by_cases h2 : nanB b
  · obtain ⟨s, f, h⟩ := rd_nan h2; rw [h, if_pos (.inr h2)]; cases Ieee.double.read a <;> rfl
  rw [if_neg (by simp [h1, h2])]
  by_cases h3 : infB a
  · rw [rd_inf ha h3, if_pos h3]
    by_cases h4 : infB b
    · rw [rd_inf hb h4]
      show fv (Option.map _ (if fNeg a = fNeg b then some _ else none)) = _
      by_cases h5 : fNeg a = fNeg b
      · rw [if_pos h5, if_neg (by simp [h5])]
        show fv (some (Ieee.double.write _)) = _
        rw [wr_inf, ← inf_word ha h3]; rfl
      · rw [if_neg h5, if_pos ⟨h4, h5⟩]; rfl
    · have hf := fin_of h2 h4
      rw [rd_num hb hf, if_neg (by simp [h4])]
      show fv (some (Ieee.double.write _)) = _
      rw [wr_inf, ← inf_word ha h3]; rfl
  · have hf := fin_of h1 h3
    rw [if_neg h3, rd_num ha hf]
    by_cases h4 : infB b
    · rw [rd_inf hb h4, if_pos h4]
      show fv (some (Ieee.double.write _)) = _
      rw [wr_inf, ← inf_word hb h4]; rfl
    · have hg := fin_of h2 h4
      rw [rd_num hb hg, if_neg h4]
      show fv (some (Ieee.double.write (.number (if Ieee.signed _ _ _ + Ieee.signed _ _ _ = 0 then _ else _) _ _))) = _
      rw [wr_num, signed_eq, signed_eq]; rfl
theorem addV_lt {a b : Nat} (ha : a < 18446744073709551616) (hb : b < 18446744073709551616) : addV a b < 18446744073709551616 := by
  have h3 : nan0 < 18446744073709551616 := by decide
  unfold addV
  repeat' split
  all_goals first | exact h3 | exact ha | exact hb | exact word_lt _ _ _
theorem addV_nan (a b : Nat) : cnF (addV a b) = addV a b := by
  unfold addV
  split
  · exact cnF_nanB nanB_nan0
  · rename_i h
    split
    · split
      · exact cnF_nanB nanB_nan0
      · exact cnF_ok (fun hh => h (.inl hh))
    · split
      · exact cnF_ok (fun hh => h (.inr hh))
      · exact cnF_ok (nanB_near _ _ _)

theorem near0 {neg : Bool} {m : Nat} {e : Int} (hm : m < 18446744073709551616) (he : -1137 ≤ e) (he2 : e < 9000000000000) : ∃ f, val 283 [Vb neg, Vu m, Vi e, Vb false] = some [Vu (nearV neg m e), f] := by
  have h := near_ok (neg := neg) (more := false) hm he he2 (fun h => by cases h)
  have h2 := (near_scale neg m e 1).1
  rw [Nat.pow_one, Nat.mul_comm] at h2
  simp only [Bool.toNat_false, Nat.add_zero] at h
  rw [show nearV neg (2 * m) (e - 1) = nearV neg m e from h2] at h
  exact ⟨_, h⟩
/-- A number divided by a power of two, what is left in its lowest digit. -/
def rgt (M d : Nat) : Nat := if M % 2 ^ min d 63 = 0 then M / 2 ^ min d 63 else 2 * (M / 2 ^ min d 63 / 2) + 1
theorem right_ok {M d : Nat} (hM : M < 18446744073709551616) (hd : d < 9223372036854775808) : val 290 [Vu M, Vi d] = some [Vu (rgt M d)] := by
  refine val_of tab290 ?_
  have e0 : ∃ t : Nat, t = min d 63 := ⟨_, rfl⟩
  obtain ⟨t, ht⟩ := e0
  unfold rgt
  rw [← ht]
  have e1 : (B.shr .u64).den (Vu M) (Vi t) = Vu (M / 2 ^ t) := by rw [shr_uI rfl, Nat.min_eq_left (by omega)]
  have e2 : (B.shl .u64).den (Vu (M / 2 ^ t)) (Vi t) = Vu (M / 2 ^ t * 2 ^ t) := by
    rw [shl_uI rfl, Nat.min_eq_left (by omega), Nat.mod_eq_of_lt]
    exact Nat.lt_of_le_of_lt (Nat.div_mul_le_self _ _) hM
  have e3 : M / 2 ^ t * 2 ^ t = M ↔ M % 2 ^ t = 0 := by
    have := Nat.div_add_mod M (2 ^ t)
    rw [Nat.mul_comm] at this
    omega
  have hq : M / 2 ^ t < 18446744073709551616 := Nat.lt_of_le_of_lt (Nat.div_le_self _ _) hM
  have e4 : (B.or .u64).den (Vu (M / 2 ^ t)) (Vu 1) = Vu (2 * (M / 2 ^ t / 2) + 1) := by
    generalize M / 2 ^ t = q at *
    rcases (show q % 2 = 0 ∨ q % 2 = 1 by omega) with h | h
    · have := or_add (a := q / 2) (b := 1) (i := 1) (by omega) (by omega) (by omega)
      rw [show 2 ^ 1 * (q / 2) = q by omega] at this
      rw [this]; exact congrArg Vu (by omega)
    · rw [or_u hq (by omega)]
      refine congrArg Vu ?_
      have := Nat.two_pow_add_eq_or_of_lt (b := 1) (i := 1) (by omega) (q / 2)
      rw [Nat.pow_one, show 2 * (q / 2) + 1 = q by omega] at this
      conv => lhs; rw [this, Nat.or_assoc, Nat.or_self, ← this]
      omega
  generalize M / 2 ^ t = q at *
  by_cases hd63 : (d : Int) > 63
  · have ht63 : t = 63 := by omega
    rw [ht63] at e1 e2 e3 ⊢
    have e1' : (B.shr .u64).den (Vu M) (Vi 63) = Vu q := e1
    have e2' : (B.shl .u64).den (Vu q) (Vi 63) = Vu (q * 2 ^ 63) := e2
    have h63 : (63 : Int) < d := by omega
    generalize q * 2 ^ 63 = z at *
    by_cases hc : z = M
    · rw [if_pos (e3.1 hc)]
      simp [-shl_u_lit, -shr_u_lit, tr290, TT.dv, KS.dv, h63, e1', e2', hc]
    · rw [if_neg (fun h => hc (e3.2 h))]
      simp [-shl_u_lit, -shr_u_lit, tr290, TT.dv, KS.dv, h63, e1', e2', hc, e4]
  · have ht63 : t = d := by omega
    subst ht63
    have h63 : ¬ (63 : Int) < t := by omega
    generalize q * 2 ^ t = z at *
    by_cases hc : z = M
    · rw [if_pos (e3.1 hc)]
      simp [-shl_u_lit, -shr_u_lit, tr290, TT.dv, KS.dv, h63, e1, e2, hc]
    · rw [if_neg (fun h => hc (e3.2 h))]
      simp [-shl_u_lit, -shr_u_lit, tr290, TT.dv, KS.dv, h63, e1, e2, hc, e4]
end Go.Proofs.YthchhkghjfendabGreat.Dx

namespace Go.Proofs.YthchhkghjfendabGreat.Dx
open Go

theorem near_half {N k r : Nat} (p : Int) (hN : 2 ^ 56 ≤ N) (h0 : 0 < r) (hr : r < 2 ^ k) : nearR (N * 2 ^ k + r) (p - k) = nearR (2 * (N / 2) + 1) p := by
  have h56 : (2 : Nat) ^ 56 = 72057594037927936 := rfl
  rw [h56] at hN
  have hM : N / 2 ≠ 0 := by omega
  have hlog : 55 ≤ (N / 2).log2 := by
    rw [Nat.le_log2 hM]
    show 36028797018963968 ≤ N / 2
    omega
  have e1 : N * 2 ^ k + r = N / 2 * 2 ^ (k + 1) + (N % 2 * 2 ^ k + r) := by
    rw [Nat.pow_succ, ← Nat.mul_assoc, Nat.mul_right_comm, ← Nat.add_assoc, ← Nat.add_mul, Nat.mul_comm (N / 2), Nat.div_add_mod]
  have e2 : N % 2 * 2 ^ k + r < 2 ^ (k + 1) := by
    rw [Nat.pow_succ]
    have : N % 2 * 2 ^ k ≤ 1 * 2 ^ k := Nat.mul_le_mul_right _ (by omega)
    omega
  have := (near_sticky hM (p := p + 1) (by unfold lastP; omega) (show 0 < N % 2 * 2 ^ k + r by omega) e2).1
  rw [e1, show p - (k : Int) = p + 1 - ((k + 1 : Nat) : Int) by omega, this]
  exact congrArg _ (by omega)
theorem rgt_small {n d : Nat} (hd : d ≤ 9) : rgt (n * 512) d = n * 2 ^ (9 - d) := by
  have e : n * 512 = n * 2 ^ (9 - d) * 2 ^ d := by
    rw [Nat.mul_assoc, ← Nat.pow_add, show 9 - d + d = 9 by omega]
  unfold rgt
  rw [Nat.min_eq_left (by omega), e, Nat.mul_mod_left, if_pos rfl, Nat.mul_div_cancel _ (Nat.two_pow_pos _)]
theorem rgt_big {n d : Nat} (hd : 10 ≤ d) (hn : n < 9007199254740992) : rgt (n * 512) d = if n % 2 ^ (d - 9) = 0 then n / 2 ^ (d - 9) else 2 * (n / 2 ^ (d - 9) / 2) + 1 := by
  unfold rgt
  by_cases h : d ≤ 63
  · rw [Nat.min_eq_left h]
    have e : 2 ^ d = 2 ^ (d - 9) * 512 := by rw [show (512 : Nat) = 2 ^ 9 from rfl, ← Nat.pow_add]; exact congrArg _ (by omega)
    rw [e, Nat.mul_mod_mul_right, Nat.mul_div_mul_right _ _ (by omega)]
    have : (n % 2 ^ (d - 9) * 512 = 0) ↔ (n % 2 ^ (d - 9) = 0) := by omega
    by_cases hc : n % 2 ^ (d - 9) = 0
    · rw [if_pos (this.2 hc), if_pos hc]
    · rw [if_neg (fun h => hc (this.1 h)), if_neg hc]
  · rw [Nat.min_eq_right (by omega)]
    have h1 : 2 ^ 54 ≤ 2 ^ (d - 9) := Nat.pow_le_pow_right (by omega) (by omega)
    rw [show (2 : Nat) ^ 54 = 18014398509481984 from rfl] at h1
    rw [Nat.mod_eq_of_lt (show n < 2 ^ (d - 9) by omega), Nat.div_eq_of_lt (show n < 2 ^ (d - 9) by omega), show (2 : Nat) ^ 63 = 9223372036854775808 from rfl, Nat.mod_eq_of_lt (by omega), Nat.div_eq_of_lt (by omega)]
    by_cases hc : n = 0
    · subst hc; rfl
    · rw [if_neg (by omega), if_neg hc]
/-- What is far below: a number cut, and what is left of it. -/
theorem far_parts {n k : Nat} (hk : 1 ≤ k) (hn : n < 9007199254740992) : ∃ q r, n = q * 2 ^ k + r ∧ r < 2 ^ k ∧ q < 4503599627370496 ∧ n % 2 ^ k = r ∧ n / 2 ^ k = q := by
  refine ⟨n / 2 ^ k, n % 2 ^ k, by rw [Nat.mul_comm]; exact (Nat.div_add_mod _ _).symm, Nat.mod_lt _ (Nat.two_pow_pos _), ?_, rfl, rfl⟩
  have h1 : n / 2 ^ k ≤ n / 2 := Nat.div_le_div_left (by have := Nat.pow_le_pow_right (show 0 < 2 by omega) hk; omega) (by omega)
  omega
theorem nearR_of {n : Nat} {p q : Int} (h : p = q) : nearR n p = nearR n q := by rw [h]
theorem sum_plus {m n d : Nat} (e : Int) (hm : m < 9007199254740992) (hn : n < 9007199254740992) (h : d ≤ 9 ∨ 4503599627370496 ≤ m) : nearR (m * 512 + rgt (n * 512) d) e = nearR (m * 2 ^ d + n) (e + 9 - d) := by
  by_cases hd : d ≤ 9
  · rw [rgt_small hd]
    have e1 : m * 512 + n * 2 ^ (9 - d) = (m * 2 ^ d + n) * 2 ^ (9 - d) := by
      rw [Nat.add_mul, Nat.mul_assoc, ← Nat.pow_add, show d + (9 - d) = 9 by omega]
    have := (near_scale true (m * 2 ^ d + n) (e + 9 - d) (9 - d)).2.2
    rw [e1, ← this]
    exact nearR_of (by omega)
  · obtain ⟨q, r, h1, h2, h3, h4, h5⟩ := far_parts (n := n) (k := d - 9) (by omega) hn
    rw [rgt_big (by omega) hn, h4, h5]
    have hmp : m * 2 ^ d = m * 512 * 2 ^ (d - 9) := by rw [Nat.mul_assoc, show (512 : Nat) = 2 ^ 9 from rfl, ← Nat.pow_add]; exact congrArg _ (congrArg _ (by omega))
    have hT : m * 2 ^ d + n = (m * 512 + q) * 2 ^ (d - 9) + r := by rw [hmp, h1, Nat.add_mul]; omega
    rw [hT]
    by_cases hr : r = 0
    · rw [if_pos hr, hr, Nat.add_zero]
      have := (near_scale true (m * 512 + q) e (d - 9)).2.2
      rw [← this]
      exact nearR_of (by omega)
    · rw [if_neg hr]
      have := near_half (N := m * 512 + q) (k := d - 9) (r := r) e (by rw [show (2 : Nat) ^ 56 = 72057594037927936 from rfl]; omega) (by omega) h2
      rw [show e + 9 - (d : Int) = e - ((d - 9 : Nat) : Int) by omega, this]
      exact congrArg (nearR · e) (by omega)
theorem sum_minus {m n d : Nat} (e : Int) (hm : m < 9007199254740992) (hn : n < 9007199254740992) (h : d ≤ 9 ∨ 4503599627370496 ≤ m) :
    (rgt (n * 512) d < m * 512 ↔ n < m * 2 ^ d) ∧ (m * 512 < rgt (n * 512) d ↔ m * 2 ^ d < n) ∧
    (n < m * 2 ^ d → nearR (m * 512 - rgt (n * 512) d) e = nearR (m * 2 ^ d - n) (e + 9 - d)) ∧ (m * 2 ^ d < n → nearR (rgt (n * 512) d - m * 512) e = nearR (n - m * 2 ^ d) (e + 9 - d)) := by
  by_cases hd : d ≤ 9
  · rw [rgt_small hd]
    have e0 : m * 512 = m * 2 ^ d * 2 ^ (9 - d) := by rw [Nat.mul_assoc, ← Nat.pow_add, show d + (9 - d) = 9 by omega]
    have hp := Nat.two_pow_pos (9 - d)
    rw [e0, ← Nat.mul_sub_right_distrib, ← Nat.mul_sub_right_distrib]
    refine ⟨Nat.mul_lt_mul_right hp, Nat.mul_lt_mul_right hp, fun _ => ?_, fun _ => ?_⟩
    · rw [← (near_scale true (m * 2 ^ d - n) (e + 9 - d) (9 - d)).2.2]
      exact nearR_of (by omega)
    · rw [← (near_scale true (n - m * 2 ^ d) (e + 9 - d) (9 - d)).2.2]
      exact nearR_of (by omega)
  · obtain ⟨q, r, h1, h2, h3, h4, h5⟩ := far_parts (n := n) (k := d - 9) (by omega) hn
    rw [rgt_big (by omega) hn, h4, h5]
    have hmp : m * 2 ^ d = m * 512 * 2 ^ (d - 9) := by rw [Nat.mul_assoc, show (512 : Nat) = 2 ^ 9 from rfl, ← Nat.pow_add]; exact congrArg _ (congrArg _ (by omega))
    have hbig : n < m * 2 ^ d := by
      rw [hmp]
      have : m * 512 * 1 ≤ m * 512 * 2 ^ (d - 9) := Nat.mul_le_mul_left _ (Nat.two_pow_pos _)
      omega
    have hsm : (if r = 0 then q else 2 * (q / 2) + 1) < m * 512 := by split <;> omega
    refine ⟨⟨fun _ => hbig, fun _ => hsm⟩, ⟨fun h => by omega, fun h => by omega⟩, fun _ => ?_, fun h => by omega⟩
    by_cases hr : r = 0
    · rw [if_pos hr]
      have hT : m * 2 ^ d - n = (m * 512 - q) * 2 ^ (d - 9) := by rw [hmp, h1, hr, Nat.add_zero, ← Nat.mul_sub_right_distrib]
      rw [hT, ← (near_scale true (m * 512 - q) e (d - 9)).2.2]
      exact nearR_of (by omega)
    · rw [if_neg hr]
      have hT : m * 2 ^ d - n = (m * 512 - q - 1) * 2 ^ (d - 9) + (2 ^ (d - 9) - r) := by
        rw [hmp, h1]
        have e3 : m * 512 * 2 ^ (d - 9) = (m * 512 - q - 1) * 2 ^ (d - 9) + (q * 2 ^ (d - 9) + 1 * 2 ^ (d - 9)) := by
          rw [← Nat.add_mul, ← Nat.add_mul]; exact congrArg (· * _) (by omega)
        omega
      have := near_half (N := m * 512 - q - 1) (k := d - 9) (r := 2 ^ (d - 9) - r) e (by rw [show (2 : Nat) ^ 56 = 72057594037927936 from rfl]; omega) (by omega) (by omega)
      rw [hT, show e + 9 - (d : Int) = e - ((d - 9 : Nat) : Int) by omega, this]
      exact congrArg (nearR · e) (by omega)
end Go.Proofs.YthchhkghjfendabGreat.Dx

namespace Go.Proofs.YthchhkghjfendabGreat.Dx
open Go

theorem sg_shift (s : Bool) (m d : Nat) : sg s m * 2 ^ d = sg s (m * 2 ^ d) := by
  unfold sg
  cases s
  · simp
  · simp [Int.neg_mul]
theorem sumV_ge (s t : Bool) (m n : Nat) {i j : Int} (d : Nat) (h : i = j + d) :
    sumV s t m n i j = if s = t then nearV s (m * 2 ^ d + n) j else if n < m * 2 ^ d then nearV s (m * 2 ^ d - n) j else if m * 2 ^ d < n then nearV t (n - m * 2 ^ d) j else 0 := by
  unfold sumV
  have hmin : min i j = j := by omega
  rw [hmin, show (i - j).toNat = d by omega, show (j - j).toNat = 0 by omega, sg_shift, sg_shift, Nat.pow_zero, Nat.mul_one]
  generalize m * 2 ^ d = A
  have hz : ∀ (u : Bool) p, nearV u 0 p = sgn u 0 := nearV_zero
  cases s <;> cases t <;> simp only [sg, if_true, if_false, Bool.false_eq_true, Bool.and_self, Bool.and_false, Bool.and_true, reduceCtorEq, Bool.true_eq_false]
  · rw [show ((A : Int) + n).natAbs = A + n by omega]
    split
    · rfl
    · rw [decide_eq_false (by omega)]
  · by_cases h1 : n < A
    · rw [if_pos h1, if_neg (by omega), decide_eq_false (by omega)]
      exact congrArg (fun x => nearV false x j) (by omega)
    · rw [if_neg h1]
      by_cases h2 : A < n
      · rw [if_pos h2, if_neg (by omega), decide_eq_true (by omega)]
        exact congrArg (fun x => nearV true x j) (by omega)
      · rw [if_neg h2, if_pos (by omega), show ((A : Int) + -(n : Int)).natAbs = 0 by omega, hz]; rfl
  · by_cases h1 : n < A
    · rw [if_pos h1, if_neg (by omega), decide_eq_true (by omega)]
      exact congrArg (fun x => nearV true x j) (by omega)
    · rw [if_neg h1]
      by_cases h2 : A < n
      · rw [if_pos h2, if_neg (by omega), decide_eq_false (by omega)]
        exact congrArg (fun x => nearV false x j) (by omega)
      · rw [if_neg h2, if_pos (by omega), show (-(A : Int) + (n : Int)).natAbs = 0 by omega, hz]; rfl
  · rw [show (-(A : Int) + -(n : Int)).natAbs = A + n by omega]
    split
    · rfl
    · rw [decide_eq_true (by omega)]
theorem special_ok {a b : Nat} (ha : a < 18446744073709551616) (hb : b < 18446744073709551616) (h : ¬ (fPow a ≠ 2047 ∧ fPow b ≠ 2047)) : ∃ f, val 291 [Vu a, Vu b] = some [Vu (addV a b), f] := by
  have k1 := kind_ok a
  have k2 := kind_ok b
  have f1 := finite_ok a
  have f2 := finite_ok b
  unfold addV
  by_cases c1 : nanB a
  · rw [if_pos (.inl c1)]
    rw [(kind_nan a).2 c1] at k1
    refine ⟨Vy 0, val_of tab291 ?_⟩
    simp [tr291, TT.dv, KS.dv, k1, nan0]
  have i1 : ¬ fKind a = 4 := fun h => c1 ((kind_nan a).1 h)
  by_cases c2 : nanB b
  · rw [if_pos (.inr c2)]
    rw [(kind_nan b).2 c2] at k2
    refine ⟨Vy 0, val_of tab291 ?_⟩
    simp [tr291, TT.dv, KS.dv, k1, k2, i1, nan0]
  have i2 : ¬ fKind b = 4 := fun h => c2 ((kind_nan b).1 h)
  rw [if_neg (by simp [c1, c2])]
  by_cases c3 : infB a
  · rw [if_pos c3]
    have e1 : fPow a = 2047 := c3.1
    by_cases c4 : infB b
    · have e2 : fPow b = 2047 := c4.1
      have ea := inf_word ha c3
      have eb := inf_word hb c4
      by_cases c5 : fNeg a = fNeg b
      · rw [if_neg (by simp [c5])]
        have hab : a = b := by rw [ea, eb, c5]
        refine ⟨Vy 0, val_of tab291 ?_⟩
        simp [tr291, TT.dv, KS.dv, k2, i2, f2, e2, hab]
      · rw [if_pos ⟨c4, c5⟩]
        have hab : ¬ a = b := fun h => c5 (by rw [h])
        refine ⟨Vy 16, val_of tab291 ?_⟩
        simp [tr291, TT.dv, KS.dv, k1, k2, i1, i2, f1, f2, e1, e2, hab, nan0]
    · rw [if_neg (by simp [c4])]
      have e2 := fin_of c2 c4
      refine ⟨Vy 0, val_of tab291 ?_⟩
      simp [tr291, TT.dv, KS.dv, k1, k2, i1, i2, f1, f2, e1, e2]
  · rw [if_neg c3]
    have e1 := fin_of c1 c3
    have c4 : infB b := by
      by_cases h4 : infB b
      · exact h4
      · exact absurd ⟨e1, fin_of c2 h4⟩ h
    rw [if_pos c4]
    refine ⟨Vy 0, val_of tab291 ?_⟩
    simp [tr291, TT.dv, KS.dv, k1, k2, i1, i2, f1, f2, e1]
/-- The part of Add behind the turning round. -/
def tail288 : TT Unit := match tr288 with | .call _ _ _ _ (.call _ _ _ _ (.ite _ _ (.call _ _ _ _ (.call _ _ _ _ (.call _ _ _ _ (.call _ _ _ _ (.scope _ (.cons _ t _)))))))) => t | t => t
theorem rgt_le (M d : Nat) : rgt M d ≤ M := by
  unfold rgt
  have := Nat.div_le_self M (2 ^ min d 63)
  split
  · exact this
  · rename_i h5
    have h2 := Nat.div_add_mod M (2 ^ min d 63)
    have h3 : 0 < 2 ^ min d 63 := Nat.two_pow_pos _
    by_cases h4 : 2 ^ min d 63 = 1
    · rw [h4, Nat.mod_one] at h5; exact absurd rfl h5
    · have h6 := Nat.div_le_div_left (show 2 ≤ 2 ^ min d 63 by omega) (by omega) (a := M)
      generalize 2 ^ min d 63 = z at *
      omega
theorem tail_ok {x0 x1 x2 x3 x4 x5 x6 x7 x8 x9 : PV} {s t : Bool} {m n : Nat} {i j : Int} (d : Nat) (h : i = j + d) (hm : m < 9007199254740992) (hn : n < 9007199254740992) (hb : d ≤ 9 ∨ 4503599627370496 ≤ m) (hj : -1074 ≤ j) (hi : i ≤ 972) :
    ∃ f, tail288.dv [x0, x1, x2, x3, x4, x5, x6, x7, x8, x9, Vu m, Vi i, Vu n, Vi j, Vb s, Vb t] = some (.y .ret [Vu (sumV s t m n i j), f]) := by
  rw [sumV_ge s t m n d h]
  have e1 : (B.shl .u64).den (Vu n) (Vu 9) = Vu (n * 512) := by
    rw [shl_uU]; refine congrArg Vu ?_
    show n * 512 % _ = _; omega
  have e2 : (B.shl .u64).den (Vu m) (Vu 9) = Vu (m * 512) := by
    rw [shl_uU]; refine congrArg Vu ?_
    show m * 512 % _ = _; omega
  have e3 : (B.sub .i64).den (Vi i) (Vi j) = Vi d := by rw [sub_i (by omega) (by omega)]; exact congrArg Vi (by omega)
  have e4 : (B.sub .i64).den (Vi i) (Vi 9) = Vi (i - 9) := sub_i (by omega) (by omega)
  have e5 := right_ok (M := n * 512) (d := d) (by omega) (by omega)
  have hr := rgt_le (n * 512) d
  have l1 : -1137 ≤ i - 9 := by omega
  have l2 : i - 9 < 9000000000000 := by omega
  have l3 : i - 9 + 9 - (d : Int) = j := by omega
  have hp := sum_plus (i - 9) hm hn hb
  obtain ⟨q1, q2, q3, q4⟩ := sum_minus (i - 9) hm hn hb
  rw [l3] at hp q3 q4
  generalize rgt (n * 512) d = y at *
  have m64 : m * 512 < 18446744073709551616 := by clear hp q1 q2 q3 q4 e5; omega
  have y64 : y < 18446744073709551616 := by clear hp q1 q2 q3 q4 e5; omega
  have my64 : m * 512 + y < 18446744073709551616 := Nat.lt_of_le_of_lt (Nat.add_le_add (Nat.mul_le_mul_right 512 (Nat.le_of_lt hm)) (Nat.le_trans hr (Nat.mul_le_mul_right 512 (Nat.le_of_lt hn)))) (by decide)
  by_cases hs : s = t
  · rw [if_pos hs]
    subst hs
    have a1 : (m * 512 + y) % 18446744073709551616 = m * 512 + y := Nat.mod_eq_of_lt my64
    obtain ⟨f, hf⟩ := near0 (neg := s) (m := m * 512 + y) (e := i - 9) my64 l1 l2
    have hV : nearV s (m * 512 + y) (i - 9) = nearV s (m * 2 ^ d + n) j := by unfold nearV; rw [hp]
    rw [hV] at hf
    refine ⟨f, ?_⟩
    simp [-shl_u_lit, tail288, tr288, TT.dv, e1, e2, e3, e4, e5, a1, hf]
  · rw [if_neg hs]
    by_cases c1 : n < m * 2 ^ d
    · rw [if_pos c1]
      have c1' := q1.2 c1
      have a1 : (B.sub .u64).den (Vu (m * 512)) (Vu y) = Vu (m * 512 - y) := sub_u (Nat.le_of_lt c1') m64
      obtain ⟨f, hf⟩ := near0 (neg := s) (m := m * 512 - y) (e := i - 9) (Nat.lt_of_le_of_lt (Nat.sub_le _ _) m64) l1 l2
      have hV : nearV s (m * 512 - y) (i - 9) = nearV s (m * 2 ^ d - n) j := by unfold nearV; rw [q3 c1]
      rw [hV] at hf
      refine ⟨f, ?_⟩
      simp [-shl_u_lit, tail288, tr288, TT.dv, e1, e2, e3, e4, e5, hs, c1', a1, hf]
    · rw [if_neg c1]
      have c1' : ¬ y < m * 512 := fun h => c1 (q1.1 h)
      by_cases c2 : m * 2 ^ d < n
      · rw [if_pos c2]
        have c2' := q2.2 c2
        have a1 : (B.sub .u64).den (Vu y) (Vu (m * 512)) = Vu (y - m * 512) := sub_u (Nat.le_of_lt c2') y64
        obtain ⟨f, hf⟩ := near0 (neg := t) (m := y - m * 512) (e := i - 9) (Nat.lt_of_le_of_lt (Nat.sub_le _ _) y64) l1 l2
        have hV : nearV t (y - m * 512) (i - 9) = nearV t (n - m * 2 ^ d) j := by unfold nearV; rw [q4 c2]
        rw [hV] at hf
        refine ⟨f, ?_⟩
        simp [-shl_u_lit, tail288, tr288, TT.dv, e1, e2, e3, e4, e5, hs, c1', c2', a1, hf]
      · rw [if_neg c2]
        have c2' : ¬ m * 512 < y := fun h => c2 (q2.1 h)
        refine ⟨Vy 0, ?_⟩
        simp [-shl_u_lit, tail288, tr288, TT.dv, e1, e2, e3, e4, e5, hs, c1', c2']
theorem sadd_ok {a b : Nat} (ha : a < 18446744073709551616) (hb : b < 18446744073709551616) : ∃ f, val 288 [Vu a, Vu b] = some [Vu (addV a b), f] := by
  have f1 := finite_ok a
  have f2 := finite_ok b
  by_cases hf : fPow a ≠ 2047 ∧ fPow b ≠ 2047
  · obtain ⟨g1, g2⟩ := hf
    have n1 : ¬ nanB a := by unfold nanB; omega
    have n2 : ¬ nanB b := by unfold nanB; omega
    have i1 : ¬ infB a := by unfold infB; omega
    have i2 : ¬ infB b := by unfold infB; omega
    have p1 := parts_ok a
    have p2 := parts_ok b
    have s1 := sign_ok a
    have s2 := sign_ok b
    have hV : addV a b = sumV (fNeg a) (fNeg b) (fMag a) (fMag b) (fPl a) (fPl b) := by unfold addV; rw [if_neg (by simp [n1, n2]), if_neg i1, if_neg i2]
    rw [hV]
    obtain ⟨b1, b2⟩ := fPl_bd a
    obtain ⟨b3, b4⟩ := fPl_bd b
    have big : ∀ c, -1074 < fPl c → 4503599627370496 ≤ fMag c := fun c hc => by
      unfold fPl at hc; unfold fMag
      by_cases h0 : fPow c = 0
      · rw [if_pos h0] at hc; omega
      · rw [if_neg h0]; omega
    by_cases hlt : fPl a < fPl b
    · rw [sumV_comm]
      obtain ⟨f, h⟩ := tail_ok (x0 := Vu a) (x1 := Vu b) (x2 := Vb true) (x3 := Vb true) (x4 := Vu (fMag a)) (x5 := Vi (fPl a)) (x6 := Vu (fMag b)) (x7 := Vi (fPl b)) (x8 := Vb (fNeg a)) (x9 := Vb (fNeg b))
        (s := fNeg b) (t := fNeg a) (m := fMag b) (n := fMag a) (i := fPl b) (j := fPl a) (fPl b - fPl a).toNat (by omega) (fMag_lt b) (fMag_lt a) (.inr (big b (by omega))) b1 b4
      refine ⟨f, val_of tab288 (Eq.trans ?_ h)⟩
      simp only [tail288]
      simp [-shl_u_lit, tr288, TT.dv, KS.dv, f1, f2, g1, g2, p1, p2, s1, s2, hlt]
    · obtain ⟨f, h⟩ := tail_ok (x0 := Vu a) (x1 := Vu b) (x2 := Vb true) (x3 := Vb true) (x4 := Vu (fMag a)) (x5 := Vi (fPl a)) (x6 := Vu (fMag b)) (x7 := Vi (fPl b)) (x8 := Vb (fNeg a)) (x9 := Vb (fNeg b))
        (s := fNeg a) (t := fNeg b) (m := fMag a) (n := fMag b) (i := fPl a) (j := fPl b) (fPl a - fPl b).toNat (by omega) (fMag_lt a) (fMag_lt b) (by
          by_cases h : -1074 < fPl a
          · exact .inr (big a h)
          · left; omega) b3 b2
      refine ⟨f, val_of tab288 (Eq.trans ?_ h)⟩
      simp only [tail288]
      simp [-shl_u_lit, tr288, TT.dv, KS.dv, f1, f2, g1, g2, p1, p2, s1, s2, hlt]
  · obtain ⟨f, h⟩ := special_ok ha hb hf
    refine ⟨f, val_of tab288 ?_⟩
    by_cases g1 : fPow a = 2047
    · simp [tr288, TT.dv, KS.dv, f1, f2, g1, h]
    · have g2 : fPow b = 2047 := by omega
      simp [tr288, TT.dv, KS.dv, f1, f2, g1, g2, h]
end Go.Proofs.YthchhkghjfendabGreat.Dx

namespace Go.Proofs.YthchhkghjfendabGreat.Dx
open Go

theorem minus_neg {b : Nat} (hb : b < 18446744073709551616) : fNeg (fMinus b) = !fNeg b ∧ fPow (fMinus b) = fPow b ∧ fFrac (fMinus b) = fFrac b ∧ fMinus b < 18446744073709551616 := by
  unfold fMinus fNeg fPow fFrac
  by_cases h : b < 9223372036854775808
  · rw [if_pos h]
    refine ⟨?_, by omega, by omega, by omega⟩
    rw [show (b + 9223372036854775808) / 9223372036854775808 = 1 by omega, show b / 9223372036854775808 = 0 by omega]; rfl
  · rw [if_neg h]
    refine ⟨?_, by omega, by omega, by omega⟩
    rw [show (b - 9223372036854775808) / 9223372036854775808 = 0 by omega, show b / 9223372036854775808 = 1 by omega]; rfl
theorem sub_add {a b : Nat} (hb : b < 18446744073709551616) : Ieee.double.sub a b = Ieee.double.add a (fMinus b) := by
  obtain ⟨m1, m2, m3, m4⟩ := minus_neg hb
  unfold Ieee.Format.sub Ieee.Format.add
  rw [read_ok b, read_ok (fMinus b), neg_bit hb, neg_bit m4, m1, m2, m3, show fMag (fMinus b) = fMag b by unfold fMag; rw [m2, m3], show fPl (fMinus b) = fPl b by unfold fPl; rw [m2]]
  by_cases h1 : fPow b = 2047
  · rw [if_pos h1, if_pos h1]
    by_cases h2 : fFrac b = 0
    · rw [if_pos h2, if_pos h2]; rfl
    · rw [if_neg h2, if_neg h2]; cases Ieee.double.read a <;> rfl
  · rw [if_neg h1, if_neg h1]; rfl
def subV (a b : Nat) : Nat := addV a (fMinus b)
theorem subB_ok {a b : Nat} (ha : a < 18446744073709551616) (hb : b < 18446744073709551616) : B.fsub.den (Vf (cnF a)) (Vf (cnF b)) = Vf (subV a b) := by
  have h := addB_ok ha (minus_neg hb).2.2.2
  have e1 : B.fadd.den (Vf (cnF a)) (Vf (cnF (fMinus b))) = fv (Ieee.double.add (cnF a) (cnF (fMinus b))) := rfl
  have e2 : B.fsub.den (Vf (cnF a)) (Vf (cnF b)) = fv (Ieee.double.sub (cnF a) (cnF b)) := rfl
  rw [e1, add_cn] at h
  rw [e2, sub_cn, sub_add hb, h]; rfl
theorem subV_lt {a b : Nat} (ha : a < 18446744073709551616) (hb : b < 18446744073709551616) : subV a b < 18446744073709551616 := addV_lt ha (minus_neg hb).2.2.2
theorem subV_nan (a b : Nat) : cnF (subV a b) = subV a b := addV_nan _ _

theorem F9_ok (b : Nat) : val 154 [Vu b] = some [Vf (cnF b)] := val_of tab154 (by simp [tr154, TT.dv, b2f_ok])
theorem B9_ok {b : Nat} (hb : b < 18446744073709551616) (hc : cnF b = b) : val 150 [Vf b] = some [Vu b] := by
  refine val_of tab150 ?_
  have h := canon_ok hb
  rw [hc] at h
  simp [tr150, TT.dv, f2b_f, h]
section
variable {a b : Nat} (ha : a < 18446744073709551616) (hb : b < 18446744073709551616)
include ha hb
theorem add9_ok : val 148 [Vu a, Vu b] = some [Vu (addV a b)] := by
  refine val_of tab148 ?_
  simp [tr148, TT.dv, F9_ok, addB_ok ha hb, B9_ok (addV_lt ha hb) (addV_nan a b)]
theorem sub9_ok : val 163 [Vu a, Vu b] = some [Vu (subV a b)] := by
  refine val_of tab163 ?_
  simp [tr163, TT.dv, F9_ok, subB_ok ha hb, B9_ok (subV_lt ha hb) (subV_nan a b)]
theorem mul9_ok : val 156 [Vu a, Vu b] = some [Vu (mulV a b)] := by
  refine val_of tab156 ?_
  simp [tr156, TT.dv, F9_ok, mulB_ok ha hb, B9_ok mulV_lt (mulV_nan a b)]
theorem div9_ok : val 152 [Vu a, Vu b] = some [Vu (divV a b)] := by
  refine val_of tab152 ?_
  simp [tr152, TT.dv, F9_ok, divB_ok ha hb, B9_ok divV_lt (divV_nan a b)]
theorem vadd_ok : val 306 [Vu a, Vu b] = some [Vu (addV a b)] := by
  refine val_of tab306 ?_
  obtain ⟨f, h⟩ := sadd_ok ha hb
  simp [tr306, TT.dv, h]
theorem vsub_ok : val 317 [Vu a, Vu b] = some [Vu (subV a b)] := by
  refine val_of tab317 ?_
  obtain ⟨f, h⟩ := sadd_ok ha (minus_neg hb).2.2.2
  have h2 : val 289 [Vu a, Vu b] = some [Vu (subV a b), f] := by
    refine val_of tab289 ?_
    simp [tr289, TT.dv, minus_ok hb, h, subV]
  simp [tr317, TT.dv, h2]
theorem vmul_ok : val 313 [Vu a, Vu b] = some [Vu (mulV a b)] := by
  refine val_of tab313 ?_
  obtain ⟨f, h⟩ := times_ok ha hb
  simp [tr313, TT.dv, h]
theorem vdiv_ok : val 310 [Vu a, Vu b] = some [Vu (divV a b)] := by
  refine val_of tab310 ?_
  obtain ⟨f, h⟩ := div_ok ha hb
  simp [tr310, TT.dv, h]
end
section
variable {b : Nat} (hb : b < 18446744073709551616)
include hb
theorem sqrt9_ok : val 161 [Vu b] = some [Vu (sqrtV b)] := by
  refine val_of tab161 ?_
  have h : val 328 [Vf (cnF b)] = some [Vf (sqrtV b)] := val_of tab328 (by simp [tr328, TT.dv, fsqrt_ok hb])
  simp [tr161, TT.dv, F9_ok, h, B9_ok (sqrtV_lt hb) cnF_sqrt]
theorem vsqrt_ok : val 316 [Vu b] = some [Vu (sqrtV b)] := by
  refine val_of tab316 ?_
  simp [tr316, TT.dv, sqrt_ok hb]
theorem shift9_ok {k : Int} (hk1 : -4611686018427387904 ≤ k) (hk2 : k ≤ 4611686018427387904) : val 160 [Vu b, Vi k] = some [Vu (scaleV b k)] := by
  refine val_of tab160 ?_
  simp [tr160, TT.dv, F9_ok, ldexp_ok hb hk1 hk2, B9_ok (scaleV_lt hb k) (scaleV_nan b k)]
end
theorem vshift_ok (b : Nat) (k : Int) : val 315 [Vu b, Vi k] = some [Vu (scaleV b k)] := by
  refine val_of tab315 ?_
  simp [tr315, TT.dv, scale_ok]
end Go.Proofs.YthchhkghjfendabGreat.Dx

namespace Go.Proofs.YthchhkghjfendabGreat.Dx
open Go

def Words (x : List Nat) : Prop := ∀ a ∈ x, a < 18446744073709551616
def el (x : List Nat) (i : Nat) : Nat := x.getD i 0
def Vl (x : List Nat) : PV := .l (x.map Vu)
@[simp] theorem len_V (x : List Nat) : U.len.den (Vl x) = Vi x.length := by simp [Vl]
theorem get_V {x : List Nat} {i : Nat} (h : i < x.length) : B.get.den (Vl x) (Vi i) = Vu (el x i) := by
  rw [Vl, get_l _ rfl]
  simp [el, List.getD_eq_getElem?_getD, h]
@[simp] theorem nil_V : PV.l [] = Vl [] := rfl
@[simp] theorem wl_nil_V : wl [] = Vl [] := rfl
theorem app_V (x : List Nat) (a : Nat) : B.app.den (Vl x) (B.cons.den (Vu a) (Vl [])) = Vl (x ++ [a]) := by
  rw [Vl, Vl, List.map_nil, cons_l, app_l]; simp [Vl]
theorem Words.el {x : List Nat} (h : Words x) (i : Nat) : el x i < 18446744073709551616 := by
  rw [Dx.el, List.getD_eq_getElem?_getD]
  cases hx : x[i]? with
  | none => simp
  | some a => exact h a (List.mem_of_getElem? hx)

theorem pv_u64 {p : PV} (h : PvT (.int .u64) p) : ∃ n : Nat, p = Vu n ∧ n < 18446744073709551616 := by
  obtain ⟨a, rfl, hw⟩ := h
  obtain ⟨n, rfl, hn⟩ := wf_u64 hw
  exact ⟨n, rfl, hn⟩
theorem pv_i64 {p : PV} (h : PvT (.int .i64) p) : ∃ x : Int, p = Vi x ∧ -9223372036854775808 ≤ x ∧ x < 9223372036854775808 := by
  obtain ⟨a, rfl, hw⟩ := h
  exact ⟨a, rfl, wf_i64 hw⟩
theorem pv_bool {p : PV} (h : PvT .bool p) : ∃ b : Bool, p = Vb b := h
theorem pv_lu {p : PV} (h : PvT (.sl .u64) p) : ∃ x : List Nat, p = Vl x ∧ Words x ∧ x.length ≤ 17592186043904 := by
  obtain ⟨zs, rfl, hw, hl⟩ := h
  refine ⟨zs.map Int.toNat, ?_, ?_, ?_⟩
  · unfold Vl
    rw [List.map_map]
    refine congrArg PV.l (List.map_congr_left fun z hz => ?_)
    obtain ⟨n, rfl, _⟩ := wf_u64 (hw z hz)
    rfl
  · intro a ha
    obtain ⟨z, hz, rfl⟩ := List.mem_map.1 ha
    obtain ⟨n, rfl, hn⟩ := wf_u64 (hw z hz)
    simpa using hn
  · rw [List.length_map]
    have h1 : zs.length * 8 ≤ reachBytes := hl
    have h2 : reachBytes = 140737488351232 := rfl
    rw [h2] at h1
    omega
def dotR (x y : List Nat) : Nat → Nat → Nat → Nat
  | 0, _, s => s
  | n + 1, i, s => dotR x y n (i + 1) (addV s (mulV (el x i) (el y i)))
theorem dotR_lt {x y : List Nat} : ∀ (n : Nat) {i s : Nat}, s < 18446744073709551616 → dotR x y n i s < 18446744073709551616
  | 0, _, _, h => h
  | n + 1, i, s, h => dotR_lt n (addV_lt h mulV_lt)
section
variable {x y : List Nat} (hx : Words x) (hy : Words y) (hl : x.length = y.length) (h64 : x.length < 9000000000000000000)
include hx hy hl h64
theorem dot_loop {x2 : PV} : ∀ (n : Nat) {i s : Nat}, i + n = x.length → s < 18446744073709551616 →
    rounds (fun vs => lo311_1.dv (Vl x :: Vl y :: x2 :: vs)) [Vu s, Vi i] = some (.y (.ext 0) [Vu (dotR x y n i s)]) := by
  intro n
  induction n with
  | zero =>
    intro i s hi hs
    refine rounds_exit ?_ (by simp)
    simp [lo311_1, TT.dv, show ¬ i < x.length by omega, dotR]
  | succ n ih =>
    intro i s hi hs
    refine Eq.trans (rounds_cont ?_) (ih (i := i + 1) (s := addV s (mulV (el x i) (el y i))) (by omega) (addV_lt hs mulV_lt))
    have e1 : (B.add .i64).den (Vi i) (Vi 1) = Vi (i + 1) := add_i (by omega) (by omega)
    have g1 := get_V (x := x) (i := i) (by omega)
    have g2 := get_V (x := y) (i := i) (by omega)
    have c1 := vmul_ok (hx.el i) (hy.el i)
    have c2 := vadd_ok hs (mulV_lt (a := el x i) (b := el y i))
    simp [lo311_1, TT.dv, show i < x.length by omega, show i < y.length by omega, e1, g1, g2, c1, c2]
theorem dot9_loop : ∀ (n : Nat) {i s : Nat}, i + n = x.length → s < 18446744073709551616 →
    rounds (fun vs => lo153_1.dv (Vl x :: Vl y :: vs)) [Vu s, Vi i] = some (.y (.ext 0) [Vu (dotR x y n i s)]) := by
  intro n
  induction n with
  | zero =>
    intro i s hi hs
    refine rounds_exit ?_ (by simp)
    simp [lo153_1, TT.dv, show ¬ i < x.length by omega, dotR]
  | succ n ih =>
    intro i s hi hs
    refine Eq.trans (rounds_cont ?_) (ih (i := i + 1) (s := addV s (mulV (el x i) (el y i))) (by omega) (addV_lt hs mulV_lt))
    have e1 : (B.add .i64).den (Vi i) (Vi 1) = Vi (i + 1) := add_i (by omega) (by omega)
    have g1 := get_V (x := x) (i := i) (by omega)
    have g2 := get_V (x := y) (i := i) (by omega)
    have c1 := mul9_ok (hx.el i) (hy.el i)
    have c2 := add9_ok hs (mulV_lt (a := el x i) (b := el y i))
    simp [lo153_1, TT.dv, show i < x.length by omega, show i < y.length by omega, e1, g1, g2, c1, c2]
end
theorem fit_ok (x y : List Nat) : val 321 [Vl x, Vl y] = some [Vb (decide (x.length = y.length ∧ x.length ≤ 64))] := by
  refine val_of tab321 ?_
  have e1 : decide ((x.length : Int) = y.length) = decide (x.length = y.length) := decide_eq_decide.2 (by omega)
  have e2 : decide ((x.length : Int) ≤ 64) = decide (x.length ≤ 64) := decide_eq_decide.2 (by omega)
  simp [tr321, TT.dv, e1, e2]
def dotV (x y : List Nat) : Nat := dotR x y x.length 0 0
theorem dot_ok {x y : List Nat} (hx : Words x) (hy : Words y) : val 311 [Vl x, Vl y] = some (if x.length = y.length ∧ x.length ≤ 64 then [Vu (dotV x y), Vi 0] else [Vu 0, Vi 3]) := by
  refine val_of tab311 ?_
  have h1 := fit_ok x y
  by_cases h : x.length = y.length ∧ x.length ≤ 64
  · rw [if_pos h]
    rw [decide_eq_true h] at h1
    have hlp := dot_loop (x2 := Vb true) hx hy h.1 (by omega) x.length (i := 0) (s := 0) (by omega) (by omega)
    rw [show ((0 : Nat) : Int) = 0 from rfl] at hlp
    simp [tr311, TT.dv, KS.dv, h1, hlp, dotV]
  · rw [if_neg h]
    rw [decide_eq_false h] at h1
    simp [tr311, TT.dv, h1]
end Go.Proofs.YthchhkghjfendabGreat.Dx

namespace Go.Proofs.YthchhkghjfendabGreat.Dx
open Go

theorem max_u (a b : Nat) : (B.max .u64).den (Vu a) (Vu b) = Vu (max a b) := by
  simp only [B.den, Vu, PV.int, PV.v.injEq, Value.int.injEq, true_and]; by_cases h : (a : Int) < b <;> simp only [h, if_true, if_false] <;> omega
def absV (b : Nat) : Nat := b % 9223372036854775808
theorem absV_lt (b : Nat) : absV b < 9223372036854775808 := by unfold absV; omega
theorem nanB_absV (b : Nat) : nanB (absV b) ↔ nanB b := nanB_abs b
def bigR (x : List Nat) : Nat → Nat → Nat → Nat
  | 0, _, m => m
  | n + 1, i, m => if nanB (el x i) then nan0 else bigR x n (i + 1) (max m (absV (el x i)))
theorem maxB_nan (a : Nat) : maxB nan0 a = nan0 := by unfold maxB ordOk; simp [nanB_nan0]
theorem maxB_nan2 {m a : Nat} (h : nanB a) : maxB m (absV a) = nan0 := by unfold maxB ordOk; simp [(nanB_absV a).2 h]
theorem rk_pos {m : Nat} (h : m < 9223372036854775808) : rk m = m := by
  unfold rk fNeg sg
  rw [if_neg (by simp; omega), Nat.mod_eq_of_lt h]
theorem maxB_abs {m a : Nat} (hm : m < 9223372036854775808) (hn : ¬ nanB m) (h : ¬ nanB a) : maxB m (absV a) = max m (absV a) := by
  have ho : ordOk m (absV a) = true := by unfold ordOk; simp [hn]; exact fun hh => h ((nanB_absV a).1 hh)
  unfold maxB
  rw [if_pos ho]
  have : ordI m (absV a) < 0 ↔ m < absV a := by
    rw [ordI_lt, rk_pos hm, rk_pos (absV_lt a)]
    constructor
    · intro h; omega
    · intro h; exact ⟨ho, by omega⟩
  by_cases hc : m < absV a
  · rw [if_pos (this.2 hc)]; omega
  · rw [if_neg (fun h => hc (this.1 h))]; omega
theorem nanB_max {m a : Nat} (hn : ¬ nanB m) (h : ¬ nanB a) : ¬ nanB (max m a) := by
  rcases (show max m a = m ∨ max m a = a by omega) with h1 | h1 <;> rw [h1] <;> assumption
section
variable {x : List Nat} (hx : Words x) (h64 : x.length < 9000000000000000000)
include hx h64
/-- The loop over the greatest: at a NaN it leaves. -/
theorem big_loop {x1 : PV} : ∀ (n : Nat) {i m : Nat}, i + n = x.length → m < 9223372036854775808 → ¬ nanB m →
    (∃ r, rounds (fun vs => lo309_1.dv (Vl x :: vs)) [x1, Vu m, Vi i] = some (.y .ret [r]) ∧ bigR x n i m = nan0) ∨
    (rounds (fun vs => lo309_1.dv (Vl x :: vs)) [x1, Vu m, Vi i] = some (.y (.ext 0) [x1, Vu (bigR x n i m)])) := by
  intro n
  induction n with
  | zero =>
    intro i m hi hm hn
    refine .inr (rounds_exit ?_ (by simp))
    simp [lo309_1, TT.dv, show ¬ i < x.length by omega, bigR]
  | succ n ih =>
    intro i m hi hm hn
    have g1 := get_V (x := x) (i := i) (by omega)
    have k1 := kind_ok (el x i)
    unfold bigR
    by_cases c : nanB (el x i)
    · rw [if_pos c]
      rw [(kind_nan _).2 c] at k1
      refine .inl ⟨Vu m, rounds_exit ?_ (by simp), rfl⟩
      simp [lo309_1, TT.dv, show i < x.length by omega, g1, k1]
    · rw [if_neg c]
      have c' : ¬ fKind (el x i) = 4 := fun h => c ((kind_nan _).1 h)
      have e1 : (B.add .i64).den (Vi i) (Vi 1) = Vi (i + 1) := add_i (by omega) (by omega)
      have a1 := abs_ok (el x i)
      have hr : rounds (fun vs => lo309_1.dv (Vl x :: vs)) [x1, Vu m, Vi i] = rounds (fun vs => lo309_1.dv (Vl x :: vs)) [x1, Vu (max m (absV (el x i))), Vi ((i + 1 : Nat) : Int)] := by
        refine rounds_cont ?_
        simp [lo309_1, TT.dv, show i < x.length by omega, g1, k1, c', a1, e1, max_u, absV]
      have := absV_lt (el x i)
      rw [hr]
      exact ih (i := i + 1) (by omega) (by omega) (nanB_max hn (fun h => c ((nanB_absV _).1 h)))
theorem big9_nan : ∀ (n : Nat) {i : Nat}, i + n = x.length →
    rounds (fun vs => lo151_1.dv (Vl x :: vs)) [Vu nan0, Vi i] = some (.y (.ext 0) [Vu nan0]) := by
  intro n
  induction n with
  | zero =>
    intro i hi
    refine rounds_exit ?_ (by simp)
    simp [lo151_1, TT.dv, show ¬ i < x.length by omega]
  | succ n ih =>
    intro i hi
    refine Eq.trans (rounds_cont ?_) (ih (i := i + 1) (by omega))
    have g1 := get_V (x := x) (i := i) (by omega)
    have e1 : (B.add .i64).den (Vi i) (Vi 1) = Vi (i + 1) := add_i (by omega) (by omega)
    have a1 := abs8_ok (hx.el i)
    have m1 := max8_ok (a := nan0) (b := el x i % 9223372036854775808) (by decide) (by omega)
    rw [maxB_nan] at m1
    simp [lo151_1, TT.dv, show i < x.length by omega, g1, a1, m1, e1]
theorem big9_loop : ∀ (n : Nat) {i m : Nat}, i + n = x.length → m < 9223372036854775808 → ¬ nanB m →
    rounds (fun vs => lo151_1.dv (Vl x :: vs)) [Vu m, Vi i] = some (.y (.ext 0) [Vu (bigR x n i m)]) := by
  intro n
  induction n with
  | zero =>
    intro i m hi hm hn
    refine rounds_exit ?_ (by simp)
    simp [lo151_1, TT.dv, show ¬ i < x.length by omega, bigR]
  | succ n ih =>
    intro i m hi hm hn
    have g1 := get_V (x := x) (i := i) (by omega)
    have e1 : (B.add .i64).den (Vi i) (Vi 1) = Vi (i + 1) := add_i (by omega) (by omega)
    have a1 := abs8_ok (hx.el i)
    have m1 := max8_ok (a := m) (b := el x i % 9223372036854775808) (by omega) (by omega)
    have hr : rounds (fun vs => lo151_1.dv (Vl x :: vs)) [Vu m, Vi i] = rounds (fun vs => lo151_1.dv (Vl x :: vs)) [Vu (maxB m (absV (el x i))), Vi ((i + 1 : Nat) : Int)] := by
      refine rounds_cont ?_
      simp [lo151_1, TT.dv, show i < x.length by omega, g1, a1, m1, e1, absV]
    rw [hr]
    unfold bigR
    by_cases c : nanB (el x i)
    · rw [if_pos c, maxB_nan2 c]
      exact big9_nan hx h64 n (by omega)
    · rw [if_neg c, maxB_abs hm hn c]
      have := absV_lt (el x i)
      exact ih (i := i + 1) (by omega) (by omega) (nanB_max hn (fun h => c ((nanB_absV _).1 h)))
end
theorem bigR_lt {x : List Nat} : ∀ (n : Nat) {i m : Nat}, m < 9223372036854775808 → bigR x n i m < 9223372036854775808
  | 0, _, _, h => h
  | n + 1, i, m, h => by
    unfold bigR
    split
    · decide
    · exact bigR_lt n (by have := absV_lt (el x i); omega)
def bigV (x : List Nat) : Nat := bigR x x.length 0 0
theorem bigV_lt (x : List Nat) : bigV x < 9223372036854775808 := bigR_lt _ (by decide)
section
variable {x : List Nat} (hx : Words x) (h64 : x.length < 9000000000000000000)
include hx h64
theorem biggest_ok : val 309 [Vl x] = some [Vu (bigV x)] := by
  refine val_of tab309 ?_
  have h := big_loop hx h64 (x1 := Vu 0) x.length (i := 0) (m := 0) (by omega) (by decide) (by decide)
  rw [show ((0 : Nat) : Int) = 0 from rfl] at h
  unfold bigV
  rcases h with ⟨r, h1, h2⟩ | h1
  · rw [h2]; simp [tr309, TT.dv, KS.dv, h1, nan0]
  · simp [tr309, TT.dv, KS.dv, h1]
theorem biggest9_ok : val 151 [Vl x] = some [Vu (bigV x)] := by
  refine val_of tab151 ?_
  have h := big9_loop hx h64 x.length (i := 0) (m := 0) (by omega) (by decide) (by decide)
  rw [show ((0 : Nat) : Int) = 0 from rfl] at h
  unfold bigV
  simp [tr151, TT.dv, KS.dv, h]
end

def finR (x : List Nat) : Nat → Nat → Bool
  | 0, _ => true
  | n + 1, i => if fPow (el x i) = 2047 then false else finR x n (i + 1)
def finV (x : List Nat) : Bool := finR x x.length 0
section
variable {x : List Nat} (hx : Words x) (h64 : x.length < 9000000000000000000)
include hx h64
theorem fin_loop {x1 : PV} : ∀ (n : Nat) {i : Nat}, i + n = x.length →
    rounds (fun vs => lo312_1.dv (Vl x :: vs)) [x1, Vi i] = some (if finR x n i then .y (.ext 0) [x1] else .y .ret []) := by
  intro n
  induction n with
  | zero =>
    intro i hi
    refine rounds_exit ?_ (by simp [finR])
    simp [lo312_1, TT.dv, show ¬ i < x.length by omega, finR]
  | succ n ih =>
    intro i hi
    have g1 := get_V (x := x) (i := i) (by omega)
    have f1 := finite_ok (el x i)
    unfold finR
    by_cases c : fPow (el x i) = 2047
    · rw [if_pos c]
      refine rounds_exit ?_ (by simp)
      simp [lo312_1, TT.dv, show i < x.length by omega, g1, f1, c]
    · rw [if_neg c]
      have e1 : (B.add .i64).den (Vi i) (Vi 1) = Vi (i + 1) := add_i (by omega) (by omega)
      refine Eq.trans (rounds_cont ?_) (ih (i := i + 1) (by omega))
      simp [lo312_1, TT.dv, show i < x.length by omega, g1, f1, c, e1]
theorem fin9_loop {x1 : PV} : ∀ (n : Nat) {i : Nat}, i + n = x.length →
    rounds (fun vs => lo155_1.dv (Vl x :: vs)) [x1, Vi i] = some (if finR x n i then .y (.ext 0) [x1] else .y .ret []) := by
  intro n
  induction n with
  | zero =>
    intro i hi
    refine rounds_exit ?_ (by simp [finR])
    simp [lo155_1, TT.dv, show ¬ i < x.length by omega, finR]
  | succ n ih =>
    intro i hi
    have g1 := get_V (x := x) (i := i) (by omega)
    have f1 := finite4_ok (hx.el i)
    have hp := fPow_lt (el x i)
    unfold finR
    by_cases c : fPow (el x i) = 2047
    · rw [if_pos c]
      refine rounds_exit ?_ (by simp)
      simp [lo155_1, TT.dv, show i < x.length by omega, g1, f1, c]
    · rw [if_neg c]
      have e1 : (B.add .i64).den (Vi i) (Vi 1) = Vi (i + 1) := add_i (by omega) (by omega)
      refine Eq.trans (rounds_cont ?_) (ih (i := i + 1) (by omega))
      simp [lo155_1, TT.dv, show i < x.length by omega, g1, f1, show fPow (el x i) < 2047 by omega, e1]
theorem finite_v_ok : val 312 [Vl x] = some [Vb (finV x)] := by
  refine val_of tab312 ?_
  have h := fin_loop hx h64 (x1 := Vb false) x.length (i := 0) (by omega)
  rw [show ((0 : Nat) : Int) = 0 from rfl] at h
  unfold finV
  cases hc : finR x x.length 0 <;> rw [hc] at h <;> simp [tr312, TT.dv, KS.dv, h]
theorem finite_9_ok : val 155 [Vl x] = some [Vb (finV x)] := by
  refine val_of tab155 ?_
  have h := fin9_loop hx h64 (x1 := Vb false) x.length (i := 0) (by omega)
  rw [show ((0 : Nat) : Int) = 0 from rfl] at h
  unfold finV
  cases hc : finR x x.length 0 <;> rw [hc] at h <;> simp [tr155, TT.dv, KS.dv, h]
end

def sqrR (x : List Nat) (k : Int) : Nat → Nat → Nat → Nat
  | 0, _, s => s
  | n + 1, i, s => sqrR x k n (i + 1) (addV s (mulV (scaleV (el x i) (-k)) (scaleV (el x i) (-k))))
theorem sqrR_lt {x : List Nat} {k : Int} : ∀ (n : Nat) {i s : Nat}, s < 18446744073709551616 → sqrR x k n i s < 18446744073709551616
  | 0, _, _, h => h
  | n + 1, i, s, h => sqrR_lt n (addV_lt h mulV_lt)
def sqrV (x : List Nat) (k : Int) : Nat := sqrR x k x.length 0 0
def normV (x : List Nat) : Nat := if bigV x = 0 ∨ fPow (bigV x) = 2047 then bigV x else scaleV (sqrtV (sqrV x (expB (bigV x)))) (expB (bigV x))
theorem expB_bd (b : Nat) : -1100 ≤ expB b ∧ expB b ≤ 1100 := by
  unfold expB
  split
  · omega
  · rename_i h
    have h1 := fPl_bd b
    have h2 : bl (fMag b) ≤ 53 := bl_lt.2 (fMag_lt b)
    have h3 : fPow b ≠ 2047 := by omega
    unfold fPl at *
    have h4 := fPow_lt b
    split <;> rename_i h5 <;> simp only [h5, if_true, if_false] at h1 <;> omega
section
variable {x : List Nat} (hx : Words x) (h64 : x.length < 9000000000000000000) {k : Int} (hk : -1100 ≤ k ∧ k ≤ 1100)
include hx h64 hk
theorem norm_loop {x1 x2 : PV} : ∀ (n : Nat) {i s : Nat}, i + n = x.length → s < 18446744073709551616 →
    rounds (fun vs => lo314_1.dv (Vl x :: x1 :: x2 :: Vi k :: vs)) [Vu s, Vi i] = some (.y (.ext 0) [Vu (sqrR x k n i s)]) := by
  intro n
  induction n with
  | zero =>
    intro i s hi hs
    refine rounds_exit ?_ (by simp)
    simp [lo314_1, TT.dv, show ¬ i < x.length by omega, sqrR]
  | succ n ih =>
    intro i s hi hs
    refine Eq.trans (rounds_cont ?_) (ih (i := i + 1) (s := addV s (mulV (scaleV (el x i) (-k)) (scaleV (el x i) (-k)))) (by omega) (addV_lt hs mulV_lt))
    have e1 : (B.add .i64).den (Vi i) (Vi 1) = Vi (i + 1) := add_i (by omega) (by omega)
    have e2 : (U.neg .i64).den (Vi k) = Vi (-k) := neg_i (by omega) (by omega)
    have g1 := get_V (x := x) (i := i) (by omega)
    have c0 := vshift_ok (el x i) (-k)
    have ht := scaleV_lt (hx.el i) (-k)
    have c1 := vmul_ok ht ht
    have c2 := vadd_ok hs (mulV_lt (a := scaleV (el x i) (-k)) (b := scaleV (el x i) (-k)))
    simp [lo314_1, TT.dv, show i < x.length by omega, e1, e2, g1, c0, c1, c2]
theorem norm9_loop {x1 x2 : PV} : ∀ (n : Nat) {i s : Nat}, i + n = x.length → s < 18446744073709551616 →
    rounds (fun vs => lo158_1.dv (Vl x :: x1 :: x2 :: Vi k :: vs)) [Vu s, Vi i] = some (.y (.ext 0) [Vu (sqrR x k n i s)]) := by
  intro n
  induction n with
  | zero =>
    intro i s hi hs
    refine rounds_exit ?_ (by simp)
    simp [lo158_1, TT.dv, show ¬ i < x.length by omega, sqrR]
  | succ n ih =>
    intro i s hi hs
    refine Eq.trans (rounds_cont ?_) (ih (i := i + 1) (s := addV s (mulV (scaleV (el x i) (-k)) (scaleV (el x i) (-k)))) (by omega) (addV_lt hs mulV_lt))
    have e1 : (B.add .i64).den (Vi i) (Vi 1) = Vi (i + 1) := add_i (by omega) (by omega)
    have e2 : (B.sub .i64).den (Vi 0) (Vi k) = Vi (-k) := by rw [sub_i (by omega) (by omega)]; exact congrArg Vi (by omega)
    have g1 := get_V (x := x) (i := i) (by omega)
    have c0 := shift9_ok (hx.el i) (k := -k) (by omega) (by omega)
    have ht := scaleV_lt (hx.el i) (-k)
    have c1 := mul9_ok ht ht
    have c2 := add9_ok hs (mulV_lt (a := scaleV (el x i) (-k)) (b := scaleV (el x i) (-k)))
    simp [lo158_1, TT.dv, show i < x.length by omega, e1, e2, g1, c0, c1, c2]
end
theorem norm_v_ok {x : List Nat} (hx : Words x) (h64 : x.length < 9000000000000000000) : val 314 [Vl x] = some (if x.length ≤ 64 then [Vu (normV x), Vi 0] else [Vu 0, Vi 3]) := by
  refine val_of tab314 ?_
  by_cases hl : x.length ≤ 64
  · rw [if_pos hl]
    have hl' : ¬ 64 < (x.length : Int) := by omega
    have h1 := biggest_ok hx h64
    have f1 := finite_ok (bigV x)
    unfold normV
    by_cases c : bigV x = 0
    · rw [if_pos (.inl c)]
      rw [c] at h1 ⊢
      simp [tr314, TT.dv, hl', h1]
    · by_cases c2 : fPow (bigV x) = 2047
      · rw [if_pos (.inr c2)]
        simp [tr314, TT.dv, hl', h1, c, f1, c2]
      · rw [if_neg (by omega)]
        have e1 := exp_ok (b := bigV x)
        have hk := expB_bd (bigV x)
        have hlp := norm_loop hx h64 hk (x1 := Vu (bigV x)) (x2 := Vb true) x.length (i := 0) (s := 0) (by omega) (by decide)
        rw [show ((0 : Nat) : Int) = 0 from rfl] at hlp
        have s1 := vsqrt_ok (b := sqrV x (expB (bigV x))) (sqrR_lt _ (by decide))
        have s2 := vshift_ok (sqrtV (sqrV x (expB (bigV x)))) (expB (bigV x))
        rw [show sqrR x (expB (bigV x)) x.length 0 0 = sqrV x (expB (bigV x)) from rfl] at hlp
        simp [tr314, TT.dv, KS.dv, hl', h1, c, f1, c2, e1, hlp, s1, s2]
  · rw [if_neg hl]
    have hl' : 64 < (x.length : Int) := by omega
    simp [tr314, TT.dv, hl']
theorem norm_9_ok {x : List Nat} (hx : Words x) (h64 : x.length < 9000000000000000000) : val 158 [Vl x] = some [Vu (normV x)] := by
  refine val_of tab158 ?_
  have h1 := biggest9_ok hx h64
  have hb := bigV_lt x
  have f1 := finite4_ok (b := bigV x) (by omega)
  have hp := fPow_lt (bigV x)
  unfold normV
  by_cases c : bigV x = 0
  · rw [if_pos (.inl c)]
    rw [c] at h1 ⊢
    simp [tr158, TT.dv, h1]
  · by_cases c2 : fPow (bigV x) = 2047
    · rw [if_pos (.inr c2)]
      simp [tr158, TT.dv, h1, c, f1, c2]
    · rw [if_neg (by omega)]
      have e1 := exp8_ok (b := bigV x) (by omega)
      have hk := expB_bd (bigV x)
      have hlp := norm9_loop hx h64 hk (x1 := Vu (bigV x)) (x2 := Vb true) x.length (i := 0) (s := 0) (by omega) (by decide)
      rw [show ((0 : Nat) : Int) = 0 from rfl] at hlp
      have s1 := sqrt9_ok (b := sqrV x (expB (bigV x))) (sqrR_lt _ (by decide))
      have s2 := shift9_ok (b := sqrtV (sqrV x (expB (bigV x)))) (sqrtV_lt (sqrR_lt _ (by decide))) (k := expB (bigV x)) (by omega) (by omega)
      rw [show sqrR x (expB (bigV x)) x.length 0 0 = sqrV x (expB (bigV x)) from rfl] at hlp
      simp [tr158, TT.dv, KS.dv, h1, c, f1, show fPow (bigV x) < 2047 by omega, e1, hlp, s1, s2]
end Go.Proofs.YthchhkghjfendabGreat.Dx

namespace Go.Proofs.YthchhkghjfendabGreat.Dx
open Go

def fnP (f : Nat) (caps : List PV) : PV := .fn f caps
theorem set_V (x : List Nat) (i v : Nat) : T3.set.den (Vl x) (Vi i) (Vu v) = Vl (x.set i v) := by
  rw [Vl, set_l _ rfl, Vl, List.map_set]
theorem cpl_u {a : Nat} (h : a < 18446744073709551616) : (U.cpl .u64).den (Vu a) = Vu (18446744073709551615 ^^^ a) ∧ 18446744073709551615 ^^^ a < 18446744073709551616 :=
  ⟨(show (U.cpl .u64).den (Vu a) = (B.xor .u64).den (Vu 18446744073709551615) (Vu a) from rfl).trans (xor_u (by omega) h), Nat.xor_lt_two_pow (n := 64) (by omega) h⟩
theorem Words.set {x : List Nat} (h : Words x) {i v : Nat} (hv : v < 18446744073709551616) : Words (x.set i v) := by
  intro a ha
  rcases List.mem_or_eq_of_mem_set ha with h1 | h1
  · exact h a h1
  · rw [h1]; exact hv
/-- What a function makes of each place. -/
def mk (g : Nat → Nat) (n : Nat) : List Nat := (List.range n).map g
@[simp] theorem mk_len (g : Nat → Nat) (n : Nat) : (mk g n).length = n := by simp [mk]
theorem mk_succ (g : Nat → Nat) (n : Nat) : mk g n ++ [g n] = mk g (n + 1) := by simp [mk, List.range_succ]
theorem mk_words {g : Nat → Nat} {n : Nat} (h : ∀ i, i < n → g i < 18446744073709551616) : Words (mk g n) := by
  intro a ha
  obtain ⟨i, hi, rfl⟩ := List.mem_map.1 ha
  exact h i (by simpa using hi)
/-- Boxes and functions that catch them. -/
@[simp] theorem toA_V (l : List PV) : U.toA.den (.l l) = .a l := rfl
@[simp] theorem fld0_a (p : PV) (l : List PV) : (U.fld 0).den (.a (p :: l)) = p := rfl
theorem mkfn_l (f : Nat) (l : List PV) : (U.mkfn f).den (.l l) = fnP f l := rfl
section
variable {a : Nat} {x y : List Nat} (ha : a < 18446744073709551616) (hx : Words x) (hy : Words y) (hl : x.length = y.length) (h64 : x.length < 17592186044416)
include ha hx hy hl h64
end
section
variable {a : Nat} {x : List Nat} (ha : a < 18446744073709551616) (hx : Words x) (h64 : x.length < 17592186044416)
include ha hx h64
end
theorem same_loop {x : List Nat} {x2 : PV} (h64 : x.length < 9000000000000000000) : ∀ (n : Nat) {i : Nat}, i + n = x.length →
    rounds (fun vs => lo159_1.dv (Vl x :: Vl x :: vs)) [x2, Vi i] = some (.y (.ext 0) [x2]) := by
  intro n
  induction n with
  | zero =>
    intro i hi
    refine rounds_exit ?_ (by simp)
    simp [lo159_1, TT.dv, show ¬ i < x.length by omega]
  | succ n ih =>
    intro i hi
    refine Eq.trans (rounds_cont ?_) (ih (i := i + 1) (by omega))
    have e1 : (B.add .i64).den (Vi i) (Vi 1) = Vi (i + 1) := add_i (by omega) (by omega)
    have g1 := get_V (x := x) (i := i) (by omega)
    simp [lo159_1, TT.dv, show i < x.length by omega, e1, g1]
theorem same_self {x : List Nat} (h64 : x.length < 9000000000000000000) : val 159 [Vl x, Vl x] = some [Vb true] := by
  refine val_of tab159 ?_
  have hlp := same_loop (x2 := Vb false) h64 x.length (i := 0) (by omega)
  rw [show ((0 : Nat) : Int) = 0 from rfl] at hlp
  simp [tr159, TT.dv, KS.dv, hlp]
end Go.Proofs.YthchhkghjfendabGreat.Dx

namespace Go.Proofs.YthchhkghjfendabGreat.Dx
open Go

section
variable {f g : Nat} (hf : f < 18446744073709551616) (hg : g < 18446744073709551616)
include hf hg
end
end Go.Proofs.YthchhkghjfendabGreat.Dx

namespace Go.Proofs.YthchhkghjfendabGreat.Dx
open Go

/-- The place of row i, column k. -/
def ps (i c k : Nat) : Nat := i * c + k
theorem ps_lt {i c k r : Nat} (hi : i < r) (hk : k < c) : ps i c k < r * c := by
  unfold ps
  have h1 : (i + 1) * c ≤ r * c := Nat.mul_le_mul_right c hi
  rw [Nat.add_mul, Nat.one_mul] at h1
  omega
theorem ps_inj {i c k i' k' : Nat} (hk : k < c) (hk' : k' < c) (h : ps i c k = ps i' c k') : i = i' ∧ k = k' := by
  unfold ps at h
  have h1 : (i * c + k) / c = i := by rw [Nat.mul_comm, Nat.mul_add_div (by omega), Nat.div_eq_of_lt hk, Nat.add_zero]
  have h2 : (i' * c + k') / c = i' := by rw [Nat.mul_comm, Nat.mul_add_div (by omega), Nat.div_eq_of_lt hk', Nat.add_zero]
  have h3 : i = i' := by rw [← h1, ← h2, h]
  subst h3
  exact ⟨rfl, by omega⟩
theorem pos_i {i c k : Nat} (hi : i < 100) (hc : c ≤ 100) (hk : k ≤ 100) : (B.add .i64).den ((B.mul .i64).den (Vi i) (Vi c)) (Vi k) = Vi (ps i c k) := by
  have h1 : i * c ≤ 100 * 100 := Nat.mul_le_mul (by omega) hc
  have h2 : (i : Int) * c = ((i * c : Nat) : Int) := by rw [Int.natCast_mul]
  rw [mul_i (by rw [h2]; omega) (by rw [h2]; omega), h2, add_i (by omega) (by omega)]
  unfold ps
  exact congrArg Vi (by omega)
/-- Right matrices. -/
structure Mx (r c : Nat) (x : List Nat) : Prop where
  hr : r ≤ 6
  hc : c ≤ 6
  len : x.length = r * c
  w : Words x
theorem Mx.lt {r c : Nat} {x : List Nat} (h : Mx r c x) {i k : Nat} (hi : i < r) (hk : k < c) : ps i c k < x.length := by rw [h.len]; exact ps_lt hi hk
theorem Mx.small {r c : Nat} {x : List Nat} (h : Mx r c x) : x.length ≤ 36 := by
  rw [h.len]; exact Nat.mul_le_mul h.hr h.hc
theorem Mx.set {r c : Nat} {x : List Nat} (h : Mx r c x) {p v : Nat} (hv : v < 18446744073709551616) : Mx r c (x.set p v) := ⟨h.hr, h.hc, by rw [List.length_set, h.len], h.w.set hv⟩
def rightP (R C : Int) (x : List Nat) : Prop := 0 ≤ R ∧ R ≤ 6 ∧ 0 ≤ C ∧ C ≤ 6 ∧ (x.length : Int) = R * C
instance (R C : Int) (x : List Nat) : Decidable (rightP R C x) := by unfold rightP; exact inferInstance
theorem right_mx {R C : Int} {x : List Nat} (h : rightP R C x) (hw : Words x) : ∃ r c : Nat, R = r ∧ C = c ∧ Mx r c x := by
  obtain ⟨h1, h2, h3, h4, h5⟩ := h
  refine ⟨R.toNat, C.toNat, by omega, by omega, by omega, by omega, ?_, hw⟩
  have e1 : R = R.toNat := by omega
  have e2 : C = C.toNat := by omega
  rw [e1, e2, ← Int.natCast_mul] at h5
  omega
theorem mx_right {r c : Nat} {x : List Nat} (h : Mx r c x) : rightP r c x :=
  ⟨by omega, by have := h.hr; omega, by omega, by have := h.hc; omega, by rw [h.len, Int.natCast_mul]⟩
theorem size_ok (n : Int) : val 259 [Vi n] = some [Vb (decide (0 ≤ n ∧ n ≤ 6))] := by
  refine val_of tab259 ?_
  simp [tr259, TT.dv]
theorem small_mul {R C : Int} (h1 : 0 ≤ R ∧ R ≤ 6) (h2 : 0 ≤ C ∧ C ≤ 6) : (B.mul .i64).den (Vi R) (Vi C) = Vi (R * C) := by
  have h3 : R * C ≤ 6 * 6 := Int.mul_le_mul h1.2 h2.2 h2.1 (by omega)
  have h4 : 0 ≤ R * C := Int.mul_nonneg h1.1 h2.1
  exact mul_i (by omega) (by omega)
theorem check_ok (R C : Int) (x : List Nat) : val 246 [Vi R, Vi C, Vl x] = some [Vi (if rightP R C x then 0 else 1)] := by
  refine val_of tab246 ?_
  have s1 := size_ok R
  have s2 := size_ok C
  by_cases h1 : 0 ≤ R ∧ R ≤ 6
  · rw [decide_eq_true h1] at s1
    by_cases h2 : 0 ≤ C ∧ C ≤ 6
    · rw [decide_eq_true h2] at s2
      have hm := small_mul h1 h2
      by_cases h3 : (x.length : Int) = R * C
      · rw [if_pos (show rightP R C x from ⟨h1.1, h1.2, h2.1, h2.2, h3⟩)]
        simp [tr246, TT.dv, s1, s2, hm, h3]
      · rw [if_neg (show ¬ rightP R C x from fun h => h3 h.2.2.2.2)]
        simp [tr246, TT.dv, s1, s2, hm, h3]
    · rw [decide_eq_false h2] at s2
      rw [if_neg (show ¬ rightP R C x from fun h => h2 ⟨h.2.2.1, h.2.2.2.1⟩)]
      simp [tr246, TT.dv, s1, s2]
  · rw [decide_eq_false h1] at s1
    rw [if_neg (show ¬ rightP R C x from fun h => h1 ⟨h.1, h.2.1⟩)]
    simp [tr246, TT.dv, s1]
theorem right_ok10 (R C : Int) (x : List Nat) : val 172 [Vi R, Vi C, Vl x] = some [Vb (decide (rightP R C x))] := by
  refine val_of tab172 ?_
  by_cases h1 : 0 ≤ R ∧ R ≤ 6
  · by_cases h2 : 0 ≤ C ∧ C ≤ 6
    · have hm := small_mul h1 h2
      by_cases h3 : (x.length : Int) = R * C
      · rw [decide_eq_true (show rightP R C x from ⟨h1.1, h1.2, h2.1, h2.2, h3⟩)]
        simp [tr172, TT.dv, hm, h1.1, h1.2, h2.1, h2.2, h3]
      · rw [decide_eq_false (show ¬ rightP R C x from fun h => h3 h.2.2.2.2)]
        simp [tr172, TT.dv, hm, h1.1, h1.2, h2.1, h2.2, h3]
    · rw [decide_eq_false (show ¬ rightP R C x from fun h => h2 ⟨h.2.2.1, h.2.2.2.1⟩)]
      by_cases h3 : 0 ≤ C
      · have h4 : ¬ C ≤ 6 := fun h => h2 ⟨h3, h⟩
        simp [tr172, TT.dv, h1.1, h1.2, h3, h4]
      · simp [tr172, TT.dv, h1.1, h1.2, h3]
  · rw [decide_eq_false (show ¬ rightP R C x from fun h => h1 ⟨h.1, h.2.1⟩)]
    by_cases h3 : 0 ≤ R
    · have h4 : ¬ R ≤ 6 := fun h => h1 ⟨h3, h⟩
      simp [tr172, TT.dv, h3, h4]
    · simp [tr172, TT.dv, h3]
section
variable {r c : Nat} {x : List Nat} (h : Mx r c x)
include h
theorem at_ok {i k : Nat} (hi : i < r) (hk : k < c) : val 166 [Vi r, Vi c, Vl x, Vi i, Vi k] = some [Vu (el x (ps i c k))] := by
  refine val_of tab166 ?_
  have h1 := h.hr
  have h2 := h.hc
  have e1 := pos_i (i := i) (c := c) (k := k) (by omega) (by omega) (by omega)
  have hl := h.lt hi hk
  simp [tr166, TT.dv, e1, hl, get_V hl]
theorem get_ok {i k : Nat} (hi : i < r) (hk : k < c) : val 257 [Vi r, Vi c, Vl x, Vi i, Vi k] = some [Vu (el x (ps i c k))] := by
  refine val_of tab257 ?_
  have h1 := h.hr
  have h2 := h.hc
  have e1 := pos_i (i := i) (c := c) (k := k) (by omega) (by omega) (by omega)
  have hl := h.lt hi hk
  simp [tr257, TT.dv, e1, hl, get_V hl]
theorem with_ok {i k b : Nat} (hi : i < r) (hk : k < c) : val 176 [Vi r, Vi c, Vl x, Vi i, Vi k, Vu b] = some [Vi r, Vi c, Vl (x.set (ps i c k) b)] := by
  refine val_of tab176 ?_
  have h1 := h.hr
  have h2 := h.hc
  have e1 := pos_i (i := i) (c := c) (k := k) (by omega) (by omega) (by omega)
  have hl := h.lt hi hk
  have hs := h.small
  simp [tr176, TT.dv, e1, hl, set_V, show (x.length : Int) ≤ 17592186044416 by omega]
end
theorem rep_V (n a : Nat) : B.rep.den (Vi n) (Vu a) = Vl (List.replicate n a) := by
  show PV.l (List.replicate (Vi n).int.toNat (Vu a)) = _
  rw [int_I, Int.toNat_natCast, Vl, List.map_replicate]
theorem zeros_ok {r c : Nat} (hr : r ≤ 6) (hc : c ≤ 6) : val 177 [Vi r, Vi c] = some [Vi r, Vi c, Vl (List.replicate (r * c) 0)] := by
  refine val_of tab177 ?_
  have h1 := small_mul (R := r) (C := c) (by omega) (by omega)
  have h2 : r * c ≤ 36 := Nat.mul_le_mul hr hc
  rw [← Int.natCast_mul] at h1
  generalize r * c = n at *
  simp [tr177, TT.dv, h1, rep_V, show (n : Int) ≤ 17592186044416 by omega]
theorem zeros_mx {r c : Nat} (hr : r ≤ 6) (hc : c ≤ 6) : Mx r c (List.replicate (r * c) 0) := ⟨hr, hc, by simp, fun a ha => by rw [(List.mem_replicate.1 ha).2]; decide⟩
theorem copy_ok (R C : Int) {x : List Nat} (h : x.length ≤ 17592186044416) : val 168 [Vi R, Vi C, Vl x] = some [Vi R, Vi C, Vl x] := by
  refine val_of tab168 ?_
  simp [tr168, TT.dv, show (x.length : Int) ≤ 17592186044416 by omega]
theorem same_m (R C : Int) {x : List Nat} (h : x.length < 9000000000000000000) : val 174 [Vi R, Vi C, Vl x, Vi R, Vi C, Vl x] = some [Vb true] := by
  refine val_of tab174 ?_
  simp [tr174, TT.dv, same_self h]
def matL (g : Nat → Nat → Nat) (r c : Nat) : List Nat := (List.range r).flatMap fun i => mk (g i) c
theorem matL_succ (g : Nat → Nat → Nat) (r c : Nat) : matL g r c ++ mk (g r) c = matL g (r + 1) c := by
  unfold matL; rw [List.range_succ, List.flatMap_append]; simp
theorem matL_len (g : Nat → Nat → Nat) (r c : Nat) : (matL g r c).length = r * c := by
  induction r with
  | zero => simp [matL]
  | succ r ih => rw [← matL_succ, List.length_append, ih, mk_len, Nat.add_mul, Nat.one_mul]
theorem el_app {x y : List Nat} (i : Nat) : el (x ++ y) i = if i < x.length then el x i else el y (i - x.length) := by
  unfold el
  rw [List.getD_eq_getElem?_getD, List.getD_eq_getElem?_getD, List.getD_eq_getElem?_getD]
  by_cases h : i < x.length
  · rw [if_pos h, List.getElem?_append_left h]
  · rw [if_neg h, List.getElem?_append_right (by omega)]
theorem el_matL (g : Nat → Nat → Nat) {c : Nat} : ∀ {r i k : Nat}, i < r → k < c → el (matL g r c) (ps i c k) = g i k := by
  intro r
  induction r with
  | zero => intro i k hi; omega
  | succ r ih =>
    intro i k hi hk
    rw [← matL_succ, el_app, matL_len]
    by_cases h : i < r
    · rw [if_pos (ps_lt h hk)]; exact ih h hk
    · have : i = r := by omega
      subst this
      unfold ps
      rw [if_neg (by omega), Nat.add_sub_cancel_left]
      unfold el mk
      rw [List.getD_eq_getElem?_getD, List.getElem?_map, List.getElem?_range hk]; rfl
theorem mat_ext {x y : List Nat} {r c : Nat} (hx : x.length = r * c) (hy : y.length = r * c) (h : ∀ i k, i < r → k < c → el x (ps i c k) = el y (ps i c k)) : x = y := by
  refine List.ext_getElem (by omega) fun t h1 h2 => ?_
  have hc : 0 < c := by
    rcases Nat.eq_zero_or_pos c with h0 | h0
    · subst h0; omega
    · exact h0
  have ht : t = ps (t / c) c (t % c) := by unfold ps; rw [Nat.mul_comm]; exact (Nat.div_add_mod t c).symm
  have := h (t / c) (t % c) (by rw [Nat.div_lt_iff_lt_mul hc]; omega) (Nat.mod_lt _ hc)
  rw [← ht] at this
  unfold el at this
  rw [List.getD_eq_getElem?_getD, List.getD_eq_getElem?_getD, List.getElem?_eq_getElem h1, List.getElem?_eq_getElem h2] at this
  exact this
theorem matL_mx {g : Nat → Nat → Nat} {r c : Nat} (hr : r ≤ 6) (hc : c ≤ 6) (h : ∀ i k, i < r → k < c → g i k < 18446744073709551616) : Mx r c (matL g r c) := by
  refine ⟨hr, hc, matL_len g r c, fun a ha => ?_⟩
  unfold matL at ha
  obtain ⟨i, hi, h1⟩ := List.mem_flatMap.1 ha
  obtain ⟨k, hk, rfl⟩ := List.mem_map.1 h1
  exact h i k (by simpa using hi) (by simpa using hk)
section
variable {f r c : Nat} {caps : List PV} {g : Nat → Nat → Nat} (hr : r ≤ 6) (hc : c ≤ 6) (h : ∀ i k : Nat, i < r → k < c → val f (Vi i :: Vi k :: caps) = some [Vu (g i k)])
include hr hc h
theorem of_inner {x4 : PV} {acc : List Nat} (ha : acc.length ≤ 1000) {i : Nat} (hi : i < r) : ∀ (n : Nat) {k : Nat}, k + n = c →
    rounds (fun vs => lo258_2.dv (Vi r :: Vi c :: fnP f caps :: Vi i :: x4 :: vs)) [Vi k, Vl (acc ++ mk (g i) k)] = some (.y (.ext 2) [Vl (acc ++ mk (g i) c)]) := by
  intro n
  induction n with
  | zero =>
    intro k hk
    have : k = c := by omega
    subst this
    refine rounds_exit ?_ (by simp)
    simp [lo258_2, TT.dv]
  | succ n ih =>
    intro k hk
    refine Eq.trans (rounds_cont ?_) (ih (k := k + 1) (by omega))
    have e1 : (B.add .i64).den (Vi k) (Vi 1) = Vi (k + 1) := add_i (by omega) (by omega)
    have h1 := h i k hi (by omega)
    have a1 := app_V (acc ++ mk (g i) k) (g i k)
    rw [List.append_assoc, mk_succ] at a1
    have l2 : ((acc.length : Int) + (k + 1)) ≤ 17592186044416 := by omega
    simp [lo258_2, TT.dv, fnP, show k < c by omega, h1, e1, a1, l2]
theorem of_outer : ∀ (n : Nat) {i : Nat}, i + n = r →
    rounds (fun vs => lo258_1.dv (Vi r :: Vi c :: fnP f caps :: vs)) [Vi i, Vl (matL g i c)] = some (.y (.ext 0) [Vl (matL g r c)]) := by
  intro n
  induction n with
  | zero =>
    intro i hi
    have : i = r := by omega
    subst this
    refine rounds_exit ?_ (by simp)
    simp [lo258_1, TT.dv]
  | succ n ih =>
    intro i hi
    refine Eq.trans (rounds_cont ?_) (ih (i := i + 1) (by omega))
    have e1 : (B.add .i64).den (Vi i) (Vi 1) = Vi (i + 1) := add_i (by omega) (by omega)
    have hl : (matL g i c).length ≤ 1000 := by
      rw [matL_len]
      have : i * c ≤ 6 * 6 := Nat.mul_le_mul (by omega) hc
      omega
    have hin := of_inner hr hc h (x4 := Vl (matL g i c)) hl (i := i) (by omega) c (k := 0) (by omega)
    rw [show ((0 : Nat) : Int) = 0 from rfl, show mk (g i) 0 = [] from rfl, List.append_nil, matL_succ] at hin
    simp [lo258_1, TT.dv, KS.dv, show i < r by omega, hin, e1]
theorem mof_ok : val 258 [Vi r, Vi c, fnP f caps] = some [Vi r, Vi c, Vl (matL g r c)] := by
  refine val_of tab258 ?_
  have hlp := of_outer hr hc h r (i := 0) (by omega)
  rw [show ((0 : Nat) : Int) = 0 from rfl, show matL g 0 c = [] from rfl] at hlp
  simp [tr258, TT.dv, KS.dv, hlp]
end
theorem el_set (x : List Nat) (p v q : Nat) : el (x.set p v) q = if p = q ∧ p < x.length then v else el x q := by
  unfold el
  rw [List.getD_eq_getElem?_getD, List.getD_eq_getElem?_getD, List.getElem?_set]
  by_cases h : p = q
  · subst h
    by_cases h2 : p < x.length
    · simp [h2]
    · simp [h2, List.getElem?_eq_none (show x.length ≤ p by omega)]
  · simp [h]
def fin1 (pos v : Nat → Nat) : Nat → Nat → List Nat → List Nat
  | 0, _, m => m
  | n + 1, k, m => fin1 pos v n (k + 1) (m.set (pos k) (v k))
def fin2 (pos v : Nat → Nat → Nat) (C : Nat) : Nat → Nat → List Nat → List Nat
  | 0, _, m => m
  | n + 1, i, m => fin2 pos v C n (i + 1) (fin1 (pos i) (v i) C 0 m)
theorem fin1_len (pos v : Nat → Nat) : ∀ (n k : Nat) (m : List Nat), (fin1 pos v n k m).length = m.length
  | 0, _, _ => rfl
  | n + 1, k, m => by unfold fin1; rw [fin1_len pos v n, List.length_set]
theorem fin2_len (pos v : Nat → Nat → Nat) (C : Nat) : ∀ (n i : Nat) (m : List Nat), (fin2 pos v C n i m).length = m.length
  | 0, _, _ => rfl
  | n + 1, k, m => by unfold fin2; rw [fin2_len pos v C n, fin1_len]
theorem fin1_other {pos v : Nat → Nat} {q : Nat} : ∀ (n k : Nat) (m : List Nat), (∀ j, k ≤ j → j < k + n → pos j ≠ q) → el (fin1 pos v n k m) q = el m q
  | 0, _, _, _ => rfl
  | n + 1, k, m, h => by
    unfold fin1
    rw [fin1_other n (k + 1) _ (fun j h1 h2 => h j (by omega) (by omega)), el_set, if_neg (fun hh => h k (Nat.le_refl _) (by omega) hh.1)]
theorem fin1_at {pos v : Nat → Nat} : ∀ (n k : Nat) (m : List Nat), (∀ j, k ≤ j → j < k + n → pos j < m.length) → (∀ j j', k ≤ j → j < k + n → k ≤ j' → j' < k + n → pos j = pos j' → j = j') → ∀ j, k ≤ j → j < k + n → el (fin1 pos v n k m) (pos j) = v j
  | 0, _, _, _, _, j, h1, h2 => by omega
  | n + 1, k, m, hl, hi, j, h1, h2 => by
    unfold fin1
    rcases Nat.eq_or_lt_of_le h1 with he | he
    · subst he
      rw [fin1_other n (k + 1) _ (fun j' a b hh => by have := hi j' k (by omega) (by omega) (Nat.le_refl _) (by omega) hh; omega), el_set, if_pos ⟨rfl, hl k (Nat.le_refl _) (by omega)⟩]
    · exact fin1_at n (k + 1) _ (fun j a b => by rw [List.length_set]; exact hl j (by omega) (by omega)) (fun j j' a b a' b' => hi j j' (by omega) (by omega) (by omega) (by omega)) j (by omega) (by omega)
theorem fin2_other {pos v : Nat → Nat → Nat} {C q : Nat} : ∀ (n i : Nat) (m : List Nat), (∀ j k, i ≤ j → j < i + n → k < C → pos j k ≠ q) → el (fin2 pos v C n i m) q = el m q
  | 0, _, _, _ => rfl
  | n + 1, i, m, h => by
    unfold fin2
    rw [fin2_other n (i + 1) _ (fun j k h1 h2 => h j k (by omega) (by omega)), fin1_other C 0 m (fun k _ h2 => h i k (Nat.le_refl _) (by omega) (by omega))]
theorem fin2_at {pos v : Nat → Nat → Nat} {C : Nat} : ∀ (n i : Nat) (m : List Nat), (∀ j k, i ≤ j → j < i + n → k < C → pos j k < m.length) → (∀ j k j' k', i ≤ j → j < i + n → k < C → i ≤ j' → j' < i + n → k' < C → pos j k = pos j' k' → j = j' ∧ k = k') →
    ∀ j k, i ≤ j → j < i + n → k < C → el (fin2 pos v C n i m) (pos j k) = v j k
  | 0, _, _, _, _, j, k, h1, h2, _ => by omega
  | n + 1, i, m, hl, hi, j, k, h1, h2, hk => by
    unfold fin2
    rcases Nat.eq_or_lt_of_le h1 with he | he
    · subst he
      rw [fin2_other n (i + 1) _ (fun j' k' a b c hh => by have := (hi j' k' i k (by omega) (by omega) c (Nat.le_refl _) (by omega) hk hh).1; omega)]
      exact fin1_at C 0 m (fun k' _ b => hl i k' (Nat.le_refl _) (by omega) (by omega)) (fun k1 k2 _ b _ b' hh => (hi i k1 i k2 (Nat.le_refl _) (by omega) (by omega) (Nat.le_refl _) (by omega) (by omega) hh).2) k (Nat.zero_le _) (by omega)
    · exact fin2_at n (i + 1) _ (fun j k a b c => by rw [fin1_len]; exact hl j k (by omega) (by omega) c) (fun j k j' k' a b c a' b' c' => hi j k j' k' (by omega) (by omega) c (by omega) (by omega) c') j k (by omega) (by omega) hk
end Go.Proofs.YthchhkghjfendabGreat.Dx

namespace Go.Proofs.YthchhkghjfendabGreat.Dx
open Go

def tpG (x : List Nat) (c : Nat) (i k : Nat) : Nat := el x (ps k c i)
/-- A matrix turned. -/
def tpV (r c : Nat) (x : List Nat) : List Nat := matL (tpG x c) c r
section
variable {r c : Nat} {x : List Nat} (h : Mx r c x)
include h
theorem tpV_mx : Mx c r (tpV r c x) := matL_mx h.hc h.hr fun i k _ _ => h.w.el _
theorem tp_ok : val 255 [Vi r, Vi c, Vl x] = some [Vi c, Vi r, Vl (tpV r c x), Vi 0] := by
  refine val_of tab255 ?_
  have h1 := check_ok r c x
  rw [if_pos (mx_right h)] at h1
  have h2 := mof_ok (f := 256) (r := c) (c := r) (caps := [.a [Vi r, Vi c, Vl x]]) (g := tpG x c) h.hc h.hr fun i k hi hk => by
    refine val_of tab256 ?_
    have hg := get_ok h hk hi
    have e0 : (U.fld 1).den (PV.a [Vi r, Vi c, Vl x]) = Vi c := rfl
    have e2 : (U.fld 2).den (PV.a [Vi r, Vi c, Vl x]) = Vl x := rfl
    simp [tr256, TT.dv, e0, e2, hg, tpG]
  have e1 : B.cons.den (U.toA.den (B.cons.den (Vi r) (B.cons.den (Vi c) (B.cons.den (Vl x) (Vl []))))) (Vl []) = .l [.a [Vi r, Vi c, Vl x]] := rfl
  simp [tr255, TT.dv, h1, e1, mkfn_l, h2, tpV]
theorem tp9_inner {i : Nat} (hi : i < r) {x3 x4 x5 x7 x8 x9 : PV} : ∀ (n : Nat) {k : Nat} {m : List Nat}, k + n = c → Mx c r m →
    rounds (fun vs => lo175_2.dv (Vi r :: Vi c :: Vl x :: x3 :: x4 :: x5 :: Vi i :: x7 :: x8 :: x9 :: vs)) [Vi k, Vi c, Vi r, Vl m] = some (.y (.ext 2) [Vi c, Vi r, Vl (fin1 (fun k => ps k r i) (fun k => el x (ps i c k)) n k m)]) := by
  intro n
  induction n with
  | zero =>
    intro k m hk hm
    have : k = c := by omega
    subst this
    refine rounds_exit ?_ (by simp)
    simp [lo175_2, TT.dv, fin1]
  | succ n ih =>
    intro k m hk hm
    refine Eq.trans (rounds_cont ?_) (ih (k := k + 1) (by omega) (hm.set (p := ps k r i) (h.w.el (ps i c k))))
    have h1 := h.hc
    have e1 : (B.add .i64).den (Vi k) (Vi 1) = Vi (k + 1) := add_i (by omega) (by omega)
    have a1 := at_ok h hi (show k < c by omega)
    have w1 := with_ok hm (i := k) (k := i) (b := el x (ps i c k)) (by omega) hi
    simp [lo175_2, TT.dv, show k < c by omega, e1, a1, w1]
theorem tp9_outer {x3 x4 x5 : PV} : ∀ (n : Nat) {i : Nat} {m : List Nat}, i + n = r → Mx c r m →
    rounds (fun vs => lo175_1.dv (Vi r :: Vi c :: Vl x :: x3 :: x4 :: x5 :: vs)) [Vi i, Vi c, Vi r, Vl m] = some (.y (.ext 0) [Vi c, Vi r, Vl (fin2 (fun i k => ps k r i) (fun i k => el x (ps i c k)) c n i m)]) := by
  intro n
  induction n with
  | zero =>
    intro i m hi hm
    have : i = r := by omega
    subst this
    refine rounds_exit ?_ (by simp)
    simp [lo175_1, TT.dv, fin2]
  | succ n ih =>
    intro i m hi hm
    have h1 := h.hr
    have hin := tp9_inner h (i := i) (by omega) (x3 := x3) (x4 := x4) (x5 := x5) (x7 := Vi c) (x8 := Vi r) (x9 := Vl m) c (k := 0) (m := m) (by omega) hm
    rw [show ((0 : Nat) : Int) = 0 from rfl] at hin
    have hm' : Mx c r (fin1 (fun k => ps k r i) (fun k => el x (ps i c k)) c 0 m) := by
      have key : ∀ (n k : Nat) (m : List Nat), Mx c r m → Mx c r (fin1 (fun k => ps k r i) (fun k => el x (ps i c k)) n k m) := by
        intro n
        induction n with
        | zero => intro k m hm; exact hm
        | succ n ih => intro k m hm; exact ih _ _ (hm.set (h.w.el _))
      exact key c 0 m hm
    refine Eq.trans (rounds_cont ?_) (ih (i := i + 1) (by omega) hm')
    have e1 : (B.add .i64).den (Vi i) (Vi 1) = Vi (i + 1) := add_i (by omega) (by omega)
    simp [lo175_1, TT.dv, KS.dv, show i < r by omega, hin, e1]
theorem tp9_ok : val 175 [Vi r, Vi c, Vl x] = some [Vi c, Vi r, Vl (tpV r c x)] := by
  refine val_of tab175 ?_
  have hz := zeros_ok h.hc h.hr
  have hlp := tp9_outer h (x3 := Vi c) (x4 := Vi r) (x5 := Vl (List.replicate (c * r) 0)) r (i := 0) (by omega) (zeros_mx h.hc h.hr)
  rw [show ((0 : Nat) : Int) = 0 from rfl] at hlp
  have he : fin2 (fun i k => ps k r i) (fun i k => el x (ps i c k)) c r 0 (List.replicate (c * r) 0) = tpV r c x := by
    refine mat_ext (r := c) (c := r) (by rw [fin2_len]; simp) (matL_len _ _ _) fun i k hi hk => ?_
    unfold tpV
    rw [el_matL _ hi hk]
    exact fin2_at (pos := fun i k => ps k r i) (v := fun i k => el x (ps i c k)) r 0 _ (fun j k _ h2 h3 => by rw [List.length_replicate]; exact ps_lt h3 (by omega))
      (fun j k j' k' _ a b _ a' b' hh => by have := ps_inj (by omega) (by omega) hh; exact ⟨this.2, this.1⟩) k i (Nat.zero_le _) (by omega) hi
  rw [he] at hlp
  simp [tr175, TT.dv, KS.dv, hz, hlp]
end

def rowR (x : List Nat) (cc i k C S : Nat) : Nat → Nat → List Nat → List Nat
  | 0, _, m => m
  | n + 1, j, m => rowR x cc i k C S n (j + 1) ((m.set (ps i cc j) (addV (mulV C (el x (ps i cc j))) (mulV S (el x (ps k cc j))))).set (ps k cc j) (subV (mulV C (el x (ps k cc j))) (mulV S (el x (ps i cc j)))))
def rowV (x : List Nat) (cc i k C S : Nat) : List Nat := rowR x cc i k C S cc 0 x
theorem rowR_mx {x : List Nat} {r c i k C S : Nat} : ∀ (n j : Nat) {m : List Nat}, Mx r c m → Mx r c (rowR x c i k C S n j m)
  | 0, _, _, h => h
  | n + 1, j, m, h => rowR_mx n (j + 1) ((h.set (addV_lt mulV_lt mulV_lt)).set (subV_lt mulV_lt mulV_lt))
section
variable {r c : Nat} {x : List Nat} (h : Mx r c x) {C S : Nat} (hC : C < 18446744073709551616) (hS : S < 18446744073709551616) {i k : Nat} (hi : i < r) (hk : k < r)
include h hC hS hi hk
theorem rows_loop {x7 : PV} : ∀ (n : Nat) {j : Nat} {m : List Nat}, j + n = c → Mx r c m →
    rounds (fun vs => lo231_1.dv (Vi r :: Vi c :: Vl x :: Vi i :: Vi k :: Vu C :: Vu S :: x7 :: vs)) [Vi j, Vl m] = some (.y (.ext 0) [Vl (rowR x c i k C S n j m)]) := by
  intro n
  induction n with
  | zero =>
    intro j m hj hm
    have : j = c := by omega
    subst this
    refine rounds_exit ?_ (by simp)
    simp [lo231_1, TT.dv, rowR]
  | succ n ih =>
    intro j m hj hm
    have hjc : j < c := by omega
    have h1 := h.hc
    have h2 := h.hr
    have hm2 := (hm.set (p := ps i c j) (addV_lt (mulV_lt (a := C) (b := el x (ps i c j))) (mulV_lt (a := S) (b := el x (ps k c j)))))
    refine Eq.trans (rounds_cont ?_) (ih (j := j + 1) (by omega) (hm2.set (p := ps k c j) (subV_lt (mulV_lt (a := C) (b := el x (ps k c j))) (mulV_lt (a := S) (b := el x (ps i c j))))))
    have e1 : (B.add .i64).den (Vi j) (Vi 1) = Vi (j + 1) := add_i (by omega) (by omega)
    have p1 := pos_i (i := i) (c := c) (k := j) (by omega) (by omega) (by omega)
    have p2 := pos_i (i := k) (c := c) (k := j) (by omega) (by omega) (by omega)
    have l1 := h.lt hi hjc
    have l2 := h.lt hk hjc
    have l3 := hm.lt hi hjc
    have l4 := hm.lt hk hjc
    have g1 := get_V l1
    have g2 := get_V l2
    have m1 := vmul_ok hC (h.w.el (ps i c j))
    have m2 := vmul_ok hS (h.w.el (ps k c j))
    have m3 := vmul_ok hC (h.w.el (ps k c j))
    have m4 := vmul_ok hS (h.w.el (ps i c j))
    have a1 := vadd_ok (mulV_lt (a := C) (b := el x (ps i c j))) (mulV_lt (a := S) (b := el x (ps k c j)))
    have a2 := vsub_ok (mulV_lt (a := C) (b := el x (ps k c j))) (mulV_lt (a := S) (b := el x (ps i c j)))
    simp [lo231_1, TT.dv, hjc, e1, p1, p2, l1, l2, l3, l4, g1, g2, m1, m2, m3, m4, a1, a2, set_V]
theorem rows_ok (hne : i ≠ k) : val 231 [Vi r, Vi c, Vl x, Vi i, Vi k, Vu C, Vu S] = some [Vi r, Vi c, Vl (rowV x c i k C S), Vi 0] := by
  refine val_of tab231 ?_
  have h1 := check_ok r c x
  rw [if_pos (mx_right h)] at h1
  have hs := h.small
  have hlp := rows_loop h hC hS hi hk (x7 := Vi 0) c (j := 0) (m := x) (by omega) h
  rw [show ((0 : Nat) : Int) = 0 from rfl] at hlp
  have e1 : B.copy.den (B.rep.den (Vi x.length) (Vu 0)) (Vl x) = Vl x := by
    rw [rep_V]
    show PV.l ((x.map Vu).take ((List.replicate x.length 0).map Vu).length ++ ((List.replicate x.length 0).map Vu).drop (x.map Vu).length) = _
    simp [Vl, List.take_of_length_le]
  have hne' : ¬ (i : Int) = k := by omega
  simp [tr231, TT.dv, KS.dv, h1, show ¬ (i : Int) < 0 by omega, show ¬ (k : Int) < 0 by omega, show ¬ r ≤ i by omega, show ¬ r ≤ k by omega, hne', show (x.length : Int) ≤ 17592186044416 by omega, e1, hlp, rowV]
theorem rows9_loop : ∀ (n : Nat) {j : Nat} {m : List Nat}, j + n = c → Mx r c m →
    rounds (fun vs => lo188_1.dv (Vi r :: Vi c :: Vl x :: Vi i :: Vi k :: Vu C :: Vu S :: vs)) [Vi j, Vi r, Vi c, Vl m] = some (.y (.ext 0) [Vi r, Vi c, Vl (rowR x c i k C S n j m)]) := by
  intro n
  induction n with
  | zero =>
    intro j m hj hm
    have : j = c := by omega
    subst this
    refine rounds_exit ?_ (by simp)
    simp [lo188_1, TT.dv, rowR]
  | succ n ih =>
    intro j m hj hm
    have hjc : j < c := by omega
    have h1 := h.hc
    have hm2 := (hm.set (p := ps i c j) (addV_lt (mulV_lt (a := C) (b := el x (ps i c j))) (mulV_lt (a := S) (b := el x (ps k c j)))))
    refine Eq.trans (rounds_cont ?_) (ih (j := j + 1) (by omega) (hm2.set (p := ps k c j) (subV_lt (mulV_lt (a := C) (b := el x (ps k c j))) (mulV_lt (a := S) (b := el x (ps i c j))))))
    have e1 : (B.add .i64).den (Vi j) (Vi 1) = Vi (j + 1) := add_i (by omega) (by omega)
    have g1 := at_ok h hi hjc
    have g2 := at_ok h hk hjc
    have m1 := mul9_ok hC (h.w.el (ps i c j))
    have m2 := mul9_ok hS (h.w.el (ps k c j))
    have m3 := mul9_ok hC (h.w.el (ps k c j))
    have m4 := mul9_ok hS (h.w.el (ps i c j))
    have a1 := add9_ok (mulV_lt (a := C) (b := el x (ps i c j))) (mulV_lt (a := S) (b := el x (ps k c j)))
    have a2 := sub9_ok (mulV_lt (a := C) (b := el x (ps k c j))) (mulV_lt (a := S) (b := el x (ps i c j)))
    have w1 := with_ok hm (i := i) (k := j) (b := addV (mulV C (el x (ps i c j))) (mulV S (el x (ps k c j)))) hi hjc
    have w2 := with_ok hm2 (i := k) (k := j) (b := subV (mulV C (el x (ps k c j))) (mulV S (el x (ps i c j)))) hk hjc
    simp [lo188_1, TT.dv, hjc, e1, g1, g2, m1, m2, m3, m4, a1, a2, w1, w2]
theorem rows9_ok : val 188 [Vi r, Vi c, Vl x, Vi i, Vi k, Vu C, Vu S] = some [Vi r, Vi c, Vl (rowV x c i k C S)] := by
  refine val_of tab188 ?_
  have hlp := rows9_loop h hC hS hi hk c (j := 0) (m := x) (by omega) h
  rw [show ((0 : Nat) : Int) = 0 from rfl] at hlp
  simp [tr188, TT.dv, KS.dv, hlp, rowV]
theorem rowV_mx : Mx r c (rowV x c i k C S) := rowR_mx c 0 h
end
/-- Two columns turned. -/
def colV (r c : Nat) (x : List Nat) (i k C S : Nat) : List Nat := tpV c r (rowV (tpV r c x) r i k C S)
section
variable {r c : Nat} {x : List Nat} (h : Mx r c x) {C S : Nat} (hC : C < 18446744073709551616) (hS : S < 18446744073709551616) {i k : Nat} (hi : i < c) (hk : k < c)
include h hC hS hi hk
theorem cols_ok (hne : i ≠ k) : val 230 [Vi r, Vi c, Vl x, Vi i, Vi k, Vu C, Vu S] = some [Vi r, Vi c, Vl (colV r c x i k C S), Vi 0] := by
  refine val_of tab230 ?_
  have h1 := tp_ok h
  have h2 := rows_ok (tpV_mx h) hC hS hi hk hne
  have h3 := tp_ok (rowV_mx (tpV_mx h) hC hS hi hk)
  simp [tr230, TT.dv, h1, h2, h3, colV]
theorem cols9_ok : val 187 [Vi r, Vi c, Vl x, Vi i, Vi k, Vu C, Vu S] = some [Vi r, Vi c, Vl (colV r c x i k C S)] := by
  refine val_of tab187 ?_
  have h1 := tp9_ok h
  have h2 := rows9_ok (tpV_mx h) hC hS hi hk
  have h3 := tp9_ok (rowV_mx (tpV_mx h) hC hS hi hk)
  simp [tr187, TT.dv, h1, h2, h3, colV]
theorem colV_mx : Mx r c (colV r c x i k C S) := tpV_mx (rowV_mx (tpV_mx h) hC hS hi hk)
end
end Go.Proofs.YthchhkghjfendabGreat.Dx

namespace Go.Proofs.YthchhkghjfendabGreat.Dx
open Go

theorem st_call {g : Exp} {f : Nat} {xs : List Exp} {n : Nat} {t : TT Unit} {ρ rs : List PV} (hg : g.isTrue ρ = true) (hv : val f (xs.map (Exp.den ρ)) = some rs) (hl : rs.length = n) : (TT.call g f xs n t).dv ρ = t.dv (ρ ++ rs) := by
  simp only [TT.dv, hg, hv, hl, if_true]
theorem st_skip {g : Exp} {f : Nat} {xs : List Exp} {n : Nat} {t : TT Unit} {ρ : List PV} (hg : g.isTrue ρ = false) : (TT.call g f xs n t).dv ρ = t.dv (ρ ++ List.replicate n default) := by
  simp only [TT.dv, hg, Bool.false_eq_true, if_false]
theorem st_t {c : Exp} {a b : TT Unit} {ρ : List PV} (hc : c.isTrue ρ = true) : (TT.ite c a b).dv ρ = a.dv ρ := by simp only [TT.dv, hc, if_true]
theorem st_f {c : Exp} {a b : TT Unit} {ρ : List PV} (hc : c.isTrue ρ = false) : (TT.ite c a b).dv ρ = b.dv ρ := by simp only [TT.dv, hc, Bool.false_eq_true, if_false]
theorem st_loop {init : List Exp} {t : TT Unit} {ks : KS Unit} {ρ vs : List PV} {x : Ex} (h : rounds (fun vs => t.dv (ρ ++ vs)) (init.map (Exp.den ρ)) = some (.y x vs)) : (TT.loop init t ks).dv ρ = ks.dv x vs ρ := by
  simp only [TT.dv, h]
theorem st_scope {t : TT Unit} {ks : KS Unit} {ρ vs : List PV} {x : Ex} (h : t.dv ρ = some (.y x vs)) : (TT.scope t ks).dv ρ = ks.dv x vs ρ := by
  simp only [TT.dv, h]
theorem st_hit {t : TT Unit} {ks : KS Unit} {ρ vs : List PV} {x : Ex} : (KS.cons x t ks).dv x vs ρ = t.dv (ρ ++ vs) := by
  simp only [KS.dv, if_true]
theorem st_miss {t : TT Unit} {ks : KS Unit} {ρ vs : List PV} {x y : Ex} (h : (x = y) = False) : (KS.cons x t ks).dv y vs ρ = ks.dv y vs ρ := by
  simp only [KS.dv, h, if_false]
/-- A loop that turns all bits of a row. -/
def cplT (p e : Nat) : TT Unit := .ite (.bi .lt (.var p) (.un .len (.var (p + 1)))) (.assert (.bi .le (.int .i64 0) (.var p)) (.assert (.bi .lt (.var p) (.un .len (.var (p + 1)))) (.assert (.bi .le (.int .i64 0) (.var p)) (.assert (.bi .lt (.var p) (.un .len (.var (p + 1)))) (.yield .cont [(.bi (.add .i64) (.var p) (.int .i64 1)), (.tri .set (.var (p + 1)) (.var p) (.un (.cpl .u64) (.bi .get (.var (p + 1)) (.var p))))]))))) (.yield (.ext e) [])
theorem cpl_any {e : Nat} {ρ : List PV} : ∀ (n : Nat) {i : Nat} {y : List Nat}, Words y → y.length < 9000000000000000000 → i + n = y.length →
    rounds (fun vs => (cplT ρ.length e).dv (ρ ++ vs)) [Vi i, Vl y] = some (.y (.ext e) []) := by
  intro n
  induction n with
  | zero =>
    intro i y hy hl hi
    refine rounds_exit ?_ (by simp)
    simp [cplT, TT.dv, show ¬ i < y.length by omega]
  | succ n ih =>
    intro i y hy hl hi
    have e1 : (B.add .i64).den (Vi i) (Vi 1) = Vi (i + 1) := add_i (by omega) (by omega)
    have g1 := get_V (x := y) (i := i) (by omega)
    obtain ⟨c1, c2⟩ := cpl_u (hy.el i)
    refine Eq.trans (rounds_cont ?_) (ih (i := i + 1) (hy.set (i := i) c2) (by simpa using hl) (by rw [List.length_set]; omega))
    simp [cplT, TT.dv, show i < y.length by omega, e1, g1, c1, set_V]
theorem cpl_at {e p : Nat} {x : List Nat} (hw : Words x) (hl : x.length ≤ 17592186043904) : ∀ ρ : List PV, ρ.length = p → rounds (fun vs => (cplT p e).dv (ρ ++ vs)) [Vi 0, Vl x] = some (.y (.ext e) []) := by
  intro ρ hp
  subst hp
  exact cpl_any x.length (i := 0) hw (by omega) (by omega)

def colG (x : List Nat) (c k from_ : Nat) (j : Nat) : Nat := el x (ps (from_ + j) c k)
/-- A column from a row on. -/
def colL (r c : Nat) (x : List Nat) (k from_ : Nat) : List Nat := mk (colG x c k from_) (r - from_)
theorem colL_words {r c : Nat} {x : List Nat} (h : Mx r c x) (k from_ : Nat) : Words (colL r c x k from_) := mk_words fun _ _ => h.w.el _
@[simp] theorem colL_len (r c : Nat) (x : List Nat) (k from_ : Nat) : (colL r c x k from_).length = r - from_ := mk_len _ _
theorem el_colL {r c : Nat} {x : List Nat} {k f j : Nat} (h : j < r - f) : el (colL r c x k f) j = el x (ps (f + j) c k) := by
  unfold colL; rw [show el (mk (colG x c k f) (r - f)) j = colG x c k f j from by
    unfold el mk; rw [List.getD_eq_getElem?_getD, List.getElem?_map, List.getElem?_range h]; rfl]; rfl
section
variable {r c : Nat} {x : List Nat} (h : Mx r c x) {k f : Nat} (hk : k < c) (hf : f ≤ r)
include h hk hf
theorem column_ok : val 247 [Vi r, Vi c, Vl x, Vi k, Vi f] = some [Vl (colL r c x k f)] := by
  have hr := h.hr
  have lp : ∀ (n : Nat) {j : Nat}, j + n = r - f →
      rounds (fun vs => lo247_1.dv (Vi r :: Vi c :: Vl x :: Vi k :: Vi f :: vs)) [Vi ((f + j : Nat) : Int), Vl (mk (colG x c k f) j)] = some (.y (.ext 0) [Vl (colL r c x k f)]) := by
    intro n
    induction n with
    | zero =>
      intro j hj
      have : j = r - f := by omega
      subst this
      refine rounds_exit ?_ (by simp)
      have e : ¬ (((f + (r - f) : Nat) : Int) < (r : Int)) := by omega
      generalize ((f + (r - f) : Nat) : Int) = z at *
      simp [lo247_1, TT.dv, e, colL]
    | succ n ih =>
      intro j hj
      refine Eq.trans (rounds_cont ?_) (ih (j := j + 1) (by omega))
      have e1 : (B.add .i64).den (Vi ((f + j : Nat) : Int)) (Vi 1) = Vi ((f + (j + 1) : Nat) : Int) := by rw [add_i (by omega) (by omega)]; exact congrArg Vi (by omega)
      have g1 := get_ok h (i := f + j) (k := k) (by omega) hk
      have a1 := app_V (mk (colG x c k f) j) (colG x c k f j)
      rw [mk_succ] at a1
      have e2 : ((f + j : Nat) : Int) < (r : Int) := by omega
      have e3 : ((j : Int) + 1) ≤ 17592186044416 := by omega
      unfold colG at a1 ⊢
      generalize ((f + j : Nat) : Int) = z at *
      generalize ((f + (j + 1) : Nat) : Int) = z' at *
      simp [lo247_1, TT.dv, e1, e2, g1, a1, e3]
  refine val_of tab247 ?_
  have h0 := lp (r - f) (j := 0) (by omega)
  rw [Nat.add_zero, show mk (colG x c k f) 0 = [] from rfl] at h0
  simp [tr247, TT.dv, KS.dv, h0]
theorem column9_ok : val 167 [Vi r, Vi c, Vl x, Vi k, Vi f] = some [Vl (colL r c x k f)] := by
  have hr := h.hr
  have lp : ∀ (n : Nat) {j : Nat}, j + n = r - f →
      rounds (fun vs => lo167_1.dv (Vi r :: Vi c :: Vl x :: Vi k :: Vi f :: vs)) [Vi ((f + j : Nat) : Int), Vl (mk (colG x c k f) j)] = some (.y (.ext 0) [Vl (colL r c x k f)]) := by
    intro n
    induction n with
    | zero =>
      intro j hj
      have : j = r - f := by omega
      subst this
      refine rounds_exit ?_ (by simp)
      have e : ¬ (((f + (r - f) : Nat) : Int) < (r : Int)) := by omega
      generalize ((f + (r - f) : Nat) : Int) = z at *
      simp [lo167_1, TT.dv, e, colL]
    | succ n ih =>
      intro j hj
      refine Eq.trans (rounds_cont ?_) (ih (j := j + 1) (by omega))
      have e1 : (B.add .i64).den (Vi ((f + j : Nat) : Int)) (Vi 1) = Vi ((f + (j + 1) : Nat) : Int) := by rw [add_i (by omega) (by omega)]; exact congrArg Vi (by omega)
      have g1 := at_ok h (i := f + j) (k := k) (by omega) hk
      have a1 := app_V (mk (colG x c k f) j) (colG x c k f j)
      rw [mk_succ] at a1
      have e2 : ((f + j : Nat) : Int) < (r : Int) := by omega
      have e3 : ((j : Int) + 1) ≤ 17592186044416 := by omega
      unfold colG at a1 ⊢
      generalize ((f + j : Nat) : Int) = z at *
      generalize ((f + (j + 1) : Nat) : Int) = z' at *
      simp [lo167_1, TT.dv, e1, e2, g1, a1, e3]
  refine val_of tab167 ?_
  have h0 := lp (r - f) (j := 0) (by omega)
  rw [Nat.add_zero, show mk (colG x c k f) 0 = [] from rfl] at h0
  simp [tr167, TT.dv, KS.dv, h0]
end
theorem Words.take {x : List Nat} (h : Words x) (n : Nat) : Words (x.take n) := fun a ha => h a (List.mem_of_mem_take ha)
section
variable {r c : Nat} {x : List Nat} (h : Mx r c x) {v : List Nat} (hv : Words v) {tau : Nat} (ht : tau < 18446744073709551616) {i : Nat} (hi : i + v.length ≤ r)
include h hv ht hi
end
end Go.Proofs.YthchhkghjfendabGreat.Dx

namespace Go.Proofs.YthchhkghjfendabGreat.Dx
open Go

end Go.Proofs.YthchhkghjfendabGreat.Dx

namespace Go.Proofs.YthchhkghjfendabGreat.Dx
open Go

theorem el_mk' {g : Nat → Nat} {n i : Nat} (h : i < n) : el (mk g n) i = g i := by
  unfold el mk
  rw [List.getD_eq_getElem?_getD, List.getElem?_map, List.getElem?_range h]; rfl
theorem normV_lt (x : List Nat) (hx : Words x) : normV x < 18446744073709551616 := by
  unfold normV
  split
  · have := bigV_lt x; omega
  · exact scaleV_lt (sqrtV_lt (sqrR_lt _ (by decide))) _
/-- The place of the first number that is no nought. -/
def leadI (x : List Nat) : Nat → Nat → Option Nat
  | 0, _ => none
  | n + 1, i => if fKind (el x i) ≠ 0 then some i else leadI x n (i + 1)
def shG (x : List Nat) (k : Int) (i : Nat) : Nat := scaleV (el x i) k
def shV (x : List Nat) (k : Int) : List Nat := mk (shG x k) x.length
theorem shV_words {x : List Nat} (hx : Words x) (k : Int) : Words (shV x k) := mk_words fun i _ => scaleV_lt (hx.el i) k
@[simp] theorem shV_len (x : List Nat) (k : Int) : (shV x k).length = x.length := mk_len _ _
def hK (x : List Nat) : Int := expB (bigV x)
def hY (x : List Nat) : List Nat := shV x (-hK x)
def hMu (x : List Nat) : Nat := if fNeg (el x ((leadI x x.length 0).getD 0)) then normV (hY x) else fMinus (normV (hY x))
def hD (x : List Nat) : Nat := subV (el (hY x) 0) (hMu x)
section
variable {x : List Nat} (hx : Words x) (h1 : 1 ≤ x.length) (h64 : x.length ≤ 64)
include hx h1 h64
end
end Go.Proofs.YthchhkghjfendabGreat.Dx

namespace Go.Proofs.YthchhkghjfendabGreat.Dx
open Go

end Go.Proofs.YthchhkghjfendabGreat.Dx

namespace Go.Proofs.YthchhkghjfendabGreat.Dx
open Go

section
variable {r c : Nat} {x : List Nat} (h : Mx r c x) {i : Nat} (hi : i < r)
include h hi
end
section
variable {ra ca rb cb : Nat} {x y : List Nat} (h : Mx ra ca x) (h' : Mx rb cb y) (hcr : ca = rb)
include h h' hcr
end
section
variable {r c : Nat} {x : List Nat} (h : Mx r c x) {i k m n : Nat} (hi : i + m ≤ r) (hk : k + n ≤ c)
include h hi hk
end
def eyG (i k : Nat) : Nat := if i = k then 4607182418800017408 else 0
def eyV (n : Nat) : List Nat := matL eyG n n
theorem eyV_mx {n : Nat} (hn : n ≤ 6) : Mx n n (eyV n) := matL_mx hn hn fun i k _ _ => by unfold eyG; split <;> decide
theorem eye_ok {n : Nat} (hn : n ≤ 6) : val 248 [Vi n] = some [Vi n, Vi n, Vl (eyV n), Vi 0] := by
  refine val_of tab248 ?_
  have h1 := size_ok n
  rw [decide_eq_true (by omega)] at h1
  have h2 := mof_ok (f := 249) (r := n) (c := n) (caps := []) (g := eyG) hn hn fun i k _ _ => by
    refine val_of tab249 ?_
    unfold eyG
    by_cases h : i = k
    · simp [tr249, TT.dv, h]
    · simp [tr249, TT.dv, h, show ¬ (i : Int) = k by omega]
  have ec : (U.mkfn 249).den (Vl []) = fnP 249 [] := rfl
  simp [tr248, TT.dv, h1, ec, h2, eyV]
theorem eye9_ok {n : Nat} (hn : n ≤ 6) : val 169 [Vi n] = some [Vi n, Vi n, Vl (eyV n)] := by
  refine val_of tab169 ?_
  have hz := zeros_ok hn hn
  have lp : ∀ (x1 x2 x3 : PV) (t : Nat) {i : Nat} {m : List Nat}, i + t = n → Mx n n m → rounds (fun vs => lo169_1.dv (Vi n :: x1 :: x2 :: x3 :: vs)) [Vi i, Vi n, Vi n, Vl m] = some (.y (.ext 0) [Vi n, Vi n, Vl (fin1 (fun i => ps i n i) (fun _ => 4607182418800017408) t i m)]) := by
    intro x1 x2 x3 t
    induction t with
    | zero =>
      intro i m hi hm
      have : i = n := by omega
      subst this
      refine rounds_exit ?_ (by simp)
      simp [lo169_1, TT.dv, fin1]
    | succ t ih =>
      intro i m hi hm
      have hin : i < n := by omega
      refine Eq.trans (rounds_cont ?_) (ih (i := i + 1) (by omega) (hm.set (p := ps i n i) (v := 4607182418800017408) (by decide)))
      have e1 : (B.add .i64).den (Vi i) (Vi 1) = Vi (i + 1) := add_i (by omega) (by omega)
      have w1 := with_ok hm (i := i) (k := i) (b := 4607182418800017408) hin hin
      simp [lo169_1, TT.dv, hin, e1, w1]
  have hlp := lp (Vi n) (Vi n) (Vl (List.replicate (n * n) 0)) n (i := 0) (by omega) (zeros_mx hn hn)
  rw [show ((0 : Nat) : Int) = 0 from rfl] at hlp
  have he : fin1 (fun i => ps i n i) (fun _ => 4607182418800017408) n 0 (List.replicate (n * n) 0) = eyV n := by
    refine mat_ext (r := n) (c := n) (by rw [fin1_len]; simp) (matL_len _ _ _) fun i k hi hk => ?_
    unfold eyV
    rw [el_matL _ hi hk]
    unfold eyG
    by_cases h : i = k
    · subst h
      rw [if_pos rfl]
      exact fin1_at (pos := fun i => ps i n i) (v := fun _ => 4607182418800017408) n 0 _ (fun j _ h2 => by rw [List.length_replicate]; exact ps_lt (by omega) (by omega))
        (fun j j' _ a _ a' hh => (ps_inj (by omega) (by omega) hh).1) i (Nat.zero_le _) (by omega)
    · rw [if_neg h, fin1_other n 0 _ (fun j _ h2 hh => by have := ps_inj (by omega) hk hh; omega)]
      unfold el
      rw [List.getD_eq_getElem?_getD, List.getElem?_replicate]
      split <;> rfl
  rw [he] at hlp
  simp [tr169, TT.dv, KS.dv, hz, hlp]
end Go.Proofs.YthchhkghjfendabGreat.Dx

namespace Go.Proofs.YthchhkghjfendabGreat.Dx
open Go

def chk (R C : Int) (x : List Nat) : Int := if rightP R C x then (if finV x then 0 else 4) else 1
theorem fin2_loop {x : List Nat} {x0 x1 x3 x4 : PV} (h64 : x.length < 9000000000000000000) : ∀ (n : Nat) {i : Nat}, i + n = x.length →
    rounds (fun vs => lo2_1.dv (x0 :: x1 :: Vl x :: x3 :: vs)) [x4, Vi i] = some (if finR x n i then .y (.ext 0) [x4] else .y .ret []) := by
  intro n
  induction n with
  | zero =>
    intro i hi
    refine rounds_exit ?_ (by simp [finR])
    simp [lo2_1, TT.dv, show ¬ i < x.length by omega, finR]
  | succ n ih =>
    intro i hi
    have g1 := get_V (x := x) (i := i) (by omega)
    have f1 := finite_ok (el x i)
    unfold finR
    by_cases c : fPow (el x i) = 2047
    · rw [if_pos c]
      refine rounds_exit ?_ (by simp)
      simp [lo2_1, TT.dv, show i < x.length by omega, g1, f1, c]
    · rw [if_neg c]
      have e1 : (B.add .i64).den (Vi i) (Vi 1) = Vi (i + 1) := add_i (by omega) (by omega)
      refine Eq.trans (rounds_cont ?_) (ih (i := i + 1) (by omega))
      simp [lo2_1, TT.dv, show i < x.length by omega, g1, f1, c, e1]
theorem ccheck_ok (R C : Int) {x : List Nat} (h : x.length ≤ 17592186043904) : val 2 [Vi R, Vi C, Vl x] = some [Vi (chk R C x)] := by
  refine val_of tab2 ?_
  have h1 := check_ok R C x
  unfold chk
  by_cases c : rightP R C x
  · rw [if_pos c] at h1 ⊢
    have hl := fun x0 x1 x3 x4 => fin2_loop (x := x) (x0 := x0) (x1 := x1) (x3 := x3) (x4 := x4) (by omega) x.length (i := 0) (by omega)
    simp only [show ((0 : Nat) : Int) = 0 from rfl] at hl
    unfold finV
    cases hc : finR x x.length 0
    · simp only [hc] at hl
      simp [tr2, TT.dv, KS.dv, h1, hl]
    · simp only [hc] at hl
      simp [tr2, TT.dv, KS.dv, h1, hl]
  · rw [if_neg c] at h1 ⊢
    simp [tr2, TT.dv, h1]
theorem ccheck9_ok (R C : Int) {x : List Nat} (hw : Words x) (h : x.length ≤ 17592186043904) : val 178 [Vi R, Vi C, Vl x] = some [Vi (chk R C x)] := by
  refine val_of tab178 ?_
  have h1 := right_ok10 R C x
  have h2 := finite_9_ok hw (by omega)
  unfold chk
  by_cases c : rightP R C x
  · rw [decide_eq_true c] at h1
    rw [if_pos c]
    cases hc : finV x <;> rw [hc] at h2 <;> simp [tr178, TT.dv, h1, h2]
  · rw [decide_eq_false c] at h1
    rw [if_neg c]
    simp [tr178, TT.dv, h1]
section
variable {r c j : Nat} (hjr : j < r) (hjc : j < c)
include hjr hjc
end
abbrev Mir := List Nat × Nat × Nat
structure MirOK (r j : Nat) (m : Mir) : Prop where
  len : m.1.length = r - j
  w : Words m.1
  t : m.2.1 < 18446744073709551616
  b : m.2.2 < 18446744073709551616
section
variable {r c j : Nat} {x : List Nat} (h : Mx r c x) (hj : j < c) (hjr : j < r)
include h hj hjr
end
def MsOK (r : Nat) (ms : List Mir) : Prop := ∀ j m, ms[j]? = some m → MirOK r j m
theorem MsOK.app {r : Nat} {ms : List Mir} (h : MsOK r ms) {m : Mir} (hm : MirOK r ms.length m) : MsOK r (ms ++ [m]) := by
  intro j m' hj
  rcases Nat.lt_or_ge j ms.length with h1 | h1
  · rw [List.getElem?_append_left h1] at hj; exact h j m' hj
  · rw [List.getElem?_append_right h1] at hj
    have : j = ms.length := by
      rcases Nat.eq_or_lt_of_le h1 with h2 | h2
      · exact h2.symm
      · rw [List.getElem?_eq_none (by simp; omega)] at hj; cases hj
    subst this
    simp at hj; subst hj; exact hm
end Go.Proofs.YthchhkghjfendabGreat.Dx

namespace Go.Proofs.YthchhkghjfendabGreat.Dx
open Go

section
variable {r : Nat} {ms : List Mir} (hms : MsOK r ms) (hml : ms.length ≤ r)
include hms hml
end
end Go.Proofs.YthchhkghjfendabGreat.Dx

namespace Go.Proofs.YthchhkghjfendabGreat.Dx
open Go

theorem same_nil : val 174 [Vi 0, Vi 0, Vl [], Vi 0, Vi 0, Vl []] = some [Vb true] := same_m 0 0 (x := []) (by decide)
theorem chk_cases (R C : Int) (x : List Nat) : chk R C x ≠ 0 ∨ (chk R C x = 0 ∧ rightP R C x ∧ finV x = true) := by
  unfold chk
  by_cases h : rightP R C x
  · rw [if_pos h]
    cases hf : finV x
    · left; simp
    · right; exact ⟨by simp, h, rfl⟩
  · rw [if_neg h]; left; decide
end Go.Proofs.YthchhkghjfendabGreat.Dx

namespace Go.Proofs.YthchhkghjfendabGreat.Dx
open Go

section
variable {r c : Nat} {y : List Nat} (h : Mx r c y) (hu : ∀ a b, b < a → a < r → b < c → el y (ps a c b) = 0)
include h hu
end
end Go.Proofs.YthchhkghjfendabGreat.Dx

namespace Go.Proofs.YthchhkghjfendabGreat.Dx
open Go

theorem finR_iff {x : List Nat} : ∀ (n i : Nat), finR x n i = true ↔ ∀ k, i ≤ k → k < i + n → fPow (el x k) ≠ 2047
  | 0, i => ⟨fun _ k h1 h2 => by omega, fun _ => rfl⟩
  | n + 1, i => by
    unfold finR
    by_cases c : fPow (el x i) = 2047
    · rw [if_pos c]
      exact ⟨fun h => (by cases h), fun h => absurd c (h i (Nat.le_refl _) (by omega))⟩
    · rw [if_neg c, finR_iff n (i + 1)]
      refine ⟨fun h k h1 h2 => ?_, fun h k h1 h2 => h k (by omega) (by omega)⟩
      rcases Nat.eq_or_lt_of_le h1 with h3 | h3
      · subst h3; exact c
      · exact h k (by omega) (by omega)
theorem finV_iff {x : List Nat} : finV x = true ↔ ∀ k, k < x.length → fPow (el x k) ≠ 2047 := by
  unfold finV
  rw [finR_iff]
  exact ⟨fun h k hk => h k (Nat.zero_le _) (by omega), fun h k _ hk => h k (by omega)⟩
theorem finV_mx {r c : Nat} {x : List Nat} (h : Mx r c x) : finV x = true ↔ ∀ i k, i < r → k < c → fPow (el x (ps i c k)) ≠ 2047 := by
  rw [finV_iff]
  refine ⟨fun hh i k hi hk => hh _ (h.lt hi hk), fun hh t ht => ?_⟩
  have hc : 0 < c := by
    rcases Nat.eq_zero_or_pos c with h0 | h0
    · subst h0; rw [h.len] at ht; omega
    · exact h0
  have e : t = ps (t / c) c (t % c) := by unfold ps; rw [Nat.mul_comm]; exact (Nat.div_add_mod t c).symm
  have := hh (t / c) (t % c) (by rw [Nat.div_lt_iff_lt_mul hc, ← h.len]; exact ht) (Nat.mod_lt _ hc)
  rwa [← e] at this
section
variable {r c : Nat} {x : List Nat} (h : Mx r c x) {up over : Bool}
include h
end
section
variable {r c : Nat} {y : List Nat} (h : Mx r c y)
include h
end
end Go.Proofs.YthchhkghjfendabGreat.Dx

namespace Go.Proofs.YthchhkghjfendabGreat.Dx
open Go

def Jl (l : List Int) : PV := .l (l.map Vi)
def ei (l : List Int) (i : Nat) : Int := l.getD i 0
theorem Jl_nil : Vl [] = Jl [] := rfl
@[simp] theorem len_J (l : List Int) : U.len.den (Jl l) = Vi l.length := by simp [Jl]
theorem get_J {l : List Int} {i : Nat} (h : i < l.length) : B.get.den (Jl l) (Vi i) = Vi (ei l i) := by
  rw [Jl, get_l _ rfl]
  simp [ei, List.getD_eq_getElem?_getD, h]
theorem app_J (l : List Int) (a : Int) : B.app.den (Jl l) (B.cons.den (Vi a) (Vl [])) = Jl (l ++ [a]) := by
  show PV.l (l.map Vi ++ [Vi a]) = _
  unfold Jl; rw [List.map_append]; rfl
theorem set_J (l : List Int) (i : Nat) (v : Int) : T3.set.den (Jl l) (Vi i) (Vi v) = Jl (l.set i v) := by
  rw [Jl, set_l _ rfl, Jl, List.map_set]
/-- The first places. -/
def firL (n : Nat) : List Int := (List.range n).map fun (i : Nat) => (i : Int)
@[simp] theorem firL_len (n : Nat) : (firL n).length = n := by simp [firL]
theorem firL_succ (n : Nat) : firL n ++ [(n : Int)] = firL (n + 1) := by unfold firL; rw [List.range_succ, List.map_append]; rfl
theorem ei_firL {n i : Nat} (h : i < n) : ei (firL n) i = i := by
  unfold ei firL; rw [List.getD_eq_getElem?_getD, List.getElem?_map, List.getElem?_range h]; rfl
theorem ei_set (l : List Int) (p : Nat) (v : Int) (q : Nat) : ei (l.set p v) q = if p = q ∧ p < l.length then v else ei l q := by
  unfold ei
  rw [List.getD_eq_getElem?_getD, List.getD_eq_getElem?_getD, List.getElem?_set]
  by_cases h : p = q
  · subst h
    by_cases h2 : p < l.length
    · simp [h2]
    · simp [h2, List.getElem?_eq_none (show l.length ≤ p by omega)]
  · simp [h]
/-- Two places changed. -/
def swL (l : List Int) (i k : Nat) : List Int := (l.set i (ei l k)).set k (ei l i)
@[simp] theorem swL_len (l : List Int) (i k : Nat) : (swL l i k).length = l.length := by simp [swL]
def swN (a b k : Nat) : Nat := if k = b then a else if k = a then b else k
theorem swN_lt {a b k c : Nat} (ha : a < c) (hb : b < c) (hk : k < c) : swN a b k < c := by unfold swN; split; exact ha; split; exact hb; exact hk
theorem ei_swL {l : List Int} {a b k : Nat} (ha : a < l.length) (hb : b < l.length) : ei (swL l a b) k = ei l (swN a b k) := by
  unfold swL swN
  rw [ei_set, ei_set, List.length_set]
  by_cases h1 : b = k
  · subst h1; simp [hb]
  · have h1' : ¬ k = b := fun h => h1 h.symm
    by_cases h2 : a = k
    · subst h2; simp [h1, h1', ha]
    · have h2' : ¬ k = a := fun h => h2 h.symm
      simp [h1, h1', h2, h2']
section
variable {r c : Nat} {x : List Nat} (h : Mx r c x) {j : Nat} (hj : j ≤ r)
include h hj
end
section
variable {r c : Nat} {x : List Nat} (h : Mx r c x) {j : Nat} (hj : j ≤ r)
include h hj
end
/-- Columns at places. -/
def coG (c : Nat) (x : List Nat) (pl : List Int) (i k : Nat) : Nat := el x (ps i c (ei pl k).toNat)
def coV (r c : Nat) (x : List Nat) (pl : List Int) : List Nat := matL (coG c x pl) r pl.length
theorem coV_mx {r c : Nat} {x : List Nat} (h : Mx r c x) {pl : List Int} (hl : pl.length ≤ 6) : Mx r pl.length (coV r c x pl) := matL_mx h.hr hl fun _ _ _ _ => h.w.el _
section
variable {r c : Nat} {x : List Nat} (h : Mx r c x) {pl : List Int} (hl : pl.length ≤ 6) (hp : ∀ k, k < pl.length → 0 ≤ ei pl k ∧ ei pl k < c)
include h hl hp
theorem co9_inner {i : Nat} (hi : i < r) {x4 x5 x6 x8 x9 x10 : PV} : ∀ (n : Nat) {k : Nat} {m : List Nat}, k + n = pl.length → Mx r pl.length m →
    rounds (fun vs => lo203_2.dv (Vi r :: Vi c :: Vl x :: Jl pl :: x4 :: x5 :: x6 :: Vi i :: x8 :: x9 :: x10 :: vs)) [Vi k, Vi r, Vi pl.length, Vl m] = some (.y (.ext 2) [Vi r, Vi pl.length, Vl (fin1 (fun k => ps i pl.length k) (fun k => coG c x pl i k) n k m)]) := by
  intro n
  have hr := h.hr
  induction n with
  | zero =>
    intro k m hk hm
    have : k = pl.length := by omega
    subst this
    refine rounds_exit ?_ (by simp)
    simp [lo203_2, TT.dv, fin1]
  | succ n ih =>
    intro k m hk hm
    have hkc : k < pl.length := by omega
    refine Eq.trans (rounds_cont ?_) (ih (k := k + 1) (by omega) (hm.set (p := ps i pl.length k) (v := coG c x pl i k) (h.w.el _)))
    have e1 : (B.add .i64).den (Vi k) (Vi 1) = Vi (k + 1) := add_i (by omega) (by omega)
    have g1 := get_J hkc
    obtain ⟨p1, p2⟩ := hp k hkc
    have a1 := at_ok h hi (k := (ei pl k).toNat) (by omega)
    rw [show (((ei pl k).toNat : Nat) : Int) = ei pl k by omega] at a1
    have w1 := with_ok hm (i := i) (k := k) (b := coG c x pl i k) hi hkc
    unfold coG at w1 ⊢
    simp [lo203_2, TT.dv, hkc, e1, g1, a1, w1]
theorem co9_outer {x4 x5 x6 : PV} : ∀ (n : Nat) {i : Nat} {m : List Nat}, i + n = r → Mx r pl.length m →
    rounds (fun vs => lo203_1.dv (Vi r :: Vi c :: Vl x :: Jl pl :: x4 :: x5 :: x6 :: vs)) [Vi i, Vi r, Vi pl.length, Vl m] = some (.y (.ext 0) [Vi r, Vi pl.length, Vl (fin2 (fun i k => ps i pl.length k) (fun i k => coG c x pl i k) pl.length n i m)]) := by
  intro n
  have hr := h.hr
  induction n with
  | zero =>
    intro i m hi hm
    have : i = r := by omega
    subst this
    refine rounds_exit ?_ (by simp)
    simp [lo203_1, TT.dv, fin2]
  | succ n ih =>
    intro i m hi hm
    have hir : i < r := by omega
    have hm' : Mx r pl.length (fin1 (fun k => ps i pl.length k) (fun k => coG c x pl i k) pl.length 0 m) := by
      have key : ∀ (t b : Nat) (z : List Nat), Mx r pl.length z → Mx r pl.length (fin1 (fun k => ps i pl.length k) (fun k => coG c x pl i k) t b z) := by
        intro t
        induction t with
        | zero => intro b z hz; exact hz
        | succ t ih => intro b z hz; exact ih _ _ (hz.set (h.w.el _))
      exact key _ 0 m hm
    refine Eq.trans (rounds_cont ?_) (ih (i := i + 1) (by omega) hm')
    have e1 : (B.add .i64).den (Vi i) (Vi 1) = Vi (i + 1) := add_i (by omega) (by omega)
    have hin := fun x8 x9 x10 => co9_inner h hl hp hir (x4 := x4) (x5 := x5) (x6 := x6) (x8 := x8) (x9 := x9) (x10 := x10) pl.length (k := 0) (m := m) (by omega) hm
    simp only [show ((0 : Nat) : Int) = 0 from rfl] at hin
    simp [lo203_1, TT.dv, KS.dv, hir, e1, hin]
theorem columns9_ok : val 203 [Vi r, Vi c, Vl x, Jl pl] = some [Vi r, Vi pl.length, Vl (coV r c x pl)] := by
  refine val_of tab203 ?_
  have hz := zeros_ok h.hr hl
  have hlp := co9_outer h hl hp (x4 := Vi r) (x5 := Vi pl.length) (x6 := Vl (List.replicate (r * pl.length) 0)) r (i := 0) (by omega) (zeros_mx h.hr hl)
  rw [show ((0 : Nat) : Int) = 0 from rfl] at hlp
  have he : fin2 (fun i k => ps i pl.length k) (fun i k => coG c x pl i k) pl.length r 0 (List.replicate (r * pl.length) 0) = coV r c x pl := by
    refine mat_ext (r := r) (c := pl.length) (by rw [fin2_len]; simp) (matL_len _ _ _) fun i k hi hk => ?_
    unfold coV
    rw [el_matL _ hi hk]
    exact fin2_at (pos := fun i k => ps i pl.length k) (v := fun i k => coG c x pl i k) r 0 _ (fun j k _ h2 h3 => by rw [List.length_replicate]; exact ps_lt (by omega) h3)
      (fun j k j' k' _ a b _ a' b' hh => ps_inj b b' hh) i k (Nat.zero_le _) (by omega) hk
  rw [he] at hlp
  simp [tr203, TT.dv, KS.dv, hz, hlp]
end
end Go.Proofs.YthchhkghjfendabGreat.Dx

namespace Go.Proofs.YthchhkghjfendabGreat.Dx
open Go

def P2 (k : Int) : Rat := (2 : Rat) ^ k
theorem P2_add (a b : Int) : P2 (a + b) = P2 a * P2 b := Rat.zpow_add (by decide) a b
theorem P2_pos (k : Int) : 0 < P2 k := Rat.zpow_pos (by decide)
theorem P2_zero : P2 0 = 1 := Rat.zpow_zero 2
theorem P2_nat (n : Nat) : P2 n = ((2 ^ n : Nat) : Rat) := by
  unfold P2; rw [Rat.zpow_natCast, Rat.natCast_pow]; rfl
theorem P2_sub (a b : Int) : P2 (a - b) * P2 b = P2 a := by rw [← P2_add]; exact congrArg P2 (by omega)
theorem P2_mono {a b : Int} (h : a ≤ b) : P2 a ≤ P2 b := by
  have h1 : b = a + ((b - a).toNat : Nat) := by omega
  rw [h1, P2_add, P2_nat]
  have h2 : (1 : Rat) ≤ ((2 ^ (b - a).toNat : Nat) : Rat) := by
    have : 1 ≤ 2 ^ (b - a).toNat := Nat.two_pow_pos _
    exact_mod_cast this
  have := Rat.mul_le_mul_of_nonneg_left h2 (Rat.le_of_lt (P2_pos a))
  rwa [Rat.mul_one] at this
def D (n : Nat) (p : Int) : Rat := n * P2 p
theorem D_nonneg (n : Nat) (p : Int) : 0 ≤ D n p := Rat.mul_nonneg Rat.natCast_nonneg (Rat.le_of_lt (P2_pos p))
theorem D_scale (n : Nat) (p : Int) (j : Nat) : D (n * 2 ^ j) (p - j) = D n p := by
  unfold D
  rw [Rat.natCast_mul, ← P2_nat, Rat.mul_assoc, Rat.mul_comm (P2 j), P2_sub]
theorem D_le {n m : Nat} {p : Int} : D n p ≤ D m p ↔ n ≤ m := by
  unfold D
  constructor
  · intro h; exact Rat.natCast_le_natCast.1 (Rat.le_of_mul_le_mul_right h (P2_pos p))
  · intro h; exact Rat.mul_le_mul_of_nonneg_right (Rat.natCast_le_natCast.2 h) (Rat.le_of_lt (P2_pos p))
theorem D_zero (p : Int) : D 0 p = 0 := by unfold D; simp
theorem D_mul (m n : Nat) (p q : Int) : D m p * D n q = D (m * n) (p + q) := by
  unfold D; rw [Rat.natCast_mul, P2_add]; grind
theorem D_add (m n : Nat) (p : Int) : D m p + D n p = D (m + n) p := by
  unfold D; rw [Rat.natCast_add]; grind
theorem D_shift (n : Nat) (p q : Int) : D n p * P2 q = D n (p + q) := by unfold D; rw [P2_add, Rat.mul_assoc]
theorem D_one (p : Int) : D 1 p = P2 p := by unfold D; simp
/-- A number at another place. -/
theorem D_base (n : Nat) {p b : Int} (h : b ≤ p) : D n p = D (n * 2 ^ (p - b).toNat) b := by
  have := D_scale n p (p - b).toNat
  rw [show p - ((p - b).toNat : Int) = b by omega] at this
  exact this.symm
theorem nearR_base (n : Nat) {p b : Int} (h : b ≤ p) : nearR n p = nearR (n * 2 ^ (p - b).toNat) b := by
  have := (near_scale true n p (p - b).toNat).2.2
  rw [show p - ((p - b).toNat : Int) = b by omega] at this
  exact this.symm
/-- Rounding keeps the order. -/
theorem near_mono {n m : Nat} {p q : Int} (h : D n p ≤ D m q) : nearR n p ≤ nearR m q := by
  rw [nearR_base n (Int.min_le_left p q), nearR_base m (Int.min_le_right p q)]
  rw [D_base n (Int.min_le_left p q), D_base m (Int.min_le_right p q), D_le] at h
  exact nearR_mono _ h
def W (w : Nat) : Rat := D (fMag w) (fPl w)
theorem W_nonneg (w : Nat) : 0 ≤ W w := D_nonneg _ _
theorem W_mgv (w : Nat) : W w = D (mgv (w % 9223372036854775808)) (-1074) := by
  unfold W
  rw [D_base _ (fPl_bd w).1, ← mgv_val, show fPl w - -1074 = fPl w + 1074 by omega]
theorem W_le {a b : Nat} (ha : a < 9223372036854775808) (hb : b < 9223372036854775808) : W a ≤ W b ↔ a ≤ b := by
  rw [W_mgv, W_mgv, D_le, Nat.mod_eq_of_lt ha, Nat.mod_eq_of_lt hb]
  constructor
  · intro h
    rcases Nat.lt_or_ge b a with h1 | h1
    · have := mgv_mono h1; omega
    · exact h1
  · intro h
    rcases Nat.lt_or_eq_of_le h with h1 | h1
    · exact Nat.le_of_lt (mgv_mono h1)
    · rw [h1]; exact Nat.le_refl _
theorem W_abs (w : Nat) : W (absV w) = W w := by rw [W_mgv, W_mgv]; unfold absV; rw [Nat.mod_mod]
theorem near_W {w : Nat} (h : w < infR) : nearR (fMag w) (fPl w) = w := by
  have hp := fPl_bd w
  have hm := fMag_lt w
  have hk : two52 ≤ fMag w ∨ fPl w = -1074 := by
    unfold fMag fPl two52
    by_cases c : fPow w = 0
    · right; rw [if_pos c]
    · left; rw [if_neg c]; omega
  unfold nearR
  rw [rung_fits hp.1 (by unfold two52; omega) hk]
  unfold infR at h ⊢
  unfold fMag fPl two52 fPow fFrac
  split
  · rename_i c; omega
  · rename_i c; omega
theorem near_le {n w : Nat} {p : Int} (hw : w < infR) (h : D n p ≤ W w) : nearR n p ≤ w := by
  have := near_mono h
  rwa [near_W hw] at this
theorem near_ge {n w : Nat} {p : Int} (hw : w < infR) (h : W w ≤ D n p) : w ≤ nearR n p := by
  have := near_mono h
  rwa [near_W hw] at this
theorem near_fin {n : Nat} {p : Int} (h : D n p ≤ P2 1023) : nearR n p < infR := by
  have h1 := near_le (n := n) (p := p) (w := 9214364837600034816) (by decide) (by
    refine Rat.le_trans h ?_
    unfold W
    rw [show fMag 9214364837600034816 = 2 ^ 52 from by decide, show fPl 9214364837600034816 = 971 from by decide, ← D_one 1023, D_base 1 (b := 971) (by omega)]
    exact Rat.le_refl)
  exact Nat.lt_of_le_of_lt h1 (by decide)
end Go.Proofs.YthchhkghjfendabGreat.Dx

namespace Go.Proofs.YthchhkghjfendabGreat.Dx
open Go

theorem abs_fin {b : Nat} (h : absV b < infR) : fPow b ≠ 2047 := by
  unfold absV infR at h; unfold fPow; omega
theorem fields_abs (b : Nat) : fMag (absV b) = fMag b ∧ fPl (absV b) = fPl b ∧ fPow (absV b) = fPow b ∧ fNeg (absV b) = false := by
  have h1 : fPow (absV b) = fPow b := by unfold fPow absV; omega
  have h2 : fFrac (absV b) = fFrac b := by unfold fFrac absV; omega
  refine ⟨by unfold fMag; rw [h1, h2], by unfold fPl; rw [h1], h1, by unfold fNeg absV; simp⟩
theorem absV_sgn (s : Bool) {r : Nat} (h : r ≤ infR) : absV (sgn s r) = r := (sgn_fields s h).2.2.2.1
theorem absV_near (s : Bool) (n : Nat) (p : Int) : absV (nearV s n p) = nearR n p := absV_sgn s (nearR_le n p)
theorem fin_near {s : Bool} {n : Nat} {p : Int} (h : nearR n p < infR) : fPow (nearV s n p) ≠ 2047 := abs_fin (by rw [absV_near]; exact h)
theorem fin_nan {b : Nat} (h : fPow b ≠ 2047) : ¬ nanB b := by unfold nanB; omega
theorem fin_inf {b : Nat} (h : fPow b ≠ 2047) : ¬ infB b := by unfold infB; omega
theorem mulV_fin {a b : Nat} (ha : fPow a ≠ 2047) (hb : fPow b ≠ 2047) : mulV a b = nearV (fNeg a != fNeg b) (fMag a * fMag b) (fPl a + fPl b) := by
  unfold mulV
  rw [if_neg (by simp [fin_nan ha, fin_nan hb]), if_neg (by simp [fin_inf ha, fin_inf hb])]
  split
  · rename_i h
    have : fMag a * fMag b = 0 := by rcases h with h | h <;> rw [h.1] <;> simp
    rw [this, nearV_zero]
  · rfl
theorem addV_fin {a b : Nat} (ha : fPow a ≠ 2047) (hb : fPow b ≠ 2047) : addV a b = sumV (fNeg a) (fNeg b) (fMag a) (fMag b) (fPl a) (fPl b) := by
  unfold addV
  rw [if_neg (by simp [fin_nan ha, fin_nan hb]), if_neg (fin_inf ha), if_neg (fin_inf hb)]
theorem scaleV_fin {b : Nat} (hb : b < 18446744073709551616) (h : fPow b ≠ 2047) (k : Int) : scaleV b k = nearV (fNeg b) (fMag b) (fPl b + clamp k) := by
  unfold scaleV
  rw [if_neg (fin_nan h)]
  split
  · rename_i h2
    have hz : fMag b = 0 := by omega
    rw [hz, nearV_zero]
    exact zero_word hb ⟨hz, ((mag_zero b).1 hz).1⟩
  · rfl
/-- The sum of two numbers without signs. -/
theorem add_pos {a b : Nat} (ha : a < infR) (hb : b < infR) : ∃ N p, addV a b = nearR N p ∧ D N p = W a + W b := by
  have fa : fPow a ≠ 2047 := abs_fin (by unfold absV; unfold infR at ha ⊢; omega)
  have fb : fPow b ≠ 2047 := abs_fin (by unfold absV; unfold infR at hb ⊢; omega)
  have na : fNeg a = false := by unfold fNeg; unfold infR at ha; simp; omega
  have nb : fNeg b = false := by unfold fNeg; unfold infR at hb; simp; omega
  refine ⟨fMag a * 2 ^ (fPl a - min (fPl a) (fPl b)).toNat + fMag b * 2 ^ (fPl b - min (fPl a) (fPl b)).toNat, min (fPl a) (fPl b), ?_, ?_⟩
  · rw [addV_fin fa fb, na, nb]
    unfold sumV
    rw [sg_shift, sg_shift]
    unfold sg
    simp only [Bool.false_eq_true, if_false, Bool.and_self]
    rw [← Int.natCast_add, Int.natAbs_natCast]
    split
    · rfl
    · rw [decide_eq_false (by omega)]; rfl
  · rw [← D_add, ← D_base _ (Int.min_le_left _ _), ← D_base _ (Int.min_le_right _ _)]; rfl
theorem add_ge {a b : Nat} (ha : a < infR) (hb : b < infR) : a ≤ addV a b ∧ b ≤ addV a b ∧ addV a b ≤ infR := by
  obtain ⟨N, p, h1, h2⟩ := add_pos ha hb
  have h3 := W_nonneg a
  have h4 := W_nonneg b
  rw [h1]
  exact ⟨near_ge ha (by grind), near_ge hb (by grind), nearR_le _ _⟩
theorem expB_W {b : Nat} (h : fPow b ≠ 2047) (h0 : fMag b ≠ 0) : P2 (expB b) ≤ W b ∧ W b < P2 (expB b + 1) := by
  have he : expB b = (fMag b).log2 + fPl b := by
    unfold expB; rw [if_neg (by omega), log2_bl h0]; omega
  rw [he]
  unfold W D
  constructor
  · rw [P2_add, P2_nat]
    exact Rat.mul_le_mul_of_nonneg_right (Rat.natCast_le_natCast.2 (Nat.log2_self_le h0)) (Rat.le_of_lt (P2_pos _))
  · rw [show ((fMag b).log2 : Int) + fPl b + 1 = (((fMag b).log2 + 1 : Nat) : Int) + fPl b by omega, P2_add, P2_nat]
    exact Rat.mul_lt_mul_of_pos_right (Rat.natCast_lt_natCast.2 Nat.lt_log2_self) (P2_pos _)
theorem W_exact {n : Nat} {p : Int} (h0 : n ≠ 0) (hx : exq n p = true) (hf : nearR n p < infR) : W (nearR n p) = D n p := by
  obtain ⟨q, _, h2, _, h4⟩ := near_exact false h0 hx hf
  rw [show nearV false n p = nearR n p from rfl] at h2 h4
  unfold W
  rw [h2]
  have := h4 (min (fPl (nearR n p)) p) (Int.min_le_left _ _) (Int.min_le_right _ _)
  rw [D_base q (Int.min_le_left (fPl (nearR n p)) p), this, ← D_base n (Int.min_le_right (fPl (nearR n p)) p)]
theorem W_int {c : Nat} (h : c < 9007199254740992) : nearR c 0 < infR ∧ W (nearR c 0) = c := by
  have hf : nearR c 0 < infR := near_fin (by
    unfold D
    rw [P2_zero, Rat.mul_one]
    have h1 : (c : Rat) ≤ ((2 ^ 53 : Nat) : Rat) := Rat.natCast_le_natCast.2 (Nat.le_of_lt h)
    rw [← P2_nat] at h1
    exact Rat.le_trans h1 (P2_mono (by omega)))
  refine ⟨hf, ?_⟩
  by_cases h0 : c = 0
  · subst h0
    have : nearR 0 0 = 0 := by decide
    rw [this]; unfold W; rw [show fMag 0 = 0 from by decide, D_zero]; rfl
  · have hl : c.log2 < 53 := (Nat.log2_lt h0).2 h
    have hx : exq c 0 = true := by
      unfold exq lastP
      rw [show (max ((0 : Int) + c.log2 - 52) (-1074) - 0).toNat = 0 by omega]; simp [Nat.mod_one]
    rw [W_exact h0 hx hf]
    unfold D
    rw [P2_zero, Rat.mul_one]
/-- The greatest: it is one of them. -/
theorem bigR_mem {x : List Nat} : ∀ (n : Nat) {i m : Nat}, (∀ j, i ≤ j → j < i + n → ¬ nanB (el x j)) →
    m ≤ bigR x n i m ∧ (∀ j, i ≤ j → j < i + n → absV (el x j) ≤ bigR x n i m) ∧ (bigR x n i m = m ∨ ∃ j, i ≤ j ∧ j < i + n ∧ absV (el x j) = bigR x n i m)
  | 0, i, m, _ => ⟨Nat.le_refl _, fun j h1 h2 => by omega, .inl rfl⟩
  | n + 1, i, m, h => by
    unfold bigR
    rw [if_neg (h i (Nat.le_refl _) (by omega))]
    obtain ⟨h1, h2, h3⟩ := bigR_mem n (i := i + 1) (m := max m (absV (el x i))) (fun j hj hj2 => h j (by omega) (by omega))
    refine ⟨by omega, fun j hj hj2 => ?_, ?_⟩
    · rcases Nat.eq_or_lt_of_le hj with he | he
      · subst he; omega
      · exact h2 j (by omega) (by omega)
    · rcases h3 with h3 | ⟨j, j1, j2, j3⟩
      · rcases Nat.le_total m (absV (el x i)) with hc | hc
        · exact .inr ⟨i, Nat.le_refl _, by omega, by omega⟩
        · exact .inl (by omega)
      · exact .inr ⟨j, by omega, by omega, j3⟩
end Go.Proofs.YthchhkghjfendabGreat.Dx

namespace Go.Proofs.YthchhkghjfendabGreat.Dx
open Go

section
variable {r c : Nat} {a b : Nat} (ha : a < c) (hb : b < c)
include ha hb
end
section
variable {r c j : Nat} (hjr : j < r) (hjc : j < c)
include hjr hjc
end
end Go.Proofs.YthchhkghjfendabGreat.Dx

namespace Go.Proofs.YthchhkghjfendabGreat.Dx
open Go

section
variable {r : Nat} {ms : List Mir} (hms : MsOK r ms) (hml : ms.length ≤ r)
include hms hml
end
end Go.Proofs.YthchhkghjfendabGreat.Dx

namespace Go.Proofs.YthchhkghjfendabGreat.Dx
open Go

def Ints (l : List Int) : Prop := ∀ a ∈ l, -9223372036854775808 ≤ a ∧ a < 9223372036854775808
theorem pv_li {p : PV} (h : PvT (.sl .i64) p) : ∃ l : List Int, p = Jl l ∧ Ints l ∧ l.length ≤ 17592186043904 := by
  obtain ⟨zs, rfl, hw, hl⟩ := h
  refine ⟨zs, rfl, fun a ha => wf_i64 (hw a ha), ?_⟩
  have : IntKind.i64.bits / 8 = 8 := rfl
  rw [this] at hl
  unfold reachBytes at hl
  omega
section
variable {r c : Nat} {x : List Nat} (h : Mx r c x)
include h
end
section
variable {C : Int} {pl : List Int} (hl : pl.length ≤ 17592186043904)
include hl
end
section
variable {r c : Nat} {x : List Nat} (h : Mx r c x) {pl : List Int} (hl : pl.length ≤ 6) (hp : ∀ k, k < pl.length → 0 ≤ ei pl k ∧ ei pl k < c)
include h hl hp
end
end Go.Proofs.YthchhkghjfendabGreat.Dx

namespace Go.Proofs.YthchhkghjfendabGreat.Dx
open Go

theorem awake_19 : val 84 [] = some [Vb true] := val_iff.2 ⟨20000, by kernel_rfl⟩
end Go.Proofs.YthchhkghjfendabGreat.Dx

namespace Go.Proofs.YthchhkghjfendabGreat.Dx
open Go

theorem cmp3_neg (a b : Int) : cmp3 a b < 0 ↔ 0 < cmp3 b a := by unfold cmp3; split <;> split <;> (try split) <;> omega
theorem ordOk_comm (a b : Nat) : ordOk a b = ordOk b a := by unfold ordOk; exact decide_eq_decide.2 (And.comm)
theorem ord_flip (a b : Nat) : decide (ordI a b < 0) = (ordOk b a && decide (0 < ordI b a)) := by
  unfold ordI
  rw [ordOk_comm b a]
  cases h : ordOk a b
  · simp
  · simp only [if_true, Bool.true_and]
    exact decide_eq_decide.2 (cmp3_neg _ _)
theorem more_ok {a b : Nat} (ha : a < 18446744073709551616) (hb : b < 18446744073709551616) : val 225 [Vu a, Vu b] = some [Vb (decide (ordI b a < 0))] := by
  refine val_of tab225 ?_
  have o1 := order8_ok ha hb
  rw [ord_flip]
  cases h : ordOk a b
  · rw [h] at o1
    simp [tr225, TT.dv, o1]
  · rw [h] at o1
    simp [tr225, TT.dv, o1]
def rkR (x : List Nat) : Nat → Nat → Nat
  | 0, j => j
  | n + 1, j => if ordI (scaleV (el x 0) (-40)) (el x j) < 0 then rkR x n (j + 1) else j
section
variable {x : List Nat} (hx : Words x) (hl : x.length ≤ 17592186043904)
include hx hl
theorem rk_loop : ∀ (n : Nat) {j : Nat}, j + n = x.length →
    rounds (fun vs => lo292_1.dv (Vl x :: vs)) [Vi j, Vi j] = some (.y (.ext 0) [Vi (rkR x n j)]) := by
  intro n
  induction n with
  | zero =>
    intro j hj
    refine rounds_exit ?_ (by simp)
    simp [lo292_1, TT.dv, show ¬ j < x.length by omega, rkR]
  | succ n ih =>
    intro j hj
    have hlt : j < x.length := by omega
    have h0 : 0 < x.length := by omega
    have g1 := get_V hlt
    have g0 := get_V h0
    rw [show ((0 : Nat) : Int) = 0 from rfl] at g0
    have s0 := vshift_ok (el x 0) (-40)
    have ls := less_ok (a := scaleV (el x 0) (-40)) (b := el x j) (scaleV_lt (hx.el 0) _) (hx.el j)
    have e1 : (B.add .i64).den (Vi j) (Vi 1) = Vi ((j + 1 : Nat) : Int) := by rw [add_i (by omega) (by omega)]; rfl
    unfold rkR
    by_cases c : ordI (scaleV (el x 0) (-40)) (el x j) < 0
    · rw [decide_eq_true c] at ls
      rw [if_pos c, ← ih (j := j + 1) (by omega)]
      refine rounds_cont ?_
      generalize ((j + 1 : Nat) : Int) = z at *
      simp [lo292_1, TT.dv, hlt, h0, g0, g1, s0, ls, e1]
    · rw [decide_eq_false c] at ls
      rw [if_neg c]
      refine rounds_exit ?_ (by simp)
      simp [lo292_1, TT.dv, hlt, h0, g0, g1, s0, ls]
theorem srank_ok : val 292 [Vl x] = some [Vi (rkR x x.length 0)] := by
  refine val_of tab292 ?_
  have lp := rk_loop hx hl x.length (j := 0) (by omega)
  simp only [show ((0 : Nat) : Int) = 0 from rfl] at lp
  simp [tr292, TT.dv, KS.dv, lp]
theorem rk9_loop : ∀ (n : Nat) {j : Nat}, j + n = x.length →
    rounds (fun vs => lo222_1.dv (Vl x :: vs)) [Vi j] = some (.y (.ext 0) [Vi (rkR x n j)]) := by
  intro n
  induction n with
  | zero =>
    intro j hj
    refine rounds_exit ?_ (by simp)
    simp [lo222_1, TT.dv, show ¬ j < x.length by omega, rkR]
  | succ n ih =>
    intro j hj
    have hlt : j < x.length := by omega
    have h0 : 0 < x.length := by omega
    have g1 := get_V hlt
    have g0 := get_V h0
    rw [show ((0 : Nat) : Int) = 0 from rfl] at g0
    have s0 := shift9_ok (b := el x 0) (hx.el 0) (k := -40) (by omega) (by omega)
    have ls := more_ok (a := el x j) (b := scaleV (el x 0) (-40)) (hx.el j) (scaleV_lt (hx.el 0) _)
    have e1 : (B.add .i64).den (Vi j) (Vi 1) = Vi ((j + 1 : Nat) : Int) := by rw [add_i (by omega) (by omega)]; rfl
    unfold rkR
    by_cases c : ordI (scaleV (el x 0) (-40)) (el x j) < 0
    · rw [decide_eq_true c] at ls
      rw [if_pos c, ← ih (j := j + 1) (by omega)]
      refine rounds_cont ?_
      generalize ((j + 1 : Nat) : Int) = z at *
      simp [lo222_1, TT.dv, hlt, h0, g0, g1, s0, ls, e1]
    · rw [decide_eq_false c] at ls
      rw [if_neg c]
      refine rounds_exit ?_ (by simp)
      simp [lo222_1, TT.dv, hlt, h0, g0, g1, s0, ls]
theorem srank9_ok : val 222 [Vl x] = some [Vi (rkR x x.length 0)] := by
  refine val_of tab222 ?_
  have lp := rk9_loop hx hl x.length (j := 0) (by omega)
  simp only [show ((0 : Nat) : Int) = 0 from rfl] at lp
  simp [tr222, TT.dv, KS.dv, lp]
end
end Go.Proofs.YthchhkghjfendabGreat.Dx

namespace Go.Proofs.YthchhkghjfendabGreat.Dx
open Go

structure UP where
  W : List Nat
  V : List Nat
structure MxU (r c : Nat) (s : UP) : Prop where
  W : Mx r c s.W
  V : Mx c c s.V
def one8 : Nat := 4607182418800017408
def svBe (x y : List Nat) (low : Nat) : Bool := !(decide (ordI low (normV x) < 0)) || !(decide (ordI low (normV y) < 0)) || !(decide (ordI (scaleV (mulV (normV x) (normV y)) (-44)) (absV (dotV x y)) < 0))
def svZ (x y : List Nat) : Nat := divV (subV (dotV y y) (dotV x x)) (addV (dotV x y) (dotV x y))
def svT0 (z : Nat) : Nat := divV one8 (addV (absV z) (sqrtV (addV one8 (mulV z z))))
def svT (z : Nat) : Nat := if fNeg z then fMinus (svT0 z) else svT0 z
def svC (t : Nat) : Nat := divV one8 (sqrtV (addV one8 (mulV t t)))
def svCC (x y : List Nat) : Nat := svC (svT (svZ x y))
def svSS (x y : List Nat) : Nat := mulV (svC (svT (svZ x y))) (svT (svZ x y))
theorem svT_lt (z : Nat) : svT z < 18446744073709551616 := by
  unfold svT
  split
  · exact (minus_neg divV_lt).2.2.2
  · exact divV_lt
section
variable {x y : List Nat} (hx : Words x) (hy : Words y) (hl : x.length ≤ 6) (hxy : y.length = x.length) {low : Nat} (hlow : low < 18446744073709551616)
include hx hy hl hxy hlow
theorem dots (a b : List Nat) (ha : Words a) (hb : Words b) (h1 : a.length ≤ 6) (h2 : b.length = a.length) : val 311 [Vl a, Vl b] = some [Vu (dotV a b), Vi 0] ∧ val 153 [Vl a, Vl b] = some [Vu (dotV a b)] := by
  have d := dot_ok ha hb
  rw [if_pos ⟨h2.symm, by omega⟩] at d
  refine ⟨d, ?_⟩
  have hlp := dot9_loop ha hb h2.symm (by omega) a.length (i := 0) (s := 0) (by omega) (by decide)
  rw [show ((0 : Nat) : Int) = 0 from rfl] at hlp
  refine val_of tab153 ?_
  simp [tr153, TT.dv, KS.dv, hlp, dotV]
theorem be9_ok : val 224 [Vl x, Vl y, Vu low] = some [Vb (svBe x y low)] := by
  refine val_of tab224 ?_
  have n1 := norm_9_ok hx (by omega)
  have n2 := norm_9_ok hy (by omega)
  have l1 := normV_lt x hx
  have l2 := normV_lt y hy
  have m1 := mul9_ok l1 l2
  have s1 := shift9_ok (b := mulV (normV x) (normV y)) mulV_lt (k := -44) (by omega) (by omega)
  have c1 := more_ok l1 hlow
  have c2 := more_ok l2 hlow
  have d1 := (dots hx hy hl hxy hlow x y hx hy hl hxy).2
  have a1 : val 140 [Vu (dotV x y)] = some [Vu (absV (dotV x y))] := abs8_ok (dotR_lt _ (by decide))
  have c3 := more_ok (a := absV (dotV x y)) (b := scaleV (mulV (normV x) (normV y)) (-44)) (by have := absV_lt (dotV x y); omega) (scaleV_lt mulV_lt _)
  unfold svBe
  cases e1 : decide (ordI low (normV x) < 0)
  · rw [e1] at c1
    simp [tr224, TT.dv, n1, n2, m1, s1, c1]
  · rw [e1] at c1
    cases e2 : decide (ordI low (normV y) < 0)
    · rw [e2] at c2
      simp [tr224, TT.dv, n1, n2, m1, s1, c1, c2]
    · rw [e2] at c2
      cases e3 : decide (ordI (scaleV (mulV (normV x) (normV y)) (-44)) (absV (dotV x y)) < 0)
      · rw [e3] at c3
        simp [tr224, TT.dv, n1, n2, m1, s1, c1, c2, d1, a1, c3]
      · rw [e3] at c3
        simp [tr224, TT.dv, n1, n2, m1, s1, c1, c2, d1, a1, c3]
theorem turn19_ok : val 229 [Vl x, Vl y] = some [Vu (svCC x y), Vu (svSS x y)] := by
  refine val_of tab229 ?_
  have d1 := (dots hx hy hl hxy hlow x y hx hy hl hxy).2
  have d2 := (dots hx hy hl hxy hlow y y hy hy (by omega) rfl).2
  have d3 := (dots hx hy hl hxy hlow x x hx hx hl rfl).2
  have w : ∀ a b : List Nat, dotV a b < 18446744073709551616 := fun a b => dotR_lt _ (by decide)
  have s1 := sub9_ok (w y y) (w x x)
  have a1 := add9_ok (w x y) (w x y)
  have v1 := div9_ok (a := subV (dotV y y) (dotV x x)) (b := addV (dotV x y) (dotV x y)) (subV_lt (w y y) (w x x)) (addV_lt (w x y) (w x y))
  rw [show divV (subV (dotV y y) (dotV x x)) (addV (dotV x y) (dotV x y)) = svZ x y from rfl] at v1
  have hz : svZ x y < 18446744073709551616 := divV_lt
  unfold svCC svSS
  generalize svZ x y = z at *
  have m1 := mul9_ok hz hz
  have o8 : one8 < 18446744073709551616 := by decide
  have a2 := add9_ok o8 (mulV_lt (a := z) (b := z))
  have q1 := sqrt9_ok (b := addV one8 (mulV z z)) (addV_lt o8 mulV_lt)
  have b1 : val 140 [Vu z] = some [Vu (absV z)] := abs8_ok hz
  have haz : absV z < 18446744073709551616 := by have := absV_lt z; omega
  have hsq : sqrtV (addV one8 (mulV z z)) < 18446744073709551616 := sqrtV_lt (addV_lt o8 mulV_lt)
  have a3 := add9_ok haz hsq
  have v2 := div9_ok o8 (addV_lt haz hsq)
  rw [show divV one8 (addV (absV z) (sqrtV (addV one8 (mulV z z)))) = svT0 z from rfl] at v2
  have n1 := neg4_ok hz
  have hn : val 123 [Vu (svT0 z)] = some [Vu (fMinus (svT0 z))] := minus4_ok divV_lt
  have ht := svT_lt z
  have hts : svT z = if fNeg z then fMinus (svT0 z) else svT0 z := rfl
  have m2 := mul9_ok ht ht
  have a4 := add9_ok o8 (mulV_lt (a := svT z) (b := svT z))
  have q2 := sqrt9_ok (b := addV one8 (mulV (svT z) (svT z))) (addV_lt o8 mulV_lt)
  have v3 := div9_ok o8 (sqrtV_lt (b := addV one8 (mulV (svT z) (svT z))) (addV_lt o8 mulV_lt))
  rw [show divV one8 (sqrtV (addV one8 (mulV (svT z) (svT z)))) = svC (svT z) from rfl] at v3
  have m3 := mul9_ok (a := svC (svT z)) (b := svT z) divV_lt ht
  unfold one8 at a2 q1 a3 v2 a4 q2 v3
  refine Eq.trans (st_call rfl d1 rfl) ?_
  refine Eq.trans (st_call rfl d2 rfl) ?_
  refine Eq.trans (st_call rfl d3 rfl) ?_
  refine Eq.trans (st_call rfl s1 rfl) ?_
  simp only [List.cons_append, List.nil_append]
  refine Eq.trans (st_call rfl a1 rfl) ?_
  refine Eq.trans (st_call rfl v1 rfl) ?_
  refine Eq.trans (st_call rfl m1 rfl) ?_
  refine Eq.trans (st_call rfl (by simpa using a2) rfl) ?_
  simp only [List.cons_append, List.nil_append]
  refine Eq.trans (st_call rfl q1 rfl) ?_
  refine Eq.trans (st_call rfl b1 rfl) ?_
  refine Eq.trans (st_call rfl a3 rfl) ?_
  refine Eq.trans (st_call rfl (by simpa using v2) rfl) ?_
  simp only [List.cons_append, List.nil_append]
  refine Eq.trans (st_scope (x := .norm) (vs := [Vu (svT z)]) ?_) ?_
  · refine Eq.trans (st_call rfl n1 rfl) ?_
    by_cases hs : fNeg z = true
    · rw [if_pos hs] at hts
      rw [hts, hs]
      refine Eq.trans (st_t rfl) ?_
      refine Eq.trans (st_call rfl hn rfl) ?_
      rfl
    · rw [if_neg hs] at hts
      simp only [Bool.not_eq_true] at hs
      rw [hts, hs]
      exact Eq.trans (st_f rfl) rfl
  refine Eq.trans st_hit ?_
  simp only [List.cons_append, List.nil_append]
  refine Eq.trans (st_call rfl m2 rfl) ?_
  refine Eq.trans (st_call rfl (by simpa using a4) rfl) ?_
  refine Eq.trans (st_call rfl q2 rfl) ?_
  refine Eq.trans (st_call rfl (by simpa using v3) rfl) ?_
  simp only [List.cons_append, List.nil_append]
  refine Eq.trans (st_call rfl m3 rfl) ?_
  rfl
end
section
variable {r c : Nat} {w : List Nat} (h : Mx r c w) {p q : Nat} (hp : p < c) (hq : q < c) {low : Nat} (hlow : low < 18446744073709551616)
include h hp hq hlow
theorem sturn_ok : val 299 [Vi r, Vi c, Vl w, Vi p, Vi q, Vu low] = some (if svBe (colL r c w p 0) (colL r c w q 0) low then [Vu 0, Vu 0, Vb true] else [Vu (svCC (colL r c w p 0) (colL r c w q 0)), Vu (svSS (colL r c w p 0) (colL r c w q 0)), Vb false]) := by
  refine val_of tab299 ?_
  have hr := h.hr
  have c1 := column_ok h hp (f := 0) (by omega)
  have c2 := column_ok h hq (f := 0) (by omega)
  rw [show ((0 : Nat) : Int) = 0 from rfl] at c1 c2
  have hx := colL_words h p 0
  have hy := colL_words h q 0
  have lx : (colL r c w p 0).length = r := by rw [colL_len]; omega
  have ly : (colL r c w q 0).length = r := by rw [colL_len]; omega
  generalize colL r c w p 0 = x at *
  generalize colL r c w q 0 = y at *
  have hl : x.length ≤ 6 := by omega
  have hxy : y.length = x.length := by omega
  have n1 := norm_v_ok hx (by omega)
  have n2 := norm_v_ok hy (by omega)
  rw [if_pos (by omega)] at n1 n2
  have l1 := normV_lt x hx
  have l2 := normV_lt y hy
  have d1 := (dots hx hy hl hxy hlow x y hx hy hl hxy).1
  have d2 := (dots hx hy hl hxy hlow y y hy hy (by omega) rfl).1
  have d3 := (dots hx hy hl hxy hlow x x hx hx hl rfl).1
  have m0 := vmul_ok l1 l2
  have s0 := vshift_ok (mulV (normV x) (normV y)) (-44)
  have t1 := less_ok hlow l1
  have t2 := less_ok hlow l2
  have w : ∀ a b : List Nat, dotV a b < 18446744073709551616 := fun a b => dotR_lt _ (by decide)
  have a0 : val 3 [Vu (dotV x y)] = some [Vu (absV (dotV x y))] := abs_ok _
  have t3 := less_ok (a := scaleV (mulV (normV x) (normV y)) (-44)) (b := absV (dotV x y)) (scaleV_lt mulV_lt _) (by have := absV_lt (dotV x y); omega)
  have hbe : svBe x y low = (!(decide (ordI low (normV x) < 0)) || !(decide (ordI low (normV y) < 0)) || !(decide (ordI (scaleV (mulV (normV x) (normV y)) (-44)) (absV (dotV x y)) < 0))) := rfl
  refine Eq.trans (st_call rfl c1 rfl) ?_
  refine Eq.trans (st_call rfl c2 rfl) ?_
  refine Eq.trans (st_call rfl n1 rfl) ?_
  refine Eq.trans (st_call rfl n2 rfl) ?_
  simp only [List.cons_append, List.nil_append]
  refine Eq.trans (st_call rfl d1 rfl) ?_
  refine Eq.trans (st_call rfl m0 rfl) ?_
  refine Eq.trans (st_call rfl s0 rfl) ?_
  refine Eq.trans (st_call rfl t1 rfl) ?_
  simp only [List.cons_append, List.nil_append]
  rw [hbe]
  cases e1 : decide (ordI low (normV x) < 0)
  · refine Eq.trans (st_skip rfl) ?_
    refine Eq.trans (st_skip rfl) ?_
    refine Eq.trans (st_skip rfl) ?_
    refine Eq.trans (st_t rfl) ?_
    rfl
  refine Eq.trans (st_call rfl t2 rfl) ?_
  cases e2 : decide (ordI low (normV y) < 0)
  · refine Eq.trans (st_skip rfl) ?_
    refine Eq.trans (st_skip rfl) ?_
    refine Eq.trans (st_t rfl) ?_
    rfl
  refine Eq.trans (st_call rfl a0 rfl) ?_
  simp only [List.cons_append, List.nil_append]
  refine Eq.trans (st_call rfl t3 rfl) ?_
  cases e3 : decide (ordI (scaleV (mulV (normV x) (normV y)) (-44)) (absV (dotV x y)) < 0)
  · refine Eq.trans (st_t rfl) ?_
    rfl
  refine Eq.trans (st_f rfl) ?_
  simp only [List.cons_append, List.nil_append]
  simp only [Bool.not_true, Bool.or_false, Bool.false_eq_true, if_false]
  have s1 := vsub_ok (w y y) (w x x)
  have a1 := vadd_ok (w x y) (w x y)
  have v1 := vdiv_ok (a := subV (dotV y y) (dotV x x)) (b := addV (dotV x y) (dotV x y)) (subV_lt (w y y) (w x x)) (addV_lt (w x y) (w x y))
  rw [show divV (subV (dotV y y) (dotV x x)) (addV (dotV x y) (dotV x y)) = svZ x y from rfl] at v1
  have hz : svZ x y < 18446744073709551616 := divV_lt
  unfold svCC svSS
  clear t3 a0 t2 t1 s0 m0 hbe e1 e2 e3
  generalize svZ x y = z at *
  have m1 := vmul_ok hz hz
  have o8 : one8 < 18446744073709551616 := by decide
  have a2 := vadd_ok o8 (mulV_lt (a := z) (b := z))
  have q1 := vsqrt_ok (b := addV one8 (mulV z z)) (addV_lt o8 mulV_lt)
  have b1 : val 3 [Vu z] = some [Vu (absV z)] := abs_ok _
  have haz : absV z < 18446744073709551616 := by have := absV_lt z; omega
  have hsq : sqrtV (addV one8 (mulV z z)) < 18446744073709551616 := sqrtV_lt (addV_lt o8 mulV_lt)
  have a3 := vadd_ok haz hsq
  have v2 := vdiv_ok o8 (addV_lt haz hsq)
  rw [show divV one8 (addV (absV z) (sqrtV (addV one8 (mulV z z)))) = svT0 z from rfl] at v2
  have n3 := sign_ok z
  have hn : val 282 [Vu (svT0 z)] = some [Vu (fMinus (svT0 z))] := minus_ok divV_lt
  have ht := svT_lt z
  have hts : svT z = if fNeg z then fMinus (svT0 z) else svT0 z := rfl
  have m2 := vmul_ok ht ht
  have a4 := vadd_ok o8 (mulV_lt (a := svT z) (b := svT z))
  have q2 := vsqrt_ok (b := addV one8 (mulV (svT z) (svT z))) (addV_lt o8 mulV_lt)
  have v3 := vdiv_ok o8 (sqrtV_lt (b := addV one8 (mulV (svT z) (svT z))) (addV_lt o8 mulV_lt))
  rw [show divV one8 (sqrtV (addV one8 (mulV (svT z) (svT z)))) = svC (svT z) from rfl] at v3
  have m3 := vmul_ok (a := svC (svT z)) (b := svT z) divV_lt ht
  unfold one8 at a2 q1 a3 v2 a4 q2 v3
  refine Eq.trans (st_call rfl d3 rfl) ?_
  refine Eq.trans (st_call rfl d2 rfl) ?_
  simp only [List.cons_append, List.nil_append]
  refine Eq.trans (st_call rfl s1 rfl) ?_
  refine Eq.trans (st_call rfl a1 rfl) ?_
  refine Eq.trans (st_call rfl v1 rfl) ?_
  refine Eq.trans (st_call rfl m1 rfl) ?_
  simp only [List.cons_append, List.nil_append]
  refine Eq.trans (st_call rfl (by simpa using a2) rfl) ?_
  refine Eq.trans (st_call rfl q1 rfl) ?_
  refine Eq.trans (st_call rfl b1 rfl) ?_
  refine Eq.trans (st_call rfl a3 rfl) ?_
  simp only [List.cons_append, List.nil_append]
  refine Eq.trans (st_call rfl (by simpa using v2) rfl) ?_
  simp only [List.cons_append, List.nil_append]
  refine Eq.trans (st_scope (x := .norm) (vs := [Vu (svT z)]) ?_) ?_
  · refine Eq.trans (st_call rfl n3 rfl) ?_
    by_cases hs : fNeg z = true
    · rw [if_pos hs] at hts
      rw [hts, hs]
      refine Eq.trans (st_t rfl) ?_
      refine Eq.trans (st_call rfl hn rfl) ?_
      rfl
    · rw [if_neg hs] at hts
      simp only [Bool.not_eq_true] at hs
      rw [hts, hs]
      exact Eq.trans (st_f rfl) rfl
  refine Eq.trans st_hit ?_
  simp only [List.cons_append, List.nil_append]
  refine Eq.trans (st_call rfl m2 rfl) ?_
  refine Eq.trans (st_call rfl (by simpa using a4) rfl) ?_
  refine Eq.trans (st_call rfl q2 rfl) ?_
  refine Eq.trans (st_call rfl (by simpa using v3) rfl) ?_
  simp only [List.cons_append, List.nil_append]
  refine Eq.trans (st_call rfl m3 rfl) ?_
  rfl
end
end Go.Proofs.YthchhkghjfendabGreat.Dx

namespace Go.Proofs.YthchhkghjfendabGreat.Dx
open Go

/-- Two columns turned, or let be. -/
def svS (r c low p q : Nat) (s : UP × Bool) : UP × Bool :=
  if svBe (colL r c s.1.W p 0) (colL r c s.1.W q 0) low then s else
  (⟨colV r c s.1.W p q (svCC (colL r c s.1.W p 0) (colL r c s.1.W q 0)) (fMinus (svSS (colL r c s.1.W p 0) (colL r c s.1.W q 0))),
    colV c c s.1.V p q (svCC (colL r c s.1.W p 0) (colL r c s.1.W q 0)) (fMinus (svSS (colL r c s.1.W p 0) (colL r c s.1.W q 0)))⟩, false)
def svIn (r c low p : Nat) : Nat → Nat → UP × Bool → UP × Bool
  | 0, _, s => s
  | n + 1, q, s => svIn r c low p n (q + 1) (svS r c low p q s)
def svOut (r c low : Nat) : Nat → Nat → UP × Bool → UP × Bool
  | 0, _, s => s
  | n + 1, p, s => svOut r c low n (p + 1) (svIn r c low p (c - (p + 1)) (p + 1) s)
def svRd (r c low : Nat) (s : UP) : UP × Bool := svOut r c low c 0 (s, true)
def svAll (r c low : Nat) : Nat → UP → Option UP
  | 0, _ => none
  | n + 1, s => if (svRd r c low s).2 then some (svRd r c low s).1 else svAll r c low n (svRd r c low s).1
theorem svS_mx {r c low p q : Nat} (hp : p < c) (hq : q < c) {s : UP × Bool} (h : MxU r c s.1) : MxU r c (svS r c low p q s).1 := by
  unfold svS
  split
  · exact h
  · have l1 : svCC (colL r c s.1.W p 0) (colL r c s.1.W q 0) < 18446744073709551616 := divV_lt
    have l2 : fMinus (svSS (colL r c s.1.W p 0) (colL r c s.1.W q 0)) < 18446744073709551616 := (minus_neg mulV_lt).2.2.2
    exact ⟨colV_mx h.W l1 l2 hp hq, colV_mx h.V l1 l2 hp hq⟩
theorem svIn_mx {r c low p : Nat} (hp : p < c) : ∀ (n q : Nat) {s : UP × Bool}, q + n ≤ c → MxU r c s.1 → MxU r c (svIn r c low p n q s).1
  | 0, _, _, _, h => h
  | n + 1, q, s, hq, h => svIn_mx hp n (q + 1) (by omega) (svS_mx hp (by omega) h)
theorem svOut_mx {r c low : Nat} : ∀ (n p : Nat) {s : UP × Bool}, p + n ≤ c → MxU r c s.1 → MxU r c (svOut r c low n p s).1
  | 0, _, _, _, h => h
  | n + 1, p, s, hp, h => svOut_mx n (p + 1) (by omega) (svIn_mx (by omega) _ _ (by omega) h)
theorem svRd_mx {r c low : Nat} {s : UP} (h : MxU r c s) : MxU r c (svRd r c low s).1 := svOut_mx c 0 (by omega) h
theorem svAll_mx {r c low : Nat} : ∀ (n : Nat) {s s' : UP}, MxU r c s → svAll r c low n s = some s' → MxU r c s'
  | 0, s, s', _, he => by cases he
  | n + 1, s, s', h, he => by
    unfold svAll at he
    split at he
    · cases he; exact svRd_mx h
    · exact svAll_mx n (svRd_mx h) he

theorem sv_in {r c low p : Nat} (hlow : low < 18446744073709551616) (hp : p < c) {x0 x1 x2 x3 x4 x5 x7 x8 x9 x10 x11 x12 x13 x14 x15 x17 x18 x19 x20 x21 x22 : PV} : ∀ (n : Nat) {q : Nat} {s : UP × Bool}, q + n = c → p < q → MxU r c s.1 →
    rounds (fun vs => lo297_3.dv (x0 :: x1 :: x2 :: x3 :: x4 :: x5 :: Vu low :: x7 :: x8 :: x9 :: x10 :: x11 :: x12 :: x13 :: x14 :: x15 :: Vi p :: x17 :: x18 :: x19 :: x20 :: x21 :: x22 :: vs)) [Vb s.2, Vi q, Vi c, Vi c, Vl s.1.V, Vi r, Vi c, Vl s.1.W] = some (.y (.ext 4) [Vb (svIn r c low p n q s).2, Vi c, Vi c, Vl (svIn r c low p n q s).1.V, Vi r, Vi c, Vl (svIn r c low p n q s).1.W]) := by
  intro n
  induction n with
  | zero =>
    intro q s hq hpq h
    refine rounds_exit ?_ (by simp)
    have hc : (B.lt.den (Vi q) (Vi c)).bool = false := by simp; omega
    exact Eq.trans (st_f hc) rfl
  | succ n ih =>
    intro q s hq hpq h
    have hqc : q < c := by omega
    have hc6 := h.W.hc
    have hc : (B.lt.den (Vi q) (Vi c)).bool = true := by simp; omega
    have e1 : (B.add .i64).den (Vi q) (Vi 1) = Vi ((q + 1 : Nat) : Int) := by rw [add_i (by omega) (by omega)]; rfl
    have t1 := sturn_ok h.W hp hqc hlow
    have hih := ih (q := q + 1) (s := svS r c low p q s) (by omega) (by omega) (svS_mx hp hqc h)
    rw [show svIn r c low p (n + 1) q s = svIn r c low p n (q + 1) (svS r c low p q s) from rfl]
    have key : rounds (fun vs => lo297_3.dv (x0 :: x1 :: x2 :: x3 :: x4 :: x5 :: Vu low :: x7 :: x8 :: x9 :: x10 :: x11 :: x12 :: x13 :: x14 :: x15 :: Vi p :: x17 :: x18 :: x19 :: x20 :: x21 :: x22 :: vs)) [Vb s.2, Vi q, Vi c, Vi c, Vl s.1.V, Vi r, Vi c, Vl s.1.W] = rounds (fun vs => lo297_3.dv (x0 :: x1 :: x2 :: x3 :: x4 :: x5 :: Vu low :: x7 :: x8 :: x9 :: x10 :: x11 :: x12 :: x13 :: x14 :: x15 :: Vi p :: x17 :: x18 :: x19 :: x20 :: x21 :: x22 :: vs)) [Vb (svS r c low p q s).2, Vi ((q + 1 : Nat) : Int), Vi c, Vi c, Vl (svS r c low p q s).1.V, Vi r, Vi c, Vl (svS r c low p q s).1.W] := by
      rw [← e1]
      refine rounds_cont ?_
      refine Eq.trans (st_t hc) ?_
      by_cases hb : svBe (colL r c s.1.W p 0) (colL r c s.1.W q 0) low = true
      · have hs : svS r c low p q s = s := by unfold svS; rw [if_pos hb]
        rw [if_pos hb] at t1
        rw [hs]
        refine Eq.trans (st_scope (x := .norm) (vs := [Vb s.2, Vi c, Vi c, Vl s.1.V, Vi r, Vi c, Vl s.1.W]) ?_) ?_
        · refine Eq.trans (st_call rfl t1 rfl) ?_
          exact Eq.trans (st_t rfl) rfl
        refine Eq.trans st_hit ?_
        rfl
      · have hs : svS r c low p q s = (⟨colV r c s.1.W p q (svCC (colL r c s.1.W p 0) (colL r c s.1.W q 0)) (fMinus (svSS (colL r c s.1.W p 0) (colL r c s.1.W q 0))), colV c c s.1.V p q (svCC (colL r c s.1.W p 0) (colL r c s.1.W q 0)) (fMinus (svSS (colL r c s.1.W p 0) (colL r c s.1.W q 0)))⟩, false) := by unfold svS; rw [if_neg hb]
        rw [if_neg hb] at t1
        have l1 : svCC (colL r c s.1.W p 0) (colL r c s.1.W q 0) < 18446744073709551616 := divV_lt
        have l0 : svSS (colL r c s.1.W p 0) (colL r c s.1.W q 0) < 18446744073709551616 := mulV_lt
        have l2 : fMinus (svSS (colL r c s.1.W p 0) (colL r c s.1.W q 0)) < 18446744073709551616 := (minus_neg mulV_lt).2.2.2
        have m1 := minus_ok l0
        have w1 := cols_ok h.W l1 l2 hp hqc (by omega)
        have w2 := cols_ok h.V l1 l2 hp hqc (by omega)
        rw [hs]
        generalize svCC (colL r c s.1.W p 0) (colL r c s.1.W q 0) = C at *
        generalize fMinus (svSS (colL r c s.1.W p 0) (colL r c s.1.W q 0)) = S at *
        generalize svSS (colL r c s.1.W p 0) (colL r c s.1.W q 0) = S0 at *
        generalize colV r c s.1.W p q C S = W' at *
        generalize colV c c s.1.V p q C S = V' at *
        refine Eq.trans (st_scope (x := .norm) (vs := [Vb false, Vi c, Vi c, Vl V', Vi r, Vi c, Vl W']) ?_) ?_
        · refine Eq.trans (st_call rfl t1 rfl) ?_
          refine Eq.trans (st_f rfl) ?_
          simp only [List.cons_append, List.nil_append]
          refine Eq.trans (st_call rfl m1 rfl) ?_
          refine Eq.trans (st_call rfl w1 rfl) ?_
          simp only [List.cons_append, List.nil_append]
          refine Eq.trans (st_call rfl m1 rfl) ?_
          refine Eq.trans (st_call rfl w2 rfl) ?_
          rfl
        refine Eq.trans st_hit ?_
        rfl
    rw [key]
    exact hih

theorem sv_out {r c low : Nat} (hlow : low < 18446744073709551616) {x0 x1 x2 x3 x4 x5 x7 x8 x9 x10 x11 x12 x14 : PV} : ∀ (n : Nat) {p : Nat} {s : UP × Bool}, p + n = c → MxU r c s.1 →
    rounds (fun vs => lo297_2.dv (x0 :: x1 :: x2 :: x3 :: x4 :: x5 :: Vu low :: x7 :: x8 :: x9 :: x10 :: x11 :: x12 :: Vi c :: x14 :: vs)) [Vb s.2, Vi p, Vi c, Vi c, Vl s.1.V, Vi r, Vi c, Vl s.1.W] = some (.y (.ext 2) [Vb (svOut r c low n p s).2, Vi c, Vi c, Vl (svOut r c low n p s).1.V, Vi r, Vi c, Vl (svOut r c low n p s).1.W]) := by
  intro n
  induction n with
  | zero =>
    intro p s hp h
    refine rounds_exit ?_ (by simp)
    have hc : (B.lt.den (Vi p) (Vi c)).bool = false := by simp; omega
    exact Eq.trans (st_f hc) rfl
  | succ n ih =>
    intro p s hp h
    have hpc : p < c := by omega
    have hc6 := h.W.hc
    have hc : (B.lt.den (Vi p) (Vi c)).bool = true := by simp; omega
    have e1 : (B.add .i64).den (Vi p) (Vi 1) = Vi ((p + 1 : Nat) : Int) := by rw [add_i (by omega) (by omega)]; rfl
    have hl := sv_in (r := r) (c := c) hlow hpc (x0 := x0) (x1 := x1) (x2 := x2) (x3 := x3) (x4 := x4) (x5 := x5) (x7 := x7) (x8 := x8) (x9 := x9) (x10 := x10) (x11 := x11) (x12 := x12) (x14 := x14) (x13 := Vi c) (x15 := Vb s.2) (x17 := Vi c) (x18 := Vi c) (x19 := Vl s.1.V) (x20 := Vi r) (x21 := Vi c) (x22 := Vl s.1.W) (c - (p + 1)) (q := p + 1) (s := s) (by omega) (by omega) h
    have hih := ih (p := p + 1) (s := svIn r c low p (c - (p + 1)) (p + 1) s) (by omega) (svIn_mx hpc _ _ (by omega) h)
    rw [show svOut r c low (n + 1) p s = svOut r c low n (p + 1) (svIn r c low p (c - (p + 1)) (p + 1) s) from rfl]
    have key : rounds (fun vs => lo297_2.dv (x0 :: x1 :: x2 :: x3 :: x4 :: x5 :: Vu low :: x7 :: x8 :: x9 :: x10 :: x11 :: x12 :: Vi c :: x14 :: vs)) [Vb s.2, Vi p, Vi c, Vi c, Vl s.1.V, Vi r, Vi c, Vl s.1.W] = rounds (fun vs => lo297_2.dv (x0 :: x1 :: x2 :: x3 :: x4 :: x5 :: Vu low :: x7 :: x8 :: x9 :: x10 :: x11 :: x12 :: Vi c :: x14 :: vs)) [Vb (svIn r c low p (c - (p + 1)) (p + 1) s).2, Vi ((p + 1 : Nat) : Int), Vi c, Vi c, Vl (svIn r c low p (c - (p + 1)) (p + 1) s).1.V, Vi r, Vi c, Vl (svIn r c low p (c - (p + 1)) (p + 1) s).1.W] := by
      rw [← e1] at hl ⊢
      refine rounds_cont ?_
      refine Eq.trans (st_t hc) ?_
      refine Eq.trans (st_loop hl) ?_
      refine Eq.trans st_hit ?_
      rfl
    rw [key]
    exact hih

theorem sv_all {r c low : Nat} (hlow : low < 18446744073709551616) {x0 x1 x2 x3 x4 x5 : PV} : ∀ (n : Nat) {i : Nat} {s : UP}, i + n = 60 → MxU r c s →
    match svAll r c low n s with
    | some s' => ∃ a1 a2 a3 a4, rounds (fun vs => lo297_1.dv (x0 :: x1 :: x2 :: x3 :: x4 :: x5 :: Vu low :: vs)) [Vi 0, Vi i, Vi c, Vi c, Vl s.V, Vi r, Vi c, Vl s.W] = some (.y .ret [Vi c, Vi c, Vl s'.V, Vi r, Vi c, Vl s'.W, a1, a2, a3, a4])
    | none => ∃ s' : UP, rounds (fun vs => lo297_1.dv (x0 :: x1 :: x2 :: x3 :: x4 :: x5 :: Vu low :: vs)) [Vi 0, Vi i, Vi c, Vi c, Vl s.V, Vi r, Vi c, Vl s.W] = some (.y (.ext 0) [Vi 0, Vi c, Vi c, Vl s'.V, Vi r, Vi c, Vl s'.W]) := by
  intro n
  induction n with
  | zero =>
    intro i s hi h
    refine ⟨s, rounds_exit ?_ (by simp)⟩
    have hc : (B.lt.den (Vi i) (Vi 60)).bool = false := by simp; omega
    exact Eq.trans (st_f hc) rfl
  | succ n ih =>
    intro i s hi h
    have hc : (B.lt.den (Vi i) (Vi 60)).bool = true := by simp; omega
    have e1 : (B.add .i64).den (Vi i) (Vi 1) = Vi ((i + 1 : Nat) : Int) := by rw [add_i (by omega) (by omega)]; rfl
    have hl := sv_out (r := r) (c := c) hlow (x0 := x0) (x1 := x1) (x2 := x2) (x3 := x3) (x4 := x4) (x5 := x5) (x7 := Vi 0) (x8 := Vi i) (x9 := Vi c) (x10 := Vi c) (x11 := Vl s.V) (x12 := Vi r) (x14 := Vl s.W) c (p := 0) (s := (s, true)) (by omega) h
    rw [show svOut r c low c 0 (s, true) = svRd r c low s from rfl, show ((0 : Nat) : Int) = 0 from rfl] at hl
    unfold svAll
    cases hst : (svRd r c low s).2
    · rw [hst] at hl
      simp only [Bool.false_eq_true, if_false]
      have hih := ih (i := i + 1) (s := (svRd r c low s).1) (by omega) (svRd_mx h)
      have key : rounds (fun vs => lo297_1.dv (x0 :: x1 :: x2 :: x3 :: x4 :: x5 :: Vu low :: vs)) [Vi 0, Vi i, Vi c, Vi c, Vl s.V, Vi r, Vi c, Vl s.W] = rounds (fun vs => lo297_1.dv (x0 :: x1 :: x2 :: x3 :: x4 :: x5 :: Vu low :: vs)) [Vi 0, Vi ((i + 1 : Nat) : Int), Vi c, Vi c, Vl (svRd r c low s).1.V, Vi r, Vi c, Vl (svRd r c low s).1.W] := by
        rw [← e1]
        refine rounds_cont ?_
        refine Eq.trans (st_t hc) ?_
        refine Eq.trans (st_loop hl) ?_
        refine Eq.trans st_hit ?_
        refine Eq.trans (st_f rfl) ?_
        rfl
      rw [key]
      exact hih
    · rw [hst] at hl
      simp only [if_true]
      refine ⟨Vi c, Vi c, Vi r, Vi c, rounds_exit ?_ (by simp)⟩
      refine Eq.trans (st_t hc) ?_
      refine Eq.trans (st_loop hl) ?_
      refine Eq.trans st_hit ?_
      refine Eq.trans (st_t rfl) ?_
      rfl
theorem srounds_ok {r c low : Nat} (hlow : low < 18446744073709551616) {s : UP} (h : MxU r c s) : match svAll r c low 60 s with
    | some s' => val 297 [Vi r, Vi c, Vl s.W, Vi c, Vi c, Vl s.V, Vu low] = some [Vi r, Vi c, Vl s'.W, Vi c, Vi c, Vl s'.V, Vi 0]
    | none => ∃ s' : UP, val 297 [Vi r, Vi c, Vl s.W, Vi c, Vi c, Vl s.V, Vu low] = some [Vi r, Vi c, Vl s'.W, Vi c, Vi c, Vl s'.V, Vi 6] := by
  have lp := sv_all (r := r) (c := c) hlow (x0 := Vi r) (x1 := Vi c) (x2 := Vl s.W) (x3 := Vi c) (x4 := Vi c) (x5 := Vl s.V) 60 (i := 0) (s := s) (by omega) h
  rw [show ((0 : Nat) : Int) = 0 from rfl] at lp
  cases hs : svAll r c low 60 s with
  | none =>
    rw [hs] at lp
    obtain ⟨s', lp⟩ := lp
    refine ⟨s', val_of tab297 ?_⟩
    refine Eq.trans (st_loop lp) ?_
    refine Eq.trans (st_miss (by simp)) ?_
    refine Eq.trans st_hit ?_
    rfl
  | some s' =>
    rw [hs] at lp
    obtain ⟨a1, a2, a3, a4, lp⟩ := lp
    refine val_of tab297 ?_
    refine Eq.trans (st_loop lp) ?_
    refine Eq.trans st_hit ?_
    rfl

theorem sv9_in {r c low p : Nat} (hlow : low < 18446744073709551616) (hp : p < c) {x0 x1 x2 x3 x4 x5 x7 x9 x10 x11 x12 x13 x14 : PV} : ∀ (n : Nat) {q : Nat} {s : UP × Bool}, q + n = c → p < q → MxU r c s.1 →
    rounds (fun vs => lo227_2.dv (x0 :: x1 :: x2 :: x3 :: x4 :: x5 :: Vu low :: x7 :: Vi p :: x9 :: x10 :: x11 :: x12 :: x13 :: x14 :: vs)) [Vb s.2, Vi q, Vi c, Vi c, Vl s.1.V, Vi r, Vi c, Vl s.1.W] = some (.y (.ext 2) [Vb (svIn r c low p n q s).2, Vi c, Vi c, Vl (svIn r c low p n q s).1.V, Vi r, Vi c, Vl (svIn r c low p n q s).1.W]) := by
  intro n
  induction n with
  | zero =>
    intro q s hq hpq h
    refine rounds_exit ?_ (by simp)
    have hc : (B.lt.den (Vi q) (Vi c)).bool = false := by simp; omega
    exact Eq.trans (st_f hc) rfl
  | succ n ih =>
    intro q s hq hpq h
    have hqc : q < c := by omega
    have hc6 := h.W.hc
    have hr6 := h.W.hr
    have hc : (B.lt.den (Vi q) (Vi c)).bool = true := by simp; omega
    have e1 : (B.add .i64).den (Vi q) (Vi 1) = Vi ((q + 1 : Nat) : Int) := by rw [add_i (by omega) (by omega)]; rfl
    have c1 := column9_ok h.W hp (f := 0) (by omega)
    have c2 := column9_ok h.W hqc (f := 0) (by omega)
    rw [show ((0 : Nat) : Int) = 0 from rfl] at c1 c2
    have hx := colL_words h.W p 0
    have hy := colL_words h.W q 0
    have lx : (colL r c s.1.W p 0).length ≤ 6 := by rw [colL_len]; omega
    have ly : (colL r c s.1.W q 0).length = (colL r c s.1.W p 0).length := by rw [colL_len, colL_len]
    have b1 := be9_ok hx hy lx ly hlow
    have t1 := turn19_ok hx hy lx ly hlow
    have hih := ih (q := q + 1) (s := svS r c low p q s) (by omega) (by omega) (svS_mx hp hqc h)
    rw [show svIn r c low p (n + 1) q s = svIn r c low p n (q + 1) (svS r c low p q s) from rfl]
    have key : rounds (fun vs => lo227_2.dv (x0 :: x1 :: x2 :: x3 :: x4 :: x5 :: Vu low :: x7 :: Vi p :: x9 :: x10 :: x11 :: x12 :: x13 :: x14 :: vs)) [Vb s.2, Vi q, Vi c, Vi c, Vl s.1.V, Vi r, Vi c, Vl s.1.W] = rounds (fun vs => lo227_2.dv (x0 :: x1 :: x2 :: x3 :: x4 :: x5 :: Vu low :: x7 :: Vi p :: x9 :: x10 :: x11 :: x12 :: x13 :: x14 :: vs)) [Vb (svS r c low p q s).2, Vi ((q + 1 : Nat) : Int), Vi c, Vi c, Vl (svS r c low p q s).1.V, Vi r, Vi c, Vl (svS r c low p q s).1.W] := by
      rw [← e1]
      refine rounds_cont ?_
      refine Eq.trans (st_t hc) ?_
      by_cases hb : svBe (colL r c s.1.W p 0) (colL r c s.1.W q 0) low = true
      · have hs : svS r c low p q s = s := by unfold svS; rw [if_pos hb]
        rw [hb] at b1
        rw [hs]
        refine Eq.trans (st_scope (x := .norm) (vs := [Vb s.2, Vi c, Vi c, Vl s.1.V, Vi r, Vi c, Vl s.1.W]) ?_) ?_
        · refine Eq.trans (st_call rfl c1 rfl) ?_
          refine Eq.trans (st_call rfl c2 rfl) ?_
          simp only [List.cons_append, List.nil_append]
          refine Eq.trans (st_call rfl b1 rfl) ?_
          exact Eq.trans (st_t rfl) rfl
        refine Eq.trans st_hit ?_
        rfl
      · have hs : svS r c low p q s = (⟨colV r c s.1.W p q (svCC (colL r c s.1.W p 0) (colL r c s.1.W q 0)) (fMinus (svSS (colL r c s.1.W p 0) (colL r c s.1.W q 0))), colV c c s.1.V p q (svCC (colL r c s.1.W p 0) (colL r c s.1.W q 0)) (fMinus (svSS (colL r c s.1.W p 0) (colL r c s.1.W q 0)))⟩, false) := by unfold svS; rw [if_neg hb]
        have hb' : svBe (colL r c s.1.W p 0) (colL r c s.1.W q 0) low = false := by simpa using hb
        rw [hb'] at b1
        have l1 : svCC (colL r c s.1.W p 0) (colL r c s.1.W q 0) < 18446744073709551616 := divV_lt
        have l0 : svSS (colL r c s.1.W p 0) (colL r c s.1.W q 0) < 18446744073709551616 := mulV_lt
        have l2 : fMinus (svSS (colL r c s.1.W p 0) (colL r c s.1.W q 0)) < 18446744073709551616 := (minus_neg mulV_lt).2.2.2
        have m1 := minus4_ok l0
        have w1 := cols9_ok h.W l1 l2 hp hqc
        have w2 := cols9_ok h.V l1 l2 hp hqc
        rw [hs]
        generalize svCC (colL r c s.1.W p 0) (colL r c s.1.W q 0) = C at *
        generalize fMinus (svSS (colL r c s.1.W p 0) (colL r c s.1.W q 0)) = S at *
        generalize svSS (colL r c s.1.W p 0) (colL r c s.1.W q 0) = S0 at *
        generalize colV r c s.1.W p q C S = W' at *
        generalize colV c c s.1.V p q C S = V' at *
        refine Eq.trans (st_scope (x := .norm) (vs := [Vb false, Vi c, Vi c, Vl V', Vi r, Vi c, Vl W']) ?_) ?_
        · refine Eq.trans (st_call rfl c1 rfl) ?_
          refine Eq.trans (st_call rfl c2 rfl) ?_
          simp only [List.cons_append, List.nil_append]
          refine Eq.trans (st_call rfl b1 rfl) ?_
          refine Eq.trans (st_f rfl) ?_
          simp only [List.cons_append, List.nil_append]
          refine Eq.trans (st_call rfl t1 rfl) ?_
          refine Eq.trans (st_call rfl m1 rfl) ?_
          refine Eq.trans (st_call rfl w1 rfl) ?_
          simp only [List.cons_append, List.nil_append]
          refine Eq.trans (st_call rfl m1 rfl) ?_
          refine Eq.trans (st_call rfl w2 rfl) ?_
          rfl
        refine Eq.trans st_hit ?_
        rfl
    rw [key]
    exact hih

theorem sv9_out {r c low : Nat} (hlow : low < 18446744073709551616) {x0 x1 x2 x3 x4 x5 : PV} : ∀ (n : Nat) {p : Nat} {s : UP × Bool}, p + n = c → MxU r c s.1 →
    rounds (fun vs => lo227_1.dv (x0 :: x1 :: x2 :: x3 :: x4 :: x5 :: Vu low :: vs)) [Vb s.2, Vi p, Vi c, Vi c, Vl s.1.V, Vi r, Vi c, Vl s.1.W] = some (.y (.ext 0) [Vb (svOut r c low n p s).2, Vi c, Vi c, Vl (svOut r c low n p s).1.V, Vi r, Vi c, Vl (svOut r c low n p s).1.W]) := by
  intro n
  induction n with
  | zero =>
    intro p s hp h
    refine rounds_exit ?_ (by simp)
    have hc : (B.lt.den (Vi p) (Vi c)).bool = false := by simp; omega
    exact Eq.trans (st_f hc) rfl
  | succ n ih =>
    intro p s hp h
    have hpc : p < c := by omega
    have hc6 := h.W.hc
    have hc : (B.lt.den (Vi p) (Vi c)).bool = true := by simp; omega
    have e1 : (B.add .i64).den (Vi p) (Vi 1) = Vi ((p + 1 : Nat) : Int) := by rw [add_i (by omega) (by omega)]; rfl
    have hl := sv9_in (r := r) (c := c) hlow hpc (x0 := x0) (x1 := x1) (x2 := x2) (x3 := x3) (x4 := x4) (x5 := x5) (x7 := Vb s.2) (x9 := Vi c) (x10 := Vi c) (x11 := Vl s.1.V) (x12 := Vi r) (x13 := Vi c) (x14 := Vl s.1.W) (c - (p + 1)) (q := p + 1) (s := s) (by omega) (by omega) h
    have hih := ih (p := p + 1) (s := svIn r c low p (c - (p + 1)) (p + 1) s) (by omega) (svIn_mx hpc _ _ (by omega) h)
    rw [show svOut r c low (n + 1) p s = svOut r c low n (p + 1) (svIn r c low p (c - (p + 1)) (p + 1) s) from rfl]
    have key : rounds (fun vs => lo227_1.dv (x0 :: x1 :: x2 :: x3 :: x4 :: x5 :: Vu low :: vs)) [Vb s.2, Vi p, Vi c, Vi c, Vl s.1.V, Vi r, Vi c, Vl s.1.W] = rounds (fun vs => lo227_1.dv (x0 :: x1 :: x2 :: x3 :: x4 :: x5 :: Vu low :: vs)) [Vb (svIn r c low p (c - (p + 1)) (p + 1) s).2, Vi ((p + 1 : Nat) : Int), Vi c, Vi c, Vl (svIn r c low p (c - (p + 1)) (p + 1) s).1.V, Vi r, Vi c, Vl (svIn r c low p (c - (p + 1)) (p + 1) s).1.W] := by
      rw [← e1] at hl ⊢
      refine rounds_cont ?_
      refine Eq.trans (st_t hc) ?_
      refine Eq.trans (st_loop hl) ?_
      refine Eq.trans st_hit ?_
      rfl
    rw [key]
    exact hih
theorem svround9_ok {r c low : Nat} (hlow : low < 18446744073709551616) {s : UP} (h : MxU r c s) : val 227 [Vi r, Vi c, Vl s.W, Vi c, Vi c, Vl s.V, Vu low] = some [Vi r, Vi c, Vl (svRd r c low s).1.W, Vi c, Vi c, Vl (svRd r c low s).1.V, Vb (svRd r c low s).2] := by
  refine val_of tab227 ?_
  have lp := sv9_out (r := r) (c := c) hlow (x0 := Vi r) (x1 := Vi c) (x2 := Vl s.W) (x3 := Vi c) (x4 := Vi c) (x5 := Vl s.V) c (p := 0) (s := (s, true)) (by omega) h
  rw [show ((0 : Nat) : Int) = 0 from rfl] at lp
  refine Eq.trans (st_loop lp) ?_
  refine Eq.trans st_hit ?_
  rfl

theorem sv9_all {r c low : Nat} (hlow : low < 18446744073709551616) {x0 x1 x2 x3 x4 x5 x6 x7 x8 x9 x10 x11 : PV} : ∀ (n : Nat) {i : Nat} {s : UP}, i + n = 60 → MxU r c s →
    match svAll r c low n s with
    | some s' => rounds (fun vs => lo223_1.dv (x0 :: x1 :: x2 :: x3 :: x4 :: x5 :: x6 :: x7 :: x8 :: x9 :: x10 :: x11 :: Vu low :: vs)) [Vb false, Vi i, Vi c, Vi c, Vl s.V, Vi r, Vi c, Vl s.W] = some (.y (.ext 0) [Vb true, Vi c, Vi c, Vl s'.V, Vi r, Vi c, Vl s'.W])
    | none => ∃ s' : UP, rounds (fun vs => lo223_1.dv (x0 :: x1 :: x2 :: x3 :: x4 :: x5 :: x6 :: x7 :: x8 :: x9 :: x10 :: x11 :: Vu low :: vs)) [Vb false, Vi i, Vi c, Vi c, Vl s.V, Vi r, Vi c, Vl s.W] = some (.y (.ext 0) [Vb false, Vi c, Vi c, Vl s'.V, Vi r, Vi c, Vl s'.W]) := by
  intro n
  induction n with
  | zero =>
    intro i s hi h
    refine ⟨s, rounds_exit ?_ (by simp)⟩
    have hi' : i = 60 := by omega
    subst hi'
    exact Eq.trans (st_f rfl) rfl
  | succ n ih =>
    intro i s hi h
    have hi60 : i < 60 := by omega
    have e1 : (B.add .i64).den (Vi i) (Vi 1) = Vi ((i + 1 : Nat) : Int) := by rw [add_i (by omega) (by omega)]; rfl
    have rd := svround9_ok hlow h
    have hih := ih (i := i + 1) (s := (svRd r c low s).1) (by omega) (svRd_mx h)
    have key : rounds (fun vs => lo223_1.dv (x0 :: x1 :: x2 :: x3 :: x4 :: x5 :: x6 :: x7 :: x8 :: x9 :: x10 :: x11 :: Vu low :: vs)) [Vb false, Vi i, Vi c, Vi c, Vl s.V, Vi r, Vi c, Vl s.W] = rounds (fun vs => lo223_1.dv (x0 :: x1 :: x2 :: x3 :: x4 :: x5 :: x6 :: x7 :: x8 :: x9 :: x10 :: x11 :: Vu low :: vs)) [Vb (svRd r c low s).2, Vi ((i + 1 : Nat) : Int), Vi c, Vi c, Vl (svRd r c low s).1.V, Vi r, Vi c, Vl (svRd r c low s).1.W] := by
      rw [← e1]
      refine rounds_cont ?_
      refine Eq.trans (st_t (by simp [show (i : Int) < 60 by omega])) ?_
      refine Eq.trans (st_call rfl rd rfl) ?_
      rfl
    unfold svAll
    cases hst : (svRd r c low s).2
    · rw [hst] at key
      simp only [Bool.false_eq_true, if_false]
      rw [key]
      exact hih
    · rw [hst] at key
      simp only [if_true]
      rw [key]
      refine rounds_exit ?_ (by simp)
      refine Eq.trans (st_f (by simp)) ?_
      rfl

end Go.Proofs.YthchhkghjfendabGreat.Dx

namespace Go.Proofs.YthchhkghjfendabGreat.Dx
open Go

/-- All columns, each once. -/
structure AllOnce (c : Nat) (l : List Int) : Prop where
  len : l.length = c
  rng : ∀ k, k < c → 0 ≤ ei l k ∧ ei l k < c
  inj : ∀ k k', k < c → k' < c → ei l k = ei l k' → k = k'
  sur : ∀ p : Nat, p < c → ∃ k, k < c ∧ ei l k = p
theorem allOnce_first (c : Nat) : AllOnce c (firL c) := by
  refine ⟨by simp, fun k hk => by rw [ei_firL hk]; omega, fun k k' hk hk' h => ?_, fun p hp => ⟨p, hp, ei_firL hp⟩⟩
  rw [ei_firL hk, ei_firL hk'] at h; omega
theorem swN_swN {a b k : Nat} : swN a b (swN a b k) = k := by
  unfold swN
  by_cases h1 : k = b
  · subst h1
    rw [if_pos rfl]
    by_cases h2 : a = k
    · rw [if_pos h2, h2]
    · rw [if_neg h2, if_pos rfl]
  · rw [if_neg h1]
    by_cases h2 : k = a
    · subst h2; rw [if_pos rfl, if_pos rfl]
    · rw [if_neg h2, if_neg h1, if_neg h2]
theorem AllOnce.sw {c : Nat} {l : List Int} (h : AllOnce c l) {a b : Nat} (ha : a < c) (hb : b < c) : AllOnce c (swL l a b) := by
  have hl := h.len
  have e : ∀ k, ei (swL l a b) k = ei l (swN a b k) := fun k => ei_swL (by omega) (by omega)
  refine ⟨by rw [swL_len, hl], fun k hk => by rw [e]; exact h.rng _ (swN_lt ha hb hk), fun k k' hk hk' hh => ?_, fun p hp => ?_⟩
  · rw [e, e] at hh
    have := h.inj _ _ (swN_lt ha hb hk) (swN_lt ha hb hk') hh
    rw [← swN_swN (a := a) (b := b) (k := k), this, swN_swN]
  · obtain ⟨k, hk, hh⟩ := h.sur p hp
    exact ⟨swN a b k, swN_lt ha hb hk, by rw [e, swN_swN]; exact hh⟩
section
variable {r c : Nat} {y : List Nat} (h : Mx r c y) (hu : ∀ a b, b < a → a < r → b < c → el y (ps a c b) = 0)
include h hu
end
section
variable {c : Nat} (hc : c ≤ 6) {l : List Int} (ho : AllOnce c l)
include hc ho
end
end Go.Proofs.YthchhkghjfendabGreat.Dx

namespace Go.Proofs.YthchhkghjfendabGreat.Dx
open Go

/-- Is the number at place y less than the one at place e? -/
def lsB (l : List Nat) (y e : Int) : Bool := decide (ordI (el l y.toNat) (el l e.toNat) < 0)
theorem ei_at (P : List Int) (b : Int) (R : List Int) : ei (P ++ b :: R) P.length = b := by
  unfold ei; rw [List.getD_eq_getElem?_getD, List.getElem?_append_right (Nat.le_refl _), Nat.sub_self]; rfl
theorem ei_next (P : List Int) (b e : Int) (R : List Int) : ei (P ++ b :: e :: R) (P.length + 1) = e := by
  unfold ei; rw [List.getD_eq_getElem?_getD, List.getElem?_append_right (by omega), show P.length + 1 - P.length = 1 by omega]; rfl
theorem sw_next (P : List Int) (b e : Int) (R : List Int) : swL (P ++ b :: e :: R) (P.length + 1) P.length = P ++ e :: b :: R := by
  unfold swL
  rw [ei_at, ei_next, List.set_append_right _ _ (by omega), show P.length + 1 - P.length = 1 by omega, List.set_append_right _ _ (Nat.le_refl _), Nat.sub_self]
  rfl
def insP (l : List Nat) : Nat → List Int → List Int
  | 0, x => x
  | m + 1, x => if lsB l (ei x m) (ei x (m + 1)) then insP l m (swL x (m + 1) m) else x
def srtP (l : List Nat) : Nat → Nat → List Int → List Int
  | 0, _, x => x
  | n + 1, i, x => srtP l n (i + 1) (insP l i x)
theorem insP_all {c : Nat} {l : List Nat} : ∀ (m : Nat) {x : List Int}, m < c → AllOnce c x → AllOnce c (insP l m x)
  | 0, _, _, h => h
  | m + 1, x, hm, h => by
    unfold insP
    split
    · exact insP_all m (by omega) (h.sw hm (by omega))
    · exact h
theorem srtP_all {c : Nat} {l : List Nat} : ∀ (n i : Nat) {x : List Int}, i + n ≤ c → AllOnce c x → AllOnce c (srtP l n i x)
  | 0, _, _, _, h => h
  | n + 1, i, x, hi, h => srtP_all n (i + 1) (by omega) (insP_all i (by omega) h)
section
variable {c : Nat} (hc : c ≤ 6) {l : List Nat} (hl : l.length = c) (hw : Words l)
include hc hl hw
theorem cmp_ok {a b : Int} (ha : 0 ≤ a ∧ a < c) (hb : 0 ≤ b ∧ b < c) : val 294 [Vi a, Vi b, .a [Vl l]] = some [Vi (ordI (el l b.toNat) (el l a.toNat))] := by
  refine val_of tab294 ?_
  obtain ⟨m, rfl⟩ : ∃ m : Nat, a = m := ⟨a.toNat, by omega⟩
  obtain ⟨n, rfl⟩ : ∃ n : Nat, b = n := ⟨b.toNat, by omega⟩
  have g1 := get_V (x := l) (i := m) (by omega)
  have g2 := get_V (x := l) (i := n) (by omega)
  have o := order_ok (hw.el n) (hw.el m)
  have fld : (U.fld 0).den (PV.a [Vl l]) = Vl l := rfl
  have hm : m < l.length := by omega
  have hn : n < l.length := by omega
  simp [tr294, TT.dv, fld, g1, g2, o, hm, hn]
theorem ins_loop {x0 x4 x5 : PV} {N : Int} : ∀ (m : Nat) {x : List Int}, m < c → AllOnce c x →
    rounds (fun vs => lo335_2.dv (x0 :: Vi 0 :: Vi N :: fnP 294 [.a [Vl l]] :: x4 :: x5 :: vs)) [Vi m, Jl x] = some (.y (.ext 2) [Jl (insP l m x)]) := by
  intro m
  induction m with
  | zero =>
    intro x hm h
    have hx := h.len
    have g0 := get_J (l := x) (i := 0) (by omega)
    have g1 : B.get.den (Jl x) ((B.sub .i64).den (Vi 0) (Vi 1)) = Vi (ei x 0) := by
      have e : (B.sub .i64).den (Vi 0) (Vi 1) = Vi (-1) := by rw [sub_i (by omega) (by omega)]; rfl
      rw [e]
      have : B.get.den (Jl x) (Vi (-1)) = B.get.den (Jl x) (Vi ((0 : Nat) : Int)) := rfl
      rw [this, g0]
    have cm := cmp_ok hc hl hw (h.rng 0 hm) (h.rng 0 hm)
    rw [show ((0 : Nat) : Int) = 0 from rfl] at g0 ⊢
    refine rounds_exit ?_ (by simp)
    have e : (B.sub .i64).den (Vi 0) (Vi 1) = Vi (-1) := by rw [sub_i (by omega) (by omega)]; rfl
    rw [e] at g1
    simp [lo335_2, TT.dv, fnP, e, g0, g1, cm, insP]
  | succ m ih =>
    intro x hm h
    have hx := h.len
    have g0 := get_J (l := x) (i := m + 1) (by omega)
    have g1 := get_J (l := x) (i := m) (by omega)
    have e1 : (B.sub .i64).den (Vi ((m + 1 : Nat) : Int)) (Vi 1) = Vi m := by rw [sub_i (by omega) (by omega)]; exact congrArg Vi (by omega)
    have cm := cmp_ok hc hl hw (h.rng (m + 1) hm) (h.rng m (by omega))
    have h1 : 0 < ((m + 1 : Nat) : Int) := by omega
    have h2 : ((m + 1 : Nat) : Int) < (x.length : Int) := by omega
    have h3 : m < x.length := by omega
    have h4 : (0 : Int) ≤ ((m + 1 : Nat) : Int) := by omega
    have sj : ∀ (z : List Int) (v : Int), T3.set.den (Jl z) (Vi ((m + 1 : Nat) : Int)) (Vi v) = Jl (z.set (m + 1) v) := fun z v => set_J z (m + 1) v
    have hsw : (x.set (m + 1) (ei x m)).set m (ei x (m + 1)) = swL x (m + 1) m := rfl
    unfold insP lsB
    by_cases hcd : ordI (el l (ei x m).toNat) (el l (ei x (m + 1)).toNat) < 0
    · rw [if_pos (decide_eq_true hcd), ← ih (x := swL x (m + 1) m) (by omega) (h.sw hm (by omega))]
      refine rounds_cont ?_
      generalize ((m + 1 : Nat) : Int) = z at *
      simp [lo335_2, TT.dv, fnP, e1, g0, g1, cm, h1, h2, h3, h4, hcd, sj, set_J, hsw]
    · rw [if_neg (by simpa using hcd)]
      refine rounds_exit ?_ (by simp)
      generalize ((m + 1 : Nat) : Int) = z at *
      simp [lo335_2, TT.dv, fnP, e1, g0, g1, cm, h1, h2, h3, h4, hcd]
theorem srt_loop {x0 : PV} : ∀ (n : Nat) {i : Nat} {x : List Int}, 1 ≤ i → i + n = max c 1 → AllOnce c x →
    rounds (fun vs => lo335_1.dv (x0 :: Vi 0 :: Vi c :: fnP 294 [.a [Vl l]] :: vs)) [Vi i, Jl x] = some (.y (.ext 0) [Jl (srtP l n i x)]) := by
  intro n
  induction n with
  | zero =>
    intro i x hi1 hi h
    refine rounds_exit ?_ (by simp)
    simp [lo335_1, TT.dv, show ¬ i < c by omega, srtP]
  | succ n ih =>
    intro i x hi1 hi h
    have hic : i < c := by omega
    refine Eq.trans (rounds_cont ?_) (ih (i := i + 1) (by omega) (by omega) (insP_all (l := l) i hic h))
    have e1 : (B.add .i64).den (Vi i) (Vi 1) = Vi (i + 1) := add_i (by omega) (by omega)
    have lp := fun x4 x5 => ins_loop hc hl hw (x0 := x0) (x4 := x4) (x5 := x5) (N := c) i (x := x) hic h
    simp [lo335_1, TT.dv, KS.dv, hic, e1, lp]
theorem sort_ok {x : List Int} (h : AllOnce c x) : val 334 [Jl x, fnP 294 [.a [Vl l]]] = some [Jl (srtP l (c - 1) 1 x)] := by
  have hx := h.len
  have lp := fun x0 => srt_loop hc hl hw (x0 := x0) (c - 1) (i := 1) (x := x) (Nat.le_refl _) (by omega) h
  simp only [show ((1 : Nat) : Int) = 1 from rfl] at lp
  have i1 : val 335 [Jl x, Vi 0, Vi c, fnP 294 [.a [Vl l]]] = some [Jl (srtP l (c - 1) 1 x)] := by
    refine val_of tab335 ?_
    have e0 : (B.add .i64).den (Vi 0) (Vi 1) = Vi 1 := rfl
    simp [tr335, TT.dv, KS.dv, e0, lp]
  have l1 : ∀ x0 x2 : PV, rounds (fun vs => lo337_1.dv (x0 :: Vi c :: x2 :: vs)) [Vi 0, Vi 20, Jl x] = some (.y (.ext 0) [Vi 0, Jl x]) := fun x0 x2 => by
    refine rounds_exit ?_ (by simp)
    simp [lo337_1, TT.dv, show ¬ (20 : Int) ≤ c by omega]
  have l2 : ∀ (x0 x2 x3 x4 x5 : PV) (y : List Int), rounds (fun vs => lo337_2.dv (x0 :: Vi c :: x2 :: x3 :: x4 :: x5 :: vs)) [Vi 20, Jl y] = some (.y (.ext 2) [Jl y]) := fun x0 x2 x3 x4 x5 y => by
    refine rounds_exit ?_ (by simp)
    simp [lo337_2, TT.dv, show ¬ (20 : Int) < c by omega]
  have s1 : val 337 [Jl x, Vi c, fnP 294 [.a [Vl l]]] = some [Jl (srtP l (c - 1) 1 x)] := by
    refine val_of tab337 ?_
    simp [tr337, TT.dv, KS.dv, l1, l2, i1]
  refine val_of tab334 ?_
  simp [tr334, TT.dv, hx, s1]
end
def oiL (l : List Nat) (e : Int) : List Int → Bool → List Int → Bool × List Int
  | [], d, acc => (d, acc)
  | y :: ys, d, acc => if !d && lsB l y e then oiL l e ys true (acc ++ [e] ++ [y]) else oiL l e ys d (acc ++ [y])
def insL (l : List Nat) (out : List Int) (e : Int) : List Int := if (oiL l e out false []).1 then (oiL l e out false []).2 else (oiL l e out false []).2 ++ [e]
def ordL (l : List Nat) : Nat → List Int
  | 0 => []
  | i + 1 => insL l (ordL l i) i
theorem oiL_mem {l : List Nat} {e y : Int} : ∀ (ys : List Int) (d : Bool) (acc : List Int), y ∈ (oiL l e ys d acc).2 ↔ y ∈ acc ∨ y ∈ ys ∨ (y = e ∧ d = false ∧ (oiL l e ys d acc).1 = true)
  | [], d, acc => by unfold oiL; cases d <;> simp
  | z :: ys, d, acc => by
    unfold oiL
    cases d
    · cases hz : lsB l z e
      · simp only [Bool.not_false, Bool.and_false, Bool.false_eq_true, if_false]
        rw [oiL_mem ys false (acc ++ [z])]
        simp only [List.mem_append, List.mem_cons, List.not_mem_nil, or_false]
        constructor
        · rintro ((h | h) | h | h) <;> simp [h]
        · rintro (h | (h | h) | h) <;> simp [h]
      · simp only [Bool.not_false, Bool.and_true, if_true]
        have h1 : (oiL l e ys true (acc ++ [e] ++ [z])).1 = true := by
          have : ∀ (ys : List Int) (acc : List Int), (oiL l e ys true acc).1 = true := by
            intro ys
            induction ys with
            | nil => intro acc; rfl
            | cons z ys ih => intro acc; unfold oiL; simp only [Bool.not_true, Bool.false_and, Bool.false_eq_true, if_false]; exact ih _
          exact this _ _
        rw [oiL_mem ys true (acc ++ [e] ++ [z]), h1]
        simp only [List.mem_append, List.mem_cons, List.not_mem_nil, or_false]
        constructor
        · rintro (((h | h) | h) | h | h)
          · simp [h]
          · simp [h]
          · simp [h]
          · simp [h]
          · simp at h
        · rintro (h | (h | h) | h)
          · simp [h]
          · simp [h]
          · simp [h]
          · simp [h]
    · simp only [Bool.not_true, Bool.false_and, Bool.false_eq_true, if_false]
      rw [oiL_mem ys true (acc ++ [z])]
      simp only [List.mem_append, List.mem_cons, List.not_mem_nil, or_false]
      constructor
      · rintro ((h | h) | h | h) <;> simp_all
      · rintro (h | (h | h) | h) <;> simp_all
theorem oiL_len {l : List Nat} {e : Int} : ∀ (ys : List Int) (d : Bool) (acc : List Int), (oiL l e ys d acc).2.length = acc.length + ys.length + (if d = false ∧ (oiL l e ys d acc).1 = true then 1 else 0)
  | [], d, acc => by unfold oiL; cases d <;> simp
  | z :: ys, d, acc => by
    unfold oiL
    cases d
    · cases hz : lsB l z e
      · simp only [Bool.not_false, Bool.and_false, Bool.false_eq_true, if_false]
        rw [oiL_len ys false (acc ++ [z])]
        simp only [List.length_append, List.length_cons, List.length_nil]; omega
      · simp only [Bool.not_false, Bool.and_true, if_true]
        have h1 : (oiL l e ys true (acc ++ [e] ++ [z])).1 = true := by
          have : ∀ (ys : List Int) (acc : List Int), (oiL l e ys true acc).1 = true := by
            intro ys
            induction ys with
            | nil => intro acc; rfl
            | cons z ys ih => intro acc; unfold oiL; simp only [Bool.not_true, Bool.false_and, Bool.false_eq_true, if_false]; exact ih _
          exact this _ _
        rw [oiL_len ys true (acc ++ [e] ++ [z]), h1]
        simp only [List.length_append, List.length_cons, List.length_nil]
        simp; omega
    · simp only [Bool.not_true, Bool.false_and, Bool.false_eq_true, if_false]
      rw [oiL_len ys true (acc ++ [z])]
      simp only [List.length_append, List.length_cons, List.length_nil]
      simp; omega
theorem insL_mem {l : List Nat} {out : List Int} {e y : Int} : y ∈ insL l out e ↔ y ∈ out ∨ y = e := by
  unfold insL
  have h := oiL_mem (l := l) (e := e) (y := y) out false []
  split
  · rename_i h1
    rw [h, h1]; simp
  · rename_i h1
    rw [List.mem_append, h]
    simp only [h1]; simp
theorem insL_len {l : List Nat} {out : List Int} {e : Int} : (insL l out e).length = out.length + 1 := by
  unfold insL
  have h := oiL_len (l := l) (e := e) out false []
  split
  · rename_i h1
    rw [h, if_pos ⟨rfl, h1⟩]; simp
  · rename_i h1
    rw [List.length_append, h, if_neg (fun hh => h1 hh.2)]; simp
theorem ordL_len (l : List Nat) : ∀ i, (ordL l i).length = i
  | 0 => rfl
  | i + 1 => by unfold ordL; rw [insL_len, ordL_len l i]
theorem ordL_mem {l : List Nat} {y : Int} : ∀ i : Nat, y ∈ ordL l i ↔ 0 ≤ y ∧ y < i
  | 0 => ⟨fun h => by simp [ordL] at h, fun h => by omega⟩
  | i + 1 => by unfold ordL; rw [insL_mem, ordL_mem i]; omega
theorem ei_mem {x : List Int} {k : Nat} (h : k < x.length) : ei x k ∈ x := by
  unfold ei; rw [List.getD_eq_getElem?_getD, List.getElem?_eq_getElem h]; exact List.getElem_mem h
section
variable {c : Nat} (hc : c ≤ 6) {l : List Nat} (hl : l.length = c) (hw : Words l)
include hc hl hw
theorem oi_loop {i : Nat} (hi : i < c) {out : List Int} (ho : out.length ≤ 6) (hr : ∀ y ∈ out, 0 ≤ y ∧ y < c) : ∀ (ys P : List Int) {d : Bool} {acc : List Int}, out = P ++ ys → acc.length ≤ 2 * P.length →
    rounds (fun vs => lo226_2.dv (Vl l :: Vi i :: Jl out :: vs)) [Vb d, Vi P.length, Jl acc] = some (.y (.ext 2) [Vb (oiL l i ys d acc).1, Jl (oiL l i ys d acc).2]) := by
  intro ys
  induction ys with
  | nil =>
    intro P d acc hP ha
    refine rounds_exit ?_ (by simp)
    have : out.length = P.length := by rw [hP]; simp
    simp [lo226_2, TT.dv, this, oiL]
  | cons y ys ih =>
    intro P d acc hP ha
    have hlen : out.length = P.length + (ys.length + 1) := by rw [hP]; simp
    have hlt : P.length < out.length := by omega
    have gy := get_J (l := out) (i := P.length) hlt
    rw [hP, ei_at, ← hP] at gy
    obtain ⟨r1, r2⟩ := hr y (by rw [hP]; simp)
    obtain ⟨p, rfl⟩ : ∃ p : Nat, y = p := ⟨y.toNat, by omega⟩
    have hpl : p < l.length := by omega
    have hil : i < l.length := by omega
    have g1 := get_V (x := l) (i := i) hil
    have g2 := get_V (x := l) (i := p) hpl
    have mo := more_ok (hw.el i) (hw.el p)
    have e1 : (B.add .i64).den (Vi P.length) (Vi 1) = Vi ((P.length + 1 : Nat) : Int) := by rw [add_i (by omega) (by omega)]; rfl
    have a1 := app_J acc i
    have a2 := app_J (acc ++ [(i : Int)]) p
    have a3 := app_J acc p
    have q1 : (acc.length : Int) + 1 ≤ 17592186044416 := by omega
    have q2 : (acc.length : Int) + 1 + 1 ≤ 17592186044416 := by omega
    have hP' : out = (P ++ [(p : Int)]) ++ ys := by rw [hP]; simp
    have hlP : (P ++ [(p : Int)]).length = P.length + 1 := by simp
    have hls : lsB l p i = decide (ordI (el l p) (el l i) < 0) := by unfold lsB; simp
    rw [← hls] at mo
    unfold oiL
    cases d
    · cases hb : lsB l p i
      · rw [hb] at mo
        have hih := ih (P ++ [(p : Int)]) (d := false) (acc := acc ++ [(p : Int)]) hP' (by simp; omega)
        rw [hlP] at hih
        simp only [Bool.not_false, Bool.and_false, Bool.false_eq_true, if_false]
        rw [← hih]
        refine rounds_cont ?_
        generalize ((P.length + 1 : Nat) : Int) = z at *
        simp [lo226_2, TT.dv, KS.dv, hlt, gy, g1, g2, hpl, hil, mo, e1, a3, q1]
      · rw [hb] at mo
        have hih := ih (P ++ [(p : Int)]) (d := true) (acc := acc ++ [(i : Int)] ++ [(p : Int)]) hP' (by simp; omega)
        rw [hlP] at hih
        simp only [Bool.not_false, Bool.and_true, if_true]
        rw [← hih]
        refine rounds_cont ?_
        generalize ((P.length + 1 : Nat) : Int) = z at *
        generalize hA : acc ++ [(i : Int)] = A at *
        have hAl : A.length = acc.length + 1 := by rw [← hA]; simp
        have q3 : (A.length : Int) ≤ 17592186044416 := by omega
        have q4 : (A.length : Int) + 1 ≤ 17592186044416 := by omega
        simp [lo226_2, TT.dv, KS.dv, hlt, gy, g1, g2, hpl, hil, mo, e1, a1, a2, q3, q4]
    · have hih := ih (P ++ [(p : Int)]) (d := true) (acc := acc ++ [(p : Int)]) hP' (by simp; omega)
      rw [hlP] at hih
      simp only [Bool.not_true, Bool.false_and, Bool.false_eq_true, if_false]
      rw [← hih]
      refine rounds_cont ?_
      generalize ((P.length + 1 : Nat) : Int) = z at *
      simp [lo226_2, TT.dv, KS.dv, hlt, gy, e1, a3, q1]
theorem ord_loop : ∀ (n : Nat) {i : Nat}, i + n = c →
    rounds (fun vs => lo226_1.dv (Vl l :: vs)) [Vi i, Jl (ordL l i)] = some (.y (.ext 0) [Jl (ordL l c)]) := by
  intro n
  induction n with
  | zero =>
    intro i hi
    have : i = c := by omega
    subst this
    refine rounds_exit ?_ (by simp)
    simp [lo226_1, TT.dv, hl]
  | succ n ih =>
    intro i hi
    have hic : i < c := by omega
    refine Eq.trans (rounds_cont ?_) (ih (i := i + 1) (by omega))
    have e1 : (B.add .i64).den (Vi i) (Vi 1) = Vi ((i + 1 : Nat) : Int) := by rw [add_i (by omega) (by omega)]; rfl
    have lp := oi_loop hc hl hw hic (out := ordL l i) (by rw [ordL_len]; omega) (fun y hy => by have := (ordL_mem i).1 hy; omega) (ordL l i) [] (d := false) (acc := []) rfl (by simp)
    rw [show (([] : List Int).length : Int) = 0 from rfl, ← Jl_nil] at lp
    have hlen := oiL_len (l := l) (e := i) (ordL l i) false []
    rw [ordL_len] at hlen
    have hins : ordL l (i + 1) = if (oiL l i (ordL l i) false []).1 then (oiL l i (ordL l i) false []).2 else (oiL l i (ordL l i) false []).2 ++ [(i : Int)] := rfl
    rw [hins]
    generalize oiL l i (ordL l i) false [] = g at *
    obtain ⟨d, A⟩ := g
    simp only at lp hlen ⊢
    have a1 := app_J A i
    have hil : i < l.length := by omega
    generalize ((i + 1 : Nat) : Int) = z at *
    cases d
    · have q1 : (A.length : Int) + 1 ≤ 17592186044416 := by simp at hlen; omega
      simp [lo226_1, TT.dv, KS.dv, hil, lp, a1, e1, q1]
    · simp [lo226_1, TT.dv, KS.dv, hil, lp, e1]
theorem order19_ok : val 226 [Vl l] = some [Jl (ordL l c)] := by
  refine val_of tab226 ?_
  have lp := ord_loop hc hl hw c (i := 0) (by omega)
  rw [show ((0 : Nat) : Int) = 0 from rfl, show Jl (ordL l 0) = Vl [] from rfl] at lp
  simp [tr226, TT.dv, KS.dv, lp]
end
section
variable {l : List Nat} (hn : ∀ p : Nat, p < l.length → ¬ nanB (el l p))
include hn
theorem ls_rk {a b : Nat} (ha : a < l.length) (hb : b < l.length) : lsB l a b = true ↔ rk (el l a) < rk (el l b) := by
  unfold lsB
  rw [decide_eq_true_eq]
  unfold ordI
  rw [show ordOk (el l (a : Int).toNat) (el l (b : Int).toNat) = true from by
    unfold ordOk; exact decide_eq_true ⟨by simpa using hn a ha, by simpa using hn b hb⟩, if_pos rfl]
  unfold cmp3
  simp only [Int.toNat_natCast]
  split
  · simp_all
  · split <;> simp_all <;> omega
theorem ls_split {e : Nat} (he : e < l.length) : ∀ out : List Int, (∀ y ∈ out, 0 ≤ y ∧ y < l.length) → out.Pairwise (fun a b => rk (el l b.toNat) ≤ rk (el l a.toNat)) →
    ∃ A C : List Int, out = A ++ C.reverse ∧ (∀ y ∈ A, lsB l y e = false) ∧ (∀ y ∈ C, lsB l y e = true)
  | [], _, _ => ⟨[], [], rfl, fun y h => by simp at h, fun y h => by simp at h⟩
  | y :: ys, hr, hp => by
    rw [List.pairwise_cons] at hp
    obtain ⟨p, rfl⟩ : ∃ p : Nat, y = p := ⟨y.toNat, by have := hr y (by simp); omega⟩
    have hpl : p < l.length := by have := hr p (by simp); omega
    cases hb : lsB l p e
    · obtain ⟨A, C, h1, h2, h3⟩ := ls_split he ys (fun y h => hr y (by simp [h])) hp.2
      refine ⟨p :: A, C, by rw [h1]; rfl, fun y h => ?_, h3⟩
      rcases List.mem_cons.1 h with h | h
      · subst h; exact hb
      · exact h2 y h
    · refine ⟨[], (p :: ys : List Int).reverse, by simp, fun y h => by simp at h, fun y h => ?_⟩
      rw [List.mem_reverse] at h
      rcases List.mem_cons.1 h with h | h
      · subst h; exact hb
      · obtain ⟨q, rfl⟩ : ∃ q : Nat, y = q := ⟨y.toNat, by have := hr y (by simp [h]); omega⟩
        have hql : q < l.length := by have := hr q (by simp [h]); omega
        have h1 := hp.1 q h
        have h2 := (ls_rk hn hpl he).1 hb
        refine (ls_rk hn hql he).2 ?_
        simp only [Int.toNat_natCast] at h1
        omega
omit hn in
theorem oiL_skip {e : Int} : ∀ (A ys : List Int) (acc : List Int), (∀ y ∈ A, lsB l y e = false) → oiL l e (A ++ ys) false acc = oiL l e ys false (acc ++ A)
  | [], ys, acc, _ => by simp
  | y :: A, ys, acc, h => by
    rw [List.cons_append]
    unfold oiL
    rw [h y (by simp)]
    simp only [Bool.not_false, Bool.and_false, Bool.false_eq_true, if_false]
    rw [oiL_skip A ys _ (fun z hz => h z (by simp [hz]))]
    cases ys <;> simp [oiL]
omit hn in
theorem oiL_done {e : Int} : ∀ (ys : List Int) (acc : List Int), oiL l e ys true acc = (true, acc ++ ys)
  | [], acc => by simp [oiL]
  | y :: ys, acc => by
    unfold oiL
    simp only [Bool.not_true, Bool.false_and, Bool.false_eq_true, if_false]
    rw [oiL_done ys]; simp
omit hn in
theorem insL_at {e : Int} {A Bs : List Int} (hA : ∀ y ∈ A, lsB l y e = false) (hB : ∀ y ∈ Bs, lsB l y e = true) : insL l (A ++ Bs) e = A ++ e :: Bs := by
  unfold insL
  rw [oiL_skip A Bs [] hA, List.nil_append]
  cases Bs with
  | nil => simp [oiL]
  | cons y ys =>
    unfold oiL
    rw [hB y (by simp)]
    simp only [Bool.not_false, Bool.and_true, if_true]
    rw [oiL_done]; simp
omit hn in
theorem insP_at {e : Int} {A : List Int} (hA : ∀ y ∈ A, lsB l y e = false) : ∀ (C R : List Int), (∀ y ∈ C, lsB l y e = true) → insP l (A.length + C.length) (A ++ C.reverse ++ e :: R) = A ++ e :: (C.reverse ++ R)
  | [], R, _ => by
    simp only [List.length_nil, Nat.add_zero, List.reverse_nil, List.append_nil, List.nil_append]
    cases hAl : A.length with
    | zero => rw [List.eq_nil_of_length_eq_zero hAl]; rfl
    | succ m =>
      unfold insP
      obtain ⟨P, b, rfl⟩ : ∃ P b, A = P ++ [b] := by
        have hne : A ≠ [] := fun h => by rw [h] at hAl; cases hAl
        exact ⟨A.dropLast, A.getLast hne, (List.dropLast_concat_getLast hne).symm⟩
      have hPm : P.length = m := by simp at hAl; omega
      rw [List.append_assoc, List.singleton_append, ← hPm, ei_at, ei_next, hA b (by simp)]
      rfl
  | b :: C, R, hC => by
    have e1 : A ++ (b :: C).reverse ++ e :: R = (A ++ C.reverse) ++ b :: e :: R := by simp
    have hlen : A.length + (b :: C).length = (A ++ C.reverse).length + 1 := by simp; omega
    rw [e1, hlen]
    unfold insP
    rw [ei_at, ei_next, hC b (by simp), if_pos rfl, sw_next]
    have := insP_at hA C (b :: R) (fun y hy => hC y (by simp [hy]))
    rw [show (A ++ C.reverse).length = A.length + C.length by simp, this]
    simp
theorem ord_same : ∀ (i : Nat), i ≤ l.length →
    (ordL l i).Pairwise (fun a b => rk (el l b.toNat) ≤ rk (el l a.toNat)) ∧ (i < l.length → ∀ R : List Int, insP l i (ordL l i ++ (i : Int) :: R) = ordL l (i + 1) ++ R) := by
  intro i
  induction i with
  | zero =>
    intro _
    exact ⟨List.Pairwise.nil, fun _ R => rfl⟩
  | succ i ih =>
    intro hi
    obtain ⟨h1, h2⟩ := ih (by omega)
    have hil : i < l.length := by omega
    obtain ⟨A, C, e1, e2, e3⟩ := ls_split hn hil (ordL l i) (fun y hy => by have := (ordL_mem i).1 hy; omega) h1
    have e4 : ordL l (i + 1) = A ++ (i : Int) :: C.reverse := by
      show insL l (ordL l i) i = _
      rw [e1]
      exact insL_at e2 (fun y hy => e3 y (List.mem_reverse.1 hy))
    have hpw : (ordL l (i + 1)).Pairwise (fun a b => rk (el l b.toNat) ≤ rk (el l a.toNat)) := by
      rw [e4]
      rw [e1] at h1
      rw [List.pairwise_append] at h1 ⊢
      obtain ⟨p1, p2, p3⟩ := h1
      have rg : ∀ y, y ∈ A ++ C.reverse → ∃ q : Nat, y = q ∧ q < l.length := fun y hy => by
        rw [← e1] at hy
        have := (ordL_mem i).1 hy
        exact ⟨y.toNat, by omega, by omega⟩
      refine ⟨p1, List.pairwise_cons.2 ⟨fun y hy => ?_, p2⟩, fun a ha b hb => ?_⟩
      · obtain ⟨q, rfl, hq⟩ := rg y (by simp at hy ⊢; exact .inr hy)
        have := (ls_rk hn hq hil).1 (e3 q (List.mem_reverse.1 hy))
        simp only [Int.toNat_natCast]; omega
      · rcases List.mem_cons.1 hb with hb | hb
        · subst hb
          obtain ⟨q, rfl, hq⟩ := rg a (by simp [ha])
          have h5 := e2 q ha
          have h6 : ¬ rk (el l q) < rk (el l i) := fun hh => by rw [(ls_rk hn hq hil).2 hh] at h5; cases h5
          simp only [Int.toNat_natCast]; omega
        · exact p3 a ha b hb
    refine ⟨hpw, fun hil2 R => ?_⟩
    · obtain ⟨A', C', f1, f2, f3⟩ := ls_split hn hil2 (ordL l (i + 1)) (fun y hy => by have := (ordL_mem (i + 1)).1 hy; omega) hpw
      have f4 : ordL l (i + 1 + 1) = A' ++ ((i + 1 : Nat) : Int) :: C'.reverse := by
        show insL l (ordL l (i + 1)) ((i + 1 : Nat) : Int) = _
        rw [f1]
        exact insL_at f2 (fun y hy => f3 y (List.mem_reverse.1 hy))
      have hlen : i + 1 = A'.length + C'.length := by
        have := ordL_len l (i + 1)
        rw [f1] at this; simp at this; omega
      have := insP_at (l := l) f2 C' R f3
      rw [← hlen, ← f1] at this
      rw [this, f4]; simp
theorem firL_split (i m : Nat) : firL (i + m) = firL i ++ (List.range m).map fun k : Nat => ((i + k : Nat) : Int) := by
  unfold firL
  rw [List.range_add, List.map_append, List.map_map]
  rfl
theorem srt_same : ∀ (n i : Nat), i + n = l.length → srtP l n i (ordL l i ++ (List.range n).map fun k : Nat => ((i + k : Nat) : Int)) = ordL l l.length
  | 0, i, h => by
    have : i = l.length := by omega
    subst this; simp [srtP]
  | n + 1, i, h => by
    unfold srtP
    have e : (List.range (n + 1)).map (fun k : Nat => ((i + k : Nat) : Int)) = (i : Int) :: (List.range n).map fun k : Nat => ((i + 1 + k : Nat) : Int) := by
      rw [List.range_succ_eq_map, List.map_cons, List.map_map]
      simp only [Nat.add_zero, List.cons.injEq, true_and]
      refine List.map_congr_left fun k _ => ?_
      simp only [Function.comp_apply]
      exact congrArg _ (by omega)
    rw [e, (ord_same hn i (by omega)).2 (by omega)]
    exact srt_same n (i + 1) (by omega)
theorem sort_same (h1 : 1 ≤ l.length) : srtP l (l.length - 1) 1 (firL l.length) = ordL l l.length := by
  have h := srt_same hn (l.length - 1) 1 (by omega)
  have e : firL l.length = ordL l 1 ++ (List.range (l.length - 1)).map fun k : Nat => ((1 + k : Nat) : Int) := by
    have := firL_split hn 1 (l.length - 1)
    rw [show 1 + (l.length - 1) = l.length by omega] at this
    rw [this]; rfl
  rw [e]; exact h
end
end Go.Proofs.YthchhkghjfendabGreat.Dx

namespace Go.Proofs.YthchhkghjfendabGreat.Dx
open Go

end Go.Proofs.YthchhkghjfendabGreat.Dx

namespace Go.Proofs.YthchhkghjfendabGreat.Dx
open Go

section
variable {x : List Nat} (hx : Words x) (h64 : x.length < 9000000000000000000) {K : Int} (hK : 0 ≤ K ∧ K ≤ 100000)
include hx h64 hK
end
end Go.Proofs.YthchhkghjfendabGreat.Dx

namespace Go.Proofs.YthchhkghjfendabGreat.Dx
open Go

/-- What the parts of a norm come to. -/
structure Parts (x : List Nat) (k : Int) : Prop where
  fin : ∀ i, i < x.length → fPow (scaleV (el x i) (-k)) ≠ 2047
  w : ∀ i, i < x.length → absV (scaleV (el x i) (-k)) = nearR (fMag (el x i)) (fPl (el x i) - k)
  le2 : ∀ i, i < x.length → W (scaleV (el x i) (-k)) ≤ 2
theorem clamp_id {k : Int} (h : -2300 ≤ k ∧ k ≤ 2300) : clamp k = k := by unfold clamp; omega
theorem W_two : W 4611686018427387904 = 2 := by
  unfold W D
  rw [show fMag 4611686018427387904 = 2 ^ 52 from by decide, show fPl 4611686018427387904 = -51 from by decide, ← P2_nat, ← P2_add, show ((52 : Nat) : Int) + -51 = ((1 : Nat) : Int) by omega, P2_nat]; rfl
theorem parts_of {x : List Nat} (hx : Words x) {k : Int} (hk : -1100 ≤ k ∧ k ≤ 1100) (hf : ∀ i, i < x.length → fPow (el x i) ≠ 2047) (hm : ∀ i, i < x.length → W (el x i) ≤ P2 (k + 1)) : Parts x k := by
  have key : ∀ i, i < x.length → scaleV (el x i) (-k) = nearV (fNeg (el x i)) (fMag (el x i)) (fPl (el x i) - k) ∧ nearR (fMag (el x i)) (fPl (el x i) - k) ≤ 4611686018427387904 := fun i hi => by
    refine ⟨by rw [scaleV_fin (hx.el i) (hf i hi), clamp_id (by omega), Int.sub_eq_add_neg], near_le (by decide) ?_⟩
    rw [W_two, Int.sub_eq_add_neg, ← D_shift]
    have h1 := Rat.mul_le_mul_of_nonneg_right (hm i hi) (Rat.le_of_lt (P2_pos (-k)))
    rw [← P2_add, show k + 1 + -k = ((1 : Nat) : Int) by omega, P2_nat] at h1
    exact h1
  refine ⟨fun i hi => ?_, fun i hi => ?_, fun i hi => ?_⟩
  · obtain ⟨h1, h2⟩ := key i hi
    rw [h1]
    exact fin_near (Nat.lt_of_le_of_lt h2 (by decide))
  · rw [(key i hi).1, absV_near]
  · obtain ⟨h1, h2⟩ := key i hi
    rw [← W_abs, h1, absV_near, ← W_two, W_le (by have := nearR_le (fMag (el x i)) (fPl (el x i) - k); unfold infR at this; omega) (by decide)]
    exact h2
/-- The square of a part. -/
theorem sq_part {t : Nat} (h : fPow t ≠ 2047) : mulV t t = nearR (fMag t * fMag t) (fPl t + fPl t) ∧ D (fMag t * fMag t) (fPl t + fPl t) = W t * W t := by
  refine ⟨?_, by unfold W; rw [D_mul]⟩
  rw [mulV_fin h h, show (fNeg t != fNeg t) = false by cases fNeg t <;> rfl]
  rfl
theorem sq_le4 {t : Nat} (h : fPow t ≠ 2047) (h2 : W t ≤ 2) : mulV t t ≤ 4616189618054758400 ∧ mulV t t < infR ∧ W (mulV t t) ≤ 4 := by
  have hW4 : W 4616189618054758400 = 4 := by
    unfold W D
    rw [show fMag 4616189618054758400 = 2 ^ 52 from by decide, show fPl 4616189618054758400 = -50 from by decide, ← P2_nat, ← P2_add, show ((52 : Nat) : Int) + -50 = ((2 : Nat) : Int) by omega, P2_nat]; rfl
  obtain ⟨h3, h4⟩ := sq_part h
  have h5 : mulV t t ≤ 4616189618054758400 := by
    rw [h3]
    refine near_le (by decide) ?_
    rw [h4, hW4]
    have h6 := W_nonneg t
    have h7 := Rat.mul_le_mul_of_nonneg_left h2 h6
    grind
  refine ⟨h5, Nat.lt_of_le_of_lt h5 (by decide), ?_⟩
  rw [← hW4, W_le (by omega) (by decide)]; exact h5
/-- Sums of squares: finite, small, no less than each square. -/
theorem sums_ge {x : List Nat} {k : Int} (hP : Parts x k) (hl : x.length ≤ 1000) : ∀ (n : Nat) {i s : Nat}, i + n = x.length → s < infR → W s ≤ ((4 * i : Nat) : Rat) →
    sqrR x k n i s < infR ∧ W (sqrR x k n i s) ≤ ((4 * x.length : Nat) : Rat) ∧ s ≤ sqrR x k n i s ∧ ∀ j, i ≤ j → j < x.length → mulV (scaleV (el x j) (-k)) (scaleV (el x j) (-k)) ≤ sqrR x k n i s := by
  intro n
  induction n with
  | zero =>
    intro i s hi hs hW
    have : i = x.length := by omega
    subst this
    exact ⟨hs, hW, Nat.le_refl _, fun j h1 h2 => by omega⟩
  | succ n ih =>
    intro i s hi hs hW
    unfold sqrR
    have hlt : i < x.length := by omega
    obtain ⟨q1, q2, q3⟩ := sq_le4 (hP.fin i hlt) (hP.le2 i hlt)
    generalize hq : mulV (scaleV (el x i) (-k)) (scaleV (el x i) (-k)) = q at *
    obtain ⟨a1, a2, _⟩ := add_ge hs q2
    obtain ⟨N, p, e1, e2⟩ := add_pos hs q2
    obtain ⟨w1, w2⟩ := W_int (c := 4 * (i + 1)) (by omega)
    have hle : addV s q ≤ nearR (4 * (i + 1)) 0 := by
      rw [e1]
      refine near_le w1 ?_
      rw [e2, w2]
      have : ((4 * (i + 1) : Nat) : Rat) = ((4 * i : Nat) : Rat) + 4 := by rw [Nat.mul_add, Rat.natCast_add]; rfl
      rw [this]
      grind
    have hs' : addV s q < infR := Nat.lt_of_le_of_lt hle w1
    have hW' : W (addV s q) ≤ ((4 * (i + 1) : Nat) : Rat) := by
      rw [← w2, W_le (by unfold infR at hs'; omega) (by unfold infR at w1; omega)]; exact hle
    obtain ⟨r1, r2, r3, r4⟩ := ih (i := i + 1) (s := addV s q) (by omega) hs' hW'
    refine ⟨r1, r2, Nat.le_trans a1 r3, fun j h1 h2 => ?_⟩
    rcases Nat.eq_or_lt_of_le h1 with he | he
    · subst he; rw [hq]; exact Nat.le_trans a2 r3
    · exact r4 j (by omega) h2
theorem sqrt_pos {s : Nat} (h : s < infR) : sqrtV s ≤ infR := by
  have hn : fNeg s = false := by unfold fNeg; unfold infR at h; simp; omega
  have hnan : ¬ nanB s := by unfold nanB fPow; unfold infR at h; omega
  unfold sqrtV
  rw [if_neg hnan, hn]
  split
  · omega
  · simp only [Bool.false_eq_true, if_false]; exact nearR_le _ _
theorem le_inf_nan {s : Nat} (h : s ≤ infR) : ¬ nanB s := by
  rcases Nat.lt_or_eq_of_le h with h1 | h1
  · unfold nanB fPow; unfold infR at h1; omega
  · subst h1; decide
end Go.Proofs.YthchhkghjfendabGreat.Dx

namespace Go.Proofs.YthchhkghjfendabGreat.Dx
open Go

theorem nearV_nan (s : Bool) (n : Nat) (p : Int) : ¬ nanB (nearV s n p) := by
  have h := nearR_le n p
  obtain ⟨f1, f2, _⟩ := sgn_fields s h
  intro hh
  have : absV (nearV s n p) = nearR n p := absV_near s n p
  exact le_inf_nan h ((nanB_absV _).2 hh |> fun h2 => by rwa [this] at h2)
theorem norm_notnan {x : List Nat} (hx : Words x) (hl : x.length ≤ 64) (hf : finV x = true) : ¬ nanB (normV x) := by
  rw [finV_iff] at hf
  obtain ⟨b1, b2, b3⟩ := bigR_mem (x := x) x.length (i := 0) (m := 0) (fun j _ hj => fin_nan (hf j (by omega)))
  rw [show bigR x x.length 0 0 = bigV x from rfl] at b1 b2 b3
  have hbf : fPow (bigV x) ≠ 2047 := by
    rcases b3 with h | ⟨j, _, j2, j3⟩
    · rw [h]; decide
    · rw [← j3, (fields_abs (el x j)).2.2.1]; exact hf j (by omega)
  unfold normV
  by_cases h0 : bigV x = 0
  · rw [if_pos (.inl h0), h0]; decide
  · rw [if_neg (by simp [h0, hbf])]
    have hm0 : fMag (bigV x) ≠ 0 := fun h => by
      have h1 := bigV_lt x
      have h2 := (mag_zero (bigV x)).1 h
      unfold fPow fFrac at h2
      omega
    obtain ⟨w1, w2⟩ := expB_W hbf hm0
    have hP := parts_of hx (k := expB (bigV x)) (expB_bd _) hf fun i hi => by
      have h3 := b2 i (Nat.zero_le _) (by omega)
      have h4 : W (el x i) ≤ W (bigV x) := by
        rw [← W_abs (el x i)]
        exact (W_le (absV_lt _) (bigV_lt x)).2 h3
      exact Rat.le_trans h4 (Rat.le_of_lt w2)
    have hs := (sums_ge hP (by omega) x.length (i := 0) (s := 0) (by omega) (by decide) (by
      have : W 0 = 0 := by unfold W D; rw [show fMag 0 = 0 from rfl]; simp
      rw [this]; decide)).1
    have hq := le_inf_nan (sqrt_pos hs)
    unfold sqrV
    generalize sqrtV (sqrR x (expB (bigV x)) x.length 0 0) = q at *
    unfold scaleV
    rw [if_neg hq]
    split
    · exact hq
    · exact nearV_nan _ _ _
theorem shifted19_ok (R C : Int) {x : List Nat} (k : Int) (hl : x.length ≤ 1000) : val 298 [Vi R, Vi C, Vl x, Vi k] = some [Vi R, Vi C, Vl (shV x k)] := by
  have lp : ∀ (n : Nat) {i : Nat}, i + n = x.length → rounds (fun vs => lo298_1.dv (Vi R :: Vi C :: Vl x :: Vi k :: vs)) [Vi i, Vl (mk (shG x k) i)] = some (.y (.ext 0) [Vl (shV x k)]) := by
    intro n
    induction n with
    | zero =>
      intro i hi
      have : i = x.length := by omega
      subst this
      refine rounds_exit ?_ (by simp)
      simp [lo298_1, TT.dv, shV]
    | succ n ih =>
      intro i hi
      refine Eq.trans (rounds_cont ?_) (ih (i := i + 1) (by omega))
      have e1 : (B.add .i64).den (Vi i) (Vi 1) = Vi (i + 1) := add_i (by omega) (by omega)
      have g1 := get_V (x := x) (i := i) (by omega)
      have s1 := vshift_ok (el x i) k
      have a1 := app_V (mk (shG x k) i) (shG x k i)
      rw [mk_succ] at a1
      unfold shG at a1 ⊢
      have e2 : (i : Int) + 1 ≤ 17592186044416 := by omega
      simp [lo298_1, TT.dv, show i < x.length by omega, e1, g1, s1, a1, e2]
  refine val_of tab298 ?_
  have h0 := lp x.length (i := 0) (by omega)
  rw [show ((0 : Nat) : Int) = 0 from rfl, show mk (shG x k) 0 = [] from rfl] at h0
  simp [tr298, TT.dv, KS.dv, h0]
theorem mk_set (g : Nat → Nat) (i m v : Nat) : (mk g i ++ List.replicate (m + 1) 0).set i v = (mk g i ++ [v]) ++ List.replicate m 0 := by
  rw [List.set_append_right _ _ (by simp), mk_len, Nat.sub_self]
  simp [List.replicate_succ]
theorem shifted9_ok {r c : Nat} {x : List Nat} (h : Mx r c x) {k : Int} (hk1 : -4611686018427387904 ≤ k) (hk2 : k ≤ 4611686018427387904) : val 228 [Vi r, Vi c, Vl x, Vi k] = some [Vi r, Vi c, Vl (shV x k)] := by
  have lp : ∀ (x4 x5 x6 : PV) (n : Nat) {i : Nat}, i + n = x.length → rounds (fun vs => lo228_1.dv (Vi r :: Vi c :: Vl x :: Vi k :: x4 :: x5 :: x6 :: vs)) [Vi i, Vl (mk (shG x k) i ++ List.replicate n 0)] = some (.y (.ext 0) [Vl (shV x k)]) := by
    intro x4 x5 x6 n
    have hs := h.small
    induction n with
    | zero =>
      intro i hi
      have : i = x.length := by omega
      subst this
      refine rounds_exit ?_ (by simp)
      simp [lo228_1, TT.dv, shV]
    | succ n ih =>
      intro i hi
      refine Eq.trans (rounds_cont ?_) (ih (i := i + 1) (by omega))
      have e1 : (B.add .i64).den (Vi i) (Vi 1) = Vi (i + 1) := add_i (by omega) (by omega)
      have g1 := get_V (x := x) (i := i) (by omega)
      have s1 := shift9_ok (h.w.el i) hk1 hk2
      have st := set_V (mk (shG x k) i ++ List.replicate (n + 1) 0) i (shG x k i)
      rw [mk_set, mk_succ] at st
      have hlen : (mk (shG x k) i ++ List.replicate (n + 1) 0).length = i + (n + 1) := by simp
      unfold shG at st hlen ⊢
      generalize mk (fun i => scaleV (el x i) k) i ++ List.replicate (n + 1) 0 = A at *
      simp [lo228_1, TT.dv, show i < x.length by omega, e1, g1, s1, st, hlen]
      omega
  refine val_of tab228 ?_
  have hz := zeros_ok h.hr h.hc
  have h0 := lp (Vi r) (Vi c) (Vl (List.replicate (r * c) 0)) x.length (i := 0) (by omega)
  rw [show ((0 : Nat) : Int) = 0 from rfl, show mk (shG x k) 0 = [] from rfl, List.nil_append, h.len] at h0
  simp [tr228, TT.dv, KS.dv, hz, h0]
theorem shV_mx {r c : Nat} {x : List Nat} (h : Mx r c x) (k : Int) : Mx r c (shV x k) := ⟨h.hr, h.hc, by rw [shV_len, h.len], shV_words h.w k⟩
def nmL (r c : Nat) (w : List Nat) : List Nat := mk (fun cc => normV (colL r c w cc 0)) c
section
variable {r c : Nat} {w : List Nat} (h : Mx r c w)
include h
theorem nmL_words : Words (nmL r c w) := mk_words fun i _ => normV_lt _ (colL_words h i 0)
theorem norms_ok : val 296 [Vi r, Vi c, Vl w] = some [Vl (nmL r c w)] ∧ val 221 [Vi r, Vi c, Vl w] = some [Vl (nmL r c w)] := by
  have hr := h.hr
  have hc := h.hc
  have step : ∀ i, i < c → val 247 [Vi r, Vi c, Vl w, Vi i, Vi 0] = some [Vl (colL r c w i 0)] ∧ val 167 [Vi r, Vi c, Vl w, Vi i, Vi 0] = some [Vl (colL r c w i 0)] ∧ val 314 [Vl (colL r c w i 0)] = some [Vu (normV (colL r c w i 0)), Vi 0] ∧ val 158 [Vl (colL r c w i 0)] = some [Vu (normV (colL r c w i 0))] := fun i hi => by
    have c1 := column_ok h hi (f := 0) (by omega)
    have c2 := column9_ok h hi (f := 0) (by omega)
    rw [show ((0 : Nat) : Int) = 0 from rfl] at c1 c2
    have hl : (colL r c w i 0).length = r := by rw [colL_len]; omega
    have n1 := norm_v_ok (colL_words h i 0) (by omega)
    rw [if_pos (by omega)] at n1
    exact ⟨c1, c2, n1, norm_9_ok (colL_words h i 0) (by omega)⟩
  constructor
  · have lp : ∀ (n : Nat) {i : Nat}, i + n = c → rounds (fun vs => lo296_1.dv (Vi r :: Vi c :: Vl w :: vs)) [Vi i, Vl (mk (fun cc => normV (colL r c w cc 0)) i)] = some (.y (.ext 0) [Vl (nmL r c w)]) := by
      intro n
      induction n with
      | zero =>
        intro i hi
        have : i = c := by omega
        subst this
        refine rounds_exit ?_ (by simp)
        simp [lo296_1, TT.dv, nmL]
      | succ n ih =>
        intro i hi
        refine Eq.trans (rounds_cont ?_) (ih (i := i + 1) (by omega))
        obtain ⟨s1, s2, s3, s4⟩ := step i (by omega)
        have e1 : (B.add .i64).den (Vi i) (Vi 1) = Vi (i + 1) := add_i (by omega) (by omega)
        have a1 := app_V (mk (fun cc => normV (colL r c w cc 0)) i) (normV (colL r c w i 0))
        rw [show mk (fun cc => normV (colL r c w cc 0)) i ++ [normV (colL r c w i 0)] = _ from mk_succ (fun cc => normV (colL r c w cc 0)) i] at a1
        simp [lo296_1, TT.dv, show i < c by omega, e1, s1, s3, a1, show (i : Int) + 1 ≤ 17592186044416 by omega]
    refine val_of tab296 ?_
    have h0 := lp c (i := 0) (by omega)
    rw [show ((0 : Nat) : Int) = 0 from rfl, show mk (fun cc => normV (colL r c w cc 0)) 0 = [] from rfl] at h0
    simp [tr296, TT.dv, KS.dv, h0]
  · have lp : ∀ (n : Nat) {i : Nat}, i + n = c → rounds (fun vs => lo221_1.dv (Vi r :: Vi c :: Vl w :: vs)) [Vi i, Vl (mk (fun cc => normV (colL r c w cc 0)) i)] = some (.y (.ext 0) [Vl (nmL r c w)]) := by
      intro n
      induction n with
      | zero =>
        intro i hi
        have : i = c := by omega
        subst this
        refine rounds_exit ?_ (by simp)
        simp [lo221_1, TT.dv, nmL]
      | succ n ih =>
        intro i hi
        refine Eq.trans (rounds_cont ?_) (ih (i := i + 1) (by omega))
        obtain ⟨s1, s2, s3, s4⟩ := step i (by omega)
        have e1 : (B.add .i64).den (Vi i) (Vi 1) = Vi (i + 1) := add_i (by omega) (by omega)
        have a1 := app_V (mk (fun cc => normV (colL r c w cc 0)) i) (normV (colL r c w i 0))
        rw [show mk (fun cc => normV (colL r c w cc 0)) i ++ [normV (colL r c w i 0)] = _ from mk_succ (fun cc => normV (colL r c w cc 0)) i] at a1
        simp [lo221_1, TT.dv, show i < c by omega, e1, s2, s4, a1, show (i : Int) + 1 ≤ 17592186044416 by omega]
    refine val_of tab221 ?_
    have h0 := lp c (i := 0) (by omega)
    rw [show ((0 : Nat) : Int) = 0 from rfl, show mk (fun cc => normV (colL r c w cc 0)) 0 = [] from rfl] at h0
    simp [tr221, TT.dv, KS.dv, h0]
end
section
variable {r c : Nat} {x : List Nat} (h : Mx r c x) {pl : List Int} (hl : pl.length = c) (hp : ∀ k, k < pl.length → 0 ≤ ei pl k ∧ ei pl k < c)
include h hl hp
theorem at_inner {i : Nat} (hi : i < r) {x5 : PV} {acc : List Nat} (ha : acc.length ≤ 1000) : ∀ (n : Nat) {k : Nat}, k + n = pl.length →
    rounds (fun vs => lo295_2.dv (Vi r :: Vi c :: Vl x :: Jl pl :: Vi i :: x5 :: vs)) [Vi k, Vl (acc ++ mk (coG c x pl i) k)] = some (.y (.ext 2) [Vl (acc ++ mk (coG c x pl i) pl.length)]) := by
  intro n
  have hr := h.hr
  have hc := h.hc
  induction n with
  | zero =>
    intro k hk
    have : k = pl.length := by omega
    subst this
    refine rounds_exit ?_ (by simp)
    simp [lo295_2, TT.dv]
  | succ n ih =>
    intro k hk
    have hkc : k < pl.length := by omega
    refine Eq.trans (rounds_cont ?_) (ih (k := k + 1) (by omega))
    have e1 : (B.add .i64).den (Vi k) (Vi 1) = Vi (k + 1) := add_i (by omega) (by omega)
    have g1 := get_J hkc
    obtain ⟨p1, p2⟩ := hp k hkc
    have q1 := pos_i (i := i) (c := c) (k := (ei pl k).toNat) (by omega) (by omega) (by omega)
    rw [show (((ei pl k).toNat : Nat) : Int) = ei pl k by omega] at q1
    have l1 := h.lt hi (k := (ei pl k).toNat) (by omega)
    have g2 := get_V l1
    have a1 := app_V (acc ++ mk (coG c x pl i) k) (coG c x pl i k)
    rw [List.append_assoc, mk_succ] at a1
    have l2 : ((acc.length : Int) + (k + 1)) ≤ 17592186044416 := by omega
    unfold coG at a1 ⊢
    simp [lo295_2, TT.dv, hkc, e1, g1, q1, l1, g2, a1, l2]
theorem at_outer : ∀ (n : Nat) {i : Nat}, i + n = r →
    rounds (fun vs => lo295_1.dv (Vi r :: Vi c :: Vl x :: Jl pl :: vs)) [Vi i, Vl (matL (coG c x pl) i pl.length)] = some (.y (.ext 0) [Vl (coV r c x pl)]) := by
  intro n
  have hr := h.hr
  have hc := h.hc
  induction n with
  | zero =>
    intro i hi
    have : i = r := by omega
    subst this
    refine rounds_exit ?_ (by simp)
    simp [lo295_1, TT.dv, coV]
  | succ n ih =>
    intro i hi
    refine Eq.trans (rounds_cont ?_) (ih (i := i + 1) (by omega))
    have e1 : (B.add .i64).den (Vi i) (Vi 1) = Vi (i + 1) := add_i (by omega) (by omega)
    have hlen : (matL (coG c x pl) i pl.length).length ≤ 1000 := by
      rw [matL_len]
      have : i * pl.length ≤ 6 * 6 := Nat.mul_le_mul (by omega) (by omega)
      omega
    have hin := at_inner h hl hp (i := i) (by omega) (x5 := Vl (matL (coG c x pl) i pl.length)) hlen pl.length (k := 0) (by omega)
    rw [show ((0 : Nat) : Int) = 0 from rfl, show mk (coG c x pl i) 0 = [] from rfl, List.append_nil, matL_succ] at hin
    simp [lo295_1, TT.dv, KS.dv, show i < r by omega, hin, e1]
theorem sat_ok : val 295 [Vi r, Vi c, Vl x, Jl pl] = some [Vi r, Vi c, Vl (coV r c x pl)] := by
  refine val_of tab295 ?_
  have lp := at_outer h hl hp r (i := 0) (by omega)
  rw [show ((0 : Nat) : Int) = 0 from rfl, show matL (coG c x pl) 0 pl.length = [] from rfl] at lp
  simp [tr295, TT.dv, KS.dv, lp]
theorem coV_mx' : Mx r c (coV r c x pl) := by
  have := coV_mx (r := r) (c := c) h (pl := pl) (by have := h.hc; omega)
  rwa [hl] at this
end
structure Cov (c : Nat) (pl : List Int) : Prop where
  len : pl.length = c
  rng : ∀ k, k < pl.length → 0 ≤ ei pl k ∧ ei pl k < c
  sur : ∀ p : Nat, p < c → ∃ k, k < c ∧ ei pl k = p
theorem AllOnce.cov {c : Nat} {pl : List Int} (h : AllOnce c pl) : Cov c pl := ⟨h.len, fun k hk => h.rng k (by have := h.len; omega), h.sur⟩
theorem ordL_cov (l : List Nat) (c : Nat) : Cov c (ordL l c) := by
  have hl := ordL_len l c
  refine ⟨hl, fun k hk => (ordL_mem c).1 (ei_mem hk), fun p hp => ?_⟩
  have hm : (p : Int) ∈ ordL l c := (ordL_mem c).2 (by omega)
  obtain ⟨k, hk, he⟩ := List.mem_iff_getElem.1 hm
  refine ⟨k, by omega, ?_⟩
  unfold ei
  rw [List.getD_eq_getElem?_getD, List.getElem?_eq_getElem hk]; exact he
theorem scaleV_inf {b : Nat} (h : fPow b = 2047) (k : Int) : fPow (scaleV b k) = 2047 := by
  unfold scaleV
  split
  · decide
  · rw [if_pos (.inl h)]; exact h
theorem el_shV {x : List Nat} {k : Int} {i : Nat} (h : i < x.length) : el (shV x k) i = scaleV (el x i) k := by unfold shV; rw [el_mk' h]; rfl
theorem cov_inf {r c : Nat} {w : List Nat} (h : Mx r c w) {pl : List Int} (hp : Cov c pl) (hf : finV w = false) (k : Int) : finV (shV (coV r c w pl) k) = false := by
  have hm := coV_mx' h hp.len hp.rng
  cases hg : finV (shV (coV r c w pl) k) with
  | false => rfl
  | true =>
    exfalso
    rw [finV_mx (shV_mx hm k)] at hg
    have : finV w = true := by
      rw [finV_mx h]
      intro i j hi hj hbad
      obtain ⟨k', hk', he⟩ := hp.sur j hj
      have h1 := hg i k' hi hk'
      rw [el_shV (hm.lt hi hk')] at h1
      refine h1 (scaleV_inf ?_ k)
      have : el (coV r c w pl) (ps i c k') = el w (ps i c j) := by
        unfold coV
        rw [hp.len, el_matL _ hi hk']
        unfold coG
        rw [he]; rfl
      rw [this]; exact hbad
    rw [this] at hf; cases hf
theorem order_either {r c : Nat} {w : List Nat} (h : Mx r c w) : srtP (nmL r c w) (c - 1) 1 (firL c) = ordL (nmL r c w) c ∨ finV w = false := by
  cases hf : finV w
  · exact .inr rfl
  · left
    have hl : (nmL r c w).length = c := by unfold nmL; simp
    rcases Nat.eq_zero_or_pos c with h0 | h0
    · subst h0; rfl
    · have hn : ∀ p : Nat, p < (nmL r c w).length → ¬ nanB (el (nmL r c w) p) := fun p hp => by
        have hpc : p < c := by omega
        have e : el (nmL r c w) p = normV (colL r c w p 0) := by unfold nmL; rw [el_mk' hpc]
        rw [e]
        have hr := h.hr
        refine norm_notnan (colL_words h p 0) (by rw [colL_len]; omega) ?_
        rw [finV_iff]
        intro i hi
        rw [colL_len] at hi
        rw [el_colL hi]
        exact (finV_mx h).1 hf _ _ (by omega) hpc
      have := sort_same hn (by omega)
      rwa [hl] at this
theorem up_first {c : Nat} (hc : c ≤ 6) {x0 x2 x3 x4 x5 x6 x7 x8 x9 x10 x11 x12 x13 x14 x15 x16 x17 x18 x19 x20 x21 x22 x23 : PV} : ∀ (n : Nat) {i : Nat}, i + n = c →
    rounds (fun vs => lo293_1.dv (x0 :: Vi c :: x2 :: x3 :: x4 :: x5 :: x6 :: x7 :: x8 :: x9 :: x10 :: x11 :: x12 :: x13 :: x14 :: x15 :: x16 :: x17 :: x18 :: x19 :: x20 :: x21 :: x22 :: x23 :: vs)) [Vi i, Jl (firL i)] = some (.y (.ext 0) [Jl (firL c)]) := by
  intro n
  induction n with
  | zero =>
    intro i hi
    have : i = c := by omega
    subst this
    refine rounds_exit ?_ (by simp)
    simp [lo293_1, TT.dv]
  | succ n ih =>
    intro i hi
    have hic : i < c := by omega
    refine Eq.trans (rounds_cont ?_) (ih (i := i + 1) (by omega))
    have e1 : (B.add .i64).den (Vi i) (Vi 1) = Vi ((i + 1 : Nat) : Int) := by rw [add_i (by omega) (by omega)]; rfl
    have a1 := app_J (firL i) i
    rw [firL_succ] at a1
    simp [lo293_1, TT.dv, hic, e1, a1, show ((i : Int) + 1) ≤ 17592186044416 by omega]
def upK (a : List Nat) : Int := expB (bigV a)
def upW (a : List Nat) : List Nat := shV a (-upK a)
def upLow (a : List Nat) : Nat := scaleV (normV (upW a)) (-44)
def upS (r c : Nat) (a : List Nat) : Option UP := svAll r c (upLow a) 60 ⟨upW a, eyV c⟩
def upFW (r c : Nat) (a : List Nat) (s : UP) (pl : List Int) : List Nat := shV (coV r c s.W pl) (upK a)
def upFV (c : Nat) (s : UP) (pl : List Int) : List Nat := coV c c s.V pl
/-- What Upright answers with columns at places. -/
def upA (r c : Nat) (a : List Nat) (s : UP) (pl : List Int) : List PV :=
  if finV (upFW r c a s pl) && finV (upFV c s pl) then [Vi r, Vi c, Vl (upFW r c a s pl), Vi c, Vi c, Vl (upFV c s pl), Vl (nmL r c (upFW r c a s pl)), Vi 0] else [Vi 0, Vi 0, Vl [], Vi 0, Vi 0, Vl [], Vl [], Vi 2]
def up0 (e : Int) : List PV := [Vi 0, Vi 0, Vl [], Vi 0, Vi 0, Vl [], Vl [], Vi e]
section
variable {r c : Nat} {a : List Nat} (h : Mx r c a)
include h
theorem up_start : MxU r c ⟨upW a, eyV c⟩ := ⟨shV_mx h _, eyV_mx h.hc⟩
theorem upLow_lt : upLow a < 18446744073709551616 := scaleV_lt (normV_lt _ (shV_words h.w _)) _
theorem upright_ok (hf : finV a = true) : val 293 [Vi r, Vi c, Vl a] = some (match upS r c a with | none => up0 6 | some s => upA r c a s (srtP (nmL r c s.W) (c - 1) 1 (firL c))) := by
  refine val_of tab293 ?_
  have hr := h.hr
  have hc := h.hc
  have hs := h.small
  have h1 := ccheck_ok r c (x := a) (by omega)
  unfold chk at h1
  rw [if_pos (mx_right h), if_pos hf] at h1
  have b1 := biggest_ok h.w (by omega)
  have x1 : val 5 [Vu (bigV a)] = some [Vi (upK a)] := exp_ok
  have hb := expB_bd (bigV a)
  have ng : (U.neg .i64).den (Vi (upK a)) = Vi (-upK a) := neg_i (by unfold upK; omega) (by unfold upK; omega)
  have s1 := shifted19_ok r c (x := a) (-upK a) (by omega)
  have e1 := eye_ok hc
  have hw := shV_words h.w (-upK a)
  have n1 := norm_v_ok hw (by rw [shV_len]; omega)
  rw [if_pos (by rw [shV_len]; omega)] at n1
  have l1 := vshift_ok (normV (upW a)) (-44)
  have lowlt := upLow_lt h
  have rd := srounds_ok lowlt (up_start h)
  rw [show svAll r c (upLow a) 60 ⟨upW a, eyV c⟩ = upS r c a from rfl] at rd
  rw [show shV a (-upK a) = upW a from rfl] at s1 n1
  rw [show scaleV (normV (upW a)) (-44) = upLow a from rfl] at l1
  refine Eq.trans (st_call rfl h1 rfl) ?_
  refine Eq.trans (st_f rfl) ?_
  simp only [List.cons_append, List.nil_append]
  refine Eq.trans (st_call rfl b1 rfl) ?_
  refine Eq.trans (st_call rfl x1 rfl) ?_
  simp only [List.cons_append, List.nil_append]
  refine Eq.trans (st_call rfl (show val 298 [Vi r, Vi c, Vl a, (U.neg .i64).den (Vi (upK a))] = _ from by rw [ng]; exact s1) rfl) ?_
  refine Eq.trans (st_call rfl e1 rfl) ?_
  simp only [List.cons_append, List.nil_append]
  refine Eq.trans (st_call rfl n1 rfl) ?_
  refine Eq.trans (st_call rfl l1 rfl) ?_
  simp only [List.cons_append, List.nil_append]
  cases hS : upS r c a with
  | none =>
    rw [hS] at rd
    obtain ⟨s', rd⟩ := rd
    refine Eq.trans (st_call rfl rd rfl) ?_
    refine Eq.trans (st_t rfl) ?_
    rfl
  | some s =>
    rw [hS] at rd
    have hm := svAll_mx 60 (up_start h) (show svAll r c (upLow a) 60 ⟨upW a, eyV c⟩ = some s from hS)
    have nm := (norms_ok hm.W).1
    have nl : (nmL r c s.W).length = c := by unfold nmL; simp
    have srt := sort_ok hc nl (nmL_words hm.W) (allOnce_first c)
    have hall : AllOnce c (srtP (nmL r c s.W) (c - 1) 1 (firL c)) := by
      rcases Nat.eq_zero_or_pos c with h0 | h0
      · subst h0; exact allOnce_first 0
      · exact srtP_all (c - 1) 1 (by omega) (allOnce_first c)
    simp only
    generalize srtP (nmL r c s.W) (c - 1) 1 (firL c) = pl at *
    have cv := hall.cov
    have a1 := sat_ok hm.W (pl := pl) cv.len cv.rng
    have a2 := sat_ok hm.V (pl := pl) cv.len cv.rng
    have m1 := coV_mx' hm.W (pl := pl) cv.len cv.rng
    have m2 := coV_mx' hm.V (pl := pl) cv.len cv.rng
    have s2 := shifted19_ok r c (x := coV r c s.W pl) (upK a) (by have := m1.small; omega)
    have m3 := shV_mx m1 (upK a)
    have f1 := finite_v_ok m3.w (by have := m3.small; omega)
    have f2 := finite_v_ok m2.w (by have := m2.small; omega)
    have n2 := (norms_ok m3).1
    have lp := fun x0 x2 x3 x4 x5 x6 x7 x8 x9 x10 x11 x12 x13 x14 x15 x16 x17 x18 x19 x20 x21 x22 x23 => up_first hc (x0 := x0) (x2 := x2) (x3 := x3) (x4 := x4) (x5 := x5) (x6 := x6) (x7 := x7) (x8 := x8) (x9 := x9) (x10 := x10) (x11 := x11) (x12 := x12) (x13 := x13) (x14 := x14) (x15 := x15) (x16 := x16) (x17 := x17) (x18 := x18) (x19 := x19) (x20 := x20) (x21 := x21) (x22 := x22) (x23 := x23) c (i := 0) (by omega)
    rw [show ((0 : Nat) : Int) = 0 from rfl, show Jl (firL 0) = Vl [] from rfl] at lp
    refine Eq.trans (st_call rfl rd rfl) ?_
    refine Eq.trans (st_f rfl) ?_
    simp only [List.cons_append, List.nil_append]
    refine Eq.trans (st_call rfl nm rfl) ?_
    simp only [List.cons_append, List.nil_append]
    refine Eq.trans (st_loop (lp _ _ _ _ _ _ _ _ _ _ _ _ _ _ _ _ _ _ _ _ _ _ _)) ?_
    refine Eq.trans st_hit ?_
    simp only [List.cons_append, List.nil_append]
    refine Eq.trans (st_call rfl srt rfl) ?_
    refine Eq.trans (st_call rfl a1 rfl) ?_
    simp only [List.cons_append, List.nil_append]
    refine Eq.trans (st_call rfl s2 rfl) ?_
    refine Eq.trans (st_call rfl a2 rfl) ?_
    simp only [List.cons_append, List.nil_append]
    refine Eq.trans (st_call rfl f1 rfl) ?_
    unfold upA upFW upFV
    cases hf1 : finV (shV (coV r c s.W pl) (upK a))
    · refine Eq.trans (st_skip rfl) ?_
      refine Eq.trans (st_t rfl) ?_
      rfl
    · refine Eq.trans (st_call rfl f2 rfl) ?_
      cases hf2 : finV (coV c c s.V pl)
      · refine Eq.trans (st_t rfl) ?_
        rfl
      · refine Eq.trans (st_f rfl) ?_
        simp only [List.cons_append, List.nil_append]
        refine Eq.trans (st_call rfl n2 rfl) ?_
        rfl
end
end Go.Proofs.YthchhkghjfendabGreat.Dx

namespace Go.Proofs.YthchhkghjfendabGreat.Dx
open Go

theorem svAll_mxU {r c : Nat} {a : List Nat} (h : Mx r c a) {s : UP} (hs : upS r c a = some s) : MxU r c s := svAll_mx 60 (up_start h) hs
section
variable {r c : Nat} {a : List Nat} (h : Mx r c a)
include h
theorem upright9_ok : val 223 [Vi r, Vi c, Vl a] = some (match upS r c a with | none => up0 6 | some s => upA r c a s (ordL (nmL r c s.W) c)) := by
  refine val_of tab223 ?_
  have hr := h.hr
  have hc := h.hc
  have hs := h.small
  have b1 := biggest9_ok h.w (by omega)
  have x1 : val 141 [Vu (bigV a)] = some [Vi (upK a)] := exp8_ok (by have := bigV_lt a; omega)
  have hb := expB_bd (bigV a)
  have ng : (B.sub .i64).den (Vi 0) (Vi (upK a)) = Vi (-upK a) := by rw [sub_i (by unfold upK; omega) (by unfold upK; omega)]; exact congrArg Vi (by omega)
  have s1 := shifted9_ok h (k := -upK a) (by unfold upK; omega) (by unfold upK; omega)
  have e1 := eye9_ok hc
  have hw := shV_words h.w (-upK a)
  have n1 := norm_9_ok hw (by rw [shV_len]; omega)
  have lowlt := upLow_lt h
  have l1 := shift9_ok (normV_lt _ hw) (k := -44) (by omega) (by omega)
  rw [show shV a (-upK a) = upW a from rfl] at s1 n1 l1
  rw [show scaleV (normV (upW a)) (-44) = upLow a from rfl] at l1
  have rd := fun x0 x1 x2 x3 x4 x5 x6 x7 x8 x9 x10 x11 => sv9_all (r := r) (c := c) lowlt (x0 := x0) (x1 := x1) (x2 := x2) (x3 := x3) (x4 := x4) (x5 := x5) (x6 := x6) (x7 := x7) (x8 := x8) (x9 := x9) (x10 := x10) (x11 := x11) 60 (i := 0) (by omega) (up_start h)
  rw [show svAll r c (upLow a) 60 ⟨upW a, eyV c⟩ = upS r c a from rfl] at rd
  rw [show ((0 : Nat) : Int) = 0 from rfl] at rd
  refine Eq.trans (st_call rfl b1 rfl) ?_
  refine Eq.trans (st_call rfl x1 rfl) ?_
  simp only [List.cons_append, List.nil_append]
  refine Eq.trans (st_call rfl (show val 228 [Vi r, Vi c, Vl a, (B.sub .i64).den (Vi 0) (Vi (upK a))] = _ from by rw [ng]; exact s1) rfl) ?_
  refine Eq.trans (st_call rfl e1 rfl) ?_
  simp only [List.cons_append, List.nil_append]
  refine Eq.trans (st_call rfl n1 rfl) ?_
  refine Eq.trans (st_call rfl l1 rfl) ?_
  simp only [List.cons_append, List.nil_append]
  cases hS : upS r c a with
  | none =>
    rw [hS] at rd
    simp only at rd
    obtain ⟨s', rd⟩ := rd _ _ _ _ _ _ _ _ _ _ _ _
    refine Eq.trans (st_loop rd) ?_
    refine Eq.trans st_hit ?_
    refine Eq.trans (st_t rfl) ?_
    rfl
  | some s =>
    rw [hS] at rd
    simp only at rd
    have hm := svAll_mxU h hS
    have nm := (norms_ok hm.W).2
    have nl : (nmL r c s.W).length = c := by unfold nmL; simp
    have od := order19_ok hc nl (nmL_words hm.W)
    simp only
    have cv := ordL_cov (nmL r c s.W) c
    generalize ordL (nmL r c s.W) c = pl at *
    have a1 := columns9_ok hm.W (pl := pl) (by have := cv.len; omega) cv.rng
    have a2 := columns9_ok hm.V (pl := pl) (by have := cv.len; omega) cv.rng
    rw [cv.len] at a1 a2
    have m1 := coV_mx' hm.W (pl := pl) cv.len cv.rng
    have m2 := coV_mx' hm.V (pl := pl) cv.len cv.rng
    have s2 := shifted9_ok m1 (k := upK a) (by unfold upK; omega) (by unfold upK; omega)
    have m3 := shV_mx m1 (upK a)
    have f1 := finite_9_ok m3.w (by have := m3.small; omega)
    have f2 := finite_9_ok m2.w (by have := m2.small; omega)
    have n2 := (norms_ok m3).2
    refine Eq.trans (st_loop (rd _ _ _ _ _ _ _ _ _ _ _ _)) ?_
    refine Eq.trans st_hit ?_
    refine Eq.trans (st_f rfl) ?_
    simp only [List.cons_append, List.nil_append]
    refine Eq.trans (st_call rfl nm rfl) ?_
    simp only [List.cons_append, List.nil_append]
    refine Eq.trans (st_call rfl od rfl) ?_
    refine Eq.trans (st_call rfl a1 rfl) ?_
    simp only [List.cons_append, List.nil_append]
    refine Eq.trans (st_call rfl s2 rfl) ?_
    refine Eq.trans (st_call rfl a2 rfl) ?_
    simp only [List.cons_append, List.nil_append]
    refine Eq.trans (st_call rfl f1 rfl) ?_
    unfold upA upFW upFV
    cases hf1 : finV (shV (coV r c s.W pl) (upK a))
    · refine Eq.trans (st_skip rfl) ?_
      refine Eq.trans (st_t rfl) ?_
      rfl
    · refine Eq.trans (st_call rfl f2 rfl) ?_
      cases hf2 : finV (coV c c s.V pl)
      · refine Eq.trans (st_t rfl) ?_
        rfl
      · refine Eq.trans (st_f rfl) ?_
        simp only [List.cons_append, List.nil_append]
        refine Eq.trans (st_call rfl n2 rfl) ?_
        rfl
end
theorem upA_same {r c : Nat} {a : List Nat} (h : Mx r c a) {s : UP} (hs : MxU r c s) : upA r c a s (srtP (nmL r c s.W) (c - 1) 1 (firL c)) = upA r c a s (ordL (nmL r c s.W) c) := by
  rcases order_either hs.W with e | e
  · rw [e]
  · have hall : AllOnce c (srtP (nmL r c s.W) (c - 1) 1 (firL c)) := by
      rcases Nat.eq_zero_or_pos c with h0 | h0
      · subst h0; exact allOnce_first 0
      · exact srtP_all (c - 1) 1 (by omega) (allOnce_first c)
    have c1 := cov_inf hs.W hall.cov e (upK a)
    have c2 := cov_inf hs.W (ordL_cov (nmL r c s.W) c) e (upK a)
    unfold upA upFW
    rw [c1, c2]
    simp only [Bool.false_and, Bool.false_eq_true, if_false]
theorem upright_no {R C : Int} {a : List Nat} (la : a.length ≤ 17592186043904) (h : chk R C a ≠ 0) : val 293 [Vi R, Vi C, Vl a] = some (up0 (chk R C a)) := by
  refine val_of tab293 ?_
  have h1 := ccheck_ok R C la
  generalize chk R C a = e at *
  refine Eq.trans (st_call rfl h1 rfl) ?_
  refine Eq.trans (st_t (by simp [h])) ?_
  rfl
theorem cpl83 : lo83_1 = cplT 15 0 := rfl
theorem law_SvdUprights {R C : Int} (_ : -9223372036854775808 ≤ R) (_ : R < 9223372036854775808) (_ : -9223372036854775808 ≤ C) (_ : C < 9223372036854775808) {x : List Nat} (hw : Words x) (hl : x.length ≤ 17592186043904) :
    val 83 [Vi R, Vi C, Vl x] = some [Vb true] := by
  refine val_of tab83 ?_
  have cp := copy_ok R C (x := x) (by omega)
  have lp := cpl_at (p := 15) (e := 0) hw hl
  rw [← cpl83] at lp
  have c9 := ccheck9_ok R C hw hl
  have sm := same_m R C (x := x) (by omega)
  obtain ⟨e, m1, n1, x1, m2, n2, x2, z, f1, l1, l2, wz, lz, hsc⟩ : ∃ (e m1 n1 : Int) (x1 : List Nat) (m2 n2 : Int) (x2 z : List Nat), val 293 [Vi R, Vi C, Vl x] = some [Vi m1, Vi n1, Vl x1, Vi m2, Vi n2, Vl x2, Vl z, Vi e] ∧ x1.length ≤ 36 ∧ x2.length ≤ 36 ∧ Words z ∧ z.length ≤ 36 ∧
      ((chk R C x ≠ 0 ∧ e = chk R C x ∧ m1 = 0 ∧ n1 = 0 ∧ x1 = [] ∧ m2 = 0 ∧ n2 = 0 ∧ x2 = [] ∧ z = []) ∨ (chk R C x = 0 ∧ val 223 [Vi R, Vi C, Vl x] = some [Vi m1, Vi n1, Vl x1, Vi m2, Vi n2, Vl x2, Vl z, Vi e])) := by
    rcases chk_cases R C x with hc | ⟨hc, hr, hf⟩
    · exact ⟨chk R C x, 0, 0, [], 0, 0, [], [], upright_no hl hc, by decide, by decide, fun a h => by simp at h, by decide, .inl ⟨hc, rfl, rfl, rfl, rfl, rfl, rfl, rfl, rfl⟩⟩
    · obtain ⟨r, c, rfl, rfl, h⟩ := right_mx hr hw
      have u1 := upright_ok h hf
      have u9 := upright9_ok h
      cases hS : upS r c x with
      | none =>
        rw [hS] at u1 u9
        exact ⟨6, 0, 0, [], 0, 0, [], [], u1, by decide, by decide, fun a h => by simp at h, by decide, .inr ⟨hc, u9⟩⟩
      | some s =>
        rw [hS] at u1 u9
        simp only at u1 u9
        have hm := svAll_mxU h hS
        rw [upA_same h hm] at u1
        have cv := ordL_cov (nmL r c s.W) c
        have k1 := shV_mx (coV_mx' hm.W (pl := ordL (nmL r c s.W) c) cv.len cv.rng) (upK x)
        have k2 := coV_mx' hm.V (pl := ordL (nmL r c s.W) c) cv.len cv.rng
        unfold upA at u1 u9
        split at u1
        · rename_i hg
          rw [if_pos hg] at u9
          exact ⟨0, r, c, _, c, c, _, _, u1, k1.small, k2.small, nmL_words k1, by unfold nmL; simp; have := h.hc; omega, .inr ⟨hc, u9⟩⟩
        · rename_i hg
          rw [if_neg hg] at u9
          exact ⟨2, 0, 0, [], 0, 0, [], [], u1, by decide, by decide, fun a h => by simp at h, by decide, .inr ⟨hc, u9⟩⟩
  have t1 := same_m m1 n1 (x := x1) (by omega)
  have t2 := same_m m2 n2 (x := x2) (by omega)
  have t3 := same_self (x := z) (by omega)
  have t4 := srank_ok wz (by omega)
  have t5 := srank9_ok wz (by omega)
  refine Eq.trans (st_call rfl cp rfl) ?_
  simp only [List.cons_append, List.nil_append]
  refine Eq.trans (st_call rfl f1 rfl) ?_
  simp only [List.cons_append, List.nil_append]
  refine Eq.trans (st_call rfl sm rfl) ?_
  refine Eq.trans (st_f rfl) ?_
  simp only [List.cons_append, List.nil_append]
  refine Eq.trans (st_loop (lp _ rfl)) ?_
  refine Eq.trans st_hit ?_
  simp only [List.append_nil]
  refine Eq.trans (st_call rfl c9 rfl) ?_
  simp only [List.cons_append, List.nil_append]
  generalize chk R C x = be at *
  rcases hsc with ⟨h1, rfl, rfl, rfl, rfl, rfl, rfl, rfl, rfl⟩ | ⟨rfl, h2⟩
  · have hb0 : (B.eq.den (Vi e) (Vi 0)).bool = false := by simp [h1]
    refine Eq.trans (st_scope (Eq.trans (st_f hb0) rfl)) ?_
    refine Eq.trans st_hit ?_
    simp only [List.cons_append, List.nil_append]
    refine Eq.trans (st_call (by simp) same_nil rfl) ?_
    refine Eq.trans (st_call (by simp) same_nil rfl) ?_
    refine Eq.trans (st_call (by simp) t3 rfl) ?_
    refine Eq.trans (st_call (by simp) t4 rfl) ?_
    refine Eq.trans (st_call (by simp) t5 rfl) ?_
    refine Eq.trans (st_call (by simp) awake_19 rfl) ?_
    simp [TT.dv]
  · refine Eq.trans (st_scope (Eq.trans (st_t rfl) (Eq.trans (st_call rfl h2 rfl) rfl))) ?_
    refine Eq.trans st_hit ?_
    simp only [List.cons_append, List.nil_append]
    refine Eq.trans (st_call (by simp) t1 rfl) ?_
    refine Eq.trans (st_call (by simp) t2 rfl) ?_
    refine Eq.trans (st_call (by simp) t3 rfl) ?_
    refine Eq.trans (st_call (by simp) t4 rfl) ?_
    refine Eq.trans (st_call (by simp) t5 rfl) ?_
    refine Eq.trans (st_call (by simp) awake_19 rfl) ?_
    simp [TT.dv]
end Go.Proofs.YthchhkghjfendabGreat.Dx
