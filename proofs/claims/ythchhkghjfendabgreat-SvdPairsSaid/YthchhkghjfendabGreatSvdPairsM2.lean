/- The pure meaning of the functions that the law reaches, and that the law is true of it. No conditions. -/
import Derived.Test.YthchhkghjfendabGreatSvdPairsM1
set_option linter.all false
namespace Go.Proofs.YthchhkghjfendabGreat.Dx
open Go
theorem mul_parts {a b c d : Nat} : (a * 4294967296 + b) * (c * 4294967296 + d) = a * c * 18446744073709551616 + a * d * 4294967296 + b * c * 4294967296 + b * d := by
 rw [Nat.add_mul, Nat.mul_add, Nat.mul_add]
 have e1 : a * 4294967296 * (c * 4294967296) = a * c * 18446744073709551616 := by
  rw [Nat.mul_assoc, Nat.mul_left_comm 4294967296 c, ← Nat.mul_assoc, ← Nat.mul_assoc, Nat.mul_assoc (a * c)]
 have e2 : a * 4294967296 * d = a * d * 4294967296 := by rw [Nat.mul_assoc, Nat.mul_comm 4294967296 d, ← Nat.mul_assoc]
 have e3 : b * (c * 4294967296) = b * c * 4294967296 := by rw [Nat.mul_assoc]
 omega
theorem mul64_num {A B C D : Nat} (hA : A ≤ 18446744065119617025) (hB : B ≤ 18446744065119617025) (hC : C ≤ 18446744065119617025) (hD : D ≤ 18446744065119617025) :
  (A * 18446744073709551616 + B * 4294967296 + C * 4294967296 + D) / 18446744073709551616 = A + (B + D / 4294967296) / 4294967296 + ((B + D / 4294967296) % 4294967296 + C) / 4294967296 := by
 omega
theorem half_bd {x y : Nat} (hx : x < 4294967296) (hy : y < 4294967296) : x * y ≤ 18446744065119617025 := Nat.mul_le_mul (show x ≤ 4294967295 by omega) (show y ≤ 4294967295 by omega)
theorem mul64_ok {x y : Nat} (hx : x < 18446744073709551616) (hy : y < 18446744073709551616) : val 333 [Vu x, Vu y] = some [Vu (x * y / 18446744073709551616), Vu (x * y % 18446744073709551616)] := by
 refine val_of tab333 ?_
 have hxy : x * y = (x / 4294967296 * 4294967296 + x % 4294967296) * (y / 4294967296 * 4294967296 + y % 4294967296) := by rw [show x / 4294967296 * 4294967296 + x % 4294967296 = x by omega, show y / 4294967296 * 4294967296 + y % 4294967296 = y by omega]
 rw [mul_parts] at hxy
 have hA := half_bd (show x / 4294967296 < 4294967296 by omega) (show y / 4294967296 < 4294967296 by omega)
 have hB := half_bd (show x / 4294967296 < 4294967296 by omega) (show y % 4294967296 < 4294967296 by omega)
 have hC := half_bd (show x % 4294967296 < 4294967296 by omega) (show y / 4294967296 < 4294967296 by omega)
 have hD := half_bd (show x % 4294967296 < 4294967296 by omega) (show y % 4294967296 < 4294967296 by omega)
 have key := mul64_num hA hB hC hD
 have hlt : x * y / 18446744073709551616 < 18446744073709551616 := by
  have := Nat.mul_le_mul (show x ≤ 18446744073709551615 by omega) (show y ≤ 18446744073709551615 by omega)
  generalize x * y = z at *; omega
 rw [← hxy] at key
 rw [key] at hlt ⊢
 simp only [tr333, TT.dv, isTrue_den, den_bi, den_un, den_var, den_i64, den_u64_lit, ge_uI0, bool_Bo, if_true, List.getD_eq_getElem?_getD, List.getElem?_cons_zero, List.getElem?_cons_succ, Option.getD_some, shr_u_lit, and_32, mul_u, add_u, List.map_cons, List.map_nil]
 simp only [show (2 : Nat) ^ min 32 64 = 4294967296 from rfl]
 generalize x / 4294967296 = xh at *
 generalize x % 4294967296 = xl at *
 generalize y / 4294967296 = yh at *
 generalize y % 4294967296 = yl at *
 generalize xh * yh = A at *
 generalize xh * yl = B at *
 generalize xl * yh = C at *
 generalize xl * yl = D at *
 have e1 : A % 18446744073709551616 = A := by omega
 have e2 : B % 18446744073709551616 = B := by omega
 have e3 : C % 18446744073709551616 = C := by omega
 have e4 : D % 18446744073709551616 = D := by omega
 rw [e1, e2, e3, e4]
 have e5 : (B + D / 4294967296) % 18446744073709551616 = B + D / 4294967296 := by omega
 rw [e5]
 have e6 : ((B + D / 4294967296) % 4294967296 + C) % 18446744073709551616 = (B + D / 4294967296) % 4294967296 + C := by omega
 rw [e6]
 have e7 : ((A + (B + D / 4294967296) / 4294967296) % 18446744073709551616 + ((B + D / 4294967296) % 4294967296 + C) / 4294967296) % 18446744073709551616 = A + (B + D / 4294967296) / 4294967296 + ((B + D / 4294967296) % 4294967296 + C) / 4294967296 := by omega
 rw [e7]
theorem wide_loop {x0 x1 x2 x3 : PV} : ∀ (n : Nat) {m : Nat} {e : Int} {more : Bool}, m = n → m ≠ 0 → m < 18446744073709551616 → -9000000000 ≤ e → e ≤ 9000000000 → ∃ (m' : Nat) (j r : Nat), m' ≠ 0 ∧ m = m' * 2 ^ j + r ∧ r < 2 ^ j ∧ (-1130 ≤ e + j ∨ m' = 1) ∧ (0 < j → e + j ≤ -1130) ∧
  rounds (fun vs => lo305_1.dv (x0 :: x1 :: x2 :: x3 :: vs)) [Vu m, Vi e, Vb more] = some (.y (.ext 0) [Vu m', Vi (e + j), Vb (more || decide (r ≠ 0))]) := by
 intro n
 induction n using Nat.strongRecOn with
 | ind n ih =>
  intro m e more hmn h0 hm he he2
  by_cases h1 : e < -1130 ∧ 1 < m
  ·obtain ⟨m', j, r, r1, r2, r3, r4, r5, r6⟩ := ih (m / 2) (by omega) (e := e + 1) (more := more || decide (m % 2 = 1)) rfl (by omega) (by omega) (by omega) (by omega)
   refine ⟨m', j + 1, 2 * r + m % 2, r1, ?_, ?_, by omega, by omega, ?_⟩
   ·rw [Nat.pow_succ, ← Nat.mul_assoc]; omega
   ·rw [Nat.pow_succ]; omega
   ·have e1 : (B.add .i64).den (Vi e) (Vi 1) = Vi (e + 1) := add_i (by omega) (by omega)
    have e3 : (more || decide (2 * r + m % 2 ≠ 0)) = ((more || decide (m % 2 = 1)) || decide (r ≠ 0)) := by
     cases more
     ·simp only [Bool.false_or]
      by_cases q1 : m % 2 = 1 <;> by_cases q2 : r = 0 <;> simp [q1, q2] <;> omega
     ·simp
    rw [e3, show e + ((j + 1 : Nat) : Int) = e + 1 + j by omega]
    refine Eq.trans (rounds_cont ?_) r6
    have e4 : (B.and .u64).den (Vu m) (Vu 1) = Vu (m % 2) := and_mask m 1 (by omega)
    simp [lo305_1, TT.dv, h1.1, h1.2, e1, e4]
  ·refine ⟨m, 0, 0, h0, by simp, by simp, by omega, by omega, rounds_exit ?_ (by simp)⟩
   have : ¬ (e < -1130 ∧ 1 < m) := h1
   by_cases h2 : e < -1130
   ·have h3 : ¬ 1 < m := by omega
    simp [lo305_1, TT.dv, h2, h3]
   ·simp [lo305_1, TT.dv, h2]
theorem wide_ok {neg more : Bool} {m : Nat} {e : Int} (h0 : m ≠ 0) (hm : m < 18446744073709551616) (he : -9000000000 ≤ e) (he2 : e ≤ 9000000000) (hmore : more = true → e < lastP m e) :
  ∃ f, val 305 [Vb neg, Vu m, Vi e, Vb more] = some [Vu (nearV neg (2 * m + more.toNat) (e - 1)), f] := by
 obtain ⟨m', j, r, r1, r2, r3, r4, r5, r6⟩ := wide_loop (x0 := Vb neg) (x1 := Vu m) (x2 := Vi e) (x3 := Vb more) m (m := m) (e := e) (more := more) rfl h0 hm he he2
 have hj2 : (j : Int) ≤ 100 := by
  have h5 : 2 ^ j ≤ m := by
   have := Nat.mul_le_mul_right (2 ^ j) (show 1 ≤ m' by omega); omega
  by_cases hh : j ≤ 100
  ·omega
  ·have := Nat.pow_le_pow_right (show 0 < 2 by omega) (show 100 ≤ j by omega)
   omega
 by_cases c4 : e + j < -1130
 ·have hm1 : m' = 1 := by omega
  subst hm1
  have hn := near_ok (neg := neg) (more := true) (m := 0) (e := -1074) (by omega) (by omega) (by omega) (fun _ => .inl ⟨rfl, rfl⟩)
  have hlog : (2 * m + more.toNat).log2 = j + 1 := by
   rw [log2_odd h0, r2, log2_mul_add (n := 1) (by omega) r3, show Nat.log2 1 = 0 by decide]; omega
  have hV : nearV neg (2 * 0 + true.toNat) (-1074 - 1) = nearV neg (2 * m + more.toNat) (e - 1) := by
   have h5 : nearR (2 * m + more.toNat) (e - 1) = 0 := by unfold nearR; rw [rung_low2 (by omega) (by rw [hlog]; omega)]; rfl
   unfold nearV; rw [h5]
   have := (near_low true).1
   exact congrArg _ this
  rw [hV] at hn
  refine ⟨Vy (nearF (2 * 0 + true.toNat) (-1074 - 1)), val_of tab305 ?_⟩
  simp only [ne_eq] at r6
  generalize (more || decide (¬ r = 0)) = mo at *
  simp only [Nat.mul_zero, Nat.zero_add] at hn ⊢
  simp [tr305, TT.dv, KS.dv, r6, c4, hn]
 ·have hmlt : m' < 18446744073709551616 := by
   have := Nat.le_mul_of_pos_right m' (Nat.two_pow_pos j)
   omega
  have hl : (more || decide (r ≠ 0)) = true → e + j < lastP m' (e + j) := fun hr => by
   by_cases hj : 0 < j
   ·have := r5 hj
    unfold lastP; omega
   ·have hj0 : j = 0 := by omega
    subst hj0
    simp at r3; subst r3
    simp at hr
    simp at r2; subst r2
    have := hmore hr
    simpa using this
  have hn := near_ok (neg := neg) (more := more || decide (r ≠ 0)) (m := m') (e := e + j) hmlt (by omega) (by omega) (fun h => .inr ⟨r1, hl h⟩)
  have hV : nearR (2 * m' + (more || decide (r ≠ 0)).toNat) (e + j - 1) = nearR (2 * m + more.toNat) (e - 1) := by
   have hs : 2 * m + more.toNat = m' * 2 ^ (j + 1) + (2 * r + more.toNat) := by
    rw [Nat.pow_succ, ← Nat.mul_assoc]; omega
   have hlt : 2 * r + more.toNat < 2 ^ (j + 1) := by
    have := Bool.toNat_le more
    rw [Nat.pow_succ]; omega
   by_cases hz : 2 * r + more.toNat = 0
   ·have hm0 : more = false := by cases more; rfl; simp at hz
    have hr0 : r = 0 := by omega
    subst hm0 hr0
    rw [hs]
    simp only [Bool.toNat_false, Nat.mul_zero, Nat.add_zero, ne_eq, not_true_eq_false, decide_false, Bool.or_self]
    have t1 := (near_scale true m' (e + j) 1).2.2
    have t2 := (near_scale true m' (e + j) (j + 1)).2.2
    rw [Nat.pow_one, Nat.mul_comm m' 2] at t1
    rw [show e + (j : Int) - 1 = e + j - ((1 : Nat) : Int) from rfl, t1, ← t2]
    exact congrArg _ (by omega)
   ·have ht : (more || decide (r ≠ 0)) = true := by
     cases more
     ·simp at hz ⊢; omega
     ·rfl
    have := (near_sticky r1 (hl ht) (by omega) hlt).1
    rw [ht, hs]
    rw [show e + (j : Int) - ((j + 1 : Nat) : Int) = e - 1 by omega] at this
    rw [this]; rfl
  have hV2 : nearV neg (2 * m' + (more || decide (r ≠ 0)).toNat) (e + j - 1) = nearV neg (2 * m + more.toNat) (e - 1) := by unfold nearV; rw [hV]
  rw [hV2] at hn
  refine ⟨Vy (nearF (2 * m' + (more || decide (r ≠ 0)).toNat) (e + j - 1)), val_of tab305 ?_⟩
  simp only [ne_eq] at r6 hn ⊢
  generalize (more || decide (¬ r = 0)) = mo at *
  simp [tr305, TT.dv, KS.dv, r6, c4, hn]
theorem mul_near {P : Nat} (h : 2 ^ 100 ≤ P) (p : Int) : nearR (2 * (P / 2 ^ 44) + (decide (P % 2 ^ 44 ≠ 0)).toNat) (p + 44 - 1) = nearR P p := by
 have hN : P / 2 ^ 44 ≠ 0 := by
  have := Nat.div_le_div_right (c := 2 ^ 44) h
  rw [show (2 : Nat) ^ 100 / 2 ^ 44 = 2 ^ 56 from by decide] at this
  have : 0 < 2 ^ 56 := Nat.two_pow_pos 56
  omega
 have hlog : 56 ≤ (P / 2 ^ 44).log2 := by
  rw [Nat.le_log2 hN, Nat.le_div_iff_mul_le (Nat.two_pow_pos _), ← Nat.pow_add]; exact h
 have hP : P = P / 2 ^ 44 * 2 ^ 44 + P % 2 ^ 44 := by rw [Nat.mul_comm]; exact (Nat.div_add_mod _ _).symm
 have hlt : P % 2 ^ 44 < 2 ^ 44 := Nat.mod_lt _ (Nat.two_pow_pos _)
 generalize P / 2 ^ 44 = N at *
 generalize P % 2 ^ 44 = r at *
 subst hP
 by_cases hr : r = 0
 ·subst hr
  have t1 := (near_scale true N (p + 44) 1).2.2
  have t2 := (near_scale true N (p + 44) 44).2.2
  rw [Nat.pow_one, Nat.mul_comm N 2] at t1
  simp only [ne_eq, not_true_eq_false, decide_false, Bool.toNat_false, Nat.add_zero]
  rw [show p + 44 - 1 = p + 44 - ((1 : Nat) : Int) by omega, t1, ← t2]
  exact congrArg _ (by omega)
 ·have := (near_sticky hN (p := p + 44) (j := 44) (r := r) (by unfold lastP; omega) (by omega) hlt).1
  rw [show p + 44 - ((44 : Nat) : Int) = p by omega] at this
  rw [this]; simp [hr]
theorem or_hi {h l : Nat} (hh : h < 4398046511104) (hl : l < 1048576) : (B.or .u64).den (Vu (h * 1048576)) (Vu l) = Vu (h * 1048576 + l) := by
 have := or_add (a := h) (b := l) (i := 20) (by omega) (by omega) (by omega)
 rw [show (2 : Nat) ^ 20 = 1048576 from rfl, Nat.mul_comm] at this
 exact this
theorem hilo {P : Nat} (h : P < 2 ^ 106) : P / 18446744073709551616 < 4398046511104 ∧ P % 18446744073709551616 / 17592186044416 < 1048576 ∧
  P / 18446744073709551616 * 1048576 + P % 18446744073709551616 / 17592186044416 = P / 2 ^ 44 ∧ (P % 18446744073709551616 * 1048576 % 18446744073709551616 = 0 ↔ P % 2 ^ 44 = 0) ∧ P / 2 ^ 44 < 4611686018427387904 := by
 rw [show (2 : Nat) ^ 106 = 81129638414606681695789005144064 from rfl] at h
 rw [show (2 : Nat) ^ 44 = 17592186044416 from rfl]
 refine ⟨by omega, by omega, by omega, by omega, by omega⟩
theorem times_ok {a b : Nat} (ha : a < 18446744073709551616) (hb : b < 18446744073709551616) : ∃ f, val 301 [Vu a, Vu b] = some [Vu (mulV a b), f] := by
 have s1 := sign_ok a
 have s2 := sign_ok b
 have k1 := kind_ok a
 have k2 := kind_ok b
 have hn := times_nan a b
 unfold mulV
 by_cases c1 : nanB a ∨ nanB b
 ·rw [if_pos c1]
  refine ⟨Vy 0, val_of tab301 ?_⟩
  rw [decide_eq_true c1] at hn
  simp [tr301, TT.dv, s1, s2, k1, k2, hn, nan0]
 ·rw [if_neg c1]
  rw [decide_eq_false c1] at hn
  have cn1 : ¬ nanB a := fun h => c1 (.inl h)
  have cn2 : ¬ nanB b := fun h => c1 (.inr h)
  by_cases c2 : infB a ∨ infB b
  ·rw [if_pos c2]
   by_cases c3 : zeroB a ∨ zeroB b
   ·rw [if_pos c3]
    refine ⟨Vy 16, val_of tab301 ?_⟩
    have hc : (fKind a = 3 ∧ fKind b = 0) ∨ (fKind a = 0 ∧ fKind b = 3) := by
     rw [kind_infB, kind_infB, kind_zeroB, kind_zeroB]
     rcases c2 with h | h <;> rcases c3 with g | g
     ·exact absurd h.1 (zeroB_fin g)
     ·exact .inl ⟨h, g⟩
     ·exact .inr ⟨g, h⟩
     ·exact absurd h.1 (zeroB_fin g)
    rcases hc with ⟨h1, h2⟩ | ⟨h1, h2⟩ <;> simp [tr301, TT.dv, s1, s2, k1, k2, hn, h1, h2, nan0]
   ·rw [if_neg c3]
    refine ⟨Vy 0, val_of tab301 ?_⟩
    have z1 : ¬ fKind a = 0 := fun h => c3 (.inl ((kind_zeroB a).1 h))
    have z2 : ¬ fKind b = 0 := fun h => c3 (.inr ((kind_zeroB b).1 h))
    have hs := signed_ok (b := infR) (fNeg a != fNeg b) (.inl rfl)
    unfold infR at hs ⊢
    rcases c2 with h | h
    ·have h1 := (kind_infB a).2 h
     simp [tr301, TT.dv, s1, s2, k1, k2, hn, h1, z1, z2, hs]
    ·have h1 := (kind_infB b).2 h
     simp [tr301, TT.dv, s1, s2, k1, k2, hn, h1, z1, z2, hs]
  ·rw [if_neg c2]
   have i1 : ¬ fKind a = 3 := fun h => c2 (.inl ((kind_infB a).1 h))
   have i2 : ¬ fKind b = 3 := fun h => c2 (.inr ((kind_infB b).1 h))
   by_cases c3 : zeroB a ∨ zeroB b
   ·rw [if_pos c3]
    refine ⟨Vy 0, val_of tab301 ?_⟩
    have hs := signed_ok (b := 0) (fNeg a != fNeg b) (.inr rfl)
    rcases c3 with h | h
    ·have h1 := (kind_zeroB a).2 h
     simp [tr301, TT.dv, s1, s2, k1, k2, hn, h1, i1, i2, hs]
    ·have h1 := (kind_zeroB b).2 h
     simp [tr301, TT.dv, s1, s2, k1, k2, hn, h1, i1, i2, hs]
   ·rw [if_neg c3]
    have z1 : ¬ fKind a = 0 := fun h => c3 (.inl ((kind_zeroB a).1 h))
    have z2 : ¬ fKind b = 0 := fun h => c3 (.inr ((kind_zeroB b).1 h))
    have f1 := fin_of cn1 (fun h => c2 (.inl h))
    have f2 := fin_of cn2 (fun h => c2 (.inr h))
    have m1 : fMag a ≠ 0 := fun h => c3 (.inl ((zeroB_mag f1).2 h))
    have m2 : fMag b ≠ 0 := fun h => c3 (.inr ((zeroB_mag f2).2 h))
    have n1 := norm3_ok m1
    have n2 := norm3_ok m2
    obtain ⟨a1, a2, a3⟩ := nrm_bd m1 (fMag_lt a)
    obtain ⟨b1, b2, b3⟩ := nrm_bd m2 (fMag_lt b)
    obtain ⟨p1, p2⟩ := fPl_bd a
    obtain ⟨q1, q2⟩ := fPl_bd b
    have hw1 : nrm (fMag a) ≤ 52 := by unfold nrm; omega
    have hw2 : nrm (fMag b) ≤ 52 := by unfold nrm; omega
    have hPx : fMag a * 2 ^ nrm (fMag a) * (fMag b * 2 ^ nrm (fMag b)) = fMag a * fMag b * 2 ^ (nrm (fMag a) + nrm (fMag b)) := by
     rw [Nat.pow_add, Nat.mul_assoc, Nat.mul_left_comm (2 ^ nrm (fMag a)), ← Nat.mul_assoc (fMag a)]
    have m64 := mul64_ok (x := fMag a * 2 ^ nrm (fMag a)) (y := fMag b * 2 ^ nrm (fMag b)) (by omega) (by omega)
    have hlo : 2 ^ 100 ≤ fMag a * 2 ^ nrm (fMag a) * (fMag b * 2 ^ nrm (fMag b)) := by
     have := Nat.mul_le_mul a2 b2
     refine Nat.le_trans ?_ this
     decide
    have hhi : fMag a * 2 ^ nrm (fMag a) * (fMag b * 2 ^ nrm (fMag b)) < 2 ^ 106 := by
     have := Nat.mul_lt_mul'' a3 b3
     exact Nat.lt_of_lt_of_le this (by decide)
    have hsc := (near_scale true (fMag a * fMag b) (fPl a + fPl b) (nrm (fMag a) + nrm (fMag b))).2.2
    rw [← hPx] at hsc
    generalize hP : fMag a * 2 ^ nrm (fMag a) * (fMag b * 2 ^ nrm (fMag b)) = P at *
    have hnr := mul_near hlo (fPl a - nrm (fMag a) + (fPl b - nrm (fMag b)))
    obtain ⟨t1, t2, t3, t4, t5⟩ := hilo hhi
    have e1 : (B.add .i64).den (Vi (fPl a - nrm (fMag a))) (Vi (fPl b - nrm (fMag b))) = Vi (fPl a - nrm (fMag a) + (fPl b - nrm (fMag b))) := add_i (by omega) (by omega)
    have e2 : (B.add .i64).den (Vi (fPl a - nrm (fMag a) + (fPl b - nrm (fMag b)))) (Vi 44) = Vi (fPl a - nrm (fMag a) + (fPl b - nrm (fMag b)) + 44) := add_i (by omega) (by omega)
    have e3 : (B.shl .u64).den (Vu (P / 18446744073709551616)) (Vu 20) = Vu (P / 18446744073709551616 * 1048576) := by
     rw [shl_uU]; refine congrArg Vu ?_
     show P / 18446744073709551616 * 1048576 % _ = _
     omega
    have e4 : (B.shr .u64).den (Vu (P % 18446744073709551616)) (Vu 44) = Vu (P % 18446744073709551616 / 17592186044416) := by rw [shr_uU]; rfl
    have e5 := or_hi t1 t2
    rw [t3] at e5
    have e6 : (B.shl .u64).den (Vu (P % 18446744073709551616)) (Vu 20) = Vu (P % 18446744073709551616 * 1048576 % 18446744073709551616) := by rw [shl_uU]; rfl
    have e7 : decide (P % 18446744073709551616 * 1048576 % 18446744073709551616 ≠ 0) = decide (P % 2 ^ 44 ≠ 0) := by
     rw [decide_eq_decide, ne_eq, ne_eq, t4]
    generalize hE : fPl a - nrm (fMag a) + (fPl b - nrm (fMag b)) = E at *
    have hN0 : P / 2 ^ 44 ≠ 0 := by
     have := Nat.div_le_div_right (c := 2 ^ 44) hlo
     rw [show (2 : Nat) ^ 100 / 2 ^ 44 = 72057594037927936 from by decide] at this
     omega
    have hlog : 56 ≤ (P / 2 ^ 44).log2 := by
     rw [Nat.le_log2 hN0, Nat.le_div_iff_mul_le (Nat.two_pow_pos _), ← Nat.pow_add]; exact hlo
    obtain ⟨f, hw⟩ := wide_ok (neg := fNeg a != fNeg b) (more := decide (P % 2 ^ 44 ≠ 0)) (m := P / 2 ^ 44) (e := E + 44) hN0 (by omega) (by omega) (by omega) (fun _ => by unfold lastP; omega)
    have hV : nearV (fNeg a != fNeg b) (2 * (P / 2 ^ 44) + (decide (P % 2 ^ 44 ≠ 0)).toNat) (E + 44 - 1) = nearV (fNeg a != fNeg b) (fMag a * fMag b) (fPl a + fPl b) := by
     unfold nearV
     rw [hnr, ← hsc]
     exact congrArg _ (congrArg _ (by omega))
    rw [hV] at hw
    have e8 : B.ne.den ((B.shl .u64).den (Vu (P % 18446744073709551616)) (Vu 20)) (Vu 0) = Vb (decide (P % 2 ^ 44 ≠ 0)) := by
     rw [e6, ne_u, e7]
    generalize decide (P % 2 ^ 44 ≠ 0) = mo at *
    generalize P / 2 ^ 44 = N at *
    refine ⟨f, val_of tab301 ?_⟩
    simp [-shl_u_lit, -shr_u_lit, -ne_u, tr301, TT.dv, s1, s2, k1, k2, hn, z1, z2, i1, i2, n1, n2, m64, e1, e2, e3, e4, e5, e8, hw]
def quoN (m n k : Nat) : Nat := 2 * (m * 2 ^ k / n) + (decide (m * 2 ^ k % n ≠ 0)).toNat
theorem quo_more {m n k : Nat} {p : Int} (hn : n ≠ 0) (hN : m * 2 ^ k / n ≠ 0) (h : p - k < lastP (m * 2 ^ k / n) (p - k)) (j : Nat) :
  nearR (quoN m n (k + j)) (p - ((k + j : Nat) : Int) - 1) = nearR (quoN m n k) (p - k - 1) := by
 unfold quoN
 have hd : m * 2 ^ (k + j) = (m * 2 ^ k / n * 2 ^ j) * n + m * 2 ^ k % n * 2 ^ j := by
  have : m * 2 ^ k = m * 2 ^ k / n * n + m * 2 ^ k % n := by have := Nat.div_add_mod (m * 2 ^ k) n; rw [Nat.mul_comm n] at this; exact this.symm
  rw [Nat.pow_add, ← Nat.mul_assoc]
  conv => lhs; rw [this]
  rw [Nat.add_mul, Nat.mul_right_comm]
 have hr : m * 2 ^ k % n < n := Nat.mod_lt _ (Nat.pos_of_ne_zero hn)
 generalize m * 2 ^ k / n = N at *
 generalize m * 2 ^ k % n = r at *
 have e1 : m * 2 ^ (k + j) / n = N * 2 ^ j + r * 2 ^ j / n := by
  rw [hd, Nat.add_comm, Nat.add_mul_div_right _ _ (Nat.pos_of_ne_zero hn), Nat.add_comm]
 have e2 : m * 2 ^ (k + j) % n = r * 2 ^ j % n := by rw [hd, Nat.add_comm, Nat.add_mul_mod_self_right]
 rw [e1, e2]
 have h3 : r * 2 ^ j / n < 2 ^ j := by
  rw [Nat.div_lt_iff_lt_mul (Nat.pos_of_ne_zero hn), Nat.mul_comm]; exact Nat.mul_lt_mul_of_pos_left hr (Nat.two_pow_pos j)
 have hs : 2 * (N * 2 ^ j + r * 2 ^ j / n) + (decide (r * 2 ^ j % n ≠ 0)).toNat = N * 2 ^ (j + 1) + (2 * (r * 2 ^ j / n) + (decide (r * 2 ^ j % n ≠ 0)).toNat) := by
  rw [Nat.pow_succ, ← Nat.mul_assoc]; omega
 rw [hs]
 by_cases hr0 : r = 0
 ·subst hr0
  simp only [Nat.zero_mul, Nat.zero_div, Nat.zero_mod, ne_eq, not_true_eq_false, decide_false, Bool.toNat_false, Nat.mul_zero, Nat.add_zero]
  have t1 := (near_scale true N (p - k) 1).2.2
  have t2 := (near_scale true N (p - k) (j + 1)).2.2
  rw [Nat.pow_one, Nat.mul_comm N 2] at t1
  rw [show p - (k : Int) - 1 = p - k - ((1 : Nat) : Int) from rfl, t1, ← t2]
  exact congrArg _ (by omega)
 ·have hp : 0 < 2 * (r * 2 ^ j / n) + (decide (r * 2 ^ j % n ≠ 0)).toNat := by
   by_cases hq : r * 2 ^ j / n = 0
   ·have hm : r * 2 ^ j % n ≠ 0 := by
     have := Nat.div_add_mod (r * 2 ^ j) n
     rw [hq] at this
     have h4 : 0 < r * 2 ^ j := Nat.mul_pos (Nat.pos_of_ne_zero hr0) (Nat.two_pow_pos j)
     omega
    simp [hm]
   ·omega
  have hlt : 2 * (r * 2 ^ j / n) + (decide (r * 2 ^ j % n ≠ 0)).toNat < 2 ^ (j + 1) := by
   have := Bool.toNat_le (decide (r * 2 ^ j % n ≠ 0))
   rw [Nat.pow_succ]; omega
  have := (near_sticky hN h hp hlt).1
  rw [show p - ((k + j : Nat) : Int) - 1 = p - k - ((j + 1 : Nat) : Int) by omega, this]
  simp [hr0]
def quoK (m n : Nat) : Nat := 54 + n.log2 - m.log2
def divV (a b : Nat) : Nat :=
 if nanB a ∨ nanB b then nan0 else
 if infB a then (if infB b then nan0 else sgn (fNeg a != fNeg b) infR) else
 if infB b then sgn (fNeg a != fNeg b) 0 else
 if zeroB b then (if zeroB a then nan0 else sgn (fNeg a != fNeg b) infR) else
 if zeroB a then sgn (fNeg a != fNeg b) 0 else nearV (fNeg a != fNeg b) (quoN (fMag a) (fMag b) (quoK (fMag a) (fMag b))) (fPl a - fPl b - quoK (fMag a) (fMag b) - 1)
theorem divV_lt {a b : Nat} : divV a b < 18446744073709551616 := by
 have h1 : ∀ s, sgn s infR < 18446744073709551616 := fun s => (sgn_fields _ (Nat.le_refl _)).2.2.2.2
 have h2 : ∀ s, sgn s 0 < 18446744073709551616 := fun s => (sgn_fields _ (Nat.zero_le _)).2.2.2.2
 have h3 : nan0 < 18446744073709551616 := by decide
 unfold divV
 repeat' split
 all_goals first | exact h3 | exact h1 _ | exact h2 _ | exact word_lt _ _ _
theorem dbl_div {a y : Nat} (hy : 0 < y) : a * 2 / y = 2 * (a / y) + (if y ≤ 2 * (a % y) then 1 else 0) ∧ a * 2 % y = 2 * (a % y) - (if y ≤ 2 * (a % y) then y else 0) := by
 have h := Nat.div_add_mod a y
 have hr := Nat.mod_lt a hy
 generalize a / y = q at *
 generalize a % y = r at *
 have e : a * 2 = 2 * r + y * (2 * q) := by rw [← h, Nat.mul_left_comm y 2 q]; omega
 rw [e, Nat.add_mul_div_left _ _ hy, Nat.add_mul_mod_self_left]
 by_cases hc : y ≤ 2 * r
 ·rw [if_pos hc, if_pos hc]
  have e2 : 2 * r = (2 * r - y) + y := by omega
  have h1 : 2 * r / y = 1 := by rw [e2, Nat.add_div_right _ hy, Nat.div_eq_of_lt (by omega)]
  have h2 : 2 * r % y = 2 * r - y := by
   conv => lhs; rw [e2]
   rw [Nat.add_mod_right, Nat.mod_eq_of_lt (by omega)]
  exact ⟨by omega, h2⟩
 ·rw [if_neg hc, if_neg hc, Nat.div_eq_of_lt (by omega), Nat.mod_eq_of_lt (by omega)]
  exact ⟨by omega, by omega⟩
theorem div_loop {x0 x1 x2 x3 x4 x5 x6 x7 x8 x10 : PV} {A y : Nat} (hy : 4503599627370496 ≤ y) (hy2 : y < 9007199254740992) (hA : A < 9007199254740992) : ∀ (n : Nat) {i : Nat}, i + n = 61 →
  rounds (fun vs => lo300_1.dv (x0 :: x1 :: x2 :: x3 :: x4 :: x5 :: x6 :: x7 :: x8 :: Vu y :: x10 :: vs)) [Vu (A * 2 ^ i / y), Vu (A * 2 ^ i % y), Vi i] = some (.y (.ext 1) [Vu (A * 2 ^ 61 / y), Vu (A * 2 ^ 61 % y)]) := by
 intro n
 induction n with
 | zero =>
  intro i hi
  have : i = 61 := by omega
  subst this
  refine rounds_exit ?_ (by simp)
  simp [lo300_1, TT.dv]
 | succ n ih =>
  intro i hi
  refine Eq.trans (rounds_cont ?_) (ih (i := i + 1) (by omega))
  have hd := dbl_div (a := A * 2 ^ i) (y := y) (by omega)
  rw [Nat.mul_assoc, ← Nat.pow_succ] at hd
  obtain ⟨d1, d2⟩ := hd
  have hr : A * 2 ^ i % y < y := Nat.mod_lt _ (by omega)
  have hq : A * 2 ^ i / y < 4611686018427387904 := by
   rw [Nat.div_lt_iff_lt_mul (by omega)]
   have h1 : A * 2 ^ i ≤ A * 2 ^ 60 := Nat.mul_le_mul_left A (Nat.pow_le_pow_right (by omega) (by omega))
   rw [show (2 : Nat) ^ 60 = 1152921504606846976 from rfl] at h1
   have h2 : 4611686018427387904 * 4503599627370496 ≤ 4611686018427387904 * y := Nat.mul_le_mul_left _ hy
   omega
  rw [d1, d2]
  generalize A * 2 ^ i / y = q at *
  generalize A * 2 ^ i % y = r at *
  have e1 : (B.shl .u64).den (Vu r) (Vu 1) = Vu (2 * r) := by
   rw [shl_uU]; refine congrArg Vu ?_
   show r * 2 % _ = _; omega
  have e2 : (B.shl .u64).den (Vu q) (Vu 1) = Vu (2 * q) := by
   rw [shl_uU]; refine congrArg Vu ?_
   show q * 2 % _ = _; omega
  have e3 : (B.add .i64).den (Vi i) (Vi 1) = Vi (i + 1) := add_i (by omega) (by omega)
  have e4 : (i : Int) < 61 := by omega
  have e5 : (B.or .u64).den (Vu (2 * q)) (Vu 1) = Vu (2 * q + 1) := or_add (a := q) (b := 1) (i := 1) (by omega) (by omega) (by omega)
  by_cases hc : y ≤ 2 * r
  ·have e6 : (B.sub .u64).den (Vu (2 * r)) (Vu y) = Vu (2 * r - y) := sub_u hc (by omega)
   simp [-shl_u_lit, lo300_1, TT.dv, KS.dv, e1, e2, e3, e4, e5, e6, hc]
  ·simp [-shl_u_lit, lo300_1, TT.dv, KS.dv, e1, e2, e3, e4, hc]
theorem quo_near {m n : Nat} (hm : m ≠ 0) (hn : n ≠ 0) (hm2 : m < 9007199254740992) (hn2 : n < 9007199254740992) (i j : Int) (s : Bool) :
  nearV s (quoN (m * 2 ^ nrm m) (n * 2 ^ nrm n) 61) (i - nrm m - (j - nrm n) - 61 - 1) = nearV s (quoN m n (quoK m n)) (i - j - quoK m n - 1) ∧ m * 2 ^ nrm m * 2 ^ 61 / (n * 2 ^ nrm n) ≠ 0 ∧
  60 ≤ (m * 2 ^ nrm m * 2 ^ 61 / (n * 2 ^ nrm n)).log2 := by
 obtain ⟨a1, a2, a3⟩ := nrm_bd hm hm2
 obtain ⟨b1, b2, b3⟩ := nrm_bd hn hn2
 have hk : quoK m n = 54 + n.log2 - m.log2 := rfl
 have hk2 : nrm m + 61 = quoK m n + 7 + nrm n := by rw [hk]; unfold nrm; omega
 have e0 : m * 2 ^ nrm m * 2 ^ 61 = m * 2 ^ (quoK m n + 7) * 2 ^ nrm n := by
  rw [Nat.mul_assoc, ← Nat.pow_add, hk2, Nat.pow_add, Nat.mul_assoc]
 have e1 : m * 2 ^ nrm m * 2 ^ 61 / (n * 2 ^ nrm n) = m * 2 ^ (quoK m n + 7) / n := by rw [e0, Nat.mul_div_mul_right _ _ (Nat.two_pow_pos _)]
 have e2 : m * 2 ^ nrm m * 2 ^ 61 % (n * 2 ^ nrm n) = m * 2 ^ (quoK m n + 7) % n * 2 ^ nrm n := by rw [e0, Nat.mul_mod_mul_right]
 have hq : quoN (m * 2 ^ nrm m) (n * 2 ^ nrm n) 61 = quoN m n (quoK m n + 7) := by
  unfold quoN
  rw [e1, e2]
  refine congrArg _ (congrArg _ ?_)
  rw [decide_eq_decide, ne_eq, ne_eq, Nat.mul_eq_zero]
  simp
 have hlow : 2 ^ 60 ≤ m * 2 ^ nrm m * 2 ^ 61 / (n * 2 ^ nrm n) := by
  rw [Nat.le_div_iff_mul_le (by unfold two52 at b2; omega)]
  have h1 : 2 ^ 60 * (n * 2 ^ nrm n) ≤ 2 ^ 60 * 9007199254740992 := Nat.mul_le_mul_left _ (by omega)
  have h2 : 4503599627370496 * 2 ^ 61 ≤ m * 2 ^ nrm m * 2 ^ 61 := Nat.mul_le_mul_right _ a2
  have h3 : 2 ^ 60 * 9007199254740992 = 4503599627370496 * 2 ^ 61 := by decide
  exact Nat.le_trans h1 (Nat.le_trans (Nat.le_of_eq h3) h2)
 have hpos : 0 < 2 ^ 60 := Nat.two_pow_pos 60
 have hne : m * 2 ^ nrm m * 2 ^ 61 / (n * 2 ^ nrm n) ≠ 0 := by omega
 have hlog : 60 ≤ (m * 2 ^ nrm m * 2 ^ 61 / (n * 2 ^ nrm n)).log2 := by rw [Nat.le_log2 hne]; exact hlow
 refine ⟨?_, hne, hlog⟩
 rw [hq]
 have h0 : m * 2 ^ quoK m n / n ≠ 0 ∧ 53 ≤ (m * 2 ^ quoK m n / n).log2 := by
  have hh : 2 ^ 53 ≤ m * 2 ^ quoK m n / n := by
   rw [Nat.le_div_iff_mul_le (Nat.pos_of_ne_zero hn)]
   have h1 := Nat.mul_le_mul_right (2 ^ quoK m n) (Nat.log2_self_le hm)
   rw [← Nat.pow_add] at h1
   have h2 : 2 ^ 53 * n ≤ 2 ^ 53 * 2 ^ (n.log2 + 1) := Nat.mul_le_mul_left _ (Nat.le_of_lt Nat.lt_log2_self)
   rw [← Nat.pow_add] at h2
   rw [show m.log2 + quoK m n = 53 + (n.log2 + 1) by rw [hk]; omega] at h1
   omega
  have : m * 2 ^ quoK m n / n ≠ 0 := by have := Nat.two_pow_pos 53; omega
  exact ⟨this, by rw [Nat.le_log2 this]; exact hh⟩
 have := quo_more (m := m) (n := n) (k := quoK m n) (p := i - j) hn h0.1 (by unfold lastP; omega) 7
 unfold nearV
 rw [← this]
 exact congrArg _ (congrArg _ (by omega))
theorem div_ok {a b : Nat} (ha : a < 18446744073709551616) (hb : b < 18446744073709551616) : ∃ f, val 300 [Vu a, Vu b] = some [Vu (divV a b), f] := by
 have s1 := sign_ok a
 have s2 := sign_ok b
 have k1 := kind_ok a
 have k2 := kind_ok b
 have hn := times_nan a b
 have hsI := signed_ok (b := infR) (fNeg a != fNeg b) (.inl rfl)
 have hsZ := signed_ok (b := 0) (fNeg a != fNeg b) (.inr rfl)
 have eI : infR = 9218868437227405312 := rfl
 rw [eI] at hsI
 unfold divV
 rw [eI]
 by_cases c1 : nanB a ∨ nanB b
 ·rw [if_pos c1]
  refine ⟨Vy 0, val_of tab300 ?_⟩
  rw [decide_eq_true c1] at hn
  simp [tr300, TT.dv, s1, s2, k1, k2, hn, nan0]
 ·rw [if_neg c1]
  rw [decide_eq_false c1] at hn
  have cn1 : ¬ nanB a := fun h => c1 (.inl h)
  have cn2 : ¬ nanB b := fun h => c1 (.inr h)
  by_cases c2 : infB a
  ·rw [if_pos c2]
   have i1 := (kind_infB a).2 c2
   by_cases c3 : infB b
   ·rw [if_pos c3]
    have i2 := (kind_infB b).2 c3
    refine ⟨Vy 16, val_of tab300 ?_⟩
    simp [tr300, TT.dv, s1, s2, k1, k2, hn, i1, i2, nan0]
   ·rw [if_neg c3]
    have i2 : ¬ fKind b = 3 := fun h => c3 ((kind_infB b).1 h)
    refine ⟨Vy 0, val_of tab300 ?_⟩
    simp [tr300, TT.dv, s1, s2, k1, k2, hn, i1, i2, hsI]
  ·rw [if_neg c2]
   have i1 : ¬ fKind a = 3 := fun h => c2 ((kind_infB a).1 h)
   by_cases c3 : infB b
   ·rw [if_pos c3]
    have i2 := (kind_infB b).2 c3
    refine ⟨Vy 0, val_of tab300 ?_⟩
    simp [tr300, TT.dv, s1, s2, k1, k2, hn, i1, i2, hsZ]
   ·rw [if_neg c3]
    have i2 : ¬ fKind b = 3 := fun h => c3 ((kind_infB b).1 h)
    by_cases c4 : zeroB b
    ·rw [if_pos c4]
     have z2 := (kind_zeroB b).2 c4
     by_cases c5 : zeroB a
     ·rw [if_pos c5]
      have z1 := (kind_zeroB a).2 c5
      refine ⟨Vy 16, val_of tab300 ?_⟩
      simp [tr300, TT.dv, s1, s2, k1, k2, hn, z1, z2, nan0]
     ·rw [if_neg c5]
      have z1 : ¬ fKind a = 0 := fun h => c5 ((kind_zeroB a).1 h)
      refine ⟨Vy 8, val_of tab300 ?_⟩
      simp [tr300, TT.dv, s1, s2, k1, k2, hn, i1, z1, z2, hsI]
    ·rw [if_neg c4]
     have z2 : ¬ fKind b = 0 := fun h => c4 ((kind_zeroB b).1 h)
     by_cases c5 : zeroB a
     ·rw [if_pos c5]
      have z1 := (kind_zeroB a).2 c5
      refine ⟨Vy 0, val_of tab300 ?_⟩
      simp [tr300, TT.dv, s1, s2, k1, k2, hn, i2, z1, z2, hsZ]
     ·rw [if_neg c5]
      have z1 : ¬ fKind a = 0 := fun h => c5 ((kind_zeroB a).1 h)
      have f1 := fin_of cn1 c2
      have f2 := fin_of cn2 c3
      have m1 : fMag a ≠ 0 := fun h => c5 ((zeroB_mag f1).2 h)
      have m2 : fMag b ≠ 0 := fun h => c4 ((zeroB_mag f2).2 h)
      have n1 := norm3_ok m1
      have n2 := norm3_ok m2
      obtain ⟨a1, a2, a3⟩ := nrm_bd m1 (fMag_lt a)
      obtain ⟨b1, b2, b3⟩ := nrm_bd m2 (fMag_lt b)
      obtain ⟨p1, p2⟩ := fPl_bd a
      obtain ⟨q1, q2⟩ := fPl_bd b
      have hw1 : nrm (fMag a) ≤ 52 := by unfold nrm; omega
      have hw2 : nrm (fMag b) ≤ 52 := by unfold nrm; omega
      obtain ⟨g1, g2, g3⟩ := quo_near m1 m2 (fMag_lt a) (fMag_lt b) (fPl a) (fPl b) (fNeg a != fNeg b)
      rw [← g1]
      unfold two52 at a2 b2
      have hlp := fun x0 x1 x2 x3 x4 x5 x6 x7 x8 x10 => div_loop (x0 := x0) (x1 := x1) (x2 := x2) (x3 := x3) (x4 := x4) (x5 := x5) (x6 := x6) (x7 := x7) (x8 := x8) (x10 := x10) b2 b3 a3 61 (i := 0) rfl
      simp only [Nat.pow_zero, Nat.mul_one, show ((0 : Nat) : Int) = 0 from rfl] at hlp
      generalize hX : fMag a * 2 ^ nrm (fMag a) = X at *
      generalize hY : fMag b * 2 ^ nrm (fMag b) = Y at *
      have e0 : (B.sub .i64).den (Vi (fPl a - nrm (fMag a))) (Vi (fPl b - nrm (fMag b))) = Vi (fPl a - nrm (fMag a) - (fPl b - nrm (fMag b))) := sub_i (by omega) (by omega)
      generalize hE : fPl a - nrm (fMag a) - (fPl b - nrm (fMag b)) = E at *
      have e1 : (B.sub .i64).den (Vi E) (Vi 61) = Vi (E - 61) := sub_i (by omega) (by omega)
      have e2 : (B.quo .u64).den (Vu X) (Vu Y) = Vu (X / Y) := quo_u (by omega)
      have e3 : ¬ Y = 0 := by omega
      have hQ : X * 2 ^ 61 / Y < 18446744073709551616 := by
       rw [Nat.div_lt_iff_lt_mul (by omega)]
       have h2 : 18446744073709551616 * 4503599627370496 ≤ 18446744073709551616 * Y := Nat.mul_le_mul_left _ b2
       omega
      obtain ⟨f, hw⟩ := wide_ok (neg := fNeg a != fNeg b) (more := decide (X * 2 ^ 61 % Y ≠ 0)) (m := X * 2 ^ 61 / Y) (e := E - 61) g2 hQ (by omega) (by omega) (fun _ => by unfold lastP; omega)
      have hw' : val 305 [Vb (fNeg a != fNeg b), Vu (X * 2 ^ 61 / Y), Vi (E - 61), Vb (decide (X * 2 ^ 61 % Y ≠ 0))] = some [Vu (nearV (fNeg a != fNeg b) (quoN X Y 61) (E - 61 - 1)), f] := hw
      have e4 : B.ne.den (Vu (X * 2 ^ 61 % Y)) (Vu 0) = Vb (decide (X * 2 ^ 61 % Y ≠ 0)) := ne_u
      generalize nearV (fNeg a != fNeg b) (quoN X Y 61) (E - 61 - 1) = res at *
      generalize decide (X * 2 ^ 61 % Y ≠ 0) = mo at *
      generalize X * 2 ^ 61 / Y = Q at *
      generalize X * 2 ^ 61 % Y = R at *
      refine ⟨f, val_of tab300 ?_⟩
      simp [-ne_u, tr300, TT.dv, KS.dv, s1, s2, k1, k2, hn, z1, z2, i1, i2, n1, n2, ne_u (a := Y) (b := 0), e0, e1, e2, e3, hlp, e4, hw']
def sumV (s t : Bool) (m n : Nat) (i j : Int) : Nat :=
 nearV (if sg s m * 2 ^ (i - min i j).toNat + sg t n * 2 ^ (j - min i j).toNat = 0 then s && t else decide (sg s m * 2 ^ (i - min i j).toNat + sg t n * 2 ^ (j - min i j).toNat < 0))
  (sg s m * 2 ^ (i - min i j).toNat + sg t n * 2 ^ (j - min i j).toNat).natAbs (min i j)
theorem sumV_comm (s t : Bool) (m n : Nat) (i j : Int) : sumV s t m n i j = sumV t s n m j i := by
 unfold sumV
 rw [Int.add_comm, Bool.and_comm, show min i j = min j i by omega]
def addV (a b : Nat) : Nat :=
 if nanB a ∨ nanB b then nan0 else
 if infB a then (if infB b ∧ fNeg a ≠ fNeg b then nan0 else a) else
 if infB b then b else sumV (fNeg a) (fNeg b) (fMag a) (fMag b) (fPl a) (fPl b)
theorem addB_ok {a b : Nat} (ha : a < 18446744073709551616) (hb : b < 18446744073709551616) : B.fadd.den (Vf (cnF a)) (Vf (cnF b)) = Vf (addV a b) := by
 show fv (Ieee.double.add (cnF a) (cnF b)) = _
 rw [add_cn]
 unfold addV Ieee.Format.add
 by_cases h1 : nanB a
 ·obtain ⟨s, f, h⟩ := rd_nan h1; rw [h, if_pos (.inl h1)]; rfl
 by_cases h2 : nanB b
 ·obtain ⟨s, f, h⟩ := rd_nan h2; rw [h, if_pos (.inr h2)]; cases Ieee.double.read a <;> rfl
 rw [if_neg (by simp [h1, h2])]
 by_cases h3 : infB a
 ·rw [rd_inf ha h3, if_pos h3]
  by_cases h4 : infB b
  ·rw [rd_inf hb h4]
   show fv (Option.map _ (if fNeg a = fNeg b then some _ else none)) = _
   by_cases h5 : fNeg a = fNeg b
   ·rw [if_pos h5, if_neg (by simp [h5])]
    show fv (some (Ieee.double.write _)) = _
    rw [wr_inf, ← inf_word ha h3]; rfl
   ·rw [if_neg h5, if_pos ⟨h4, h5⟩]; rfl
  ·have hf := fin_of h2 h4
   rw [rd_num hb hf, if_neg (by simp [h4])]
   show fv (some (Ieee.double.write _)) = _
   rw [wr_inf, ← inf_word ha h3]; rfl
 ·have hf := fin_of h1 h3
  rw [if_neg h3, rd_num ha hf]
  by_cases h4 : infB b
  ·rw [rd_inf hb h4, if_pos h4]
   show fv (some (Ieee.double.write _)) = _
   rw [wr_inf, ← inf_word hb h4]; rfl
  ·have hg := fin_of h2 h4
   rw [rd_num hb hg, if_neg h4]
   show fv (some (Ieee.double.write (.number (if Ieee.signed _ _ _ + Ieee.signed _ _ _ = 0 then _ else _) _ _))) = _
   rw [wr_num, signed_eq, signed_eq]; rfl
theorem addV_lt {a b : Nat} (ha : a < 18446744073709551616) (hb : b < 18446744073709551616) : addV a b < 18446744073709551616 := by
 have h3 : nan0 < 18446744073709551616 := by decide
 unfold addV
 repeat' split
 all_goals first | exact h3 | exact ha | exact hb | exact word_lt _ _ _
theorem addV_nan (a b : Nat) : cnF (addV a b) = addV a b := by
 unfold addV
 split
 ·exact cnF_nanB nanB_nan0
 ·rename_i h
  split
  ·split
   ·exact cnF_nanB nanB_nan0
   ·exact cnF_ok (fun hh => h (.inl hh))
  ·split
   ·exact cnF_ok (fun hh => h (.inr hh))
   ·exact cnF_ok (nanB_near _ _ _)
theorem near0 {neg : Bool} {m : Nat} {e : Int} (hm : m < 18446744073709551616) (he : -1137 ≤ e) (he2 : e < 9000000000000) : ∃ f, val 283 [Vb neg, Vu m, Vi e, Vb false] = some [Vu (nearV neg m e), f] := by
 have h := near_ok (neg := neg) (more := false) hm he he2 (fun h => by cases h)
 have h2 := (near_scale neg m e 1).1
 rw [Nat.pow_one, Nat.mul_comm] at h2
 simp only [Bool.toNat_false, Nat.add_zero] at h
 rw [show nearV neg (2 * m) (e - 1) = nearV neg m e from h2] at h
 exact ⟨_, h⟩
def rgt (M d : Nat) : Nat := if M % 2 ^ min d 63 = 0 then M / 2 ^ min d 63 else 2 * (M / 2 ^ min d 63 / 2) + 1
theorem right_ok {M d : Nat} (hM : M < 18446744073709551616) (hd : d < 9223372036854775808) : val 290 [Vu M, Vi d] = some [Vu (rgt M d)] := by
 refine val_of tab290 ?_
 have e0 : ∃ t : Nat, t = min d 63 := ⟨_, rfl⟩
 obtain ⟨t, ht⟩ := e0
 unfold rgt
 rw [← ht]
 have e1 : (B.shr .u64).den (Vu M) (Vi t) = Vu (M / 2 ^ t) := by rw [shr_uI rfl, Nat.min_eq_left (by omega)]
 have e2 : (B.shl .u64).den (Vu (M / 2 ^ t)) (Vi t) = Vu (M / 2 ^ t * 2 ^ t) := by
  rw [shl_uI rfl, Nat.min_eq_left (by omega), Nat.mod_eq_of_lt]
  exact Nat.lt_of_le_of_lt (Nat.div_mul_le_self _ _) hM
 have e3 : M / 2 ^ t * 2 ^ t = M ↔ M % 2 ^ t = 0 := by
  have := Nat.div_add_mod M (2 ^ t)
  rw [Nat.mul_comm] at this
  omega
 have hq : M / 2 ^ t < 18446744073709551616 := Nat.lt_of_le_of_lt (Nat.div_le_self _ _) hM
 have e4 : (B.or .u64).den (Vu (M / 2 ^ t)) (Vu 1) = Vu (2 * (M / 2 ^ t / 2) + 1) := by
  generalize M / 2 ^ t = q at *
  rcases (show q % 2 = 0 ∨ q % 2 = 1 by omega) with h | h
  ·have := or_add (a := q / 2) (b := 1) (i := 1) (by omega) (by omega) (by omega)
   rw [show 2 ^ 1 * (q / 2) = q by omega] at this
   rw [this]; exact congrArg Vu (by omega)
  ·rw [or_u hq (by omega)]
   refine congrArg Vu ?_
   have := Nat.two_pow_add_eq_or_of_lt (b := 1) (i := 1) (by omega) (q / 2)
   rw [Nat.pow_one, show 2 * (q / 2) + 1 = q by omega] at this
   conv => lhs; rw [this, Nat.or_assoc, Nat.or_self, ← this]
   omega
 generalize M / 2 ^ t = q at *
 by_cases hd63 : (d : Int) > 63
 ·have ht63 : t = 63 := by omega
  rw [ht63] at e1 e2 e3 ⊢
  have e1' : (B.shr .u64).den (Vu M) (Vi 63) = Vu q := e1
  have e2' : (B.shl .u64).den (Vu q) (Vi 63) = Vu (q * 2 ^ 63) := e2
  have h63 : (63 : Int) < d := by omega
  generalize q * 2 ^ 63 = z at *
  by_cases hc : z = M
  ·rw [if_pos (e3.1 hc)]
   simp [-shl_u_lit, -shr_u_lit, tr290, TT.dv, KS.dv, h63, e1', e2', hc]
  ·rw [if_neg (fun h => hc (e3.2 h))]
   simp [-shl_u_lit, -shr_u_lit, tr290, TT.dv, KS.dv, h63, e1', e2', hc, e4]
 ·have ht63 : t = d := by omega
  subst ht63
  have h63 : ¬ (63 : Int) < t := by omega
  generalize q * 2 ^ t = z at *
  by_cases hc : z = M
  ·rw [if_pos (e3.1 hc)]
   simp [-shl_u_lit, -shr_u_lit, tr290, TT.dv, KS.dv, h63, e1, e2, hc]
  ·rw [if_neg (fun h => hc (e3.2 h))]
   simp [-shl_u_lit, -shr_u_lit, tr290, TT.dv, KS.dv, h63, e1, e2, hc, e4]
theorem near_half {N k r : Nat} (p : Int) (hN : 2 ^ 56 ≤ N) (h0 : 0 < r) (hr : r < 2 ^ k) : nearR (N * 2 ^ k + r) (p - k) = nearR (2 * (N / 2) + 1) p := by
 have h56 : (2 : Nat) ^ 56 = 72057594037927936 := rfl
 rw [h56] at hN
 have hM : N / 2 ≠ 0 := by omega
 have hlog : 55 ≤ (N / 2).log2 := by
  rw [Nat.le_log2 hM]
  show 36028797018963968 ≤ N / 2
  omega
 have e1 : N * 2 ^ k + r = N / 2 * 2 ^ (k + 1) + (N % 2 * 2 ^ k + r) := by
  rw [Nat.pow_succ, ← Nat.mul_assoc, Nat.mul_right_comm, ← Nat.add_assoc, ← Nat.add_mul, Nat.mul_comm (N / 2), Nat.div_add_mod]
 have e2 : N % 2 * 2 ^ k + r < 2 ^ (k + 1) := by
  rw [Nat.pow_succ]
  have : N % 2 * 2 ^ k ≤ 1 * 2 ^ k := Nat.mul_le_mul_right _ (by omega)
  omega
 have := (near_sticky hM (p := p + 1) (by unfold lastP; omega) (show 0 < N % 2 * 2 ^ k + r by omega) e2).1
 rw [e1, show p - (k : Int) = p + 1 - ((k + 1 : Nat) : Int) by omega, this]
 exact congrArg _ (by omega)
theorem rgt_small {n d : Nat} (hd : d ≤ 9) : rgt (n * 512) d = n * 2 ^ (9 - d) := by
 have e : n * 512 = n * 2 ^ (9 - d) * 2 ^ d := by
  rw [Nat.mul_assoc, ← Nat.pow_add, show 9 - d + d = 9 by omega]
 unfold rgt
 rw [Nat.min_eq_left (by omega), e, Nat.mul_mod_left, if_pos rfl, Nat.mul_div_cancel _ (Nat.two_pow_pos _)]
theorem rgt_big {n d : Nat} (hd : 10 ≤ d) (hn : n < 9007199254740992) : rgt (n * 512) d = if n % 2 ^ (d - 9) = 0 then n / 2 ^ (d - 9) else 2 * (n / 2 ^ (d - 9) / 2) + 1 := by
 unfold rgt
 by_cases h : d ≤ 63
 ·rw [Nat.min_eq_left h]
  have e : 2 ^ d = 2 ^ (d - 9) * 512 := by rw [show (512 : Nat) = 2 ^ 9 from rfl, ← Nat.pow_add]; exact congrArg _ (by omega)
  rw [e, Nat.mul_mod_mul_right, Nat.mul_div_mul_right _ _ (by omega)]
  have : (n % 2 ^ (d - 9) * 512 = 0) ↔ (n % 2 ^ (d - 9) = 0) := by omega
  by_cases hc : n % 2 ^ (d - 9) = 0
  ·rw [if_pos (this.2 hc), if_pos hc]
  ·rw [if_neg (fun h => hc (this.1 h)), if_neg hc]
 ·rw [Nat.min_eq_right (by omega)]
  have h1 : 2 ^ 54 ≤ 2 ^ (d - 9) := Nat.pow_le_pow_right (by omega) (by omega)
  rw [show (2 : Nat) ^ 54 = 18014398509481984 from rfl] at h1
  rw [Nat.mod_eq_of_lt (show n < 2 ^ (d - 9) by omega), Nat.div_eq_of_lt (show n < 2 ^ (d - 9) by omega), show (2 : Nat) ^ 63 = 9223372036854775808 from rfl, Nat.mod_eq_of_lt (by omega), Nat.div_eq_of_lt (by omega)]
  by_cases hc : n = 0
  ·subst hc; rfl
  ·rw [if_neg (by omega), if_neg hc]
theorem far_parts {n k : Nat} (hk : 1 ≤ k) (hn : n < 9007199254740992) : ∃ q r, n = q * 2 ^ k + r ∧ r < 2 ^ k ∧ q < 4503599627370496 ∧ n % 2 ^ k = r ∧ n / 2 ^ k = q := by
 refine ⟨n / 2 ^ k, n % 2 ^ k, by rw [Nat.mul_comm]; exact (Nat.div_add_mod _ _).symm, Nat.mod_lt _ (Nat.two_pow_pos _), ?_, rfl, rfl⟩
 have h1 : n / 2 ^ k ≤ n / 2 := Nat.div_le_div_left (by have := Nat.pow_le_pow_right (show 0 < 2 by omega) hk; omega) (by omega)
 omega
theorem nearR_of {n : Nat} {p q : Int} (h : p = q) : nearR n p = nearR n q := by rw [h]
theorem sum_plus {m n d : Nat} (e : Int) (hm : m < 9007199254740992) (hn : n < 9007199254740992) (h : d ≤ 9 ∨ 4503599627370496 ≤ m) : nearR (m * 512 + rgt (n * 512) d) e = nearR (m * 2 ^ d + n) (e + 9 - d) := by
 by_cases hd : d ≤ 9
 ·rw [rgt_small hd]
  have e1 : m * 512 + n * 2 ^ (9 - d) = (m * 2 ^ d + n) * 2 ^ (9 - d) := by
   rw [Nat.add_mul, Nat.mul_assoc, ← Nat.pow_add, show d + (9 - d) = 9 by omega]
  have := (near_scale true (m * 2 ^ d + n) (e + 9 - d) (9 - d)).2.2
  rw [e1, ← this]
  exact nearR_of (by omega)
 ·obtain ⟨q, r, h1, h2, h3, h4, h5⟩ := far_parts (n := n) (k := d - 9) (by omega) hn
  rw [rgt_big (by omega) hn, h4, h5]
  have hmp : m * 2 ^ d = m * 512 * 2 ^ (d - 9) := by rw [Nat.mul_assoc, show (512 : Nat) = 2 ^ 9 from rfl, ← Nat.pow_add]; exact congrArg _ (congrArg _ (by omega))
  have hT : m * 2 ^ d + n = (m * 512 + q) * 2 ^ (d - 9) + r := by rw [hmp, h1, Nat.add_mul]; omega
  rw [hT]
  by_cases hr : r = 0
  ·rw [if_pos hr, hr, Nat.add_zero]
   have := (near_scale true (m * 512 + q) e (d - 9)).2.2
   rw [← this]
   exact nearR_of (by omega)
  ·rw [if_neg hr]
   have := near_half (N := m * 512 + q) (k := d - 9) (r := r) e (by rw [show (2 : Nat) ^ 56 = 72057594037927936 from rfl]; omega) (by omega) h2
   rw [show e + 9 - (d : Int) = e - ((d - 9 : Nat) : Int) by omega, this]
   exact congrArg (nearR · e) (by omega)
theorem sum_minus {m n d : Nat} (e : Int) (hm : m < 9007199254740992) (hn : n < 9007199254740992) (h : d ≤ 9 ∨ 4503599627370496 ≤ m) :
  (rgt (n * 512) d < m * 512 ↔ n < m * 2 ^ d) ∧ (m * 512 < rgt (n * 512) d ↔ m * 2 ^ d < n) ∧
  (n < m * 2 ^ d → nearR (m * 512 - rgt (n * 512) d) e = nearR (m * 2 ^ d - n) (e + 9 - d)) ∧ (m * 2 ^ d < n → nearR (rgt (n * 512) d - m * 512) e = nearR (n - m * 2 ^ d) (e + 9 - d)) := by
 by_cases hd : d ≤ 9
 ·rw [rgt_small hd]
  have e0 : m * 512 = m * 2 ^ d * 2 ^ (9 - d) := by rw [Nat.mul_assoc, ← Nat.pow_add, show d + (9 - d) = 9 by omega]
  have hp := Nat.two_pow_pos (9 - d)
  rw [e0, ← Nat.mul_sub_right_distrib, ← Nat.mul_sub_right_distrib]
  refine ⟨Nat.mul_lt_mul_right hp, Nat.mul_lt_mul_right hp, fun _ => ?_, fun _ => ?_⟩
  ·rw [← (near_scale true (m * 2 ^ d - n) (e + 9 - d) (9 - d)).2.2]
   exact nearR_of (by omega)
  ·rw [← (near_scale true (n - m * 2 ^ d) (e + 9 - d) (9 - d)).2.2]
   exact nearR_of (by omega)
 ·obtain ⟨q, r, h1, h2, h3, h4, h5⟩ := far_parts (n := n) (k := d - 9) (by omega) hn
  rw [rgt_big (by omega) hn, h4, h5]
  have hmp : m * 2 ^ d = m * 512 * 2 ^ (d - 9) := by rw [Nat.mul_assoc, show (512 : Nat) = 2 ^ 9 from rfl, ← Nat.pow_add]; exact congrArg _ (congrArg _ (by omega))
  have hbig : n < m * 2 ^ d := by
   rw [hmp]
   have : m * 512 * 1 ≤ m * 512 * 2 ^ (d - 9) := Nat.mul_le_mul_left _ (Nat.two_pow_pos _)
   omega
  have hsm : (if r = 0 then q else 2 * (q / 2) + 1) < m * 512 := by split <;> omega
  refine ⟨⟨fun _ => hbig, fun _ => hsm⟩, ⟨fun h => by omega, fun h => by omega⟩, fun _ => ?_, fun h => by omega⟩
  by_cases hr : r = 0
  ·rw [if_pos hr]
   have hT : m * 2 ^ d - n = (m * 512 - q) * 2 ^ (d - 9) := by rw [hmp, h1, hr, Nat.add_zero, ← Nat.mul_sub_right_distrib]
   rw [hT, ← (near_scale true (m * 512 - q) e (d - 9)).2.2]
   exact nearR_of (by omega)
  ·rw [if_neg hr]
   have hT : m * 2 ^ d - n = (m * 512 - q - 1) * 2 ^ (d - 9) + (2 ^ (d - 9) - r) := by
    rw [hmp, h1]
    have e3 : m * 512 * 2 ^ (d - 9) = (m * 512 - q - 1) * 2 ^ (d - 9) + (q * 2 ^ (d - 9) + 1 * 2 ^ (d - 9)) := by
     rw [← Nat.add_mul, ← Nat.add_mul]; exact congrArg (· * _) (by omega)
    omega
   have := near_half (N := m * 512 - q - 1) (k := d - 9) (r := 2 ^ (d - 9) - r) e (by rw [show (2 : Nat) ^ 56 = 72057594037927936 from rfl]; omega) (by omega) (by omega)
   rw [hT, show e + 9 - (d : Int) = e - ((d - 9 : Nat) : Int) by omega, this]
   exact congrArg (nearR · e) (by omega)
theorem sg_shift (s : Bool) (m d : Nat) : sg s m * 2 ^ d = sg s (m * 2 ^ d) := by
 unfold sg
 cases s
 ·simp
 ·simp [Int.neg_mul]
theorem sumV_ge (s t : Bool) (m n : Nat) {i j : Int} (d : Nat) (h : i = j + d) :
  sumV s t m n i j = if s = t then nearV s (m * 2 ^ d + n) j else if n < m * 2 ^ d then nearV s (m * 2 ^ d - n) j else if m * 2 ^ d < n then nearV t (n - m * 2 ^ d) j else 0 := by
 unfold sumV
 have hmin : min i j = j := by omega
 rw [hmin, show (i - j).toNat = d by omega, show (j - j).toNat = 0 by omega, sg_shift, sg_shift, Nat.pow_zero, Nat.mul_one]
 generalize m * 2 ^ d = A
 have hz : ∀ (u : Bool) p, nearV u 0 p = sgn u 0 := nearV_zero
 cases s <;> cases t <;> simp only [sg, if_true, if_false, Bool.false_eq_true, Bool.and_self, Bool.and_false, Bool.and_true, reduceCtorEq, Bool.true_eq_false]
 ·rw [show ((A : Int) + n).natAbs = A + n by omega]
  split
  ·rfl
  ·rw [decide_eq_false (by omega)]
 ·by_cases h1 : n < A
  ·rw [if_pos h1, if_neg (by omega), decide_eq_false (by omega)]
   exact congrArg (fun x => nearV false x j) (by omega)
  ·rw [if_neg h1]
   by_cases h2 : A < n
   ·rw [if_pos h2, if_neg (by omega), decide_eq_true (by omega)]
    exact congrArg (fun x => nearV true x j) (by omega)
   ·rw [if_neg h2, if_pos (by omega), show ((A : Int) + -(n : Int)).natAbs = 0 by omega, hz]; rfl
 ·by_cases h1 : n < A
  ·rw [if_pos h1, if_neg (by omega), decide_eq_true (by omega)]
   exact congrArg (fun x => nearV true x j) (by omega)
  ·rw [if_neg h1]
   by_cases h2 : A < n
   ·rw [if_pos h2, if_neg (by omega), decide_eq_false (by omega)]
    exact congrArg (fun x => nearV false x j) (by omega)
   ·rw [if_neg h2, if_pos (by omega), show (-(A : Int) + (n : Int)).natAbs = 0 by omega, hz]; rfl
 ·rw [show (-(A : Int) + -(n : Int)).natAbs = A + n by omega]
  split
  ·rfl
  ·rw [decide_eq_true (by omega)]
theorem special_ok {a b : Nat} (ha : a < 18446744073709551616) (hb : b < 18446744073709551616) (h : ¬ (fPow a ≠ 2047 ∧ fPow b ≠ 2047)) : ∃ f, val 291 [Vu a, Vu b] = some [Vu (addV a b), f] := by
 have k1 := kind_ok a
 have k2 := kind_ok b
 have f1 := finite_ok a
 have f2 := finite_ok b
 unfold addV
 by_cases c1 : nanB a
 ·rw [if_pos (.inl c1)]
  rw [(kind_nan a).2 c1] at k1
  refine ⟨Vy 0, val_of tab291 ?_⟩
  simp [tr291, TT.dv, KS.dv, k1, nan0]
 have i1 : ¬ fKind a = 4 := fun h => c1 ((kind_nan a).1 h)
 by_cases c2 : nanB b
 ·rw [if_pos (.inr c2)]
  rw [(kind_nan b).2 c2] at k2
  refine ⟨Vy 0, val_of tab291 ?_⟩
  simp [tr291, TT.dv, KS.dv, k1, k2, i1, nan0]
 have i2 : ¬ fKind b = 4 := fun h => c2 ((kind_nan b).1 h)
 rw [if_neg (by simp [c1, c2])]
 by_cases c3 : infB a
 ·rw [if_pos c3]
  have e1 : fPow a = 2047 := c3.1
  by_cases c4 : infB b
  ·have e2 : fPow b = 2047 := c4.1
   have ea := inf_word ha c3
   have eb := inf_word hb c4
   by_cases c5 : fNeg a = fNeg b
   ·rw [if_neg (by simp [c5])]
    have hab : a = b := by rw [ea, eb, c5]
    refine ⟨Vy 0, val_of tab291 ?_⟩
    simp [tr291, TT.dv, KS.dv, k2, i2, f2, e2, hab]
   ·rw [if_pos ⟨c4, c5⟩]
    have hab : ¬ a = b := fun h => c5 (by rw [h])
    refine ⟨Vy 16, val_of tab291 ?_⟩
    simp [tr291, TT.dv, KS.dv, k1, k2, i1, i2, f1, f2, e1, e2, hab, nan0]
  ·rw [if_neg (by simp [c4])]
   have e2 := fin_of c2 c4
   refine ⟨Vy 0, val_of tab291 ?_⟩
   simp [tr291, TT.dv, KS.dv, k1, k2, i1, i2, f1, f2, e1, e2]
 ·rw [if_neg c3]
  have e1 := fin_of c1 c3
  have c4 : infB b := by
   by_cases h4 : infB b
   ·exact h4
   ·exact absurd ⟨e1, fin_of c2 h4⟩ h
  rw [if_pos c4]
  refine ⟨Vy 0, val_of tab291 ?_⟩
  simp [tr291, TT.dv, KS.dv, k1, k2, i1, i2, f1, f2, e1]
def tail288 : TT Unit := match tr288 with | .call _ _ _ _ (.call _ _ _ _ (.ite _ _ (.call _ _ _ _ (.call _ _ _ _ (.call _ _ _ _ (.call _ _ _ _ (.scope _ (.cons _ t _)))))))) => t | t => t
theorem rgt_le (M d : Nat) : rgt M d ≤ M := by
 unfold rgt
 have := Nat.div_le_self M (2 ^ min d 63)
 split
 ·exact this
 ·rename_i h5
  have h2 := Nat.div_add_mod M (2 ^ min d 63)
  have h3 : 0 < 2 ^ min d 63 := Nat.two_pow_pos _
  by_cases h4 : 2 ^ min d 63 = 1
  ·rw [h4, Nat.mod_one] at h5; exact absurd rfl h5
  ·have h6 := Nat.div_le_div_left (show 2 ≤ 2 ^ min d 63 by omega) (by omega) (a := M)
   generalize 2 ^ min d 63 = z at *
   omega
theorem tail_ok {x0 x1 x2 x3 x4 x5 x6 x7 x8 x9 : PV} {s t : Bool} {m n : Nat} {i j : Int} (d : Nat) (h : i = j + d) (hm : m < 9007199254740992) (hn : n < 9007199254740992) (hb : d ≤ 9 ∨ 4503599627370496 ≤ m) (hj : -1074 ≤ j) (hi : i ≤ 972) :
  ∃ f, tail288.dv [x0, x1, x2, x3, x4, x5, x6, x7, x8, x9, Vu m, Vi i, Vu n, Vi j, Vb s, Vb t] = some (.y .ret [Vu (sumV s t m n i j), f]) := by
 rw [sumV_ge s t m n d h]
 have e1 : (B.shl .u64).den (Vu n) (Vu 9) = Vu (n * 512) := by
  rw [shl_uU]; refine congrArg Vu ?_
  show n * 512 % _ = _; omega
 have e2 : (B.shl .u64).den (Vu m) (Vu 9) = Vu (m * 512) := by
  rw [shl_uU]; refine congrArg Vu ?_
  show m * 512 % _ = _; omega
 have e3 : (B.sub .i64).den (Vi i) (Vi j) = Vi d := by rw [sub_i (by omega) (by omega)]; exact congrArg Vi (by omega)
 have e4 : (B.sub .i64).den (Vi i) (Vi 9) = Vi (i - 9) := sub_i (by omega) (by omega)
 have e5 := right_ok (M := n * 512) (d := d) (by omega) (by omega)
 have hr := rgt_le (n * 512) d
 have l1 : -1137 ≤ i - 9 := by omega
 have l2 : i - 9 < 9000000000000 := by omega
 have l3 : i - 9 + 9 - (d : Int) = j := by omega
 have hp := sum_plus (i - 9) hm hn hb
 obtain ⟨q1, q2, q3, q4⟩ := sum_minus (i - 9) hm hn hb
 rw [l3] at hp q3 q4
 generalize rgt (n * 512) d = y at *
 have m64 : m * 512 < 18446744073709551616 := by clear hp q1 q2 q3 q4 e5; omega
 have y64 : y < 18446744073709551616 := by clear hp q1 q2 q3 q4 e5; omega
 have my64 : m * 512 + y < 18446744073709551616 := Nat.lt_of_le_of_lt (Nat.add_le_add (Nat.mul_le_mul_right 512 (Nat.le_of_lt hm)) (Nat.le_trans hr (Nat.mul_le_mul_right 512 (Nat.le_of_lt hn)))) (by decide)
 by_cases hs : s = t
 ·rw [if_pos hs]
  subst hs
  have a1 : (m * 512 + y) % 18446744073709551616 = m * 512 + y := Nat.mod_eq_of_lt my64
  obtain ⟨f, hf⟩ := near0 (neg := s) (m := m * 512 + y) (e := i - 9) my64 l1 l2
  have hV : nearV s (m * 512 + y) (i - 9) = nearV s (m * 2 ^ d + n) j := by unfold nearV; rw [hp]
  rw [hV] at hf
  refine ⟨f, ?_⟩
  simp [-shl_u_lit, tail288, tr288, TT.dv, e1, e2, e3, e4, e5, a1, hf]
 ·rw [if_neg hs]
  by_cases c1 : n < m * 2 ^ d
  ·rw [if_pos c1]
   have c1' := q1.2 c1
   have a1 : (B.sub .u64).den (Vu (m * 512)) (Vu y) = Vu (m * 512 - y) := sub_u (Nat.le_of_lt c1') m64
   obtain ⟨f, hf⟩ := near0 (neg := s) (m := m * 512 - y) (e := i - 9) (Nat.lt_of_le_of_lt (Nat.sub_le _ _) m64) l1 l2
   have hV : nearV s (m * 512 - y) (i - 9) = nearV s (m * 2 ^ d - n) j := by unfold nearV; rw [q3 c1]
   rw [hV] at hf
   refine ⟨f, ?_⟩
   simp [-shl_u_lit, tail288, tr288, TT.dv, e1, e2, e3, e4, e5, hs, c1', a1, hf]
  ·rw [if_neg c1]
   have c1' : ¬ y < m * 512 := fun h => c1 (q1.1 h)
   by_cases c2 : m * 2 ^ d < n
   ·rw [if_pos c2]
    have c2' := q2.2 c2
    have a1 : (B.sub .u64).den (Vu y) (Vu (m * 512)) = Vu (y - m * 512) := sub_u (Nat.le_of_lt c2') y64
    obtain ⟨f, hf⟩ := near0 (neg := t) (m := y - m * 512) (e := i - 9) (Nat.lt_of_le_of_lt (Nat.sub_le _ _) y64) l1 l2
    have hV : nearV t (y - m * 512) (i - 9) = nearV t (n - m * 2 ^ d) j := by unfold nearV; rw [q4 c2]
    rw [hV] at hf
    refine ⟨f, ?_⟩
    simp [-shl_u_lit, tail288, tr288, TT.dv, e1, e2, e3, e4, e5, hs, c1', c2', a1, hf]
   ·rw [if_neg c2]
    have c2' : ¬ m * 512 < y := fun h => c2 (q2.1 h)
    refine ⟨Vy 0, ?_⟩
    simp [-shl_u_lit, tail288, tr288, TT.dv, e1, e2, e3, e4, e5, hs, c1', c2']
theorem sadd_ok {a b : Nat} (ha : a < 18446744073709551616) (hb : b < 18446744073709551616) : ∃ f, val 288 [Vu a, Vu b] = some [Vu (addV a b), f] := by
 have f1 := finite_ok a
 have f2 := finite_ok b
 by_cases hf : fPow a ≠ 2047 ∧ fPow b ≠ 2047
 ·obtain ⟨g1, g2⟩ := hf
  have n1 : ¬ nanB a := by unfold nanB; omega
  have n2 : ¬ nanB b := by unfold nanB; omega
  have i1 : ¬ infB a := by unfold infB; omega
  have i2 : ¬ infB b := by unfold infB; omega
  have p1 := parts_ok a
  have p2 := parts_ok b
  have s1 := sign_ok a
  have s2 := sign_ok b
  have hV : addV a b = sumV (fNeg a) (fNeg b) (fMag a) (fMag b) (fPl a) (fPl b) := by unfold addV; rw [if_neg (by simp [n1, n2]), if_neg i1, if_neg i2]
  rw [hV]
  obtain ⟨b1, b2⟩ := fPl_bd a
  obtain ⟨b3, b4⟩ := fPl_bd b
  have big : ∀ c, -1074 < fPl c → 4503599627370496 ≤ fMag c := fun c hc => by
   unfold fPl at hc; unfold fMag
   by_cases h0 : fPow c = 0
   ·rw [if_pos h0] at hc; omega
   ·rw [if_neg h0]; omega
  by_cases hlt : fPl a < fPl b
  ·rw [sumV_comm]
   obtain ⟨f, h⟩ := tail_ok (x0 := Vu a) (x1 := Vu b) (x2 := Vb true) (x3 := Vb true) (x4 := Vu (fMag a)) (x5 := Vi (fPl a)) (x6 := Vu (fMag b)) (x7 := Vi (fPl b)) (x8 := Vb (fNeg a)) (x9 := Vb (fNeg b))
    (s := fNeg b) (t := fNeg a) (m := fMag b) (n := fMag a) (i := fPl b) (j := fPl a) (fPl b - fPl a).toNat (by omega) (fMag_lt b) (fMag_lt a) (.inr (big b (by omega))) b1 b4
   refine ⟨f, val_of tab288 (Eq.trans ?_ h)⟩
   simp only [tail288]
   simp [-shl_u_lit, tr288, TT.dv, KS.dv, f1, f2, g1, g2, p1, p2, s1, s2, hlt]
  ·obtain ⟨f, h⟩ := tail_ok (x0 := Vu a) (x1 := Vu b) (x2 := Vb true) (x3 := Vb true) (x4 := Vu (fMag a)) (x5 := Vi (fPl a)) (x6 := Vu (fMag b)) (x7 := Vi (fPl b)) (x8 := Vb (fNeg a)) (x9 := Vb (fNeg b))
    (s := fNeg a) (t := fNeg b) (m := fMag a) (n := fMag b) (i := fPl a) (j := fPl b) (fPl a - fPl b).toNat (by omega) (fMag_lt a) (fMag_lt b) (by
     by_cases h : -1074 < fPl a
     ·exact .inr (big a h)
     ·left; omega) b3 b2
   refine ⟨f, val_of tab288 (Eq.trans ?_ h)⟩
   simp only [tail288]
   simp [-shl_u_lit, tr288, TT.dv, KS.dv, f1, f2, g1, g2, p1, p2, s1, s2, hlt]
 ·obtain ⟨f, h⟩ := special_ok ha hb hf
  refine ⟨f, val_of tab288 ?_⟩
  by_cases g1 : fPow a = 2047
  ·simp [tr288, TT.dv, KS.dv, f1, f2, g1, h]
  ·have g2 : fPow b = 2047 := by omega
   simp [tr288, TT.dv, KS.dv, f1, f2, g1, g2, h]
theorem minus_neg {b : Nat} (hb : b < 18446744073709551616) : fNeg (fMinus b) = !fNeg b ∧ fPow (fMinus b) = fPow b ∧ fFrac (fMinus b) = fFrac b ∧ fMinus b < 18446744073709551616 := by
 unfold fMinus fNeg fPow fFrac
 by_cases h : b < 9223372036854775808
 ·rw [if_pos h]
  refine ⟨?_, by omega, by omega, by omega⟩
  rw [show (b + 9223372036854775808) / 9223372036854775808 = 1 by omega, show b / 9223372036854775808 = 0 by omega]; rfl
 ·rw [if_neg h]
  refine ⟨?_, by omega, by omega, by omega⟩
  rw [show (b - 9223372036854775808) / 9223372036854775808 = 0 by omega, show b / 9223372036854775808 = 1 by omega]; rfl
def subV (a b : Nat) : Nat := addV a (fMinus b)
theorem subV_lt {a b : Nat} (ha : a < 18446744073709551616) (hb : b < 18446744073709551616) : subV a b < 18446744073709551616 := addV_lt ha (minus_neg hb).2.2.2
theorem F9_ok (b : Nat) : val 154 [Vu b] = some [Vf (cnF b)] := val_of tab154 (by simp [tr154, TT.dv, b2f_ok])
theorem B9_ok {b : Nat} (hb : b < 18446744073709551616) (hc : cnF b = b) : val 150 [Vf b] = some [Vu b] := by
 refine val_of tab150 ?_
 have h := canon_ok hb
 rw [hc] at h
 simp [tr150, TT.dv, f2b_f, h]
section
variable {a b : Nat} (ha : a < 18446744073709551616) (hb : b < 18446744073709551616)
include ha hb
theorem add9_ok : val 148 [Vu a, Vu b] = some [Vu (addV a b)] := by
 refine val_of tab148 ?_
 simp [tr148, TT.dv, F9_ok, addB_ok ha hb, B9_ok (addV_lt ha hb) (addV_nan a b)]
theorem mul9_ok : val 156 [Vu a, Vu b] = some [Vu (mulV a b)] := by
 refine val_of tab156 ?_
 simp [tr156, TT.dv, F9_ok, mulB_ok ha hb, B9_ok mulV_lt (mulV_nan a b)]
theorem vadd_ok : val 306 [Vu a, Vu b] = some [Vu (addV a b)] := by
 refine val_of tab306 ?_
 obtain ⟨f, h⟩ := sadd_ok ha hb
 simp [tr306, TT.dv, h]
theorem vsub_ok : val 317 [Vu a, Vu b] = some [Vu (subV a b)] := by
 refine val_of tab317 ?_
 obtain ⟨f, h⟩ := sadd_ok ha (minus_neg hb).2.2.2
 have h2 : val 289 [Vu a, Vu b] = some [Vu (subV a b), f] := by
  refine val_of tab289 ?_
  simp [tr289, TT.dv, minus_ok hb, h, subV]
 simp [tr317, TT.dv, h2]
theorem vmul_ok : val 313 [Vu a, Vu b] = some [Vu (mulV a b)] := by
 refine val_of tab313 ?_
 obtain ⟨f, h⟩ := times_ok ha hb
 simp [tr313, TT.dv, h]
theorem vdiv_ok : val 310 [Vu a, Vu b] = some [Vu (divV a b)] := by
 refine val_of tab310 ?_
 obtain ⟨f, h⟩ := div_ok ha hb
 simp [tr310, TT.dv, h]
end
section
variable {b : Nat} (hb : b < 18446744073709551616)
include hb
theorem sqrt9_ok : val 161 [Vu b] = some [Vu (sqrtV b)] := by
 refine val_of tab161 ?_
 have h : val 328 [Vf (cnF b)] = some [Vf (sqrtV b)] := val_of tab328 (by simp [tr328, TT.dv, fsqrt_ok hb])
 simp [tr161, TT.dv, F9_ok, h, B9_ok (sqrtV_lt hb) cnF_sqrt]
theorem vsqrt_ok : val 316 [Vu b] = some [Vu (sqrtV b)] := by
 refine val_of tab316 ?_
 simp [tr316, TT.dv, sqrt_ok hb]
theorem shift9_ok {k : Int} (hk1 : -4611686018427387904 ≤ k) (hk2 : k ≤ 4611686018427387904) : val 160 [Vu b, Vi k] = some [Vu (scaleV b k)] := by
 refine val_of tab160 ?_
 simp [tr160, TT.dv, F9_ok, ldexp_ok hb hk1 hk2, B9_ok (scaleV_lt hb k) (scaleV_nan b k)]
end
theorem vshift_ok (b : Nat) (k : Int) : val 315 [Vu b, Vi k] = some [Vu (scaleV b k)] := by
 refine val_of tab315 ?_
 simp [tr315, TT.dv, scale_ok]
def Words (x : List Nat) : Prop := ∀ a ∈ x, a < 18446744073709551616
def el (x : List Nat) (i : Nat) : Nat := x.getD i 0
def Vl (x : List Nat) : PV := .l (x.map Vu)
@[simp] theorem len_V (x : List Nat) : U.len.den (Vl x) = Vi x.length := by simp [Vl]
theorem get_V {x : List Nat} {i : Nat} (h : i < x.length) : B.get.den (Vl x) (Vi i) = Vu (el x i) := by
 rw [Vl, get_l _ rfl]
 simp [el, List.getD_eq_getElem?_getD, h]
@[simp] theorem nil_V : PV.l [] = Vl [] := rfl
@[simp] theorem wl_nil_V : wl [] = Vl [] := rfl
theorem app_V (x : List Nat) (a : Nat) : B.app.den (Vl x) (B.cons.den (Vu a) (Vl [])) = Vl (x ++ [a]) := by
 rw [Vl, Vl, List.map_nil, cons_l, app_l]; simp [Vl]
theorem Words.el {x : List Nat} (h : Words x) (i : Nat) : el x i < 18446744073709551616 := by
 rw [Dx.el, List.getD_eq_getElem?_getD]
 cases hx : x[i]? with
 | none => simp
 | some a => exact h a (List.mem_of_getElem? hx)
theorem pv_u64 {p : PV} (h : PvT (.int .u64) p) : ∃ n : Nat, p = Vu n ∧ n < 18446744073709551616 := by
 obtain ⟨a, rfl, hw⟩ := h
 obtain ⟨n, rfl, hn⟩ := wf_u64 hw
 exact ⟨n, rfl, hn⟩
theorem pv_i64 {p : PV} (h : PvT (.int .i64) p) : ∃ x : Int, p = Vi x ∧ -9223372036854775808 ≤ x ∧ x < 9223372036854775808 := by
 obtain ⟨a, rfl, hw⟩ := h
 exact ⟨a, rfl, wf_i64 hw⟩
theorem pv_bool {p : PV} (h : PvT .bool p) : ∃ b : Bool, p = Vb b := h
theorem pv_lu {p : PV} (h : PvT (.sl .u64) p) : ∃ x : List Nat, p = Vl x ∧ Words x ∧ x.length ≤ 17592186043904 := by
 obtain ⟨zs, rfl, hw, hl⟩ := h
 refine ⟨zs.map Int.toNat, ?_, ?_, ?_⟩
 ·unfold Vl
  rw [List.map_map]
  refine congrArg PV.l (List.map_congr_left fun z hz => ?_)
  obtain ⟨n, rfl, _⟩ := wf_u64 (hw z hz)
  rfl
 ·intro a ha
  obtain ⟨z, hz, rfl⟩ := List.mem_map.1 ha
  obtain ⟨n, rfl, hn⟩ := wf_u64 (hw z hz)
  simpa using hn
 ·rw [List.length_map]
  have h1 : zs.length * 8 ≤ reachBytes := hl
  have h2 : reachBytes = 140737488351232 := rfl
  rw [h2] at h1
  omega
def dotR (x y : List Nat) : Nat → Nat → Nat → Nat
 | 0, _, s => s
 | n + 1, i, s => dotR x y n (i + 1) (addV s (mulV (el x i) (el y i)))
theorem dotR_lt {x y : List Nat} : ∀ (n : Nat) {i s : Nat}, s < 18446744073709551616 → dotR x y n i s < 18446744073709551616
 | 0, _, _, h => h
 | n + 1, i, s, h => dotR_lt n (addV_lt h mulV_lt)
section
variable {x y : List Nat} (hx : Words x) (hy : Words y) (hl : x.length = y.length) (h64 : x.length < 9000000000000000000)
include hx hy hl h64
theorem dot_loop {x2 : PV} : ∀ (n : Nat) {i s : Nat}, i + n = x.length → s < 18446744073709551616 →
  rounds (fun vs => lo311_1.dv (Vl x :: Vl y :: x2 :: vs)) [Vu s, Vi i] = some (.y (.ext 0) [Vu (dotR x y n i s)]) := by
 intro n
 induction n with
 | zero =>
  intro i s hi hs
  refine rounds_exit ?_ (by simp)
  simp [lo311_1, TT.dv, show ¬ i < x.length by omega, dotR]
 | succ n ih =>
  intro i s hi hs
  refine Eq.trans (rounds_cont ?_) (ih (i := i + 1) (s := addV s (mulV (el x i) (el y i))) (by omega) (addV_lt hs mulV_lt))
  have e1 : (B.add .i64).den (Vi i) (Vi 1) = Vi (i + 1) := add_i (by omega) (by omega)
  have g1 := get_V (x := x) (i := i) (by omega)
  have g2 := get_V (x := y) (i := i) (by omega)
  have c1 := vmul_ok (hx.el i) (hy.el i)
  have c2 := vadd_ok hs (mulV_lt (a := el x i) (b := el y i))
  simp [lo311_1, TT.dv, show i < x.length by omega, show i < y.length by omega, e1, g1, g2, c1, c2]
theorem dot9_loop : ∀ (n : Nat) {i s : Nat}, i + n = x.length → s < 18446744073709551616 →
  rounds (fun vs => lo153_1.dv (Vl x :: Vl y :: vs)) [Vu s, Vi i] = some (.y (.ext 0) [Vu (dotR x y n i s)]) := by
 intro n
 induction n with
 | zero =>
  intro i s hi hs
  refine rounds_exit ?_ (by simp)
  simp [lo153_1, TT.dv, show ¬ i < x.length by omega, dotR]
 | succ n ih =>
  intro i s hi hs
  refine Eq.trans (rounds_cont ?_) (ih (i := i + 1) (s := addV s (mulV (el x i) (el y i))) (by omega) (addV_lt hs mulV_lt))
  have e1 : (B.add .i64).den (Vi i) (Vi 1) = Vi (i + 1) := add_i (by omega) (by omega)
  have g1 := get_V (x := x) (i := i) (by omega)
  have g2 := get_V (x := y) (i := i) (by omega)
  have c1 := mul9_ok (hx.el i) (hy.el i)
  have c2 := add9_ok hs (mulV_lt (a := el x i) (b := el y i))
  simp [lo153_1, TT.dv, show i < x.length by omega, show i < y.length by omega, e1, g1, g2, c1, c2]
end
theorem fit_ok (x y : List Nat) : val 321 [Vl x, Vl y] = some [Vb (decide (x.length = y.length ∧ x.length ≤ 64))] := by
 refine val_of tab321 ?_
 have e1 : decide ((x.length : Int) = y.length) = decide (x.length = y.length) := decide_eq_decide.2 (by omega)
 have e2 : decide ((x.length : Int) ≤ 64) = decide (x.length ≤ 64) := decide_eq_decide.2 (by omega)
 simp [tr321, TT.dv, e1, e2]
def dotV (x y : List Nat) : Nat := dotR x y x.length 0 0
theorem dot_ok {x y : List Nat} (hx : Words x) (hy : Words y) : val 311 [Vl x, Vl y] = some (if x.length = y.length ∧ x.length ≤ 64 then [Vu (dotV x y), Vi 0] else [Vu 0, Vi 3]) := by
 refine val_of tab311 ?_
 have h1 := fit_ok x y
 by_cases h : x.length = y.length ∧ x.length ≤ 64
 ·rw [if_pos h]
  rw [decide_eq_true h] at h1
  have hlp := dot_loop (x2 := Vb true) hx hy h.1 (by omega) x.length (i := 0) (s := 0) (by omega) (by omega)
  rw [show ((0 : Nat) : Int) = 0 from rfl] at hlp
  simp [tr311, TT.dv, KS.dv, h1, hlp, dotV]
 ·rw [if_neg h]
  rw [decide_eq_false h] at h1
  simp [tr311, TT.dv, h1]
theorem max_u (a b : Nat) : (B.max .u64).den (Vu a) (Vu b) = Vu (max a b) := by
 simp only [B.den, Vu, PV.int, PV.v.injEq, Value.int.injEq, true_and]; by_cases h : (a : Int) < b <;> simp only [h, if_true, if_false] <;> omega
def absV (b : Nat) : Nat := b % 9223372036854775808
theorem absV_lt (b : Nat) : absV b < 9223372036854775808 := by unfold absV; omega
theorem nanB_absV (b : Nat) : nanB (absV b) ↔ nanB b := nanB_abs b
def bigR (x : List Nat) : Nat → Nat → Nat → Nat
 | 0, _, m => m
 | n + 1, i, m => if nanB (el x i) then nan0 else bigR x n (i + 1) (max m (absV (el x i)))
theorem maxB_nan (a : Nat) : maxB nan0 a = nan0 := by unfold maxB ordOk; simp [nanB_nan0]
theorem maxB_nan2 {m a : Nat} (h : nanB a) : maxB m (absV a) = nan0 := by unfold maxB ordOk; simp [(nanB_absV a).2 h]
theorem rk_pos {m : Nat} (h : m < 9223372036854775808) : rk m = m := by
 unfold rk fNeg sg
 rw [if_neg (by simp; omega), Nat.mod_eq_of_lt h]
theorem maxB_abs {m a : Nat} (hm : m < 9223372036854775808) (hn : ¬ nanB m) (h : ¬ nanB a) : maxB m (absV a) = max m (absV a) := by
 have ho : ordOk m (absV a) = true := by unfold ordOk; simp [hn]; exact fun hh => h ((nanB_absV a).1 hh)
 unfold maxB
 rw [if_pos ho]
 have : ordI m (absV a) < 0 ↔ m < absV a := by
  rw [ordI_lt, rk_pos hm, rk_pos (absV_lt a)]
  constructor
  ·intro h; omega
  ·intro h; exact ⟨ho, by omega⟩
 by_cases hc : m < absV a
 ·rw [if_pos (this.2 hc)]; omega
 ·rw [if_neg (fun h => hc (this.1 h))]; omega
theorem nanB_max {m a : Nat} (hn : ¬ nanB m) (h : ¬ nanB a) : ¬ nanB (max m a) := by
 rcases (show max m a = m ∨ max m a = a by omega) with h1 | h1 <;> rw [h1] <;> assumption
section
variable {x : List Nat} (hx : Words x) (h64 : x.length < 9000000000000000000)
include hx h64
theorem big_loop {x1 : PV} : ∀ (n : Nat) {i m : Nat}, i + n = x.length → m < 9223372036854775808 → ¬ nanB m →
  (∃ r, rounds (fun vs => lo309_1.dv (Vl x :: vs)) [x1, Vu m, Vi i] = some (.y .ret [r]) ∧ bigR x n i m = nan0) ∨
  (rounds (fun vs => lo309_1.dv (Vl x :: vs)) [x1, Vu m, Vi i] = some (.y (.ext 0) [x1, Vu (bigR x n i m)])) := by
 intro n
 induction n with
 | zero =>
  intro i m hi hm hn
  refine .inr (rounds_exit ?_ (by simp))
  simp [lo309_1, TT.dv, show ¬ i < x.length by omega, bigR]
 | succ n ih =>
  intro i m hi hm hn
  have g1 := get_V (x := x) (i := i) (by omega)
  have k1 := kind_ok (el x i)
  unfold bigR
  by_cases c : nanB (el x i)
  ·rw [if_pos c]
   rw [(kind_nan _).2 c] at k1
   refine .inl ⟨Vu m, rounds_exit ?_ (by simp), rfl⟩
   simp [lo309_1, TT.dv, show i < x.length by omega, g1, k1]
  ·rw [if_neg c]
   have c' : ¬ fKind (el x i) = 4 := fun h => c ((kind_nan _).1 h)
   have e1 : (B.add .i64).den (Vi i) (Vi 1) = Vi (i + 1) := add_i (by omega) (by omega)
   have a1 := abs_ok (el x i)
   have hr : rounds (fun vs => lo309_1.dv (Vl x :: vs)) [x1, Vu m, Vi i] = rounds (fun vs => lo309_1.dv (Vl x :: vs)) [x1, Vu (max m (absV (el x i))), Vi ((i + 1 : Nat) : Int)] := by
    refine rounds_cont ?_
    simp [lo309_1, TT.dv, show i < x.length by omega, g1, k1, c', a1, e1, max_u, absV]
   have := absV_lt (el x i)
   rw [hr]
   exact ih (i := i + 1) (by omega) (by omega) (nanB_max hn (fun h => c ((nanB_absV _).1 h)))
theorem big9_nan : ∀ (n : Nat) {i : Nat}, i + n = x.length →
  rounds (fun vs => lo151_1.dv (Vl x :: vs)) [Vu nan0, Vi i] = some (.y (.ext 0) [Vu nan0]) := by
 intro n
 induction n with
 | zero =>
  intro i hi
  refine rounds_exit ?_ (by simp)
  simp [lo151_1, TT.dv, show ¬ i < x.length by omega]
 | succ n ih =>
  intro i hi
  refine Eq.trans (rounds_cont ?_) (ih (i := i + 1) (by omega))
  have g1 := get_V (x := x) (i := i) (by omega)
  have e1 : (B.add .i64).den (Vi i) (Vi 1) = Vi (i + 1) := add_i (by omega) (by omega)
  have a1 := abs8_ok (hx.el i)
  have m1 := max8_ok (a := nan0) (b := el x i % 9223372036854775808) (by decide) (by omega)
  rw [maxB_nan] at m1
  simp [lo151_1, TT.dv, show i < x.length by omega, g1, a1, m1, e1]
theorem big9_loop : ∀ (n : Nat) {i m : Nat}, i + n = x.length → m < 9223372036854775808 → ¬ nanB m →
  rounds (fun vs => lo151_1.dv (Vl x :: vs)) [Vu m, Vi i] = some (.y (.ext 0) [Vu (bigR x n i m)]) := by
 intro n
 induction n with
 | zero =>
  intro i m hi hm hn
  refine rounds_exit ?_ (by simp)
  simp [lo151_1, TT.dv, show ¬ i < x.length by omega, bigR]
 | succ n ih =>
  intro i m hi hm hn
  have g1 := get_V (x := x) (i := i) (by omega)
  have e1 : (B.add .i64).den (Vi i) (Vi 1) = Vi (i + 1) := add_i (by omega) (by omega)
  have a1 := abs8_ok (hx.el i)
  have m1 := max8_ok (a := m) (b := el x i % 9223372036854775808) (by omega) (by omega)
  have hr : rounds (fun vs => lo151_1.dv (Vl x :: vs)) [Vu m, Vi i] = rounds (fun vs => lo151_1.dv (Vl x :: vs)) [Vu (maxB m (absV (el x i))), Vi ((i + 1 : Nat) : Int)] := by
   refine rounds_cont ?_
   simp [lo151_1, TT.dv, show i < x.length by omega, g1, a1, m1, e1, absV]
  rw [hr]
  unfold bigR
  by_cases c : nanB (el x i)
  ·rw [if_pos c, maxB_nan2 c]
   exact big9_nan hx h64 n (by omega)
  ·rw [if_neg c, maxB_abs hm hn c]
   have := absV_lt (el x i)
   exact ih (i := i + 1) (by omega) (by omega) (nanB_max hn (fun h => c ((nanB_absV _).1 h)))
end
theorem bigR_lt {x : List Nat} : ∀ (n : Nat) {i m : Nat}, m < 9223372036854775808 → bigR x n i m < 9223372036854775808
 | 0, _, _, h => h
 | n + 1, i, m, h => by
  unfold bigR
  split
  ·decide
  ·exact bigR_lt n (by have := absV_lt (el x i); omega)
def bigV (x : List Nat) : Nat := bigR x x.length 0 0
theorem bigV_lt (x : List Nat) : bigV x < 9223372036854775808 := bigR_lt _ (by decide)
section
variable {x : List Nat} (hx : Words x) (h64 : x.length < 9000000000000000000)
include hx h64
theorem biggest_ok : val 309 [Vl x] = some [Vu (bigV x)] := by
 refine val_of tab309 ?_
 have h := big_loop hx h64 (x1 := Vu 0) x.length (i := 0) (m := 0) (by omega) (by decide) (by decide)
 rw [show ((0 : Nat) : Int) = 0 from rfl] at h
 unfold bigV
 rcases h with ⟨r, h1, h2⟩ | h1
 ·rw [h2]; simp [tr309, TT.dv, KS.dv, h1, nan0]
 ·simp [tr309, TT.dv, KS.dv, h1]
theorem biggest9_ok : val 151 [Vl x] = some [Vu (bigV x)] := by
 refine val_of tab151 ?_
 have h := big9_loop hx h64 x.length (i := 0) (m := 0) (by omega) (by decide) (by decide)
 rw [show ((0 : Nat) : Int) = 0 from rfl] at h
 unfold bigV
 simp [tr151, TT.dv, KS.dv, h]
end
def finR (x : List Nat) : Nat → Nat → Bool
 | 0, _ => true
 | n + 1, i => if fPow (el x i) = 2047 then false else finR x n (i + 1)
def finV (x : List Nat) : Bool := finR x x.length 0
section
variable {x : List Nat} (hx : Words x) (h64 : x.length < 9000000000000000000)
include hx h64
theorem fin_loop {x1 : PV} : ∀ (n : Nat) {i : Nat}, i + n = x.length →
  rounds (fun vs => lo312_1.dv (Vl x :: vs)) [x1, Vi i] = some (if finR x n i then .y (.ext 0) [x1] else .y .ret []) := by
 intro n
 induction n with
 | zero =>
  intro i hi
  refine rounds_exit ?_ (by simp [finR])
  simp [lo312_1, TT.dv, show ¬ i < x.length by omega, finR]
 | succ n ih =>
  intro i hi
  have g1 := get_V (x := x) (i := i) (by omega)
  have f1 := finite_ok (el x i)
  unfold finR
  by_cases c : fPow (el x i) = 2047
  ·rw [if_pos c]
   refine rounds_exit ?_ (by simp)
   simp [lo312_1, TT.dv, show i < x.length by omega, g1, f1, c]
  ·rw [if_neg c]
   have e1 : (B.add .i64).den (Vi i) (Vi 1) = Vi (i + 1) := add_i (by omega) (by omega)
   refine Eq.trans (rounds_cont ?_) (ih (i := i + 1) (by omega))
   simp [lo312_1, TT.dv, show i < x.length by omega, g1, f1, c, e1]
theorem fin9_loop {x1 : PV} : ∀ (n : Nat) {i : Nat}, i + n = x.length →
  rounds (fun vs => lo155_1.dv (Vl x :: vs)) [x1, Vi i] = some (if finR x n i then .y (.ext 0) [x1] else .y .ret []) := by
 intro n
 induction n with
 | zero =>
  intro i hi
  refine rounds_exit ?_ (by simp [finR])
  simp [lo155_1, TT.dv, show ¬ i < x.length by omega, finR]
 | succ n ih =>
  intro i hi
  have g1 := get_V (x := x) (i := i) (by omega)
  have f1 := finite4_ok (hx.el i)
  have hp := fPow_lt (el x i)
  unfold finR
  by_cases c : fPow (el x i) = 2047
  ·rw [if_pos c]
   refine rounds_exit ?_ (by simp)
   simp [lo155_1, TT.dv, show i < x.length by omega, g1, f1, c]
  ·rw [if_neg c]
   have e1 : (B.add .i64).den (Vi i) (Vi 1) = Vi (i + 1) := add_i (by omega) (by omega)
   refine Eq.trans (rounds_cont ?_) (ih (i := i + 1) (by omega))
   simp [lo155_1, TT.dv, show i < x.length by omega, g1, f1, show fPow (el x i) < 2047 by omega, e1]
theorem finite_v_ok : val 312 [Vl x] = some [Vb (finV x)] := by
 refine val_of tab312 ?_
 have h := fin_loop hx h64 (x1 := Vb false) x.length (i := 0) (by omega)
 rw [show ((0 : Nat) : Int) = 0 from rfl] at h
 unfold finV
 cases hc : finR x x.length 0 <;> rw [hc] at h <;> simp [tr312, TT.dv, KS.dv, h]
theorem finite_9_ok : val 155 [Vl x] = some [Vb (finV x)] := by
 refine val_of tab155 ?_
 have h := fin9_loop hx h64 (x1 := Vb false) x.length (i := 0) (by omega)
 rw [show ((0 : Nat) : Int) = 0 from rfl] at h
 unfold finV
 cases hc : finR x x.length 0 <;> rw [hc] at h <;> simp [tr155, TT.dv, KS.dv, h]
end
def sqrR (x : List Nat) (k : Int) : Nat → Nat → Nat → Nat
 | 0, _, s => s
 | n + 1, i, s => sqrR x k n (i + 1) (addV s (mulV (scaleV (el x i) (-k)) (scaleV (el x i) (-k))))
theorem sqrR_lt {x : List Nat} {k : Int} : ∀ (n : Nat) {i s : Nat}, s < 18446744073709551616 → sqrR x k n i s < 18446744073709551616
 | 0, _, _, h => h
 | n + 1, i, s, h => sqrR_lt n (addV_lt h mulV_lt)
def sqrV (x : List Nat) (k : Int) : Nat := sqrR x k x.length 0 0
def normV (x : List Nat) : Nat := if bigV x = 0 ∨ fPow (bigV x) = 2047 then bigV x else scaleV (sqrtV (sqrV x (expB (bigV x)))) (expB (bigV x))
theorem expB_bd (b : Nat) : -1100 ≤ expB b ∧ expB b ≤ 1100 := by
 unfold expB
 split
 ·omega
 ·rename_i h
  have h1 := fPl_bd b
  have h2 : bl (fMag b) ≤ 53 := bl_lt.2 (fMag_lt b)
  have h3 : fPow b ≠ 2047 := by omega
  unfold fPl at *
  have h4 := fPow_lt b
  split <;> rename_i h5 <;> simp only [h5, if_true, if_false] at h1 <;> omega
section
variable {x : List Nat} (hx : Words x) (h64 : x.length < 9000000000000000000) {k : Int} (hk : -1100 ≤ k ∧ k ≤ 1100)
include hx h64 hk
theorem norm_loop {x1 x2 : PV} : ∀ (n : Nat) {i s : Nat}, i + n = x.length → s < 18446744073709551616 →
  rounds (fun vs => lo314_1.dv (Vl x :: x1 :: x2 :: Vi k :: vs)) [Vu s, Vi i] = some (.y (.ext 0) [Vu (sqrR x k n i s)]) := by
 intro n
 induction n with
 | zero =>
  intro i s hi hs
  refine rounds_exit ?_ (by simp)
  simp [lo314_1, TT.dv, show ¬ i < x.length by omega, sqrR]
 | succ n ih =>
  intro i s hi hs
  refine Eq.trans (rounds_cont ?_) (ih (i := i + 1) (s := addV s (mulV (scaleV (el x i) (-k)) (scaleV (el x i) (-k)))) (by omega) (addV_lt hs mulV_lt))
  have e1 : (B.add .i64).den (Vi i) (Vi 1) = Vi (i + 1) := add_i (by omega) (by omega)
  have e2 : (U.neg .i64).den (Vi k) = Vi (-k) := neg_i (by omega) (by omega)
  have g1 := get_V (x := x) (i := i) (by omega)
  have c0 := vshift_ok (el x i) (-k)
  have ht := scaleV_lt (hx.el i) (-k)
  have c1 := vmul_ok ht ht
  have c2 := vadd_ok hs (mulV_lt (a := scaleV (el x i) (-k)) (b := scaleV (el x i) (-k)))
  simp [lo314_1, TT.dv, show i < x.length by omega, e1, e2, g1, c0, c1, c2]
theorem norm9_loop {x1 x2 : PV} : ∀ (n : Nat) {i s : Nat}, i + n = x.length → s < 18446744073709551616 →
  rounds (fun vs => lo158_1.dv (Vl x :: x1 :: x2 :: Vi k :: vs)) [Vu s, Vi i] = some (.y (.ext 0) [Vu (sqrR x k n i s)]) := by
 intro n
 induction n with
 | zero =>
  intro i s hi hs
  refine rounds_exit ?_ (by simp)
  simp [lo158_1, TT.dv, show ¬ i < x.length by omega, sqrR]
 | succ n ih =>
  intro i s hi hs
  refine Eq.trans (rounds_cont ?_) (ih (i := i + 1) (s := addV s (mulV (scaleV (el x i) (-k)) (scaleV (el x i) (-k)))) (by omega) (addV_lt hs mulV_lt))
  have e1 : (B.add .i64).den (Vi i) (Vi 1) = Vi (i + 1) := add_i (by omega) (by omega)
  have e2 : (B.sub .i64).den (Vi 0) (Vi k) = Vi (-k) := by rw [sub_i (by omega) (by omega)]; exact congrArg Vi (by omega)
  have g1 := get_V (x := x) (i := i) (by omega)
  have c0 := shift9_ok (hx.el i) (k := -k) (by omega) (by omega)
  have ht := scaleV_lt (hx.el i) (-k)
  have c1 := mul9_ok ht ht
  have c2 := add9_ok hs (mulV_lt (a := scaleV (el x i) (-k)) (b := scaleV (el x i) (-k)))
  simp [lo158_1, TT.dv, show i < x.length by omega, e1, e2, g1, c0, c1, c2]
end
theorem norm_v_ok {x : List Nat} (hx : Words x) (h64 : x.length < 9000000000000000000) : val 314 [Vl x] = some (if x.length ≤ 64 then [Vu (normV x), Vi 0] else [Vu 0, Vi 3]) := by
 refine val_of tab314 ?_
 by_cases hl : x.length ≤ 64
 ·rw [if_pos hl]
  have hl' : ¬ 64 < (x.length : Int) := by omega
  have h1 := biggest_ok hx h64
  have f1 := finite_ok (bigV x)
  unfold normV
  by_cases c : bigV x = 0
  ·rw [if_pos (.inl c)]
   rw [c] at h1 ⊢
   simp [tr314, TT.dv, hl', h1]
  ·by_cases c2 : fPow (bigV x) = 2047
   ·rw [if_pos (.inr c2)]
    simp [tr314, TT.dv, hl', h1, c, f1, c2]
   ·rw [if_neg (by omega)]
    have e1 := exp_ok (b := bigV x)
    have hk := expB_bd (bigV x)
    have hlp := norm_loop hx h64 hk (x1 := Vu (bigV x)) (x2 := Vb true) x.length (i := 0) (s := 0) (by omega) (by decide)
    rw [show ((0 : Nat) : Int) = 0 from rfl] at hlp
    have s1 := vsqrt_ok (b := sqrV x (expB (bigV x))) (sqrR_lt _ (by decide))
    have s2 := vshift_ok (sqrtV (sqrV x (expB (bigV x)))) (expB (bigV x))
    rw [show sqrR x (expB (bigV x)) x.length 0 0 = sqrV x (expB (bigV x)) from rfl] at hlp
    simp [tr314, TT.dv, KS.dv, hl', h1, c, f1, c2, e1, hlp, s1, s2]
 ·rw [if_neg hl]
  have hl' : 64 < (x.length : Int) := by omega
  simp [tr314, TT.dv, hl']
theorem norm_9_ok {x : List Nat} (hx : Words x) (h64 : x.length < 9000000000000000000) : val 158 [Vl x] = some [Vu (normV x)] := by
 refine val_of tab158 ?_
 have h1 := biggest9_ok hx h64
 have hb := bigV_lt x
 have f1 := finite4_ok (b := bigV x) (by omega)
 have hp := fPow_lt (bigV x)
 unfold normV
 by_cases c : bigV x = 0
 ·rw [if_pos (.inl c)]
  rw [c] at h1 ⊢
  simp [tr158, TT.dv, h1]
 ·by_cases c2 : fPow (bigV x) = 2047
  ·rw [if_pos (.inr c2)]
   simp [tr158, TT.dv, h1, c, f1, c2]
  ·rw [if_neg (by omega)]
   have e1 := exp8_ok (b := bigV x) (by omega)
   have hk := expB_bd (bigV x)
   have hlp := norm9_loop hx h64 hk (x1 := Vu (bigV x)) (x2 := Vb true) x.length (i := 0) (s := 0) (by omega) (by decide)
   rw [show ((0 : Nat) : Int) = 0 from rfl] at hlp
   have s1 := sqrt9_ok (b := sqrV x (expB (bigV x))) (sqrR_lt _ (by decide))
   have s2 := shift9_ok (b := sqrtV (sqrV x (expB (bigV x)))) (sqrtV_lt (sqrR_lt _ (by decide))) (k := expB (bigV x)) (by omega) (by omega)
   rw [show sqrR x (expB (bigV x)) x.length 0 0 = sqrV x (expB (bigV x)) from rfl] at hlp
   simp [tr158, TT.dv, KS.dv, h1, c, f1, show fPow (bigV x) < 2047 by omega, e1, hlp, s1, s2]
def fnP (f : Nat) (caps : List PV) : PV := .fn f caps
theorem set_V (x : List Nat) (i v : Nat) : T3.set.den (Vl x) (Vi i) (Vu v) = Vl (x.set i v) := by
 rw [Vl, set_l _ rfl, Vl, List.map_set]
theorem Words.set {x : List Nat} (h : Words x) {i v : Nat} (hv : v < 18446744073709551616) : Words (x.set i v) := by
 intro a ha
 rcases List.mem_or_eq_of_mem_set ha with h1 | h1
 ·exact h a h1
 ·rw [h1]; exact hv
def mk (g : Nat → Nat) (n : Nat) : List Nat := (List.range n).map g
@[simp] theorem mk_len (g : Nat → Nat) (n : Nat) : (mk g n).length = n := by simp [mk]
theorem mk_succ (g : Nat → Nat) (n : Nat) : mk g n ++ [g n] = mk g (n + 1) := by simp [mk, List.range_succ]
theorem mk_words {g : Nat → Nat} {n : Nat} (h : ∀ i, i < n → g i < 18446744073709551616) : Words (mk g n) := by
 intro a ha
 obtain ⟨i, hi, rfl⟩ := List.mem_map.1 ha
 exact h i (by simpa using hi)
@[simp] theorem toA_V (l : List PV) : U.toA.den (.l l) = .a l := rfl
@[simp] theorem fld0_a (p : PV) (l : List PV) : (U.fld 0).den (.a (p :: l)) = p := rfl
theorem mkfn_l (f : Nat) (l : List PV) : (U.mkfn f).den (.l l) = fnP f l := rfl
section
variable {a : Nat} {x y : List Nat} (ha : a < 18446744073709551616) (hx : Words x) (hy : Words y) (hl : x.length = y.length) (h64 : x.length < 17592186044416)
include ha hx hy hl h64
end
section
variable {a : Nat} {x : List Nat} (ha : a < 18446744073709551616) (hx : Words x) (h64 : x.length < 17592186044416)
include ha hx h64
end
section
variable {f g : Nat} (hf : f < 18446744073709551616) (hg : g < 18446744073709551616)
include hf hg
end
def P2 (k : Int) : Rat := (2 : Rat) ^ k
theorem P2_add (a b : Int) : P2 (a + b) = P2 a * P2 b := Rat.zpow_add (by decide) a b
theorem P2_pos (k : Int) : 0 < P2 k := Rat.zpow_pos (by decide)
theorem P2_zero : P2 0 = 1 := Rat.zpow_zero 2
theorem P2_nat (n : Nat) : P2 n = ((2 ^ n : Nat) : Rat) := by
 unfold P2; rw [Rat.zpow_natCast, Rat.natCast_pow]; rfl
theorem P2_sub (a b : Int) : P2 (a - b) * P2 b = P2 a := by rw [← P2_add]; exact congrArg P2 (by omega)
theorem P2_mono {a b : Int} (h : a ≤ b) : P2 a ≤ P2 b := by
 have h1 : b = a + ((b - a).toNat : Nat) := by omega
 rw [h1, P2_add, P2_nat]
 have h2 : (1 : Rat) ≤ ((2 ^ (b - a).toNat : Nat) : Rat) := by
  have : 1 ≤ 2 ^ (b - a).toNat := Nat.two_pow_pos _
  exact_mod_cast this
 have := Rat.mul_le_mul_of_nonneg_left h2 (Rat.le_of_lt (P2_pos a))
 rwa [Rat.mul_one] at this
theorem P2_lt {a b : Int} (h : a < b) : P2 a < P2 b := by
 have h1 := P2_mono (a := a + 1) (b := b) (by omega)
 rw [P2_add] at h1
 have h2 : P2 1 = 2 := by rw [show (1 : Int) = ((1 : Nat) : Int) from rfl, P2_nat]; rfl
 have h3 := P2_pos a
 rw [h2] at h1
 grind
def D (n : Nat) (p : Int) : Rat := n * P2 p
theorem D_nonneg (n : Nat) (p : Int) : 0 ≤ D n p := Rat.mul_nonneg Rat.natCast_nonneg (Rat.le_of_lt (P2_pos p))
theorem D_scale (n : Nat) (p : Int) (j : Nat) : D (n * 2 ^ j) (p - j) = D n p := by
 unfold D
 rw [Rat.natCast_mul, ← P2_nat, Rat.mul_assoc, Rat.mul_comm (P2 j), P2_sub]
theorem D_le {n m : Nat} {p : Int} : D n p ≤ D m p ↔ n ≤ m := by
 unfold D
 constructor
 ·intro h; exact Rat.natCast_le_natCast.1 (Rat.le_of_mul_le_mul_right h (P2_pos p))
 ·intro h; exact Rat.mul_le_mul_of_nonneg_right (Rat.natCast_le_natCast.2 h) (Rat.le_of_lt (P2_pos p))
theorem D_zero (p : Int) : D 0 p = 0 := by unfold D; simp
theorem D_mul (m n : Nat) (p q : Int) : D m p * D n q = D (m * n) (p + q) := by
 unfold D; rw [Rat.natCast_mul, P2_add]; grind
theorem D_add (m n : Nat) (p : Int) : D m p + D n p = D (m + n) p := by
 unfold D; rw [Rat.natCast_add]; grind
theorem D_shift (n : Nat) (p q : Int) : D n p * P2 q = D n (p + q) := by unfold D; rw [P2_add, Rat.mul_assoc]
theorem D_one (p : Int) : D 1 p = P2 p := by unfold D; simp
theorem D_base (n : Nat) {p b : Int} (h : b ≤ p) : D n p = D (n * 2 ^ (p - b).toNat) b := by
 have := D_scale n p (p - b).toNat
 rw [show p - ((p - b).toNat : Int) = b by omega] at this
 exact this.symm
theorem nearR_base (n : Nat) {p b : Int} (h : b ≤ p) : nearR n p = nearR (n * 2 ^ (p - b).toNat) b := by
 have := (near_scale true n p (p - b).toNat).2.2
 rw [show p - ((p - b).toNat : Int) = b by omega] at this
 exact this.symm
theorem near_mono {n m : Nat} {p q : Int} (h : D n p ≤ D m q) : nearR n p ≤ nearR m q := by
 rw [nearR_base n (Int.min_le_left p q), nearR_base m (Int.min_le_right p q)]
 rw [D_base n (Int.min_le_left p q), D_base m (Int.min_le_right p q), D_le] at h
 exact nearR_mono _ h
def W (w : Nat) : Rat := D (fMag w) (fPl w)
theorem W_nonneg (w : Nat) : 0 ≤ W w := D_nonneg _ _
theorem W_mgv (w : Nat) : W w = D (mgv (w % 9223372036854775808)) (-1074) := by
 unfold W
 rw [D_base _ (fPl_bd w).1, ← mgv_val, show fPl w - -1074 = fPl w + 1074 by omega]
theorem W_le {a b : Nat} (ha : a < 9223372036854775808) (hb : b < 9223372036854775808) : W a ≤ W b ↔ a ≤ b := by
 rw [W_mgv, W_mgv, D_le, Nat.mod_eq_of_lt ha, Nat.mod_eq_of_lt hb]
 constructor
 ·intro h
  rcases Nat.lt_or_ge b a with h1 | h1
  ·have := mgv_mono h1; omega
  ·exact h1
 ·intro h
  rcases Nat.lt_or_eq_of_le h with h1 | h1
  ·exact Nat.le_of_lt (mgv_mono h1)
  ·rw [h1]; exact Nat.le_refl _
theorem W_abs (w : Nat) : W (absV w) = W w := by rw [W_mgv, W_mgv]; unfold absV; rw [Nat.mod_mod]
theorem near_W {w : Nat} (h : w < infR) : nearR (fMag w) (fPl w) = w := by
 have hp := fPl_bd w
 have hm := fMag_lt w
 have hk : two52 ≤ fMag w ∨ fPl w = -1074 := by
  unfold fMag fPl two52
  by_cases c : fPow w = 0
  ·right; rw [if_pos c]
  ·left; rw [if_neg c]; omega
 unfold nearR
 rw [rung_fits hp.1 (by unfold two52; omega) hk]
 unfold infR at h ⊢
 unfold fMag fPl two52 fPow fFrac
 split
 ·rename_i c; omega
 ·rename_i c; omega
theorem near_le {n w : Nat} {p : Int} (hw : w < infR) (h : D n p ≤ W w) : nearR n p ≤ w := by
 have := near_mono h
 rwa [near_W hw] at this
theorem near_ge {n w : Nat} {p : Int} (hw : w < infR) (h : W w ≤ D n p) : w ≤ nearR n p := by
 have := near_mono h
 rwa [near_W hw] at this
theorem near_fin {n : Nat} {p : Int} (h : D n p ≤ P2 1023) : nearR n p < infR := by
 have h1 := near_le (n := n) (p := p) (w := 9214364837600034816) (by decide) (by
  refine Rat.le_trans h ?_
  unfold W
  rw [show fMag 9214364837600034816 = 2 ^ 52 from by decide, show fPl 9214364837600034816 = 971 from by decide, ← D_one 1023, D_base 1 (b := 971) (by omega)]
  exact Rat.le_refl)
 exact Nat.lt_of_le_of_lt h1 (by decide)
theorem near_half_ulp {n : Nat} {p : Int} (h0 : n ≠ 0) (h : nearR n p < infR) : 2 * W (nearR n p) ≤ 2 * D n p + P2 (lastP n p) ∧ 2 * D n p ≤ 2 * W (nearR n p) + P2 (lastP n p) := by
 have hL : -1074 ≤ lastP n p := by unfold lastP; omega
 obtain ⟨kb1, kb2⟩ := kept_bounds (n := n) (p := p) h0
 have hr : rung n p = (lastP n p + 1074).toNat * two52 + RHE (n * 2 ^ (p - lastP n p).toNat) (lastP n p - p).toNat := by unfold rung; rw [if_neg h0]
 have hR : nearR n p = rung n p := by unfold nearR at h ⊢; omega
 generalize hK : RHE (n * 2 ^ (p - lastP n p).toNat) (lastP n p - p).toNat = K at *
 have hW : W (nearR n p) = D K (lastP n p) := by
  rw [W_mgv]
  have hlt : nearR n p < 9223372036854775808 := by unfold infR at h; omega
  rw [Nat.mod_eq_of_lt hlt, D_base K hL]
  refine congrArg (D · _) ?_
  rw [hR, hr] at *
  generalize lastP n p = L at *
  rw [show L - -1074 = L + 1074 by omega]
  unfold infR at h
  unfold two52 at *
  rcases Nat.lt_or_ge K 4503599627370496 with h1 | h1
  ·have hL0 : L = -1074 := by omega
   subst hL0
   unfold mgv
   rw [if_pos (by omega)]; simp
  ·generalize hT : (L + 1074).toNat = T at *
   rcases Nat.lt_or_ge K 9007199254740992 with h2 | h2
   ·unfold mgv
    rw [if_neg (by omega), show (T * 4503599627370496 + K) % 4503599627370496 = K - 4503599627370496 by omega, show (T * 4503599627370496 + K) / 4503599627370496 - 1 = T by omega, Nat.sub_add_cancel h1]
   ·have : K = 9007199254740992 := by omega
    subst this
    unfold mgv
    rw [if_neg (by omega), show (T * 4503599627370496 + 9007199254740992) % 4503599627370496 = 0 by omega, show (T * 4503599627370496 + 9007199254740992) / 4503599627370496 - 1 = T + 1 by omega, Nat.pow_succ]
    omega
 rw [hW]
 obtain ⟨n1, n2⟩ := RHE_near (n * 2 ^ (p - lastP n p).toNat) (lastP n p - p).toNat
 rw [hK] at n1 n2
 have hb1 : D n p = D (n * 2 ^ (p - lastP n p).toNat) (lastP n p - (lastP n p - p).toNat) := by
  rcases Int.le_total p (lastP n p) with hle | hle
  ·rw [show (p - lastP n p).toNat = 0 by omega, Nat.pow_zero, Nat.mul_one]; exact congrArg (D n) (by omega)
  ·rw [D_base n hle]; exact congrArg (D _) (by omega)
 have hb2 : D K (lastP n p) = D (K * 2 ^ (lastP n p - p).toNat) (lastP n p - (lastP n p - p).toNat) := (D_scale K (lastP n p) (lastP n p - p).toNat).symm
 have hb3 : P2 (lastP n p) = D (2 ^ (lastP n p - p).toNat) (lastP n p - (lastP n p - p).toNat) := by
  have := D_scale 1 (lastP n p) (lastP n p - p).toNat
  rw [Nat.one_mul] at this
  rw [this, D_one]
 rw [hb1, hb2, hb3]
 generalize lastP n p - ((lastP n p - p).toNat : Int) = b
 have two : ∀ m, 2 * D m b = D (2 * m) b := fun m => by unfold D; rw [Rat.natCast_mul, Rat.mul_assoc]; rfl
 rw [two, two, D_add, D_add, D_le, D_le]
 exact ⟨n1, n2⟩
theorem lastP_le {n : Nat} {p : Int} (h0 : n ≠ 0) : P2 (lastP n p) ≤ D n p * P2 (-52) + P2 (-1074) := by
 unfold lastP
 rcases Int.le_total (p + n.log2 - 52) (-1074) with h | h
 ·rw [Int.max_eq_right h]
  have := Rat.mul_nonneg (D_nonneg n p) (Rat.le_of_lt (P2_pos (-52)))
  grind
 ·rw [Int.max_eq_left h]
  have h1 : P2 (p + n.log2) ≤ D n p := by
   unfold D
   rw [Int.add_comm, P2_add, P2_nat]
   exact Rat.mul_le_mul_of_nonneg_right (Rat.natCast_le_natCast.2 (Nat.log2_self_le h0)) (Rat.le_of_lt (P2_pos p))
  have h2 := Rat.mul_le_mul_of_nonneg_right h1 (Rat.le_of_lt (P2_pos (-52)))
  rw [← P2_add, show p + (n.log2 : Int) + -52 = p + n.log2 - 52 by omega] at h2
  have := P2_pos (-1074)
  grind
theorem near_err {n : Nat} {p : Int} (h : nearR n p < infR) : W (nearR n p) ≤ D n p + D n p * P2 (-53) + P2 (-1075) ∧ D n p ≤ W (nearR n p) + D n p * P2 (-53) + P2 (-1075) := by
 have e1 : P2 (-52) = 2 * P2 (-53) := by
  rw [show (-52 : Int) = ((1 : Nat) : Int) + -53 by omega, P2_add, P2_nat]; rfl
 have e2 : P2 (-1074) = 2 * P2 (-1075) := by
  rw [show (-1074 : Int) = ((1 : Nat) : Int) + -1075 by omega, P2_add, P2_nat]; rfl
 by_cases h0 : n = 0
 ·subst h0
  rw [D_zero]
  have : nearR 0 p = 0 := by unfold nearR; rw [rung_zero]; rfl
  rw [this]
  have hW0 : W 0 = 0 := by unfold W; rw [show fMag 0 = 0 from by decide, D_zero]
  have := P2_pos (-1075)
  rw [hW0]
  grind
 ·obtain ⟨a1, a2⟩ := near_half_ulp h0 h
  have a3 := lastP_le (p := p) h0
  rw [e1, e2] at a3
  grind
theorem word_sgn {b : Nat} (hb : b < 18446744073709551616) : b = sgn (fNeg b) (absV b) := by
 unfold sgn fNeg absV
 rcases (show b / 9223372036854775808 = 0 ∨ b / 9223372036854775808 = 1 by omega) with h3 | h3 <;> simp [h3] <;> omega
theorem fin_abs {b : Nat} (h : fPow b ≠ 2047) : absV b < infR := by
 unfold absV infR; unfold fPow at h; omega
theorem abs_fin {b : Nat} (h : absV b < infR) : fPow b ≠ 2047 := by
 unfold absV infR at h; unfold fPow; omega
theorem fields_abs (b : Nat) : fMag (absV b) = fMag b ∧ fPl (absV b) = fPl b ∧ fPow (absV b) = fPow b ∧ fNeg (absV b) = false := by
 have h1 : fPow (absV b) = fPow b := by unfold fPow absV; omega
 have h2 : fFrac (absV b) = fFrac b := by unfold fFrac absV; omega
 refine ⟨by unfold fMag; rw [h1, h2], by unfold fPl; rw [h1], h1, by unfold fNeg absV; simp⟩
theorem absV_sgn (s : Bool) {r : Nat} (h : r ≤ infR) : absV (sgn s r) = r := (sgn_fields s h).2.2.2.1
theorem absV_near (s : Bool) (n : Nat) (p : Int) : absV (nearV s n p) = nearR n p := absV_sgn s (nearR_le n p)
theorem fin_near {s : Bool} {n : Nat} {p : Int} (h : nearR n p < infR) : fPow (nearV s n p) ≠ 2047 := abs_fin (by rw [absV_near]; exact h)
theorem fin_nan {b : Nat} (h : fPow b ≠ 2047) : ¬ nanB b := by unfold nanB; omega
theorem fin_inf {b : Nat} (h : fPow b ≠ 2047) : ¬ infB b := by unfold infB; omega
theorem mulV_fin {a b : Nat} (ha : fPow a ≠ 2047) (hb : fPow b ≠ 2047) : mulV a b = nearV (fNeg a != fNeg b) (fMag a * fMag b) (fPl a + fPl b) := by
 unfold mulV
 rw [if_neg (by simp [fin_nan ha, fin_nan hb]), if_neg (by simp [fin_inf ha, fin_inf hb])]
 split
 ·rename_i h
  have : fMag a * fMag b = 0 := by rcases h with h | h <;> rw [h.1] <;> simp
  rw [this, nearV_zero]
 ·rfl
theorem addV_fin {a b : Nat} (ha : fPow a ≠ 2047) (hb : fPow b ≠ 2047) : addV a b = sumV (fNeg a) (fNeg b) (fMag a) (fMag b) (fPl a) (fPl b) := by
 unfold addV
 rw [if_neg (by simp [fin_nan ha, fin_nan hb]), if_neg (fin_inf ha), if_neg (fin_inf hb)]
theorem scaleV_fin {b : Nat} (hb : b < 18446744073709551616) (h : fPow b ≠ 2047) (k : Int) : scaleV b k = nearV (fNeg b) (fMag b) (fPl b + clamp k) := by
 unfold scaleV
 rw [if_neg (fin_nan h)]
 split
 ·rename_i h2
  have hz : fMag b = 0 := by omega
  rw [hz, nearV_zero]
  exact zero_word hb ⟨hz, ((mag_zero b).1 hz).1⟩
 ·rfl
theorem add_pos {a b : Nat} (ha : a < infR) (hb : b < infR) : ∃ N p, addV a b = nearR N p ∧ D N p = W a + W b := by
 have fa : fPow a ≠ 2047 := abs_fin (by unfold absV; unfold infR at ha ⊢; omega)
 have fb : fPow b ≠ 2047 := abs_fin (by unfold absV; unfold infR at hb ⊢; omega)
 have na : fNeg a = false := by unfold fNeg; unfold infR at ha; simp; omega
 have nb : fNeg b = false := by unfold fNeg; unfold infR at hb; simp; omega
 refine ⟨fMag a * 2 ^ (fPl a - min (fPl a) (fPl b)).toNat + fMag b * 2 ^ (fPl b - min (fPl a) (fPl b)).toNat, min (fPl a) (fPl b), ?_, ?_⟩
 ·rw [addV_fin fa fb, na, nb]
  unfold sumV
  rw [sg_shift, sg_shift]
  unfold sg
  simp only [Bool.false_eq_true, if_false, Bool.and_self]
  rw [← Int.natCast_add, Int.natAbs_natCast]
  split
  ·rfl
  ·rw [decide_eq_false (by omega)]; rfl
 ·rw [← D_add, ← D_base _ (Int.min_le_left _ _), ← D_base _ (Int.min_le_right _ _)]; rfl
theorem add_ge {a b : Nat} (ha : a < infR) (hb : b < infR) : a ≤ addV a b ∧ b ≤ addV a b ∧ addV a b ≤ infR := by
 obtain ⟨N, p, h1, h2⟩ := add_pos ha hb
 have h3 := W_nonneg a
 have h4 := W_nonneg b
 rw [h1]
 exact ⟨near_ge ha (by grind), near_ge hb (by grind), nearR_le _ _⟩
theorem expB_W {b : Nat} (h : fPow b ≠ 2047) (h0 : fMag b ≠ 0) : P2 (expB b) ≤ W b ∧ W b < P2 (expB b + 1) := by
 have he : expB b = (fMag b).log2 + fPl b := by
  unfold expB; rw [if_neg (by omega), log2_bl h0]; omega
 rw [he]
 unfold W D
 constructor
 ·rw [P2_add, P2_nat]
  exact Rat.mul_le_mul_of_nonneg_right (Rat.natCast_le_natCast.2 (Nat.log2_self_le h0)) (Rat.le_of_lt (P2_pos _))
 ·rw [show ((fMag b).log2 : Int) + fPl b + 1 = (((fMag b).log2 + 1 : Nat) : Int) + fPl b by omega, P2_add, P2_nat]
  exact Rat.mul_lt_mul_of_pos_right (Rat.natCast_lt_natCast.2 Nat.lt_log2_self) (P2_pos _)
theorem W_exact {n : Nat} {p : Int} (h0 : n ≠ 0) (hx : exq n p = true) (hf : nearR n p < infR) : W (nearR n p) = D n p := by
 obtain ⟨q, _, h2, _, h4⟩ := near_exact false h0 hx hf
 rw [show nearV false n p = nearR n p from rfl] at h2 h4
 unfold W
 rw [h2]
 have := h4 (min (fPl (nearR n p)) p) (Int.min_le_left _ _) (Int.min_le_right _ _)
 rw [D_base q (Int.min_le_left (fPl (nearR n p)) p), this, ← D_base n (Int.min_le_right (fPl (nearR n p)) p)]
theorem W_int {c : Nat} (h : c < 9007199254740992) : nearR c 0 < infR ∧ W (nearR c 0) = c := by
 have hf : nearR c 0 < infR := near_fin (by
  unfold D
  rw [P2_zero, Rat.mul_one]
  have h1 : (c : Rat) ≤ ((2 ^ 53 : Nat) : Rat) := Rat.natCast_le_natCast.2 (Nat.le_of_lt h)
  rw [← P2_nat] at h1
  exact Rat.le_trans h1 (P2_mono (by omega)))
 refine ⟨hf, ?_⟩
 by_cases h0 : c = 0
 ·subst h0
  have : nearR 0 0 = 0 := by decide
  rw [this]; unfold W; rw [show fMag 0 = 0 from by decide, D_zero]; rfl
 ·have hl : c.log2 < 53 := (Nat.log2_lt h0).2 h
  have hx : exq c 0 = true := by
   unfold exq lastP
   rw [show (max ((0 : Int) + c.log2 - 52) (-1074) - 0).toNat = 0 by omega]; simp [Nat.mod_one]
  rw [W_exact h0 hx hf]
  unfold D
  rw [P2_zero, Rat.mul_one]
theorem exq_scaled {b : Nat} {e : Int} (h1 : fPow b ≠ 0) (h2 : -1074 ≤ e) : exq (fMag b) e = true := by
 have hm : two52 ≤ fMag b := by unfold fMag two52; rw [if_neg h1]; omega
 unfold exq lastP
 rw [log2_of hm (fMag_lt b), show (max (e + ((52 : Nat) : Int) - 52) (-1074) - e).toNat = 0 by omega]; simp [Nat.mod_one]
theorem expB_normal {b : Nat} (h1 : fPow b ≠ 0) (h2 : fPow b ≠ 2047) : expB b = fPl b + 52 := by
 have hm : two52 ≤ fMag b := by unfold fMag two52; rw [if_neg h1]; omega
 have h0 : fMag b ≠ 0 := by unfold two52 at hm; omega
 unfold expB
 rw [if_neg (by omega), log2_bl h0, log2_of hm (fMag_lt b)]; omega
theorem bigR_mem {x : List Nat} : ∀ (n : Nat) {i m : Nat}, (∀ j, i ≤ j → j < i + n → ¬ nanB (el x j)) →
  m ≤ bigR x n i m ∧ (∀ j, i ≤ j → j < i + n → absV (el x j) ≤ bigR x n i m) ∧ (bigR x n i m = m ∨ ∃ j, i ≤ j ∧ j < i + n ∧ absV (el x j) = bigR x n i m)
 | 0, i, m, _ => ⟨Nat.le_refl _, fun j h1 h2 => by omega, .inl rfl⟩
 | n + 1, i, m, h => by
  unfold bigR
  rw [if_neg (h i (Nat.le_refl _) (by omega))]
  obtain ⟨h1, h2, h3⟩ := bigR_mem n (i := i + 1) (m := max m (absV (el x i))) (fun j hj hj2 => h j (by omega) (by omega))
  refine ⟨by omega, fun j hj hj2 => ?_, ?_⟩
  ·rcases Nat.eq_or_lt_of_le hj with he | he
   ·subst he; omega
   ·exact h2 j (by omega) (by omega)
  ·rcases h3 with h3 | ⟨j, j1, j2, j3⟩
   ·rcases Nat.le_total m (absV (el x i)) with hc | hc
    ·exact .inr ⟨i, Nat.le_refl _, by omega, by omega⟩
    ·exact .inl (by omega)
   ·exact .inr ⟨j, by omega, by omega, j3⟩
theorem log2_sq {m : Nat} (h1 : two52 ≤ m) (h2 : m < 9007199254740992) : ((m * m).log2 = 104 ∨ ((m * m).log2 = 105 ∧ two52 < m)) ∧ m * m ≠ 0 := by
 have hl : 4503599627370496 * 4503599627370496 ≤ m * m := Nat.mul_le_mul h1 h1
 have hu : m * m < 9007199254740992 * 9007199254740992 := Nat.mul_lt_mul'' h2 h2
 have h0 : m * m ≠ 0 := by omega
 refine ⟨?_, h0⟩
 have b1 : ¬ (m * m).log2 < 104 := fun h => by rw [Nat.log2_lt h0] at h; omega
 have b2 : (m * m).log2 < 106 := by rw [Nat.log2_lt h0]; omega
 by_cases h : (m * m).log2 = 104
 ·exact .inl h
 ·right
  refine ⟨by omega, ?_⟩
  by_cases he : m = two52
  ·exfalso; apply h
   rw [he]; decide
  ·omega
theorem z_facts {e : Int} {d : Nat} (he : -480 ≤ e) (he2 : e ≤ 330) (hd2 : d = 52 ∨ d = 53) : e + e ≤ e + e + (d : Int) ∧ (e + e + (d : Int) - (e + e)).toNat = d ∧ e + e ≤ e + e + (d : Int) + 1 ∧ (e + e + (d : Int) + 1 - (e + e)).toNat = 1 + d ∧ -1074 ≤ e + e + (d : Int) ∧ e + e + (d : Int) ≤ 900 ∧ e + e + (d : Int) + 1 ≤ 900 ∧ -1074 ≤ e + e + (d : Int) + 1 ∧ e + e + (d : Int) ≤ 971 ∧ e + e + (d : Int) + 1 ≤ 971 ∧ (e + e + (d : Int) + 1 + 1074).toNat = (e + e + d + 1074).toNat + 1 ∧ -1074 ≤ e ∧ e ≤ 900 := by
 refine ⟨?_, ?_, ?_, ?_, ?_, ?_, ?_, ?_, ?_, ?_, ?_, ?_, ?_⟩ <;> omega
theorem K_eq {K : Nat} (h : K ≤ 2 * two52) (h' : ¬ K < 9007199254740992) : K = 2 * two52 := by unfold two52 at *; omega
theorem pl_fact {e f : Int} (h : e + e ≤ f) : f - (((f - (e + e)).toNat + 120 : Nat) : Int) = 2 * (e - 60) := by omega
theorem squares_back {m : Nat} {e : Int} (h1 : two52 ≤ m) (h2 : m < 9007199254740992) (he : -480 ≤ e) (he2 : e ≤ 330) :
  ∃ q : Nat, ∃ f : Int, fMag (nearV false (m * m) (e + e)) = q ∧ fPl (nearV false (m * m) (e + e)) = f ∧ fPow (nearV false (m * m) (e + e)) ≠ 2047 ∧ q ≠ 0 ∧ nearR (sqN q f) (sqP f) = (e + 1074).toNat * two52 + m := by
 obtain ⟨hlog, h0⟩ := log2_sq h1 h2
 obtain ⟨d, hd, hd2⟩ : ∃ d : Nat, d = (m * m).log2 - 52 ∧ (d = 52 ∨ d = 53) := ⟨_, rfl, by omega⟩
 have hlast : lastP (m * m) (e + e) = e + e + d := by unfold lastP; omega
 obtain ⟨kb1, kb2⟩ := kept_bounds (n := m * m) (p := e + e) h0
 have hK : RHE (m * m * 2 ^ (e + e - lastP (m * m) (e + e)).toNat) (lastP (m * m) (e + e) - (e + e)).toNat = RHE (m * m) d := by
  rw [hlast, show (e + e - (e + e + d)).toNat = 0 by omega, Nat.pow_zero, Nat.mul_one, show (e + e + (d : Int) - (e + e)).toNat = d by omega]
 rw [hK] at kb1 kb2
 have kb2 := kb2 (by omega)
 have hrung : rung (m * m) (e + e) = (e + e + d + 1074).toNat * two52 + RHE (m * m) d := by
  unfold rung; rw [if_neg h0, hK, hlast]
 obtain ⟨n1, n2⟩ := RHE_near (m * m) d
 have hex : m = two52 → RHE (m * m) d * 2 ^ d = m * m := fun hm => by
  have : d = 52 := by omega
  rw [this, hm]; decide
 have hpd : (d = 52 → 2 ^ d = 4503599627370496) ∧ (d = 53 → 2 ^ d = 9007199254740992) := ⟨fun h => by rw [h], fun h => by rw [h]⟩
 have hlo : 4 * (m * m) + 1 < 4 * (RHE (m * m) d * 2 ^ d) + 4 * m := by
  unfold two52 at *
  rcases hd2 with h | h
  ·have := hpd.1 h; omega
  ·have := hpd.2 h; omega
 have hhi : 4 * (RHE (m * m) d * 2 ^ d) < 4 * (m * m) + 4 * m + 1 := by
  unfold two52 at *
  rcases hd2 with h | h
  ·have := hpd.1 h; omega
  ·have := hpd.2 h; omega
 clear n1 n2
 generalize RHE (m * m) d = K at *
 obtain ⟨z1, z2, z3, z4, z5, z6, z7, z8, z9, z10, z11, z12, z13⟩ := z_facts he he2 hd2
 obtain ⟨q, f, g1, g2, g3, g4, g5⟩ : ∃ q : Nat, ∃ f : Int, fMag (nearV false (m * m) (e + e)) = q ∧ fPl (nearV false (m * m) (e + e)) = f ∧ fPow (nearV false (m * m) (e + e)) ≠ 2047 ∧ e + e ≤ f ∧ q * 2 ^ (f - (e + e)).toNat = K * 2 ^ d := by
  clear hlo hhi hex hpd hK hlast hlog
  by_cases hc : K < 9007199254740992
  ·have hR : nearR (m * m) (e + e) = (e + e + d + 1074).toNat * two52 + K := by
    unfold nearR; rw [hrung]; exact min_inf z6 hc
   obtain ⟨r1, r2, r3⟩ := read_fits (q := K) (e := e + e + d) false z5 z9 hc (.inl kb2)
   have hv : nearV false (m * m) (e + e) = sgn false ((e + e + d + 1074).toNat * two52 + K) := by unfold nearV; rw [hR]
   rw [hv]
   exact ⟨_, _, r1, r2, r3, z1, by rw [z2]⟩
  ·have hKe : K = 2 * two52 := K_eq kb1 hc
   have h52 : (e + e + d + 1074).toNat * two52 + K = (e + e + d + 1 + 1074).toNat * two52 + two52 := by
    rw [hKe, z11, Nat.add_mul, Nat.one_mul, Nat.two_mul, Nat.add_assoc]
   have hR : nearR (m * m) (e + e) = (e + e + d + 1 + 1074).toNat * two52 + two52 := by
    unfold nearR; rw [hrung, h52]; exact min_inf z7 (by decide)
   obtain ⟨r1, r2, r3⟩ := read_fits (q := two52) (e := e + e + d + 1) false z8 z10 (by decide) (.inl (Nat.le_refl _))
   have hv : nearV false (m * m) (e + e) = sgn false ((e + e + d + 1 + 1074).toNat * two52 + two52) := by unfold nearV; rw [hR]
   rw [hv]
   refine ⟨_, _, r1, r2, r3, z3, ?_⟩
   rw [z4, hKe, Nat.pow_add, ← Nat.mul_assoc, Nat.pow_one, Nat.mul_comm two52 2]
 have hq0 : q ≠ 0 := fun h => by
  rw [h, Nat.zero_mul] at g5
  have := Nat.mul_ne_zero (show K ≠ 0 by unfold two52 at kb2; omega) (Nat.ne_of_gt (Nat.two_pow_pos d))
  omega
 refine ⟨q, f, g1, g2, g3, hq0, ?_⟩
 have hN : q * 2 ^ ((f - (e + e)).toNat + 120) = K * 2 ^ d * 4 ^ 60 := by
  rw [Nat.pow_add, ← Nat.mul_assoc, g5]
 have hroot := isq_ok (q * 2 ^ ((f - (e + e)).toNat + 120))
 have hbig : 9007199254740992 ≤ isq (q * 2 ^ ((f - (e + e)).toNat + 120)) := root_ge hroot (by
  have a1 : 2 ^ 110 ≤ 2 ^ ((f - (e + e)).toNat + 120) := Nat.pow_le_pow_right (by decide) (Nat.le_trans (by decide : 110 ≤ 120) (Nat.le_add_left _ _))
  have a2 := Nat.mul_le_mul (show 1 ≤ q from Nat.pos_of_ne_zero hq0) a1
  have a3 : (9007199254740992 : Nat) * 9007199254740992 ≤ 2 ^ 110 := by decide
  rw [Nat.one_mul] at a2
  exact Nat.le_trans a3 a2)
 have hany := sq_any (m := q) (s := (f - (e + e)).toNat + 120) (e := f) (p := e - 60) hq0 (pl_fact g4) hroot hbig
 rw [← hany.1]
 generalize isq (q * 2 ^ ((f - (e + e)).toNat + 120)) = w at *
 rw [hN] at hroot ⊢
 exact root_about (t := 60) h1 h2 z12 z13 (.inl hlo) hhi hex (by decide) hroot
def DV (x e : Int) : Rat := (x : Rat) * P2 e
theorem P2_int (n : Nat) : P2 n = (((2 : Int) ^ n : Int) : Rat) := by
 rw [P2_nat, Rat.natCast_pow, Rat.intCast_pow]; rfl
theorem DV_at (x : Int) {e l : Int} (h : l ≤ e) : DV (x * 2 ^ (e - l).toNat) l = DV x e := by
 unfold DV
 rw [Rat.intCast_mul, ← P2_int, Rat.mul_assoc, ← P2_add]
 exact congrArg _ (congrArg P2 (by omega))
theorem DV_le {x y l : Int} : DV x l ≤ DV y l ↔ x ≤ y := by
 unfold DV
 constructor
 ·intro h; exact Rat.intCast_le_intCast.1 (Rat.le_of_mul_le_mul_right h (P2_pos l))
 ·intro h; exact Rat.mul_le_mul_of_nonneg_right (Rat.intCast_le_intCast.2 h) (Rat.le_of_lt (P2_pos l))
theorem DV_dadd (x e y f : Int) : DV (dadd x e y f) (min e f) = DV x e + DV y f := by
 rw [← DV_at x (Int.min_le_left e f), ← DV_at y (Int.min_le_right e f)]
 unfold dadd DV
 rw [Rat.intCast_add]; grind
theorem DV_mul (x e y f : Int) : DV (x * y) (e + f) = DV x e * DV y f := by
 unfold DV; rw [Rat.intCast_mul, P2_add]; grind
theorem DV_scale (x e k : Int) : DV x (e + k) = DV x e * P2 k := by unfold DV; rw [P2_add]; grind
theorem dcmp_le (x e y f : Int) : dcmp x e y f ≤ 0 ↔ DV x e ≤ DV y f := by
 rw [← DV_at x (Int.min_le_left e f), ← DV_at y (Int.min_le_right e f), DV_le]
 unfold dcmp cmp3
 split
 ·omega
 ·split <;> omega
theorem DV_sx {b : Nat} (h : fNeg b = false) : DV (sx b) (fPl b) = W b := by
 unfold DV sx sg W D; rw [h]; simp only [Bool.false_eq_true, if_false]; rw [Rat.intCast_natCast]
theorem od_sign (x : Int) : od x < 0 ↔ x < 0 := by
 have h := od_mul x
 have hp : (0 : Int) < 2 ^ tz x.natAbs := Int.pow_pos (by omega)
 generalize od x = o at *
 generalize (2 : Int) ^ tz x.natAbs = z at *
 constructor
 ·intro h1
  rw [← h]
  exact Int.mul_neg_of_neg_of_pos h1 hp
 ·intro h1
  rcases Int.lt_or_le o 0 with h2 | h2
  ·exact h2
  ·have := Int.mul_nonneg h2 (Int.le_of_lt hp); omega
theorem dS_ok (x e : Int) : dS x e = Vb (decide (x < 0)) := by unfold dS bS; rw [Bo_inj, decide_eq_decide]; exact od_sign x
def TameP (x : List Nat) (K : Int) : Prop := ∀ i, i < x.length → fPow (el x i) ≠ 2047 ∧ (fMag (el x i) = 0 ∨ (-K ≤ expB (el x i) ∧ expB (el x i) < K))
section
variable {x : List Nat} (hx : Words x) (h64 : x.length < 9000000000000000000) {K : Int} (hK : 0 ≤ K ∧ K ≤ 100000)
include hx h64 hK
theorem tame_loop {x2 : PV} : ∀ (n : Nat) {i : Nat}, i + n = x.length →
  (rounds (fun vs => lo164_1.dv (Vl x :: Vi K :: vs)) [x2, Vi i] = some (.y .ret [])) ∨
  (rounds (fun vs => lo164_1.dv (Vl x :: Vi K :: vs)) [x2, Vi i] = some (.y (.ext 0) [x2]) ∧ ∀ j, i ≤ j → j < x.length → fPow (el x j) ≠ 2047 ∧ (fMag (el x j) = 0 ∨ (-K ≤ expB (el x j) ∧ expB (el x j) < K))) := by
 intro n
 induction n with
 | zero =>
  intro i hi
  refine .inr ⟨rounds_exit ?_ (by simp), fun j h1 h2 => by omega⟩
  simp [lo164_1, TT.dv, show ¬ i < x.length by omega]
 | succ n ih =>
  intro i hi
  have g1 := get_V (x := x) (i := i) (by omega)
  have f1 := finite4_ok (hx.el i)
  have k1 := kind4_ok (hx.el i)
  have e1 := exp8_ok (hx.el i)
  have hlt : i < x.length := by omega
  have s1 : (B.sub .i64).den (Vi 0) (Vi K) = Vi (-K) := by rw [sub_i (by omega) (by omega)]; exact congrArg Vi (by omega)
  have e2 : (B.add .i64).den (Vi i) (Vi 1) = Vi (i + 1) := add_i (by omega) (by omega)
  have hp := fPow_lt (el x i)
  by_cases c1 : fPow (el x i) = 2047
  ·refine .inl (rounds_exit ?_ (by simp))
   simp [lo164_1, TT.dv, hlt, g1, f1, c1]
  ·have c1' : fPow (el x i) < 2047 := by omega
   have goon : (fMag (el x i) = 0 ∨ (-K ≤ expB (el x i) ∧ expB (el x i) < K)) → rounds (fun vs => lo164_1.dv (Vl x :: Vi K :: vs)) [x2, Vi i] = rounds (fun vs => lo164_1.dv (Vl x :: Vi K :: vs)) [x2, Vi ((i + 1 : Nat) : Int)] := fun hg => by
    refine rounds_cont ?_
    by_cases z : fMag (el x i) = 0
    ·rw [(kind_zero _).2 ((mag_zero _).1 z)] at k1
     simp [lo164_1, TT.dv, hlt, g1, f1, c1', k1, e2]
    ·have z' : ¬ fKind (el x i) = 0 := fun h => z ((mag_zero _).2 ((kind_zero _).1 h))
     have h2 : -K ≤ expB (el x i) ∧ expB (el x i) < K := hg.resolve_left z
     simp [lo164_1, TT.dv, hlt, g1, f1, c1', k1, z', e1, s1, e2, show ¬ expB (el x i) < -K by omega, show ¬ K ≤ expB (el x i) by omega]
   by_cases hg : fMag (el x i) = 0 ∨ (-K ≤ expB (el x i) ∧ expB (el x i) < K)
   ·rcases ih (i := i + 1) (by omega) with h | ⟨h, h'⟩
    ·exact .inl ((goon hg).trans h)
    ·refine .inr ⟨(goon hg).trans h, fun j h1 h2 => ?_⟩
     rcases Nat.eq_or_lt_of_le h1 with he | he
     ·subst he; exact ⟨c1, hg⟩
     ·exact h' j (by omega) h2
   ·refine .inl (rounds_exit ?_ (by simp))
    have z : ¬ fMag (el x i) = 0 := fun h => hg (.inl h)
    have z' : ¬ fKind (el x i) = 0 := fun h => z ((mag_zero _).2 ((kind_zero _).1 h))
    by_cases c2 : expB (el x i) < -K
    ·simp [lo164_1, TT.dv, hlt, g1, f1, c1', k1, z', e1, s1, c2]
    ·have c3 : K ≤ expB (el x i) := by omega
     simp [lo164_1, TT.dv, hlt, g1, f1, c1', k1, z', e1, s1, c2, c3]
theorem tame_ok : ∃ b, val 164 [Vl x, Vi K] = some [Vb b] ∧ (b = true → TameP x K) := by
 have h := tame_loop hx h64 hK (x2 := Vb false) x.length (i := 0) (by omega)
 rw [show ((0 : Nat) : Int) = 0 from rfl] at h
 rcases h with h | ⟨h, h'⟩
 ·refine ⟨false, val_of tab164 ?_, fun h => by cases h⟩
  simp [tr164, TT.dv, KS.dv, h]
 ·refine ⟨true, val_of tab164 ?_, fun _ i hi => h' i (Nat.zero_le _) hi⟩
  simp [tr164, TT.dv, KS.dv, h]
end
theorem normal_of_exp {b : Nat} (h : fPow b ≠ 2047) (h0 : fMag b ≠ 0) (he : -1022 ≤ expB b) : fPow b ≠ 0 := by
 intro hp
 have hl : (fMag b).log2 < 52 := by
  rw [Nat.log2_lt h0]; unfold fMag; rw [if_pos hp]; exact fFrac_lt b
 unfold expB at he
 rw [if_neg (by omega), log2_bl h0] at he
 unfold fPl at he
 rw [if_pos hp] at he
 omega
structure Parts (x : List Nat) (k : Int) : Prop where
 fin : ∀ i, i < x.length → fPow (scaleV (el x i) (-k)) ≠ 2047
 w : ∀ i, i < x.length → absV (scaleV (el x i) (-k)) = nearR (fMag (el x i)) (fPl (el x i) - k)
 le2 : ∀ i, i < x.length → W (scaleV (el x i) (-k)) ≤ 2
theorem clamp_id {k : Int} (h : -2300 ≤ k ∧ k ≤ 2300) : clamp k = k := by unfold clamp; omega
theorem W_two : W 4611686018427387904 = 2 := by
 unfold W D
 rw [show fMag 4611686018427387904 = 2 ^ 52 from by decide, show fPl 4611686018427387904 = -51 from by decide, ← P2_nat, ← P2_add, show ((52 : Nat) : Int) + -51 = ((1 : Nat) : Int) by omega, P2_nat]; rfl
theorem parts_of {x : List Nat} (hx : Words x) {k : Int} (hk : -1100 ≤ k ∧ k ≤ 1100) (hf : ∀ i, i < x.length → fPow (el x i) ≠ 2047) (hm : ∀ i, i < x.length → W (el x i) ≤ P2 (k + 1)) : Parts x k := by
 have key : ∀ i, i < x.length → scaleV (el x i) (-k) = nearV (fNeg (el x i)) (fMag (el x i)) (fPl (el x i) - k) ∧ nearR (fMag (el x i)) (fPl (el x i) - k) ≤ 4611686018427387904 := fun i hi => by
  refine ⟨by rw [scaleV_fin (hx.el i) (hf i hi), clamp_id (by omega), Int.sub_eq_add_neg], near_le (by decide) ?_⟩
  rw [W_two, Int.sub_eq_add_neg, ← D_shift]
  have h1 := Rat.mul_le_mul_of_nonneg_right (hm i hi) (Rat.le_of_lt (P2_pos (-k)))
  rw [← P2_add, show k + 1 + -k = ((1 : Nat) : Int) by omega, P2_nat] at h1
  exact h1
 refine ⟨fun i hi => ?_, fun i hi => ?_, fun i hi => ?_⟩
 ·obtain ⟨h1, h2⟩ := key i hi
  rw [h1]
  exact fin_near (Nat.lt_of_le_of_lt h2 (by decide))
 ·rw [(key i hi).1, absV_near]
 ·obtain ⟨h1, h2⟩ := key i hi
  rw [← W_abs, h1, absV_near, ← W_two, W_le (by have := nearR_le (fMag (el x i)) (fPl (el x i) - k); unfold infR at this; omega) (by decide)]
  exact h2
theorem sq_part {t : Nat} (h : fPow t ≠ 2047) : mulV t t = nearR (fMag t * fMag t) (fPl t + fPl t) ∧ D (fMag t * fMag t) (fPl t + fPl t) = W t * W t := by
 refine ⟨?_, by unfold W; rw [D_mul]⟩
 rw [mulV_fin h h, show (fNeg t != fNeg t) = false by cases fNeg t <;> rfl]
 rfl
theorem sq_le4 {t : Nat} (h : fPow t ≠ 2047) (h2 : W t ≤ 2) : mulV t t ≤ 4616189618054758400 ∧ mulV t t < infR ∧ W (mulV t t) ≤ 4 := by
 have hW4 : W 4616189618054758400 = 4 := by
  unfold W D
  rw [show fMag 4616189618054758400 = 2 ^ 52 from by decide, show fPl 4616189618054758400 = -50 from by decide, ← P2_nat, ← P2_add, show ((52 : Nat) : Int) + -50 = ((2 : Nat) : Int) by omega, P2_nat]; rfl
 obtain ⟨h3, h4⟩ := sq_part h
 have h5 : mulV t t ≤ 4616189618054758400 := by
  rw [h3]
  refine near_le (by decide) ?_
  rw [h4, hW4]
  have h6 := W_nonneg t
  have h7 := Rat.mul_le_mul_of_nonneg_left h2 h6
  grind
 refine ⟨h5, Nat.lt_of_le_of_lt h5 (by decide), ?_⟩
 rw [← hW4, W_le (by omega) (by decide)]; exact h5
theorem sums_ge {x : List Nat} {k : Int} (hP : Parts x k) (hl : x.length ≤ 1000) : ∀ (n : Nat) {i s : Nat}, i + n = x.length → s < infR → W s ≤ ((4 * i : Nat) : Rat) →
  sqrR x k n i s < infR ∧ W (sqrR x k n i s) ≤ ((4 * x.length : Nat) : Rat) ∧ s ≤ sqrR x k n i s ∧ ∀ j, i ≤ j → j < x.length → mulV (scaleV (el x j) (-k)) (scaleV (el x j) (-k)) ≤ sqrR x k n i s := by
 intro n
 induction n with
 | zero =>
  intro i s hi hs hW
  have : i = x.length := by omega
  subst this
  exact ⟨hs, hW, Nat.le_refl _, fun j h1 h2 => by omega⟩
 | succ n ih =>
  intro i s hi hs hW
  unfold sqrR
  have hlt : i < x.length := by omega
  obtain ⟨q1, q2, q3⟩ := sq_le4 (hP.fin i hlt) (hP.le2 i hlt)
  generalize hq : mulV (scaleV (el x i) (-k)) (scaleV (el x i) (-k)) = q at *
  obtain ⟨a1, a2, _⟩ := add_ge hs q2
  obtain ⟨N, p, e1, e2⟩ := add_pos hs q2
  obtain ⟨w1, w2⟩ := W_int (c := 4 * (i + 1)) (by omega)
  have hle : addV s q ≤ nearR (4 * (i + 1)) 0 := by
   rw [e1]
   refine near_le w1 ?_
   rw [e2, w2]
   have : ((4 * (i + 1) : Nat) : Rat) = ((4 * i : Nat) : Rat) + 4 := by rw [Nat.mul_add, Rat.natCast_add]; rfl
   rw [this]
   grind
  have hs' : addV s q < infR := Nat.lt_of_le_of_lt hle w1
  have hW' : W (addV s q) ≤ ((4 * (i + 1) : Nat) : Rat) := by
   rw [← w2, W_le (by unfold infR at hs'; omega) (by unfold infR at w1; omega)]; exact hle
  obtain ⟨r1, r2, r3, r4⟩ := ih (i := i + 1) (s := addV s q) (by omega) hs' hW'
  refine ⟨r1, r2, Nat.le_trans a1 r3, fun j h1 h2 => ?_⟩
  rcases Nat.eq_or_lt_of_le h1 with he | he
  ·subst he; rw [hq]; exact Nat.le_trans a2 r3
  ·exact r4 j (by omega) h2
theorem sqrt_pos {s : Nat} (h : s < infR) : sqrtV s ≤ infR := by
 have hn : fNeg s = false := by unfold fNeg; unfold infR at h; simp; omega
 have hnan : ¬ nanB s := by unfold nanB fPow; unfold infR at h; omega
 unfold sqrtV
 rw [if_neg hnan, hn]
 split
 ·omega
 ·simp only [Bool.false_eq_true, if_false]; exact nearR_le _ _
theorem le_inf_nan {s : Nat} (h : s ≤ infR) : ¬ nanB s := by
 rcases Nat.lt_or_eq_of_le h with h1 | h1
 ·unfold nanB fPow; unfold infR at h1; omega
 ·subst h1; decide
theorem sqrt_mono {a b : Nat} (ha : a ≤ b) (hb : b < infR) : sqrtV a ≤ sqrtV b := by
 have h1 := sqrt_pos (s := a) (by omega)
 have h2 := sqrt_pos hb
 have hi : infR < 9223372036854775808 := by decide
 have := rise (a := a) (b := b) (by omega) (by omega) (by unfold ordOk; simp [le_inf_nan (show a ≤ infR by omega), le_inf_nan (show b ≤ infR by omega)])
  (by rw [rk_pos (by omega), rk_pos (by omega)]; omega) (by unfold ordOk; simp [le_inf_nan h1, le_inf_nan h2])
 rw [rk_pos (by omega), rk_pos (by omega)] at this
 omega
theorem mag_le2 (t : Nat) : fMag t ≤ 2 * two52 := by have := fMag_lt t; unfold two52; omega
theorem mag_normal {t : Nat} (h : fPow t ≠ 0) : two52 ≤ fMag t := by unfold fMag two52; rw [if_neg h]; omega
theorem min_id {z t : Nat} (h : min z infR = t) (h2 : t < infR) : z = t := by omega
theorem sqrt_sq {t : Nat} (h : t < infR) (h0 : fPow t ≠ 0) (h1 : -480 ≤ fPl t) (h2 : fPl t ≤ 330) : sqrtV (mulV t t) = t := by
 have hf : fPow t ≠ 2047 := abs_fin (by unfold absV; unfold infR at h ⊢; omega)
 have hn : fNeg t = false := by unfold fNeg; unfold infR at h; simp; omega
 have m1 := mag_normal h0
 obtain ⟨q, f, q1, q2, q3, q4, q5⟩ := squares_back m1 (fMag_lt t) h1 h2
 rw [(sq_part hf).1]
 rw [show nearV false (fMag t * fMag t) (fPl t + fPl t) = nearR (fMag t * fMag t) (fPl t + fPl t) from rfl] at q1 q2 q3
 have hneg : fNeg (nearR (fMag t * fMag t) (fPl t + fPl t)) = false := word_neg false _ _
 generalize nearR (fMag t * fMag t) (fPl t + fPl t) = Q at *
 unfold sqrtV
 rw [if_neg (fin_nan q3), hneg, q1, q2, if_neg (by
  intro hh
  rcases hh with hh | hh
  ·exact q4 hh.1
  ·rw [hh] at q3; exact q3 (by decide))]
 simp only [Bool.false_eq_true, if_false]
 show nearR _ _ = _
 rw [q5]
 have := near_W h
 unfold nearR at this
 rw [rung_fits (by omega) (mag_le2 t) (.inl m1)] at this
 generalize (fPl t + 1074).toNat * two52 + fMag t = z at *
 exact min_id this h
structure Root (x : List Nat) (m : Nat) (k : Int) (r : Nat) : Prop where
 mf : m < infR
 normal : fPow m ≠ 0
 hk : -900 ≤ k ∧ k < 900
 rf : r < infR
 one : 1 ≤ W r
 le : W r ≤ 16
 ge : W m ≤ W r * P2 k
 eq : normV x = scaleV r k
 kx : k = expB m
 rx : r = sqrtV (sqrV x k)
 parts : Parts x k
 sums : sqrV x k < infR ∧ W (sqrV x k) ≤ ((4 * x.length : Nat) : Rat)
theorem norm_root_g {x : List Nat} (hx : Words x) (hl : x.length ≤ 64) (hfin : ∀ i, i < x.length → fPow (el x i) ≠ 2047) (hexp0 : -900 ≤ expB (bigV x) ∧ expB (bigV x) < 900) (h0 : bigV x ≠ 0) : ∃ k r, Root x (bigV x) k r := by
 obtain ⟨b1, b2, b3⟩ := bigR_mem (x := x) x.length (i := 0) (m := 0) (fun j _ hj => fin_nan (hfin j (by omega)))
 have eB : bigR x x.length 0 0 = bigV x := rfl
 rw [eB] at b1 b2 b3
 obtain ⟨i0, -, i1, i2⟩ := b3.resolve_left h0
 clear b3
 have i1' : i0 < x.length := by omega
 have hmf : bigV x < infR := by rw [← i2]; exact fin_abs (hfin i0 i1')
 obtain ⟨f1, f2, f3, f4⟩ := fields_abs (el x i0)
 rw [i2] at f1 f2 f3 f4
 have hpm : fPow (bigV x) ≠ 2047 := by rw [f3]; exact hfin i0 i1'
 have hm0 : fMag (bigV x) ≠ 0 := fun h => by
  have := (mag_zero (bigV x)).1 h
  unfold fPow fFrac at this; unfold infR at hmf; omega
 have hexp := hexp0
 have hnorm := normal_of_exp hpm hm0 (by omega)
 obtain ⟨w1, w2⟩ := expB_W hpm hm0
 have hWle : ∀ i, i < x.length → W (el x i) ≤ W (bigV x) := fun i hi => by
  rw [← W_abs (el x i), W_le (absV_lt _) (by unfold infR at hmf; omega)]
  exact b2 i (Nat.zero_le _) (by omega)
 have hn : normV x = scaleV (sqrtV (sqrV x (expB (bigV x)))) (expB (bigV x)) := by unfold normV; rw [if_neg (by omega)]
 generalize hk : expB (bigV x) = k at *
 have hP := parts_of hx (k := k) (by omega) hfin (fun i hi => Rat.le_trans (hWle i hi) (Rat.le_of_lt w2))
 obtain ⟨s1, s2, s3, s4⟩ := sums_ge hP (by omega) x.length (i := 0) (s := 0) (by omega) (by decide) (by rw [show W 0 = 0 by unfold W; rw [show fMag 0 = 0 from by decide, D_zero]]; exact Rat.le_refl)
 rw [show sqrR x k x.length 0 0 = sqrV x k from rfl] at s1 s2 s3 s4
 have hq := s4 i0 (Nat.zero_le _) i1'
 have ht := hP.w i0 i1'
 have htf := hP.fin i0 i1'
 generalize htt : scaleV (el x i0) (-k) = t at *
 have hpl : fPl (bigV x) = k - 52 := by have := expB_normal hnorm hpm; omega
 have hxr : exq (fMag (el x i0)) (fPl (el x i0) - k) = true := by
  rw [← f1]
  exact exq_scaled hnorm (by rw [← f2]; omega)
 have hrf : nearR (fMag (el x i0)) (fPl (el x i0) - k) < infR := by rw [← ht]; exact fin_abs htf
 have hWt : W (absV t) = W (bigV x) * P2 (-k) := by
  rw [ht, W_exact (by rw [← f1]; exact hm0) hxr hrf, ← f1, ← f2, Int.sub_eq_add_neg, ← D_shift]; rfl
 have htword : absV t = nearR (fMag (bigV x)) (-52) := by rw [ht, ← f1, ← f2, hpl]; exact congrArg _ (by omega)
 have hm1 := mag_normal hnorm
 have hwd := (near_normal hm1 (fMag_lt (bigV x)) (e := -52) (by omega) (by omega) false).1
 rw [show nearV false (fMag (bigV x)) (-52) = nearR (fMag (bigV x)) (-52) from rfl, ← htword] at hwd
 have hfl := fields_of (s := false) (P := 1022) (q := fMag (bigV x)) (by omega) hm1 (fMag_lt (bigV x))
 rw [show ((-52 : Int) + 1074).toNat = 1022 from rfl] at hwd
 rw [← hwd] at hfl
 obtain ⟨g1, g2, g3, g4⟩ := hfl
 have hplt : fPl (absV t) = -52 := by unfold fPl; rw [g1]; rfl
 have hsq : mulV t t = mulV (absV t) (absV t) := by
  have hfa : fPow (absV t) ≠ 2047 := by rw [(fields_abs t).2.2.1]; exact htf
  rw [(sq_part htf).1, (sq_part hfa).1, (fields_abs t).1, (fields_abs t).2.1]
 have hroot : sqrtV (mulV t t) = absV t := by
  rw [hsq]
  exact sqrt_sq (by rw [ht]; exact hrf) (by omega) (by omega) (by omega)
 have hge : absV t ≤ sqrtV (sqrV x k) := by rw [← hroot]; exact sqrt_mono hq s1
 have hW256 : W (nearR 256 0) = ((256 : Nat) : Rat) := (W_int (by omega)).2
 have hle256 : sqrV x k ≤ nearR 256 0 := by
  rw [← W_le (by unfold infR at s1; omega) (by decide), hW256]
  refine Rat.le_trans s2 (Rat.natCast_le_natCast.2 (by omega))
 have h16 : sqrtV (nearR 256 0) = 4625196817309499392 := by
  have h1 : nearR 256 0 = 4643211215818981376 := by decide
  rw [h1]
  have h2 := sqrt_sq (t := 4625196817309499392) (by decide) (by decide) (by decide) (by decide)
  rw [← h2]
  exact congrArg sqrtV (by decide)
 have hr16 : sqrtV (sqrV x k) ≤ 4625196817309499392 := by rw [← h16]; exact sqrt_mono hle256 (by decide)
 have hx2 : ∃ r, r = sqrtV (sqrV x k) := ⟨_, rfl⟩
 obtain ⟨r, hr⟩ := hx2
 rw [← hr] at hge hr16 hn
 have hrf2 : r < infR := Nat.lt_of_le_of_lt hr16 (by decide)
 have hWr : W (absV t) ≤ W r := by rw [W_le (absV_lt _) (by unfold infR at hrf2; omega)]; exact hge
 have hWr2 : W r ≤ 16 := by
  have h1 : W 4625196817309499392 = 16 := by
   unfold W D
   rw [show fMag 4625196817309499392 = 2 ^ 52 from by decide, show fPl 4625196817309499392 = -48 from by decide, ← P2_nat, ← P2_add, show ((52 : Nat) : Int) + -48 = ((4 : Nat) : Int) by omega, P2_nat]; rfl
  rw [← h1, W_le (by unfold infR at hrf2; omega) (by decide)]; exact hr16
 have hone : 1 ≤ W (absV t) := by
  rw [hWt]
  have h1 := Rat.mul_le_mul_of_nonneg_right w1 (Rat.le_of_lt (P2_pos (-k)))
  rwa [← P2_add, show k + -k = 0 by omega, P2_zero] at h1
 refine ⟨k, r, hmf, hnorm, hexp, hrf2, Rat.le_trans hone hWr, hWr2, ?_, hn, hk.symm, hr, hP, s1, s2⟩
 have h1 := Rat.mul_le_mul_of_nonneg_right hWr (Rat.le_of_lt (P2_pos k))
 rw [hWt, Rat.mul_assoc, ← P2_add, show -k + k = 0 by omega, P2_zero, Rat.mul_one] at h1
 exact h1
theorem tame_big {x : List Nat} {K : Int} (hT : TameP x K) (h0 : bigV x ≠ 0) : -K ≤ expB (bigV x) ∧ expB (bigV x) < K := by
 obtain ⟨b1, b2, b3⟩ := bigR_mem (x := x) x.length (i := 0) (m := 0) (fun j _ hj => fin_nan (hT j (by omega)).1)
 rw [show bigR x x.length 0 0 = bigV x from rfl] at b1 b2 b3
 obtain ⟨i0, -, i1, i2⟩ := b3.resolve_left h0
 have i1' : i0 < x.length := by omega
 obtain ⟨f1, f2, f3, f4⟩ := fields_abs (el x i0)
 rw [i2] at f1 f2 f3 f4
 have hmf : bigV x < infR := by rw [← i2]; exact fin_abs (hT i0 i1').1
 have hm0 : fMag (bigV x) ≠ 0 := fun h => by
  have := (mag_zero (bigV x)).1 h
  unfold fPow fFrac at this; unfold infR at hmf; omega
 have heq : expB (bigV x) = expB (el x i0) := by unfold expB; rw [f1, f2, f3]
 rw [heq]; exact (hT i0 i1').2.resolve_left (by rw [← f1]; exact hm0)
theorem norm_zero {x : List Nat} (h0 : bigV x = 0) : normV x = 0 := by unfold normV; rw [if_pos (.inl h0), h0]
theorem word_pos {r : Nat} (h : r < infR) : fPow r ≠ 2047 ∧ fNeg r = false ∧ r < 18446744073709551616 ∧ absV r = r := by
 have hi : infR = 9218868437227405312 := rfl
 rw [hi] at h
 exact ⟨abs_fin (by unfold absV; rw [hi]; omega), by unfold fNeg; simp; omega, by omega, by unfold absV; omega⟩
theorem rat_sq_le {a b : Rat} (h0 : 0 ≤ a) (h : a ≤ b) : a * a ≤ b * b := by
 have h1 := Rat.mul_le_mul_of_nonneg_left h h0
 have h2 := Rat.mul_le_mul_of_nonneg_right h (Rat.le_trans h0 h)
 exact Rat.le_trans h1 h2
theorem rat_sq_nonneg (a : Rat) : 0 ≤ a * a := by
 rcases Rat.le_total (a := 0) (b := a) with h | h
 ·exact Rat.mul_nonneg h h
 ·have := Rat.mul_nonneg (a := -a) (b := -a) (by grind) (by grind)
  grind
theorem err_sq {a T η : Rat} (ha : 0 ≤ a) (ha2 : a ≤ 2) (hT : 0 ≤ T) (hη : 0 ≤ η) (hη1 : η ≤ 1 / 1000000) (h1 : T ≤ a + a * (1 / 9007199254740992) + η) (h2 : a ≤ T + a * (1 / 9007199254740992) + η) :
  T * T ≤ a * a + 3 * (1 / 9007199254740992) * (a * a) + 10 * η ∧ a * a ≤ T * T + 3 * (1 / 9007199254740992) * (a * a) + 10 * η := by
 have e1 : a * η ≤ 2 * η := Rat.mul_le_mul_of_nonneg_right ha2 hη
 have e0 : 0 ≤ a * η := Rat.mul_nonneg ha hη
 have e2 : η * η ≤ η := by
  have := Rat.mul_le_mul_of_nonneg_right hη1 hη
  grind
 have e3 := Rat.mul_nonneg hη hη
 have e4 := Rat.mul_nonneg ha ha
 constructor
 ·have := rat_sq_le hT h1
  grind
 ·
  have e5 : a * T ≤ a * (a + a * (1 / 9007199254740992) + η) := Rat.mul_le_mul_of_nonneg_left h1 ha
  have e6 : a * a ≤ a * (T + a * (1 / 9007199254740992) + η) := Rat.mul_le_mul_of_nonneg_left h2 ha
  have e7 : T * a ≤ T * (T + a * (1 / 9007199254740992) + η) := Rat.mul_le_mul_of_nonneg_left h2 hT
  have e8 : T * η ≤ (a + a * (1 / 9007199254740992) + η) * η := Rat.mul_le_mul_of_nonneg_right h1 hη
  grind
theorem near_err' {n : Nat} {p : Int} (h : nearR n p < infR) : W (nearR n p) ≤ D n p + D n p * (1 / 9007199254740992) + P2 (-1075) ∧ D n p ≤ W (nearR n p) + D n p * (1 / 9007199254740992) + P2 (-1075) := by
 have hu : P2 (-53) = 1 / 9007199254740992 := by decide +kernel
 have := near_err h
 rwa [hu] at this
theorem eta_small : 0 ≤ P2 (-1075) ∧ P2 (-1075) ≤ 1 / 1000000000000000000000000000000 := by
 refine ⟨Rat.le_of_lt (P2_pos _), ?_⟩
 have h1 : P2 (-1075) ≤ P2 (-120) := P2_mono (by omega)
 have h2 : P2 (-120) ≤ 1 / 1000000000000000000000000000000 := by decide +kernel
 exact Rat.le_trans h1 h2
theorem err_step {s A q aa s' c d η : Rat} (hA : 0 ≤ A) (haa : 0 ≤ aa) (hη : 0 ≤ η) (hc : 5 ≤ c) (hc2 : c ≤ 200) (hd : 0 ≤ d) (hd2 : d ≤ 1000)
  (h1 : s ≤ A + c * (1 / 9007199254740992) * A + d * η) (h2 : A ≤ s + c * (1 / 9007199254740992) * A + d * η)
  (h3 : q ≤ aa + 5 * (1 / 9007199254740992) * aa + 12 * η) (h4 : aa ≤ q + 5 * (1 / 9007199254740992) * aa + 12 * η)
  (h5 : s' ≤ (s + q) + (s + q) * (1 / 9007199254740992) + η) (h6 : s + q ≤ s' + (s + q) * (1 / 9007199254740992) + η) :
  s' ≤ (A + aa) + (c + 2) * (1 / 9007199254740992) * (A + aa) + (d + 14) * η ∧ A + aa ≤ s' + (c + 2) * (1 / 9007199254740992) * (A + aa) + (d + 14) * η := by
 have e1 : 5 * aa ≤ c * aa := Rat.mul_le_mul_of_nonneg_right hc haa
 have e2 : c * A ≤ 200 * A := Rat.mul_le_mul_of_nonneg_right hc2 hA
 have e3 : c * aa ≤ 200 * aa := Rat.mul_le_mul_of_nonneg_right hc2 haa
 have e4 : d * η ≤ 1000 * η := Rat.mul_le_mul_of_nonneg_right hd2 hη
 have e5 : 0 ≤ d * η := Rat.mul_nonneg hd hη
 have e6 : 5 * A ≤ c * A := Rat.mul_le_mul_of_nonneg_right hc hA
 constructor <;> grind
def sumA (a : Nat → Rat) : Nat → Rat
 | 0 => 0
 | n + 1 => sumA a n + a n * a n
theorem sumA_nonneg (a : Nat → Rat) : ∀ n, 0 ≤ sumA a n
 | 0 => Rat.le_refl
 | n + 1 => by
  unfold sumA
  have h1 := sumA_nonneg a n
  have h2 := rat_sq_nonneg (a n)
  grind
theorem sumA_ge (a : Nat → Rat) : ∀ {n i : Nat}, i < n → a i * a i ≤ sumA a n
 | 0, _, h => by omega
 | n + 1, i, h => by
  unfold sumA
  have h2 := rat_sq_nonneg (a n)
  rcases Nat.lt_or_eq_of_le (Nat.le_of_lt_succ h) with h3 | h3
  ·have h1 := sumA_ge a h3
   grind
  ·subst h3
   have h1 := sumA_nonneg a i
   grind
theorem nat_rat (n : Nat) : ((n + 1 : Nat) : Rat) = (n : Rat) + 1 := by rw [Rat.natCast_add]; rfl
theorem part_err {x : List Nat} {k : Int} (hP : Parts x k) {i : Nat} (hi : i < x.length) (ha2 : W (el x i) * P2 (-k) ≤ 2) :
  let aa := (W (el x i) * P2 (-k)) * (W (el x i) * P2 (-k))
  W (mulV (scaleV (el x i) (-k)) (scaleV (el x i) (-k))) ≤ aa + 5 * (1 / 9007199254740992) * aa + 12 * P2 (-1075) ∧ aa ≤ W (mulV (scaleV (el x i) (-k)) (scaleV (el x i) (-k))) + 5 * (1 / 9007199254740992) * aa + 12 * P2 (-1075) := by
 intro aa
 have hw := hP.w i hi
 have hf := hP.fin i hi
 obtain ⟨q1, q2, q3⟩ := sq_le4 hf (hP.le2 i hi)
 obtain ⟨s1, s2⟩ := sq_part hf
 obtain ⟨n1, n2⟩ := eta_small
 generalize scaleV (el x i) (-k) = t at *
 have hr : nearR (fMag (el x i)) (fPl (el x i) - k) < infR := by rw [← hw]; exact fin_abs hf
 have hD : D (fMag (el x i)) (fPl (el x i) - k) = W (el x i) * P2 (-k) := by rw [Int.sub_eq_add_neg, ← D_shift]; rfl
 have ha0 : 0 ≤ W (el x i) * P2 (-k) := Rat.mul_nonneg (W_nonneg _) (Rat.le_of_lt (P2_pos _))
 obtain ⟨e1, e2⟩ := near_err' hr
 rw [← hw, W_abs, hD] at e1 e2
 obtain ⟨f1, f2⟩ := err_sq ha0 ha2 (W_nonneg t) n1 (by grind) e1 e2
 rw [s1] at q2
 obtain ⟨g1, g2⟩ := near_err' q2
 rw [← s1, s2] at g1 g2
 have h0 := rat_sq_nonneg (W (el x i) * P2 (-k))
 have h1 := rat_sq_nonneg (W t)
 show W (mulV t t) ≤ aa + _ * aa + _ ∧ aa ≤ _ + _ * aa + _
 have haa : aa = (W (el x i) * P2 (-k)) * (W (el x i) * P2 (-k)) := rfl
 rw [← haa] at f1 f2 h0
 clear haa
 generalize W t * W t = TT at *
 constructor <;> grind
theorem sums_err {x : List Nat} {k : Int} (hP : Parts x k) (hl : x.length ≤ 64) (ha2 : ∀ i, i < x.length → W (el x i) * P2 (-k) ≤ 2) : ∀ (n : Nat) {i s : Nat}, i + n = x.length → s < infR → W s ≤ ((4 * i : Nat) : Rat) →
  (W s ≤ sumA (fun i => W (el x i) * P2 (-k)) i + (5 + 2 * (i : Rat)) * (1 / 9007199254740992) * sumA (fun i => W (el x i) * P2 (-k)) i + (14 * (i : Rat)) * P2 (-1075)) →
  (sumA (fun i => W (el x i) * P2 (-k)) i ≤ W s + (5 + 2 * (i : Rat)) * (1 / 9007199254740992) * sumA (fun i => W (el x i) * P2 (-k)) i + (14 * (i : Rat)) * P2 (-1075)) →
  (W (sqrR x k n i s) ≤ sumA (fun i => W (el x i) * P2 (-k)) x.length + (5 + 2 * (x.length : Rat)) * (1 / 9007199254740992) * sumA (fun i => W (el x i) * P2 (-k)) x.length + (14 * (x.length : Rat)) * P2 (-1075)) ∧
  (sumA (fun i => W (el x i) * P2 (-k)) x.length ≤ W (sqrR x k n i s) + (5 + 2 * (x.length : Rat)) * (1 / 9007199254740992) * sumA (fun i => W (el x i) * P2 (-k)) x.length + (14 * (x.length : Rat)) * P2 (-1075)) := by
 intro n
 induction n with
 | zero =>
  intro i s hi hs hW h1 h2
  have : i = x.length := by omega
  subst this
  exact ⟨h1, h2⟩
 | succ n ih =>
  intro i s hi hs hW h1 h2
  unfold sqrR
  have hlt : i < x.length := by omega
  obtain ⟨q1, q2, q3⟩ := sq_le4 (hP.fin i hlt) (hP.le2 i hlt)
  obtain ⟨p1, p2⟩ := part_err hP hlt (ha2 i hlt)
  generalize hq : mulV (scaleV (el x i) (-k)) (scaleV (el x i) (-k)) = q at *
  obtain ⟨N, p, e1, e2⟩ := add_pos hs q2
  obtain ⟨w1, w2⟩ := W_int (c := 4 * (i + 1)) (by omega)
  have hle : addV s q ≤ nearR (4 * (i + 1)) 0 := by
   rw [e1]
   refine near_le w1 ?_
   rw [e2, w2]
   have : ((4 * (i + 1) : Nat) : Rat) = ((4 * i : Nat) : Rat) + 4 := by rw [Nat.mul_add, Rat.natCast_add]; rfl
   rw [this]
   grind
  have hs' : addV s q < infR := Nat.lt_of_le_of_lt hle w1
  have hW' : W (addV s q) ≤ ((4 * (i + 1) : Nat) : Rat) := by
   rw [← w2, W_le (by unfold infR at hs'; omega) (by unfold infR at w1; omega)]; exact hle
  rw [e1] at hs'
  obtain ⟨g1, g2⟩ := near_err' hs'
  rw [← e1, e2] at g1 g2
  rw [← e1] at hs'
  have hi64 : (i : Rat) ≤ 64 := by
   have : (i : Rat) ≤ ((64 : Nat) : Rat) := Rat.natCast_le_natCast.2 (by omega)
   exact this
  have hi0 : (0 : Rat) ≤ i := Rat.natCast_nonneg
  have hst := err_step (s := W s) (A := sumA (fun i => W (el x i) * P2 (-k)) i) (q := W q) (aa := (W (el x i) * P2 (-k)) * (W (el x i) * P2 (-k))) (s' := W (addV s q)) (c := 5 + 2 * (i : Rat)) (d := 14 * (i : Rat)) (η := P2 (-1075))
   (sumA_nonneg _ i) (rat_sq_nonneg _) eta_small.1 (by grind) (by grind) (by grind) (by grind) h1 h2 p1 p2 g1 g2
  have hA : sumA (fun i => W (el x i) * P2 (-k)) i + (W (el x i) * P2 (-k)) * (W (el x i) * P2 (-k)) = sumA (fun i => W (el x i) * P2 (-k)) (i + 1) := rfl
  rw [hA, show (5 + 2 * (i : Rat) + 2) = 5 + 2 * ((i + 1 : Nat) : Rat) by rw [nat_rat]; grind, show (14 * (i : Rat) + 14) = 14 * ((i + 1 : Nat) : Rat) by rw [nat_rat]; grind] at hst
  exact ih (i := i + 1) (s := addV s q) (by omega) hs' hW' hst.1 hst.2
theorem stk_sq {N w : Nat} (h : IsRoot N w) (hw : 9007199254740992 ≤ w) :
  ((stk N w * stk N w : Nat) : Rat) ≤ (4 * N : Nat) + (4 * N : Nat) * (2 * (1 / 9007199254740992)) ∧ ((4 * N : Nat) : Rat) ≤ (stk N w * stk N w : Nat) + (4 * N : Nat) * (2 * (1 / 9007199254740992)) := by
 obtain ⟨h1, h2⟩ := h
 have key : stk N w * stk N w ≤ 4 * N + 4 * w + 1 ∧ 4 * N ≤ stk N w * stk N w + 4 * w + 4 := by
  unfold stk
  by_cases hx : w * w = N
  ·rw [decide_eq_false (by simp [hx])]
   have : (2 * w + false.toNat) * (2 * w + false.toNat) = 4 * (w * w) := by
    simp only [Bool.toNat_false, Nat.add_zero]; rw [Nat.mul_mul_mul_comm]
   rw [this, hx]; omega
  ·rw [decide_eq_true hx]
   have : (2 * w + true.toNat) * (2 * w + true.toNat) = 4 * (w * w) + 4 * w + 1 := sq_exp w
   rw [this]
   have h3 : (w + 1) * (w + 1) = w * w + 2 * w + 1 := by rw [Nat.add_mul, Nat.mul_add]; omega
   omega
 have hww : 9007199254740992 * w ≤ w * w := Nat.mul_le_mul_right w hw
 have k2 : 9007199254740992 * w ≤ N := Nat.le_trans hww h1
 have r1 : ((stk N w * stk N w : Nat) : Rat) ≤ ((4 * N + 4 * w + 1 : Nat) : Rat) := Rat.natCast_le_natCast.2 key.1
 have r2 : ((4 * N : Nat) : Rat) ≤ ((stk N w * stk N w + 4 * w + 4 : Nat) : Rat) := Rat.natCast_le_natCast.2 key.2
 have r3 : ((9007199254740992 * w : Nat) : Rat) ≤ (N : Rat) := Rat.natCast_le_natCast.2 k2
 have r4 : ((9007199254740992 : Nat) : Rat) ≤ (w : Rat) := Rat.natCast_le_natCast.2 hw
 simp only [Rat.natCast_add, Rat.natCast_mul] at r1 r2 r3 ⊢
 have c1 : ((4 : Nat) : Rat) = 4 := rfl
 have c2 : ((1 : Nat) : Rat) = 1 := rfl
 have c3 : ((9007199254740992 : Nat) : Rat) = 9007199254740992 := rfl
 rw [c3] at r3 r4
 rw [c1] at r1 r2 ⊢
 rw [c2] at r1
 generalize (stk N w : Rat) * (stk N w : Rat) = z at *
 generalize (N : Rat) = n at *
 generalize (w : Rat) = y at *
 constructor <;> grind
structure DBs (x e : Int) (E T : Nat) : Prop where
 lo : -(E : Int) ≤ e
 hi : e ≤ E
 top : (bl x.natAbs : Int) + e ≤ T
theorem DBs.db {x e : Int} {E T : Nat} (h : DBs x e E T) (h1 : E ≤ 40000000) (h2 : T ≤ 40000000) : DB x e := by
 obtain ⟨a, b, c⟩ := h
 exact ⟨by omega, by omega, by omega⟩
theorem DBs.word (b : Nat) : DBs (sx b) (fPl b) 1100 1100 := by
 have h1 := bl_mag b
 have h2 := fPl_bd b
 exact ⟨by omega, by omega, by omega⟩
theorem DBs.mono {x e : Int} {E T E' T' : Nat} (h : DBs x e E T) (h1 : E ≤ E') (h2 : T ≤ T') : DBs x e E' T' := by
 obtain ⟨a, b, c⟩ := h
 exact ⟨by omega, by omega, by omega⟩
theorem DBs.mul {x e y f : Int} {E T E' T' : Nat} (h : DBs x e E T) (h' : DBs y f E' T') : DBs (x * y) (e + f) (E + E') (T + T') := by
 obtain ⟨a, b, c⟩ := h
 obtain ⟨a', b', c'⟩ := h'
 have := bl_int_mul x y
 exact ⟨by omega, by omega, by omega⟩
theorem DBs.scale {x e k : Int} {E T : Nat} (h : DBs x e E T) (K : Nat) (hk : -(K : Int) ≤ k ∧ k ≤ K) : DBs x (e + k) (E + K) (T + K) := by
 obtain ⟨a, b, c⟩ := h
 exact ⟨by omega, by omega, by omega⟩
theorem DBs.add {x e y f : Int} {E T : Nat} (h : DBs x e E T) (h' : DBs y f E T) : DBs (dadd x e y f) (min e f) E (T + 1) := by
 obtain ⟨a, b, c⟩ := h
 obtain ⟨a', b', c'⟩ := h'
 have h1 := bl_int_add (x * 2 ^ (e - min e f).toNat) (y * 2 ^ (f - min e f).toNat)
 have h2 := bl_int_shl x (e - min e f).toNat
 have h3 := bl_int_shl y (f - min e f).toNat
 refine ⟨by omega, by omega, ?_⟩
 unfold dadd
 omega
theorem scale_near {b : Nat} (hb : b < 18446744073709551616) (h : fPow b ≠ 2047) {k : Int} (hk : -2300 ≤ k ∧ k ≤ 2300) : absV (scaleV b k) = nearR (fMag b) (fPl b + k) := by
 rw [scaleV_fin hb h, clamp_id hk, absV_near]
theorem fPl_eq {w : Nat} (h : fPow w ≠ 0) : fPl w = (fPow w : Int) - 1075 := by unfold fPl; rw [if_neg h]
theorem scale_exact {b : Nat} (hb : b < 18446744073709551616) (h0 : fPow b ≠ 0) (h : fPow b ≠ 2047) {k : Int} (hk : -2300 ≤ k ∧ k ≤ 2300) (h1 : -1022 ≤ expB b + k) (h2 : expB b + k ≤ 1023) :
  fMag (scaleV b k) = fMag b ∧ fPl (scaleV b k) = fPl b + k ∧ fPow (scaleV b k) ≠ 2047 ∧ fPow (scaleV b k) ≠ 0 ∧ W (scaleV b k) = W b * P2 k ∧ absV (scaleV b k) = nearR (fMag b) (fPl b + k) := by
 have he := expB_normal h0 h
 have m1 := mag_normal h0
 have hd := (near_normal m1 (fMag_lt b) (e := fPl b + k) (by omega) (by omega) (fNeg b)).1
 have hs : scaleV b k = nearV (fNeg b) (fMag b) (fPl b + k) := by rw [scaleV_fin hb h, clamp_id hk]
 have hw := scale_near hb h hk
 rw [hs, hd]
 obtain ⟨g1, g2, g3, g4⟩ := fields_of (s := fNeg b) (P := (fPl b + k + 1074).toNat) (q := fMag b) (by omega) m1 (fMag_lt b)
 have g5 : fPl (sgn (fNeg b) ((fPl b + k + 1074).toNat * two52 + fMag b)) = fPl b + k := by
  rw [fPl_eq (by rw [g1]; omega), g1]
  omega
 refine ⟨g2, g5, ?_, by rw [g1]; omega, ?_, ?_⟩
 ·rw [g1]; clear hd hs hw g1 g2 g3 g4 g5; omega
 ·unfold W; rw [g2, g5, D_shift]
 ·rw [← hd, absV_near]
theorem W_zero_of {b : Nat} (h : fMag b = 0) : W b = 0 := by unfold W; rw [h, D_zero]
theorem P2_le_iff {a b : Int} : P2 a ≤ P2 b ↔ a ≤ b := by
 constructor
 ·intro h
  rcases Int.lt_or_le b a with h1 | h1
  ·have := P2_lt h1; grind
  ·exact h1
 ·exact P2_mono
theorem W_eq {a b : Nat} (ha : a < 9223372036854775808) (hb : b < 9223372036854775808) (h : W a = W b) : a = b :=
 Nat.le_antisymm ((W_le ha hb).1 (by rw [h]; exact Rat.le_refl)) ((W_le hb ha).1 (by rw [h]; exact Rat.le_refl))
theorem root_exp {r : Nat} (hr : r < infR) (h1 : 1 ≤ W r) (h2 : W r ≤ 16) : fMag r ≠ 0 ∧ 0 ≤ expB r ∧ expB r ≤ 4 ∧ fPow r ≠ 0 := by
 obtain ⟨p1, p2, p3, p4⟩ := word_pos hr
 have h0 : fMag r ≠ 0 := fun h => by rw [W_zero_of h] at h1; grind
 obtain ⟨w1, w2⟩ := expB_W p1 h0
 have e1 : P2 (expB r) ≤ P2 ((4 : Nat) : Int) := by rw [P2_nat]; exact Rat.le_trans w1 h2
 rw [P2_le_iff] at e1
 have e2 : ¬ P2 (expB r + 1) ≤ P2 0 := by rw [P2_zero]; grind
 rw [P2_le_iff] at e2
 exact ⟨h0, by omega, by omega, normal_of_exp p1 h0 (by omega)⟩
theorem err_sqB {a T η : Rat} (ha : 0 ≤ a) (ha2 : a ≤ 1000) (hT : 0 ≤ T) (hη : 0 ≤ η) (hη1 : η ≤ 1 / 1000000) (h1 : T ≤ a + a * (1 / 9007199254740992) + η) (h2 : a ≤ T + a * (1 / 9007199254740992) + η) :
  T * T ≤ a * a + 3 * (1 / 9007199254740992) * (a * a) + 5000 * η ∧ a * a ≤ T * T + 3 * (1 / 9007199254740992) * (a * a) + 5000 * η := by
 have e1 : a * η ≤ 1000 * η := Rat.mul_le_mul_of_nonneg_right ha2 hη
 have e0 : 0 ≤ a * η := Rat.mul_nonneg ha hη
 have e2 : η * η ≤ η := by
  have := Rat.mul_le_mul_of_nonneg_right hη1 hη
  grind
 have e3 := Rat.mul_nonneg hη hη
 have e4 := Rat.mul_nonneg ha ha
 constructor
 ·have := rat_sq_le hT h1
  grind
 ·have e5 : a * T ≤ a * (a + a * (1 / 9007199254740992) + η) := Rat.mul_le_mul_of_nonneg_left h1 ha
  have e6 : a * a ≤ a * (T + a * (1 / 9007199254740992) + η) := Rat.mul_le_mul_of_nonneg_left h2 ha
  have e7 : T * a ≤ T * (T + a * (1 / 9007199254740992) + η) := Rat.mul_le_mul_of_nonneg_left h2 hT
  have e8 : T * η ≤ (a + a * (1 / 9007199254740992) + η) * η := Rat.mul_le_mul_of_nonneg_right h1 hη
  grind
theorem root_err {s : Nat} (hs : s < infR) (h1 : 1 / 4 ≤ W s) (h2 : W s ≤ 100000) (hr : sqrtV s < infR) :
  W (sqrtV s) * W (sqrtV s) ≤ W s + 6 * (1 / 9007199254740992) * W s ∧ W s ≤ W (sqrtV s) * W (sqrtV s) + 6 * (1 / 9007199254740992) * W s := by
 obtain ⟨p1, p2, p3, p4⟩ := word_pos hs
 have h0 : fMag s ≠ 0 := fun h => by rw [W_zero_of h] at h1; grind
 have hv : sqrtV s = nearR (sqN (fMag s) (fPl s)) (sqP (fPl s)) := by
  unfold sqrtV
  rw [if_neg (fin_nan p1), p2, if_neg (by
   intro hh
   rcases hh with hh | hh
   ·exact h0 hh.1
   ·rw [hh] at hs; omega)]
  rfl
 have hS : 110 ≤ sqS (fPl s) ∧ fPl s - sqS (fPl s) = 2 * ((fPl s - sqS (fPl s)) / 2) := by
  unfold sqS
  by_cases h : fPl s % 2 = 0
  ·rw [if_pos h]; omega
  ·rw [if_neg h]; omega
 have hroot := isq_ok (fMag s * 2 ^ sqS (fPl s))
 have hbig : 9007199254740992 ≤ isq (fMag s * 2 ^ sqS (fPl s)) := root_ge hroot (by
  have h3 : 2 ^ 110 ≤ 2 ^ sqS (fPl s) := Nat.pow_le_pow_right (by omega) hS.1
  have h4 := Nat.mul_le_mul (show 1 ≤ fMag s by omega) h3
  have h5 : (9007199254740992 : Nat) * 9007199254740992 ≤ 2 ^ 110 := by decide
  rw [Nat.one_mul] at h4
  exact Nat.le_trans h5 h4)
 obtain ⟨k1, k2⟩ := stk_sq hroot hbig
 have hW : ((4 * (fMag s * 2 ^ sqS (fPl s)) : Nat) : Rat) * P2 (fPl s - sqS (fPl s) - 2) = W s := by
  have e := D_scale (fMag s) (fPl s) (sqS (fPl s) + 2)
  rw [show fMag s * 2 ^ (sqS (fPl s) + 2) = 4 * (fMag s * 2 ^ sqS (fPl s)) by rw [Nat.pow_add, show (2 : Nat) ^ 2 = 4 from rfl, ← Nat.mul_assoc, Nat.mul_comm], show fPl s - ((sqS (fPl s) + 2 : Nat) : Int) = fPl s - sqS (fPl s) - 2 by omega] at e
  exact e
 have hD : D (sqN (fMag s) (fPl s)) (sqP (fPl s)) * D (sqN (fMag s) (fPl s)) (sqP (fPl s)) = ((stk (fMag s * 2 ^ sqS (fPl s)) (isq (fMag s * 2 ^ sqS (fPl s))) * stk (fMag s * 2 ^ sqS (fPl s)) (isq (fMag s * 2 ^ sqS (fPl s))) : Nat) : Rat) * P2 (fPl s - sqS (fPl s) - 2) := by
  rw [D_mul]
  unfold D
  have e : sqP (fPl s) + sqP (fPl s) = fPl s - sqS (fPl s) - 2 := by unfold sqP; omega
  rw [e]; rfl
 have hP := Rat.le_of_lt (P2_pos (fPl s - sqS (fPl s) - 2))
 have m1 := Rat.mul_le_mul_of_nonneg_right k1 hP
 have m2 := Rat.mul_le_mul_of_nonneg_right k2 hP
 rw [← hD] at m1
 have m1' : D (sqN (fMag s) (fPl s)) (sqP (fPl s)) * D (sqN (fMag s) (fPl s)) (sqP (fPl s)) ≤ W s + W s * (2 * (1 / 9007199254740992)) := by
  rw [← hW]; grind
 have m2' : W s ≤ D (sqN (fMag s) (fPl s)) (sqP (fPl s)) * D (sqN (fMag s) (fPl s)) (sqP (fPl s)) + W s * (2 * (1 / 9007199254740992)) := by
  rw [hD, ← hW]; grind
 rw [hv] at hr ⊢
 obtain ⟨g1, g2⟩ := near_err' hr
 have hv0 := D_nonneg (sqN (fMag s) (fPl s)) (sqP (fPl s))
 generalize D (sqN (fMag s) (fPl s)) (sqP (fPl s)) = v at *
 have hv2 : v ≤ 1000 := by
  rcases Rat.le_total (a := v) (b := 1000) with h | h
  ·exact h
  ·have := rat_sq_le (by grind) h
   grind
 obtain ⟨n1, n2⟩ := eta_small
 obtain ⟨q1, q2⟩ := err_sqB hv0 hv2 (W_nonneg (nearR (sqN (fMag s) (fPl s)) (sqP (fPl s)))) n1 (by grind) g1 g2
 clear hW hD m1 m2 k1 k2 hroot hbig g1 g2
 generalize W (nearR (sqN (fMag s) (fPl s)) (sqP (fPl s))) = T at *
 generalize W s = w at *
 generalize P2 (-1075) = η at *
 have hT := rat_sq_nonneg T
 generalize T * T = TT at *
 generalize v * v = vv at *
 constructor <;> grind
theorem sumA_scale (x : List Nat) (k : Int) : ∀ n, sumA (fun i => W (el x i) * P2 (-k)) n * (P2 k * P2 k) = sumA (fun i => W (el x i)) n
 | 0 => by unfold sumA; exact Rat.zero_mul _
 | n + 1 => by
  unfold sumA
  rw [Rat.add_mul, sumA_scale x k n]
  have h : P2 (-k) * P2 k = 1 := by rw [← P2_add, show -k + k = 0 by omega, P2_zero]
  have : W (el x n) * P2 (-k) * (W (el x n) * P2 (-k)) * (P2 k * P2 k) = W (el x n) * W (el x n) := by
   have e : W (el x n) * P2 (-k) * (W (el x n) * P2 (-k)) * (P2 k * P2 k) = W (el x n) * W (el x n) * ((P2 (-k) * P2 k) * (P2 (-k) * P2 k)) := by grind
   rw [e, h]; grind
  rw [this]
theorem norm_err_g {x : List Nat} (hx : Words x) (hl : x.length ≤ 64) (hfin : ∀ i, i < x.length → fPow (el x i) ≠ 2047) (hexp : bigV x ≠ 0 → -900 ≤ expB (bigV x) ∧ expB (bigV x) < 900) :
  W (normV x) * W (normV x) ≤ sumA (fun i => W (el x i)) x.length + 150 * (1 / 9007199254740992) * sumA (fun i => W (el x i)) x.length ∧
  sumA (fun i => W (el x i)) x.length ≤ W (normV x) * W (normV x) + 150 * (1 / 9007199254740992) * sumA (fun i => W (el x i)) x.length := by
 obtain ⟨b1, b2, b3⟩ := bigR_mem (x := x) x.length (i := 0) (m := 0) (fun j _ hj => fin_nan (hfin j (by omega)))
 rw [show bigR x x.length 0 0 = bigV x from rfl] at b1 b2 b3
 by_cases h0 : bigV x = 0
 ·have hz : ∀ i, i < x.length → W (el x i) = 0 := fun i hi => by
   have := b2 i (Nat.zero_le _) (by omega)
   rw [h0] at this
   rw [← W_abs, show absV (el x i) = 0 by omega]
   exact W_zero_of (by decide)
  have hs : ∀ n, n ≤ x.length → sumA (fun i => W (el x i)) n = 0 := by
   intro n
   induction n with
   | zero => intro _; rfl
   | succ n ih => intro h; unfold sumA; rw [ih (by omega), hz n (by omega)]; grind
  rw [norm_zero h0, hs _ (Nat.le_refl _), W_zero_of (by decide)]
  grind
 ·obtain ⟨k, r, R⟩ := norm_root_g hx hl hfin (hexp h0) h0
  obtain ⟨i0, i1, i2⟩ : ∃ i0, i0 < x.length ∧ absV (el x i0) = bigV x := by
   rcases b3 with b3 | ⟨i0, _, i1, i2⟩
   ·exact absurd b3 h0
   ·exact ⟨i0, by omega, i2⟩
  clear b3
  obtain ⟨m1, m2, m3, m4⟩ := word_pos R.mf
  have hmm : fMag (bigV x) ≠ 0 := by have := mag_normal R.normal; unfold two52 at this; omega
  obtain ⟨w1, w2⟩ := expB_W m1 hmm
  rw [← R.kx] at w1 w2
  have hPk := Rat.le_of_lt (P2_pos (-k))
  have ha2 : ∀ i, i < x.length → W (el x i) * P2 (-k) ≤ 2 := fun i hi => by
   have hle : W (el x i) ≤ W (bigV x) := by
    rw [← W_abs (el x i), W_le (absV_lt _) (bigV_lt x)]
    exact b2 i (Nat.zero_le _) (by omega)
   have h1 := Rat.mul_le_mul_of_nonneg_right (Rat.le_trans hle (Rat.le_of_lt w2)) hPk
   rw [← P2_add, show k + 1 + -k = ((1 : Nat) : Int) by omega, P2_nat] at h1
   exact h1
  have hone : 1 ≤ W (el x i0) * P2 (-k) := by
   rw [← W_abs, i2]
   have h1 := Rat.mul_le_mul_of_nonneg_right w1 hPk
   rwa [← P2_add, show k + -k = 0 by omega, P2_zero] at h1
  have hA1 : 1 ≤ sumA (fun i => W (el x i) * P2 (-k)) x.length := by
   have h1 := sumA_ge (fun i => W (el x i) * P2 (-k)) i1
   have h2 := rat_sq_le (by grind) hone
   grind
  have z0 : W 0 = 0 := W_zero_of (by decide)
  obtain ⟨s1, s2⟩ := sums_err R.parts hl ha2 x.length (i := 0) (s := 0) (by omega) (by decide) (by rw [z0]; exact Rat.le_refl)
   (by rw [z0]; show (0 : Rat) ≤ 0 + _ * _ * 0 + 14 * ((0 : Nat) : Rat) * _; rw [show ((0 : Nat) : Rat) = 0 from rfl]; grind)
   (by rw [z0]; show (0 : Rat) ≤ 0 + _ * _ * 0 + 14 * ((0 : Nat) : Rat) * _; rw [show ((0 : Nat) : Rat) = 0 from rfl]; grind)
  rw [show sqrR x k x.length 0 0 = sqrV x k from rfl] at s1 s2
  obtain ⟨t1, t2⟩ := R.sums
  obtain ⟨n1, n2⟩ := eta_small
  have hn64 : (x.length : Rat) ≤ 64 := by
   have : (x.length : Rat) ≤ ((64 : Nat) : Rat) := Rat.natCast_le_natCast.2 hl
   exact this
  have hn0 : (0 : Rat) ≤ x.length := Rat.natCast_nonneg
  have hW256 : W (sqrV x k) ≤ 256 := by
   have : ((4 * x.length : Nat) : Rat) ≤ ((256 : Nat) : Rat) := Rat.natCast_le_natCast.2 (by omega)
   exact Rat.le_trans t2 this
  generalize hA : sumA (fun i => W (el x i) * P2 (-k)) x.length = A at *
  generalize (x.length : Rat) = n at *
  have e1 : n * A ≤ 64 * A := Rat.mul_le_mul_of_nonneg_right hn64 (by grind)
  have e2 : n * P2 (-1075) ≤ 64 * P2 (-1075) := Rat.mul_le_mul_of_nonneg_right hn64 n1
  have u1 : W (sqrV x k) ≤ A + 135 * (1 / 9007199254740992) * A := by grind
  have u2 : A ≤ W (sqrV x k) + 135 * (1 / 9007199254740992) * A := by grind
  have hr := R.rf
  rw [R.rx] at hr
  obtain ⟨v1, v2⟩ := root_err t1 (by grind) (by grind) hr
  rw [← R.rx] at v1 v2
  obtain ⟨p1, p2, p3, p4⟩ := word_pos R.rf
  obtain ⟨q0, q1, q2, q3⟩ := root_exp R.rf R.one R.le
  have hk := R.hk
  obtain ⟨c1, c2, c3, c4, c5, c6⟩ := scale_exact p3 q3 p1 (k := k) (by omega) (by omega) (by omega)
  rw [← R.eq] at c5
  have hS := sumA_scale x k x.length
  rw [hA] at hS
  rw [c5, ← hS]
  have f1 : W r * W r ≤ A + 150 * (1 / 9007199254740992) * A := by
   generalize W r * W r = rr at *
   grind
  have f2 : A ≤ W r * W r + 150 * (1 / 9007199254740992) * A := by
   generalize W r * W r = rr at *
   grind
  have hPP := rat_sq_nonneg (P2 k)
  have g1 := Rat.mul_le_mul_of_nonneg_right f1 hPP
  have g2 := Rat.mul_le_mul_of_nonneg_right f2 hPP
  have e3 : W r * P2 k * (W r * P2 k) = W r * W r * (P2 k * P2 k) := by grind
  rw [e3]
  constructor <;> grind
theorem dz : dS 0 0 = Vb false ∧ dL 0 0 = wl [] ∧ dE 0 0 = Vi 0 := by
 refine ⟨by rw [dS_ok]; rfl, ?_, ?_⟩
 ·unfold dL; rw [od_zero]; unfold bL; rw [show (0 : Int).natAbs = 0 from rfl, dig_zero]
 ·unfold dE; simp [ev]
theorem W_sx (b : Nat) : DV (sx b) (fPl b) * DV (sx b) (fPl b) = W b * W b := by
 have h : (sx b : Int) * sx b = ((fMag b * fMag b : Nat) : Int) := by unfold sx sg; split <;> simp [Int.neg_mul_neg]
 rw [← DV_mul, h]
 unfold W
 rw [D_mul]
 unfold DV D
 rw [Rat.intCast_natCast]
theorem squares_loop {x : List Nat} (hx : Words x) (hl : x.length ≤ 1000) : ∀ (n : Nat) {i : Nat} {X E : Int}, i + n = x.length → DBs X E 2200 (2200 + i) → DV X E = sumA (fun i => W (el x i)) i →
  ∃ X' E', rounds (fun vs => lo162_1.dv (Vl x :: vs)) [Vi i, dS X E, dL X E, dE X E] = some (.y (.ext 0) [dS X' E', dL X' E', dE X' E']) ∧ DBs X' E' 2200 (2200 + x.length) ∧ DV X' E' = sumA (fun i => W (el x i)) x.length := by
 intro n
 induction n with
 | zero =>
  intro i X E hi hB hv
  have : i = x.length := by omega
  subst this
  refine ⟨X, E, rounds_exit ?_ (by simp), hB, hv⟩
  simp [lo162_1, TT.dv]
 | succ n ih =>
  intro i X E hi hB hv
  have hlt : i < x.length := by omega
  have e1 : (B.add .i64).den (Vi i) (Vi 1) = Vi (i + 1) := add_i (by omega) (by omega)
  have g1 := get_V (x := x) hlt
  have v1 := value_ok (hx.el i)
  have m1 := mulD_ok (DB.word (el x i)) (DB.word (el x i))
  have hm := (DBs.word (el x i)).mul (DBs.word (el x i))
  have a1 := addD_ok (hB.db (by omega) (by omega)) (hm.db (by omega) (by omega))
  have hB' := hB.add (hm.mono (E' := 2200) (T' := 2200 + i) (by omega) (by omega))
  obtain ⟨X', E', h1, h2, h3⟩ := ih (i := i + 1) (X := dadd X E (sx (el x i) * sx (el x i)) (fPl (el x i) + fPl (el x i))) (E := min E (fPl (el x i) + fPl (el x i))) (by omega) hB' (by
   rw [DV_dadd, hv, DV_mul, W_sx]; rfl)
  refine ⟨X', E', Eq.trans (rounds_cont ?_) h1, h2, h3⟩
  simp [lo162_1, TT.dv, hlt, e1, g1, v1, m1, a1]
theorem squares_ok {x : List Nat} (hx : Words x) (hl : x.length ≤ 1000) : ∃ X E, val 162 [Vl x] = some [dS X E, dL X E, dE X E] ∧ DBs X E 2200 (2200 + x.length) ∧ DV X E = sumA (fun i => W (el x i)) x.length := by
 obtain ⟨X, E, h1, h2, h3⟩ := squares_loop hx hl x.length (i := 0) (X := 0) (E := 0) (by omega) ⟨by omega, by omega, by rw [show (0 : Int).natAbs = 0 from rfl, bl_zero]; omega⟩ (by unfold DV sumA; rw [Rat.intCast_zero]; exact Rat.zero_mul _)
 refine ⟨X, E, val_of tab162 ?_, h2, h3⟩
 obtain ⟨z1, z2, z3⟩ := dz
 rw [z1, z2, z3, show ((0 : Nat) : Int) = 0 from rfl, wl_nil_V] at h1
 simp [tr162, TT.dv, KS.dv, h1]
theorem quo_q {m n : Nat} (hm : m ≠ 0) (hn : n ≠ 0) (h : 54 + n.log2 ≥ m.log2) : 2 ^ 53 ≤ m * 2 ^ quoK m n / n := by
 have hk : quoK m n = 54 + n.log2 - m.log2 := rfl
 rw [Nat.le_div_iff_mul_le (Nat.pos_of_ne_zero hn)]
 have h1 := Nat.mul_le_mul_right (2 ^ quoK m n) (Nat.log2_self_le hm)
 rw [← Nat.pow_add] at h1
 have h2 : 2 ^ 53 * n ≤ 2 ^ 53 * 2 ^ (n.log2 + 1) := Nat.mul_le_mul_left _ (Nat.le_of_lt Nat.lt_log2_self)
 rw [← Nat.pow_add] at h2
 rw [show m.log2 + quoK m n = 53 + (n.log2 + 1) by rw [hk]; omega] at h1
 exact Nat.le_trans h2 h1
theorem quo_val {m n : Nat} (hm : m ≠ 0) (hn : n ≠ 0) (hm2 : m < 9007199254740992) (i j : Int) :
  D (quoN m n (quoK m n)) (i - j - quoK m n - 1) * D n j ≤ D m i + D m i * (1 / 18014398509481984) ∧ D m i ≤ D (quoN m n (quoK m n)) (i - j - quoK m n - 1) * D n j + D m i * (1 / 18014398509481984) := by
 have hlm : m.log2 ≤ 52 := by have := (Nat.log2_lt hm).2 (show m < 2 ^ 53 from hm2); omega
 have hq := quo_q hm hn (by omega)
 generalize hK : quoK m n = K at *
 have h1 := Nat.div_add_mod (m * 2 ^ K) n
 have h2 := Nat.mod_lt (m * 2 ^ K) (Nat.pos_of_ne_zero hn)
 have key : quoN m n K * n ≤ 2 * (m * 2 ^ K) + n ∧ 2 * (m * 2 ^ K) ≤ quoN m n K * n + n ∧ 18014398509481984 * n ≤ 2 * (m * 2 ^ K) := by
  unfold quoN
  have h3 : 9007199254740992 * n ≤ m * 2 ^ K / n * n := Nat.mul_le_mul_right n hq
  rw [Nat.mul_comm n] at h1
  generalize m * 2 ^ K = M at *
  have e1 : (2 * (M / n) + (decide (M % n ≠ 0)).toNat) * n = 2 * (M / n * n) + (decide (M % n ≠ 0)).toNat * n := by rw [Nat.add_mul, Nat.mul_assoc]
  rw [e1]
  generalize M / n * n = qn at *
  by_cases hr : M % n = 0
  ·simp only [hr, ne_eq, not_true_eq_false, decide_false, Bool.toNat_false, Nat.zero_mul]; omega
  ·simp only [hr, ne_eq, not_false_eq_true, decide_true, Bool.toNat_true, Nat.one_mul]; omega
 obtain ⟨k1, k2, k3⟩ := key
 have hM : ((2 * (m * 2 ^ K) : Nat) : Rat) * P2 (i - K - 1) = D m i := by
  have e := D_scale m i (K + 1)
  rw [show m * 2 ^ (K + 1) = 2 * (m * 2 ^ K) by rw [Nat.pow_succ, ← Nat.mul_assoc, Nat.mul_comm], show i - ((K + 1 : Nat) : Int) = i - K - 1 by omega] at e
  exact e
 have hQ : D (quoN m n K) (i - j - K - 1) * D n j = ((quoN m n K * n : Nat) : Rat) * P2 (i - K - 1) := by
  rw [D_mul]; unfold D; exact congrArg _ (congrArg P2 (by omega))
 have r1 : ((quoN m n K * n : Nat) : Rat) ≤ ((2 * (m * 2 ^ K) + n : Nat) : Rat) := Rat.natCast_le_natCast.2 k1
 have r2 : ((2 * (m * 2 ^ K) : Nat) : Rat) ≤ ((quoN m n K * n + n : Nat) : Rat) := Rat.natCast_le_natCast.2 k2
 have r3 : ((18014398509481984 * n : Nat) : Rat) ≤ ((2 * (m * 2 ^ K) : Nat) : Rat) := Rat.natCast_le_natCast.2 k3
 rw [Rat.natCast_add] at r1 r2
 rw [Rat.natCast_mul 18014398509481984 n, show ((18014398509481984 : Nat) : Rat) = 18014398509481984 from rfl] at r3
 rw [hQ, ← hM]
 generalize ((quoN m n K * n : Nat) : Rat) = z at *
 generalize ((2 * (m * 2 ^ K) : Nat) : Rat) = y at *
 generalize (n : Rat) = w at *
 have hP := Rat.le_of_lt (P2_pos (i - K - 1))
 have s1 : z ≤ y + y * (1 / 18014398509481984) := by grind
 have s2 : y ≤ z + y * (1 / 18014398509481984) := by grind
 have t1 := Rat.mul_le_mul_of_nonneg_right s1 hP
 have t2 := Rat.mul_le_mul_of_nonneg_right s2 hP
 constructor <;> grind
def sv (b : Nat) : Rat := DV (sx b) (fPl b)
theorem sv_pos {b : Nat} (h : fNeg b = false) : sv b = W b := DV_sx h
theorem sv_neg {b : Nat} (h : fNeg b = true) : sv b = -W b := by
 unfold sv DV sx sg W D; rw [h]; simp only [if_true]; rw [Rat.intCast_neg, Rat.intCast_natCast]; grind
theorem sv_zero {b : Nat} (h : fMag b = 0) : sv b = 0 := by
 cases hn : fNeg b
 ·rw [sv_pos hn, W_zero_of h]
 ·rw [sv_neg hn, W_zero_of h]; grind
theorem sv_minus {b : Nat} (hb : b < 18446744073709551616) : sv (fMinus b) = -sv b := by
 obtain ⟨m1, m2, m3, m4⟩ := minus_neg hb
 have hW : W (fMinus b) = W b := by unfold W fMag fPl; rw [m2, m3]
 cases hn : fNeg b
 ·rw [hn] at m1; rw [sv_neg m1, sv_pos hn, hW]
 ·rw [hn] at m1; rw [sv_pos m1, sv_neg hn, hW]; grind
def sumP (p : Nat → Rat) : Nat → Rat
 | 0 => 0
 | n + 1 => sumP p n + p n
theorem dot11_loop {x y : List Nat} (hx : Words x) (hy : Words y) (hxy : x.length ≤ y.length) (hl : x.length ≤ 1000) : ∀ (n : Nat) {i : Nat} {X E : Int}, i + n = x.length → DBs X E 2200 (2200 + i) → DV X E = sumP (fun i => sv (el x i) * sv (el y i)) i →
  ∃ X' E', rounds (fun vs => lo179_1.dv (Vl x :: Vl y :: vs)) [Vi i, dS X E, dL X E, dE X E] = some (.y (.ext 0) [dS X' E', dL X' E', dE X' E']) ∧ DBs X' E' 2200 (2200 + x.length) ∧ DV X' E' = sumP (fun i => sv (el x i) * sv (el y i)) x.length := by
 intro n
 induction n with
 | zero =>
  intro i X E hi hB hv
  have : i = x.length := by omega
  subst this
  refine ⟨X, E, rounds_exit ?_ (by simp), hB, hv⟩
  simp [lo179_1, TT.dv]
 | succ n ih =>
  intro i X E hi hB hv
  have hlt : i < x.length := by omega
  have hlt2 : i < y.length := by omega
  have e1 : (B.add .i64).den (Vi i) (Vi 1) = Vi (i + 1) := add_i (by omega) (by omega)
  have g1 := get_V (x := x) hlt
  have g2 := get_V (x := y) hlt2
  have v1 := value_ok (hx.el i)
  have v2 := value_ok (hy.el i)
  have m1 := mulD_ok (DB.word (el x i)) (DB.word (el y i))
  have hm := (DBs.word (el x i)).mul (DBs.word (el y i))
  have a1 := addD_ok (hB.db (by omega) (by omega)) (hm.db (by omega) (by omega))
  have hB' := hB.add (hm.mono (E' := 2200) (T' := 2200 + i) (by omega) (by omega))
  obtain ⟨X', E', h1, h2, h3⟩ := ih (i := i + 1) (X := dadd X E (sx (el x i) * sx (el y i)) (fPl (el x i) + fPl (el y i))) (E := min E (fPl (el x i) + fPl (el y i))) (by omega) hB' (by
   rw [DV_dadd, hv, DV_mul]; rfl)
  refine ⟨X', E', Eq.trans (rounds_cont ?_) h1, h2, h3⟩
  simp [lo179_1, TT.dv, hlt, hlt2, e1, g1, g2, v1, v2, m1, a1]
theorem dot11_ok {x y : List Nat} (hx : Words x) (hy : Words y) (hxy : x.length ≤ y.length) (hl : x.length ≤ 1000) : ∃ X E, val 179 [Vl x, Vl y] = some [dS X E, dL X E, dE X E] ∧ DBs X E 2200 (2200 + x.length) ∧ DV X E = sumP (fun i => sv (el x i) * sv (el y i)) x.length := by
 obtain ⟨X, E, h1, h2, h3⟩ := dot11_loop hx hy hxy hl x.length (i := 0) (X := 0) (E := 0) (by omega) ⟨by omega, by omega, by rw [show (0 : Int).natAbs = 0 from rfl, bl_zero]; omega⟩ (by unfold DV sumP; rw [Rat.intCast_zero]; exact Rat.zero_mul _)
 refine ⟨X, E, val_of tab179 ?_, h2, h3⟩
 obtain ⟨z1, z2, z3⟩ := dz
 rw [z1, z2, z3, show ((0 : Nat) : Int) = 0 from rfl, wl_nil_V] at h1
 simp [tr179, TT.dv, KS.dv, h1]
theorem W_one : W 4607182418800017408 = 1 := by
 unfold W D
 rw [show fMag 4607182418800017408 = 2 ^ 52 from by decide, show fPl 4607182418800017408 = -52 from by decide, ← P2_nat, ← P2_add, show ((52 : Nat) : Int) + -52 = 0 by omega, P2_zero]
theorem sv_cases (b : Nat) : (fNeg b = false ∧ sv b = W b) ∨ (fNeg b = true ∧ sv b = -W b) := by
 cases h : fNeg b
 ·exact .inl ⟨rfl, sv_pos h⟩
 ·exact .inr ⟨rfl, sv_neg h⟩
theorem sv_of {b : Nat} {s : Bool} (h : fNeg b = s) : sv b = if s then -W b else W b := by
 cases s
 ·exact sv_pos h
 ·exact sv_neg h
theorem sv_one : sv 4607182418800017408 = 1 := by rw [sv_pos (by decide), W_one]
def ps (i c k : Nat) : Nat := i * c + k
theorem ps_lt {i c k r : Nat} (hi : i < r) (hk : k < c) : ps i c k < r * c := by
 unfold ps
 have h1 : (i + 1) * c ≤ r * c := Nat.mul_le_mul_right c hi
 rw [Nat.add_mul, Nat.one_mul] at h1
 omega
theorem ps_inj {i c k i' k' : Nat} (hk : k < c) (hk' : k' < c) (h : ps i c k = ps i' c k') : i = i' ∧ k = k' := by
 unfold ps at h
 have h1 : (i * c + k) / c = i := by rw [Nat.mul_comm, Nat.mul_add_div (by omega), Nat.div_eq_of_lt hk, Nat.add_zero]
 have h2 : (i' * c + k') / c = i' := by rw [Nat.mul_comm, Nat.mul_add_div (by omega), Nat.div_eq_of_lt hk', Nat.add_zero]
 have h3 : i = i' := by rw [← h1, ← h2, h]
 subst h3
 exact ⟨rfl, by omega⟩
theorem pos_i {i c k : Nat} (hi : i < 100) (hc : c ≤ 100) (hk : k ≤ 100) : (B.add .i64).den ((B.mul .i64).den (Vi i) (Vi c)) (Vi k) = Vi (ps i c k) := by
 have h1 : i * c ≤ 100 * 100 := Nat.mul_le_mul (by omega) hc
 have h2 : (i : Int) * c = ((i * c : Nat) : Int) := by rw [Int.natCast_mul]
 rw [mul_i (by rw [h2]; omega) (by rw [h2]; omega), h2, add_i (by omega) (by omega)]
 unfold ps
 exact congrArg Vi (by omega)
structure Mx (r c : Nat) (x : List Nat) : Prop where
 hr : r ≤ 6
 hc : c ≤ 6
 len : x.length = r * c
 w : Words x
theorem Mx.lt {r c : Nat} {x : List Nat} (h : Mx r c x) {i k : Nat} (hi : i < r) (hk : k < c) : ps i c k < x.length := by rw [h.len]; exact ps_lt hi hk
theorem Mx.small {r c : Nat} {x : List Nat} (h : Mx r c x) : x.length ≤ 36 := by
 rw [h.len]; exact Nat.mul_le_mul h.hr h.hc
theorem Mx.set {r c : Nat} {x : List Nat} (h : Mx r c x) {p v : Nat} (hv : v < 18446744073709551616) : Mx r c (x.set p v) := ⟨h.hr, h.hc, by rw [List.length_set, h.len], h.w.set hv⟩
def rightP (R C : Int) (x : List Nat) : Prop := 0 ≤ R ∧ R ≤ 6 ∧ 0 ≤ C ∧ C ≤ 6 ∧ (x.length : Int) = R * C
instance (R C : Int) (x : List Nat) : Decidable (rightP R C x) := by unfold rightP; exact inferInstance
theorem right_mx {R C : Int} {x : List Nat} (h : rightP R C x) (hw : Words x) : ∃ r c : Nat, R = r ∧ C = c ∧ Mx r c x := by
 obtain ⟨h1, h2, h3, h4, h5⟩ := h
 refine ⟨R.toNat, C.toNat, by omega, by omega, by omega, by omega, ?_, hw⟩
 have e1 : R = R.toNat := by omega
 have e2 : C = C.toNat := by omega
 rw [e1, e2, ← Int.natCast_mul] at h5
 omega
theorem mx_right {r c : Nat} {x : List Nat} (h : Mx r c x) : rightP r c x :=
 ⟨by omega, by have := h.hr; omega, by omega, by have := h.hc; omega, by rw [h.len, Int.natCast_mul]⟩
theorem size_ok (n : Int) : val 259 [Vi n] = some [Vb (decide (0 ≤ n ∧ n ≤ 6))] := by
 refine val_of tab259 ?_
 simp [tr259, TT.dv]
theorem small_mul {R C : Int} (h1 : 0 ≤ R ∧ R ≤ 6) (h2 : 0 ≤ C ∧ C ≤ 6) : (B.mul .i64).den (Vi R) (Vi C) = Vi (R * C) := by
 have h3 : R * C ≤ 6 * 6 := Int.mul_le_mul h1.2 h2.2 h2.1 (by omega)
 have h4 : 0 ≤ R * C := Int.mul_nonneg h1.1 h2.1
 exact mul_i (by omega) (by omega)
theorem check_ok (R C : Int) (x : List Nat) : val 246 [Vi R, Vi C, Vl x] = some [Vi (if rightP R C x then 0 else 1)] := by
 refine val_of tab246 ?_
 have s1 := size_ok R
 have s2 := size_ok C
 by_cases h1 : 0 ≤ R ∧ R ≤ 6
 ·rw [decide_eq_true h1] at s1
  by_cases h2 : 0 ≤ C ∧ C ≤ 6
  ·rw [decide_eq_true h2] at s2
   have hm := small_mul h1 h2
   by_cases h3 : (x.length : Int) = R * C
   ·rw [if_pos (show rightP R C x from ⟨h1.1, h1.2, h2.1, h2.2, h3⟩)]
    simp [tr246, TT.dv, s1, s2, hm, h3]
   ·rw [if_neg (show ¬ rightP R C x from fun h => h3 h.2.2.2.2)]
    simp [tr246, TT.dv, s1, s2, hm, h3]
  ·rw [decide_eq_false h2] at s2
   rw [if_neg (show ¬ rightP R C x from fun h => h2 ⟨h.2.2.1, h.2.2.2.1⟩)]
   simp [tr246, TT.dv, s1, s2]
 ·rw [decide_eq_false h1] at s1
  rw [if_neg (show ¬ rightP R C x from fun h => h1 ⟨h.1, h.2.1⟩)]
  simp [tr246, TT.dv, s1]
theorem right_ok10 (R C : Int) (x : List Nat) : val 172 [Vi R, Vi C, Vl x] = some [Vb (decide (rightP R C x))] := by
 refine val_of tab172 ?_
 by_cases h1 : 0 ≤ R ∧ R ≤ 6
 ·by_cases h2 : 0 ≤ C ∧ C ≤ 6
  ·have hm := small_mul h1 h2
   by_cases h3 : (x.length : Int) = R * C
   ·rw [decide_eq_true (show rightP R C x from ⟨h1.1, h1.2, h2.1, h2.2, h3⟩)]
    simp [tr172, TT.dv, hm, h1.1, h1.2, h2.1, h2.2, h3]
   ·rw [decide_eq_false (show ¬ rightP R C x from fun h => h3 h.2.2.2.2)]
    simp [tr172, TT.dv, hm, h1.1, h1.2, h2.1, h2.2, h3]
  ·rw [decide_eq_false (show ¬ rightP R C x from fun h => h2 ⟨h.2.2.1, h.2.2.2.1⟩)]
   by_cases h3 : 0 ≤ C
   ·have h4 : ¬ C ≤ 6 := fun h => h2 ⟨h3, h⟩
    simp [tr172, TT.dv, h1.1, h1.2, h3, h4]
   ·simp [tr172, TT.dv, h1.1, h1.2, h3]
 ·rw [decide_eq_false (show ¬ rightP R C x from fun h => h1 ⟨h.1, h.2.1⟩)]
  by_cases h3 : 0 ≤ R
  ·have h4 : ¬ R ≤ 6 := fun h => h1 ⟨h3, h⟩
   simp [tr172, TT.dv, h3, h4]
  ·simp [tr172, TT.dv, h3]
section
variable {r c : Nat} {x : List Nat} (h : Mx r c x)
include h
theorem at_ok {i k : Nat} (hi : i < r) (hk : k < c) : val 166 [Vi r, Vi c, Vl x, Vi i, Vi k] = some [Vu (el x (ps i c k))] := by
 refine val_of tab166 ?_
 have h1 := h.hr
 have h2 := h.hc
 have e1 := pos_i (i := i) (c := c) (k := k) (by omega) (by omega) (by omega)
 have hl := h.lt hi hk
 simp [tr166, TT.dv, e1, hl, get_V hl]
theorem get_ok {i k : Nat} (hi : i < r) (hk : k < c) : val 257 [Vi r, Vi c, Vl x, Vi i, Vi k] = some [Vu (el x (ps i c k))] := by
 refine val_of tab257 ?_
 have h1 := h.hr
 have h2 := h.hc
 have e1 := pos_i (i := i) (c := c) (k := k) (by omega) (by omega) (by omega)
 have hl := h.lt hi hk
 simp [tr257, TT.dv, e1, hl, get_V hl]
end
theorem rep_V (n a : Nat) : B.rep.den (Vi n) (Vu a) = Vl (List.replicate n a) := by
 show PV.l (List.replicate (Vi n).int.toNat (Vu a)) = _
 rw [int_I, Int.toNat_natCast, Vl, List.map_replicate]
def matL (g : Nat → Nat → Nat) (r c : Nat) : List Nat := (List.range r).flatMap fun i => mk (g i) c
theorem matL_succ (g : Nat → Nat → Nat) (r c : Nat) : matL g r c ++ mk (g r) c = matL g (r + 1) c := by
 unfold matL; rw [List.range_succ, List.flatMap_append]; simp
theorem matL_len (g : Nat → Nat → Nat) (r c : Nat) : (matL g r c).length = r * c := by
 induction r with
 | zero => simp [matL]
 | succ r ih => rw [← matL_succ, List.length_append, ih, mk_len, Nat.add_mul, Nat.one_mul]
theorem el_app {x y : List Nat} (i : Nat) : el (x ++ y) i = if i < x.length then el x i else el y (i - x.length) := by
 unfold el
 rw [List.getD_eq_getElem?_getD, List.getD_eq_getElem?_getD, List.getD_eq_getElem?_getD]
 by_cases h : i < x.length
 ·rw [if_pos h, List.getElem?_append_left h]
 ·rw [if_neg h, List.getElem?_append_right (by omega)]
theorem el_matL (g : Nat → Nat → Nat) {c : Nat} : ∀ {r i k : Nat}, i < r → k < c → el (matL g r c) (ps i c k) = g i k := by
 intro r
 induction r with
 | zero => intro i k hi; omega
 | succ r ih =>
  intro i k hi hk
  rw [← matL_succ, el_app, matL_len]
  by_cases h : i < r
  ·rw [if_pos (ps_lt h hk)]; exact ih h hk
  ·have : i = r := by omega
   subst this
   unfold ps
   rw [if_neg (by omega), Nat.add_sub_cancel_left]
   unfold el mk
   rw [List.getD_eq_getElem?_getD, List.getElem?_map, List.getElem?_range hk]; rfl
theorem matL_mx {g : Nat → Nat → Nat} {r c : Nat} (hr : r ≤ 6) (hc : c ≤ 6) (h : ∀ i k, i < r → k < c → g i k < 18446744073709551616) : Mx r c (matL g r c) := by
 refine ⟨hr, hc, matL_len g r c, fun a ha => ?_⟩
 unfold matL at ha
 obtain ⟨i, hi, h1⟩ := List.mem_flatMap.1 ha
 obtain ⟨k, hk, rfl⟩ := List.mem_map.1 h1
 exact h i k (by simpa using hi) (by simpa using hk)
section
variable {f r c : Nat} {caps : List PV} {g : Nat → Nat → Nat} (hr : r ≤ 6) (hc : c ≤ 6) (h : ∀ i k : Nat, i < r → k < c → val f (Vi i :: Vi k :: caps) = some [Vu (g i k)])
include hr hc h
theorem of_inner {x4 : PV} {acc : List Nat} (ha : acc.length ≤ 1000) {i : Nat} (hi : i < r) : ∀ (n : Nat) {k : Nat}, k + n = c →
  rounds (fun vs => lo258_2.dv (Vi r :: Vi c :: fnP f caps :: Vi i :: x4 :: vs)) [Vi k, Vl (acc ++ mk (g i) k)] = some (.y (.ext 2) [Vl (acc ++ mk (g i) c)]) := by
 intro n
 induction n with
 | zero =>
  intro k hk
  have : k = c := by omega
  subst this
  refine rounds_exit ?_ (by simp)
  simp [lo258_2, TT.dv]
 | succ n ih =>
  intro k hk
  refine Eq.trans (rounds_cont ?_) (ih (k := k + 1) (by omega))
  have e1 : (B.add .i64).den (Vi k) (Vi 1) = Vi (k + 1) := add_i (by omega) (by omega)
  have h1 := h i k hi (by omega)
  have a1 := app_V (acc ++ mk (g i) k) (g i k)
  rw [List.append_assoc, mk_succ] at a1
  have l2 : ((acc.length : Int) + (k + 1)) ≤ 17592186044416 := by omega
  simp [lo258_2, TT.dv, fnP, show k < c by omega, h1, e1, a1, l2]
theorem of_outer : ∀ (n : Nat) {i : Nat}, i + n = r →
  rounds (fun vs => lo258_1.dv (Vi r :: Vi c :: fnP f caps :: vs)) [Vi i, Vl (matL g i c)] = some (.y (.ext 0) [Vl (matL g r c)]) := by
 intro n
 induction n with
 | zero =>
  intro i hi
  have : i = r := by omega
  subst this
  refine rounds_exit ?_ (by simp)
  simp [lo258_1, TT.dv]
 | succ n ih =>
  intro i hi
  refine Eq.trans (rounds_cont ?_) (ih (i := i + 1) (by omega))
  have e1 : (B.add .i64).den (Vi i) (Vi 1) = Vi (i + 1) := add_i (by omega) (by omega)
  have hl : (matL g i c).length ≤ 1000 := by
   rw [matL_len]
   have : i * c ≤ 6 * 6 := Nat.mul_le_mul (by omega) hc
   omega
  have hin := of_inner hr hc h (x4 := Vl (matL g i c)) hl (i := i) (by omega) c (k := 0) (by omega)
  rw [show ((0 : Nat) : Int) = 0 from rfl, show mk (g i) 0 = [] from rfl, List.append_nil, matL_succ] at hin
  simp [lo258_1, TT.dv, KS.dv, show i < r by omega, hin, e1]
theorem mof_ok : val 258 [Vi r, Vi c, fnP f caps] = some [Vi r, Vi c, Vl (matL g r c)] := by
 refine val_of tab258 ?_
 have hlp := of_outer hr hc h r (i := 0) (by omega)
 rw [show ((0 : Nat) : Int) = 0 from rfl, show matL g 0 c = [] from rfl] at hlp
 simp [tr258, TT.dv, KS.dv, hlp]
end
theorem el_set (x : List Nat) (p v q : Nat) : el (x.set p v) q = if p = q ∧ p < x.length then v else el x q := by
 unfold el
 rw [List.getD_eq_getElem?_getD, List.getD_eq_getElem?_getD, List.getElem?_set]
 by_cases h : p = q
 ·subst h
  by_cases h2 : p < x.length
  ·simp [h2]
  ·simp [h2, List.getElem?_eq_none (show x.length ≤ p by omega)]
 ·simp [h]
def tpG (x : List Nat) (c : Nat) (i k : Nat) : Nat := el x (ps k c i)
def tpV (r c : Nat) (x : List Nat) : List Nat := matL (tpG x c) c r
section
variable {r c : Nat} {x : List Nat} (h : Mx r c x)
include h
theorem tpV_mx : Mx c r (tpV r c x) := matL_mx h.hc h.hr fun i k _ _ => h.w.el _
theorem tp_ok : val 255 [Vi r, Vi c, Vl x] = some [Vi c, Vi r, Vl (tpV r c x), Vi 0] := by
 refine val_of tab255 ?_
 have h1 := check_ok r c x
 rw [if_pos (mx_right h)] at h1
 have h2 := mof_ok (f := 256) (r := c) (c := r) (caps := [.a [Vi r, Vi c, Vl x]]) (g := tpG x c) h.hc h.hr fun i k hi hk => by
  refine val_of tab256 ?_
  have hg := get_ok h hk hi
  have e0 : (U.fld 1).den (PV.a [Vi r, Vi c, Vl x]) = Vi c := rfl
  have e2 : (U.fld 2).den (PV.a [Vi r, Vi c, Vl x]) = Vl x := rfl
  simp [tr256, TT.dv, e0, e2, hg, tpG]
 have e1 : B.cons.den (U.toA.den (B.cons.den (Vi r) (B.cons.den (Vi c) (B.cons.den (Vl x) (Vl []))))) (Vl []) = .l [.a [Vi r, Vi c, Vl x]] := rfl
 simp [tr255, TT.dv, h1, e1, mkfn_l, h2, tpV]
end
def rowR (x : List Nat) (cc i k C S : Nat) : Nat → Nat → List Nat → List Nat
 | 0, _, m => m
 | n + 1, j, m => rowR x cc i k C S n (j + 1) ((m.set (ps i cc j) (addV (mulV C (el x (ps i cc j))) (mulV S (el x (ps k cc j))))).set (ps k cc j) (subV (mulV C (el x (ps k cc j))) (mulV S (el x (ps i cc j)))))
def rowV (x : List Nat) (cc i k C S : Nat) : List Nat := rowR x cc i k C S cc 0 x
theorem rowR_mx {x : List Nat} {r c i k C S : Nat} : ∀ (n j : Nat) {m : List Nat}, Mx r c m → Mx r c (rowR x c i k C S n j m)
 | 0, _, _, h => h
 | n + 1, j, m, h => rowR_mx n (j + 1) ((h.set (addV_lt mulV_lt mulV_lt)).set (subV_lt mulV_lt mulV_lt))
section
variable {r c : Nat} {x : List Nat} (h : Mx r c x) {C S : Nat} (hC : C < 18446744073709551616) (hS : S < 18446744073709551616) {i k : Nat} (hi : i < r) (hk : k < r)
include h hC hS hi hk
theorem rows_loop {x7 : PV} : ∀ (n : Nat) {j : Nat} {m : List Nat}, j + n = c → Mx r c m →
  rounds (fun vs => lo231_1.dv (Vi r :: Vi c :: Vl x :: Vi i :: Vi k :: Vu C :: Vu S :: x7 :: vs)) [Vi j, Vl m] = some (.y (.ext 0) [Vl (rowR x c i k C S n j m)]) := by
 intro n
 induction n with
 | zero =>
  intro j m hj hm
  have : j = c := by omega
  subst this
  refine rounds_exit ?_ (by simp)
  simp [lo231_1, TT.dv, rowR]
 | succ n ih =>
  intro j m hj hm
  have hjc : j < c := by omega
  have h1 := h.hc
  have h2 := h.hr
  have hm2 := (hm.set (p := ps i c j) (addV_lt (mulV_lt (a := C) (b := el x (ps i c j))) (mulV_lt (a := S) (b := el x (ps k c j)))))
  refine Eq.trans (rounds_cont ?_) (ih (j := j + 1) (by omega) (hm2.set (p := ps k c j) (subV_lt (mulV_lt (a := C) (b := el x (ps k c j))) (mulV_lt (a := S) (b := el x (ps i c j))))))
  have e1 : (B.add .i64).den (Vi j) (Vi 1) = Vi (j + 1) := add_i (by omega) (by omega)
  have p1 := pos_i (i := i) (c := c) (k := j) (by omega) (by omega) (by omega)
  have p2 := pos_i (i := k) (c := c) (k := j) (by omega) (by omega) (by omega)
  have l1 := h.lt hi hjc
  have l2 := h.lt hk hjc
  have l3 := hm.lt hi hjc
  have l4 := hm.lt hk hjc
  have g1 := get_V l1
  have g2 := get_V l2
  have m1 := vmul_ok hC (h.w.el (ps i c j))
  have m2 := vmul_ok hS (h.w.el (ps k c j))
  have m3 := vmul_ok hC (h.w.el (ps k c j))
  have m4 := vmul_ok hS (h.w.el (ps i c j))
  have a1 := vadd_ok (mulV_lt (a := C) (b := el x (ps i c j))) (mulV_lt (a := S) (b := el x (ps k c j)))
  have a2 := vsub_ok (mulV_lt (a := C) (b := el x (ps k c j))) (mulV_lt (a := S) (b := el x (ps i c j)))
  simp [lo231_1, TT.dv, hjc, e1, p1, p2, l1, l2, l3, l4, g1, g2, m1, m2, m3, m4, a1, a2, set_V]
theorem rows_ok (hne : i ≠ k) : val 231 [Vi r, Vi c, Vl x, Vi i, Vi k, Vu C, Vu S] = some [Vi r, Vi c, Vl (rowV x c i k C S), Vi 0] := by
 refine val_of tab231 ?_
 have h1 := check_ok r c x
 rw [if_pos (mx_right h)] at h1
 have hs := h.small
 have hlp := rows_loop h hC hS hi hk (x7 := Vi 0) c (j := 0) (m := x) (by omega) h
 rw [show ((0 : Nat) : Int) = 0 from rfl] at hlp
 have e1 : B.copy.den (B.rep.den (Vi x.length) (Vu 0)) (Vl x) = Vl x := by
  rw [rep_V]
  show PV.l ((x.map Vu).take ((List.replicate x.length 0).map Vu).length ++ ((List.replicate x.length 0).map Vu).drop (x.map Vu).length) = _
  simp [Vl, List.take_of_length_le]
 have hne' : ¬ (i : Int) = k := by omega
 simp [tr231, TT.dv, KS.dv, h1, show ¬ (i : Int) < 0 by omega, show ¬ (k : Int) < 0 by omega, show ¬ r ≤ i by omega, show ¬ r ≤ k by omega, hne', show (x.length : Int) ≤ 17592186044416 by omega, e1, hlp, rowV]
theorem rowV_mx : Mx r c (rowV x c i k C S) := rowR_mx c 0 h
end
def colV (r c : Nat) (x : List Nat) (i k C S : Nat) : List Nat := tpV c r (rowV (tpV r c x) r i k C S)
section
variable {r c : Nat} {x : List Nat} (h : Mx r c x) {C S : Nat} (hC : C < 18446744073709551616) (hS : S < 18446744073709551616) {i k : Nat} (hi : i < c) (hk : k < c)
include h hC hS hi hk
theorem cols_ok (hne : i ≠ k) : val 230 [Vi r, Vi c, Vl x, Vi i, Vi k, Vu C, Vu S] = some [Vi r, Vi c, Vl (colV r c x i k C S), Vi 0] := by
 refine val_of tab230 ?_
 have h1 := tp_ok h
 have h2 := rows_ok (tpV_mx h) hC hS hi hk hne
 have h3 := tp_ok (rowV_mx (tpV_mx h) hC hS hi hk)
 simp [tr230, TT.dv, h1, h2, h3, colV]
theorem colV_mx : Mx r c (colV r c x i k C S) := tpV_mx (rowV_mx (tpV_mx h) hC hS hi hk)
end
theorem st_call {g : Exp} {f : Nat} {xs : List Exp} {n : Nat} {t : TT Unit} {ρ rs : List PV} (hg : g.isTrue ρ = true) (hv : val f (xs.map (Exp.den ρ)) = some rs) (hl : rs.length = n) : (TT.call g f xs n t).dv ρ = t.dv (ρ ++ rs) := by
 simp only [TT.dv, hg, hv, hl, if_true]
theorem st_skip {g : Exp} {f : Nat} {xs : List Exp} {n : Nat} {t : TT Unit} {ρ : List PV} (hg : g.isTrue ρ = false) : (TT.call g f xs n t).dv ρ = t.dv (ρ ++ List.replicate n default) := by
 simp only [TT.dv, hg, Bool.false_eq_true, if_false]
theorem st_t {c : Exp} {a b : TT Unit} {ρ : List PV} (hc : c.isTrue ρ = true) : (TT.ite c a b).dv ρ = a.dv ρ := by simp only [TT.dv, hc, if_true]
theorem st_f {c : Exp} {a b : TT Unit} {ρ : List PV} (hc : c.isTrue ρ = false) : (TT.ite c a b).dv ρ = b.dv ρ := by simp only [TT.dv, hc, Bool.false_eq_true, if_false]
theorem st_loop {init : List Exp} {t : TT Unit} {ks : KS Unit} {ρ vs : List PV} {x : Ex} (h : rounds (fun vs => t.dv (ρ ++ vs)) (init.map (Exp.den ρ)) = some (.y x vs)) : (TT.loop init t ks).dv ρ = ks.dv x vs ρ := by
 simp only [TT.dv, h]
theorem st_scope {t : TT Unit} {ks : KS Unit} {ρ vs : List PV} {x : Ex} (h : t.dv ρ = some (.y x vs)) : (TT.scope t ks).dv ρ = ks.dv x vs ρ := by
 simp only [TT.dv, h]
theorem st_hit {t : TT Unit} {ks : KS Unit} {ρ vs : List PV} {x : Ex} : (KS.cons x t ks).dv x vs ρ = t.dv (ρ ++ vs) := by
 simp only [KS.dv, if_true]
theorem st_miss {t : TT Unit} {ks : KS Unit} {ρ vs : List PV} {x y : Ex} (h : (x = y) = False) : (KS.cons x t ks).dv y vs ρ = ks.dv y vs ρ := by
 simp only [KS.dv, h, if_false]
def colG (x : List Nat) (c k from_ : Nat) (j : Nat) : Nat := el x (ps (from_ + j) c k)
def colL (r c : Nat) (x : List Nat) (k from_ : Nat) : List Nat := mk (colG x c k from_) (r - from_)
theorem colL_words {r c : Nat} {x : List Nat} (h : Mx r c x) (k from_ : Nat) : Words (colL r c x k from_) := mk_words fun _ _ => h.w.el _
@[simp] theorem colL_len (r c : Nat) (x : List Nat) (k from_ : Nat) : (colL r c x k from_).length = r - from_ := mk_len _ _
theorem el_colL {r c : Nat} {x : List Nat} {k f j : Nat} (h : j < r - f) : el (colL r c x k f) j = el x (ps (f + j) c k) := by
 unfold colL; rw [show el (mk (colG x c k f) (r - f)) j = colG x c k f j from by
  unfold el mk; rw [List.getD_eq_getElem?_getD, List.getElem?_map, List.getElem?_range h]; rfl]; rfl
section
variable {r c : Nat} {x : List Nat} (h : Mx r c x) {k f : Nat} (hk : k < c) (hf : f ≤ r)
include h hk hf
theorem column_ok : val 247 [Vi r, Vi c, Vl x, Vi k, Vi f] = some [Vl (colL r c x k f)] := by
 have hr := h.hr
 have lp : ∀ (n : Nat) {j : Nat}, j + n = r - f →
   rounds (fun vs => lo247_1.dv (Vi r :: Vi c :: Vl x :: Vi k :: Vi f :: vs)) [Vi ((f + j : Nat) : Int), Vl (mk (colG x c k f) j)] = some (.y (.ext 0) [Vl (colL r c x k f)]) := by
  intro n
  induction n with
  | zero =>
   intro j hj
   have : j = r - f := by omega
   subst this
   refine rounds_exit ?_ (by simp)
   have e : ¬ (((f + (r - f) : Nat) : Int) < (r : Int)) := by omega
   generalize ((f + (r - f) : Nat) : Int) = z at *
   simp [lo247_1, TT.dv, e, colL]
  | succ n ih =>
   intro j hj
   refine Eq.trans (rounds_cont ?_) (ih (j := j + 1) (by omega))
   have e1 : (B.add .i64).den (Vi ((f + j : Nat) : Int)) (Vi 1) = Vi ((f + (j + 1) : Nat) : Int) := by rw [add_i (by omega) (by omega)]; exact congrArg Vi (by omega)
   have g1 := get_ok h (i := f + j) (k := k) (by omega) hk
   have a1 := app_V (mk (colG x c k f) j) (colG x c k f j)
   rw [mk_succ] at a1
   have e2 : ((f + j : Nat) : Int) < (r : Int) := by omega
   have e3 : ((j : Int) + 1) ≤ 17592186044416 := by omega
   unfold colG at a1 ⊢
   generalize ((f + j : Nat) : Int) = z at *
   generalize ((f + (j + 1) : Nat) : Int) = z' at *
   simp [lo247_1, TT.dv, e1, e2, g1, a1, e3]
 refine val_of tab247 ?_
 have h0 := lp (r - f) (j := 0) (by omega)
 rw [Nat.add_zero, show mk (colG x c k f) 0 = [] from rfl] at h0
 simp [tr247, TT.dv, KS.dv, h0]
theorem column9_ok : val 167 [Vi r, Vi c, Vl x, Vi k, Vi f] = some [Vl (colL r c x k f)] := by
 have hr := h.hr
 have lp : ∀ (n : Nat) {j : Nat}, j + n = r - f →
   rounds (fun vs => lo167_1.dv (Vi r :: Vi c :: Vl x :: Vi k :: Vi f :: vs)) [Vi ((f + j : Nat) : Int), Vl (mk (colG x c k f) j)] = some (.y (.ext 0) [Vl (colL r c x k f)]) := by
  intro n
  induction n with
  | zero =>
   intro j hj
   have : j = r - f := by omega
   subst this
   refine rounds_exit ?_ (by simp)
   have e : ¬ (((f + (r - f) : Nat) : Int) < (r : Int)) := by omega
   generalize ((f + (r - f) : Nat) : Int) = z at *
   simp [lo167_1, TT.dv, e, colL]
  | succ n ih =>
   intro j hj
   refine Eq.trans (rounds_cont ?_) (ih (j := j + 1) (by omega))
   have e1 : (B.add .i64).den (Vi ((f + j : Nat) : Int)) (Vi 1) = Vi ((f + (j + 1) : Nat) : Int) := by rw [add_i (by omega) (by omega)]; exact congrArg Vi (by omega)
   have g1 := at_ok h (i := f + j) (k := k) (by omega) hk
   have a1 := app_V (mk (colG x c k f) j) (colG x c k f j)
   rw [mk_succ] at a1
   have e2 : ((f + j : Nat) : Int) < (r : Int) := by omega
   have e3 : ((j : Int) + 1) ≤ 17592186044416 := by omega
   unfold colG at a1 ⊢
   generalize ((f + j : Nat) : Int) = z at *
   generalize ((f + (j + 1) : Nat) : Int) = z' at *
   simp [lo167_1, TT.dv, e1, e2, g1, a1, e3]
 refine val_of tab167 ?_
 have h0 := lp (r - f) (j := 0) (by omega)
 rw [Nat.add_zero, show mk (colG x c k f) 0 = [] from rfl] at h0
 simp [tr167, TT.dv, KS.dv, h0]
end
section
variable {r c : Nat} {x : List Nat} (h : Mx r c x) {v : List Nat} (hv : Words v) {tau : Nat} (ht : tau < 18446744073709551616) {i : Nat} (hi : i + v.length ≤ r)
include h hv ht hi
end
theorem el_mk' {g : Nat → Nat} {n i : Nat} (h : i < n) : el (mk g n) i = g i := by
 unfold el mk
 rw [List.getD_eq_getElem?_getD, List.getElem?_map, List.getElem?_range h]; rfl
theorem normV_lt (x : List Nat) (hx : Words x) : normV x < 18446744073709551616 := by
 unfold normV
 split
 ·have := bigV_lt x; omega
 ·exact scaleV_lt (sqrtV_lt (sqrR_lt _ (by decide))) _
def nou (x : List Nat) : Nat → Nat → Bool
 | 0, _ => true
 | n + 1, i => decide (fKind (el x i) = 0) && nou x n (i + 1)
def leadI (x : List Nat) : Nat → Nat → Option Nat
 | 0, _ => none
 | n + 1, i => if fKind (el x i) ≠ 0 then some i else leadI x n (i + 1)
def shG (x : List Nat) (k : Int) (i : Nat) : Nat := scaleV (el x i) k
def shV (x : List Nat) (k : Int) : List Nat := mk (shG x k) x.length
theorem shV_words {x : List Nat} (hx : Words x) (k : Int) : Words (shV x k) := mk_words fun i _ => scaleV_lt (hx.el i) k
@[simp] theorem shV_len (x : List Nat) (k : Int) : (shV x k).length = x.length := mk_len _ _
def hK (x : List Nat) : Int := expB (bigV x)
def hY (x : List Nat) : List Nat := shV x (-hK x)
section
variable {x : List Nat} (hx : Words x) (h1 : 1 ≤ x.length) (h64 : x.length ≤ 64)
include hx h1 h64
end
def Er (x y e : Rat) : Prop := x ≤ y + e ∧ y ≤ x + e
def Ab (x a : Rat) : Prop := -a ≤ x ∧ x ≤ a
theorem Ab.nonneg {x a : Rat} (h : Ab x a) : 0 ≤ a := by obtain ⟨h1, h2⟩ := h; grind
theorem Ab.mono {x a b : Rat} (h : Ab x a) (hab : a ≤ b) : Ab x b := by obtain ⟨h1, h2⟩ := h; exact ⟨by grind, by grind⟩
theorem Ab.add {x y a b : Rat} (h : Ab x a) (h' : Ab y b) : Ab (x + y) (a + b) := by
 obtain ⟨h1, h2⟩ := h; obtain ⟨h3, h4⟩ := h'; exact ⟨by grind, by grind⟩
theorem Ab.sub {x y a b : Rat} (h : Ab x a) (h' : Ab y b) : Ab (x - y) (a + b) := by
 obtain ⟨h1, h2⟩ := h; obtain ⟨h3, h4⟩ := h'; exact ⟨by grind, by grind⟩
theorem Ab.mul {x y a b : Rat} (h : Ab x a) (h' : Ab y b) : Ab (x * y) (a * b) := by
 obtain ⟨h1, h2⟩ := h
 obtain ⟨h3, h4⟩ := h'
 have p1 : 0 ≤ (a - x) * (b + y) := Rat.mul_nonneg (by grind) (by grind)
 have p2 : 0 ≤ (a + x) * (b - y) := Rat.mul_nonneg (by grind) (by grind)
 have p3 : 0 ≤ (a - x) * (b - y) := Rat.mul_nonneg (by grind) (by grind)
 have p4 : 0 ≤ (a + x) * (b + y) := Rat.mul_nonneg (by grind) (by grind)
 exact ⟨by grind, by grind⟩
theorem Ab.of_sq {x a : Rat} (ha : 0 ≤ a) (h : x * x ≤ a * a) : Ab x a := by
 constructor
 ·rcases Rat.le_total (a := -a) (b := x) with h1 | h1
  ·exact h1
  ·rcases Rat.le_total (a := a) (b := -x) with h2 | h2
   ·have := rat_sq_le ha h2
    have e : -x * -x = x * x := by grind
    rw [e] at this
    have e2 : x * x = a * a := by grind
    have p : 0 ≤ (-x - a) * (-x + a) := Rat.mul_nonneg (by grind) (by grind)
    rcases Rat.le_total (a := -x) (b := a) with h3 | h3
    ·grind
    ·have p1 : 0 ≤ (-x - a) * (-x - a) := rat_sq_nonneg _
     have p2 : 0 ≤ (-x - a) * a := Rat.mul_nonneg (by grind) ha
     have p3 : (-x - a) * (-x + a) = 0 := by grind
     have p4 : (-x - a) * (-x - a) + 2 * ((-x - a) * a) = (-x - a) * (-x + a) := by grind
     have p5 : (-x - a) * (-x - a) = 0 := by grind
     have p6 : -x - a = 0 := by
      rcases Rat.mul_eq_zero.1 p5 with h | h <;> exact h
     grind
   ·grind
 ·rcases Rat.le_total (a := x) (b := a) with h1 | h1
  ·exact h1
  ·have p1 : 0 ≤ (x - a) * (x - a) := rat_sq_nonneg _
   have p2 : 0 ≤ (x - a) * a := Rat.mul_nonneg (by grind) ha
   have p4 : (x - a) * (x - a) + 2 * ((x - a) * a) = x * x - a * a := by grind
   have p5 : (x - a) * (x - a) = 0 := by grind
   have p6 : x - a = 0 := by
    rcases Rat.mul_eq_zero.1 p5 with h | h <;> exact h
   grind
theorem Er.refl (x : Rat) : Er x x 0 := ⟨by grind, by grind⟩
theorem Er.symm {x y e : Rat} (h : Er x y e) : Er y x e := ⟨h.2, h.1⟩
theorem Er.mono {x y e f : Rat} (h : Er x y e) (hf : e ≤ f) : Er x y f := by obtain ⟨h1, h2⟩ := h; exact ⟨by grind, by grind⟩
theorem Er.trans {x y z e f : Rat} (h : Er x y e) (h' : Er y z f) : Er x z (e + f) := by
 obtain ⟨h1, h2⟩ := h; obtain ⟨h3, h4⟩ := h'; exact ⟨by grind, by grind⟩
theorem Er.add {x y e x' y' e' : Rat} (h : Er x y e) (h' : Er x' y' e') : Er (x + x') (y + y') (e + e') := by
 obtain ⟨h1, h2⟩ := h; obtain ⟨h3, h4⟩ := h'; exact ⟨by grind, by grind⟩
theorem Er.sub {x y e x' y' e' : Rat} (h : Er x y e) (h' : Er x' y' e') : Er (x - x') (y - y') (e + e') := by
 obtain ⟨h1, h2⟩ := h; obtain ⟨h3, h4⟩ := h'; exact ⟨by grind, by grind⟩
theorem Er.ab {x y e : Rat} (h : Er x y e) : Ab (x - y) e := by obtain ⟨h1, h2⟩ := h; exact ⟨by grind, by grind⟩
theorem Er.bound {x y e a : Rat} (h : Er x y e) (h' : Ab y a) : Ab x (a + e) := by
 obtain ⟨h1, h2⟩ := h; obtain ⟨h3, h4⟩ := h'; exact ⟨by grind, by grind⟩
theorem Er.mul {x y e x' y' e' a a' : Rat} (h : Er x y e) (h' : Er x' y' e') (ha : Ab y a) (ha' : Ab x' a') : Er (x * x') (y * y') (e * a' + a * e') := by
 have p1 := h.ab.mul ha'
 have p2 := ha.mul h'.ab
 obtain ⟨q1, q2⟩ := p1.add p2
 exact ⟨by grind, by grind⟩
theorem Er.sq {x y e a : Rat} (h : Er x y e) (ha : Ab y a) : Er (x * x) (y * y) (e * (2 * a + e)) := by
 have := h.mul h ha (h.bound ha)
 exact this.mono (by grind)
theorem sumA_sumP (a : Nat → Rat) : ∀ n, sumA a n = sumP (fun i => a i * a i) n
 | 0 => rfl
 | n + 1 => by unfold sumA sumP; rw [sumA_sumP a n]
theorem sumP_congr {p q : Nat → Rat} : ∀ {n : Nat}, (∀ i, i < n → p i = q i) → sumP p n = sumP q n
 | 0, _ => rfl
 | n + 1, h => by unfold sumP; rw [sumP_congr (fun i hi => h i (by omega)), h n (by omega)]
theorem sumP_split (p : Nat → Rat) (m : Nat) : ∀ n, sumP p (m + n) = sumP p m + sumP (fun i => p (m + i)) n
 | 0 => by simp only [sumP]; rw [Nat.add_zero]; grind
 | n + 1 => by
  rw [← Nat.add_assoc]
  simp only [sumP]
  rw [sumP_split p m n]; grind
theorem sumP_add (p q : Nat → Rat) : ∀ n, sumP (fun i => p i + q i) n = sumP p n + sumP q n
 | 0 => by simp only [sumP]; grind
 | n + 1 => by simp only [sumP]; rw [sumP_add p q n]; grind
theorem sumP_mul (p : Nat → Rat) (k : Rat) : ∀ n, sumP (fun i => k * p i) n = k * sumP p n
 | 0 => by simp only [sumP]; grind
 | n + 1 => by simp only [sumP]; rw [sumP_mul p k n]; grind
theorem sumP_mulr (p : Nat → Rat) (k : Rat) : ∀ n, sumP (fun i => p i * k) n = sumP p n * k
 | 0 => by simp only [sumP]; grind
 | n + 1 => by simp only [sumP]; rw [sumP_mulr p k n]; grind
theorem sumP_zero : ∀ n, sumP (fun _ => 0) n = 0
 | 0 => rfl
 | n + 1 => by simp only [sumP]; rw [sumP_zero n]; grind
theorem sumP_swap (g : Nat → Nat → Rat) (c : Nat) : ∀ r, sumP (fun i => sumP (g i) c) r = sumP (fun k => sumP (fun i => g i k) r) c
 | 0 => by simp only [sumP]; rw [sumP_zero]
 | r + 1 => by
  simp only [sumP]
  rw [sumP_swap g c r, ← sumP_add]
theorem sumP_grid (f : Nat → Rat) (c : Nat) : ∀ r, sumP f (r * c) = sumP (fun i => sumP (fun k => f (ps i c k)) c) r
 | 0 => by rw [Nat.zero_mul]; rfl
 | r + 1 => by
  rw [Nat.add_mul, Nat.one_mul, sumP_split, sumP_grid f c r]
  rfl
theorem sumP_nonneg {p : Nat → Rat} : ∀ {n : Nat}, (∀ i, i < n → 0 ≤ p i) → 0 ≤ sumP p n
 | 0, _ => by unfold sumP; exact Rat.le_refl
 | n + 1, h => by
  have h1 := sumP_nonneg (p := p) (n := n) (fun i hi => h i (by omega))
  have h2 := h n (by omega)
  unfold sumP; grind
theorem sumP_le {p q : Nat → Rat} : ∀ {n : Nat}, (∀ i, i < n → p i ≤ q i) → sumP p n ≤ sumP q n
 | 0, _ => by unfold sumP; exact Rat.le_refl
 | n + 1, h => by
  have h1 := sumP_le (p := p) (q := q) (n := n) (fun i hi => h i (by omega))
  have h2 := h n (by omega)
  unfold sumP; grind
theorem sumP_mem {p : Nat → Rat} : ∀ {n : Nat}, (∀ i, i < n → 0 ≤ p i) → ∀ i, i < n → p i ≤ sumP p n
 | 0, _, i, hi => by omega
 | n + 1, h, i, hi => by
  have h1 := sumP_nonneg (p := p) (n := n) (fun i hi => h i (by omega))
  have h2 := h n (by omega)
  unfold sumP
  by_cases hn : i = n
  ·subst hn; grind
  ·have := sumP_mem (p := p) (n := n) (fun i hi => h i (by omega)) i (by omega)
   grind
theorem sumP_const (k : Rat) : ∀ n : Nat, sumP (fun _ => k) n = (n : Rat) * k
 | 0 => by unfold sumP; simp
 | n + 1 => by unfold sumP; rw [sumP_const k n, nat_rat]; grind
abbrev uu : Rat := 1 / 9007199254740992
abbrev ee : Rat := P2 (-1075)
structure Fl (w : Nat) (v e : Rat) : Prop where
 lt : w < 18446744073709551616
 fin : fPow w ≠ 2047
 er : Er (sv w) v e
theorem Fl.mono {w : Nat} {v e f : Rat} (h : Fl w v e) (hf : e ≤ f) : Fl w v f := ⟨h.lt, h.fin, h.er.mono hf⟩
theorem Fl.of {w : Nat} {v e v' e' : Rat} (h : Fl w v e) (h' : Er v v' e') : Fl w v' (e + e') := ⟨h.lt, h.fin, h.er.trans h'⟩
theorem sv_W (w : Nat) : sv w * sv w = W w * W w := W_sx w
theorem sv_ab (w : Nat) : Ab (sv w) (W w) := by
 have h := W_nonneg w
 rcases sv_cases w with ⟨_, h1⟩ | ⟨_, h1⟩ <;> rw [h1]
 ·exact ⟨by grind, by grind⟩
 ·exact ⟨by grind, by grind⟩
theorem W_of_sv {w : Nat} {a : Rat} (h : Ab (sv w) a) : W w ≤ a := by
 obtain ⟨h1, h2⟩ := h
 rcases sv_cases w with ⟨_, h3⟩ | ⟨_, h3⟩ <;> rw [h3] at h1 h2 <;> grind
theorem fl_near {s : Bool} {n : Nat} {p : Int} {v : Rat} {A : Rat} (hv : v = if s then -D n p else D n p) (hA : Ab v A) (h : A ≤ P2 1023) : Fl (nearV s n p) v (A * uu + ee) := by
 have hn := D_nonneg n p
 have hD : D n p ≤ A := by
  obtain ⟨h1, h2⟩ := hA
  cases s <;> simp only [if_true, if_false, Bool.false_eq_true] at hv <;> grind
 have hf := near_fin (Rat.le_trans hD h)
 have hfin := fin_near (s := s) hf
 obtain ⟨e1, e2⟩ := near_err' hf
 obtain ⟨_, _, f3, f4, f5⟩ := sgn_fields s (nearR_le n p)
 have hW : W (nearV s n p) = W (nearR n p) := by
  rw [← W_abs, absV_near]
 refine ⟨f5, hfin, ?_⟩
 have hs := sv_of (b := nearV s n p) (s := s) f3
 rw [hs, hv, hW]
 have e3 : D n p * (1 / 9007199254740992) ≤ A * (1 / 9007199254740992) := Rat.mul_le_mul_of_nonneg_right hD (by decide +kernel)
 generalize D n p = d at *
 generalize W (nearR n p) = w at *
 show Er _ _ (A * (1 / 9007199254740992) + P2 (-1075))
 generalize P2 (-1075) = η at *
 cases s <;> simp only [if_true, if_false, Bool.false_eq_true] <;> exact ⟨by grind, by grind⟩
theorem sv_D (w : Nat) : sv w = if fNeg w then -D (fMag w) (fPl w) else D (fMag w) (fPl w) := sv_of rfl
theorem fl_mul {a b : Nat} (ha : fPow a ≠ 2047) (hb : fPow b ≠ 2047) {A : Rat} (h : Ab (sv a * sv b) A) (hA : A ≤ P2 1023) : Fl (mulV a b) (sv a * sv b) (A * uu + ee) := by
 rw [mulV_fin ha hb]
 refine fl_near ?_ h hA
 rw [sv_D a, sv_D b, ← D_mul]
 generalize D (fMag a) (fPl a) = x
 generalize D (fMag b) (fPl b) = y
 cases fNeg a <;> cases fNeg b <;> simp <;> grind
theorem DV_sg (s : Bool) (m : Nat) (p : Int) : DV (sg s m) p = if s then -D m p else D m p := by
 unfold DV sg D
 cases s
 ·simp only [Bool.false_eq_true, if_false]; rw [Rat.intCast_natCast]
 ·simp only [if_true]; rw [Rat.intCast_neg, Rat.intCast_natCast]; grind
theorem D_abs (x p : Int) : DV x p = if decide (x < 0) then -D x.natAbs p else D x.natAbs p := by
 by_cases h : x < 0
 ·rw [decide_eq_true h, if_pos rfl, show x = sg true x.natAbs by unfold sg; simp; omega, DV_sg]
  simp [sg]
 ·rw [decide_eq_false h, if_neg (by decide)]
  unfold DV D
  rw [show x = ((x.natAbs : Nat) : Int) by omega, Rat.intCast_natCast]
  simp
theorem fl_add {a b : Nat} (ha : fPow a ≠ 2047) (hb : fPow b ≠ 2047) {A : Rat} (h : Ab (sv a + sv b) A) (hA : A ≤ P2 1023) : Fl (addV a b) (sv a + sv b) (A * uu + ee) := by
 rw [addV_fin ha hb]
 unfold sumV
 have key : sv a + sv b = DV (sg (fNeg a) (fMag a) * 2 ^ (fPl a - min (fPl a) (fPl b)).toNat + sg (fNeg b) (fMag b) * 2 ^ (fPl b - min (fPl a) (fPl b)).toNat) (min (fPl a) (fPl b)) := by
  have := DV_dadd (sg (fNeg a) (fMag a)) (fPl a) (sg (fNeg b) (fMag b)) (fPl b)
  exact this.symm
 generalize sg (fNeg a) (fMag a) * 2 ^ (fPl a - min (fPl a) (fPl b)).toNat + sg (fNeg b) (fMag b) * 2 ^ (fPl b - min (fPl a) (fPl b)).toNat = X at *
 refine fl_near ?_ h hA
 rw [key]
 by_cases h0 : X = 0
 ·rw [if_pos h0, h0, show (0 : Int).natAbs = 0 from rfl, D_zero]
  unfold DV; rw [Rat.intCast_zero, Rat.zero_mul]
  split <;> grind
 ·rw [if_neg h0]; exact D_abs X _
theorem fl_sub {a b : Nat} (ha : fPow a ≠ 2047) (hb : fPow b ≠ 2047) (hbl : b < 18446744073709551616) {A : Rat} (h : Ab (sv a - sv b) A) (hA : A ≤ P2 1023) : Fl (subV a b) (sv a - sv b) (A * uu + ee) := by
 unfold subV
 have hm := sv_minus hbl
 have e : sv a - sv b = sv a + sv (fMinus b) := by rw [hm]; grind
 obtain ⟨m1, m2, m3, m4⟩ := minus_neg hbl
 have hp : fPow (fMinus b) ≠ 2047 := by rw [m2]; exact hb
 rw [e] at h ⊢
 exact fl_add ha hp h hA
theorem Fl.add {a b : Nat} {v e v' e' C : Rat} (h : Fl a v e) (h' : Fl b v' e') (hC : Ab (sv a + sv b) C) (hC2 : C ≤ P2 1023) : Fl (addV a b) (v + v') (C * uu + ee + (e + e')) :=
 (fl_add h.fin h'.fin hC hC2).of (h.er.add h'.er)
theorem Fl.sub {a b : Nat} {v e v' e' C : Rat} (h : Fl a v e) (h' : Fl b v' e') (hC : Ab (sv a - sv b) C) (hC2 : C ≤ P2 1023) : Fl (subV a b) (v - v') (C * uu + ee + (e + e')) :=
 (fl_sub h.fin h'.fin h'.lt hC hC2).of (h.er.sub h'.er)
theorem Fl.bound {a : Nat} {v e A : Rat} (h : Fl a v e) (hA : Ab v A) : Ab (sv a) (A + e) := h.er.bound hA
section
variable {r c : Nat} {x : List Nat} (h : Mx r c x) {i : Nat} (hi : i < r)
include h hi
end
section
variable {ra ca rb cb : Nat} {x y : List Nat} (h : Mx ra ca x) (h' : Mx rb cb y) (hcr : ca = rb)
include h h' hcr
end
section
variable {r c : Nat} {x : List Nat} (h : Mx r c x) {i k m n : Nat} (hi : i + m ≤ r) (hk : k + n ≤ c)
include h hi hk
end
def eyG (i k : Nat) : Nat := if i = k then 4607182418800017408 else 0
def eyV (n : Nat) : List Nat := matL eyG n n
theorem eyV_mx {n : Nat} (hn : n ≤ 6) : Mx n n (eyV n) := matL_mx hn hn fun i k _ _ => by unfold eyG; split <;> decide
theorem eye_ok {n : Nat} (hn : n ≤ 6) : val 248 [Vi n] = some [Vi n, Vi n, Vl (eyV n), Vi 0] := by
 refine val_of tab248 ?_
 have h1 := size_ok n
 rw [decide_eq_true (by omega)] at h1
 have h2 := mof_ok (f := 249) (r := n) (c := n) (caps := []) (g := eyG) hn hn fun i k _ _ => by
  refine val_of tab249 ?_
  unfold eyG
  by_cases h : i = k
  ·simp [tr249, TT.dv, h]
  ·simp [tr249, TT.dv, h, show ¬ (i : Int) = k by omega]
 have ec : (U.mkfn 249).den (Vl []) = fnP 249 [] := rfl
 simp [tr248, TT.dv, h1, ec, h2, eyV]
def chk (R C : Int) (x : List Nat) : Int := if rightP R C x then (if finV x then 0 else 4) else 1
theorem fin2_loop {x : List Nat} {x0 x1 x3 x4 : PV} (h64 : x.length < 9000000000000000000) : ∀ (n : Nat) {i : Nat}, i + n = x.length →
  rounds (fun vs => lo2_1.dv (x0 :: x1 :: Vl x :: x3 :: vs)) [x4, Vi i] = some (if finR x n i then .y (.ext 0) [x4] else .y .ret []) := by
 intro n
 induction n with
 | zero =>
  intro i hi
  refine rounds_exit ?_ (by simp [finR])
  simp [lo2_1, TT.dv, show ¬ i < x.length by omega, finR]
 | succ n ih =>
  intro i hi
  have g1 := get_V (x := x) (i := i) (by omega)
  have f1 := finite_ok (el x i)
  unfold finR
  by_cases c : fPow (el x i) = 2047
  ·rw [if_pos c]
   refine rounds_exit ?_ (by simp)
   simp [lo2_1, TT.dv, show i < x.length by omega, g1, f1, c]
  ·rw [if_neg c]
   have e1 : (B.add .i64).den (Vi i) (Vi 1) = Vi (i + 1) := add_i (by omega) (by omega)
   refine Eq.trans (rounds_cont ?_) (ih (i := i + 1) (by omega))
   simp [lo2_1, TT.dv, show i < x.length by omega, g1, f1, c, e1]
theorem ccheck_ok (R C : Int) {x : List Nat} (h : x.length ≤ 17592186043904) : val 2 [Vi R, Vi C, Vl x] = some [Vi (chk R C x)] := by
 refine val_of tab2 ?_
 have h1 := check_ok R C x
 unfold chk
 by_cases c : rightP R C x
 ·rw [if_pos c] at h1 ⊢
  have hl := fun x0 x1 x3 x4 => fin2_loop (x := x) (x0 := x0) (x1 := x1) (x3 := x3) (x4 := x4) (by omega) x.length (i := 0) (by omega)
  simp only [show ((0 : Nat) : Int) = 0 from rfl] at hl
  unfold finV
  cases hc : finR x x.length 0
  ·simp only [hc] at hl
   simp [tr2, TT.dv, KS.dv, h1, hl]
  ·simp only [hc] at hl
   simp [tr2, TT.dv, KS.dv, h1, hl]
 ·rw [if_neg c] at h1 ⊢
  simp [tr2, TT.dv, h1]
theorem ccheck9_ok (R C : Int) {x : List Nat} (hw : Words x) (h : x.length ≤ 17592186043904) : val 178 [Vi R, Vi C, Vl x] = some [Vi (chk R C x)] := by
 refine val_of tab178 ?_
 have h1 := right_ok10 R C x
 have h2 := finite_9_ok hw (by omega)
 unfold chk
 by_cases c : rightP R C x
 ·rw [decide_eq_true c] at h1
  rw [if_pos c]
  cases hc : finV x <;> rw [hc] at h2 <;> simp [tr178, TT.dv, h1, h2]
 ·rw [decide_eq_false c] at h1
  rw [if_neg c]
  simp [tr178, TT.dv, h1]
section
variable {r c j : Nat} (hjr : j < r) (hjc : j < c)
include hjr hjc
end
abbrev Mir := List Nat × Nat × Nat
structure MirOK (r j : Nat) (m : Mir) : Prop where
 len : m.1.length = r - j
 w : Words m.1
 t : m.2.1 < 18446744073709551616
 b : m.2.2 < 18446744073709551616
section
variable {r c j : Nat} {x : List Nat} (h : Mx r c x) (hj : j < c) (hjr : j < r)
include h hj hjr
end
def MsOK (r : Nat) (ms : List Mir) : Prop := ∀ j m, ms[j]? = some m → MirOK r j m
section
variable {r : Nat} {ms : List Mir} (hms : MsOK r ms) (hml : ms.length ≤ r)
include hms hml
end
section
variable {r c : Nat} {y : List Nat} (h : Mx r c y) (hu : ∀ a b, b < a → a < r → b < c → el y (ps a c b) = 0)
include h hu
end
theorem finR_iff {x : List Nat} : ∀ (n i : Nat), finR x n i = true ↔ ∀ k, i ≤ k → k < i + n → fPow (el x k) ≠ 2047
 | 0, i => ⟨fun _ k h1 h2 => by omega, fun _ => rfl⟩
 | n + 1, i => by
  unfold finR
  by_cases c : fPow (el x i) = 2047
  ·rw [if_pos c]
   exact ⟨fun h => (by cases h), fun h => absurd c (h i (Nat.le_refl _) (by omega))⟩
  ·rw [if_neg c, finR_iff n (i + 1)]
   refine ⟨fun h k h1 h2 => ?_, fun h k h1 h2 => h k (by omega) (by omega)⟩
   rcases Nat.eq_or_lt_of_le h1 with h3 | h3
   ·subst h3; exact c
   ·exact h k (by omega) (by omega)
theorem finV_iff {x : List Nat} : finV x = true ↔ ∀ k, k < x.length → fPow (el x k) ≠ 2047 := by
 unfold finV
 rw [finR_iff]
 exact ⟨fun h k hk => h k (Nat.zero_le _) (by omega), fun h k _ hk => h k (by omega)⟩
theorem finV_mx {r c : Nat} {x : List Nat} (h : Mx r c x) : finV x = true ↔ ∀ i k, i < r → k < c → fPow (el x (ps i c k)) ≠ 2047 := by
 rw [finV_iff]
 refine ⟨fun hh i k hi hk => hh _ (h.lt hi hk), fun hh t ht => ?_⟩
 have hc : 0 < c := by
  rcases Nat.eq_zero_or_pos c with h0 | h0
  ·subst h0; rw [h.len] at ht; omega
  ·exact h0
 have e : t = ps (t / c) c (t % c) := by unfold ps; rw [Nat.mul_comm]; exact (Nat.div_add_mod t c).symm
 have := hh (t / c) (t % c) (by rw [Nat.div_lt_iff_lt_mul hc, ← h.len]; exact ht) (Nat.mod_lt _ hc)
 rwa [← e] at this
theorem el_tpV {r c : Nat} {x : List Nat} {i k : Nat} (hi : i < r) (hk : k < c) : el (tpV r c x) (ps k r i) = el x (ps i c k) := by
 unfold tpV; rw [el_matL _ hk hi]; rfl
section
variable {r c : Nat} {x : List Nat} (h : Mx r c x) {up over : Bool}
include h
end
section
variable {r c : Nat} {y : List Nat} (h : Mx r c y)
include h
end
theorem rowR_other {x : List Nat} {cc i k C S q : Nat} : ∀ (n j : Nat) {m : List Nat}, (∀ j', ps i cc j' ≠ q ∨ ¬ (j ≤ j' ∧ j' < j + n)) → (∀ j', ps k cc j' ≠ q ∨ ¬ (j ≤ j' ∧ j' < j + n)) → el (rowR x cc i k C S n j m) q = el m q
 | 0, _, _, _, _ => rfl
 | n + 1, j, m, h1, h2 => by
  unfold rowR
  rw [rowR_other n (j + 1) (fun j' => (h1 j').imp id (fun h hh => h (by omega))) (fun j' => (h2 j').imp id (fun h hh => h (by omega))), el_set, el_set,
   if_neg (fun hh => (h2 j).elim (fun h => h hh.1) (fun h => h (by omega))), if_neg (fun hh => (h1 j).elim (fun h => h hh.1) (fun h => h (by omega)))]
section
variable {r c : Nat} {x : List Nat} {i k C S : Nat} (hi : i < r) (hk : k < r) (hne : i ≠ k)
include hi hk hne
theorem rowR_at : ∀ (n j : Nat) {m : List Nat}, j + n = c → m.length = r * c → ∀ t, j ≤ t → t < c →
  el (rowR x c i k C S n j m) (ps i c t) = addV (mulV C (el x (ps i c t))) (mulV S (el x (ps k c t))) ∧ el (rowR x c i k C S n j m) (ps k c t) = subV (mulV C (el x (ps k c t))) (mulV S (el x (ps i c t)))
 | 0, j, m, h1, h2, t, h3, h4 => by omega
 | n + 1, j, m, h1, h2, t, h3, h4 => by
  unfold rowR
  rcases Nat.eq_or_lt_of_le h3 with h5 | h5
  ·subst h5
   have l1 : ps i c j < m.length := by rw [h2]; exact ps_lt hi h4
   have l2 : ps k c j < m.length := by rw [h2]; exact ps_lt hk h4
   have o1 : ∀ q, (∀ j', ps q c j' ≠ ps i c j ∨ ¬ (j + 1 ≤ j' ∧ j' < j + 1 + n)) := fun q j' => by
    by_cases h6 : j + 1 ≤ j' ∧ j' < j + 1 + n
    ·left; intro hh; have := (ps_inj (show j' < c by omega) h4 hh).2; omega
    ·exact .inr h6
   have o2 : ∀ q, (∀ j', ps q c j' ≠ ps k c j ∨ ¬ (j + 1 ≤ j' ∧ j' < j + 1 + n)) := fun q j' => by
    by_cases h6 : j + 1 ≤ j' ∧ j' < j + 1 + n
    ·left; intro hh; have := (ps_inj (show j' < c by omega) h4 hh).2; omega
    ·exact .inr h6
   have hd : ps k c j ≠ ps i c j := fun hh => hne (ps_inj h4 h4 hh).1.symm
   constructor
   ·rw [rowR_other n (j + 1) (o1 i) (o1 k), el_set, if_neg (fun hh => hd hh.1), el_set, if_pos ⟨rfl, l1⟩]
   ·rw [rowR_other n (j + 1) (o2 i) (o2 k), el_set, if_pos ⟨rfl, by rw [List.length_set]; exact l2⟩]
  ·exact rowR_at n (j + 1) (by omega) (by rw [List.length_set, List.length_set, h2]) t (by omega) h4
end
theorem minus_fields {b : Nat} (hb : b < 18446744073709551616) : fPow (fMinus b) = fPow b ∧ fMag (fMinus b) = fMag b := by
 obtain ⟨m1, m2, m3, m4⟩ := minus_neg hb
 exact ⟨m2, by unfold fMag; rw [m2, m3]⟩
theorem mag_of_W {b : Nat} (h : W b = 0) : fMag b = 0 := by
 unfold W D at h
 rcases Rat.mul_eq_zero.1 h with h | h
 ·have h2 : ((fMag b : Nat) : Rat) = ((0 : Nat) : Rat) := h
  exact Rat.natCast_inj.1 h2
 ·have := P2_pos (fPl b); rw [h] at this; exact absurd this Rat.lt_irrefl
def gsq (c : Nat) (x : List Nat) (i k : Nat) : Rat := W (el x (ps i c k)) * W (el x (ps i c k))
theorem sq_cols {r c : Nat} {x : List Nat} (h : Mx r c x) : sumA (fun i => W (el x i)) x.length = sumP (fun k => sumP (fun i => gsq c x i k) r) c := by
 rw [sumA_sumP, h.len, sumP_grid (fun t => W (el x t) * W (el x t)) c r]
 exact sumP_swap (gsq c x) c r
theorem square11_ok {r c : Nat} {x : List Nat} (h : Mx r c x) : ∃ X E, val 183 [Vi r, Vi c, Vl x] = some [dS X E, dL X E, dE X E] ∧ DBs X E 2200 2300 ∧ DV X E = sumP (fun k => sumP (fun i => gsq c x i k) r) c := by
 have hs := h.small
 obtain ⟨X, E, h1, h2, h3⟩ := squares_ok h.w (by omega)
 refine ⟨X, E, val_of tab183 ?_, h2.mono (by omega) (by omega), h3.trans (sq_cols h)⟩
 simp [tr183, TT.dv, h1]
theorem tame11_ok (R C : Int) {x : List Nat} (hw : Words x) (hl : x.length ≤ 17592186043904) {K : Int} (hK : 0 ≤ K ∧ K ≤ 100000) : ∃ b, val 184 [Vi R, Vi C, Vl x, Vi K] = some [Vb b] ∧ (b = true → rightP R C x ∧ TameP x K) := by
 have h1 := right_ok10 R C x
 obtain ⟨b, t1, t2⟩ := tame_ok hw (by omega) hK
 by_cases c : rightP R C x
 ·rw [decide_eq_true c] at h1
  refine ⟨b, val_of tab184 ?_, fun hb => ⟨c, t2 hb⟩⟩
  simp [tr184, TT.dv, h1, t1]
 ·rw [decide_eq_false c] at h1
  refine ⟨false, val_of tab184 ?_, fun hb => by cases hb⟩
  simp [tr184, TT.dv, h1]
def Re (x y k : Rat) : Prop := Er x y (k * uu * y)
theorem uu_pos : (0 : Rat) ≤ uu := by decide +kernel
def hσ (x : List Nat) : Bool := fNeg (el x ((leadI x x.length 0).getD 0))
def hR (x : List Nat) : Nat := normV (hY x)
structure HCore (x : List Nat) : Prop where
 rf : hR x < infR
 one : 1 ≤ W (hR x)
 le : W (hR x) ≤ 16
 yf : ∀ i, i < x.length → fPow (el (hY x) i) ≠ 2047
 yle : ∀ i, i < x.length → W (el (hY x) i) ≤ W (hR x)
 y2 : ∀ i, i < x.length → W (el (hY x) i) ≤ 2
 sq : Re (W (hR x) * W (hR x)) (sumA (fun i => W (el (hY x) i)) x.length) 150
 s0 : sv (el (hY x) 0) = if hσ x then -W (el (hY x) 0) else W (el (hY x) 0)
theorem scaleV_nought {b : Nat} (h : fPow b ≠ 2047) (hm : fMag b = 0) (k : Int) : scaleV b k = b := by
 unfold scaleV; rw [if_neg (fin_nan h), if_pos (.inr hm)]
theorem mag_pos {b : Nat} (h : 0 < W b) : fMag b ≠ 0 := fun hh => by rw [W_zero_of hh] at h; exact absurd h Rat.lt_irrefl
theorem ee1 : 0 ≤ ee ∧ ee ≤ uu * (1 / 1000000000) := ⟨Rat.le_of_lt (P2_pos _), by decide +kernel⟩
section
variable {x : List Nat} (hx : Words x) (h1 : 1 ≤ x.length) (h64 : x.length ≤ 64) (H : HCore x)
include hx h1 h64 H
end
section
variable {x : List Nat} (hx : Words x) (h1 : 1 ≤ x.length) (h6 : x.length ≤ 6) (H : HCore x)
include hx h1 h6 H
end
def dotX (v z : List Nat) (n : Nat) : Rat := sumP (fun i => sv (el v i) * sv (el z i)) n
structure ColOK (v z : List Nat) (tau : Nat) (Z : Rat) : Prop where
 l6 : v.length ≤ 6
 vf : ∀ j, j < v.length → fPow (el v j) ≠ 2047 ∧ W (el v j) ≤ 101 / 100
 zf : ∀ j, j < v.length → fPow (el z j) ≠ 2047 ∧ W (el z j) ≤ Z
 Z1 : P2 (-400) ≤ Z
 Z2 : Z ≤ P2 400
 tf : fPow tau ≠ 2047
 tl : tau < 18446744073709551616
 t2 : W tau ≤ 201 / 100
section
variable {v z : List Nat} {tau : Nat} {Z : Rat} (h : ColOK v z tau Z)
include h
end
theorem tame_finV {x : List Nat} {K : Int} (hT : TameP x K) : finV x = true := finV_iff.2 fun k hk => (hT k hk).1
theorem within_ok {X E Y F : Int} {e T : Nat} (hX : DBs X E e T) (hY : DBs Y F e T) (he : e ≤ 10000000) (hT : T ≤ 10000000) {k : Int} (hk : 0 ≤ k ∧ k ≤ 1000) (h : DV X E ≤ DV Y F * P2 (-(2 * k))) :
  val 186 [dS X E, dL X E, dE X E, dS Y F, dL Y F, dE Y F, Vi k] = some [Vb true] := by
 refine val_of tab186 ?_
 have m1 : (B.mul .i64).den (Vi 2) (Vi k) = Vi (2 * k) := mul_i (by omega) (by omega)
 have s1 : (B.sub .i64).den (Vi 0) (Vi (2 * k)) = Vi (-(2 * k)) := by rw [sub_i (by omega) (by omega)]; exact congrArg Vi (by omega)
 have sc := scaleD_ok (hY.db (by omega) (by omega)) (k := -(2 * k)) (by omega)
 have bsc := hY.scale (k := -(2 * k)) 4000 (by omega)
 have o1 : val 96 [Vi 1] = some [bS 1, bL 1] := of_ok (by omega) (by omega)
 have o2 : val 110 [bS 1, bL 1, Vi (-4000)] = some [dS 1 (-4000), dL 1 (-4000), dE 1 (-4000)] := ofD_ok (by decide) (by omega) (by omega)
 have b1 : DBs 1 (-4000) (e + 4000) (T + 4000) := ⟨by omega, by omega, by rw [show (1 : Int).natAbs = 1 from rfl, show bl 1 = 1 from by decide]; omega⟩
 have ad := addD_ok (bsc.db (by omega) (by omega)) (b1.db (by omega) (by omega))
 have bad := bsc.add b1
 have vad := DV_dadd Y (F + -(2 * k)) 1 (-4000)
 rw [DV_scale] at vad
 have cm := compareD_ok (hX.db (by omega) (by omega)) (bad.db (by omega) (by omega))
 have hc : dcmp X E (dadd Y (F + -(2 * k)) 1 (-4000)) (min (F + -(2 * k)) (-4000)) ≤ 0 := by
  rw [dcmp_le, vad]
  have : 0 ≤ DV 1 (-4000) := by
   unfold DV
   exact Rat.mul_nonneg (by decide) (Rat.le_of_lt (P2_pos _))
  grind
 clear vad bad b1 bsc h hX hY
 generalize dcmp X E (dadd Y (F + -(2 * k)) 1 (-4000)) (min (F + -(2 * k)) (-4000)) = z at *
 generalize dS (dadd Y (F + -(2 * k)) 1 (-4000)) (min (F + -(2 * k)) (-4000)) = a1 at *
 generalize dL (dadd Y (F + -(2 * k)) 1 (-4000)) (min (F + -(2 * k)) (-4000)) = a2 at *
 generalize dE (dadd Y (F + -(2 * k)) 1 (-4000)) (min (F + -(2 * k)) (-4000)) = a3 at *
 generalize dS Y (F + -(2 * k)) = a4 at *
 generalize dL Y (F + -(2 * k)) = a5 at *
 generalize dE Y (F + -(2 * k)) = a6 at *
 generalize dS 1 (-4000) = c1 at *
 generalize dL 1 (-4000) = c2 at *
 generalize dE 1 (-4000) = c3 at *
 generalize bS 1 = c4 at *
 generalize bL 1 = c5 at *
 generalize dS X E = d1 at *
 generalize dL X E = d2 at *
 generalize dE X E = d3 at *
 generalize dS Y F = f1 at *
 generalize dL Y F = f2 at *
 generalize dE Y F = f3 at *
 generalize -(2 * k) = kk at *
 generalize 2 * k = k2 at *
 simp [tr186, TT.dv, m1, s1, sc, o1, o2, ad, cm, hc]
section
variable {ra ca rb cb rc cc : Nat} {a b c : List Nat} (ha : Mx ra ca a) (hb : Mx rb cb b) (hc : Mx rc cc c) (h1 : ra = rb) (h2 : cb = rc) (h3 : ca = cc)
include ha hb hc h1 h2 h3
end
structure PF {ι : Type} (S : (ι → Rat) → Rat) : Prop where
 add : ∀ f g : ι → Rat, S (fun i => f i + g i) = S f + S g
 mul : ∀ (k : Rat) (f : ι → Rat), S (fun i => k * f i) = k * S f
 nn : ∀ f : ι → Rat, (∀ i, 0 ≤ f i) → 0 ≤ S f
theorem pf_sum (n : Nat) : PF (fun f : Nat → Rat => sumP f n) := ⟨fun f g => sumP_add f g n, fun k f => sumP_mul f k n, fun _ h => sumP_nonneg fun i _ => h i⟩
def sum2 (r c : Nat) (X : Nat → Nat → Rat) : Rat := sumP (fun i => sumP (X i) c) r
theorem pf_sum2 (r c : Nat) : PF (fun f : Nat × Nat → Rat => sum2 r c fun i k => f (i, k)) := by
 refine ⟨fun f g => ?_, fun k f => ?_, fun f h => ?_⟩
 ·unfold sum2
  rw [← sumP_add]
  exact sumP_congr fun i _ => sumP_add _ _ _
 ·unfold sum2
  rw [← sumP_mul]
  exact sumP_congr fun i _ => sumP_mul _ _ _
 ·exact sumP_nonneg fun i _ => sumP_nonneg fun k _ => h _
section
variable {ι : Type} {S : (ι → Rat) → Rat} (h : PF S)
include h
theorem PF.cs (x y : ι → Rat) : S (fun i => x i * y i) * S (fun i => x i * y i) ≤ S (fun i => x i * x i) * S (fun i => y i * y i) := by
 have key : ∀ s t : Rat, 0 ≤ s * s * S (fun i => x i * x i) + 2 * s * t * S (fun i => x i * y i) + t * t * S (fun i => y i * y i) := fun s t => by
  have h1 := h.nn (fun i => (s * x i + t * y i) * (s * x i + t * y i)) (fun i => rat_sq_nonneg _)
  have e : (fun i => (s * x i + t * y i) * (s * x i + t * y i)) = fun i => (s * s * (x i * x i) + 2 * s * t * (x i * y i)) + t * t * (y i * y i) := by
   funext i; grind
  rw [e, h.add (fun i => s * s * (x i * x i) + 2 * s * t * (x i * y i)) (fun i => t * t * (y i * y i)), h.add (fun i => s * s * (x i * x i)) (fun i => 2 * s * t * (x i * y i)), h.mul, h.mul, h.mul] at h1
  exact h1
 have hA := h.nn (fun i => x i * x i) (fun i => rat_sq_nonneg _)
 have hC := h.nn (fun i => y i * y i) (fun i => rat_sq_nonneg _)
 generalize S (fun i => x i * x i) = A at *
 generalize S (fun i => x i * y i) = B at *
 generalize S (fun i => y i * y i) = C at *
 rcases Rat.le_total (a := C) (b := 0) with hc | hc
 ·have hc0 : C = 0 := by grind
  subst hc0
  by_cases hB : B = 0
  ·subst hB; grind
  ·have hk := key 1 (-((A + 1) * B⁻¹))
   have e : B * B⁻¹ = 1 := Rat.mul_inv_cancel _ hB
   have e2 : 2 * 1 * -((A + 1) * B⁻¹) * B = -(2 * (A + 1)) := by grind
   rw [e2] at hk
   grind
 ·by_cases hc0 : C = 0
  ·subst hc0
   by_cases hB : B = 0
   ·subst hB; grind
   ·have hk := key 1 (-((A + 1) * B⁻¹))
    have e : B * B⁻¹ = 1 := Rat.mul_inv_cancel _ hB
    have e2 : 2 * 1 * -((A + 1) * B⁻¹) * B = -(2 * (A + 1)) := by grind
    rw [e2] at hk
    grind
  ·have hcp : 0 < C := by grind
   have hk := key C (-B)
   refine Rat.le_of_mul_le_mul_right (c := C) ?_ hcp
   grind
end
def NS {ι : Type} (S : (ι → Rat) → Rat) (x : ι → Rat) (b : Rat) : Prop := 0 ≤ b ∧ S (fun i => x i * x i) ≤ b * b
theorem NS.mono {ι : Type} {S : (ι → Rat) → Rat} {x : ι → Rat} {b b' : Rat} (h : NS S x b) (hb : b ≤ b') : NS S x b' := ⟨Rat.le_trans h.1 hb, Rat.le_trans h.2 (rat_sq_le h.1 hb)⟩
section
variable {ι : Type} {S : (ι → Rat) → Rat} (h : PF S)
include h
theorem NS.ip {x y : ι → Rat} {a b : Rat} (hx : NS S x a) (hy : NS S y b) : Ab (S fun i => x i * y i) (a * b) := by
 refine Ab.of_sq (Rat.mul_nonneg hx.1 hy.1) ?_
 have h1 := h.cs x y
 have h2 := h.nn (fun i => x i * x i) (fun i => rat_sq_nonneg _)
 have h3 := Rat.mul_le_mul_of_nonneg_left hy.2 h2
 have h4 := Rat.mul_le_mul_of_nonneg_right hx.2 (Rat.mul_nonneg hy.1 hy.1)
 have e : a * b * (a * b) = a * a * (b * b) := by grind
 rw [e]
 exact Rat.le_trans h1 (Rat.le_trans h3 h4)
theorem NS.add {x y : ι → Rat} {a b : Rat} (hx : NS S x a) (hy : NS S y b) : NS S (fun i => x i + y i) (a + b) := by
 refine ⟨by have := hx.1; have := hy.1; grind, ?_⟩
 have e : (fun i => (x i + y i) * (x i + y i)) = fun i => (x i * x i + 2 * (x i * y i)) + y i * y i := by funext i; grind
 rw [e, h.add (fun i => x i * x i + 2 * (x i * y i)) (fun i => y i * y i), h.add (fun i => x i * x i) (fun i => 2 * (x i * y i)), h.mul]
 have h1 := (hx.ip h hy).2
 have h2 := hx.2
 have h3 := hy.2
 grind
theorem NS.smul {x : ι → Rat} {a : Rat} (k : Rat) {k' : Rat} (hk : Ab k k') (hx : NS S x a) : NS S (fun i => k * x i) (k' * a) := by
 refine ⟨Rat.mul_nonneg hk.nonneg hx.1, ?_⟩
 have e : (fun i => k * x i * (k * x i)) = fun i => k * k * (x i * x i) := by funext i; grind
 rw [e, h.mul]
 have h1 := hk.mul hk
 have h2 := h.nn (fun i => x i * x i) (fun i => rat_sq_nonneg _)
 have h3 := Rat.mul_le_mul_of_nonneg_right h1.2 h2
 have h4 := Rat.mul_le_mul_of_nonneg_left hx.2 (Rat.mul_nonneg hk.nonneg hk.nonneg)
 have e2 : k' * a * (k' * a) = k' * k' * (a * a) := by grind
 rw [e2]
 exact Rat.le_trans h3 h4
theorem NS.neg {x : ι → Rat} {a : Rat} (hx : NS S x a) : NS S (fun i => -x i) a := by
 refine ⟨hx.1, ?_⟩
 have e : (fun i => -x i * -x i) = fun i => x i * x i := by funext i; grind
 rw [e]; exact hx.2
theorem NS.sub {x y : ι → Rat} {a b : Rat} (hx : NS S x a) (hy : NS S y b) : NS S (fun i => x i - y i) (a + b) := by
 have := hx.add h (hy.neg h)
 have e : (fun i => x i + -y i) = fun i => x i - y i := by funext i; grind
 rwa [e] at this
end
def Nm (n : Nat) (x : Nat → Rat) (b : Rat) : Prop := NS (fun f => sumP f n) x b
theorem Nm.congr {n : Nat} {x y : Nat → Rat} {b : Rat} (h : Nm n x b) (hh : ∀ i, i < n → x i = y i) : Nm n y b :=
 ⟨h.1, by
  have : sumP (fun i => y i * y i) n = sumP (fun i => x i * x i) n := sumP_congr fun i hi => by rw [hh i hi]
  show sumP (fun i => y i * y i) n ≤ _
  rw [this]; exact h.2⟩
def FN (r c : Nat) (X : Nat → Nat → Rat) (b : Rat) : Prop := NS (fun f : Nat × Nat → Rat => sum2 r c fun i k => f (i, k)) (fun p => X p.1 p.2) b
theorem FN.sq {r c : Nat} {X : Nat → Nat → Rat} {b : Rat} (h : FN r c X b) : sum2 r c (fun i k => X i k * X i k) ≤ b * b := h.2
theorem FN.mono {r c : Nat} {X : Nat → Nat → Rat} {b b' : Rat} (h : FN r c X b) (hb : b ≤ b') : FN r c X b' := NS.mono h hb
theorem FN.of {r c : Nat} {X : Nat → Nat → Rat} {b : Rat} (h0 : 0 ≤ b) (h : sum2 r c (fun i k => X i k * X i k) ≤ b * b) : FN r c X b := ⟨h0, h⟩
theorem sum2_congr {r c : Nat} {X Y : Nat → Nat → Rat} (h : ∀ i k, i < r → k < c → X i k = Y i k) : sum2 r c X = sum2 r c Y := sumP_congr fun i hi => sumP_congr fun k hk => h i k hi hk
theorem sum2_le {r c : Nat} {X Y : Nat → Nat → Rat} (h : ∀ i k, i < r → k < c → X i k ≤ Y i k) : sum2 r c X ≤ sum2 r c Y := sumP_le fun i hi => sumP_le fun k hk => h i k hi hk
theorem sum2_nonneg {r c : Nat} {X : Nat → Nat → Rat} (h : ∀ i k, i < r → k < c → 0 ≤ X i k) : 0 ≤ sum2 r c X := sumP_nonneg fun i hi => sumP_nonneg fun k hk => h i k hi hk
theorem sum2_swap (r c : Nat) (X : Nat → Nat → Rat) : sum2 r c X = sum2 c r fun k i => X i k := sumP_swap X c r
theorem sum2_mem {r c : Nat} {X : Nat → Nat → Rat} (h : ∀ i k, i < r → k < c → 0 ≤ X i k) {i k : Nat} (hi : i < r) (hk : k < c) : X i k ≤ sum2 r c X :=
 Rat.le_trans (sumP_mem (p := X i) (fun k hk => h i k hi hk) k hk) (sumP_mem (p := fun i => sumP (X i) c) (fun i hi => sumP_nonneg fun k hk => h i k hi hk) i hi)
theorem FN.congr {r c : Nat} {X Y : Nat → Nat → Rat} {b : Rat} (h : FN r c X b) (hh : ∀ i k, i < r → k < c → X i k = Y i k) : FN r c Y b :=
 FN.of h.1 (by rw [← sum2_congr (X := fun i k => X i k * X i k) fun i k hi hk => by rw [hh i k hi hk]]; exact h.2)
theorem FN.at {r c : Nat} {X : Nat → Nat → Rat} {b : Rat} (h : FN r c X b) {i k : Nat} (hi : i < r) (hk : k < c) : Ab (X i k) b :=
 Ab.of_sq h.1 (Rat.le_trans (sum2_mem (X := fun i k => X i k * X i k) (fun i k _ _ => rat_sq_nonneg _) hi hk) h.2)
theorem FN.add {r c : Nat} {X Y : Nat → Nat → Rat} {a b : Rat} (hx : FN r c X a) (hy : FN r c Y b) : FN r c (fun i k => X i k + Y i k) (a + b) := NS.add (pf_sum2 r c) hx hy
theorem FN.sub {r c : Nat} {X Y : Nat → Nat → Rat} {a b : Rat} (hx : FN r c X a) (hy : FN r c Y b) : FN r c (fun i k => X i k - Y i k) (a + b) := NS.sub (pf_sum2 r c) hx hy
theorem FN.smul {r c : Nat} {X : Nat → Nat → Rat} {a : Rat} (k : Rat) {k' : Rat} (hk : Ab k k') (hx : FN r c X a) : FN r c (fun i j => k * X i j) (k' * a) := NS.smul (pf_sum2 r c) k hk hx
def trp (X : Nat → Nat → Rat) : Nat → Nat → Rat := fun i k => X k i
theorem FN.tr {r c : Nat} {X : Nat → Nat → Rat} {b : Rat} (h : FN r c X b) : FN c r (trp X) b := FN.of h.1 (by unfold trp; rw [← sum2_swap r c fun i k => X i k * X i k]; exact h.2)
theorem FN.zero (r c : Nat) : FN r c (fun _ _ => 0) 0 := FN.of Rat.le_refl (by unfold sum2; simp [sumP_zero])
def mm (n : Nat) (X Y : Nat → Nat → Rat) : Nat → Nat → Rat := fun i k => sumP (fun j => X i j * Y j k) n
theorem mm_congr {n : Nat} {X Y X' Y' : Nat → Nat → Rat} {i k : Nat} (h : ∀ j, j < n → X i j = X' i j) (h' : ∀ j, j < n → Y j k = Y' j k) : mm n X Y i k = mm n X' Y' i k := sumP_congr fun j hj => by rw [h j hj, h' j hj]
theorem mm_addl (n : Nat) (X X' Y : Nat → Nat → Rat) (i k : Nat) : mm n (fun i k => X i k + X' i k) Y i k = mm n X Y i k + mm n X' Y i k := by
 unfold mm; rw [← sumP_add]; exact sumP_congr fun j _ => by grind
theorem mm_addr (n : Nat) (X Y Y' : Nat → Nat → Rat) (i k : Nat) : mm n X (fun i k => Y i k + Y' i k) i k = mm n X Y i k + mm n X Y' i k := by
 unfold mm; rw [← sumP_add]; exact sumP_congr fun j _ => by grind
theorem sumP_neg (p : Nat → Rat) (n : Nat) : sumP (fun i => -p i) n = -sumP p n := by
 have := sumP_mul p (-1) n
 have e : (fun i => -1 * p i) = fun i => -p i := by funext i; grind
 rw [e] at this; rw [this]; grind
theorem sumP_sub (p q : Nat → Rat) (n : Nat) : sumP (fun i => p i - q i) n = sumP p n - sumP q n := by
 have := sumP_add p (fun i => -q i) n
 have e : (fun i => p i + -q i) = fun i => p i - q i := by funext i; grind
 rw [e, sumP_neg] at this; rw [this]; grind
theorem FN.mul {r n c : Nat} {X Y : Nat → Nat → Rat} {a b : Rat} (hx : FN r n X a) (hy : FN n c Y b) : FN r c (mm n X Y) (a * b) := by
 refine FN.of (Rat.mul_nonneg hx.1 hy.1) ?_
 have h1 : sum2 r c (fun i k => mm n X Y i k * mm n X Y i k) ≤ sum2 r c (fun i k => sumP (fun j => X i j * X i j) n * sumP (fun j => Y j k * Y j k) n) := sum2_le fun i k _ _ => (pf_sum n).cs (X i) (fun j => Y j k)
 have h2 : sum2 r c (fun i k => sumP (fun j => X i j * X i j) n * sumP (fun j => Y j k * Y j k) n) = sum2 r n (fun i j => X i j * X i j) * sum2 n c (fun j k => Y j k * Y j k) := by
  rw [sum2_swap n c]
  unfold sum2
  rw [← sumP_mulr]
  exact sumP_congr fun i _ => sumP_mul _ _ _
 rw [h2] at h1
 have h3 : 0 ≤ sum2 r n (fun i j => X i j * X i j) := sum2_nonneg fun i k _ _ => rat_sq_nonneg _
 have h4 := Rat.mul_le_mul_of_nonneg_left hy.sq h3
 have h5 := Rat.mul_le_mul_of_nonneg_right hx.sq (Rat.mul_nonneg hy.1 hy.1)
 have e : a * b * (a * b) = a * a * (b * b) := by grind
 rw [e]
 exact Rat.le_trans h1 (Rat.le_trans h4 h5)
theorem big1000 : P2 1000 * 8 ≤ P2 1023 := by decide +kernel
theorem ee0 : 0 ≤ ee ∧ ee ≤ uu := ⟨Rat.le_of_lt (P2_pos _), by decide +kernel⟩
def dotQ (x y : List Nat) (n : Nat) : Rat := sumP (fun i => W (el x i) * W (el y i)) n
theorem dotQ_nonneg (x y : List Nat) (n : Nat) : 0 ≤ dotQ x y n := sumP_nonneg fun i _ => Rat.mul_nonneg (W_nonneg _) (W_nonneg _)
theorem dotX_ab (x y : List Nat) : ∀ n, Ab (dotX x y n) (dotQ x y n)
 | 0 => ⟨by unfold dotX dotQ sumP; grind, by unfold dotX dotQ sumP; grind⟩
 | n + 1 => (dotX_ab x y n).add ((sv_ab (el x n)).mul (sv_ab (el y n)))
theorem dotQ_mono (x y : List Nat) {m n : Nat} (h : m ≤ n) : dotQ x y m ≤ dotQ x y n := by
 obtain ⟨k, rfl⟩ : ∃ k, n = m + k := ⟨n - m, by omega⟩
 have := sumP_split (fun i => W (el x i) * W (el y i)) m k
 have h2 : 0 ≤ sumP (fun i => W (el x (m + i)) * W (el y (m + i))) k := sumP_nonneg fun i _ => Rat.mul_nonneg (W_nonneg _) (W_nonneg _)
 unfold dotQ; rw [this]; grind
theorem dot_any {x y : List Nat} (hx : ∀ j, j < x.length → fPow (el x j) ≠ 2047) (hy : ∀ j, j < x.length → fPow (el y j) ≠ 2047) (hl : x.length ≤ 6) (hQ : dotQ x y x.length ≤ P2 1000) : ∀ (m : Nat) {i s : Nat}, i + m = x.length →
  Fl s (dotX x y i) ((i : Rat) * (21 / 10 * uu * dotQ x y x.length + 4 * ee)) → Fl (dotR x y m i s) (dotX x y x.length) ((x.length : Rat) * (21 / 10 * uu * dotQ x y x.length + 4 * ee))
 | 0, i, s, hi, hs => by
  have : i = x.length := by omega
  subst this; exact hs
 | m + 1, i, s, hi, hs => by
  have hlt : i < x.length := by omega
  refine dot_any hx hy hl hQ m (i := i + 1) (by omega) ?_
  obtain ⟨e0, e1⟩ := ee0
  have hb := big1000
  have u0 := uu_pos
  have hq0 := dotQ_nonneg x y x.length
  have hi5 : ((i : Nat) : Rat) ≤ ((5 : Nat) : Rat) := Rat.natCast_le_natCast.2 (by omega)
  have e5 : ((5 : Nat) : Rat) = 5 := rfl
  rw [e5] at hi5
  have hi0 : (0 : Rat) ≤ (i : Rat) := Rat.natCast_nonneg
  have ap := (sv_ab (el x i)).mul (sv_ab (el y i))
  have hle : dotQ x y (i + 1) ≤ dotQ x y x.length := dotQ_mono x y (by omega)
  have hsucc : dotQ x y (i + 1) = dotQ x y i + W (el x i) * W (el y i) := rfl
  have hqi := dotQ_nonneg x y i
  have hpi : 0 ≤ W (el x i) * W (el y i) := Rat.mul_nonneg (W_nonneg _) (W_nonneg _)
  have hd := dotX_ab x y i
  have big : (1 : Rat) ≤ P2 1000 := by decide +kernel
  generalize hQd : dotQ x y x.length = Q at *
  generalize hqd : W (el x i) * W (el y i) = q at *
  have p := fl_mul (hx i hlt) (hy i hlt) ap (by generalize P2 1000 = B at *; grind)
  have bs := hs.bound hd
  have bp := p.bound ap
  have hu1 : uu * Q ≤ 1 / 1000000 * Q := Rat.mul_le_mul_of_nonneg_right (by decide +kernel) hq0
  have huq : uu * q ≤ 1 / 1000000 * q := Rat.mul_le_mul_of_nonneg_right (by decide +kernel) hpi
  have hK : (i : Rat) * (21 / 10 * uu * Q + 4 * ee) ≤ 5 * (21 / 10 * uu * Q + 4 * ee) := Rat.mul_le_mul_of_nonneg_right hi5 (by
   have := Rat.mul_nonneg u0 hq0
   grind)
  have hee : ee ≤ 1 / 1000000 := by decide +kernel
  have hC : Ab (sv s + sv (mulV (el x i) (el y i))) (1001 / 1000 * Q + 22 * ee) := (bs.add bp).mono (by
   generalize (i : Rat) * (21 / 10 * uu * Q + 4 * ee) = z at *
   generalize ee = e at *
   generalize uu = u at *
   grind)
  have r := hs.add p hC (by generalize P2 1000 = B at *; generalize P2 1023 = B2 at *; grind)
  have hd2 : dotX x y (i + 1) = dotX x y i + sv (el x i) * sv (el y i) := rfl
  rw [hd2]
  refine r.mono ?_
  rw [nat_rat, Rat.add_mul (i : Rat) 1]
  have h3 : uu * q ≤ uu * Q := Rat.mul_le_mul_of_nonneg_left (by grind) u0
  have h4 : ee * uu ≤ ee * (1 / 1000000) := Rat.mul_le_mul_of_nonneg_left (by decide +kernel) e0
  have h5 := Rat.mul_nonneg u0 hq0
  generalize (i : Rat) * (21 / 10 * uu * Q + 4 * ee) = z at *
  generalize ee = e at *
  generalize uu = u at *
  grind
theorem dotV_any {x y : List Nat} (hx : ∀ j, j < x.length → fPow (el x j) ≠ 2047) (hy : ∀ j, j < x.length → fPow (el y j) ≠ 2047) (hl : x.length ≤ 6) (hQ : dotQ x y x.length ≤ P2 1000) : Fl (dotV x y) (dotX x y x.length) (13 * uu * dotQ x y x.length + 24 * ee) := by
 have h := dot_any hx hy hl hQ x.length (i := 0) (s := 0) (by omega) ⟨by decide, by decide, by
  rw [sv_zero (by decide)]
  refine Er.mono (Er.refl 0) ?_
  have : ((0 : Nat) : Rat) = 0 := rfl
  rw [this]; grind⟩
 refine h.mono ?_
 have hi5 : ((x.length : Nat) : Rat) ≤ ((6 : Nat) : Rat) := Rat.natCast_le_natCast.2 (by omega)
 have e5 : ((6 : Nat) : Rat) = 6 := rfl
 rw [e5] at hi5
 have hq0 := dotQ_nonneg x y x.length
 have u0 := Rat.mul_nonneg uu_pos hq0
 have := Rat.mul_le_mul_of_nonneg_right hi5 (c := 21 / 10 * uu * dotQ x y x.length + 4 * ee) (by have := ee0.1; grind)
 grind
theorem rot_fl {C S a b : Nat} {A B : Rat} (fC : fPow C ≠ 2047) (fS : fPow S ≠ 2047) (hC : W C ≤ 101 / 100) (hS : W S ≤ 101 / 100) (fa : fPow a ≠ 2047) (fb : fPow b ≠ 2047) (hA : W a ≤ A) (hB : W b ≤ B) (hAB : A + B ≤ P2 1000) :
  Fl (addV (mulV C a) (mulV S b)) (sv C * sv a + sv S * sv b) (3 * uu * (A + B) + 4 * ee) := by
 obtain ⟨e0, e1⟩ := ee0
 have u0 := uu_pos
 have hb := big1000
 have hA0 := Rat.le_trans (W_nonneg a) hA
 have hB0 := Rat.le_trans (W_nonneg b) hB
 have big : (1 : Rat) ≤ P2 1000 := by decide +kernel
 have h1 := ((sv_ab C).mono hC).mul ((sv_ab a).mono hA)
 have h2 := ((sv_ab S).mono hS).mul ((sv_ab b).mono hB)
 have p1 := fl_mul fC fa h1 (by generalize P2 1000 = Z at *; grind)
 have p2 := fl_mul fS fb h2 (by generalize P2 1000 = Z at *; grind)
 have b1 := p1.bound h1
 have b2 := p2.bound h2
 have hu : uu ≤ 1 / 1000000 := by decide +kernel
 have huA : uu * A ≤ 1 / 1000000 * A := Rat.mul_le_mul_of_nonneg_right hu hA0
 have huB : uu * B ≤ 1 / 1000000 * B := Rat.mul_le_mul_of_nonneg_right hu hB0
 have hee : ee ≤ 1 / 1000000 := by decide +kernel
 have hC3 : Ab (sv (mulV C a) + sv (mulV S b)) (102 / 100 * (A + B) + 2 * ee) := (b1.add b2).mono (by generalize ee = e at *; generalize uu = u at *; grind)
 have r := p1.add p2 hC3 (by generalize P2 1000 = Z at *; generalize P2 1023 = Z2 at *; grind)
 refine r.mono ?_
 have h4 : ee * uu ≤ ee * (1 / 1000000) := Rat.mul_le_mul_of_nonneg_left hu e0
 have h5 := Rat.mul_nonneg u0 hA0
 have h6 := Rat.mul_nonneg u0 hB0
 generalize ee = e at *
 generalize uu = u at *
 grind
theorem rot_fl2 {C S a b : Nat} {A B : Rat} (fC : fPow C ≠ 2047) (fS : fPow S ≠ 2047) (hC : W C ≤ 101 / 100) (hS : W S ≤ 101 / 100) (fa : fPow a ≠ 2047) (fb : fPow b ≠ 2047) (hA : W a ≤ A) (hB : W b ≤ B) (hAB : A + B ≤ P2 1000) :
  Fl (subV (mulV C b) (mulV S a)) (sv C * sv b - sv S * sv a) (3 * uu * (A + B) + 4 * ee) := by
 obtain ⟨e0, e1⟩ := ee0
 have u0 := uu_pos
 have hb := big1000
 have hA0 := Rat.le_trans (W_nonneg a) hA
 have hB0 := Rat.le_trans (W_nonneg b) hB
 have big : (1 : Rat) ≤ P2 1000 := by decide +kernel
 have h1 := ((sv_ab C).mono hC).mul ((sv_ab b).mono hB)
 have h2 := ((sv_ab S).mono hS).mul ((sv_ab a).mono hA)
 have p1 := fl_mul fC fb h1 (by generalize P2 1000 = Z at *; grind)
 have p2 := fl_mul fS fa h2 (by generalize P2 1000 = Z at *; grind)
 have b1 := p1.bound h1
 have b2 := p2.bound h2
 have hu : uu ≤ 1 / 1000000 := by decide +kernel
 have huA : uu * A ≤ 1 / 1000000 * A := Rat.mul_le_mul_of_nonneg_right hu hA0
 have huB : uu * B ≤ 1 / 1000000 * B := Rat.mul_le_mul_of_nonneg_right hu hB0
 have hee : ee ≤ 1 / 1000000 := by decide +kernel
 have hC3 : Ab (sv (mulV C b) - sv (mulV S a)) (102 / 100 * (A + B) + 2 * ee) := (b1.sub b2).mono (by generalize ee = e at *; generalize uu = u at *; grind)
 have r := p1.sub p2 hC3 (by generalize P2 1000 = Z at *; generalize P2 1023 = Z2 at *; grind)
 refine r.mono ?_
 have h4 : ee * uu ≤ ee * (1 / 1000000) := Rat.mul_le_mul_of_nonneg_left hu e0
 have h5 := Rat.mul_nonneg u0 hA0
 have h6 := Rat.mul_nonneg u0 hB0
 generalize ee = e at *
 generalize uu = u at *
 grind
theorem W_pos {b : Nat} (h : fMag b ≠ 0) : 0 < W b := Rat.mul_pos (by have : 0 < fMag b := Nat.pos_of_ne_zero h; exact Rat.natCast_pos.2 this) (P2_pos _)
theorem div_any {a b : Nat} {Q : Rat} (fa : fPow a ≠ 2047) (fb : fPow b ≠ 2047) (h0 : fMag b ≠ 0) (hQ : W a ≤ Q * W b) (hQ2 : Q ≤ P2 1000) :
  fPow (divV a b) ≠ 2047 ∧ Er (W (divV a b) * W b) (W a) (2 * uu * W a + ee * W b) ∧ W (divV a b) ≤ 2 * Q + ee := by
 have hWa := W_nonneg a
 have hbpos := W_pos h0
 have hWb := Rat.le_of_lt hbpos
 obtain ⟨e0, e1⟩ := ee0
 have u0 := uu_pos
 have zb : ¬ zeroB b := fun h => h0 h.1
 have hQ0 : 0 ≤ Q := by
  refine Rat.le_of_mul_le_mul_right (c := W b) ?_ hbpos
  rw [Rat.zero_mul]; exact Rat.le_trans hWa hQ
 by_cases hz : fMag a = 0
 ·have za : zeroB a := (zeroB_mag fa).2 hz
  have hv : divV a b = sgn (fNeg a != fNeg b) 0 := by
   unfold divV
   rw [if_neg (by simp [fin_nan fa, fin_nan fb]), if_neg (fin_inf fa), if_neg (fin_inf fb), if_neg zb, if_pos za]
  have hm : fMag (divV a b) = 0 := by rw [hv]; cases (fNeg a != fNeg b) <;> decide
  have hp : fPow (divV a b) ≠ 2047 := by rw [hv]; cases (fNeg a != fNeg b) <;> decide
  rw [W_zero_of hm, W_zero_of hz]
  have := Rat.mul_nonneg e0 hWb
  exact ⟨hp, ⟨by grind, by grind⟩, by grind⟩
 ·have za : ¬ zeroB a := fun h => hz h.1
  have hv : divV a b = nearV (fNeg a != fNeg b) (quoN (fMag a) (fMag b) (quoK (fMag a) (fMag b))) (fPl a - fPl b - quoK (fMag a) (fMag b) - 1) := by
   unfold divV
   rw [if_neg (by simp [fin_nan fa, fin_nan fb]), if_neg (fin_inf fa), if_neg (fin_inf fb), if_neg zb, if_neg za]
  obtain ⟨q1, q2⟩ := quo_val hz h0 (fMag_lt a) (fPl a) (fPl b)
  rw [show D (fMag a) (fPl a) = W a from rfl, show D (fMag b) (fPl b) = W b from rfl] at q1 q2
  generalize hN : quoN (fMag a) (fMag b) (quoK (fMag a) (fMag b)) = N at *
  generalize hE : fPl a - fPl b - quoK (fMag a) (fMag b) - 1 = E at *
  have hD5 : D N E ≤ 3 / 2 * Q := by
   have : D N E * W b ≤ 3 / 2 * Q * W b := by grind
   exact Rat.le_of_mul_le_mul_right this hbpos
  have hf : nearR N E < infR := near_fin (by
   have := big1000
   generalize P2 1000 = Z at *
   generalize P2 1023 = Z2 at *
   grind)
  obtain ⟨g1, g2⟩ := near_err' hf
  have hWn : W (divV a b) = W (nearR N E) := by rw [hv, ← W_abs, absV_near]
  have hDn := D_nonneg N E
  refine ⟨by rw [hv]; exact fin_near hf, ?_, ?_⟩
  ·rw [hWn]
   have m1 := Rat.mul_le_mul_of_nonneg_right g1 hWb
   have m2 := Rat.mul_le_mul_of_nonneg_right g2 hWb
   show Er _ _ (2 * (1 / 9007199254740992) * W a + P2 (-1075) * W b)
   exact ⟨by grind, by grind⟩
  ·rw [hWn]
   show _ ≤ 2 * Q + P2 (-1075)
   grind
theorem div_sign {a b : Nat} (fa : fPow a ≠ 2047) (fb : fPow b ≠ 2047) (h0 : fMag b ≠ 0) : fNeg (divV a b) = (fNeg a != fNeg b) := by
 have zb : ¬ zeroB b := fun h => h0 h.1
 by_cases hz : fMag a = 0
 ·have za : zeroB a := (zeroB_mag fa).2 hz
  have hv : divV a b = sgn (fNeg a != fNeg b) 0 := by
   unfold divV
   rw [if_neg (by simp [fin_nan fa, fin_nan fb]), if_neg (fin_inf fa), if_neg (fin_inf fb), if_neg zb, if_pos za]
  rw [hv]; cases (fNeg a != fNeg b) <;> decide
 ·have za : ¬ zeroB a := fun h => hz h.1
  unfold divV
  rw [if_neg (by simp [fin_nan fa, fin_nan fb]), if_neg (fin_inf fa), if_neg (fin_inf fb), if_neg zb, if_neg za]
  exact word_neg _ _ _
theorem sum_pick {p : Nat} {d : Nat → Rat} : ∀ {n : Nat}, p < n → (∀ k, k < n → k ≠ p → d k = 0) → sumP d n = d p
 | 0, h, _ => by omega
 | n + 1, h, hd => by
  unfold sumP
  by_cases hp : p = n
  ·subst hp
   have : sumP d p = sumP (fun _ => 0) p := sumP_congr fun k hk => hd k (by omega) (by omega)
   rw [this, sumP_zero]; grind
  ·rw [sum_pick (n := n) (by omega) (fun k hk hk2 => hd k (by omega) hk2), hd n (by omega) (by omega)]; grind
theorem sum_pq {n p q : Nat} {f g : Nat → Rat} (hp : p < n) (hq : q < n) (hpq : p ≠ q) (h : ∀ k, k < n → k ≠ p → k ≠ q → f k = g k) : sumP f n = sumP g n + (f p - g p) + (f q - g q) := by
 have h1 := sum_pick (d := fun k => if k = p then f p - g p else 0) hp (fun k _ hk => by simp [hk])
 have h2 := sum_pick (d := fun k => if k = q then f q - g q else 0) hq (fun k _ hk => by simp [hk])
 simp only [if_true] at h1 h2
 have e : sumP f n = sumP (fun k => g k + (if k = p then f p - g p else 0) + (if k = q then f q - g q else 0)) n := sumP_congr fun k hk => by
  by_cases h3 : k = p
  ·subst h3; rw [if_pos rfl, if_neg hpq]; grind
  ·by_cases h4 : k = q
   ·subst h4; rw [if_pos rfl, if_neg h3]; grind
   ·rw [if_neg h3, if_neg h4, h k hk h3 h4]; grind
 rw [e, sumP_add, sumP_add, h1, h2]
theorem sum_two_le {n p q : Nat} {f : Nat → Rat} (hp : p < n) (hq : q < n) (hpq : p ≠ q) (h : ∀ k, k < n → 0 ≤ f k) : f p + f q ≤ sumP f n := by
 have h1 := sum_pq (f := fun k => if k = p ∨ k = q then f k else 0) (g := fun _ => 0) hp hq hpq (fun k _ h1 h2 => by simp [h1, h2])
 rw [sumP_zero] at h1
 simp only [true_or, or_true, if_true] at h1
 have h2 : sumP (fun k => if k = p ∨ k = q then f k else 0) n ≤ sumP f n := sumP_le fun k hk => by
  split
  ·exact Rat.le_refl
  ·exact h k hk
 grind
def cop (X : Nat → Nat → Rat) (p q : Nat) (C S : Rat) : Nat → Nat → Rat := fun i k => if k = p then C * X i p + S * X i q else if k = q then C * X i q - S * X i p else X i k
def rop (X : Nat → Nat → Rat) (p q : Nat) (C S : Rat) : Nat → Nat → Rat := fun i k => if i = p then C * X p k + S * X q k else if i = q then C * X q k - S * X p k else X i k
theorem rop_tr (X : Nat → Nat → Rat) (p q : Nat) (C S : Rat) : rop X p q C S = trp (cop (trp X) p q C S) := rfl
theorem cop_tr (X : Nat → Nat → Rat) (p q : Nat) (C S : Rat) : trp (cop X p q C S) = rop (trp X) p q C S := rfl
section
variable {p q : Nat} (hpq : p ≠ q) (C S : Rat)
include hpq
theorem cop_sq {c : Nat} (hp : p < c) (hq : q < c) (X : Nat → Nat → Rat) (i : Nat) :
  sumP (fun k => cop X p q C S i k * cop X p q C S i k) c = sumP (fun k => X i k * X i k) c + (C * C + S * S - 1) * (X i p * X i p + X i q * X i q) := by
 rw [sum_pq (g := fun k => X i k * X i k) hp hq hpq (fun k _ h1 h2 => by simp only [cop, if_neg h1, if_neg h2])]
 simp only [cop, if_true, if_neg hpq.symm]
 grind
theorem FN.cop {r c : Nat} (hp : p < c) (hq : q < c) {X : Nat → Nat → Rat} {a g : Rat} (h : FN r c X a) (hg : Ab (C * C + S * S - 1) g) : FN r c (cop X p q C S) ((1 + g) * a) := by
 have g0 := hg.nonneg
 refine FN.of (Rat.mul_nonneg (by grind) h.1) ?_
 have h1 : sum2 r c (fun i k => Dx.cop X p q C S i k * Dx.cop X p q C S i k) ≤ (1 + g) * sum2 r c (fun i k => X i k * X i k) := by
  unfold sum2
  rw [← sumP_mul]
  refine sumP_le fun i _ => ?_
  rw [cop_sq hpq C S hp hq X i]
  have h2 := sum_two_le (f := fun k => X i k * X i k) hp hq hpq (fun k _ => rat_sq_nonneg _)
  have h3 := Rat.mul_le_mul_of_nonneg_right hg.2 (c := X i p * X i p + X i q * X i q) (by have := rat_sq_nonneg (X i p); have := rat_sq_nonneg (X i q); grind)
  have h4 := Rat.mul_le_mul_of_nonneg_left h2 g0
  generalize sumP (fun k => X i k * X i k) c = z at *
  generalize X i p * X i p + X i q * X i q = y at *
  grind
 have h5 := Rat.mul_le_mul_of_nonneg_left h.sq (c := 1 + g) (by grind)
 have h6 := Rat.mul_nonneg h.1 h.1
 have h7 := Rat.mul_nonneg g0 h6
 have h8 := Rat.mul_nonneg g0 h7
 have e : (1 + g) * a * ((1 + g) * a) = (1 + g) * (a * a) + g * (a * a) + g * (g * (a * a)) := by grind
 rw [e]
 grind
theorem FN.rop {r c : Nat} (hp : p < r) (hq : q < r) {X : Nat → Nat → Rat} {a g : Rat} (h : FN r c X a) (hg : Ab (C * C + S * S - 1) g) : FN r c (rop X p q C S) ((1 + g) * a) := by
 rw [rop_tr]; exact (FN.cop hpq C S hp hq h.tr hg).tr
theorem mm_cop (n : Nat) (A Y : Nat → Nat → Rat) (i k : Nat) : mm n A (Dx.cop Y p q C S) i k = Dx.cop (mm n A Y) p q C S i k := by
 unfold mm Dx.cop
 by_cases h1 : k = p
 ·simp only [if_pos h1]
  rw [← sumP_mul, ← sumP_mul, ← sumP_add]
  exact sumP_congr fun j _ => by grind
 ·by_cases h2 : k = q
  ·simp only [if_neg h1, if_pos h2]
   rw [← sumP_mul, ← sumP_mul, ← sumP_sub]
   exact sumP_congr fun j _ => by grind
  ·simp only [if_neg h1, if_neg h2]
theorem mm_rop (n : Nat) (X Y : Nat → Nat → Rat) (i k : Nat) : mm n (Dx.rop X p q C S) Y i k = Dx.rop (mm n X Y) p q C S i k := by
 unfold mm Dx.rop
 by_cases h1 : i = p
 ·simp only [if_pos h1]
  rw [← sumP_mul, ← sumP_mul, ← sumP_add]
  exact sumP_congr fun j _ => by grind
 ·by_cases h2 : i = q
  ·simp only [if_neg h1, if_pos h2]
   rw [← sumP_mul, ← sumP_mul, ← sumP_sub]
   exact sumP_congr fun j _ => by grind
  ·simp only [if_neg h1, if_neg h2]
end
def mvl (c : Nat) (x : List Nat) : Nat → Nat → Rat := fun i k => sv (el x (ps i c k))
def Fin2 (r c : Nat) (x : List Nat) : Prop := ∀ i k, i < r → k < c → fPow (el x (ps i c k)) ≠ 2047
theorem fin2_iff {r c : Nat} {x : List Nat} (h : Mx r c x) : finV x = true ↔ Fin2 r c x := finV_mx h
theorem rowV_at {r c : Nat} {x : List Nat} (h : Mx r c x) {C S p q : Nat} (hp : p < r) (hq : q < r) (hpq : p ≠ q) {t : Nat} (ht : t < c) :
  el (rowV x c p q C S) (ps p c t) = addV (mulV C (el x (ps p c t))) (mulV S (el x (ps q c t))) ∧ el (rowV x c p q C S) (ps q c t) = subV (mulV C (el x (ps q c t))) (mulV S (el x (ps p c t))) :=
 rowR_at hp hq hpq c 0 (by omega) h.len t (by omega) ht
theorem rowV_other {r c : Nat} {x : List Nat} (_ : Mx r c x) {C S p q : Nat} {i t : Nat} (ht : t < c) (h1 : i ≠ p) (h2 : i ≠ q) : el (rowV x c p q C S) (ps i c t) = el x (ps i c t) := by
 refine rowR_other c 0 (fun j' => ?_) (fun j' => ?_)
 ·by_cases h6 : 0 ≤ j' ∧ j' < 0 + c
  ·left; intro hh; exact h1 (ps_inj (show j' < c by omega) ht hh).1.symm
  ·exact .inr h6
 ·by_cases h6 : 0 ≤ j' ∧ j' < 0 + c
  ·left; intro hh; exact h2 (ps_inj (show j' < c by omega) ht hh).1.symm
  ·exact .inr h6
structure TurnCS (C S : Nat) (g : Rat) : Prop where
 cl : C < 18446744073709551616
 sl : S < 18446744073709551616
 cf : fPow C ≠ 2047
 sf : fPow S ≠ 2047
 c1 : W C ≤ 101 / 100
 s1 : W S ≤ 101 / 100
 one : Ab (sv C * sv C + sv S * sv S - 1) g
theorem W_le_of {w : Nat} {a : Rat} (h : Ab (sv w) a) : W w ≤ a := W_of_sv h
theorem p900 : P2 900 * 2 ≤ P2 1000 ∧ (0 : Rat) ≤ P2 900 := by decide +kernel
theorem row_err {r c : Nat} {x : List Nat} (h : Mx r c x) (hf : Fin2 r c x) {C S : Nat} {g : Rat} (hcs : TurnCS C S g) {p q : Nat} (hp : p < r) (hq : q < r) (hpq : p ≠ q) {a : Rat} (ha : FN r c (mvl c x) a) (ha2 : a ≤ P2 900) :
  Fin2 r c (rowV x c p q C S) ∧ FN r c (fun i k => mvl c (rowV x c p q C S) i k - rop (mvl c x) p q (sv C) (sv S) i k) (9 * uu * a + 20 * ee) := by
 obtain ⟨e0, e1⟩ := ee0
 have u0 := uu_pos
 have hW : ∀ i k, i < r → k < c → W (el x (ps i c k)) ≤ a := fun i k hi hk => W_le_of (ha.at hi hk)
 have hbig : a + a ≤ P2 1000 := by
  have := p900.1
  generalize P2 900 = Z at *
  generalize P2 1000 = Z2 at *
  grind
 have cell : ∀ k, k < c → (fPow (el (rowV x c p q C S) (ps p c k)) ≠ 2047 ∧ fPow (el (rowV x c p q C S) (ps q c k)) ≠ 2047) ∧
   Ab (mvl c (rowV x c p q C S) p k - rop (mvl c x) p q (sv C) (sv S) p k) (3 * uu * (W (el x (ps p c k)) + W (el x (ps q c k))) + 4 * ee) ∧
   Ab (mvl c (rowV x c p q C S) q k - rop (mvl c x) p q (sv C) (sv S) q k) (3 * uu * (W (el x (ps p c k)) + W (el x (ps q c k))) + 4 * ee) := fun k hk => by
  obtain ⟨v1, v2⟩ := rowV_at h (C := C) (S := S) hp hq hpq hk
  have w1 := hW p k hp hk
  have w2 := hW q k hq hk
  have r1 := rot_fl (a := el x (ps p c k)) (b := el x (ps q c k)) hcs.cf hcs.sf hcs.c1 hcs.s1 (hf p k hp hk) (hf q k hq hk) Rat.le_refl Rat.le_refl (Rat.le_trans (by grind) hbig)
  have r2 := rot_fl2 (a := el x (ps p c k)) (b := el x (ps q c k)) hcs.cf hcs.sf hcs.c1 hcs.s1 (hf p k hp hk) (hf q k hq hk) Rat.le_refl Rat.le_refl (Rat.le_trans (by grind) hbig)
  rw [← v1] at r1
  rw [← v2] at r2
  refine ⟨⟨r1.fin, r2.fin⟩, ?_, ?_⟩
  ·unfold mvl rop; rw [if_pos rfl]; exact r1.er.ab
  ·unfold mvl rop; rw [if_neg hpq.symm, if_pos rfl]; exact r2.er.ab
 have oth : ∀ i k, k < c → i ≠ p → i ≠ q → mvl c (rowV x c p q C S) i k - rop (mvl c x) p q (sv C) (sv S) i k = 0 := fun i k hk h1 h2 => by
  unfold mvl rop; rw [if_neg h1, if_neg h2, rowV_other h hk h1 h2]; grind
 refine ⟨fun i k hi hk => ?_, ?_⟩
 ·by_cases h1 : i = p
  ·subst h1; exact (cell k hk).1.1
  ·by_cases h2 : i = q
   ·subst h2; exact (cell k hk).1.2
   ·rw [rowV_other h hk h1 h2]; exact hf i k hi hk
 ·have a0 := ha.1
  refine FN.of (by have := Rat.mul_nonneg u0 a0; grind) ?_
  rw [sum2_swap]
  have hcol : ∀ k, k < c → sumP (fun i => (mvl c (rowV x c p q C S) i k - rop (mvl c x) p q (sv C) (sv S) i k) * (mvl c (rowV x c p q C S) i k - rop (mvl c x) p q (sv C) (sv S) i k)) r ≤
    72 * uu * uu * sumP (fun i => mvl c x i k * mvl c x i k) r + 64 * ee * ee := fun k hk => by
   rw [sum_pq (g := fun _ => 0) hp hq hpq (fun i hi h1 h2 => by rw [oth i k hk h1 h2]; grind), sumP_zero]
   obtain ⟨-, c1, c2⟩ := cell k hk
   have s1 := (c1.mul c1).2
   have s2 := (c2.mul c2).2
   have h3 := sum_two_le (f := fun i => mvl c x i k * mvl c x i k) hp hq hpq (fun i _ => rat_sq_nonneg _)
   have e3 : mvl c x p k * mvl c x p k = W (el x (ps p c k)) * W (el x (ps p c k)) := sv_W _
   have e4 : mvl c x q k * mvl c x q k = W (el x (ps q c k)) * W (el x (ps q c k)) := sv_W _
   rw [e3, e4] at h3
   have h4 := Rat.mul_le_mul_of_nonneg_left h3 (c := uu * uu) (Rat.mul_nonneg u0 u0)
   generalize W (el x (ps p c k)) = A at *
   generalize W (el x (ps q c k)) = B at *
   generalize mvl c (rowV x c p q C S) p k - rop (mvl c x) p q (sv C) (sv S) p k = y1 at *
   generalize mvl c (rowV x c p q C S) q k - rop (mvl c x) p q (sv C) (sv S) q k = y2 at *
   generalize sumP (fun i => mvl c x i k * mvl c x i k) r = z at *
   generalize ee = e at *
   generalize uu = u at *
   clear cell oth c1 c2 h3 e3 e4
   have q1 := rat_sq_nonneg (u * (A - B))
   have q2 := rat_sq_nonneg (3 * u * (A + B) - 4 * e)
   grind
  have hsum : sumP (fun k => sumP (fun i => (mvl c (rowV x c p q C S) i k - rop (mvl c x) p q (sv C) (sv S) i k) * (mvl c (rowV x c p q C S) i k - rop (mvl c x) p q (sv C) (sv S) i k)) r) c ≤
    72 * uu * uu * sum2 c r (fun k i => mvl c x i k * mvl c x i k) + (c : Rat) * (64 * ee * ee) := by
   unfold sum2
   rw [← sumP_const, ← sumP_mul, ← sumP_add]
   exact sumP_le hcol
  have hc6 : ((c : Nat) : Rat) ≤ ((6 : Nat) : Rat) := Rat.natCast_le_natCast.2 h.hc
  have e6 : ((6 : Nat) : Rat) = 6 := rfl
  rw [e6] at hc6
  have h7 := Rat.mul_le_mul_of_nonneg_right hc6 (c := 64 * ee * ee) (by have := Rat.mul_nonneg e0 e0; grind)
  have h8 := ha.sq
  rw [sum2_swap] at h8
  have h9 := Rat.mul_le_mul_of_nonneg_left h8 (c := uu * uu) (Rat.mul_nonneg u0 u0)
  have h10 := Rat.mul_nonneg (Rat.mul_nonneg u0 a0) e0
  have h11 := rat_sq_nonneg (uu * a)
  have h12 := rat_sq_nonneg ee
  refine Rat.le_trans hsum ?_
  generalize sum2 c r (fun k i => mvl c x i k * mvl c x i k) = z at *
  generalize (c : Rat) * (64 * ee * ee) = y at *
  generalize ee = e at *
  generalize uu = u at *
  grind
theorem mvl_tp {r c : Nat} {x : List Nat} {i k : Nat} (hi : i < r) (hk : k < c) : mvl r (tpV r c x) k i = mvl c x i k := by unfold mvl; rw [el_tpV hi hk]
theorem fin2_tp {r c : Nat} {x : List Nat} (hf : Fin2 r c x) : Fin2 c r (tpV r c x) := fun k i hk hi => by rw [el_tpV hi hk]; exact hf i k hi hk
theorem col_err {r c : Nat} {x : List Nat} (h : Mx r c x) (hf : Fin2 r c x) {C S : Nat} {g : Rat} (hcs : TurnCS C S g) {p q : Nat} (hp : p < c) (hq : q < c) (hpq : p ≠ q) {a : Rat} (ha : FN r c (mvl c x) a) (ha2 : a ≤ P2 900) :
  Fin2 r c (colV r c x p q C S) ∧ FN r c (fun i k => mvl c (colV r c x p q C S) i k - cop (mvl c x) p q (sv C) (sv S) i k) (9 * uu * a + 20 * ee) := by
 have ht := tpV_mx h
 have ha' : FN c r (mvl r (tpV r c x)) a := ha.tr.congr fun k i hk hi => by rw [mvl_tp hi hk]; rfl
 obtain ⟨f1, f2⟩ := row_err ht (fin2_tp hf) hcs hp hq hpq ha' ha2
 have e : ∀ i k, i < r → k < c → el (colV r c x p q C S) (ps i c k) = el (rowV (tpV r c x) r p q C S) (ps k r i) := fun i k hi hk => by unfold colV; rw [el_tpV hk hi]
 refine ⟨fun i k hi hk => by rw [e i k hi hk]; exact f1 k i hk hi, f2.tr.congr fun i k hi hk => ?_⟩
 have e1 : mvl c (colV r c x p q C S) i k = mvl r (rowV (tpV r c x) r p q C S) k i := by unfold mvl; rw [e i k hi hk]
 rw [e1]
 show mvl r (rowV (tpV r c x) r p q C S) k i - rop (mvl r (tpV r c x)) p q (sv C) (sv S) k i = _
 have e2 : rop (mvl r (tpV r c x)) p q (sv C) (sv S) k i = cop (mvl c x) p q (sv C) (sv S) i k := by
  unfold rop cop
  rw [mvl_tp hi hp, mvl_tp hi hq, mvl_tp hi hk]
 rw [e2]
def Jl (l : List Int) : PV := .l (l.map Vi)
def ei (l : List Int) (i : Nat) : Int := l.getD i 0
@[simp] theorem len_J (l : List Int) : U.len.den (Jl l) = Vi l.length := by simp [Jl]
theorem get_J {l : List Int} {i : Nat} (h : i < l.length) : B.get.den (Jl l) (Vi i) = Vi (ei l i) := by
 rw [Jl, get_l _ rfl]
 simp [ei, List.getD_eq_getElem?_getD, h]
theorem app_J (l : List Int) (a : Int) : B.app.den (Jl l) (B.cons.den (Vi a) (Vl [])) = Jl (l ++ [a]) := by
 show PV.l (l.map Vi ++ [Vi a]) = _
 unfold Jl; rw [List.map_append]; rfl
theorem set_J (l : List Int) (i : Nat) (v : Int) : T3.set.den (Jl l) (Vi i) (Vi v) = Jl (l.set i v) := by
 rw [Jl, set_l _ rfl, Jl, List.map_set]
def firL (n : Nat) : List Int := (List.range n).map fun (i : Nat) => (i : Int)
@[simp] theorem firL_len (n : Nat) : (firL n).length = n := by simp [firL]
theorem firL_succ (n : Nat) : firL n ++ [(n : Int)] = firL (n + 1) := by unfold firL; rw [List.range_succ, List.map_append]; rfl
theorem ei_firL {n i : Nat} (h : i < n) : ei (firL n) i = i := by
 unfold ei firL; rw [List.getD_eq_getElem?_getD, List.getElem?_map, List.getElem?_range h]; rfl
theorem ei_set (l : List Int) (p : Nat) (v : Int) (q : Nat) : ei (l.set p v) q = if p = q ∧ p < l.length then v else ei l q := by
 unfold ei
 rw [List.getD_eq_getElem?_getD, List.getD_eq_getElem?_getD, List.getElem?_set]
 by_cases h : p = q
 ·subst h
  by_cases h2 : p < l.length
  ·simp [h2]
  ·simp [h2, List.getElem?_eq_none (show l.length ≤ p by omega)]
 ·simp [h]
def swL (l : List Int) (i k : Nat) : List Int := (l.set i (ei l k)).set k (ei l i)
@[simp] theorem swL_len (l : List Int) (i k : Nat) : (swL l i k).length = l.length := by simp [swL]
def swN (a b k : Nat) : Nat := if k = b then a else if k = a then b else k
theorem swN_lt {a b k c : Nat} (ha : a < c) (hb : b < c) (hk : k < c) : swN a b k < c := by unfold swN; split; exact ha; split; exact hb; exact hk
theorem ei_swL {l : List Int} {a b k : Nat} (ha : a < l.length) (hb : b < l.length) : ei (swL l a b) k = ei l (swN a b k) := by
 unfold swL swN
 rw [ei_set, ei_set, List.length_set]
 by_cases h1 : b = k
 ·subst h1; simp [hb]
 ·have h1' : ¬ k = b := fun h => h1 h.symm
  by_cases h2 : a = k
  ·subst h2; simp [h1, h1', ha]
  ·have h2' : ¬ k = a := fun h => h2 h.symm
   simp [h1, h1', h2, h2']
section
variable {r c : Nat} {x : List Nat} (h : Mx r c x) {j : Nat} (hj : j ≤ r)
include h hj
end
section
variable {r c : Nat} {x : List Nat} (h : Mx r c x) {j : Nat} (hj : j ≤ r)
include h hj
end
def coG (c : Nat) (x : List Nat) (pl : List Int) (i k : Nat) : Nat := el x (ps i c (ei pl k).toNat)
def coV (r c : Nat) (x : List Nat) (pl : List Int) : List Nat := matL (coG c x pl) r pl.length
theorem coV_mx {r c : Nat} {x : List Nat} (h : Mx r c x) {pl : List Int} (hl : pl.length ≤ 6) : Mx r pl.length (coV r c x pl) := matL_mx h.hr hl fun _ _ _ _ => h.w.el _
section
variable {r c : Nat} {x : List Nat} (h : Mx r c x) {pl : List Int} (hl : pl.length ≤ 6) (hp : ∀ k, k < pl.length → 0 ≤ ei pl k ∧ ei pl k < c)
include h hl hp
end
section
variable {r c : Nat} {a b : Nat} (ha : a < c) (hb : b < c)
include ha hb
end
section
variable {r c j : Nat} (hjr : j < r) (hjc : j < c)
include hjr hjc
end
section
variable {r : Nat} {ms : List Mir} (hms : MsOK r ms) (hml : ms.length ≤ r)
include hms hml
end
def Ints (l : List Int) : Prop := ∀ a ∈ l, -9223372036854775808 ≤ a ∧ a < 9223372036854775808
theorem pv_li {p : PV} (h : PvT (.sl .i64) p) : ∃ l : List Int, p = Jl l ∧ Ints l ∧ l.length ≤ 17592186043904 := by
 obtain ⟨zs, rfl, hw, hl⟩ := h
 refine ⟨zs, rfl, fun a ha => wf_i64 (hw a ha), ?_⟩
 have : IntKind.i64.bits / 8 = 8 := rfl
 rw [this] at hl
 unfold reachBytes at hl
 omega
section
variable {r c : Nat} {x : List Nat} (h : Mx r c x)
include h
end
section
variable {C : Int} {pl : List Int} (hl : pl.length ≤ 17592186043904)
include hl
end
section
variable {r c : Nat} {x : List Nat} (h : Mx r c x) {pl : List Int} (hl : pl.length ≤ 6) (hp : ∀ k, k < pl.length → 0 ≤ ei pl k ∧ ei pl k < c)
include h hl hp
end
theorem awake_19 : val 84 [] = some [Vb true] := val_iff.2 ⟨20000, by kernel_rfl⟩
section
variable {x : List Nat} (hx : Words x) (hl : x.length ≤ 17592186043904)
include hx hl
end
structure UP where
 W : List Nat
 V : List Nat
structure MxU (r c : Nat) (s : UP) : Prop where
 W : Mx r c s.W
 V : Mx c c s.V
def one8 : Nat := 4607182418800017408
def svBe (x y : List Nat) (low : Nat) : Bool := !(decide (ordI low (normV x) < 0)) || !(decide (ordI low (normV y) < 0)) || !(decide (ordI (scaleV (mulV (normV x) (normV y)) (-44)) (absV (dotV x y)) < 0))
def svZ (x y : List Nat) : Nat := divV (subV (dotV y y) (dotV x x)) (addV (dotV x y) (dotV x y))
def svT0 (z : Nat) : Nat := divV one8 (addV (absV z) (sqrtV (addV one8 (mulV z z))))
def svT (z : Nat) : Nat := if fNeg z then fMinus (svT0 z) else svT0 z
def svC (t : Nat) : Nat := divV one8 (sqrtV (addV one8 (mulV t t)))
def svCC (x y : List Nat) : Nat := svC (svT (svZ x y))
def svSS (x y : List Nat) : Nat := mulV (svC (svT (svZ x y))) (svT (svZ x y))
theorem svT_lt (z : Nat) : svT z < 18446744073709551616 := by
 unfold svT
 split
 ·exact (minus_neg divV_lt).2.2.2
 ·exact divV_lt
section
variable {x y : List Nat} (hx : Words x) (hy : Words y) (hl : x.length ≤ 6) (hxy : y.length = x.length) {low : Nat} (hlow : low < 18446744073709551616)
include hx hy hl hxy hlow
theorem dots (a b : List Nat) (ha : Words a) (hb : Words b) (h1 : a.length ≤ 6) (h2 : b.length = a.length) : val 311 [Vl a, Vl b] = some [Vu (dotV a b), Vi 0] ∧ val 153 [Vl a, Vl b] = some [Vu (dotV a b)] := by
 have d := dot_ok ha hb
 rw [if_pos ⟨h2.symm, by omega⟩] at d
 refine ⟨d, ?_⟩
 have hlp := dot9_loop ha hb h2.symm (by omega) a.length (i := 0) (s := 0) (by omega) (by decide)
 rw [show ((0 : Nat) : Int) = 0 from rfl] at hlp
 refine val_of tab153 ?_
 simp [tr153, TT.dv, KS.dv, hlp, dotV]
end
section
variable {r c : Nat} {w : List Nat} (h : Mx r c w) {p q : Nat} (hp : p < c) (hq : q < c) {low : Nat} (hlow : low < 18446744073709551616)
include h hp hq hlow
theorem sturn_ok : val 299 [Vi r, Vi c, Vl w, Vi p, Vi q, Vu low] = some (if svBe (colL r c w p 0) (colL r c w q 0) low then [Vu 0, Vu 0, Vb true] else [Vu (svCC (colL r c w p 0) (colL r c w q 0)), Vu (svSS (colL r c w p 0) (colL r c w q 0)), Vb false]) := by
 refine val_of tab299 ?_
 have hr := h.hr
 have c1 := column_ok h hp (f := 0) (by omega)
 have c2 := column_ok h hq (f := 0) (by omega)
 rw [show ((0 : Nat) : Int) = 0 from rfl] at c1 c2
 have hx := colL_words h p 0
 have hy := colL_words h q 0
 have lx : (colL r c w p 0).length = r := by rw [colL_len]; omega
 have ly : (colL r c w q 0).length = r := by rw [colL_len]; omega
 generalize colL r c w p 0 = x at *
 generalize colL r c w q 0 = y at *
 have hl : x.length ≤ 6 := by omega
 have hxy : y.length = x.length := by omega
 have n1 := norm_v_ok hx (by omega)
 have n2 := norm_v_ok hy (by omega)
 rw [if_pos (by omega)] at n1 n2
 have l1 := normV_lt x hx
 have l2 := normV_lt y hy
 have d1 := (dots hx hy hl hxy hlow x y hx hy hl hxy).1
 have d2 := (dots hx hy hl hxy hlow y y hy hy (by omega) rfl).1
 have d3 := (dots hx hy hl hxy hlow x x hx hx hl rfl).1
 have m0 := vmul_ok l1 l2
 have s0 := vshift_ok (mulV (normV x) (normV y)) (-44)
 have t1 := less_ok hlow l1
 have t2 := less_ok hlow l2
 have w : ∀ a b : List Nat, dotV a b < 18446744073709551616 := fun a b => dotR_lt _ (by decide)
 have a0 : val 3 [Vu (dotV x y)] = some [Vu (absV (dotV x y))] := abs_ok _
 have t3 := less_ok (a := scaleV (mulV (normV x) (normV y)) (-44)) (b := absV (dotV x y)) (scaleV_lt mulV_lt _) (by have := absV_lt (dotV x y); omega)
 have hbe : svBe x y low = (!(decide (ordI low (normV x) < 0)) || !(decide (ordI low (normV y) < 0)) || !(decide (ordI (scaleV (mulV (normV x) (normV y)) (-44)) (absV (dotV x y)) < 0))) := rfl
 refine Eq.trans (st_call rfl c1 rfl) ?_
 refine Eq.trans (st_call rfl c2 rfl) ?_
 refine Eq.trans (st_call rfl n1 rfl) ?_
 refine Eq.trans (st_call rfl n2 rfl) ?_
 simp only [List.cons_append, List.nil_append]
 refine Eq.trans (st_call rfl d1 rfl) ?_
 refine Eq.trans (st_call rfl m0 rfl) ?_
 refine Eq.trans (st_call rfl s0 rfl) ?_
 refine Eq.trans (st_call rfl t1 rfl) ?_
 simp only [List.cons_append, List.nil_append]
 rw [hbe]
 cases e1 : decide (ordI low (normV x) < 0)
 ·refine Eq.trans (st_skip rfl) ?_
  refine Eq.trans (st_skip rfl) ?_
  refine Eq.trans (st_skip rfl) ?_
  refine Eq.trans (st_t rfl) ?_
  rfl
 refine Eq.trans (st_call rfl t2 rfl) ?_
 cases e2 : decide (ordI low (normV y) < 0)
 ·refine Eq.trans (st_skip rfl) ?_
  refine Eq.trans (st_skip rfl) ?_
  refine Eq.trans (st_t rfl) ?_
  rfl
 refine Eq.trans (st_call rfl a0 rfl) ?_
 simp only [List.cons_append, List.nil_append]
 refine Eq.trans (st_call rfl t3 rfl) ?_
 cases e3 : decide (ordI (scaleV (mulV (normV x) (normV y)) (-44)) (absV (dotV x y)) < 0)
 ·refine Eq.trans (st_t rfl) ?_
  rfl
 refine Eq.trans (st_f rfl) ?_
 simp only [List.cons_append, List.nil_append]
 simp only [Bool.not_true, Bool.or_false, Bool.false_eq_true, if_false]
 have s1 := vsub_ok (w y y) (w x x)
 have a1 := vadd_ok (w x y) (w x y)
 have v1 := vdiv_ok (a := subV (dotV y y) (dotV x x)) (b := addV (dotV x y) (dotV x y)) (subV_lt (w y y) (w x x)) (addV_lt (w x y) (w x y))
 rw [show divV (subV (dotV y y) (dotV x x)) (addV (dotV x y) (dotV x y)) = svZ x y from rfl] at v1
 have hz : svZ x y < 18446744073709551616 := divV_lt
 unfold svCC svSS
 clear t3 a0 t2 t1 s0 m0 hbe e1 e2 e3
 generalize svZ x y = z at *
 have m1 := vmul_ok hz hz
 have o8 : one8 < 18446744073709551616 := by decide
 have a2 := vadd_ok o8 (mulV_lt (a := z) (b := z))
 have q1 := vsqrt_ok (b := addV one8 (mulV z z)) (addV_lt o8 mulV_lt)
 have b1 : val 3 [Vu z] = some [Vu (absV z)] := abs_ok _
 have haz : absV z < 18446744073709551616 := by have := absV_lt z; omega
 have hsq : sqrtV (addV one8 (mulV z z)) < 18446744073709551616 := sqrtV_lt (addV_lt o8 mulV_lt)
 have a3 := vadd_ok haz hsq
 have v2 := vdiv_ok o8 (addV_lt haz hsq)
 rw [show divV one8 (addV (absV z) (sqrtV (addV one8 (mulV z z)))) = svT0 z from rfl] at v2
 have n3 := sign_ok z
 have hn : val 282 [Vu (svT0 z)] = some [Vu (fMinus (svT0 z))] := minus_ok divV_lt
 have ht := svT_lt z
 have hts : svT z = if fNeg z then fMinus (svT0 z) else svT0 z := rfl
 have m2 := vmul_ok ht ht
 have a4 := vadd_ok o8 (mulV_lt (a := svT z) (b := svT z))
 have q2 := vsqrt_ok (b := addV one8 (mulV (svT z) (svT z))) (addV_lt o8 mulV_lt)
 have v3 := vdiv_ok o8 (sqrtV_lt (b := addV one8 (mulV (svT z) (svT z))) (addV_lt o8 mulV_lt))
 rw [show divV one8 (sqrtV (addV one8 (mulV (svT z) (svT z)))) = svC (svT z) from rfl] at v3
 have m3 := vmul_ok (a := svC (svT z)) (b := svT z) divV_lt ht
 unfold one8 at a2 q1 a3 v2 a4 q2 v3
 refine Eq.trans (st_call rfl d3 rfl) ?_
 refine Eq.trans (st_call rfl d2 rfl) ?_
 simp only [List.cons_append, List.nil_append]
 refine Eq.trans (st_call rfl s1 rfl) ?_
 refine Eq.trans (st_call rfl a1 rfl) ?_
 refine Eq.trans (st_call rfl v1 rfl) ?_
 refine Eq.trans (st_call rfl m1 rfl) ?_
 simp only [List.cons_append, List.nil_append]
 refine Eq.trans (st_call rfl (by simpa using a2) rfl) ?_
 refine Eq.trans (st_call rfl q1 rfl) ?_
 refine Eq.trans (st_call rfl b1 rfl) ?_
 refine Eq.trans (st_call rfl a3 rfl) ?_
 simp only [List.cons_append, List.nil_append]
 refine Eq.trans (st_call rfl (by simpa using v2) rfl) ?_
 simp only [List.cons_append, List.nil_append]
 refine Eq.trans (st_scope (x := .norm) (vs := [Vu (svT z)]) ?_) ?_
 ·refine Eq.trans (st_call rfl n3 rfl) ?_
  by_cases hs : fNeg z = true
  ·rw [if_pos hs] at hts
   rw [hts, hs]
   refine Eq.trans (st_t rfl) ?_
   refine Eq.trans (st_call rfl hn rfl) ?_
   rfl
  ·rw [if_neg hs] at hts
   simp only [Bool.not_eq_true] at hs
   rw [hts, hs]
   exact Eq.trans (st_f rfl) rfl
 refine Eq.trans st_hit ?_
 simp only [List.cons_append, List.nil_append]
 refine Eq.trans (st_call rfl m2 rfl) ?_
 refine Eq.trans (st_call rfl (by simpa using a4) rfl) ?_
 refine Eq.trans (st_call rfl q2 rfl) ?_
 refine Eq.trans (st_call rfl (by simpa using v3) rfl) ?_
 simp only [List.cons_append, List.nil_append]
 refine Eq.trans (st_call rfl m3 rfl) ?_
 rfl
end
def svS (r c low p q : Nat) (s : UP × Bool) : UP × Bool :=
 if svBe (colL r c s.1.W p 0) (colL r c s.1.W q 0) low then s else
 (⟨colV r c s.1.W p q (svCC (colL r c s.1.W p 0) (colL r c s.1.W q 0)) (fMinus (svSS (colL r c s.1.W p 0) (colL r c s.1.W q 0))),
  colV c c s.1.V p q (svCC (colL r c s.1.W p 0) (colL r c s.1.W q 0)) (fMinus (svSS (colL r c s.1.W p 0) (colL r c s.1.W q 0)))⟩, false)
def svIn (r c low p : Nat) : Nat → Nat → UP × Bool → UP × Bool
 | 0, _, s => s
 | n + 1, q, s => svIn r c low p n (q + 1) (svS r c low p q s)
def svOut (r c low : Nat) : Nat → Nat → UP × Bool → UP × Bool
 | 0, _, s => s
 | n + 1, p, s => svOut r c low n (p + 1) (svIn r c low p (c - (p + 1)) (p + 1) s)
def svRd (r c low : Nat) (s : UP) : UP × Bool := svOut r c low c 0 (s, true)
def svAll (r c low : Nat) : Nat → UP → Option UP
 | 0, _ => none
 | n + 1, s => if (svRd r c low s).2 then some (svRd r c low s).1 else svAll r c low n (svRd r c low s).1
theorem svS_mx {r c low p q : Nat} (hp : p < c) (hq : q < c) {s : UP × Bool} (h : MxU r c s.1) : MxU r c (svS r c low p q s).1 := by
 unfold svS
 split
 ·exact h
 ·have l1 : svCC (colL r c s.1.W p 0) (colL r c s.1.W q 0) < 18446744073709551616 := divV_lt
  have l2 : fMinus (svSS (colL r c s.1.W p 0) (colL r c s.1.W q 0)) < 18446744073709551616 := (minus_neg mulV_lt).2.2.2
  exact ⟨colV_mx h.W l1 l2 hp hq, colV_mx h.V l1 l2 hp hq⟩
theorem svIn_mx {r c low p : Nat} (hp : p < c) : ∀ (n q : Nat) {s : UP × Bool}, q + n ≤ c → MxU r c s.1 → MxU r c (svIn r c low p n q s).1
 | 0, _, _, _, h => h
 | n + 1, q, s, hq, h => svIn_mx hp n (q + 1) (by omega) (svS_mx hp (by omega) h)
theorem svOut_mx {r c low : Nat} : ∀ (n p : Nat) {s : UP × Bool}, p + n ≤ c → MxU r c s.1 → MxU r c (svOut r c low n p s).1
 | 0, _, _, _, h => h
 | n + 1, p, s, hp, h => svOut_mx n (p + 1) (by omega) (svIn_mx (by omega) _ _ (by omega) h)
theorem svRd_mx {r c low : Nat} {s : UP} (h : MxU r c s) : MxU r c (svRd r c low s).1 := svOut_mx c 0 (by omega) h
theorem svAll_mx {r c low : Nat} : ∀ (n : Nat) {s s' : UP}, MxU r c s → svAll r c low n s = some s' → MxU r c s'
 | 0, s, s', _, he => by cases he
 | n + 1, s, s', h, he => by
  unfold svAll at he
  split at he
  ·cases he; exact svRd_mx h
  ·exact svAll_mx n (svRd_mx h) he
theorem sv_in {r c low p : Nat} (hlow : low < 18446744073709551616) (hp : p < c) {x0 x1 x2 x3 x4 x5 x7 x8 x9 x10 x11 x12 x13 x14 x15 x17 x18 x19 x20 x21 x22 : PV} : ∀ (n : Nat) {q : Nat} {s : UP × Bool}, q + n = c → p < q → MxU r c s.1 →
  rounds (fun vs => lo297_3.dv (x0 :: x1 :: x2 :: x3 :: x4 :: x5 :: Vu low :: x7 :: x8 :: x9 :: x10 :: x11 :: x12 :: x13 :: x14 :: x15 :: Vi p :: x17 :: x18 :: x19 :: x20 :: x21 :: x22 :: vs)) [Vb s.2, Vi q, Vi c, Vi c, Vl s.1.V, Vi r, Vi c, Vl s.1.W] = some (.y (.ext 4) [Vb (svIn r c low p n q s).2, Vi c, Vi c, Vl (svIn r c low p n q s).1.V, Vi r, Vi c, Vl (svIn r c low p n q s).1.W]) := by
 intro n
 induction n with
 | zero =>
  intro q s hq hpq h
  refine rounds_exit ?_ (by simp)
  have hc : (B.lt.den (Vi q) (Vi c)).bool = false := by simp; omega
  exact Eq.trans (st_f hc) rfl
 | succ n ih =>
  intro q s hq hpq h
  have hqc : q < c := by omega
  have hc6 := h.W.hc
  have hc : (B.lt.den (Vi q) (Vi c)).bool = true := by simp; omega
  have e1 : (B.add .i64).den (Vi q) (Vi 1) = Vi ((q + 1 : Nat) : Int) := by rw [add_i (by omega) (by omega)]; rfl
  have t1 := sturn_ok h.W hp hqc hlow
  have hih := ih (q := q + 1) (s := svS r c low p q s) (by omega) (by omega) (svS_mx hp hqc h)
  rw [show svIn r c low p (n + 1) q s = svIn r c low p n (q + 1) (svS r c low p q s) from rfl]
  have key : rounds (fun vs => lo297_3.dv (x0 :: x1 :: x2 :: x3 :: x4 :: x5 :: Vu low :: x7 :: x8 :: x9 :: x10 :: x11 :: x12 :: x13 :: x14 :: x15 :: Vi p :: x17 :: x18 :: x19 :: x20 :: x21 :: x22 :: vs)) [Vb s.2, Vi q, Vi c, Vi c, Vl s.1.V, Vi r, Vi c, Vl s.1.W] = rounds (fun vs => lo297_3.dv (x0 :: x1 :: x2 :: x3 :: x4 :: x5 :: Vu low :: x7 :: x8 :: x9 :: x10 :: x11 :: x12 :: x13 :: x14 :: x15 :: Vi p :: x17 :: x18 :: x19 :: x20 :: x21 :: x22 :: vs)) [Vb (svS r c low p q s).2, Vi ((q + 1 : Nat) : Int), Vi c, Vi c, Vl (svS r c low p q s).1.V, Vi r, Vi c, Vl (svS r c low p q s).1.W] := by
   rw [← e1]
   refine rounds_cont ?_
   refine Eq.trans (st_t hc) ?_
   by_cases hb : svBe (colL r c s.1.W p 0) (colL r c s.1.W q 0) low = true
   ·have hs : svS r c low p q s = s := by unfold svS; rw [if_pos hb]
    rw [if_pos hb] at t1
    rw [hs]
    refine Eq.trans (st_scope (x := .norm) (vs := [Vb s.2, Vi c, Vi c, Vl s.1.V, Vi r, Vi c, Vl s.1.W]) ?_) ?_
    ·refine Eq.trans (st_call rfl t1 rfl) ?_
     exact Eq.trans (st_t rfl) rfl
    refine Eq.trans st_hit ?_
    rfl
   ·have hs : svS r c low p q s = (⟨colV r c s.1.W p q (svCC (colL r c s.1.W p 0) (colL r c s.1.W q 0)) (fMinus (svSS (colL r c s.1.W p 0) (colL r c s.1.W q 0))), colV c c s.1.V p q (svCC (colL r c s.1.W p 0) (colL r c s.1.W q 0)) (fMinus (svSS (colL r c s.1.W p 0) (colL r c s.1.W q 0)))⟩, false) := by unfold svS; rw [if_neg hb]
    rw [if_neg hb] at t1
    have l1 : svCC (colL r c s.1.W p 0) (colL r c s.1.W q 0) < 18446744073709551616 := divV_lt
    have l0 : svSS (colL r c s.1.W p 0) (colL r c s.1.W q 0) < 18446744073709551616 := mulV_lt
    have l2 : fMinus (svSS (colL r c s.1.W p 0) (colL r c s.1.W q 0)) < 18446744073709551616 := (minus_neg mulV_lt).2.2.2
    have m1 := minus_ok l0
    have w1 := cols_ok h.W l1 l2 hp hqc (by omega)
    have w2 := cols_ok h.V l1 l2 hp hqc (by omega)
    rw [hs]
    generalize svCC (colL r c s.1.W p 0) (colL r c s.1.W q 0) = C at *
    generalize fMinus (svSS (colL r c s.1.W p 0) (colL r c s.1.W q 0)) = S at *
    generalize svSS (colL r c s.1.W p 0) (colL r c s.1.W q 0) = S0 at *
    generalize colV r c s.1.W p q C S = W' at *
    generalize colV c c s.1.V p q C S = V' at *
    refine Eq.trans (st_scope (x := .norm) (vs := [Vb false, Vi c, Vi c, Vl V', Vi r, Vi c, Vl W']) ?_) ?_
    ·refine Eq.trans (st_call rfl t1 rfl) ?_
     refine Eq.trans (st_f rfl) ?_
     simp only [List.cons_append, List.nil_append]
     refine Eq.trans (st_call rfl m1 rfl) ?_
     refine Eq.trans (st_call rfl w1 rfl) ?_
     simp only [List.cons_append, List.nil_append]
     refine Eq.trans (st_call rfl m1 rfl) ?_
     refine Eq.trans (st_call rfl w2 rfl) ?_
     rfl
    refine Eq.trans st_hit ?_
    rfl
  rw [key]
  exact hih
theorem sv_out {r c low : Nat} (hlow : low < 18446744073709551616) {x0 x1 x2 x3 x4 x5 x7 x8 x9 x10 x11 x12 x14 : PV} : ∀ (n : Nat) {p : Nat} {s : UP × Bool}, p + n = c → MxU r c s.1 →
  rounds (fun vs => lo297_2.dv (x0 :: x1 :: x2 :: x3 :: x4 :: x5 :: Vu low :: x7 :: x8 :: x9 :: x10 :: x11 :: x12 :: Vi c :: x14 :: vs)) [Vb s.2, Vi p, Vi c, Vi c, Vl s.1.V, Vi r, Vi c, Vl s.1.W] = some (.y (.ext 2) [Vb (svOut r c low n p s).2, Vi c, Vi c, Vl (svOut r c low n p s).1.V, Vi r, Vi c, Vl (svOut r c low n p s).1.W]) := by
 intro n
 induction n with
 | zero =>
  intro p s hp h
  refine rounds_exit ?_ (by simp)
  have hc : (B.lt.den (Vi p) (Vi c)).bool = false := by simp; omega
  exact Eq.trans (st_f hc) rfl
 | succ n ih =>
  intro p s hp h
  have hpc : p < c := by omega
  have hc6 := h.W.hc
  have hc : (B.lt.den (Vi p) (Vi c)).bool = true := by simp; omega
  have e1 : (B.add .i64).den (Vi p) (Vi 1) = Vi ((p + 1 : Nat) : Int) := by rw [add_i (by omega) (by omega)]; rfl
  have hl := sv_in (r := r) (c := c) hlow hpc (x0 := x0) (x1 := x1) (x2 := x2) (x3 := x3) (x4 := x4) (x5 := x5) (x7 := x7) (x8 := x8) (x9 := x9) (x10 := x10) (x11 := x11) (x12 := x12) (x14 := x14) (x13 := Vi c) (x15 := Vb s.2) (x17 := Vi c) (x18 := Vi c) (x19 := Vl s.1.V) (x20 := Vi r) (x21 := Vi c) (x22 := Vl s.1.W) (c - (p + 1)) (q := p + 1) (s := s) (by omega) (by omega) h
  have hih := ih (p := p + 1) (s := svIn r c low p (c - (p + 1)) (p + 1) s) (by omega) (svIn_mx hpc _ _ (by omega) h)
  rw [show svOut r c low (n + 1) p s = svOut r c low n (p + 1) (svIn r c low p (c - (p + 1)) (p + 1) s) from rfl]
  have key : rounds (fun vs => lo297_2.dv (x0 :: x1 :: x2 :: x3 :: x4 :: x5 :: Vu low :: x7 :: x8 :: x9 :: x10 :: x11 :: x12 :: Vi c :: x14 :: vs)) [Vb s.2, Vi p, Vi c, Vi c, Vl s.1.V, Vi r, Vi c, Vl s.1.W] = rounds (fun vs => lo297_2.dv (x0 :: x1 :: x2 :: x3 :: x4 :: x5 :: Vu low :: x7 :: x8 :: x9 :: x10 :: x11 :: x12 :: Vi c :: x14 :: vs)) [Vb (svIn r c low p (c - (p + 1)) (p + 1) s).2, Vi ((p + 1 : Nat) : Int), Vi c, Vi c, Vl (svIn r c low p (c - (p + 1)) (p + 1) s).1.V, Vi r, Vi c, Vl (svIn r c low p (c - (p + 1)) (p + 1) s).1.W] := by
   rw [← e1] at hl ⊢
   refine rounds_cont ?_
   refine Eq.trans (st_t hc) ?_
   refine Eq.trans (st_loop hl) ?_
   refine Eq.trans st_hit ?_
   rfl
  rw [key]
  exact hih
theorem sv_all {r c low : Nat} (hlow : low < 18446744073709551616) {x0 x1 x2 x3 x4 x5 : PV} : ∀ (n : Nat) {i : Nat} {s : UP}, i + n = 60 → MxU r c s →
  match svAll r c low n s with
  | some s' => ∃ a1 a2 a3 a4, rounds (fun vs => lo297_1.dv (x0 :: x1 :: x2 :: x3 :: x4 :: x5 :: Vu low :: vs)) [Vi 0, Vi i, Vi c, Vi c, Vl s.V, Vi r, Vi c, Vl s.W] = some (.y .ret [Vi c, Vi c, Vl s'.V, Vi r, Vi c, Vl s'.W, a1, a2, a3, a4])
  | none => ∃ s' : UP, rounds (fun vs => lo297_1.dv (x0 :: x1 :: x2 :: x3 :: x4 :: x5 :: Vu low :: vs)) [Vi 0, Vi i, Vi c, Vi c, Vl s.V, Vi r, Vi c, Vl s.W] = some (.y (.ext 0) [Vi 0, Vi c, Vi c, Vl s'.V, Vi r, Vi c, Vl s'.W]) := by
 intro n
 induction n with
 | zero =>
  intro i s hi h
  refine ⟨s, rounds_exit ?_ (by simp)⟩
  have hc : (B.lt.den (Vi i) (Vi 60)).bool = false := by simp; omega
  exact Eq.trans (st_f hc) rfl
 | succ n ih =>
  intro i s hi h
  have hc : (B.lt.den (Vi i) (Vi 60)).bool = true := by simp; omega
  have e1 : (B.add .i64).den (Vi i) (Vi 1) = Vi ((i + 1 : Nat) : Int) := by rw [add_i (by omega) (by omega)]; rfl
  have hl := sv_out (r := r) (c := c) hlow (x0 := x0) (x1 := x1) (x2 := x2) (x3 := x3) (x4 := x4) (x5 := x5) (x7 := Vi 0) (x8 := Vi i) (x9 := Vi c) (x10 := Vi c) (x11 := Vl s.V) (x12 := Vi r) (x14 := Vl s.W) c (p := 0) (s := (s, true)) (by omega) h
  rw [show svOut r c low c 0 (s, true) = svRd r c low s from rfl, show ((0 : Nat) : Int) = 0 from rfl] at hl
  unfold svAll
  cases hst : (svRd r c low s).2
  ·rw [hst] at hl
   simp only [Bool.false_eq_true, if_false]
   have hih := ih (i := i + 1) (s := (svRd r c low s).1) (by omega) (svRd_mx h)
   have key : rounds (fun vs => lo297_1.dv (x0 :: x1 :: x2 :: x3 :: x4 :: x5 :: Vu low :: vs)) [Vi 0, Vi i, Vi c, Vi c, Vl s.V, Vi r, Vi c, Vl s.W] = rounds (fun vs => lo297_1.dv (x0 :: x1 :: x2 :: x3 :: x4 :: x5 :: Vu low :: vs)) [Vi 0, Vi ((i + 1 : Nat) : Int), Vi c, Vi c, Vl (svRd r c low s).1.V, Vi r, Vi c, Vl (svRd r c low s).1.W] := by
    rw [← e1]
    refine rounds_cont ?_
    refine Eq.trans (st_t hc) ?_
    refine Eq.trans (st_loop hl) ?_
    refine Eq.trans st_hit ?_
    refine Eq.trans (st_f rfl) ?_
    rfl
   rw [key]
   exact hih
  ·rw [hst] at hl
   simp only [if_true]
   refine ⟨Vi c, Vi c, Vi r, Vi c, rounds_exit ?_ (by simp)⟩
   refine Eq.trans (st_t hc) ?_
   refine Eq.trans (st_loop hl) ?_
   refine Eq.trans st_hit ?_
   refine Eq.trans (st_t rfl) ?_
   rfl
theorem srounds_ok {r c low : Nat} (hlow : low < 18446744073709551616) {s : UP} (h : MxU r c s) : match svAll r c low 60 s with
  | some s' => val 297 [Vi r, Vi c, Vl s.W, Vi c, Vi c, Vl s.V, Vu low] = some [Vi r, Vi c, Vl s'.W, Vi c, Vi c, Vl s'.V, Vi 0]
  | none => ∃ s' : UP, val 297 [Vi r, Vi c, Vl s.W, Vi c, Vi c, Vl s.V, Vu low] = some [Vi r, Vi c, Vl s'.W, Vi c, Vi c, Vl s'.V, Vi 6] := by
 have lp := sv_all (r := r) (c := c) hlow (x0 := Vi r) (x1 := Vi c) (x2 := Vl s.W) (x3 := Vi c) (x4 := Vi c) (x5 := Vl s.V) 60 (i := 0) (s := s) (by omega) h
 rw [show ((0 : Nat) : Int) = 0 from rfl] at lp
 cases hs : svAll r c low 60 s with
 | none =>
  rw [hs] at lp
  obtain ⟨s', lp⟩ := lp
  refine ⟨s', val_of tab297 ?_⟩
  refine Eq.trans (st_loop lp) ?_
  refine Eq.trans (st_miss (by simp)) ?_
  refine Eq.trans st_hit ?_
  rfl
 | some s' =>
  rw [hs] at lp
  obtain ⟨a1, a2, a3, a4, lp⟩ := lp
  refine val_of tab297 ?_
  refine Eq.trans (st_loop lp) ?_
  refine Eq.trans st_hit ?_
  rfl
structure AllOnce (c : Nat) (l : List Int) : Prop where
 len : l.length = c
 rng : ∀ k, k < c → 0 ≤ ei l k ∧ ei l k < c
 inj : ∀ k k', k < c → k' < c → ei l k = ei l k' → k = k'
 sur : ∀ p : Nat, p < c → ∃ k, k < c ∧ ei l k = p
theorem allOnce_first (c : Nat) : AllOnce c (firL c) := by
 refine ⟨by simp, fun k hk => by rw [ei_firL hk]; omega, fun k k' hk hk' h => ?_, fun p hp => ⟨p, hp, ei_firL hp⟩⟩
 rw [ei_firL hk, ei_firL hk'] at h; omega
theorem swN_swN {a b k : Nat} : swN a b (swN a b k) = k := by
 unfold swN
 by_cases h1 : k = b
 ·subst h1
  rw [if_pos rfl]
  by_cases h2 : a = k
  ·rw [if_pos h2, h2]
  ·rw [if_neg h2, if_pos rfl]
 ·rw [if_neg h1]
  by_cases h2 : k = a
  ·subst h2; rw [if_pos rfl, if_pos rfl]
  ·rw [if_neg h2, if_neg h1, if_neg h2]
theorem AllOnce.sw {c : Nat} {l : List Int} (h : AllOnce c l) {a b : Nat} (ha : a < c) (hb : b < c) : AllOnce c (swL l a b) := by
 have hl := h.len
 have e : ∀ k, ei (swL l a b) k = ei l (swN a b k) := fun k => ei_swL (by omega) (by omega)
 refine ⟨by rw [swL_len, hl], fun k hk => by rw [e]; exact h.rng _ (swN_lt ha hb hk), fun k k' hk hk' hh => ?_, fun p hp => ?_⟩
 ·rw [e, e] at hh
  have := h.inj _ _ (swN_lt ha hb hk) (swN_lt ha hb hk') hh
  rw [← swN_swN (a := a) (b := b) (k := k), this, swN_swN]
 ·obtain ⟨k, hk, hh⟩ := h.sur p hp
  exact ⟨swN a b k, swN_lt ha hb hk, by rw [e, swN_swN]; exact hh⟩
section
variable {r c : Nat} {y : List Nat} (h : Mx r c y) (hu : ∀ a b, b < a → a < r → b < c → el y (ps a c b) = 0)
include h hu
end
section
variable {c : Nat} (hc : c ≤ 6) {l : List Int} (ho : AllOnce c l)
include hc ho
end
def lsB (l : List Nat) (y e : Int) : Bool := decide (ordI (el l y.toNat) (el l e.toNat) < 0)
def insP (l : List Nat) : Nat → List Int → List Int
 | 0, x => x
 | m + 1, x => if lsB l (ei x m) (ei x (m + 1)) then insP l m (swL x (m + 1) m) else x
def srtP (l : List Nat) : Nat → Nat → List Int → List Int
 | 0, _, x => x
 | n + 1, i, x => srtP l n (i + 1) (insP l i x)
theorem insP_all {c : Nat} {l : List Nat} : ∀ (m : Nat) {x : List Int}, m < c → AllOnce c x → AllOnce c (insP l m x)
 | 0, _, _, h => h
 | m + 1, x, hm, h => by
  unfold insP
  split
  ·exact insP_all m (by omega) (h.sw hm (by omega))
  ·exact h
theorem srtP_all {c : Nat} {l : List Nat} : ∀ (n i : Nat) {x : List Int}, i + n ≤ c → AllOnce c x → AllOnce c (srtP l n i x)
 | 0, _, _, _, h => h
 | n + 1, i, x, hi, h => srtP_all n (i + 1) (by omega) (insP_all i (by omega) h)
section
variable {c : Nat} (hc : c ≤ 6) {l : List Nat} (hl : l.length = c) (hw : Words l)
include hc hl hw
theorem cmp_ok {a b : Int} (ha : 0 ≤ a ∧ a < c) (hb : 0 ≤ b ∧ b < c) : val 294 [Vi a, Vi b, .a [Vl l]] = some [Vi (ordI (el l b.toNat) (el l a.toNat))] := by
 refine val_of tab294 ?_
 obtain ⟨m, rfl⟩ : ∃ m : Nat, a = m := ⟨a.toNat, by omega⟩
 obtain ⟨n, rfl⟩ : ∃ n : Nat, b = n := ⟨b.toNat, by omega⟩
 have g1 := get_V (x := l) (i := m) (by omega)
 have g2 := get_V (x := l) (i := n) (by omega)
 have o := order_ok (hw.el n) (hw.el m)
 have fld : (U.fld 0).den (PV.a [Vl l]) = Vl l := rfl
 have hm : m < l.length := by omega
 have hn : n < l.length := by omega
 simp [tr294, TT.dv, fld, g1, g2, o, hm, hn]
theorem ins_loop {x0 x4 x5 : PV} {N : Int} : ∀ (m : Nat) {x : List Int}, m < c → AllOnce c x →
  rounds (fun vs => lo335_2.dv (x0 :: Vi 0 :: Vi N :: fnP 294 [.a [Vl l]] :: x4 :: x5 :: vs)) [Vi m, Jl x] = some (.y (.ext 2) [Jl (insP l m x)]) := by
 intro m
 induction m with
 | zero =>
  intro x hm h
  have hx := h.len
  have g0 := get_J (l := x) (i := 0) (by omega)
  have g1 : B.get.den (Jl x) ((B.sub .i64).den (Vi 0) (Vi 1)) = Vi (ei x 0) := by
   have e : (B.sub .i64).den (Vi 0) (Vi 1) = Vi (-1) := by rw [sub_i (by omega) (by omega)]; rfl
   rw [e]
   have : B.get.den (Jl x) (Vi (-1)) = B.get.den (Jl x) (Vi ((0 : Nat) : Int)) := rfl
   rw [this, g0]
  have cm := cmp_ok hc hl hw (h.rng 0 hm) (h.rng 0 hm)
  rw [show ((0 : Nat) : Int) = 0 from rfl] at g0 ⊢
  refine rounds_exit ?_ (by simp)
  have e : (B.sub .i64).den (Vi 0) (Vi 1) = Vi (-1) := by rw [sub_i (by omega) (by omega)]; rfl
  rw [e] at g1
  simp [lo335_2, TT.dv, fnP, e, g0, g1, cm, insP]
 | succ m ih =>
  intro x hm h
  have hx := h.len
  have g0 := get_J (l := x) (i := m + 1) (by omega)
  have g1 := get_J (l := x) (i := m) (by omega)
  have e1 : (B.sub .i64).den (Vi ((m + 1 : Nat) : Int)) (Vi 1) = Vi m := by rw [sub_i (by omega) (by omega)]; exact congrArg Vi (by omega)
  have cm := cmp_ok hc hl hw (h.rng (m + 1) hm) (h.rng m (by omega))
  have h1 : 0 < ((m + 1 : Nat) : Int) := by omega
  have h2 : ((m + 1 : Nat) : Int) < (x.length : Int) := by omega
  have h3 : m < x.length := by omega
  have h4 : (0 : Int) ≤ ((m + 1 : Nat) : Int) := by omega
  have sj : ∀ (z : List Int) (v : Int), T3.set.den (Jl z) (Vi ((m + 1 : Nat) : Int)) (Vi v) = Jl (z.set (m + 1) v) := fun z v => set_J z (m + 1) v
  have hsw : (x.set (m + 1) (ei x m)).set m (ei x (m + 1)) = swL x (m + 1) m := rfl
  unfold insP lsB
  by_cases hcd : ordI (el l (ei x m).toNat) (el l (ei x (m + 1)).toNat) < 0
  ·rw [if_pos (decide_eq_true hcd), ← ih (x := swL x (m + 1) m) (by omega) (h.sw hm (by omega))]
   refine rounds_cont ?_
   generalize ((m + 1 : Nat) : Int) = z at *
   simp [lo335_2, TT.dv, fnP, e1, g0, g1, cm, h1, h2, h3, h4, hcd, sj, set_J, hsw]
  ·rw [if_neg (by simpa using hcd)]
   refine rounds_exit ?_ (by simp)
   generalize ((m + 1 : Nat) : Int) = z at *
   simp [lo335_2, TT.dv, fnP, e1, g0, g1, cm, h1, h2, h3, h4, hcd]
theorem srt_loop {x0 : PV} : ∀ (n : Nat) {i : Nat} {x : List Int}, 1 ≤ i → i + n = max c 1 → AllOnce c x →
  rounds (fun vs => lo335_1.dv (x0 :: Vi 0 :: Vi c :: fnP 294 [.a [Vl l]] :: vs)) [Vi i, Jl x] = some (.y (.ext 0) [Jl (srtP l n i x)]) := by
 intro n
 induction n with
 | zero =>
  intro i x hi1 hi h
  refine rounds_exit ?_ (by simp)
  simp [lo335_1, TT.dv, show ¬ i < c by omega, srtP]
 | succ n ih =>
  intro i x hi1 hi h
  have hic : i < c := by omega
  refine Eq.trans (rounds_cont ?_) (ih (i := i + 1) (by omega) (by omega) (insP_all (l := l) i hic h))
  have e1 : (B.add .i64).den (Vi i) (Vi 1) = Vi (i + 1) := add_i (by omega) (by omega)
  have lp := fun x4 x5 => ins_loop hc hl hw (x0 := x0) (x4 := x4) (x5 := x5) (N := c) i (x := x) hic h
  simp [lo335_1, TT.dv, KS.dv, hic, e1, lp]
theorem sort_ok {x : List Int} (h : AllOnce c x) : val 334 [Jl x, fnP 294 [.a [Vl l]]] = some [Jl (srtP l (c - 1) 1 x)] := by
 have hx := h.len
 have lp := fun x0 => srt_loop hc hl hw (x0 := x0) (c - 1) (i := 1) (x := x) (Nat.le_refl _) (by omega) h
 simp only [show ((1 : Nat) : Int) = 1 from rfl] at lp
 have i1 : val 335 [Jl x, Vi 0, Vi c, fnP 294 [.a [Vl l]]] = some [Jl (srtP l (c - 1) 1 x)] := by
  refine val_of tab335 ?_
  have e0 : (B.add .i64).den (Vi 0) (Vi 1) = Vi 1 := rfl
  simp [tr335, TT.dv, KS.dv, e0, lp]
 have l1 : ∀ x0 x2 : PV, rounds (fun vs => lo337_1.dv (x0 :: Vi c :: x2 :: vs)) [Vi 0, Vi 20, Jl x] = some (.y (.ext 0) [Vi 0, Jl x]) := fun x0 x2 => by
  refine rounds_exit ?_ (by simp)
  simp [lo337_1, TT.dv, show ¬ (20 : Int) ≤ c by omega]
 have l2 : ∀ (x0 x2 x3 x4 x5 : PV) (y : List Int), rounds (fun vs => lo337_2.dv (x0 :: Vi c :: x2 :: x3 :: x4 :: x5 :: vs)) [Vi 20, Jl y] = some (.y (.ext 2) [Jl y]) := fun x0 x2 x3 x4 x5 y => by
  refine rounds_exit ?_ (by simp)
  simp [lo337_2, TT.dv, show ¬ (20 : Int) < c by omega]
 have s1 : val 337 [Jl x, Vi c, fnP 294 [.a [Vl l]]] = some [Jl (srtP l (c - 1) 1 x)] := by
  refine val_of tab337 ?_
  simp [tr337, TT.dv, KS.dv, l1, l2, i1]
 refine val_of tab334 ?_
 simp [tr334, TT.dv, hx, s1]
end
section
variable {c : Nat} (hc : c ≤ 6) {l : List Nat} (hl : l.length = c) (hw : Words l)
include hc hl hw
end
section
variable {l : List Nat} (hn : ∀ p : Nat, p < l.length → ¬ nanB (el l p))
include hn
omit hn in
omit hn in
omit hn in
omit hn in
end
end Go.Proofs.YthchhkghjfendabGreat.Dx
