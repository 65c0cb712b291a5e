/- The pure meaning of the functions that the law reaches, and that the law is true of it. No conditions. -/
import Derived.Test.YthchhkghjfendabGreatPivotFactorsM1
set_option linter.all false
namespace Go.Proofs.YthchhkghjfendabGreat.Dx
open Go

theorem or_hi {h l : Nat} (hh : h < 4398046511104) (hl : l < 1048576) : (B.or .u64).den (Vu (h * 1048576)) (Vu l) = Vu (h * 1048576 + l) := by
  have := or_add (a := h) (b := l) (i := 20) (by omega) (by omega) (by omega)
  rw [show (2 : Nat) ^ 20 = 1048576 from rfl, Nat.mul_comm] at this
  exact this
theorem hilo {P : Nat} (h : P < 2 ^ 106) : P / 18446744073709551616 < 4398046511104 ∧ P % 18446744073709551616 / 17592186044416 < 1048576 ∧
    P / 18446744073709551616 * 1048576 + P % 18446744073709551616 / 17592186044416 = P / 2 ^ 44 ∧ (P % 18446744073709551616 * 1048576 % 18446744073709551616 = 0 ↔ P % 2 ^ 44 = 0) ∧ P / 2 ^ 44 < 4611686018427387904 := by
  rw [show (2 : Nat) ^ 106 = 81129638414606681695789005144064 from rfl] at h
  rw [show (2 : Nat) ^ 44 = 17592186044416 from rfl]
  refine ⟨by omega, by omega, by omega, by omega, by omega⟩
theorem times_ok {a b : Nat} (ha : a < 18446744073709551616) (hb : b < 18446744073709551616) : ∃ f, val 301 [Vu a, Vu b] = some [Vu (mulV a b), f] := by
  have s1 := sign_ok a
  have s2 := sign_ok b
  have k1 := kind_ok a
  have k2 := kind_ok b
  have hn := times_nan a b
  unfold mulV
  by_cases c1 : nanB a ∨ nanB b
  · rw [if_pos c1]
    refine ⟨Vy 0, val_of tab301 ?_⟩
    rw [decide_eq_true c1] at hn
    simp [tr301, TT.dv, s1, s2, k1, k2, hn, nan0]
  · rw [if_neg c1]
    rw [decide_eq_false c1] at hn
    have cn1 : ¬ nanB a := fun h => c1 (.inl h)
    have cn2 : ¬ nanB b := fun h => c1 (.inr h)
    by_cases c2 : infB a ∨ infB b
    · rw [if_pos c2]
      by_cases c3 : zeroB a ∨ zeroB b
      · rw [if_pos c3]
        refine ⟨Vy 16, val_of tab301 ?_⟩
        have hc : (fKind a = 3 ∧ fKind b = 0) ∨ (fKind a = 0 ∧ fKind b = 3) := by
          rw [kind_infB, kind_infB, kind_zeroB, kind_zeroB]
          rcases c2 with h | h <;> rcases c3 with g | g
          · exact absurd h.1 (zeroB_fin g)
          · exact .inl ⟨h, g⟩
          · exact .inr ⟨g, h⟩
          · exact absurd h.1 (zeroB_fin g)
        rcases hc with ⟨h1, h2⟩ | ⟨h1, h2⟩ <;> simp [tr301, TT.dv, s1, s2, k1, k2, hn, h1, h2, nan0]
      · rw [if_neg c3]
        refine ⟨Vy 0, val_of tab301 ?_⟩
        have z1 : ¬ fKind a = 0 := fun h => c3 (.inl ((kind_zeroB a).1 h))
        have z2 : ¬ fKind b = 0 := fun h => c3 (.inr ((kind_zeroB b).1 h))
        have hs := signed_ok (b := infR) (fNeg a != fNeg b) (.inl rfl)
        unfold infR at hs ⊢
        rcases c2 with h | h
        · have h1 := (kind_infB a).2 h
          simp [tr301, TT.dv, s1, s2, k1, k2, hn, h1, z1, z2, hs]
        · have h1 := (kind_infB b).2 h
          simp [tr301, TT.dv, s1, s2, k1, k2, hn, h1, z1, z2, hs]
    · rw [if_neg c2]
      have i1 : ¬ fKind a = 3 := fun h => c2 (.inl ((kind_infB a).1 h))
      have i2 : ¬ fKind b = 3 := fun h => c2 (.inr ((kind_infB b).1 h))
      by_cases c3 : zeroB a ∨ zeroB b
      · rw [if_pos c3]
        refine ⟨Vy 0, val_of tab301 ?_⟩
        have hs := signed_ok (b := 0) (fNeg a != fNeg b) (.inr rfl)
        rcases c3 with h | h
        · have h1 := (kind_zeroB a).2 h
          simp [tr301, TT.dv, s1, s2, k1, k2, hn, h1, i1, i2, hs]
        · have h1 := (kind_zeroB b).2 h
          simp [tr301, TT.dv, s1, s2, k1, k2, hn, h1, i1, i2, hs]
      · rw [if_neg c3]
        have z1 : ¬ fKind a = 0 := fun h => c3 (.inl ((kind_zeroB a).1 h))
        have z2 : ¬ fKind b = 0 := fun h => c3 (.inr ((kind_zeroB b).1 h))
        have f1 := fin_of cn1 (fun h => c2 (.inl h))
        have f2 := fin_of cn2 (fun h => c2 (.inr h))
        have m1 : fMag a ≠ 0 := fun h => c3 (.inl ((zeroB_mag f1).2 h))
        have m2 : fMag b ≠ 0 := fun h => c3 (.inr ((zeroB_mag f2).2 h))
        have n1 := norm3_ok m1
        have n2 := norm3_ok m2
        obtain ⟨a1, a2, a3⟩ := nrm_bd m1 (fMag_lt a)
        obtain ⟨b1, b2, b3⟩ := nrm_bd m2 (fMag_lt b)
        obtain ⟨p1, p2⟩ := fPl_bd a
        obtain ⟨q1, q2⟩ := fPl_bd b
        have hw1 : nrm (fMag a) ≤ 52 := by unfold nrm; omega
        have hw2 : nrm (fMag b) ≤ 52 := by unfold nrm; omega
        have hPx : fMag a * 2 ^ nrm (fMag a) * (fMag b * 2 ^ nrm (fMag b)) = fMag a * fMag b * 2 ^ (nrm (fMag a) + nrm (fMag b)) := by
          rw [Nat.pow_add, Nat.mul_assoc, Nat.mul_left_comm (2 ^ nrm (fMag a)), ← Nat.mul_assoc (fMag a)]
        have m64 := mul64_ok (x := fMag a * 2 ^ nrm (fMag a)) (y := fMag b * 2 ^ nrm (fMag b)) (by omega) (by omega)
        have hlo : 2 ^ 100 ≤ fMag a * 2 ^ nrm (fMag a) * (fMag b * 2 ^ nrm (fMag b)) := by
          have := Nat.mul_le_mul a2 b2
          refine Nat.le_trans ?_ this
          decide
        have hhi : fMag a * 2 ^ nrm (fMag a) * (fMag b * 2 ^ nrm (fMag b)) < 2 ^ 106 := by
          have := Nat.mul_lt_mul'' a3 b3
          exact Nat.lt_of_lt_of_le this (by decide)
        have hsc := (near_scale true (fMag a * fMag b) (fPl a + fPl b) (nrm (fMag a) + nrm (fMag b))).2.2
        rw [← hPx] at hsc
        generalize hP : fMag a * 2 ^ nrm (fMag a) * (fMag b * 2 ^ nrm (fMag b)) = P at *
        have hnr := mul_near hlo (fPl a - nrm (fMag a) + (fPl b - nrm (fMag b)))
        obtain ⟨t1, t2, t3, t4, t5⟩ := hilo hhi
        have e1 : (B.add .i64).den (Vi (fPl a - nrm (fMag a))) (Vi (fPl b - nrm (fMag b))) = Vi (fPl a - nrm (fMag a) + (fPl b - nrm (fMag b))) := add_i (by omega) (by omega)
        have e2 : (B.add .i64).den (Vi (fPl a - nrm (fMag a) + (fPl b - nrm (fMag b)))) (Vi 44) = Vi (fPl a - nrm (fMag a) + (fPl b - nrm (fMag b)) + 44) := add_i (by omega) (by omega)
        have e3 : (B.shl .u64).den (Vu (P / 18446744073709551616)) (Vu 20) = Vu (P / 18446744073709551616 * 1048576) := by
          rw [shl_uU]; refine congrArg Vu ?_
          show P / 18446744073709551616 * 1048576 % _ = _
          omega
        have e4 : (B.shr .u64).den (Vu (P % 18446744073709551616)) (Vu 44) = Vu (P % 18446744073709551616 / 17592186044416) := by rw [shr_uU]; rfl
        have e5 := or_hi t1 t2
        rw [t3] at e5
        have e6 : (B.shl .u64).den (Vu (P % 18446744073709551616)) (Vu 20) = Vu (P % 18446744073709551616 * 1048576 % 18446744073709551616) := by rw [shl_uU]; rfl
        have e7 : decide (P % 18446744073709551616 * 1048576 % 18446744073709551616 ≠ 0) = decide (P % 2 ^ 44 ≠ 0) := by
          rw [decide_eq_decide, ne_eq, ne_eq, t4]
        generalize hE : fPl a - nrm (fMag a) + (fPl b - nrm (fMag b)) = E at *
        have hN0 : P / 2 ^ 44 ≠ 0 := by
          have := Nat.div_le_div_right (c := 2 ^ 44) hlo
          rw [show (2 : Nat) ^ 100 / 2 ^ 44 = 72057594037927936 from by decide] at this
          omega
        have hlog : 56 ≤ (P / 2 ^ 44).log2 := by
          rw [Nat.le_log2 hN0, Nat.le_div_iff_mul_le (Nat.two_pow_pos _), ← Nat.pow_add]; exact hlo
        obtain ⟨f, hw⟩ := wide_ok (neg := fNeg a != fNeg b) (more := decide (P % 2 ^ 44 ≠ 0)) (m := P / 2 ^ 44) (e := E + 44) hN0 (by omega) (by omega) (by omega) (fun _ => by unfold lastP; omega)
        have hV : nearV (fNeg a != fNeg b) (2 * (P / 2 ^ 44) + (decide (P % 2 ^ 44 ≠ 0)).toNat) (E + 44 - 1) = nearV (fNeg a != fNeg b) (fMag a * fMag b) (fPl a + fPl b) := by
          unfold nearV
          rw [hnr, ← hsc]
          exact congrArg _ (congrArg _ (by omega))
        rw [hV] at hw
        have e8 : B.ne.den ((B.shl .u64).den (Vu (P % 18446744073709551616)) (Vu 20)) (Vu 0) = Vb (decide (P % 2 ^ 44 ≠ 0)) := by
          rw [e6, ne_u, e7]
        generalize decide (P % 2 ^ 44 ≠ 0) = mo at *
        generalize P / 2 ^ 44 = N at *
        refine ⟨f, val_of tab301 ?_⟩
        simp [-shl_u_lit, -shr_u_lit, -ne_u, tr301, TT.dv, s1, s2, k1, k2, hn, z1, z2, i1, i2, n1, n2, m64, e1, e2, e3, e4, e5, e8, hw]
end Go.Proofs.YthchhkghjfendabGreat.Dx

namespace Go.Proofs.YthchhkghjfendabGreat.Dx
open Go

def quoN (m n k : Nat) : Nat := 2 * (m * 2 ^ k / n) + (decide (m * 2 ^ k % n ≠ 0)).toNat
theorem quo_more {m n k : Nat} {p : Int} (hn : n ≠ 0) (hN : m * 2 ^ k / n ≠ 0) (h : p - k < lastP (m * 2 ^ k / n) (p - k)) (j : Nat) :
    nearR (quoN m n (k + j)) (p - ((k + j : Nat) : Int) - 1) = nearR (quoN m n k) (p - k - 1) := by
  unfold quoN
  have hd : m * 2 ^ (k + j) = (m * 2 ^ k / n * 2 ^ j) * n + m * 2 ^ k % n * 2 ^ j := by
    have : m * 2 ^ k = m * 2 ^ k / n * n + m * 2 ^ k % n := by have := Nat.div_add_mod (m * 2 ^ k) n; rw [Nat.mul_comm n] at this; exact this.symm
    rw [Nat.pow_add, ← Nat.mul_assoc]
    conv => lhs; rw [this]
    rw [Nat.add_mul, Nat.mul_right_comm]
  have hr : m * 2 ^ k % n < n := Nat.mod_lt _ (Nat.pos_of_ne_zero hn)
  generalize m * 2 ^ k / n = N at *
  generalize m * 2 ^ k % n = r at *
  have e1 : m * 2 ^ (k + j) / n = N * 2 ^ j + r * 2 ^ j / n := by
    rw [hd, Nat.add_comm, Nat.add_mul_div_right _ _ (Nat.pos_of_ne_zero hn), Nat.add_comm]
  have e2 : m * 2 ^ (k + j) % n = r * 2 ^ j % n := by rw [hd, Nat.add_comm, Nat.add_mul_mod_self_right]
  rw [e1, e2]
  have h3 : r * 2 ^ j / n < 2 ^ j := by
    rw [Nat.div_lt_iff_lt_mul (Nat.pos_of_ne_zero hn), Nat.mul_comm]; exact Nat.mul_lt_mul_of_pos_left hr (Nat.two_pow_pos j)
  have hs : 2 * (N * 2 ^ j + r * 2 ^ j / n) + (decide (r * 2 ^ j % n ≠ 0)).toNat = N * 2 ^ (j + 1) + (2 * (r * 2 ^ j / n) + (decide (r * 2 ^ j % n ≠ 0)).toNat) := by
    rw [Nat.pow_succ, ← Nat.mul_assoc]; omega
  rw [hs]
  by_cases hr0 : r = 0
  · subst hr0
    simp only [Nat.zero_mul, Nat.zero_div, Nat.zero_mod, ne_eq, not_true_eq_false, decide_false, Bool.toNat_false, Nat.mul_zero, Nat.add_zero]
    have t1 := (near_scale true N (p - k) 1).2.2
    have t2 := (near_scale true N (p - k) (j + 1)).2.2
    rw [Nat.pow_one, Nat.mul_comm N 2] at t1
    rw [show p - (k : Int) - 1 = p - k - ((1 : Nat) : Int) from rfl, t1, ← t2]
    exact congrArg _ (by omega)
  · have hp : 0 < 2 * (r * 2 ^ j / n) + (decide (r * 2 ^ j % n ≠ 0)).toNat := by
      by_cases hq : r * 2 ^ j / n = 0
      · have hm : r * 2 ^ j % n ≠ 0 := by
          have := Nat.div_add_mod (r * 2 ^ j) n
          rw [hq] at this
          have h4 : 0 < r * 2 ^ j := Nat.mul_pos (Nat.pos_of_ne_zero hr0) (Nat.two_pow_pos j)
          omega
        simp [hm]
      · omega
    have hlt : 2 * (r * 2 ^ j / n) + (decide (r * 2 ^ j % n ≠ 0)).toNat < 2 ^ (j + 1) := by
      have := Bool.toNat_le (decide (r * 2 ^ j % n ≠ 0))
      rw [Nat.pow_succ]; omega
    have := (near_sticky hN h hp hlt).1
    rw [show p - ((k + j : Nat) : Int) - 1 = p - k - ((j + 1 : Nat) : Int) by omega, this]
    simp [hr0]
def quoK (m n : Nat) : Nat := 54 + n.log2 - m.log2
def divV (a b : Nat) : Nat :=
  if nanB a ∨ nanB b then nan0 else
  if infB a then (if infB b then nan0 else sgn (fNeg a != fNeg b) infR) else
  if infB b then sgn (fNeg a != fNeg b) 0 else
  if zeroB b then (if zeroB a then nan0 else sgn (fNeg a != fNeg b) infR) else
  if zeroB a then sgn (fNeg a != fNeg b) 0 else nearV (fNeg a != fNeg b) (quoN (fMag a) (fMag b) (quoK (fMag a) (fMag b))) (fPl a - fPl b - quoK (fMag a) (fMag b) - 1)
theorem divB_ok {a b : Nat} (ha : a < 18446744073709551616) (hb : b < 18446744073709551616) : B.fdiv.den (Vf (cnF a)) (Vf (cnF b)) = Vf (divV a b) := by
  show fv (Ieee.double.div (cnF a) (cnF b)) = _
  rw [div_cn]
  unfold divV Ieee.Format.div
  by_cases h1 : nanB a
  · obtain ⟨s, f, h⟩ := rd_nan h1; rw [h, if_pos (.inl h1)]; rfl
  by_cases h2 : nanB b
  · obtain ⟨s, f, h⟩ := rd_nan h2; rw [h, if_pos (.inr h2)]; cases Ieee.double.read a <;> rfl
  rw [if_neg (by simp [h1, h2])]
  by_cases h3 : infB a
  · rw [rd_inf ha h3, if_pos h3]
    by_cases h4 : infB b
    · rw [rd_inf hb h4, if_pos h4]; rfl
    · have hf := fin_of h2 h4
      rw [rd_num hb hf, if_neg h4]
      show fv (some (Ieee.double.write _)) = _
      rw [wr_inf, xor_ne]; rfl
  · have hf := fin_of h1 h3
    rw [if_neg h3, rd_num ha hf]
    by_cases h4 : infB b
    · rw [rd_inf hb h4, if_pos h4]
      show fv (some (Ieee.double.write _)) = _
      rw [wr_num, xor_ne, nearV_zero]; rfl
    · have hg := fin_of h2 h4
      rw [rd_num hb hg, if_neg h4]
      show fv (Option.map _ (if fMag b = 0 then if fMag a = 0 then none else _ else _)) = _
      by_cases h5 : zeroB b
      · rw [if_pos h5, if_pos h5.1]
        by_cases h6 : zeroB a
        · rw [if_pos h6, if_pos h6.1]; rfl
        · rw [if_neg h6, if_neg (fun h => h6 ((zeroB_mag hf).2 h))]
          show fv (some (Ieee.double.write _)) = _
          rw [wr_inf, xor_ne]; rfl
      · rw [if_neg h5, if_neg (fun h => h5 ((zeroB_mag hg).2 h))]
        show fv (some (Ieee.double.write _)) = _
        rw [wr_num, xor_ne]
        have hk : Ieee.double.fractionBits + 2 + (fMag b).log2 - (fMag a).log2 = quoK (fMag a) (fMag b) := rfl
        rw [hk, Nat.shiftLeft_eq]
        have hq : 2 * (fMag a * 2 ^ quoK (fMag a) (fMag b) / fMag b) + (fMag a * 2 ^ quoK (fMag a) (fMag b) % fMag b != 0).toNat = quoN (fMag a) (fMag b) (quoK (fMag a) (fMag b)) := by
          unfold quoN
          refine congrArg _ (congrArg _ ?_)
          by_cases h : fMag a * 2 ^ quoK (fMag a) (fMag b) % fMag b = 0 <;> simp [h]
        rw [hq]
        by_cases h6 : zeroB a
        · rw [if_pos h6]
          have : quoN (fMag a) (fMag b) (quoK (fMag a) (fMag b)) = 0 := by unfold quoN; rw [h6.1]; simp
          rw [this, nearV_zero]; rfl
        · rw [if_neg h6]; rfl
theorem divV_lt {a b : Nat} : divV a b < 18446744073709551616 := by
  have h1 : ∀ s, sgn s infR < 18446744073709551616 := fun s => (sgn_fields _ (Nat.le_refl _)).2.2.2.2
  have h2 : ∀ s, sgn s 0 < 18446744073709551616 := fun s => (sgn_fields _ (Nat.zero_le _)).2.2.2.2
  have h3 : nan0 < 18446744073709551616 := by decide
  unfold divV
  repeat' split
  all_goals first | exact h3 | exact h1 _ | exact h2 _ | exact word_lt _ _ _
theorem divV_nan (a b : Nat) : cnF (divV a b) = divV a b := by
  unfold divV
  repeat' split
  all_goals first | exact cnF_nanB nanB_nan0 | exact cnF_ok (nanB_sgn _).1 | exact cnF_ok (nanB_sgn _).2 | exact cnF_ok (nanB_near _ _ _)

theorem dbl_div {a y : Nat} (hy : 0 < y) : a * 2 / y = 2 * (a / y) + (if y ≤ 2 * (a % y) then 1 else 0) ∧ a * 2 % y = 2 * (a % y) - (if y ≤ 2 * (a % y) then y else 0) := by
  have h := Nat.div_add_mod a y
  have hr := Nat.mod_lt a hy
  generalize a / y = q at *
  generalize a % y = r at *
  have e : a * 2 = 2 * r + y * (2 * q) := by rw [← h, Nat.mul_left_comm y 2 q]; omega
  rw [e, Nat.add_mul_div_left _ _ hy, Nat.add_mul_mod_self_left]
  by_cases hc : y ≤ 2 * r
  · rw [if_pos hc, if_pos hc]
    have e2 : 2 * r = (2 * r - y) + y := by omega
    have h1 : 2 * r / y = 1 := by rw [e2, Nat.add_div_right _ hy, Nat.div_eq_of_lt (by omega)]
    have h2 : 2 * r % y = 2 * r - y := by
      conv => lhs; rw [e2]
      rw [Nat.add_mod_right, Nat.mod_eq_of_lt (by omega)]
    exact ⟨by omega, h2⟩
  · rw [if_neg hc, if_neg hc, Nat.div_eq_of_lt (by omega), Nat.mod_eq_of_lt (by omega)]
    exact ⟨by omega, by omega⟩
theorem div_loop {x0 x1 x2 x3 x4 x5 x6 x7 x8 x10 : PV} {A y : Nat} (hy : 4503599627370496 ≤ y) (hy2 : y < 9007199254740992) (hA : A < 9007199254740992) : ∀ (n : Nat) {i : Nat}, i + n = 61 →
    rounds (fun vs => lo300_1.dv (x0 :: x1 :: x2 :: x3 :: x4 :: x5 :: x6 :: x7 :: x8 :: Vu y :: x10 :: vs)) [Vu (A * 2 ^ i / y), Vu (A * 2 ^ i % y), Vi i] = some (.y (.ext 1) [Vu (A * 2 ^ 61 / y), Vu (A * 2 ^ 61 % y)]) := by
  intro n
  induction n with
  | zero =>
    intro i hi
    have : i = 61 := by omega
    subst this
    refine rounds_exit ?_ (by simp)
    simp [lo300_1, TT.dv]
  | succ n ih =>
    intro i hi
    refine Eq.trans (rounds_cont ?_) (ih (i := i + 1) (by omega))
    have hd := dbl_div (a := A * 2 ^ i) (y := y) (by omega)
    rw [Nat.mul_assoc, ← Nat.pow_succ] at hd
    obtain ⟨d1, d2⟩ := hd
    have hr : A * 2 ^ i % y < y := Nat.mod_lt _ (by omega)
    have hq : A * 2 ^ i / y < 4611686018427387904 := by
      rw [Nat.div_lt_iff_lt_mul (by omega)]
      have h1 : A * 2 ^ i ≤ A * 2 ^ 60 := Nat.mul_le_mul_left A (Nat.pow_le_pow_right (by omega) (by omega))
      rw [show (2 : Nat) ^ 60 = 1152921504606846976 from rfl] at h1
      have h2 : 4611686018427387904 * 4503599627370496 ≤ 4611686018427387904 * y := Nat.mul_le_mul_left _ hy
      omega
    rw [d1, d2]
    generalize A * 2 ^ i / y = q at *
    generalize A * 2 ^ i % y = r at *
    have e1 : (B.shl .u64).den (Vu r) (Vu 1) = Vu (2 * r) := by
      rw [shl_uU]; refine congrArg Vu ?_
      show r * 2 % _ = _; omega
    have e2 : (B.shl .u64).den (Vu q) (Vu 1) = Vu (2 * q) := by
      rw [shl_uU]; refine congrArg Vu ?_
      show q * 2 % _ = _; omega
    have e3 : (B.add .i64).den (Vi i) (Vi 1) = Vi (i + 1) := add_i (by omega) (by omega)
    have e4 : (i : Int) < 61 := by omega
    have e5 : (B.or .u64).den (Vu (2 * q)) (Vu 1) = Vu (2 * q + 1) := or_add (a := q) (b := 1) (i := 1) (by omega) (by omega) (by omega)
    by_cases hc : y ≤ 2 * r
    · have e6 : (B.sub .u64).den (Vu (2 * r)) (Vu y) = Vu (2 * r - y) := sub_u hc (by omega)
      simp [-shl_u_lit, lo300_1, TT.dv, KS.dv, e1, e2, e3, e4, e5, e6, hc]
    · simp [-shl_u_lit, lo300_1, TT.dv, KS.dv, e1, e2, e3, e4, hc]
end Go.Proofs.YthchhkghjfendabGreat.Dx

namespace Go.Proofs.YthchhkghjfendabGreat.Dx
open Go

/-- The quotient of two numbers of 53 digits. -/
theorem quo_near {m n : Nat} (hm : m ≠ 0) (hn : n ≠ 0) (hm2 : m < 9007199254740992) (hn2 : n < 9007199254740992) (i j : Int) (s : Bool) :
    nearV s (quoN (m * 2 ^ nrm m) (n * 2 ^ nrm n) 61) (i - nrm m - (j - nrm n) - 61 - 1) = nearV s (quoN m n (quoK m n)) (i - j - quoK m n - 1) ∧ m * 2 ^ nrm m * 2 ^ 61 / (n * 2 ^ nrm n) ≠ 0 ∧
    60 ≤ (m * 2 ^ nrm m * 2 ^ 61 / (n * 2 ^ nrm n)).log2 := by
  obtain ⟨a1, a2, a3⟩ := nrm_bd hm hm2
  obtain ⟨b1, b2, b3⟩ := nrm_bd hn hn2
  have hk : quoK m n = 54 + n.log2 - m.log2 := rfl
  have hk2 : nrm m + 61 = quoK m n + 7 + nrm n := by rw [hk]; unfold nrm; omega
  have e0 : m * 2 ^ nrm m * 2 ^ 61 = m * 2 ^ (quoK m n + 7) * 2 ^ nrm n := by
    rw [Nat.mul_assoc, ← Nat.pow_add, hk2, Nat.pow_add, Nat.mul_assoc]
  have e1 : m * 2 ^ nrm m * 2 ^ 61 / (n * 2 ^ nrm n) = m * 2 ^ (quoK m n + 7) / n := by rw [e0, Nat.mul_div_mul_right _ _ (Nat.two_pow_pos _)]
  have e2 : m * 2 ^ nrm m * 2 ^ 61 % (n * 2 ^ nrm n) = m * 2 ^ (quoK m n + 7) % n * 2 ^ nrm n := by rw [e0, Nat.mul_mod_mul_right]
  have hq : quoN (m * 2 ^ nrm m) (n * 2 ^ nrm n) 61 = quoN m n (quoK m n + 7) := by
    unfold quoN
    rw [e1, e2]
    refine congrArg _ (congrArg _ ?_)
    rw [decide_eq_decide, ne_eq, ne_eq, Nat.mul_eq_zero]
    simp
  have hlow : 2 ^ 60 ≤ m * 2 ^ nrm m * 2 ^ 61 / (n * 2 ^ nrm n) := by
    rw [Nat.le_div_iff_mul_le (by unfold two52 at b2; omega)]
    have h1 : 2 ^ 60 * (n * 2 ^ nrm n) ≤ 2 ^ 60 * 9007199254740992 := Nat.mul_le_mul_left _ (by omega)
    have h2 : 4503599627370496 * 2 ^ 61 ≤ m * 2 ^ nrm m * 2 ^ 61 := Nat.mul_le_mul_right _ a2
    have h3 : 2 ^ 60 * 9007199254740992 = 4503599627370496 * 2 ^ 61 := by decide
    exact Nat.le_trans h1 (Nat.le_trans (Nat.le_of_eq h3) h2)
  have hpos : 0 < 2 ^ 60 := Nat.two_pow_pos 60
  have hne : m * 2 ^ nrm m * 2 ^ 61 / (n * 2 ^ nrm n) ≠ 0 := by omega
  have hlog : 60 ≤ (m * 2 ^ nrm m * 2 ^ 61 / (n * 2 ^ nrm n)).log2 := by rw [Nat.le_log2 hne]; exact hlow
  refine ⟨?_, hne, hlog⟩
  rw [hq]
  have h0 : m * 2 ^ quoK m n / n ≠ 0 ∧ 53 ≤ (m * 2 ^ quoK m n / n).log2 := by
    have hh : 2 ^ 53 ≤ m * 2 ^ quoK m n / n := by
      rw [Nat.le_div_iff_mul_le (Nat.pos_of_ne_zero hn)]
      have h1 := Nat.mul_le_mul_right (2 ^ quoK m n) (Nat.log2_self_le hm)
      rw [← Nat.pow_add] at h1
      have h2 : 2 ^ 53 * n ≤ 2 ^ 53 * 2 ^ (n.log2 + 1) := Nat.mul_le_mul_left _ (Nat.le_of_lt Nat.lt_log2_self)
      rw [← Nat.pow_add] at h2
      rw [show m.log2 + quoK m n = 53 + (n.log2 + 1) by rw [hk]; omega] at h1
      omega
    have : m * 2 ^ quoK m n / n ≠ 0 := by have := Nat.two_pow_pos 53; omega
    exact ⟨this, by rw [Nat.le_log2 this]; exact hh⟩
  have := quo_more (m := m) (n := n) (k := quoK m n) (p := i - j) hn h0.1 (by unfold lastP; omega) 7
  unfold nearV
  rw [← this]
  exact congrArg _ (congrArg _ (by omega))
theorem div_ok {a b : Nat} (ha : a < 18446744073709551616) (hb : b < 18446744073709551616) : ∃ f, val 300 [Vu a, Vu b] = some [Vu (divV a b), f] := by
  have s1 := sign_ok a
  have s2 := sign_ok b
  have k1 := kind_ok a
  have k2 := kind_ok b
  have hn := times_nan a b
  have hsI := signed_ok (b := infR) (fNeg a != fNeg b) (.inl rfl)
  have hsZ := signed_ok (b := 0) (fNeg a != fNeg b) (.inr rfl)
  have eI : infR = 9218868437227405312 := rfl
  rw [eI] at hsI
  unfold divV
  rw [eI]
  by_cases c1 : nanB a ∨ nanB b
  · rw [if_pos c1]
    refine ⟨Vy 0, val_of tab300 ?_⟩
    rw [decide_eq_true c1] at hn
    simp [tr300, TT.dv, s1, s2, k1, k2, hn, nan0]
  · rw [if_neg c1]
    rw [decide_eq_false c1] at hn
    have cn1 : ¬ nanB a := fun h => c1 (.inl h)
    have cn2 : ¬ nanB b := fun h => c1 (.inr h)
    by_cases c2 : infB a
    · rw [if_pos c2]
      have i1 := (kind_infB a).2 c2
      by_cases c3 : infB b
      · rw [if_pos c3]
        have i2 := (kind_infB b).2 c3
        refine ⟨Vy 16, val_of tab300 ?_⟩
        simp [tr300, TT.dv, s1, s2, k1, k2, hn, i1, i2, nan0]
      · rw [if_neg c3]
        have i2 : ¬ fKind b = 3 := fun h => c3 ((kind_infB b).1 h)
        refine ⟨Vy 0, val_of tab300 ?_⟩
        simp [tr300, TT.dv, s1, s2, k1, k2, hn, i1, i2, hsI]
    · rw [if_neg c2]
      have i1 : ¬ fKind a = 3 := fun h => c2 ((kind_infB a).1 h)
      by_cases c3 : infB b
      · rw [if_pos c3]
        have i2 := (kind_infB b).2 c3
        refine ⟨Vy 0, val_of tab300 ?_⟩
        simp [tr300, TT.dv, s1, s2, k1, k2, hn, i1, i2, hsZ]
      · rw [if_neg c3]
        have i2 : ¬ fKind b = 3 := fun h => c3 ((kind_infB b).1 h)
        by_cases c4 : zeroB b
        · rw [if_pos c4]
          have z2 := (kind_zeroB b).2 c4
          by_cases c5 : zeroB a
          · rw [if_pos c5]
            have z1 := (kind_zeroB a).2 c5
            refine ⟨Vy 16, val_of tab300 ?_⟩
            simp [tr300, TT.dv, s1, s2, k1, k2, hn, z1, z2, nan0]
          · rw [if_neg c5]
            have z1 : ¬ fKind a = 0 := fun h => c5 ((kind_zeroB a).1 h)
            refine ⟨Vy 8, val_of tab300 ?_⟩
            simp [tr300, TT.dv, s1, s2, k1, k2, hn, i1, z1, z2, hsI]
        · rw [if_neg c4]
          have z2 : ¬ fKind b = 0 := fun h => c4 ((kind_zeroB b).1 h)
          by_cases c5 : zeroB a
          · rw [if_pos c5]
            have z1 := (kind_zeroB a).2 c5
            refine ⟨Vy 0, val_of tab300 ?_⟩
            simp [tr300, TT.dv, s1, s2, k1, k2, hn, i2, z1, z2, hsZ]
          · rw [if_neg c5]
            have z1 : ¬ fKind a = 0 := fun h => c5 ((kind_zeroB a).1 h)
            have f1 := fin_of cn1 c2
            have f2 := fin_of cn2 c3
            have m1 : fMag a ≠ 0 := fun h => c5 ((zeroB_mag f1).2 h)
            have m2 : fMag b ≠ 0 := fun h => c4 ((zeroB_mag f2).2 h)
            have n1 := norm3_ok m1
            have n2 := norm3_ok m2
            obtain ⟨a1, a2, a3⟩ := nrm_bd m1 (fMag_lt a)
            obtain ⟨b1, b2, b3⟩ := nrm_bd m2 (fMag_lt b)
            obtain ⟨p1, p2⟩ := fPl_bd a
            obtain ⟨q1, q2⟩ := fPl_bd b
            have hw1 : nrm (fMag a) ≤ 52 := by unfold nrm; omega
            have hw2 : nrm (fMag b) ≤ 52 := by unfold nrm; omega
            obtain ⟨g1, g2, g3⟩ := quo_near m1 m2 (fMag_lt a) (fMag_lt b) (fPl a) (fPl b) (fNeg a != fNeg b)
            rw [← g1]
            unfold two52 at a2 b2
            have hlp := fun x0 x1 x2 x3 x4 x5 x6 x7 x8 x10 => div_loop (x0 := x0) (x1 := x1) (x2 := x2) (x3 := x3) (x4 := x4) (x5 := x5) (x6 := x6) (x7 := x7) (x8 := x8) (x10 := x10) b2 b3 a3 61 (i := 0) rfl
            simp only [Nat.pow_zero, Nat.mul_one, show ((0 : Nat) : Int) = 0 from rfl] at hlp
            generalize hX : fMag a * 2 ^ nrm (fMag a) = X at *
            generalize hY : fMag b * 2 ^ nrm (fMag b) = Y at *
            have e0 : (B.sub .i64).den (Vi (fPl a - nrm (fMag a))) (Vi (fPl b - nrm (fMag b))) = Vi (fPl a - nrm (fMag a) - (fPl b - nrm (fMag b))) := sub_i (by omega) (by omega)
            generalize hE : fPl a - nrm (fMag a) - (fPl b - nrm (fMag b)) = E at *
            have e1 : (B.sub .i64).den (Vi E) (Vi 61) = Vi (E - 61) := sub_i (by omega) (by omega)
            have e2 : (B.quo .u64).den (Vu X) (Vu Y) = Vu (X / Y) := quo_u (by omega)
            have e3 : ¬ Y = 0 := by omega
            have hQ : X * 2 ^ 61 / Y < 18446744073709551616 := by
              rw [Nat.div_lt_iff_lt_mul (by omega)]
              have h2 : 18446744073709551616 * 4503599627370496 ≤ 18446744073709551616 * Y := Nat.mul_le_mul_left _ b2
              omega
            obtain ⟨f, hw⟩ := wide_ok (neg := fNeg a != fNeg b) (more := decide (X * 2 ^ 61 % Y ≠ 0)) (m := X * 2 ^ 61 / Y) (e := E - 61) g2 hQ (by omega) (by omega) (fun _ => by unfold lastP; omega)
            have hw' : val 305 [Vb (fNeg a != fNeg b), Vu (X * 2 ^ 61 / Y), Vi (E - 61), Vb (decide (X * 2 ^ 61 % Y ≠ 0))] = some [Vu (nearV (fNeg a != fNeg b) (quoN X Y 61) (E - 61 - 1)), f] := hw
            have e4 : B.ne.den (Vu (X * 2 ^ 61 % Y)) (Vu 0) = Vb (decide (X * 2 ^ 61 % Y ≠ 0)) := ne_u
            generalize nearV (fNeg a != fNeg b) (quoN X Y 61) (E - 61 - 1) = res at *
            generalize decide (X * 2 ^ 61 % Y ≠ 0) = mo at *
            generalize X * 2 ^ 61 / Y = Q at *
            generalize X * 2 ^ 61 % Y = R at *
            refine ⟨f, val_of tab300 ?_⟩
            simp [-ne_u, tr300, TT.dv, KS.dv, s1, s2, k1, k2, hn, z1, z2, i1, i2, n1, n2, ne_u (a := Y) (b := 0), e0, e1, e2, e3, hlp, e4, hw']
end Go.Proofs.YthchhkghjfendabGreat.Dx

namespace Go.Proofs.YthchhkghjfendabGreat.Dx
open Go

def sumV (s t : Bool) (m n : Nat) (i j : Int) : Nat :=
  nearV (if sg s m * 2 ^ (i - min i j).toNat + sg t n * 2 ^ (j - min i j).toNat = 0 then s && t else decide (sg s m * 2 ^ (i - min i j).toNat + sg t n * 2 ^ (j - min i j).toNat < 0))
    (sg s m * 2 ^ (i - min i j).toNat + sg t n * 2 ^ (j - min i j).toNat).natAbs (min i j)
theorem sumV_comm (s t : Bool) (m n : Nat) (i j : Int) : sumV s t m n i j = sumV t s n m j i := by
  unfold sumV
  rw [Int.add_comm, Bool.and_comm, show min i j = min j i by omega]
def addV (a b : Nat) : Nat :=
  if nanB a ∨ nanB b then nan0 else
  if infB a then (if infB b ∧ fNeg a ≠ fNeg b then nan0 else a) else
  if infB b then b else sumV (fNeg a) (fNeg b) (fMag a) (fMag b) (fPl a) (fPl b)
theorem addB_ok {a b : Nat} (ha : a < 18446744073709551616) (hb : b < 18446744073709551616) : B.fadd.den (Vf (cnF a)) (Vf (cnF b)) = Vf (addV a b) := by
  show fv (Ieee.double.add (cnF a) (cnF b)) = _
  rw [add_cn]
  unfold addV Ieee.Format.add
  by_cases h1 : nanB a
  · obtain ⟨s, f, h⟩ := rd_nan h1; rw [h, if_pos (.inl h1)]; rfl
  by_cases h2 : nanB b
  · obtain ⟨s, f, h⟩ := rd_nan h2; rw [h, if_pos (.inr h2)]; cases Ieee.double.read a <;> rfl
  rw [if_neg (by simp [h1, h2])]
  by_cases h3 : infB a
  · rw [rd_inf ha h3, if_pos h3]
    by_cases h4 : infB b
    · rw [rd_inf hb h4]
      show fv (Option.map _ (if fNeg a = fNeg b then some _ else none)) = _
      by_cases h5 : fNeg a = fNeg b
      · rw [if_pos h5, if_neg (by simp [h5])]
        show fv (some (Ieee.double.write _)) = _
        rw [wr_inf, ← inf_word ha h3]; rfl
      · rw [if_neg h5, if_pos ⟨h4, h5⟩]; rfl
    · have hf := fin_of h2 h4
      rw [rd_num hb hf, if_neg (by simp [h4])]
      show fv (some (Ieee.double.write _)) = _
      rw [wr_inf, ← inf_word ha h3]; rfl
  · have hf := fin_of h1 h3
    rw [if_neg h3, rd_num ha hf]
    by_cases h4 : infB b
    · rw [rd_inf hb h4, if_pos h4]
      show fv (some (Ieee.double.write _)) = _
      rw [wr_inf, ← inf_word hb h4]; rfl
    · have hg := fin_of h2 h4
      rw [rd_num hb hg, if_neg h4]
      show fv (some (Ieee.double.write (.number (if Ieee.signed _ _ _ + Ieee.signed _ _ _ = 0 then _ else _) _ _))) = _
      rw [wr_num, signed_eq, signed_eq]; rfl
theorem addV_lt {a b : Nat} (ha : a < 18446744073709551616) (hb : b < 18446744073709551616) : addV a b < 18446744073709551616 := by
  have h3 : nan0 < 18446744073709551616 := by decide
  unfold addV
  repeat' split
  all_goals first | exact h3 | exact ha | exact hb | exact word_lt _ _ _
theorem addV_nan (a b : Nat) : cnF (addV a b) = addV a b := by
  unfold addV
  split
  · exact cnF_nanB nanB_nan0
  · rename_i h
    split
    · split
      · exact cnF_nanB nanB_nan0
      · exact cnF_ok (fun hh => h (.inl hh))
    · split
      · exact cnF_ok (fun hh => h (.inr hh))
      · exact cnF_ok (nanB_near _ _ _)

theorem near0 {neg : Bool} {m : Nat} {e : Int} (hm : m < 18446744073709551616) (he : -1137 ≤ e) (he2 : e < 9000000000000) : ∃ f, val 283 [Vb neg, Vu m, Vi e, Vb false] = some [Vu (nearV neg m e), f] := by
  have h := near_ok (neg := neg) (more := false) hm he he2 (fun h => by cases h)
  have h2 := (near_scale neg m e 1).1
  rw [Nat.pow_one, Nat.mul_comm] at h2
  simp only [Bool.toNat_false, Nat.add_zero] at h
  rw [show nearV neg (2 * m) (e - 1) = nearV neg m e from h2] at h
  exact ⟨_, h⟩
/-- A number divided by a power of two, what is left in its lowest digit. -/
def rgt (M d : Nat) : Nat := if M % 2 ^ min d 63 = 0 then M / 2 ^ min d 63 else 2 * (M / 2 ^ min d 63 / 2) + 1
theorem right_ok {M d : Nat} (hM : M < 18446744073709551616) (hd : d < 9223372036854775808) : val 290 [Vu M, Vi d] = some [Vu (rgt M d)] := by
  refine val_of tab290 ?_
  have e0 : ∃ t : Nat, t = min d 63 := ⟨_, rfl⟩
  obtain ⟨t, ht⟩ := e0
  unfold rgt
  rw [← ht]
  have e1 : (B.shr .u64).den (Vu M) (Vi t) = Vu (M / 2 ^ t) := by rw [shr_uI rfl, Nat.min_eq_left (by omega)]
  have e2 : (B.shl .u64).den (Vu (M / 2 ^ t)) (Vi t) = Vu (M / 2 ^ t * 2 ^ t) := by
    rw [shl_uI rfl, Nat.min_eq_left (by omega), Nat.mod_eq_of_lt]
    exact Nat.lt_of_le_of_lt (Nat.div_mul_le_self _ _) hM
  have e3 : M / 2 ^ t * 2 ^ t = M ↔ M % 2 ^ t = 0 := by
    have := Nat.div_add_mod M (2 ^ t)
    rw [Nat.mul_comm] at this
    omega
  have hq : M / 2 ^ t < 18446744073709551616 := Nat.lt_of_le_of_lt (Nat.div_le_self _ _) hM
  have e4 : (B.or .u64).den (Vu (M / 2 ^ t)) (Vu 1) = Vu (2 * (M / 2 ^ t / 2) + 1) := by
    generalize M / 2 ^ t = q at *
    rcases (show q % 2 = 0 ∨ q % 2 = 1 by omega) with h | h
    · have := or_add (a := q / 2) (b := 1) (i := 1) (by omega) (by omega) (by omega)
      rw [show 2 ^ 1 * (q / 2) = q by omega] at this
      rw [this]; exact congrArg Vu (by omega)
    · rw [or_u hq (by omega)]
      refine congrArg Vu ?_
      have := Nat.two_pow_add_eq_or_of_lt (b := 1) (i := 1) (by omega) (q / 2)
      rw [Nat.pow_one, show 2 * (q / 2) + 1 = q by omega] at this
      conv => lhs; rw [this, Nat.or_assoc, Nat.or_self, ← this]
      omega
  generalize M / 2 ^ t = q at *
  by_cases hd63 : (d : Int) > 63
  · have ht63 : t = 63 := by omega
    rw [ht63] at e1 e2 e3 ⊢
    have e1' : (B.shr .u64).den (Vu M) (Vi 63) = Vu q := e1
    have e2' : (B.shl .u64).den (Vu q) (Vi 63) = Vu (q * 2 ^ 63) := e2
    have h63 : (63 : Int) < d := by omega
    generalize q * 2 ^ 63 = z at *
    by_cases hc : z = M
    · rw [if_pos (e3.1 hc)]
      simp [-shl_u_lit, -shr_u_lit, tr290, TT.dv, KS.dv, h63, e1', e2', hc]
    · rw [if_neg (fun h => hc (e3.2 h))]
      simp [-shl_u_lit, -shr_u_lit, tr290, TT.dv, KS.dv, h63, e1', e2', hc, e4]
  · have ht63 : t = d := by omega
    subst ht63
    have h63 : ¬ (63 : Int) < t := by omega
    generalize q * 2 ^ t = z at *
    by_cases hc : z = M
    · rw [if_pos (e3.1 hc)]
      simp [-shl_u_lit, -shr_u_lit, tr290, TT.dv, KS.dv, h63, e1, e2, hc]
    · rw [if_neg (fun h => hc (e3.2 h))]
      simp [-shl_u_lit, -shr_u_lit, tr290, TT.dv, KS.dv, h63, e1, e2, hc, e4]
end Go.Proofs.YthchhkghjfendabGreat.Dx

namespace Go.Proofs.YthchhkghjfendabGreat.Dx
open Go

theorem near_half {N k r : Nat} (p : Int) (hN : 2 ^ 56 ≤ N) (h0 : 0 < r) (hr : r < 2 ^ k) : nearR (N * 2 ^ k + r) (p - k) = nearR (2 * (N / 2) + 1) p := by
  have h56 : (2 : Nat) ^ 56 = 72057594037927936 := rfl
  rw [h56] at hN
  have hM : N / 2 ≠ 0 := by omega
  have hlog : 55 ≤ (N / 2).log2 := by
    rw [Nat.le_log2 hM]
    show 36028797018963968 ≤ N / 2
    omega
  have e1 : N * 2 ^ k + r = N / 2 * 2 ^ (k + 1) + (N % 2 * 2 ^ k + r) := by
    rw [Nat.pow_succ, ← Nat.mul_assoc, Nat.mul_right_comm, ← Nat.add_assoc, ← Nat.add_mul, Nat.mul_comm (N / 2), Nat.div_add_mod]
  have e2 : N % 2 * 2 ^ k + r < 2 ^ (k + 1) := by
    rw [Nat.pow_succ]
    have : N % 2 * 2 ^ k ≤ 1 * 2 ^ k := Nat.mul_le_mul_right _ (by omega)
    omega
  have := (near_sticky hM (p := p + 1) (by unfold lastP; omega) (show 0 < N % 2 * 2 ^ k + r by omega) e2).1
  rw [e1, show p - (k : Int) = p + 1 - ((k + 1 : Nat) : Int) by omega, this]
  exact congrArg _ (by omega)
theorem rgt_small {n d : Nat} (hd : d ≤ 9) : rgt (n * 512) d = n * 2 ^ (9 - d) := by
  have e : n * 512 = n * 2 ^ (9 - d) * 2 ^ d := by
    rw [Nat.mul_assoc, ← Nat.pow_add, show 9 - d + d = 9 by omega]
  unfold rgt
  rw [Nat.min_eq_left (by omega), e, Nat.mul_mod_left, if_pos rfl, Nat.mul_div_cancel _ (Nat.two_pow_pos _)]
theorem rgt_big {n d : Nat} (hd : 10 ≤ d) (hn : n < 9007199254740992) : rgt (n * 512) d = if n % 2 ^ (d - 9) = 0 then n / 2 ^ (d - 9) else 2 * (n / 2 ^ (d - 9) / 2) + 1 := by
  unfold rgt
  by_cases h : d ≤ 63
  · rw [Nat.min_eq_left h]
    have e : 2 ^ d = 2 ^ (d - 9) * 512 := by rw [show (512 : Nat) = 2 ^ 9 from rfl, ← Nat.pow_add]; exact congrArg _ (by omega)
    rw [e, Nat.mul_mod_mul_right, Nat.mul_div_mul_right _ _ (by omega)]
    have : (n % 2 ^ (d - 9) * 512 = 0) ↔ (n % 2 ^ (d - 9) = 0) := by omega
    by_cases hc : n % 2 ^ (d - 9) = 0
    · rw [if_pos (this.2 hc), if_pos hc]
    · rw [if_neg (fun h => hc (this.1 h)), if_neg hc]
  · rw [Nat.min_eq_right (by omega)]
    have h1 : 2 ^ 54 ≤ 2 ^ (d - 9) := Nat.pow_le_pow_right (by omega) (by omega)
    rw [show (2 : Nat) ^ 54 = 18014398509481984 from rfl] at h1
    rw [Nat.mod_eq_of_lt (show n < 2 ^ (d - 9) by omega), Nat.div_eq_of_lt (show n < 2 ^ (d - 9) by omega), show (2 : Nat) ^ 63 = 9223372036854775808 from rfl, Nat.mod_eq_of_lt (by omega), Nat.div_eq_of_lt (by omega)]
    by_cases hc : n = 0
    · subst hc; rfl
    · rw [if_neg (by omega), if_neg hc]
/-- What is far below: a number cut, and what is left of it. -/
theorem far_parts {n k : Nat} (hk : 1 ≤ k) (hn : n < 9007199254740992) : ∃ q r, n = q * 2 ^ k + r ∧ r < 2 ^ k ∧ q < 4503599627370496 ∧ n % 2 ^ k = r ∧ n / 2 ^ k = q := by
  refine ⟨n / 2 ^ k, n % 2 ^ k, by rw [Nat.mul_comm]; exact (Nat.div_add_mod _ _).symm, Nat.mod_lt _ (Nat.two_pow_pos _), ?_, rfl, rfl⟩
  have h1 : n / 2 ^ k ≤ n / 2 := Nat.div_le_div_left (by have := Nat.pow_le_pow_right (show 0 < 2 by omega) hk; omega) (by omega)
  omega
theorem nearR_of {n : Nat} {p q : Int} (h : p = q) : nearR n p = nearR n q := by rw [h]
theorem sum_plus {m n d : Nat} (e : Int) (hm : m < 9007199254740992) (hn : n < 9007199254740992) (h : d ≤ 9 ∨ 4503599627370496 ≤ m) : nearR (m * 512 + rgt (n * 512) d) e = nearR (m * 2 ^ d + n) (e + 9 - d) := by
  by_cases hd : d ≤ 9
  · rw [rgt_small hd]
    have e1 : m * 512 + n * 2 ^ (9 - d) = (m * 2 ^ d + n) * 2 ^ (9 - d) := by
      rw [Nat.add_mul, Nat.mul_assoc, ← Nat.pow_add, show d + (9 - d) = 9 by omega]
    have := (near_scale true (m * 2 ^ d + n) (e + 9 - d) (9 - d)).2.2
    rw [e1, ← this]
    exact nearR_of (by omega)
  · obtain ⟨q, r, h1, h2, h3, h4, h5⟩ := far_parts (n := n) (k := d - 9) (by omega) hn
    rw [rgt_big (by omega) hn, h4, h5]
    have hmp : m * 2 ^ d = m * 512 * 2 ^ (d - 9) := by rw [Nat.mul_assoc, show (512 : Nat) = 2 ^ 9 from rfl, ← Nat.pow_add]; exact congrArg _ (congrArg _ (by omega))
    have hT : m * 2 ^ d + n = (m * 512 + q) * 2 ^ (d - 9) + r := by rw [hmp, h1, Nat.add_mul]; omega
    rw [hT]
    by_cases hr : r = 0
    · rw [if_pos hr, hr, Nat.add_zero]
      have := (near_scale true (m * 512 + q) e (d - 9)).2.2
      rw [← this]
      exact nearR_of (by omega)
    · rw [if_neg hr]
      have := near_half (N := m * 512 + q) (k := d - 9) (r := r) e (by rw [show (2 : Nat) ^ 56 = 72057594037927936 from rfl]; omega) (by omega) h2
      rw [show e + 9 - (d : Int) = e - ((d - 9 : Nat) : Int) by omega, this]
      exact congrArg (nearR · e) (by omega)
theorem sum_minus {m n d : Nat} (e : Int) (hm : m < 9007199254740992) (hn : n < 9007199254740992) (h : d ≤ 9 ∨ 4503599627370496 ≤ m) :
    (rgt (n * 512) d < m * 512 ↔ n < m * 2 ^ d) ∧ (m * 512 < rgt (n * 512) d ↔ m * 2 ^ d < n) ∧
    (n < m * 2 ^ d → nearR (m * 512 - rgt (n * 512) d) e = nearR (m * 2 ^ d - n) (e + 9 - d)) ∧ (m * 2 ^ d < n → nearR (rgt (n * 512) d - m * 512) e = nearR (n - m * 2 ^ d) (e + 9 - d)) := by
  by_cases hd : d ≤ 9
  · rw [rgt_small hd]
    have e0 : m * 512 = m * 2 ^ d * 2 ^ (9 - d) := by rw [Nat.mul_assoc, ← Nat.pow_add, show d + (9 - d) = 9 by omega]
    have hp := Nat.two_pow_pos (9 - d)
    rw [e0, ← Nat.mul_sub_right_distrib, ← Nat.mul_sub_right_distrib]
    refine ⟨Nat.mul_lt_mul_right hp, Nat.mul_lt_mul_right hp, fun _ => ?_, fun _ => ?_⟩
    · rw [← (near_scale true (m * 2 ^ d - n) (e + 9 - d) (9 - d)).2.2]
      exact nearR_of (by omega)
    · rw [← (near_scale true (n - m * 2 ^ d) (e + 9 - d) (9 - d)).2.2]
      exact nearR_of (by omega)
  · obtain ⟨q, r, h1, h2, h3, h4, h5⟩ := far_parts (n := n) (k := d - 9) (by omega) hn
    rw [rgt_big (by omega) hn, h4, h5]
    have hmp : m * 2 ^ d = m * 512 * 2 ^ (d - 9) := by rw [Nat.mul_assoc, show (512 : Nat) = 2 ^ 9 from rfl, ← Nat.pow_add]; exact congrArg _ (congrArg _ (by omega))
    have hbig : n < m * 2 ^ d := by
      rw [hmp]
      have : m * 512 * 1 ≤ m * 512 * 2 ^ (d - 9) := Nat.mul_le_mul_left _ (Nat.two_pow_pos _)
      omega
    have hsm : (if r = 0 then q else 2 * (q / 2) + 1) < m * 512 := by split <;> omega
    refine ⟨⟨fun _ => hbig, fun _ => hsm⟩, ⟨fun h => by omega, fun h => by omega⟩, fun _ => ?_, fun h => by omega⟩
    by_cases hr : r = 0
    · rw [if_pos hr]
      have hT : m * 2 ^ d - n = (m * 512 - q) * 2 ^ (d - 9) := by rw [hmp, h1, hr, Nat.add_zero, ← Nat.mul_sub_right_distrib]
      rw [hT, ← (near_scale true (m * 512 - q) e (d - 9)).2.2]
      exact nearR_of (by omega)
    · rw [if_neg hr]
      have hT : m * 2 ^ d - n = (m * 512 - q - 1) * 2 ^ (d - 9) + (2 ^ (d - 9) - r) := by
        rw [hmp, h1]
        have e3 : m * 512 * 2 ^ (d - 9) = (m * 512 - q - 1) * 2 ^ (d - 9) + (q * 2 ^ (d - 9) + 1 * 2 ^ (d - 9)) := by
          rw [← Nat.add_mul, ← Nat.add_mul]; exact congrArg (· * _) (by omega)
        omega
      have := near_half (N := m * 512 - q - 1) (k := d - 9) (r := 2 ^ (d - 9) - r) e (by rw [show (2 : Nat) ^ 56 = 72057594037927936 from rfl]; omega) (by omega) (by omega)
      rw [hT, show e + 9 - (d : Int) = e - ((d - 9 : Nat) : Int) by omega, this]
      exact congrArg (nearR · e) (by omega)
end Go.Proofs.YthchhkghjfendabGreat.Dx

namespace Go.Proofs.YthchhkghjfendabGreat.Dx
open Go

theorem sg_shift (s : Bool) (m d : Nat) : sg s m * 2 ^ d = sg s (m * 2 ^ d) := by
  unfold sg
  cases s
  · simp
  · simp [Int.neg_mul]
theorem sumV_ge (s t : Bool) (m n : Nat) {i j : Int} (d : Nat) (h : i = j + d) :
    sumV s t m n i j = if s = t then nearV s (m * 2 ^ d + n) j else if n < m * 2 ^ d then nearV s (m * 2 ^ d - n) j else if m * 2 ^ d < n then nearV t (n - m * 2 ^ d) j else 0 := by
  unfold sumV
  have hmin : min i j = j := by omega
  rw [hmin, show (i - j).toNat = d by omega, show (j - j).toNat = 0 by omega, sg_shift, sg_shift, Nat.pow_zero, Nat.mul_one]
  generalize m * 2 ^ d = A
  have hz : ∀ (u : Bool) p, nearV u 0 p = sgn u 0 := nearV_zero
  cases s <;> cases t <;> simp only [sg, if_true, if_false, Bool.false_eq_true, Bool.and_self, Bool.and_false, Bool.and_true, reduceCtorEq, Bool.true_eq_false]
  · rw [show ((A : Int) + n).natAbs = A + n by omega]
    split
    · rfl
    · rw [decide_eq_false (by omega)]
  · by_cases h1 : n < A
    · rw [if_pos h1, if_neg (by omega), decide_eq_false (by omega)]
      exact congrArg (fun x => nearV false x j) (by omega)
    · rw [if_neg h1]
      by_cases h2 : A < n
      · rw [if_pos h2, if_neg (by omega), decide_eq_true (by omega)]
        exact congrArg (fun x => nearV true x j) (by omega)
      · rw [if_neg h2, if_pos (by omega), show ((A : Int) + -(n : Int)).natAbs = 0 by omega, hz]; rfl
  · by_cases h1 : n < A
    · rw [if_pos h1, if_neg (by omega), decide_eq_true (by omega)]
      exact congrArg (fun x => nearV true x j) (by omega)
    · rw [if_neg h1]
      by_cases h2 : A < n
      · rw [if_pos h2, if_neg (by omega), decide_eq_false (by omega)]
        exact congrArg (fun x => nearV false x j) (by omega)
      · rw [if_neg h2, if_pos (by omega), show (-(A : Int) + (n : Int)).natAbs = 0 by omega, hz]; rfl
  · rw [show (-(A : Int) + -(n : Int)).natAbs = A + n by omega]
    split
    · rfl
    · rw [decide_eq_true (by omega)]
theorem special_ok {a b : Nat} (ha : a < 18446744073709551616) (hb : b < 18446744073709551616) (h : ¬ (fPow a ≠ 2047 ∧ fPow b ≠ 2047)) : ∃ f, val 291 [Vu a, Vu b] = some [Vu (addV a b), f] := by
  have k1 := kind_ok a
  have k2 := kind_ok b
  have f1 := finite_ok a
  have f2 := finite_ok b
  unfold addV
  by_cases c1 : nanB a
  · rw [if_pos (.inl c1)]
    rw [(kind_nan a).2 c1] at k1
    refine ⟨Vy 0, val_of tab291 ?_⟩
    simp [tr291, TT.dv, KS.dv, k1, nan0]
  have i1 : ¬ fKind a = 4 := fun h => c1 ((kind_nan a).1 h)
  by_cases c2 : nanB b
  · rw [if_pos (.inr c2)]
    rw [(kind_nan b).2 c2] at k2
    refine ⟨Vy 0, val_of tab291 ?_⟩
    simp [tr291, TT.dv, KS.dv, k1, k2, i1, nan0]
  have i2 : ¬ fKind b = 4 := fun h => c2 ((kind_nan b).1 h)
  rw [if_neg (by simp [c1, c2])]
  by_cases c3 : infB a
  · rw [if_pos c3]
    have e1 : fPow a = 2047 := c3.1
    by_cases c4 : infB b
    · have e2 : fPow b = 2047 := c4.1
      have ea := inf_word ha c3
      have eb := inf_word hb c4
      by_cases c5 : fNeg a = fNeg b
      · rw [if_neg (by simp [c5])]
        have hab : a = b := by rw [ea, eb, c5]
        refine ⟨Vy 0, val_of tab291 ?_⟩
        simp [tr291, TT.dv, KS.dv, k2, i2, f2, e2, hab]
      · rw [if_pos ⟨c4, c5⟩]
        have hab : ¬ a = b := fun h => c5 (by rw [h])
        refine ⟨Vy 16, val_of tab291 ?_⟩
        simp [tr291, TT.dv, KS.dv, k1, k2, i1, i2, f1, f2, e1, e2, hab, nan0]
    · rw [if_neg (by simp [c4])]
      have e2 := fin_of c2 c4
      refine ⟨Vy 0, val_of tab291 ?_⟩
      simp [tr291, TT.dv, KS.dv, k1, k2, i1, i2, f1, f2, e1, e2]
  · rw [if_neg c3]
    have e1 := fin_of c1 c3
    have c4 : infB b := by
      by_cases h4 : infB b
      · exact h4
      · exact absurd ⟨e1, fin_of c2 h4⟩ h
    rw [if_pos c4]
    refine ⟨Vy 0, val_of tab291 ?_⟩
    simp [tr291, TT.dv, KS.dv, k1, k2, i1, i2, f1, f2, e1]
/-- The part of Add behind the turning round. -/
def tail288 : TT Unit := match tr288 with | .call _ _ _ _ (.call _ _ _ _ (.ite _ _ (.call _ _ _ _ (.call _ _ _ _ (.call _ _ _ _ (.call _ _ _ _ (.scope _ (.cons _ t _)))))))) => t | t => t
theorem rgt_le (M d : Nat) : rgt M d ≤ M := by
  unfold rgt
  have := Nat.div_le_self M (2 ^ min d 63)
  split
  · exact this
  · rename_i h5
    have h2 := Nat.div_add_mod M (2 ^ min d 63)
    have h3 : 0 < 2 ^ min d 63 := Nat.two_pow_pos _
    by_cases h4 : 2 ^ min d 63 = 1
    · rw [h4, Nat.mod_one] at h5; exact absurd rfl h5
    · have h6 := Nat.div_le_div_left (show 2 ≤ 2 ^ min d 63 by omega) (by omega) (a := M)
      generalize 2 ^ min d 63 = z at *
      omega
theorem tail_ok {x0 x1 x2 x3 x4 x5 x6 x7 x8 x9 : PV} {s t : Bool} {m n : Nat} {i j : Int} (d : Nat) (h : i = j + d) (hm : m < 9007199254740992) (hn : n < 9007199254740992) (hb : d ≤ 9 ∨ 4503599627370496 ≤ m) (hj : -1074 ≤ j) (hi : i ≤ 972) :
    ∃ f, tail288.dv [x0, x1, x2, x3, x4, x5, x6, x7, x8, x9, Vu m, Vi i, Vu n, Vi j, Vb s, Vb t] = some (.y .ret [Vu (sumV s t m n i j), f]) := by
  rw [sumV_ge s t m n d h]
  have e1 : (B.shl .u64).den (Vu n) (Vu 9) = Vu (n * 512) := by
    rw [shl_uU]; refine congrArg Vu ?_
    show n * 512 % _ = _; omega
  have e2 : (B.shl .u64).den (Vu m) (Vu 9) = Vu (m * 512) := by
    rw [shl_uU]; refine congrArg Vu ?_
    show m * 512 % _ = _; omega
  have e3 : (B.sub .i64).den (Vi i) (Vi j) = Vi d := by rw [sub_i (by omega) (by omega)]; exact congrArg Vi (by omega)
  have e4 : (B.sub .i64).den (Vi i) (Vi 9) = Vi (i - 9) := sub_i (by omega) (by omega)
  have e5 := right_ok (M := n * 512) (d := d) (by omega) (by omega)
  have hr := rgt_le (n * 512) d
  have l1 : -1137 ≤ i - 9 := by omega
  have l2 : i - 9 < 9000000000000 := by omega
  have l3 : i - 9 + 9 - (d : Int) = j := by omega
  have hp := sum_plus (i - 9) hm hn hb
  obtain ⟨q1, q2, q3, q4⟩ := sum_minus (i - 9) hm hn hb
  rw [l3] at hp q3 q4
  generalize rgt (n * 512) d = y at *
  have m64 : m * 512 < 18446744073709551616 := by clear hp q1 q2 q3 q4 e5; omega
  have y64 : y < 18446744073709551616 := by clear hp q1 q2 q3 q4 e5; omega
  have my64 : m * 512 + y < 18446744073709551616 := Nat.lt_of_le_of_lt (Nat.add_le_add (Nat.mul_le_mul_right 512 (Nat.le_of_lt hm)) (Nat.le_trans hr (Nat.mul_le_mul_right 512 (Nat.le_of_lt hn)))) (by decide)
  by_cases hs : s = t
  · rw [if_pos hs]
    subst hs
    have a1 : (m * 512 + y) % 18446744073709551616 = m * 512 + y := Nat.mod_eq_of_lt my64
    obtain ⟨f, hf⟩ := near0 (neg := s) (m := m * 512 + y) (e := i - 9) my64 l1 l2
    have hV : nearV s (m * 512 + y) (i - 9) = nearV s (m * 2 ^ d + n) j := by unfold nearV; rw [hp]
    rw [hV] at hf
    refine ⟨f, ?_⟩
    simp [-shl_u_lit, tail288, tr288, TT.dv, e1, e2, e3, e4, e5, a1, hf]
  · rw [if_neg hs]
    by_cases c1 : n < m * 2 ^ d
    · rw [if_pos c1]
      have c1' := q1.2 c1
      have a1 : (B.sub .u64).den (Vu (m * 512)) (Vu y) = Vu (m * 512 - y) := sub_u (Nat.le_of_lt c1') m64
      obtain ⟨f, hf⟩ := near0 (neg := s) (m := m * 512 - y) (e := i - 9) (Nat.lt_of_le_of_lt (Nat.sub_le _ _) m64) l1 l2
      have hV : nearV s (m * 512 - y) (i - 9) = nearV s (m * 2 ^ d - n) j := by unfold nearV; rw [q3 c1]
      rw [hV] at hf
      refine ⟨f, ?_⟩
      simp [-shl_u_lit, tail288, tr288, TT.dv, e1, e2, e3, e4, e5, hs, c1', a1, hf]
    · rw [if_neg c1]
      have c1' : ¬ y < m * 512 := fun h => c1 (q1.1 h)
      by_cases c2 : m * 2 ^ d < n
      · rw [if_pos c2]
        have c2' := q2.2 c2
        have a1 : (B.sub .u64).den (Vu y) (Vu (m * 512)) = Vu (y - m * 512) := sub_u (Nat.le_of_lt c2') y64
        obtain ⟨f, hf⟩ := near0 (neg := t) (m := y - m * 512) (e := i - 9) (Nat.lt_of_le_of_lt (Nat.sub_le _ _) y64) l1 l2
        have hV : nearV t (y - m * 512) (i - 9) = nearV t (n - m * 2 ^ d) j := by unfold nearV; rw [q4 c2]
        rw [hV] at hf
        refine ⟨f, ?_⟩
        simp [-shl_u_lit, tail288, tr288, TT.dv, e1, e2, e3, e4, e5, hs, c1', c2', a1, hf]
      · rw [if_neg c2]
        have c2' : ¬ m * 512 < y := fun h => c2 (q2.1 h)
        refine ⟨Vy 0, ?_⟩
        simp [-shl_u_lit, tail288, tr288, TT.dv, e1, e2, e3, e4, e5, hs, c1', c2']
theorem sadd_ok {a b : Nat} (ha : a < 18446744073709551616) (hb : b < 18446744073709551616) : ∃ f, val 288 [Vu a, Vu b] = some [Vu (addV a b), f] := by
  have f1 := finite_ok a
  have f2 := finite_ok b
  by_cases hf : fPow a ≠ 2047 ∧ fPow b ≠ 2047
  · obtain ⟨g1, g2⟩ := hf
    have n1 : ¬ nanB a := by unfold nanB; omega
    have n2 : ¬ nanB b := by unfold nanB; omega
    have i1 : ¬ infB a := by unfold infB; omega
    have i2 : ¬ infB b := by unfold infB; omega
    have p1 := parts_ok a
    have p2 := parts_ok b
    have s1 := sign_ok a
    have s2 := sign_ok b
    have hV : addV a b = sumV (fNeg a) (fNeg b) (fMag a) (fMag b) (fPl a) (fPl b) := by unfold addV; rw [if_neg (by simp [n1, n2]), if_neg i1, if_neg i2]
    rw [hV]
    obtain ⟨b1, b2⟩ := fPl_bd a
    obtain ⟨b3, b4⟩ := fPl_bd b
    have big : ∀ c, -1074 < fPl c → 4503599627370496 ≤ fMag c := fun c hc => by
      unfold fPl at hc; unfold fMag
      by_cases h0 : fPow c = 0
      · rw [if_pos h0] at hc; omega
      · rw [if_neg h0]; omega
    by_cases hlt : fPl a < fPl b
    · rw [sumV_comm]
      obtain ⟨f, h⟩ := tail_ok (x0 := Vu a) (x1 := Vu b) (x2 := Vb true) (x3 := Vb true) (x4 := Vu (fMag a)) (x5 := Vi (fPl a)) (x6 := Vu (fMag b)) (x7 := Vi (fPl b)) (x8 := Vb (fNeg a)) (x9 := Vb (fNeg b))
        (s := fNeg b) (t := fNeg a) (m := fMag b) (n := fMag a) (i := fPl b) (j := fPl a) (fPl b - fPl a).toNat (by omega) (fMag_lt b) (fMag_lt a) (.inr (big b (by omega))) b1 b4
      refine ⟨f, val_of tab288 (Eq.trans ?_ h)⟩
      simp only [tail288]
      simp [-shl_u_lit, tr288, TT.dv, KS.dv, f1, f2, g1, g2, p1, p2, s1, s2, hlt]
    · obtain ⟨f, h⟩ := tail_ok (x0 := Vu a) (x1 := Vu b) (x2 := Vb true) (x3 := Vb true) (x4 := Vu (fMag a)) (x5 := Vi (fPl a)) (x6 := Vu (fMag b)) (x7 := Vi (fPl b)) (x8 := Vb (fNeg a)) (x9 := Vb (fNeg b))
        (s := fNeg a) (t := fNeg b) (m := fMag a) (n := fMag b) (i := fPl a) (j := fPl b) (fPl a - fPl b).toNat (by omega) (fMag_lt a) (fMag_lt b) (by
          by_cases h : -1074 < fPl a
          · exact .inr (big a h)
          · left; omega) b3 b2
      refine ⟨f, val_of tab288 (Eq.trans ?_ h)⟩
      simp only [tail288]
      simp [-shl_u_lit, tr288, TT.dv, KS.dv, f1, f2, g1, g2, p1, p2, s1, s2, hlt]
  · obtain ⟨f, h⟩ := special_ok ha hb hf
    refine ⟨f, val_of tab288 ?_⟩
    by_cases g1 : fPow a = 2047
    · simp [tr288, TT.dv, KS.dv, f1, f2, g1, h]
    · have g2 : fPow b = 2047 := by omega
      simp [tr288, TT.dv, KS.dv, f1, f2, g1, g2, h]
end Go.Proofs.YthchhkghjfendabGreat.Dx

namespace Go.Proofs.YthchhkghjfendabGreat.Dx
open Go

theorem minus_neg {b : Nat} (hb : b < 18446744073709551616) : fNeg (fMinus b) = !fNeg b ∧ fPow (fMinus b) = fPow b ∧ fFrac (fMinus b) = fFrac b ∧ fMinus b < 18446744073709551616 := by
  unfold fMinus fNeg fPow fFrac
  by_cases h : b < 9223372036854775808
  · rw [if_pos h]
    refine ⟨?_, by omega, by omega, by omega⟩
    rw [show (b + 9223372036854775808) / 9223372036854775808 = 1 by omega, show b / 9223372036854775808 = 0 by omega]; rfl
  · rw [if_neg h]
    refine ⟨?_, by omega, by omega, by omega⟩
    rw [show (b - 9223372036854775808) / 9223372036854775808 = 0 by omega, show b / 9223372036854775808 = 1 by omega]; rfl
theorem sub_add {a b : Nat} (hb : b < 18446744073709551616) : Ieee.double.sub a b = Ieee.double.add a (fMinus b) := by
  obtain ⟨m1, m2, m3, m4⟩ := minus_neg hb
  unfold Ieee.Format.sub Ieee.Format.add
  rw [read_ok b, read_ok (fMinus b), neg_bit hb, neg_bit m4, m1, m2, m3, show fMag (fMinus b) = fMag b by unfold fMag; rw [m2, m3], show fPl (fMinus b) = fPl b by unfold fPl; rw [m2]]
  by_cases h1 : fPow b = 2047
  · rw [if_pos h1, if_pos h1]
    by_cases h2 : fFrac b = 0
    · rw [if_pos h2, if_pos h2]; rfl
    · rw [if_neg h2, if_neg h2]; cases Ieee.double.read a <;> rfl
  · rw [if_neg h1, if_neg h1]; rfl
def subV (a b : Nat) : Nat := addV a (fMinus b)
theorem subB_ok {a b : Nat} (ha : a < 18446744073709551616) (hb : b < 18446744073709551616) : B.fsub.den (Vf (cnF a)) (Vf (cnF b)) = Vf (subV a b) := by
  have h := addB_ok ha (minus_neg hb).2.2.2
  have e1 : B.fadd.den (Vf (cnF a)) (Vf (cnF (fMinus b))) = fv (Ieee.double.add (cnF a) (cnF (fMinus b))) := rfl
  have e2 : B.fsub.den (Vf (cnF a)) (Vf (cnF b)) = fv (Ieee.double.sub (cnF a) (cnF b)) := rfl
  rw [e1, add_cn] at h
  rw [e2, sub_cn, sub_add hb, h]; rfl
theorem subV_lt {a b : Nat} (ha : a < 18446744073709551616) (hb : b < 18446744073709551616) : subV a b < 18446744073709551616 := addV_lt ha (minus_neg hb).2.2.2
theorem subV_nan (a b : Nat) : cnF (subV a b) = subV a b := addV_nan _ _

theorem F9_ok (b : Nat) : val 154 [Vu b] = some [Vf (cnF b)] := val_of tab154 (by simp [tr154, TT.dv, b2f_ok])
theorem B9_ok {b : Nat} (hb : b < 18446744073709551616) (hc : cnF b = b) : val 150 [Vf b] = some [Vu b] := by
  refine val_of tab150 ?_
  have h := canon_ok hb
  rw [hc] at h
  simp [tr150, TT.dv, f2b_f, h]
section
variable {a b : Nat} (ha : a < 18446744073709551616) (hb : b < 18446744073709551616)
include ha hb
theorem add9_ok : val 148 [Vu a, Vu b] = some [Vu (addV a b)] := by
  refine val_of tab148 ?_
  simp [tr148, TT.dv, F9_ok, addB_ok ha hb, B9_ok (addV_lt ha hb) (addV_nan a b)]
theorem sub9_ok : val 163 [Vu a, Vu b] = some [Vu (subV a b)] := by
  refine val_of tab163 ?_
  simp [tr163, TT.dv, F9_ok, subB_ok ha hb, B9_ok (subV_lt ha hb) (subV_nan a b)]
theorem mul9_ok : val 156 [Vu a, Vu b] = some [Vu (mulV a b)] := by
  refine val_of tab156 ?_
  simp [tr156, TT.dv, F9_ok, mulB_ok ha hb, B9_ok mulV_lt (mulV_nan a b)]
theorem div9_ok : val 152 [Vu a, Vu b] = some [Vu (divV a b)] := by
  refine val_of tab152 ?_
  simp [tr152, TT.dv, F9_ok, divB_ok ha hb, B9_ok divV_lt (divV_nan a b)]
theorem vadd_ok : val 306 [Vu a, Vu b] = some [Vu (addV a b)] := by
  refine val_of tab306 ?_
  obtain ⟨f, h⟩ := sadd_ok ha hb
  simp [tr306, TT.dv, h]
theorem vsub_ok : val 317 [Vu a, Vu b] = some [Vu (subV a b)] := by
  refine val_of tab317 ?_
  obtain ⟨f, h⟩ := sadd_ok ha (minus_neg hb).2.2.2
  have h2 : val 289 [Vu a, Vu b] = some [Vu (subV a b), f] := by
    refine val_of tab289 ?_
    simp [tr289, TT.dv, minus_ok hb, h, subV]
  simp [tr317, TT.dv, h2]
theorem vmul_ok : val 313 [Vu a, Vu b] = some [Vu (mulV a b)] := by
  refine val_of tab313 ?_
  obtain ⟨f, h⟩ := times_ok ha hb
  simp [tr313, TT.dv, h]
theorem vdiv_ok : val 310 [Vu a, Vu b] = some [Vu (divV a b)] := by
  refine val_of tab310 ?_
  obtain ⟨f, h⟩ := div_ok ha hb
  simp [tr310, TT.dv, h]
end
section
variable {b : Nat} (hb : b < 18446744073709551616)
include hb
theorem sqrt9_ok : val 161 [Vu b] = some [Vu (sqrtV b)] := by
  refine val_of tab161 ?_
  have h : val 328 [Vf (cnF b)] = some [Vf (sqrtV b)] := val_of tab328 (by simp [tr328, TT.dv, fsqrt_ok hb])
  simp [tr161, TT.dv, F9_ok, h, B9_ok (sqrtV_lt hb) cnF_sqrt]
theorem vsqrt_ok : val 316 [Vu b] = some [Vu (sqrtV b)] := by
  refine val_of tab316 ?_
  simp [tr316, TT.dv, sqrt_ok hb]
theorem shift9_ok {k : Int} (hk1 : -4611686018427387904 ≤ k) (hk2 : k ≤ 4611686018427387904) : val 160 [Vu b, Vi k] = some [Vu (scaleV b k)] := by
  refine val_of tab160 ?_
  simp [tr160, TT.dv, F9_ok, ldexp_ok hb hk1 hk2, B9_ok (scaleV_lt hb k) (scaleV_nan b k)]
end
theorem vshift_ok (b : Nat) (k : Int) : val 315 [Vu b, Vi k] = some [Vu (scaleV b k)] := by
  refine val_of tab315 ?_
  simp [tr315, TT.dv, scale_ok]
end Go.Proofs.YthchhkghjfendabGreat.Dx

namespace Go.Proofs.YthchhkghjfendabGreat.Dx
open Go

def Words (x : List Nat) : Prop := ∀ a ∈ x, a < 18446744073709551616
def el (x : List Nat) (i : Nat) : Nat := x.getD i 0
def Vl (x : List Nat) : PV := .l (x.map Vu)
@[simp] theorem len_V (x : List Nat) : U.len.den (Vl x) = Vi x.length := by simp [Vl]
theorem get_V {x : List Nat} {i : Nat} (h : i < x.length) : B.get.den (Vl x) (Vi i) = Vu (el x i) := by
  rw [Vl, get_l _ rfl]
  simp [el, List.getD_eq_getElem?_getD, h]
@[simp] theorem nil_V : PV.l [] = Vl [] := rfl
@[simp] theorem wl_nil_V : wl [] = Vl [] := rfl
theorem app_V (x : List Nat) (a : Nat) : B.app.den (Vl x) (B.cons.den (Vu a) (Vl [])) = Vl (x ++ [a]) := by
  rw [Vl, Vl, List.map_nil, cons_l, app_l]; simp [Vl]
theorem Words.el {x : List Nat} (h : Words x) (i : Nat) : el x i < 18446744073709551616 := by
  rw [Dx.el, List.getD_eq_getElem?_getD]
  cases hx : x[i]? with
  | none => simp
  | some a => exact h a (List.mem_of_getElem? hx)

theorem pv_u64 {p : PV} (h : PvT (.int .u64) p) : ∃ n : Nat, p = Vu n ∧ n < 18446744073709551616 := by
  obtain ⟨a, rfl, hw⟩ := h
  obtain ⟨n, rfl, hn⟩ := wf_u64 hw
  exact ⟨n, rfl, hn⟩
theorem pv_i64 {p : PV} (h : PvT (.int .i64) p) : ∃ x : Int, p = Vi x ∧ -9223372036854775808 ≤ x ∧ x < 9223372036854775808 := by
  obtain ⟨a, rfl, hw⟩ := h
  exact ⟨a, rfl, wf_i64 hw⟩
theorem pv_bool {p : PV} (h : PvT .bool p) : ∃ b : Bool, p = Vb b := h
theorem pv_lu {p : PV} (h : PvT (.sl .u64) p) : ∃ x : List Nat, p = Vl x ∧ Words x ∧ x.length ≤ 17592186043904 := by
  obtain ⟨zs, rfl, hw, hl⟩ := h
  refine ⟨zs.map Int.toNat, ?_, ?_, ?_⟩
  · unfold Vl
    rw [List.map_map]
    refine congrArg PV.l (List.map_congr_left fun z hz => ?_)
    obtain ⟨n, rfl, _⟩ := wf_u64 (hw z hz)
    rfl
  · intro a ha
    obtain ⟨z, hz, rfl⟩ := List.mem_map.1 ha
    obtain ⟨n, rfl, hn⟩ := wf_u64 (hw z hz)
    simpa using hn
  · rw [List.length_map]
    have h1 : zs.length * 8 ≤ reachBytes := hl
    have h2 : reachBytes = 140737488351232 := rfl
    rw [h2] at h1
    omega
def dotR (x y : List Nat) : Nat → Nat → Nat → Nat
  | 0, _, s => s
  | n + 1, i, s => dotR x y n (i + 1) (addV s (mulV (el x i) (el y i)))
theorem dotR_lt {x y : List Nat} : ∀ (n : Nat) {i s : Nat}, s < 18446744073709551616 → dotR x y n i s < 18446744073709551616
  | 0, _, _, h => h
  | n + 1, i, s, h => dotR_lt n (addV_lt h mulV_lt)
section
variable {x y : List Nat} (hx : Words x) (hy : Words y) (hl : x.length = y.length) (h64 : x.length < 9000000000000000000)
include hx hy hl h64
theorem dot_loop {x2 : PV} : ∀ (n : Nat) {i s : Nat}, i + n = x.length → s < 18446744073709551616 →
    rounds (fun vs => lo311_1.dv (Vl x :: Vl y :: x2 :: vs)) [Vu s, Vi i] = some (.y (.ext 0) [Vu (dotR x y n i s)]) := by
  intro n
  induction n with
  | zero =>
    intro i s hi hs
    refine rounds_exit ?_ (by simp)
    simp [lo311_1, TT.dv, show ¬ i < x.length by omega, dotR]
  | succ n ih =>
    intro i s hi hs
    refine Eq.trans (rounds_cont ?_) (ih (i := i + 1) (s := addV s (mulV (el x i) (el y i))) (by omega) (addV_lt hs mulV_lt))
    have e1 : (B.add .i64).den (Vi i) (Vi 1) = Vi (i + 1) := add_i (by omega) (by omega)
    have g1 := get_V (x := x) (i := i) (by omega)
    have g2 := get_V (x := y) (i := i) (by omega)
    have c1 := vmul_ok (hx.el i) (hy.el i)
    have c2 := vadd_ok hs (mulV_lt (a := el x i) (b := el y i))
    simp [lo311_1, TT.dv, show i < x.length by omega, show i < y.length by omega, e1, g1, g2, c1, c2]
theorem dot9_loop : ∀ (n : Nat) {i s : Nat}, i + n = x.length → s < 18446744073709551616 →
    rounds (fun vs => lo153_1.dv (Vl x :: Vl y :: vs)) [Vu s, Vi i] = some (.y (.ext 0) [Vu (dotR x y n i s)]) := by
  intro n
  induction n with
  | zero =>
    intro i s hi hs
    refine rounds_exit ?_ (by simp)
    simp [lo153_1, TT.dv, show ¬ i < x.length by omega, dotR]
  | succ n ih =>
    intro i s hi hs
    refine Eq.trans (rounds_cont ?_) (ih (i := i + 1) (s := addV s (mulV (el x i) (el y i))) (by omega) (addV_lt hs mulV_lt))
    have e1 : (B.add .i64).den (Vi i) (Vi 1) = Vi (i + 1) := add_i (by omega) (by omega)
    have g1 := get_V (x := x) (i := i) (by omega)
    have g2 := get_V (x := y) (i := i) (by omega)
    have c1 := mul9_ok (hx.el i) (hy.el i)
    have c2 := add9_ok hs (mulV_lt (a := el x i) (b := el y i))
    simp [lo153_1, TT.dv, show i < x.length by omega, show i < y.length by omega, e1, g1, g2, c1, c2]
end
theorem fit_ok (x y : List Nat) : val 321 [Vl x, Vl y] = some [Vb (decide (x.length = y.length ∧ x.length ≤ 64))] := by
  refine val_of tab321 ?_
  have e1 : decide ((x.length : Int) = y.length) = decide (x.length = y.length) := decide_eq_decide.2 (by omega)
  have e2 : decide ((x.length : Int) ≤ 64) = decide (x.length ≤ 64) := decide_eq_decide.2 (by omega)
  simp [tr321, TT.dv, e1, e2]
def dotV (x y : List Nat) : Nat := dotR x y x.length 0 0
theorem dot_ok {x y : List Nat} (hx : Words x) (hy : Words y) : val 311 [Vl x, Vl y] = some (if x.length = y.length ∧ x.length ≤ 64 then [Vu (dotV x y), Vi 0] else [Vu 0, Vi 3]) := by
  refine val_of tab311 ?_
  have h1 := fit_ok x y
  by_cases h : x.length = y.length ∧ x.length ≤ 64
  · rw [if_pos h]
    rw [decide_eq_true h] at h1
    have hlp := dot_loop (x2 := Vb true) hx hy h.1 (by omega) x.length (i := 0) (s := 0) (by omega) (by omega)
    rw [show ((0 : Nat) : Int) = 0 from rfl] at hlp
    simp [tr311, TT.dv, KS.dv, h1, hlp, dotV]
  · rw [if_neg h]
    rw [decide_eq_false h] at h1
    simp [tr311, TT.dv, h1]
end Go.Proofs.YthchhkghjfendabGreat.Dx

namespace Go.Proofs.YthchhkghjfendabGreat.Dx
open Go

theorem max_u (a b : Nat) : (B.max .u64).den (Vu a) (Vu b) = Vu (max a b) := by
  simp only [B.den, Vu, PV.int, PV.v.injEq, Value.int.injEq, true_and]; by_cases h : (a : Int) < b <;> simp only [h, if_true, if_false] <;> omega
def absV (b : Nat) : Nat := b % 9223372036854775808
theorem absV_lt (b : Nat) : absV b < 9223372036854775808 := by unfold absV; omega
theorem nanB_absV (b : Nat) : nanB (absV b) ↔ nanB b := nanB_abs b
def bigR (x : List Nat) : Nat → Nat → Nat → Nat
  | 0, _, m => m
  | n + 1, i, m => if nanB (el x i) then nan0 else bigR x n (i + 1) (max m (absV (el x i)))
theorem maxB_nan (a : Nat) : maxB nan0 a = nan0 := by unfold maxB ordOk; simp [nanB_nan0]
theorem maxB_nan2 {m a : Nat} (h : nanB a) : maxB m (absV a) = nan0 := by unfold maxB ordOk; simp [(nanB_absV a).2 h]
theorem rk_pos {m : Nat} (h : m < 9223372036854775808) : rk m = m := by
  unfold rk fNeg sg
  rw [if_neg (by simp; omega), Nat.mod_eq_of_lt h]
theorem maxB_abs {m a : Nat} (hm : m < 9223372036854775808) (hn : ¬ nanB m) (h : ¬ nanB a) : maxB m (absV a) = max m (absV a) := by
  have ho : ordOk m (absV a) = true := by unfold ordOk; simp [hn]; exact fun hh => h ((nanB_absV a).1 hh)
  unfold maxB
  rw [if_pos ho]
  have : ordI m (absV a) < 0 ↔ m < absV a := by
    rw [ordI_lt, rk_pos hm, rk_pos (absV_lt a)]
    constructor
    · intro h; omega
    · intro h; exact ⟨ho, by omega⟩
  by_cases hc : m < absV a
  · rw [if_pos (this.2 hc)]; omega
  · rw [if_neg (fun h => hc (this.1 h))]; omega
theorem nanB_max {m a : Nat} (hn : ¬ nanB m) (h : ¬ nanB a) : ¬ nanB (max m a) := by
  rcases (show max m a = m ∨ max m a = a by omega) with h1 | h1 <;> rw [h1] <;> assumption
section
variable {x : List Nat} (hx : Words x) (h64 : x.length < 9000000000000000000)
include hx h64
/-- The loop over the greatest: at a NaN it leaves. -/
theorem big_loop {x1 : PV} : ∀ (n : Nat) {i m : Nat}, i + n = x.length → m < 9223372036854775808 → ¬ nanB m →
    (∃ r, rounds (fun vs => lo309_1.dv (Vl x :: vs)) [x1, Vu m, Vi i] = some (.y .ret [r]) ∧ bigR x n i m = nan0) ∨
    (rounds (fun vs => lo309_1.dv (Vl x :: vs)) [x1, Vu m, Vi i] = some (.y (.ext 0) [x1, Vu (bigR x n i m)])) := by
  intro n
  induction n with
  | zero =>
    intro i m hi hm hn
    refine .inr (rounds_exit ?_ (by simp))
    simp [lo309_1, TT.dv, show ¬ i < x.length by omega, bigR]
  | succ n ih =>
    intro i m hi hm hn
    have g1 := get_V (x := x) (i := i) (by omega)
    have k1 := kind_ok (el x i)
    unfold bigR
    by_cases c : nanB (el x i)
    · rw [if_pos c]
      rw [(kind_nan _).2 c] at k1
      refine .inl ⟨Vu m, rounds_exit ?_ (by simp), rfl⟩
      simp [lo309_1, TT.dv, show i < x.length by omega, g1, k1]
    · rw [if_neg c]
      have c' : ¬ fKind (el x i) = 4 := fun h => c ((kind_nan _).1 h)
      have e1 : (B.add .i64).den (Vi i) (Vi 1) = Vi (i + 1) := add_i (by omega) (by omega)
      have a1 := abs_ok (el x i)
      have hr : rounds (fun vs => lo309_1.dv (Vl x :: vs)) [x1, Vu m, Vi i] = rounds (fun vs => lo309_1.dv (Vl x :: vs)) [x1, Vu (max m (absV (el x i))), Vi ((i + 1 : Nat) : Int)] := by
        refine rounds_cont ?_
        simp [lo309_1, TT.dv, show i < x.length by omega, g1, k1, c', a1, e1, max_u, absV]
      have := absV_lt (el x i)
      rw [hr]
      exact ih (i := i + 1) (by omega) (by omega) (nanB_max hn (fun h => c ((nanB_absV _).1 h)))
theorem big9_nan : ∀ (n : Nat) {i : Nat}, i + n = x.length →
    rounds (fun vs => lo151_1.dv (Vl x :: vs)) [Vu nan0, Vi i] = some (.y (.ext 0) [Vu nan0]) := by
  intro n
  induction n with
  | zero =>
    intro i hi
    refine rounds_exit ?_ (by simp)
    simp [lo151_1, TT.dv, show ¬ i < x.length by omega]
  | succ n ih =>
    intro i hi
    refine Eq.trans (rounds_cont ?_) (ih (i := i + 1) (by omega))
    have g1 := get_V (x := x) (i := i) (by omega)
    have e1 : (B.add .i64).den (Vi i) (Vi 1) = Vi (i + 1) := add_i (by omega) (by omega)
    have a1 := abs8_ok (hx.el i)
    have m1 := max8_ok (a := nan0) (b := el x i % 9223372036854775808) (by decide) (by omega)
    rw [maxB_nan] at m1
    simp [lo151_1, TT.dv, show i < x.length by omega, g1, a1, m1, e1]
theorem big9_loop : ∀ (n : Nat) {i m : Nat}, i + n = x.length → m < 9223372036854775808 → ¬ nanB m →
    rounds (fun vs => lo151_1.dv (Vl x :: vs)) [Vu m, Vi i] = some (.y (.ext 0) [Vu (bigR x n i m)]) := by
  intro n
  induction n with
  | zero =>
    intro i m hi hm hn
    refine rounds_exit ?_ (by simp)
    simp [lo151_1, TT.dv, show ¬ i < x.length by omega, bigR]
  | succ n ih =>
    intro i m hi hm hn
    have g1 := get_V (x := x) (i := i) (by omega)
    have e1 : (B.add .i64).den (Vi i) (Vi 1) = Vi (i + 1) := add_i (by omega) (by omega)
    have a1 := abs8_ok (hx.el i)
    have m1 := max8_ok (a := m) (b := el x i % 9223372036854775808) (by omega) (by omega)
    have hr : rounds (fun vs => lo151_1.dv (Vl x :: vs)) [Vu m, Vi i] = rounds (fun vs => lo151_1.dv (Vl x :: vs)) [Vu (maxB m (absV (el x i))), Vi ((i + 1 : Nat) : Int)] := by
      refine rounds_cont ?_
      simp [lo151_1, TT.dv, show i < x.length by omega, g1, a1, m1, e1, absV]
    rw [hr]
    unfold bigR
    by_cases c : nanB (el x i)
    · rw [if_pos c, maxB_nan2 c]
      exact big9_nan hx h64 n (by omega)
    · rw [if_neg c, maxB_abs hm hn c]
      have := absV_lt (el x i)
      exact ih (i := i + 1) (by omega) (by omega) (nanB_max hn (fun h => c ((nanB_absV _).1 h)))
end
theorem bigR_lt {x : List Nat} : ∀ (n : Nat) {i m : Nat}, m < 9223372036854775808 → bigR x n i m < 9223372036854775808
  | 0, _, _, h => h
  | n + 1, i, m, h => by
    unfold bigR
    split
    · decide
    · exact bigR_lt n (by have := absV_lt (el x i); omega)
def bigV (x : List Nat) : Nat := bigR x x.length 0 0
theorem bigV_lt (x : List Nat) : bigV x < 9223372036854775808 := bigR_lt _ (by decide)
section
variable {x : List Nat} (hx : Words x) (h64 : x.length < 9000000000000000000)
include hx h64
theorem biggest_ok : val 309 [Vl x] = some [Vu (bigV x)] := by
  refine val_of tab309 ?_
  have h := big_loop hx h64 (x1 := Vu 0) x.length (i := 0) (m := 0) (by omega) (by decide) (by decide)
  rw [show ((0 : Nat) : Int) = 0 from rfl] at h
  unfold bigV
  rcases h with ⟨r, h1, h2⟩ | h1
  · rw [h2]; simp [tr309, TT.dv, KS.dv, h1, nan0]
  · simp [tr309, TT.dv, KS.dv, h1]
theorem biggest9_ok : val 151 [Vl x] = some [Vu (bigV x)] := by
  refine val_of tab151 ?_
  have h := big9_loop hx h64 x.length (i := 0) (m := 0) (by omega) (by decide) (by decide)
  rw [show ((0 : Nat) : Int) = 0 from rfl] at h
  unfold bigV
  simp [tr151, TT.dv, KS.dv, h]
end

def finR (x : List Nat) : Nat → Nat → Bool
  | 0, _ => true
  | n + 1, i => if fPow (el x i) = 2047 then false else finR x n (i + 1)
def finV (x : List Nat) : Bool := finR x x.length 0
section
variable {x : List Nat} (hx : Words x) (h64 : x.length < 9000000000000000000)
include hx h64
theorem fin_loop {x1 : PV} : ∀ (n : Nat) {i : Nat}, i + n = x.length →
    rounds (fun vs => lo312_1.dv (Vl x :: vs)) [x1, Vi i] = some (if finR x n i then .y (.ext 0) [x1] else .y .ret []) := by
  intro n
  induction n with
  | zero =>
    intro i hi
    refine rounds_exit ?_ (by simp [finR])
    simp [lo312_1, TT.dv, show ¬ i < x.length by omega, finR]
  | succ n ih =>
    intro i hi
    have g1 := get_V (x := x) (i := i) (by omega)
    have f1 := finite_ok (el x i)
    unfold finR
    by_cases c : fPow (el x i) = 2047
    · rw [if_pos c]
      refine rounds_exit ?_ (by simp)
      simp [lo312_1, TT.dv, show i < x.length by omega, g1, f1, c]
    · rw [if_neg c]
      have e1 : (B.add .i64).den (Vi i) (Vi 1) = Vi (i + 1) := add_i (by omega) (by omega)
      refine Eq.trans (rounds_cont ?_) (ih (i := i + 1) (by omega))
      simp [lo312_1, TT.dv, show i < x.length by omega, g1, f1, c, e1]
theorem fin9_loop {x1 : PV} : ∀ (n : Nat) {i : Nat}, i + n = x.length →
    rounds (fun vs => lo155_1.dv (Vl x :: vs)) [x1, Vi i] = some (if finR x n i then .y (.ext 0) [x1] else .y .ret []) := by
  intro n
  induction n with
  | zero =>
    intro i hi
    refine rounds_exit ?_ (by simp [finR])
    simp [lo155_1, TT.dv, show ¬ i < x.length by omega, finR]
  | succ n ih =>
    intro i hi
    have g1 := get_V (x := x) (i := i) (by omega)
    have f1 := finite4_ok (hx.el i)
    have hp := fPow_lt (el x i)
    unfold finR
    by_cases c : fPow (el x i) = 2047
    · rw [if_pos c]
      refine rounds_exit ?_ (by simp)
      simp [lo155_1, TT.dv, show i < x.length by omega, g1, f1, c]
    · rw [if_neg c]
      have e1 : (B.add .i64).den (Vi i) (Vi 1) = Vi (i + 1) := add_i (by omega) (by omega)
      refine Eq.trans (rounds_cont ?_) (ih (i := i + 1) (by omega))
      simp [lo155_1, TT.dv, show i < x.length by omega, g1, f1, show fPow (el x i) < 2047 by omega, e1]
theorem finite_v_ok : val 312 [Vl x] = some [Vb (finV x)] := by
  refine val_of tab312 ?_
  have h := fin_loop hx h64 (x1 := Vb false) x.length (i := 0) (by omega)
  rw [show ((0 : Nat) : Int) = 0 from rfl] at h
  unfold finV
  cases hc : finR x x.length 0 <;> rw [hc] at h <;> simp [tr312, TT.dv, KS.dv, h]
theorem finite_9_ok : val 155 [Vl x] = some [Vb (finV x)] := by
  refine val_of tab155 ?_
  have h := fin9_loop hx h64 (x1 := Vb false) x.length (i := 0) (by omega)
  rw [show ((0 : Nat) : Int) = 0 from rfl] at h
  unfold finV
  cases hc : finR x x.length 0 <;> rw [hc] at h <;> simp [tr155, TT.dv, KS.dv, h]
end

def sqrR (x : List Nat) (k : Int) : Nat → Nat → Nat → Nat
  | 0, _, s => s
  | n + 1, i, s => sqrR x k n (i + 1) (addV s (mulV (scaleV (el x i) (-k)) (scaleV (el x i) (-k))))
theorem sqrR_lt {x : List Nat} {k : Int} : ∀ (n : Nat) {i s : Nat}, s < 18446744073709551616 → sqrR x k n i s < 18446744073709551616
  | 0, _, _, h => h
  | n + 1, i, s, h => sqrR_lt n (addV_lt h mulV_lt)
def sqrV (x : List Nat) (k : Int) : Nat := sqrR x k x.length 0 0
def normV (x : List Nat) : Nat := if bigV x = 0 ∨ fPow (bigV x) = 2047 then bigV x else scaleV (sqrtV (sqrV x (expB (bigV x)))) (expB (bigV x))
theorem expB_bd (b : Nat) : -1100 ≤ expB b ∧ expB b ≤ 1100 := by
  unfold expB
  split
  · omega
  · rename_i h
    have h1 := fPl_bd b
    have h2 : bl (fMag b) ≤ 53 := bl_lt.2 (fMag_lt b)
    have h3 : fPow b ≠ 2047 := by omega
    unfold fPl at *
    have h4 := fPow_lt b
    split <;> rename_i h5 <;> simp only [h5, if_true, if_false] at h1 <;> omega
section
variable {x : List Nat} (hx : Words x) (h64 : x.length < 9000000000000000000) {k : Int} (hk : -1100 ≤ k ∧ k ≤ 1100)
include hx h64 hk
theorem norm_loop {x1 x2 : PV} : ∀ (n : Nat) {i s : Nat}, i + n = x.length → s < 18446744073709551616 →
    rounds (fun vs => lo314_1.dv (Vl x :: x1 :: x2 :: Vi k :: vs)) [Vu s, Vi i] = some (.y (.ext 0) [Vu (sqrR x k n i s)]) := by
  intro n
  induction n with
  | zero =>
    intro i s hi hs
    refine rounds_exit ?_ (by simp)
    simp [lo314_1, TT.dv, show ¬ i < x.length by omega, sqrR]
  | succ n ih =>
    intro i s hi hs
    refine Eq.trans (rounds_cont ?_) (ih (i := i + 1) (s := addV s (mulV (scaleV (el x i) (-k)) (scaleV (el x i) (-k)))) (by omega) (addV_lt hs mulV_lt))
    have e1 : (B.add .i64).den (Vi i) (Vi 1) = Vi (i + 1) := add_i (by omega) (by omega)
    have e2 : (U.neg .i64).den (Vi k) = Vi (-k) := neg_i (by omega) (by omega)
    have g1 := get_V (x := x) (i := i) (by omega)
    have c0 := vshift_ok (el x i) (-k)
    have ht := scaleV_lt (hx.el i) (-k)
    have c1 := vmul_ok ht ht
    have c2 := vadd_ok hs (mulV_lt (a := scaleV (el x i) (-k)) (b := scaleV (el x i) (-k)))
    simp [lo314_1, TT.dv, show i < x.length by omega, e1, e2, g1, c0, c1, c2]
theorem norm9_loop {x1 x2 : PV} : ∀ (n : Nat) {i s : Nat}, i + n = x.length → s < 18446744073709551616 →
    rounds (fun vs => lo158_1.dv (Vl x :: x1 :: x2 :: Vi k :: vs)) [Vu s, Vi i] = some (.y (.ext 0) [Vu (sqrR x k n i s)]) := by
  intro n
  induction n with
  | zero =>
    intro i s hi hs
    refine rounds_exit ?_ (by simp)
    simp [lo158_1, TT.dv, show ¬ i < x.length by omega, sqrR]
  | succ n ih =>
    intro i s hi hs
    refine Eq.trans (rounds_cont ?_) (ih (i := i + 1) (s := addV s (mulV (scaleV (el x i) (-k)) (scaleV (el x i) (-k)))) (by omega) (addV_lt hs mulV_lt))
    have e1 : (B.add .i64).den (Vi i) (Vi 1) = Vi (i + 1) := add_i (by omega) (by omega)
    have e2 : (B.sub .i64).den (Vi 0) (Vi k) = Vi (-k) := by rw [sub_i (by omega) (by omega)]; exact congrArg Vi (by omega)
    have g1 := get_V (x := x) (i := i) (by omega)
    have c0 := shift9_ok (hx.el i) (k := -k) (by omega) (by omega)
    have ht := scaleV_lt (hx.el i) (-k)
    have c1 := mul9_ok ht ht
    have c2 := add9_ok hs (mulV_lt (a := scaleV (el x i) (-k)) (b := scaleV (el x i) (-k)))
    simp [lo158_1, TT.dv, show i < x.length by omega, e1, e2, g1, c0, c1, c2]
end
theorem norm_v_ok {x : List Nat} (hx : Words x) (h64 : x.length < 9000000000000000000) : val 314 [Vl x] = some (if x.length ≤ 64 then [Vu (normV x), Vi 0] else [Vu 0, Vi 3]) := by
  refine val_of tab314 ?_
  by_cases hl : x.length ≤ 64
  · rw [if_pos hl]
    have hl' : ¬ 64 < (x.length : Int) := by omega
    have h1 := biggest_ok hx h64
    have f1 := finite_ok (bigV x)
    unfold normV
    by_cases c : bigV x = 0
    · rw [if_pos (.inl c)]
      rw [c] at h1 ⊢
      simp [tr314, TT.dv, hl', h1]
    · by_cases c2 : fPow (bigV x) = 2047
      · rw [if_pos (.inr c2)]
        simp [tr314, TT.dv, hl', h1, c, f1, c2]
      · rw [if_neg (by omega)]
        have e1 := exp_ok (b := bigV x)
        have hk := expB_bd (bigV x)
        have hlp := norm_loop hx h64 hk (x1 := Vu (bigV x)) (x2 := Vb true) x.length (i := 0) (s := 0) (by omega) (by decide)
        rw [show ((0 : Nat) : Int) = 0 from rfl] at hlp
        have s1 := vsqrt_ok (b := sqrV x (expB (bigV x))) (sqrR_lt _ (by decide))
        have s2 := vshift_ok (sqrtV (sqrV x (expB (bigV x)))) (expB (bigV x))
        rw [show sqrR x (expB (bigV x)) x.length 0 0 = sqrV x (expB (bigV x)) from rfl] at hlp
        simp [tr314, TT.dv, KS.dv, hl', h1, c, f1, c2, e1, hlp, s1, s2]
  · rw [if_neg hl]
    have hl' : 64 < (x.length : Int) := by omega
    simp [tr314, TT.dv, hl']
theorem norm_9_ok {x : List Nat} (hx : Words x) (h64 : x.length < 9000000000000000000) : val 158 [Vl x] = some [Vu (normV x)] := by
  refine val_of tab158 ?_
  have h1 := biggest9_ok hx h64
  have hb := bigV_lt x
  have f1 := finite4_ok (b := bigV x) (by omega)
  have hp := fPow_lt (bigV x)
  unfold normV
  by_cases c : bigV x = 0
  · rw [if_pos (.inl c)]
    rw [c] at h1 ⊢
    simp [tr158, TT.dv, h1]
  · by_cases c2 : fPow (bigV x) = 2047
    · rw [if_pos (.inr c2)]
      simp [tr158, TT.dv, h1, c, f1, c2]
    · rw [if_neg (by omega)]
      have e1 := exp8_ok (b := bigV x) (by omega)
      have hk := expB_bd (bigV x)
      have hlp := norm9_loop hx h64 hk (x1 := Vu (bigV x)) (x2 := Vb true) x.length (i := 0) (s := 0) (by omega) (by decide)
      rw [show ((0 : Nat) : Int) = 0 from rfl] at hlp
      have s1 := sqrt9_ok (b := sqrV x (expB (bigV x))) (sqrR_lt _ (by decide))
      have s2 := shift9_ok (b := sqrtV (sqrV x (expB (bigV x)))) (sqrtV_lt (sqrR_lt _ (by decide))) (k := expB (bigV x)) (by omega) (by omega)
      rw [show sqrR x (expB (bigV x)) x.length 0 0 = sqrV x (expB (bigV x)) from rfl] at hlp
      simp [tr158, TT.dv, KS.dv, h1, c, f1, show fPow (bigV x) < 2047 by omega, e1, hlp, s1, s2]
end Go.Proofs.YthchhkghjfendabGreat.Dx

namespace Go.Proofs.YthchhkghjfendabGreat.Dx
open Go

def fnP (f : Nat) (caps : List PV) : PV := .fn f caps
theorem set_V (x : List Nat) (i v : Nat) : T3.set.den (Vl x) (Vi i) (Vu v) = Vl (x.set i v) := by
  rw [Vl, set_l _ rfl, Vl, List.map_set]
theorem cpl_u {a : Nat} (h : a < 18446744073709551616) : (U.cpl .u64).den (Vu a) = Vu (18446744073709551615 ^^^ a) ∧ 18446744073709551615 ^^^ a < 18446744073709551616 :=
  ⟨(show (U.cpl .u64).den (Vu a) = (B.xor .u64).den (Vu 18446744073709551615) (Vu a) from rfl).trans (xor_u (by omega) h), Nat.xor_lt_two_pow (n := 64) (by omega) h⟩
theorem Words.set {x : List Nat} (h : Words x) {i v : Nat} (hv : v < 18446744073709551616) : Words (x.set i v) := by
  intro a ha
  rcases List.mem_or_eq_of_mem_set ha with h1 | h1
  · exact h a h1
  · rw [h1]; exact hv
/-- What a function makes of each place. -/
def mk (g : Nat → Nat) (n : Nat) : List Nat := (List.range n).map g
@[simp] theorem mk_len (g : Nat → Nat) (n : Nat) : (mk g n).length = n := by simp [mk]
theorem mk_succ (g : Nat → Nat) (n : Nat) : mk g n ++ [g n] = mk g (n + 1) := by simp [mk, List.range_succ]
theorem mk_words {g : Nat → Nat} {n : Nat} (h : ∀ i, i < n → g i < 18446744073709551616) : Words (mk g n) := by
  intro a ha
  obtain ⟨i, hi, rfl⟩ := List.mem_map.1 ha
  exact h i (by simpa using hi)
theorem mk_congr {g g' : Nat → Nat} {n : Nat} (h : ∀ i, i < n → g i = g' i) : mk g n = mk g' n := List.map_congr_left fun i hi => h i (by simpa using hi)
/-- Boxes and functions that catch them. -/
@[simp] theorem toA_V (l : List PV) : U.toA.den (.l l) = .a l := rfl
@[simp] theorem fld0_a (p : PV) (l : List PV) : (U.fld 0).den (.a (p :: l)) = p := rfl
theorem mkfn_l (f : Nat) (l : List PV) : (U.mkfn f).den (.l l) = fnP f l := rfl
section
variable {a : Nat} {x y : List Nat} (ha : a < 18446744073709551616) (hx : Words x) (hy : Words y) (hl : x.length = y.length) (h64 : x.length < 17592186044416)
include ha hx hy hl h64
end
section
variable {a : Nat} {x : List Nat} (ha : a < 18446744073709551616) (hx : Words x) (h64 : x.length < 17592186044416)
include ha hx h64
end
theorem same_loop {x : List Nat} {x2 : PV} (h64 : x.length < 9000000000000000000) : ∀ (n : Nat) {i : Nat}, i + n = x.length →
    rounds (fun vs => lo159_1.dv (Vl x :: Vl x :: vs)) [x2, Vi i] = some (.y (.ext 0) [x2]) := by
  intro n
  induction n with
  | zero =>
    intro i hi
    refine rounds_exit ?_ (by simp)
    simp [lo159_1, TT.dv, show ¬ i < x.length by omega]
  | succ n ih =>
    intro i hi
    refine Eq.trans (rounds_cont ?_) (ih (i := i + 1) (by omega))
    have e1 : (B.add .i64).den (Vi i) (Vi 1) = Vi (i + 1) := add_i (by omega) (by omega)
    have g1 := get_V (x := x) (i := i) (by omega)
    simp [lo159_1, TT.dv, show i < x.length by omega, e1, g1]
theorem same_self {x : List Nat} (h64 : x.length < 9000000000000000000) : val 159 [Vl x, Vl x] = some [Vb true] := by
  refine val_of tab159 ?_
  have hlp := same_loop (x2 := Vb false) h64 x.length (i := 0) (by omega)
  rw [show ((0 : Nat) : Int) = 0 from rfl] at hlp
  simp [tr159, TT.dv, KS.dv, hlp]
end Go.Proofs.YthchhkghjfendabGreat.Dx

namespace Go.Proofs.YthchhkghjfendabGreat.Dx
open Go

theorem cons_V (a : Nat) (x : List Nat) : B.cons.den (Vu a) (Vl x) = Vl (a :: x) := rfl
section
variable {f g : Nat} (hf : f < 18446744073709551616) (hg : g < 18446744073709551616)
include hf hg
end
end Go.Proofs.YthchhkghjfendabGreat.Dx

namespace Go.Proofs.YthchhkghjfendabGreat.Dx
open Go

/-- The place of row i, column k. -/
def ps (i c k : Nat) : Nat := i * c + k
theorem ps_lt {i c k r : Nat} (hi : i < r) (hk : k < c) : ps i c k < r * c := by
  unfold ps
  have h1 : (i + 1) * c ≤ r * c := Nat.mul_le_mul_right c hi
  rw [Nat.add_mul, Nat.one_mul] at h1
  omega
theorem ps_inj {i c k i' k' : Nat} (hk : k < c) (hk' : k' < c) (h : ps i c k = ps i' c k') : i = i' ∧ k = k' := by
  unfold ps at h
  have h1 : (i * c + k) / c = i := by rw [Nat.mul_comm, Nat.mul_add_div (by omega), Nat.div_eq_of_lt hk, Nat.add_zero]
  have h2 : (i' * c + k') / c = i' := by rw [Nat.mul_comm, Nat.mul_add_div (by omega), Nat.div_eq_of_lt hk', Nat.add_zero]
  have h3 : i = i' := by rw [← h1, ← h2, h]
  subst h3
  exact ⟨rfl, by omega⟩
theorem pos_i {i c k : Nat} (hi : i < 100) (hc : c ≤ 100) (hk : k ≤ 100) : (B.add .i64).den ((B.mul .i64).den (Vi i) (Vi c)) (Vi k) = Vi (ps i c k) := by
  have h1 : i * c ≤ 100 * 100 := Nat.mul_le_mul (by omega) hc
  have h2 : (i : Int) * c = ((i * c : Nat) : Int) := by rw [Int.natCast_mul]
  rw [mul_i (by rw [h2]; omega) (by rw [h2]; omega), h2, add_i (by omega) (by omega)]
  unfold ps
  exact congrArg Vi (by omega)
/-- Right matrices. -/
structure Mx (r c : Nat) (x : List Nat) : Prop where
  hr : r ≤ 6
  hc : c ≤ 6
  len : x.length = r * c
  w : Words x
theorem Mx.lt {r c : Nat} {x : List Nat} (h : Mx r c x) {i k : Nat} (hi : i < r) (hk : k < c) : ps i c k < x.length := by rw [h.len]; exact ps_lt hi hk
theorem Mx.small {r c : Nat} {x : List Nat} (h : Mx r c x) : x.length ≤ 36 := by
  rw [h.len]; exact Nat.mul_le_mul h.hr h.hc
theorem Mx.set {r c : Nat} {x : List Nat} (h : Mx r c x) {p v : Nat} (hv : v < 18446744073709551616) : Mx r c (x.set p v) := ⟨h.hr, h.hc, by rw [List.length_set, h.len], h.w.set hv⟩
def rightP (R C : Int) (x : List Nat) : Prop := 0 ≤ R ∧ R ≤ 6 ∧ 0 ≤ C ∧ C ≤ 6 ∧ (x.length : Int) = R * C
instance (R C : Int) (x : List Nat) : Decidable (rightP R C x) := by unfold rightP; exact inferInstance
theorem right_mx {R C : Int} {x : List Nat} (h : rightP R C x) (hw : Words x) : ∃ r c : Nat, R = r ∧ C = c ∧ Mx r c x := by
  obtain ⟨h1, h2, h3, h4, h5⟩ := h
  refine ⟨R.toNat, C.toNat, by omega, by omega, by omega, by omega, ?_, hw⟩
  have e1 : R = R.toNat := by omega
  have e2 : C = C.toNat := by omega
  rw [e1, e2, ← Int.natCast_mul] at h5
  omega
theorem mx_right {r c : Nat} {x : List Nat} (h : Mx r c x) : rightP r c x :=
  ⟨by omega, by have := h.hr; omega, by omega, by have := h.hc; omega, by rw [h.len, Int.natCast_mul]⟩
theorem size_ok (n : Int) : val 259 [Vi n] = some [Vb (decide (0 ≤ n ∧ n ≤ 6))] := by
  refine val_of tab259 ?_
  simp [tr259, TT.dv]
theorem small_mul {R C : Int} (h1 : 0 ≤ R ∧ R ≤ 6) (h2 : 0 ≤ C ∧ C ≤ 6) : (B.mul .i64).den (Vi R) (Vi C) = Vi (R * C) := by
  have h3 : R * C ≤ 6 * 6 := Int.mul_le_mul h1.2 h2.2 h2.1 (by omega)
  have h4 : 0 ≤ R * C := Int.mul_nonneg h1.1 h2.1
  exact mul_i (by omega) (by omega)
theorem check_ok (R C : Int) (x : List Nat) : val 246 [Vi R, Vi C, Vl x] = some [Vi (if rightP R C x then 0 else 1)] := by
  refine val_of tab246 ?_
  have s1 := size_ok R
  have s2 := size_ok C
  by_cases h1 : 0 ≤ R ∧ R ≤ 6
  · rw [decide_eq_true h1] at s1
    by_cases h2 : 0 ≤ C ∧ C ≤ 6
    · rw [decide_eq_true h2] at s2
      have hm := small_mul h1 h2
      by_cases h3 : (x.length : Int) = R * C
      · rw [if_pos (show rightP R C x from ⟨h1.1, h1.2, h2.1, h2.2, h3⟩)]
        simp [tr246, TT.dv, s1, s2, hm, h3]
      · rw [if_neg (show ¬ rightP R C x from fun h => h3 h.2.2.2.2)]
        simp [tr246, TT.dv, s1, s2, hm, h3]
    · rw [decide_eq_false h2] at s2
      rw [if_neg (show ¬ rightP R C x from fun h => h2 ⟨h.2.2.1, h.2.2.2.1⟩)]
      simp [tr246, TT.dv, s1, s2]
  · rw [decide_eq_false h1] at s1
    rw [if_neg (show ¬ rightP R C x from fun h => h1 ⟨h.1, h.2.1⟩)]
    simp [tr246, TT.dv, s1]
theorem right_ok10 (R C : Int) (x : List Nat) : val 172 [Vi R, Vi C, Vl x] = some [Vb (decide (rightP R C x))] := by
  refine val_of tab172 ?_
  by_cases h1 : 0 ≤ R ∧ R ≤ 6
  · by_cases h2 : 0 ≤ C ∧ C ≤ 6
    · have hm := small_mul h1 h2
      by_cases h3 : (x.length : Int) = R * C
      · rw [decide_eq_true (show rightP R C x from ⟨h1.1, h1.2, h2.1, h2.2, h3⟩)]
        simp [tr172, TT.dv, hm, h1.1, h1.2, h2.1, h2.2, h3]
      · rw [decide_eq_false (show ¬ rightP R C x from fun h => h3 h.2.2.2.2)]
        simp [tr172, TT.dv, hm, h1.1, h1.2, h2.1, h2.2, h3]
    · rw [decide_eq_false (show ¬ rightP R C x from fun h => h2 ⟨h.2.2.1, h.2.2.2.1⟩)]
      by_cases h3 : 0 ≤ C
      · have h4 : ¬ C ≤ 6 := fun h => h2 ⟨h3, h⟩
        simp [tr172, TT.dv, h1.1, h1.2, h3, h4]
      · simp [tr172, TT.dv, h1.1, h1.2, h3]
  · rw [decide_eq_false (show ¬ rightP R C x from fun h => h1 ⟨h.1, h.2.1⟩)]
    by_cases h3 : 0 ≤ R
    · have h4 : ¬ R ≤ 6 := fun h => h1 ⟨h3, h⟩
      simp [tr172, TT.dv, h3, h4]
    · simp [tr172, TT.dv, h3]
section
variable {r c : Nat} {x : List Nat} (h : Mx r c x)
include h
theorem at_ok {i k : Nat} (hi : i < r) (hk : k < c) : val 166 [Vi r, Vi c, Vl x, Vi i, Vi k] = some [Vu (el x (ps i c k))] := by
  refine val_of tab166 ?_
  have h1 := h.hr
  have h2 := h.hc
  have e1 := pos_i (i := i) (c := c) (k := k) (by omega) (by omega) (by omega)
  have hl := h.lt hi hk
  simp [tr166, TT.dv, e1, hl, get_V hl]
theorem get_ok {i k : Nat} (hi : i < r) (hk : k < c) : val 257 [Vi r, Vi c, Vl x, Vi i, Vi k] = some [Vu (el x (ps i c k))] := by
  refine val_of tab257 ?_
  have h1 := h.hr
  have h2 := h.hc
  have e1 := pos_i (i := i) (c := c) (k := k) (by omega) (by omega) (by omega)
  have hl := h.lt hi hk
  simp [tr257, TT.dv, e1, hl, get_V hl]
theorem with_ok {i k b : Nat} (hi : i < r) (hk : k < c) : val 176 [Vi r, Vi c, Vl x, Vi i, Vi k, Vu b] = some [Vi r, Vi c, Vl (x.set (ps i c k) b)] := by
  refine val_of tab176 ?_
  have h1 := h.hr
  have h2 := h.hc
  have e1 := pos_i (i := i) (c := c) (k := k) (by omega) (by omega) (by omega)
  have hl := h.lt hi hk
  have hs := h.small
  simp [tr176, TT.dv, e1, hl, set_V, show (x.length : Int) ≤ 17592186044416 by omega]
end
theorem rep_V (n a : Nat) : B.rep.den (Vi n) (Vu a) = Vl (List.replicate n a) := by
  show PV.l (List.replicate (Vi n).int.toNat (Vu a)) = _
  rw [int_I, Int.toNat_natCast, Vl, List.map_replicate]
theorem zeros_ok {r c : Nat} (hr : r ≤ 6) (hc : c ≤ 6) : val 177 [Vi r, Vi c] = some [Vi r, Vi c, Vl (List.replicate (r * c) 0)] := by
  refine val_of tab177 ?_
  have h1 := small_mul (R := r) (C := c) (by omega) (by omega)
  have h2 : r * c ≤ 36 := Nat.mul_le_mul hr hc
  rw [← Int.natCast_mul] at h1
  generalize r * c = n at *
  simp [tr177, TT.dv, h1, rep_V, show (n : Int) ≤ 17592186044416 by omega]
theorem zeros_mx {r c : Nat} (hr : r ≤ 6) (hc : c ≤ 6) : Mx r c (List.replicate (r * c) 0) := ⟨hr, hc, by simp, fun a ha => by rw [(List.mem_replicate.1 ha).2]; decide⟩
theorem copy_ok (R C : Int) {x : List Nat} (h : x.length ≤ 17592186044416) : val 168 [Vi R, Vi C, Vl x] = some [Vi R, Vi C, Vl x] := by
  refine val_of tab168 ?_
  simp [tr168, TT.dv, show (x.length : Int) ≤ 17592186044416 by omega]
theorem same_m (R C : Int) {x : List Nat} (h : x.length < 9000000000000000000) : val 174 [Vi R, Vi C, Vl x, Vi R, Vi C, Vl x] = some [Vb true] := by
  refine val_of tab174 ?_
  simp [tr174, TT.dv, same_self h]
def matL (g : Nat → Nat → Nat) (r c : Nat) : List Nat := (List.range r).flatMap fun i => mk (g i) c
theorem matL_succ (g : Nat → Nat → Nat) (r c : Nat) : matL g r c ++ mk (g r) c = matL g (r + 1) c := by
  unfold matL; rw [List.range_succ, List.flatMap_append]; simp
theorem matL_len (g : Nat → Nat → Nat) (r c : Nat) : (matL g r c).length = r * c := by
  induction r with
  | zero => simp [matL]
  | succ r ih => rw [← matL_succ, List.length_append, ih, mk_len, Nat.add_mul, Nat.one_mul]
theorem el_app {x y : List Nat} (i : Nat) : el (x ++ y) i = if i < x.length then el x i else el y (i - x.length) := by
  unfold el
  rw [List.getD_eq_getElem?_getD, List.getD_eq_getElem?_getD, List.getD_eq_getElem?_getD]
  by_cases h : i < x.length
  · rw [if_pos h, List.getElem?_append_left h]
  · rw [if_neg h, List.getElem?_append_right (by omega)]
theorem el_matL (g : Nat → Nat → Nat) {c : Nat} : ∀ {r i k : Nat}, i < r → k < c → el (matL g r c) (ps i c k) = g i k := by
  intro r
  induction r with
  | zero => intro i k hi; omega
  | succ r ih =>
    intro i k hi hk
    rw [← matL_succ, el_app, matL_len]
    by_cases h : i < r
    · rw [if_pos (ps_lt h hk)]; exact ih h hk
    · have : i = r := by omega
      subst this
      unfold ps
      rw [if_neg (by omega), Nat.add_sub_cancel_left]
      unfold el mk
      rw [List.getD_eq_getElem?_getD, List.getElem?_map, List.getElem?_range hk]; rfl
theorem mat_ext {x y : List Nat} {r c : Nat} (hx : x.length = r * c) (hy : y.length = r * c) (h : ∀ i k, i < r → k < c → el x (ps i c k) = el y (ps i c k)) : x = y := by
  refine List.ext_getElem (by omega) fun t h1 h2 => ?_
  have hc : 0 < c := by
    rcases Nat.eq_zero_or_pos c with h0 | h0
    · subst h0; omega
    · exact h0
  have ht : t = ps (t / c) c (t % c) := by unfold ps; rw [Nat.mul_comm]; exact (Nat.div_add_mod t c).symm
  have := h (t / c) (t % c) (by rw [Nat.div_lt_iff_lt_mul hc]; omega) (Nat.mod_lt _ hc)
  rw [← ht] at this
  unfold el at this
  rw [List.getD_eq_getElem?_getD, List.getD_eq_getElem?_getD, List.getElem?_eq_getElem h1, List.getElem?_eq_getElem h2] at this
  exact this
theorem matL_mx {g : Nat → Nat → Nat} {r c : Nat} (hr : r ≤ 6) (hc : c ≤ 6) (h : ∀ i k, i < r → k < c → g i k < 18446744073709551616) : Mx r c (matL g r c) := by
  refine ⟨hr, hc, matL_len g r c, fun a ha => ?_⟩
  unfold matL at ha
  obtain ⟨i, hi, h1⟩ := List.mem_flatMap.1 ha
  obtain ⟨k, hk, rfl⟩ := List.mem_map.1 h1
  exact h i k (by simpa using hi) (by simpa using hk)
section
variable {f r c : Nat} {caps : List PV} {g : Nat → Nat → Nat} (hr : r ≤ 6) (hc : c ≤ 6) (h : ∀ i k : Nat, i < r → k < c → val f (Vi i :: Vi k :: caps) = some [Vu (g i k)])
include hr hc h
theorem of_inner {x4 : PV} {acc : List Nat} (ha : acc.length ≤ 1000) {i : Nat} (hi : i < r) : ∀ (n : Nat) {k : Nat}, k + n = c →
    rounds (fun vs => lo258_2.dv (Vi r :: Vi c :: fnP f caps :: Vi i :: x4 :: vs)) [Vi k, Vl (acc ++ mk (g i) k)] = some (.y (.ext 2) [Vl (acc ++ mk (g i) c)]) := by
  intro n
  induction n with
  | zero =>
    intro k hk
    have : k = c := by omega
    subst this
    refine rounds_exit ?_ (by simp)
    simp [lo258_2, TT.dv]
  | succ n ih =>
    intro k hk
    refine Eq.trans (rounds_cont ?_) (ih (k := k + 1) (by omega))
    have e1 : (B.add .i64).den (Vi k) (Vi 1) = Vi (k + 1) := add_i (by omega) (by omega)
    have h1 := h i k hi (by omega)
    have a1 := app_V (acc ++ mk (g i) k) (g i k)
    rw [List.append_assoc, mk_succ] at a1
    have l2 : ((acc.length : Int) + (k + 1)) ≤ 17592186044416 := by omega
    simp [lo258_2, TT.dv, fnP, show k < c by omega, h1, e1, a1, l2]
theorem of_outer : ∀ (n : Nat) {i : Nat}, i + n = r →
    rounds (fun vs => lo258_1.dv (Vi r :: Vi c :: fnP f caps :: vs)) [Vi i, Vl (matL g i c)] = some (.y (.ext 0) [Vl (matL g r c)]) := by
  intro n
  induction n with
  | zero =>
    intro i hi
    have : i = r := by omega
    subst this
    refine rounds_exit ?_ (by simp)
    simp [lo258_1, TT.dv]
  | succ n ih =>
    intro i hi
    refine Eq.trans (rounds_cont ?_) (ih (i := i + 1) (by omega))
    have e1 : (B.add .i64).den (Vi i) (Vi 1) = Vi (i + 1) := add_i (by omega) (by omega)
    have hl : (matL g i c).length ≤ 1000 := by
      rw [matL_len]
      have : i * c ≤ 6 * 6 := Nat.mul_le_mul (by omega) hc
      omega
    have hin := of_inner hr hc h (x4 := Vl (matL g i c)) hl (i := i) (by omega) c (k := 0) (by omega)
    rw [show ((0 : Nat) : Int) = 0 from rfl, show mk (g i) 0 = [] from rfl, List.append_nil, matL_succ] at hin
    simp [lo258_1, TT.dv, KS.dv, show i < r by omega, hin, e1]
theorem mof_ok : val 258 [Vi r, Vi c, fnP f caps] = some [Vi r, Vi c, Vl (matL g r c)] := by
  refine val_of tab258 ?_
  have hlp := of_outer hr hc h r (i := 0) (by omega)
  rw [show ((0 : Nat) : Int) = 0 from rfl, show matL g 0 c = [] from rfl] at hlp
  simp [tr258, TT.dv, KS.dv, hlp]
end
theorem el_set (x : List Nat) (p v q : Nat) : el (x.set p v) q = if p = q ∧ p < x.length then v else el x q := by
  unfold el
  rw [List.getD_eq_getElem?_getD, List.getD_eq_getElem?_getD, List.getElem?_set]
  by_cases h : p = q
  · subst h
    by_cases h2 : p < x.length
    · simp [h2]
    · simp [h2, List.getElem?_eq_none (show x.length ≤ p by omega)]
  · simp [h]
def fin1 (pos v : Nat → Nat) : Nat → Nat → List Nat → List Nat
  | 0, _, m => m
  | n + 1, k, m => fin1 pos v n (k + 1) (m.set (pos k) (v k))
def fin2 (pos v : Nat → Nat → Nat) (C : Nat) : Nat → Nat → List Nat → List Nat
  | 0, _, m => m
  | n + 1, i, m => fin2 pos v C n (i + 1) (fin1 (pos i) (v i) C 0 m)
theorem fin1_len (pos v : Nat → Nat) : ∀ (n k : Nat) (m : List Nat), (fin1 pos v n k m).length = m.length
  | 0, _, _ => rfl
  | n + 1, k, m => by unfold fin1; rw [fin1_len pos v n, List.length_set]
theorem fin2_len (pos v : Nat → Nat → Nat) (C : Nat) : ∀ (n i : Nat) (m : List Nat), (fin2 pos v C n i m).length = m.length
  | 0, _, _ => rfl
  | n + 1, k, m => by unfold fin2; rw [fin2_len pos v C n, fin1_len]
theorem fin1_other {pos v : Nat → Nat} {q : Nat} : ∀ (n k : Nat) (m : List Nat), (∀ j, k ≤ j → j < k + n → pos j ≠ q) → el (fin1 pos v n k m) q = el m q
  | 0, _, _, _ => rfl
  | n + 1, k, m, h => by
    unfold fin1
    rw [fin1_other n (k + 1) _ (fun j h1 h2 => h j (by omega) (by omega)), el_set, if_neg (fun hh => h k (Nat.le_refl _) (by omega) hh.1)]
theorem fin1_at {pos v : Nat → Nat} : ∀ (n k : Nat) (m : List Nat), (∀ j, k ≤ j → j < k + n → pos j < m.length) → (∀ j j', k ≤ j → j < k + n → k ≤ j' → j' < k + n → pos j = pos j' → j = j') → ∀ j, k ≤ j → j < k + n → el (fin1 pos v n k m) (pos j) = v j
  | 0, _, _, _, _, j, h1, h2 => by omega
  | n + 1, k, m, hl, hi, j, h1, h2 => by
    unfold fin1
    rcases Nat.eq_or_lt_of_le h1 with he | he
    · subst he
      rw [fin1_other n (k + 1) _ (fun j' a b hh => by have := hi j' k (by omega) (by omega) (Nat.le_refl _) (by omega) hh; omega), el_set, if_pos ⟨rfl, hl k (Nat.le_refl _) (by omega)⟩]
    · exact fin1_at n (k + 1) _ (fun j a b => by rw [List.length_set]; exact hl j (by omega) (by omega)) (fun j j' a b a' b' => hi j j' (by omega) (by omega) (by omega) (by omega)) j (by omega) (by omega)
theorem fin2_other {pos v : Nat → Nat → Nat} {C q : Nat} : ∀ (n i : Nat) (m : List Nat), (∀ j k, i ≤ j → j < i + n → k < C → pos j k ≠ q) → el (fin2 pos v C n i m) q = el m q
  | 0, _, _, _ => rfl
  | n + 1, i, m, h => by
    unfold fin2
    rw [fin2_other n (i + 1) _ (fun j k h1 h2 => h j k (by omega) (by omega)), fin1_other C 0 m (fun k _ h2 => h i k (Nat.le_refl _) (by omega) (by omega))]
theorem fin2_at {pos v : Nat → Nat → Nat} {C : Nat} : ∀ (n i : Nat) (m : List Nat), (∀ j k, i ≤ j → j < i + n → k < C → pos j k < m.length) → (∀ j k j' k', i ≤ j → j < i + n → k < C → i ≤ j' → j' < i + n → k' < C → pos j k = pos j' k' → j = j' ∧ k = k') →
    ∀ j k, i ≤ j → j < i + n → k < C → el (fin2 pos v C n i m) (pos j k) = v j k
  | 0, _, _, _, _, j, k, h1, h2, _ => by omega
  | n + 1, i, m, hl, hi, j, k, h1, h2, hk => by
    unfold fin2
    rcases Nat.eq_or_lt_of_le h1 with he | he
    · subst he
      rw [fin2_other n (i + 1) _ (fun j' k' a b c hh => by have := (hi j' k' i k (by omega) (by omega) c (Nat.le_refl _) (by omega) hk hh).1; omega)]
      exact fin1_at C 0 m (fun k' _ b => hl i k' (Nat.le_refl _) (by omega) (by omega)) (fun k1 k2 _ b _ b' hh => (hi i k1 i k2 (Nat.le_refl _) (by omega) (by omega) (Nat.le_refl _) (by omega) (by omega) hh).2) k (Nat.zero_le _) (by omega)
    · exact fin2_at n (i + 1) _ (fun j k a b c => by rw [fin1_len]; exact hl j k (by omega) (by omega) c) (fun j k j' k' a b c a' b' c' => hi j k j' k' (by omega) (by omega) c (by omega) (by omega) c') j k (by omega) (by omega) hk
end Go.Proofs.YthchhkghjfendabGreat.Dx

namespace Go.Proofs.YthchhkghjfendabGreat.Dx
open Go

section
variable {r c : Nat} {x : List Nat} (h : Mx r c x)
include h
end

section
variable {r c : Nat} {x : List Nat} (h : Mx r c x) {C S : Nat} (hC : C < 18446744073709551616) (hS : S < 18446744073709551616) {i k : Nat} (hi : i < r) (hk : k < r)
include h hC hS hi hk
end
section
variable {r c : Nat} {x : List Nat} (h : Mx r c x) {C S : Nat} (hC : C < 18446744073709551616) (hS : S < 18446744073709551616) {i k : Nat} (hi : i < c) (hk : k < c)
include h hC hS hi hk
end
end Go.Proofs.YthchhkghjfendabGreat.Dx

namespace Go.Proofs.YthchhkghjfendabGreat.Dx
open Go

theorem st_call {g : Exp} {f : Nat} {xs : List Exp} {n : Nat} {t : TT Unit} {ρ rs : List PV} (hg : g.isTrue ρ = true) (hv : val f (xs.map (Exp.den ρ)) = some rs) (hl : rs.length = n) : (TT.call g f xs n t).dv ρ = t.dv (ρ ++ rs) := by
  simp only [TT.dv, hg, hv, hl, if_true]
theorem st_loop {init : List Exp} {t : TT Unit} {ks : KS Unit} {ρ vs : List PV} {x : Ex} (h : rounds (fun vs => t.dv (ρ ++ vs)) (init.map (Exp.den ρ)) = some (.y x vs)) : (TT.loop init t ks).dv ρ = ks.dv x vs ρ := by
  simp only [TT.dv, h]
theorem st_hit {t : TT Unit} {ks : KS Unit} {ρ vs : List PV} {x : Ex} : (KS.cons x t ks).dv x vs ρ = t.dv (ρ ++ vs) := by
  simp only [KS.dv, if_true]
/-- A loop that turns all bits of a row. -/
def cplT (p e : Nat) : TT Unit := .ite (.bi .lt (.var p) (.un .len (.var (p + 1)))) (.assert (.bi .le (.int .i64 0) (.var p)) (.assert (.bi .lt (.var p) (.un .len (.var (p + 1)))) (.assert (.bi .le (.int .i64 0) (.var p)) (.assert (.bi .lt (.var p) (.un .len (.var (p + 1)))) (.yield .cont [(.bi (.add .i64) (.var p) (.int .i64 1)), (.tri .set (.var (p + 1)) (.var p) (.un (.cpl .u64) (.bi .get (.var (p + 1)) (.var p))))]))))) (.yield (.ext e) [])
theorem cpl_any {e : Nat} {ρ : List PV} : ∀ (n : Nat) {i : Nat} {y : List Nat}, Words y → y.length < 9000000000000000000 → i + n = y.length →
    rounds (fun vs => (cplT ρ.length e).dv (ρ ++ vs)) [Vi i, Vl y] = some (.y (.ext e) []) := by
  intro n
  induction n with
  | zero =>
    intro i y hy hl hi
    refine rounds_exit ?_ (by simp)
    simp [cplT, TT.dv, show ¬ i < y.length by omega]
  | succ n ih =>
    intro i y hy hl hi
    have e1 : (B.add .i64).den (Vi i) (Vi 1) = Vi (i + 1) := add_i (by omega) (by omega)
    have g1 := get_V (x := y) (i := i) (by omega)
    obtain ⟨c1, c2⟩ := cpl_u (hy.el i)
    refine Eq.trans (rounds_cont ?_) (ih (i := i + 1) (hy.set (i := i) c2) (by simpa using hl) (by rw [List.length_set]; omega))
    simp [cplT, TT.dv, show i < y.length by omega, e1, g1, c1, set_V]
theorem cpl_at {e p : Nat} {x : List Nat} (hw : Words x) (hl : x.length ≤ 17592186043904) : ∀ ρ : List PV, ρ.length = p → rounds (fun vs => (cplT p e).dv (ρ ++ vs)) [Vi 0, Vl x] = some (.y (.ext e) []) := by
  intro ρ hp
  subst hp
  exact cpl_any x.length (i := 0) hw (by omega) (by omega)

def colG (x : List Nat) (c k from_ : Nat) (j : Nat) : Nat := el x (ps (from_ + j) c k)
/-- A column from a row on. -/
def colL (r c : Nat) (x : List Nat) (k from_ : Nat) : List Nat := mk (colG x c k from_) (r - from_)
theorem colL_words {r c : Nat} {x : List Nat} (h : Mx r c x) (k from_ : Nat) : Words (colL r c x k from_) := mk_words fun _ _ => h.w.el _
@[simp] theorem colL_len (r c : Nat) (x : List Nat) (k from_ : Nat) : (colL r c x k from_).length = r - from_ := mk_len _ _
section
variable {r c : Nat} {x : List Nat} (h : Mx r c x) {k f : Nat} (hk : k < c) (hf : f ≤ r)
include h hk hf
theorem column_ok : val 247 [Vi r, Vi c, Vl x, Vi k, Vi f] = some [Vl (colL r c x k f)] := by
  have hr := h.hr
  have lp : ∀ (n : Nat) {j : Nat}, j + n = r - f →
      rounds (fun vs => lo247_1.dv (Vi r :: Vi c :: Vl x :: Vi k :: Vi f :: vs)) [Vi ((f + j : Nat) : Int), Vl (mk (colG x c k f) j)] = some (.y (.ext 0) [Vl (colL r c x k f)]) := by
    intro n
    induction n with
    | zero =>
      intro j hj
      have : j = r - f := by omega
      subst this
      refine rounds_exit ?_ (by simp)
      have e : ¬ (((f + (r - f) : Nat) : Int) < (r : Int)) := by omega
      generalize ((f + (r - f) : Nat) : Int) = z at *
      simp [lo247_1, TT.dv, e, colL]
    | succ n ih =>
      intro j hj
      refine Eq.trans (rounds_cont ?_) (ih (j := j + 1) (by omega))
      have e1 : (B.add .i64).den (Vi ((f + j : Nat) : Int)) (Vi 1) = Vi ((f + (j + 1) : Nat) : Int) := by rw [add_i (by omega) (by omega)]; exact congrArg Vi (by omega)
      have g1 := get_ok h (i := f + j) (k := k) (by omega) hk
      have a1 := app_V (mk (colG x c k f) j) (colG x c k f j)
      rw [mk_succ] at a1
      have e2 : ((f + j : Nat) : Int) < (r : Int) := by omega
      have e3 : ((j : Int) + 1) ≤ 17592186044416 := by omega
      unfold colG at a1 ⊢
      generalize ((f + j : Nat) : Int) = z at *
      generalize ((f + (j + 1) : Nat) : Int) = z' at *
      simp [lo247_1, TT.dv, e1, e2, g1, a1, e3]
  refine val_of tab247 ?_
  have h0 := lp (r - f) (j := 0) (by omega)
  rw [Nat.add_zero, show mk (colG x c k f) 0 = [] from rfl] at h0
  simp [tr247, TT.dv, KS.dv, h0]
theorem column9_ok : val 167 [Vi r, Vi c, Vl x, Vi k, Vi f] = some [Vl (colL r c x k f)] := by
  have hr := h.hr
  have lp : ∀ (n : Nat) {j : Nat}, j + n = r - f →
      rounds (fun vs => lo167_1.dv (Vi r :: Vi c :: Vl x :: Vi k :: Vi f :: vs)) [Vi ((f + j : Nat) : Int), Vl (mk (colG x c k f) j)] = some (.y (.ext 0) [Vl (colL r c x k f)]) := by
    intro n
    induction n with
    | zero =>
      intro j hj
      have : j = r - f := by omega
      subst this
      refine rounds_exit ?_ (by simp)
      have e : ¬ (((f + (r - f) : Nat) : Int) < (r : Int)) := by omega
      generalize ((f + (r - f) : Nat) : Int) = z at *
      simp [lo167_1, TT.dv, e, colL]
    | succ n ih =>
      intro j hj
      refine Eq.trans (rounds_cont ?_) (ih (j := j + 1) (by omega))
      have e1 : (B.add .i64).den (Vi ((f + j : Nat) : Int)) (Vi 1) = Vi ((f + (j + 1) : Nat) : Int) := by rw [add_i (by omega) (by omega)]; exact congrArg Vi (by omega)
      have g1 := at_ok h (i := f + j) (k := k) (by omega) hk
      have a1 := app_V (mk (colG x c k f) j) (colG x c k f j)
      rw [mk_succ] at a1
      have e2 : ((f + j : Nat) : Int) < (r : Int) := by omega
      have e3 : ((j : Int) + 1) ≤ 17592186044416 := by omega
      unfold colG at a1 ⊢
      generalize ((f + j : Nat) : Int) = z at *
      generalize ((f + (j + 1) : Nat) : Int) = z' at *
      simp [lo167_1, TT.dv, e1, e2, g1, a1, e3]
  refine val_of tab167 ?_
  have h0 := lp (r - f) (j := 0) (by omega)
  rw [Nat.add_zero, show mk (colG x c k f) 0 = [] from rfl] at h0
  simp [tr167, TT.dv, KS.dv, h0]
end
theorem take_V (x : List Nat) (n : Nat) : B.take.den (Vl x) (Vi n) = Vl (x.take n) := by
  rw [Vl, take_l _ rfl, Vl, List.map_take]
theorem el_take {x : List Nat} {n j : Nat} (h : j < n) : el (x.take n) j = el x j := by
  unfold el
  rw [List.getD_eq_getElem?_getD, List.getD_eq_getElem?_getD, List.getElem?_take, if_pos h]
theorem Words.take {x : List Nat} (h : Words x) (n : Nat) : Words (x.take n) := fun a ha => h a (List.mem_of_mem_take ha)
def apI (cl v : List Nat) (t i c cc : Nat) : Nat → Nat → List Nat → List Nat
  | 0, _, m => m
  | n + 1, j, m => apI cl v t i c cc n (j + 1) (m.set (ps (i + j) c cc) (subV (el cl j) (mulV t (el v j))))
def apT (r c : Nat) (x v : List Nat) (tau i cc : Nat) : Nat := mulV tau (dotV v ((colL r c x cc i).take v.length))
def apO (r c : Nat) (x v : List Nat) (tau i : Nat) : Nat → Nat → List Nat → List Nat
  | 0, _, m => m
  | n + 1, cc, m => apO r c x v tau i n (cc + 1) (apI (colL r c x cc i) v (apT r c x v tau i cc) i c cc v.length 0 m)
def apV (r c : Nat) (x : List Nat) (i k : Nat) (v : List Nat) (tau : Nat) : List Nat := apO r c x v tau i (c - k) k x
theorem apI_mx {r c : Nat} {cl v : List Nat} {t i cc : Nat} (hc : Words cl) : ∀ (n j : Nat) {m : List Nat}, Mx r c m → Mx r c (apI cl v t i c cc n j m)
  | 0, _, _, h => h
  | n + 1, j, m, h => apI_mx hc n (j + 1) (h.set (subV_lt (hc.el j) mulV_lt))
theorem apO_mx {r c : Nat} {x v : List Nat} {tau i : Nat} (hx : Mx r c x) : ∀ (n cc : Nat) {m : List Nat}, Mx r c m → Mx r c (apO r c x v tau i n cc m)
  | 0, _, _, h => h
  | n + 1, cc, m, h => apO_mx hx n (cc + 1) (apI_mx (colL_words hx cc i) _ _ h)
section
variable {r c : Nat} {x : List Nat} (h : Mx r c x) {v : List Nat} (hv : Words v) {tau : Nat} (ht : tau < 18446744073709551616) {i : Nat} (hi : i + v.length ≤ r)
include h hv ht hi
theorem ap_inner {cc : Nat} (hcc : cc < c) {x3 x4 x7 x9 x11 x12 : PV} {t : Nat} (htt : t < 18446744073709551616) : ∀ (n : Nat) {j : Nat} {m : List Nat}, j + n = v.length → Mx r c m →
    rounds (fun vs => lo238_2.dv (Vi r :: Vi c :: Vl x :: Vi i :: x4 :: Vl v :: Vu tau :: x7 :: Vi cc :: x9 :: Vl (colL r c x cc i) :: x11 :: x12 :: Vu t :: vs)) [Vi j, Vl m] = some (.y (.ext 2) [Vl (apI (colL r c x cc i) v t i c cc n j m)]) := by
  intro n
  have hr := h.hr
  have hc := h.hc
  have htl : ((colL r c x cc i).take v.length).length = v.length := by rw [List.length_take, colL_len]; omega
  induction n with
  | zero =>
    intro j m hj hm
    have : j = v.length := by omega
    subst this
    refine rounds_exit ?_ (by simp)
    simp [lo238_2, TT.dv, take_V, htl, apI]
  | succ n ih =>
    intro j m hj hm
    have hjl : j < v.length := by omega
    refine Eq.trans (rounds_cont ?_) (ih (j := j + 1) (by omega) (hm.set (subV_lt ((colL_words h cc i).el j) (mulV_lt (a := t) (b := el v j)))))
    have e1 : (B.add .i64).den (Vi j) (Vi 1) = Vi (j + 1) := add_i (by omega) (by omega)
    have e2 : (B.add .i64).den (Vi i) (Vi j) = Vi ((i + j : Nat) : Int) := by rw [add_i (by omega) (by omega)]; exact congrArg Vi (by omega)
    have p1 := pos_i (i := i + j) (c := c) (k := cc) (by omega) (by omega) (by omega)
    have l1 := hm.lt (show i + j < r by omega) hcc
    have g1 := get_V (x := v) hjl
    have g2 := get_V (x := (colL r c x cc i).take v.length) (i := j) (by rw [htl]; exact hjl)
    rw [el_take hjl] at g2
    have m1 := vmul_ok htt (hv.el j)
    have s1 := vsub_ok ((colL_words h cc i).el j) (mulV_lt (a := t) (b := el v j))
    generalize ((i + j : Nat) : Int) = z at *
    simp [lo238_2, TT.dv, take_V, htl, hjl, e1, e2, p1, l1, g1, g2, m1, s1, set_V]
theorem ap_outer {k : Nat} {x7 : PV} : ∀ (n : Nat) {cc : Nat} {m : List Nat}, cc + n = c → Mx r c m →
    rounds (fun vs => lo238_1.dv (Vi r :: Vi c :: Vl x :: Vi i :: Vi k :: Vl v :: Vu tau :: x7 :: vs)) [Vi cc, Vl m] = some (.y (.ext 0) [Vl (apO r c x v tau i n cc m)]) := by
  intro n
  have hr := h.hr
  have hc := h.hc
  induction n with
  | zero =>
    intro cc m hcc hm
    have : cc = c := by omega
    subst this
    refine rounds_exit ?_ (by simp)
    simp [lo238_1, TT.dv, apO]
  | succ n ih =>
    intro cc m hcc hm
    have hlt : cc < c := by omega
    have hcl := colL_words h cc i
    refine Eq.trans (rounds_cont ?_) (ih (cc := cc + 1) (by omega) (apI_mx (v := v) (t := apT r c x v tau i cc) (i := i) (cc := cc) hcl v.length 0 hm))
    have e1 : (B.add .i64).den (Vi cc) (Vi 1) = Vi (cc + 1) := add_i (by omega) (by omega)
    have c1 := column_ok h hlt (show i ≤ r by omega)
    have htl : ((colL r c x cc i).take v.length).length = v.length := by rw [List.length_take, colL_len]; omega
    have d1 := dot_ok hv (hcl.take v.length)
    rw [if_pos ⟨htl.symm, by omega⟩] at d1
    have m1 := vmul_ok ht (b := dotV v ((colL r c x cc i).take v.length)) (dotR_lt _ (by decide))
    have hin := fun x4 x7 x9 x11 x12 => ap_inner h hv ht hi hlt (x3 := x4) (x4 := x4) (x7 := x7) (x9 := x9) (x11 := x11) (x12 := x12) (t := apT r c x v tau i cc) mulV_lt v.length (j := 0) (by omega) hm
    simp only [show ((0 : Nat) : Int) = 0 from rfl] at hin
    rw [show mulV tau (dotV v ((colL r c x cc i).take v.length)) = apT r c x v tau i cc from rfl] at m1
    have hle : v.length ≤ r - i := by omega
    simp [lo238_1, TT.dv, KS.dv, hlt, e1, c1, take_V, d1, m1, hin, hle]
theorem ap9_inner {cc : Nat} (hcc : cc < c) {x4 x8 x9 x10 x12 : PV} {t : Nat} (htt : t < 18446744073709551616) : ∀ (n : Nat) {j : Nat} {m : List Nat}, j + n = v.length → Mx r c m →
    rounds (fun vs => lo190_2.dv (Vi r :: Vi c :: Vl x :: Vi i :: x4 :: Vl v :: Vu tau :: Vi cc :: x8 :: x9 :: x10 :: Vl (colL r c x cc i) :: x12 :: Vu t :: vs)) [Vi j, Vi r, Vi c, Vl m] = some (.y (.ext 2) [Vi r, Vi c, Vl (apI (colL r c x cc i) v t i c cc n j m)]) := by
  intro n
  have hr := h.hr
  have hc := h.hc
  induction n with
  | zero =>
    intro j m hj hm
    have : j = v.length := by omega
    subst this
    refine rounds_exit ?_ (by simp)
    simp [lo190_2, TT.dv, apI]
  | succ n ih =>
    intro j m hj hm
    have hjl : j < v.length := by omega
    refine Eq.trans (rounds_cont ?_) (ih (j := j + 1) (by omega) (hm.set (subV_lt ((colL_words h cc i).el j) (mulV_lt (a := t) (b := el v j)))))
    have e1 : (B.add .i64).den (Vi j) (Vi 1) = Vi (j + 1) := add_i (by omega) (by omega)
    have e2 : (B.add .i64).den (Vi i) (Vi j) = Vi ((i + j : Nat) : Int) := by rw [add_i (by omega) (by omega)]; exact congrArg Vi (by omega)
    have hl2 : j < r - i := by omega
    have g1 := get_V (x := v) hjl
    have g2 := get_V (x := colL r c x cc i) (i := j) (by rw [colL_len]; exact hl2)
    have m1 := mul9_ok htt (hv.el j)
    have s1 := sub9_ok ((colL_words h cc i).el j) (mulV_lt (a := t) (b := el v j))
    have w1 := with_ok hm (i := i + j) (k := cc) (b := subV (el (colL r c x cc i) j) (mulV t (el v j))) (by omega) hcc
    generalize ((i + j : Nat) : Int) = z at *
    simp [lo190_2, TT.dv, hjl, hl2, e1, e2, g1, g2, m1, s1, w1]
theorem ap9_outer {k : Nat} : ∀ (n : Nat) {cc : Nat} {m : List Nat}, cc + n = c → Mx r c m →
    rounds (fun vs => lo190_1.dv (Vi r :: Vi c :: Vl x :: Vi i :: Vi k :: Vl v :: Vu tau :: vs)) [Vi cc, Vi r, Vi c, Vl m] = some (.y (.ext 0) [Vi r, Vi c, Vl (apO r c x v tau i n cc m)]) := by
  intro n
  have hr := h.hr
  have hc := h.hc
  induction n with
  | zero =>
    intro cc m hcc hm
    have : cc = c := by omega
    subst this
    refine rounds_exit ?_ (by simp)
    simp [lo190_1, TT.dv, apO]
  | succ n ih =>
    intro cc m hcc hm
    have hlt : cc < c := by omega
    have hcl := colL_words h cc i
    refine Eq.trans (rounds_cont ?_) (ih (cc := cc + 1) (by omega) (apI_mx (v := v) (t := apT r c x v tau i cc) (i := i) (cc := cc) hcl v.length 0 hm))
    have e1 : (B.add .i64).den (Vi cc) (Vi 1) = Vi (cc + 1) := add_i (by omega) (by omega)
    have c1 := column9_ok h hlt (show i ≤ r by omega)
    have htl : ((colL r c x cc i).take v.length).length = v.length := by rw [List.length_take, colL_len]; omega
    have hlp := dot9_loop hv (hcl.take v.length) htl.symm (by omega) v.length (i := 0) (s := 0) (by omega) (by decide)
    rw [show ((0 : Nat) : Int) = 0 from rfl] at hlp
    have d1 : val 153 [Vl v, Vl ((colL r c x cc i).take v.length)] = some [Vu (dotV v ((colL r c x cc i).take v.length))] := by
      refine val_of tab153 ?_
      simp [tr153, TT.dv, KS.dv, hlp, dotV]
    have m1 := mul9_ok ht (b := dotV v ((colL r c x cc i).take v.length)) (dotR_lt _ (by decide))
    have hin := fun x4 x8 x9 x10 x12 => ap9_inner h hv ht hi hlt (x4 := x4) (x8 := x8) (x9 := x9) (x10 := x10) (x12 := x12) (t := apT r c x v tau i cc) mulV_lt v.length (j := 0) (by omega) hm
    simp only [show ((0 : Nat) : Int) = 0 from rfl] at hin
    rw [show mulV tau (dotV v ((colL r c x cc i).take v.length)) = apT r c x v tau i cc from rfl] at m1
    have hle : v.length ≤ r - i := by omega
    simp [lo190_1, TT.dv, KS.dv, hlt, e1, c1, take_V, d1, m1, hin, hle]
theorem apply_ok {k : Nat} (hk : k ≤ c) : val 238 [Vi r, Vi c, Vl x, Vi i, Vi k, Vl v, Vu tau] = some [Vi r, Vi c, Vl (apV r c x i k v tau), Vi 0] := by
  refine val_of tab238 ?_
  have hr := h.hr
  have hc := h.hc
  have h1 := check_ok r c x
  rw [if_pos (mx_right h)] at h1
  have hs := h.small
  have hlp := ap_outer h hv ht hi (k := k) (x7 := Vi 0) (c - k) (cc := k) (m := x) (by omega) h
  have e1 : (B.sub .i64).den (Vi r) (Vi v.length) = Vi ((r : Int) - v.length) := sub_i (by omega) (by omega)
  simp [tr238, TT.dv, KS.dv, h1, e1, show ¬ (i : Int) < 0 by omega, show ¬ r < v.length by omega, show ¬ ((r : Int) - v.length < i) by omega, show ¬ (k : Int) < 0 by omega, show ¬ c < k by omega, show (x.length : Int) ≤ 17592186044416 by omega, hlp, apV]
theorem apply9_ok {k : Nat} (hk : k ≤ c) : val 190 [Vi r, Vi c, Vl x, Vi i, Vi k, Vl v, Vu tau] = some [Vi r, Vi c, Vl (apV r c x i k v tau)] := by
  refine val_of tab190 ?_
  have hlp := ap9_outer h hv ht hi (k := k) (c - k) (cc := k) (m := x) (by omega) h
  simp [tr190, TT.dv, KS.dv, hlp, apV]
theorem apV_mx {k : Nat} : Mx r c (apV r c x i k v tau) := apO_mx h _ _ h
end
end Go.Proofs.YthchhkghjfendabGreat.Dx

namespace Go.Proofs.YthchhkghjfendabGreat.Dx
open Go

end Go.Proofs.YthchhkghjfendabGreat.Dx

namespace Go.Proofs.YthchhkghjfendabGreat.Dx
open Go

theorem normV_lt (x : List Nat) (hx : Words x) : normV x < 18446744073709551616 := by
  unfold normV
  split
  · have := bigV_lt x; omega
  · exact scaleV_lt (sqrtV_lt (sqrR_lt _ (by decide))) _
def nou (x : List Nat) : Nat → Nat → Bool
  | 0, _ => true
  | n + 1, i => decide (fKind (el x i) = 0) && nou x n (i + 1)
theorem el_drop (x : List Nat) (n i : Nat) : el (x.drop n) i = el x (n + i) := by
  unfold el; rw [List.getD_eq_getElem?_getD, List.getD_eq_getElem?_getD, List.getElem?_drop]
theorem nou_drop (x : List Nat) : ∀ (n i : Nat), nou (x.drop 1) n i = nou x n (i + 1)
  | 0, _ => rfl
  | n + 1, i => by unfold nou; rw [el_drop, Nat.add_comm 1 i, nou_drop x n (i + 1)]
theorem nou_loop {x : List Nat} {x1 : PV} (h64 : x.length < 9000000000000000000) : ∀ (n : Nat) {i : Nat}, i + n = x.length →
    rounds (fun vs => lo243_1.dv (Vl x :: vs)) [x1, Vi i] = some (if nou x n i then .y (.ext 0) [x1] else .y .ret []) := by
  intro n
  induction n with
  | zero =>
    intro i hi
    refine rounds_exit ?_ (by simp [nou])
    simp [lo243_1, TT.dv, show ¬ i < x.length by omega, nou]
  | succ n ih =>
    intro i hi
    have g1 := get_V (x := x) (i := i) (by omega)
    have k1 := kind_ok (el x i)
    unfold nou
    by_cases c : fKind (el x i) = 0
    · rw [decide_eq_true c, Bool.true_and]
      have e1 : (B.add .i64).den (Vi i) (Vi 1) = Vi (i + 1) := add_i (by omega) (by omega)
      refine Eq.trans (rounds_cont ?_) (ih (i := i + 1) (by omega))
      simp [lo243_1, TT.dv, show i < x.length by omega, g1, k1, c, e1]
    · rw [decide_eq_false c, Bool.false_and]
      refine rounds_exit ?_ (by simp)
      simp [lo243_1, TT.dv, show i < x.length by omega, g1, k1, c]
theorem nou9_loop {x : List Nat} {x1 : PV} (hx : Words x) (h64 : x.length < 9000000000000000000) : ∀ (n : Nat) {i : Nat}, i + n = x.length →
    rounds (fun vs => lo194_1.dv (Vl x :: vs)) [x1, Vi i] = some (if nou x n i then .y (.ext 0) [x1] else .y .ret []) := by
  intro n
  induction n with
  | zero =>
    intro i hi
    refine rounds_exit ?_ (by simp [nou])
    simp [lo194_1, TT.dv, show ¬ i < x.length by omega, nou]
  | succ n ih =>
    intro i hi
    have g1 := get_V (x := x) (i := i) (by omega)
    have k1 := kind4_ok (hx.el i)
    unfold nou
    by_cases c : fKind (el x i) = 0
    · rw [decide_eq_true c, Bool.true_and]
      have e1 : (B.add .i64).den (Vi i) (Vi 1) = Vi (i + 1) := add_i (by omega) (by omega)
      refine Eq.trans (rounds_cont ?_) (ih (i := i + 1) (by omega))
      simp [lo194_1, TT.dv, show i < x.length by omega, g1, k1, c, e1]
    · rw [decide_eq_false c, Bool.false_and]
      refine rounds_exit ?_ (by simp)
      simp [lo194_1, TT.dv, show i < x.length by omega, g1, k1, c]
def nouV (x : List Nat) : Bool := nou x (x.length - 1) 1
theorem drop_V (x : List Nat) (n : Nat) : B.drop.den (Vl x) (Vi n) = Vl (x.drop n) := by
  rw [Vl, drop_l _ rfl, Vl, List.map_drop]
theorem drop_V1 (x : List Nat) : B.drop.den (Vl x) (Vi 1) = Vl x.tail := by have := drop_V x 1; rwa [List.drop_one] at this
theorem noughts_ok {x : List Nat} (h1 : 1 ≤ x.length) (h64 : x.length < 9000000000000000000) : val 243 [Vl (x.drop 1)] = some [Vb (nouV x)] := by
  refine val_of tab243 ?_
  have h := nou_loop (x := x.drop 1) (x1 := Vb false) (by simp; omega) (x.length - 1) (i := 0) (by simp)
  rw [nou_drop, show ((0 : Nat) : Int) = 0 from rfl] at h
  unfold nouV
  rw [Nat.zero_add] at h
  cases hc : nou x (x.length - 1) 1 <;> rw [hc] at h <;> simp [tr243, TT.dv, KS.dv] <;> simp at h <;> simp [h, KS.dv]
theorem noughts9_ok {x : List Nat} (hx : Words x) (h1 : 1 ≤ x.length) (h64 : x.length < 9000000000000000000) : val 194 [Vl x] = some [Vb (nouV x)] := by
  refine val_of tab194 ?_
  have h := nou9_loop (x := x) (x1 := Vb false) hx h64 (x.length - 1) (i := 1) (by omega)
  rw [show ((1 : Nat) : Int) = 1 from rfl] at h
  unfold nouV
  cases hc : nou x (x.length - 1) 1 <;> rw [hc] at h <;> simp [tr194, TT.dv, KS.dv, h]
/-- The place of the first number that is no nought. -/
def leadI (x : List Nat) : Nat → Nat → Option Nat
  | 0, _ => none
  | n + 1, i => if fKind (el x i) ≠ 0 then some i else leadI x n (i + 1)
theorem leadI_lt {x : List Nat} : ∀ {n i j : Nat}, leadI x n i = some j → j < i + n
  | 0, _, _, h => by simp [leadI] at h
  | n + 1, i, j, h => by
    unfold leadI at h
    split at h
    · simp at h; omega
    · have := leadI_lt h; omega
theorem nou_lead {x : List Nat} : ∀ {n i : Nat}, nou x n i = false → ∃ j, leadI x n i = some j
  | 0, _, h => by simp [nou] at h
  | n + 1, i, h => by
    unfold nou at h
    unfold leadI
    by_cases c : fKind (el x i) = 0
    · rw [decide_eq_true c, Bool.true_and] at h
      rw [if_neg (by simp [c])]
      exact nou_lead h
    · rw [if_pos c]; exact ⟨i, rfl⟩
theorem lead_some {x : List Nat} (h1 : 1 ≤ x.length) (h : nouV x = false) : ∃ j, leadI x x.length 0 = some j ∧ j < x.length := by
  unfold nouV at h
  obtain ⟨n, hn⟩ : ∃ n, x.length = n + 1 := ⟨x.length - 1, by omega⟩
  rw [hn] at h ⊢
  unfold leadI
  by_cases c : fKind (el x 0) ≠ 0
  · rw [if_pos c]; exact ⟨0, rfl, by omega⟩
  · rw [if_neg c]
    obtain ⟨j, hj⟩ := nou_lead h
    have := leadI_lt hj
    exact ⟨j, hj, by omega⟩
theorem lead_loop {x : List Nat} {x1 : PV} (h64 : x.length < 9000000000000000000) : ∀ (n : Nat) {i j : Nat}, i + n = x.length → leadI x n i = some j →
    rounds (fun vs => lo242_1.dv (Vl x :: vs)) [x1, Vi i] = some (.y .ret [Vu (el x j)]) := by
  intro n
  induction n with
  | zero => intro i j _ h; simp [leadI] at h
  | succ n ih =>
    intro i j hi hj
    have g1 := get_V (x := x) (i := i) (by omega)
    have k1 := kind_ok (el x i)
    unfold leadI at hj
    by_cases c : fKind (el x i) = 0
    · rw [if_neg (by simp [c])] at hj
      have e1 : (B.add .i64).den (Vi i) (Vi 1) = Vi (i + 1) := add_i (by omega) (by omega)
      refine Eq.trans (rounds_cont ?_) (ih (i := i + 1) (by omega) hj)
      simp [lo242_1, TT.dv, show i < x.length by omega, g1, k1, c, e1]
    · rw [if_pos c] at hj
      simp at hj; subst hj
      refine rounds_exit ?_ (by simp)
      simp [lo242_1, TT.dv, show i < x.length by omega, g1, k1, c]
theorem lead9_loop {x : List Nat} {x1 : PV} (hx : Words x) (h64 : x.length < 9000000000000000000) : ∀ (n : Nat) {i j : Nat}, i + n = x.length → leadI x n i = some j →
    rounds (fun vs => lo193_1.dv (Vl x :: vs)) [x1, Vi i] = some (.y .ret [Vi j]) := by
  intro n
  induction n with
  | zero => intro i j _ h; simp [leadI] at h
  | succ n ih =>
    intro i j hi hj
    have g1 := get_V (x := x) (i := i) (by omega)
    have k1 := kind4_ok (hx.el i)
    unfold leadI at hj
    by_cases c : fKind (el x i) = 0
    · rw [if_neg (by simp [c])] at hj
      have e1 : (B.add .i64).den (Vi i) (Vi 1) = Vi (i + 1) := add_i (by omega) (by omega)
      refine Eq.trans (rounds_cont ?_) (ih (i := i + 1) (by omega) hj)
      simp [lo193_1, TT.dv, show i < x.length by omega, g1, k1, c, e1]
    · rw [if_pos c] at hj
      simp at hj; subst hj
      refine rounds_exit ?_ (by simp)
      simp [lo193_1, TT.dv, show i < x.length by omega, g1, k1, c]
theorem vlead_ok {x : List Nat} {j : Nat} (h64 : x.length < 9000000000000000000) (hj : leadI x x.length 0 = some j) : val 242 [Vl x] = some [Vu (el x j)] := by
  refine val_of tab242 ?_
  have h := lead_loop (x1 := Vu 0) h64 x.length (i := 0) (by omega) hj
  rw [show ((0 : Nat) : Int) = 0 from rfl] at h
  simp [tr242, TT.dv, KS.dv, h]
theorem lead9_ok {x : List Nat} {j : Nat} (hx : Words x) (h64 : x.length < 9000000000000000000) (hj : leadI x x.length 0 = some j) : val 193 [Vl x] = some [Vi j] := by
  refine val_of tab193 ?_
  have h := lead9_loop (x1 := Vi 0) hx h64 x.length (i := 0) (by omega) hj
  rw [show ((0 : Nat) : Int) = 0 from rfl] at h
  simp [tr193, TT.dv, KS.dv, h]
def rowG (g : Nat → Nat) (i : Nat) : Nat := if i = 0 then 4607182418800017408 else g i
theorem mk_one (g : Nat → Nat) : mk (rowG g) 1 = [4607182418800017408] := rfl
theorem row_ok {f n : Nat} {caps : List PV} (g : Nat → Nat) (h1 : 1 ≤ n) (hn : n ≤ 1000) (h : ∀ i : Nat, 1 ≤ i → i < n → val f (Vi i :: caps) = some [Vu (g i)]) : val 244 [Vi n, fnP f caps] = some [Vl (mk (rowG g) n)] := by
  have lp : ∀ (k : Nat) {i : Nat}, 1 ≤ i → i + k = n → rounds (fun vs => lo244_1.dv (Vi n :: fnP f caps :: vs)) [Vi i, Vl (mk (rowG g) i)] = some (.y (.ext 0) [Vl (mk (rowG g) n)]) := by
    intro k
    induction k with
    | zero =>
      intro i hi1 hi
      have : i = n := by omega
      subst this
      refine rounds_exit ?_ (by simp)
      simp [lo244_1, TT.dv]
    | succ k ih =>
      intro i hi1 hi
      refine Eq.trans (rounds_cont ?_) (ih (i := i + 1) (by omega) (by omega))
      have e1 : (B.add .i64).den (Vi i) (Vi 1) = Vi (i + 1) := add_i (by omega) (by omega)
      have h1 := h i hi1 (by omega)
      have a1 := app_V (mk (rowG g) i) (g i)
      have hg : rowG g i = g i := by unfold rowG; rw [if_neg (by omega)]
      have a2 := mk_succ (rowG g) i
      rw [hg] at a2
      rw [a2] at a1
      have e2 : (i : Int) + 1 ≤ 17592186044416 := by omega
      simp [lo244_1, TT.dv, show i < n by omega, e1, fnP, h1, a1, e2]
  refine val_of tab244 ?_
  have h0 := lp (n - 1) (i := 1) (Nat.le_refl _) (by omega)
  rw [show ((1 : Nat) : Int) = 1 from rfl, mk_one] at h0
  have d1 := drop_V (mk (rowG g) n) 0
  rw [show ((0 : Nat) : Int) = 0 from rfl, List.drop_zero] at d1
  have t1 := take_V (mk (rowG g) n) n
  rw [show (mk (rowG g) n).take n = mk (rowG g) n from List.take_of_length_le (by simp)] at t1
  simp [tr244, TT.dv, KS.dv, cons_V, h0, d1, t1]
def shG (x : List Nat) (k : Int) (i : Nat) : Nat := scaleV (el x i) k
def shV (x : List Nat) (k : Int) : List Nat := mk (shG x k) x.length
theorem shV_words {x : List Nat} (hx : Words x) (k : Int) : Words (shV x k) := mk_words fun i _ => scaleV_lt (hx.el i) k
@[simp] theorem shV_len (x : List Nat) (k : Int) : (shV x k).length = x.length := mk_len _ _
theorem shifted_ok {x : List Nat} (k : Int) (hl : x.length ≤ 1000) : val 245 [Vl x, Vi k] = some [Vl (shV x k)] := by
  have lp : ∀ (n : Nat) {i : Nat}, i + n = x.length → rounds (fun vs => lo245_1.dv (Vl x :: Vi k :: vs)) [Vi i, Vl (mk (shG x k) i)] = some (.y (.ext 0) [Vl (shV x k)]) := by
    intro n
    induction n with
    | zero =>
      intro i hi
      have : i = x.length := by omega
      subst this
      refine rounds_exit ?_ (by simp)
      simp [lo245_1, TT.dv, shV]
    | succ n ih =>
      intro i hi
      refine Eq.trans (rounds_cont ?_) (ih (i := i + 1) (by omega))
      have e1 : (B.add .i64).den (Vi i) (Vi 1) = Vi (i + 1) := add_i (by omega) (by omega)
      have g1 := get_V (x := x) (i := i) (by omega)
      have s1 := vshift_ok (el x i) k
      have a1 := app_V (mk (shG x k) i) (shG x k i)
      rw [mk_succ] at a1
      unfold shG at a1 ⊢
      have e2 : (i : Int) + 1 ≤ 17592186044416 := by omega
      simp [lo245_1, TT.dv, show i < x.length by omega, e1, g1, s1, a1, e2]
  refine val_of tab245 ?_
  have h0 := lp x.length (i := 0) (by omega)
  rw [show ((0 : Nat) : Int) = 0 from rfl, show mk (shG x k) 0 = [] from rfl] at h0
  simp [tr245, TT.dv, KS.dv, h0]
def hK (x : List Nat) : Int := expB (bigV x)
def hY (x : List Nat) : List Nat := shV x (-hK x)
def hMu (x : List Nat) : Nat := if fNeg (el x ((leadI x x.length 0).getD 0)) then normV (hY x) else fMinus (normV (hY x))
def hBeta (x : List Nat) : Nat := scaleV (hMu x) (hK x)
def hD (x : List Nat) : Nat := subV (el (hY x) 0) (hMu x)
def hVG (x : List Nat) (i : Nat) : Nat := divV (el (hY x) i) (hD x)
def hTau (x : List Nat) : Nat := divV (subV (hMu x) (el (hY x) 0)) (hMu x)
/-- The mirror's vector, tau, beta; whether there is one. -/
def mkOk (x : List Nat) : Bool := nouV x || decide (fPow (hBeta x) ≠ 2047)
def mkV (x : List Nat) : List Nat := if nouV x then mk (rowG fun _ => 0) x.length else mk (rowG (hVG x)) x.length
def mkTau (x : List Nat) : Nat := if nouV x then 0 else hTau x
def mkBeta (x : List Nat) : Nat := if nouV x then el x 0 else hBeta x
section
variable {x : List Nat} (hx : Words x) (h1 : 1 ≤ x.length) (h64 : x.length ≤ 64)
include hx h1 h64
theorem hY_words : Words (hY x) := shV_words hx _
theorem hMu_lt : hMu x < 18446744073709551616 := by
  unfold hMu
  have h := normV_lt (hY x) (hY_words hx h1 h64)
  split
  · exact h
  · exact (minus_neg h).2.2.2
theorem hBeta_lt : hBeta x < 18446744073709551616 := scaleV_lt (hMu_lt hx h1 h64) _
theorem hD_lt : hD x < 18446744073709551616 := subV_lt ((hY_words hx h1 h64).el 0) (hMu_lt hx h1 h64)
theorem mkV_words : Words (mkV x) := by
  unfold mkV
  split
  · exact mk_words fun i _ => by unfold rowG; split; decide; simp
  · exact mk_words fun i _ => by unfold rowG; split; decide; exact divV_lt
theorem mkV_len : (mkV x).length = x.length := by unfold mkV; split <;> simp
theorem mkTau_lt : mkTau x < 18446744073709551616 := by unfold mkTau; split; decide; exact divV_lt
theorem mkBeta_lt : mkBeta x < 18446744073709551616 := by unfold mkBeta; split; exact hx.el 0; exact hBeta_lt hx h1 h64
theorem make_ok (hf : finV x = true) : val 239 [Vl x] = some (if mkOk x then [Vl (mkV x), Vu (mkTau x), Vu (mkBeta x), Vi 0] else [Vl [], Vu 0, Vu 0, Vi 2]) := by
  refine val_of tab239 ?_
  have f1 := finite_v_ok hx (by omega)
  rw [hf] at f1
  have n1 := noughts_ok (x := x) h1 (by omega)
  rw [List.drop_one] at n1
  have l0 : ¬ x.length = 0 := by omega
  have l64 : ¬ (64 : Int) < x.length := by omega
  have l1 : (1 : Int) ≤ x.length := by omega
  have l2 : 0 < x.length := by omega
  have g0 := get_V (x := x) l2
  rw [show ((0 : Nat) : Int) = 0 from rfl] at g0
  unfold mkOk mkV mkTau mkBeta
  cases hn : nouV x
  · rw [hn] at n1
    have b1 := biggest_ok hx (by omega)
    have e1 := exp_ok (b := bigV x)
    have hk := expB_bd (bigV x)
    rw [show expB (bigV x) = hK x from rfl] at e1 hk
    have ng : (U.neg .i64).den (Vi (hK x)) = Vi (-hK x) := neg_i (by omega) (by omega)
    have s1 := shifted_ok (x := x) (-hK x) (by omega)
    rw [show shV x (-hK x) = hY x from rfl] at s1
    have hyl : (hY x).length = x.length := shV_len _ _
    have hyw := hY_words hx h1 h64
    have nm := norm_v_ok hyw (by omega)
    rw [if_pos (by omega)] at nm
    obtain ⟨j, hj, hjl⟩ := lead_some h1 hn
    have ld := vlead_ok (x := x) (by omega) hj
    have sg := sign_ok (el x j)
    have mn := minus_ok (normV_lt (hY x) hyw)
    have hmu : hMu x = if fNeg (el x j) then normV (hY x) else fMinus (normV (hY x)) := by unfold hMu; rw [hj]; rfl
    have sh2 := vshift_ok (hMu x) (hK x)
    rw [show scaleV (hMu x) (hK x) = hBeta x from rfl] at sh2
    have fb := finite_ok (hBeta x)
    have gy := get_V (x := hY x) (i := 0) (by omega)
    rw [show ((0 : Nat) : Int) = 0 from rfl] at gy
    have ly : 0 < (hY x).length := by omega
    have sb := vsub_ok (hyw.el 0) (hMu_lt hx h1 h64)
    rw [show subV (el (hY x) 0) (hMu x) = hD x from rfl] at sb
    have rw1 := row_ok (f := 241) (n := (hY x).length) (caps := [.a [Vl (hY x)], .a [Vu (hD x)]]) (hVG x) (by omega) (by omega) fun i i1 i2 => by
      refine val_of tab241 ?_
      have g1 := get_V (x := hY x) i2
      have d1 := vdiv_ok (hyw.el i) (hD_lt hx h1 h64)
      simp [tr241, TT.dv, i2, g1, d1, hVG]
    have ec : B.cons.den (U.toA.den (B.cons.den (Vl (hY x)) (Vl []))) (B.cons.den (U.toA.den (B.cons.den (Vu (hD x)) (Vl []))) (Vl [])) = .l [.a [Vl (hY x)], .a [Vu (hD x)]] := rfl
    have sb2 := vsub_ok (hMu_lt hx h1 h64) (hyw.el 0)
    have dv2 := vdiv_ok (subV_lt (hMu_lt hx h1 h64) (hyw.el 0)) (hMu_lt hx h1 h64)
    rw [show divV (subV (hMu x) (el (hY x) 0)) (hMu x) = hTau x from rfl] at dv2
    rw [hyl] at rw1
    by_cases hb : fPow (hBeta x) = 2047
    · rw [decide_eq_false (by simp [hb])] 
      cases hs : fNeg (el x j)
      · rw [hs] at sg hmu
        rw [if_neg (by simp)] at hmu
        rw [← hmu] at mn
        simp [tr239, TT.dv, KS.dv, l0, l64, l1, f1, drop_V1, n1, b1, e1, ng, s1, nm, ld, sg, mn, sh2, fb, hb]
      · rw [hs] at sg hmu
        rw [if_pos rfl] at hmu
        rw [← hmu] at nm
        simp [tr239, TT.dv, KS.dv, l0, l64, l1, f1, drop_V1, n1, b1, e1, ng, s1, nm, ld, sg, sh2, fb, hb]
    · rw [decide_eq_true (show fPow (hBeta x) ≠ 2047 from hb)]
      cases hs : fNeg (el x j)
      · rw [hs] at sg hmu
        rw [if_neg (by simp)] at hmu
        rw [← hmu] at mn
        simp [tr239, TT.dv, KS.dv, l0, l64, l1, l2, ly, hyl, f1, drop_V1, n1, b1, e1, ng, s1, nm, ld, sg, mn, sh2, fb, hb, gy, sb, ec, mkfn_l, rw1, sb2, dv2]
      · rw [hs] at sg hmu
        rw [if_pos rfl] at hmu
        rw [← hmu] at nm
        simp [tr239, TT.dv, KS.dv, l0, l64, l1, l2, ly, hyl, f1, drop_V1, n1, b1, e1, ng, s1, nm, ld, sg, sh2, fb, hb, gy, sb, ec, mkfn_l, rw1, sb2, dv2]
  · rw [hn] at n1
    have rw1 := row_ok (f := 240) (n := x.length) (caps := []) (fun _ => 0) h1 (by omega) fun i _ _ => val_of tab240 (by simp [tr240, TT.dv])
    have ec : (U.mkfn 240).den (Vl []) = fnP 240 [] := rfl
    simp [tr239, TT.dv, l0, l64, l1, l2, f1, drop_V1, n1, ec, rw1, g0]
theorem make9_ok (hf : finV x = true) : val 192 [Vl x] = some (if mkOk x then [Vl (mkV x), Vu (mkTau x), Vu (mkBeta x), Vb true] else [Vl [], Vu 0, Vu 0, Vb false]) := by
  refine val_of tab192 ?_
  have n1 := noughts9_ok hx h1 (by omega)
  have l2 : 0 < x.length := by omega
  have g0 := get_V (x := x) l2
  rw [show ((0 : Nat) : Int) = 0 from rfl] at g0
  unfold mkOk mkV mkTau mkBeta
  cases hn : nouV x
  · rw [hn] at n1
    have hbl := bigV_lt x
    have b1 := biggest9_ok hx (by omega)
    have e1 := exp8_ok (b := bigV x) (by omega)
    have hk := expB_bd (bigV x)
    rw [show expB (bigV x) = hK x from rfl] at e1 hk
    have ng : (B.sub .i64).den (Vi 0) (Vi (hK x)) = Vi (-hK x) := by rw [sub_i (by omega) (by omega)]; exact congrArg Vi (by omega)
    have lp2 : ∀ (x1 x2 : PV) (n : Nat) {i : Nat}, i + n = x.length → rounds (fun vs => lo192_2.dv (Vl x :: x1 :: x2 :: Vi (hK x) :: vs)) [Vi i, Vl (mk (shG x (-hK x)) i)] = some (.y (.ext 2) [Vl (hY x)]) := by
      intro x1 x2 n
      induction n with
      | zero =>
        intro i hi
        have : i = x.length := by omega
        subst this
        refine rounds_exit ?_ (by simp)
        simp [lo192_2, TT.dv, hY, shV]
      | succ n ih =>
        intro i hi
        refine Eq.trans (rounds_cont ?_) (ih (i := i + 1) (by omega))
        have a0 : (B.add .i64).den (Vi i) (Vi 1) = Vi (i + 1) := add_i (by omega) (by omega)
        have g1 := get_V (x := x) (i := i) (by omega)
        have s1 := shift9_ok (hx.el i) (k := -hK x) (by omega) (by omega)
        have a1 := app_V (mk (shG x (-hK x)) i) (shG x (-hK x) i)
        rw [mk_succ] at a1
        unfold shG at a1 ⊢
        have e2 : (i : Int) + 1 ≤ 17592186044416 := by omega
        simp [lo192_2, TT.dv, show i < x.length by omega, ng, a0, g1, s1, a1, e2]
    have hyl : (hY x).length = x.length := shV_len _ _
    have hyw := hY_words hx h1 h64
    have nm := norm_9_ok hyw (by omega)
    obtain ⟨j, hj, hjl⟩ := lead_some h1 hn
    have ld := lead9_ok hx (by omega) hj
    have gj := get_V (x := x) hjl
    have sg := neg4_ok (hx.el j)
    have mn := minus4_ok (normV_lt (hY x) hyw)
    have hmu : hMu x = if fNeg (el x j) then normV (hY x) else fMinus (normV (hY x)) := by unfold hMu; rw [hj]; rfl
    have hml := hMu_lt hx h1 h64
    have sh2 := shift9_ok hml (k := hK x) (by omega) (by omega)
    rw [show scaleV (hMu x) (hK x) = hBeta x from rfl] at sh2
    have fb := finite4_ok (hBeta_lt hx h1 h64)
    have pb := fPow_lt (hBeta x)
    have gy := get_V (x := hY x) (i := 0) (by omega)
    rw [show ((0 : Nat) : Int) = 0 from rfl] at gy
    have ly : 0 < (hY x).length := by omega
    have sb := sub9_ok (hyw.el 0) hml
    rw [show subV (el (hY x) 0) (hMu x) = hD x from rfl] at sb
    have hdl := hD_lt hx h1 h64
    have sb2 := sub9_ok hml (hyw.el 0)
    have dv2 := div9_ok (subV_lt hml (hyw.el 0)) hml
    rw [show divV (subV (hMu x) (el (hY x) 0)) (hMu x) = hTau x from rfl] at dv2
    have lp3 : ∀ (x1 x2 x3 x5 x6 x7 x8 : PV) (n : Nat) {i : Nat}, 1 ≤ i → i + n = x.length → rounds (fun vs => lo192_3.dv (Vl x :: x1 :: x2 :: x3 :: Vl (hY x) :: x5 :: x6 :: x7 :: x8 :: Vu (hD x) :: vs)) [Vi i, Vl (mk (rowG (hVG x)) i)] = some (.y (.ext 4) [Vl (mk (rowG (hVG x)) x.length)]) := by
      intro x1 x2 x3 x5 x6 x7 x8 n
      induction n with
      | zero =>
        intro i hi1 hi
        have : i = x.length := by omega
        subst this
        refine rounds_exit ?_ (by simp)
        simp [lo192_3, TT.dv, hyl]
      | succ n ih =>
        intro i hi1 hi
        refine Eq.trans (rounds_cont ?_) (ih (i := i + 1) (by omega) (by omega))
        have a0 : (B.add .i64).den (Vi i) (Vi 1) = Vi (i + 1) := add_i (by omega) (by omega)
        have g1 := get_V (x := hY x) (i := i) (by omega)
        have d1 := div9_ok (hyw.el i) hdl
        have hg : rowG (hVG x) i = divV (el (hY x) i) (hD x) := by unfold rowG; rw [if_neg (by omega)]; rfl
        have a1 := app_V (mk (rowG (hVG x)) i) (divV (el (hY x) i) (hD x))
        have a2 := mk_succ (rowG (hVG x)) i
        rw [hg] at a2
        rw [a2] at a1
        have e2 : (i : Int) + 1 ≤ 17592186044416 := by omega
        simp [lo192_3, TT.dv, hyl, show i < x.length by omega, a0, g1, d1, a1, e2]
    have lq2 := fun x1 x2 => lp2 x1 x2 x.length (i := 0) (by omega)
    have lq3 := fun x1 x2 x3 x5 x6 x7 x8 => lp3 x1 x2 x3 x5 x6 x7 x8 (x.length - 1) (i := 1) (Nat.le_refl _) (by omega)
    simp only [show ((0 : Nat) : Int) = 0 from rfl, show mk (shG x (-hK x)) 0 = [] from rfl] at lq2
    simp only [show ((1 : Nat) : Int) = 1 from rfl, mk_one] at lq3
    by_cases hb : fPow (hBeta x) = 2047
    · rw [decide_eq_false (by simp [hb])] 
      cases hs : fNeg (el x j)
      · rw [hs] at sg hmu
        rw [if_neg (by simp)] at hmu
        rw [← hmu] at mn
        simp [tr192, TT.dv, KS.dv, n1, b1, e1, lq2, nm, ld, hjl, gj, sg, mn, sh2, fb, hb]
      · rw [hs] at sg hmu
        rw [if_pos rfl] at hmu
        rw [← hmu] at nm
        simp [tr192, TT.dv, KS.dv, n1, b1, e1, lq2, nm, ld, hjl, gj, sg, sh2, fb, hb]
    · rw [decide_eq_true (show fPow (hBeta x) ≠ 2047 from hb)]
      have hb' : fPow (hBeta x) < 2047 := by omega
      cases hs : fNeg (el x j)
      · rw [hs] at sg hmu
        rw [if_neg (by simp)] at hmu
        rw [← hmu] at mn
        simp [tr192, TT.dv, KS.dv, n1, b1, e1, lq2, nm, ld, hjl, gj, sg, mn, sh2, fb, hb', ly, gy, sb, cons_V, lq3, sb2, dv2]
      · rw [hs] at sg hmu
        rw [if_pos rfl] at hmu
        rw [← hmu] at nm
        simp [tr192, TT.dv, KS.dv, n1, b1, e1, lq2, nm, ld, hjl, gj, sg, sh2, fb, hb', ly, gy, sb, cons_V, lq3, sb2, dv2]
  · rw [hn] at n1
    have lp1 : ∀ (x1 : PV) (n : Nat) {i : Nat}, 1 ≤ i → i + n = x.length → rounds (fun vs => lo192_1.dv (Vl x :: x1 :: vs)) [Vi i, Vl (mk (rowG fun _ => 0) i)] = some (.y (.ext 0) [Vl (mk (rowG fun _ => 0) x.length)]) := by
      intro x1 n
      induction n with
      | zero =>
        intro i hi1 hi
        have : i = x.length := by omega
        subst this
        refine rounds_exit ?_ (by simp)
        simp [lo192_1, TT.dv]
      | succ n ih =>
        intro i hi1 hi
        refine Eq.trans (rounds_cont ?_) (ih (i := i + 1) (by omega) (by omega))
        have a0 : (B.add .i64).den (Vi i) (Vi 1) = Vi (i + 1) := add_i (by omega) (by omega)
        have hg : rowG (fun _ => 0) i = 0 := by unfold rowG; rw [if_neg (by omega)]
        have a1 := app_V (mk (rowG fun _ => 0) i) 0
        have a2 := mk_succ (rowG fun _ => 0) i
        rw [hg] at a2
        rw [a2] at a1
        have e2 : (i : Int) + 1 ≤ 17592186044416 := by omega
        simp [lo192_1, TT.dv, show i < x.length by omega, a0, a1, e2]
    have lq1 := fun x1 => lp1 x1 (x.length - 1) (i := 1) (Nat.le_refl _) (by omega)
    simp only [show ((1 : Nat) : Int) = 1 from rfl, mk_one] at lq1
    simp [tr192, TT.dv, KS.dv, n1, cons_V, lq1, l2, g0]
end
end Go.Proofs.YthchhkghjfendabGreat.Dx

namespace Go.Proofs.YthchhkghjfendabGreat.Dx
open Go

theorem make_inf {x : List Nat} (hx : Words x) (h1 : 1 ≤ x.length) (h64 : x.length ≤ 64) (hf : finV x = false) : val 239 [Vl x] = some [Vl [], Vu 0, Vu 0, Vi 4] := by
  refine val_of tab239 ?_
  have f1 := finite_v_ok hx (by omega)
  rw [hf] at f1
  simp [tr239, TT.dv, show ¬ x.length = 0 by omega, show ¬ (64 : Int) < x.length by omega, f1]
end Go.Proofs.YthchhkghjfendabGreat.Dx

namespace Go.Proofs.YthchhkghjfendabGreat.Dx
open Go

section
variable {r c : Nat} {x : List Nat} (h : Mx r c x) {i : Nat} (hi : i < r)
include h hi
theorem row_end : (i + 1) * c ≤ x.length := by rw [h.len]; exact Nat.mul_le_mul_right c hi
theorem row_ints : (B.mul .i64).den (Vi i) (Vi c) = Vi ((i * c : Nat) : Int) ∧ (B.mul .i64).den ((B.add .i64).den (Vi i) (Vi 1)) (Vi c) = Vi (((i + 1) * c : Nat) : Int) := by
  have h1 := h.hr
  have h2 := h.hc
  have h3 : i * c ≤ 6 * 6 := Nat.mul_le_mul (by omega) h2
  have h4 : (i + 1) * c ≤ 6 * 6 := Nat.mul_le_mul (by omega) h2
  have e1 : (i : Int) * c = ((i * c : Nat) : Int) := by rw [Int.natCast_mul]
  have e2 : ((i : Int) + 1) * c = (((i + 1) * c : Nat) : Int) := by rw [Int.natCast_mul]; rfl
  rw [add_i (by omega) (by omega), mul_i (by rw [e1]; omega) (by rw [e1]; omega), mul_i (by rw [e2]; omega) (by rw [e2]; omega), e1, e2]
  exact ⟨rfl, rfl⟩
end
section
variable {ra ca rb cb : Nat} {x y : List Nat} (h : Mx ra ca x) (h' : Mx rb cb y) (hcr : ca = rb)
include h h' hcr
end
section
variable {r c : Nat} {x : List Nat} (h : Mx r c x) {i k m n : Nat} (hi : i + m ≤ r) (hk : k + n ≤ c)
include h hi hk
end
def eyG (i k : Nat) : Nat := if i = k then 4607182418800017408 else 0
def eyV (n : Nat) : List Nat := matL eyG n n
theorem eyV_mx {n : Nat} (hn : n ≤ 6) : Mx n n (eyV n) := matL_mx hn hn fun i k _ _ => by unfold eyG; split <;> decide
theorem eye_ok {n : Nat} (hn : n ≤ 6) : val 248 [Vi n] = some [Vi n, Vi n, Vl (eyV n), Vi 0] := by
  refine val_of tab248 ?_
  have h1 := size_ok n
  rw [decide_eq_true (by omega)] at h1
  have h2 := mof_ok (f := 249) (r := n) (c := n) (caps := []) (g := eyG) hn hn fun i k _ _ => by
    refine val_of tab249 ?_
    unfold eyG
    by_cases h : i = k
    · simp [tr249, TT.dv, h]
    · simp [tr249, TT.dv, h, show ¬ (i : Int) = k by omega]
  have ec : (U.mkfn 249).den (Vl []) = fnP 249 [] := rfl
  simp [tr248, TT.dv, h1, ec, h2, eyV]
theorem eye9_ok {n : Nat} (hn : n ≤ 6) : val 169 [Vi n] = some [Vi n, Vi n, Vl (eyV n)] := by
  refine val_of tab169 ?_
  have hz := zeros_ok hn hn
  have lp : ∀ (x1 x2 x3 : PV) (t : Nat) {i : Nat} {m : List Nat}, i + t = n → Mx n n m → rounds (fun vs => lo169_1.dv (Vi n :: x1 :: x2 :: x3 :: vs)) [Vi i, Vi n, Vi n, Vl m] = some (.y (.ext 0) [Vi n, Vi n, Vl (fin1 (fun i => ps i n i) (fun _ => 4607182418800017408) t i m)]) := by
    intro x1 x2 x3 t
    induction t with
    | zero =>
      intro i m hi hm
      have : i = n := by omega
      subst this
      refine rounds_exit ?_ (by simp)
      simp [lo169_1, TT.dv, fin1]
    | succ t ih =>
      intro i m hi hm
      have hin : i < n := by omega
      refine Eq.trans (rounds_cont ?_) (ih (i := i + 1) (by omega) (hm.set (p := ps i n i) (v := 4607182418800017408) (by decide)))
      have e1 : (B.add .i64).den (Vi i) (Vi 1) = Vi (i + 1) := add_i (by omega) (by omega)
      have w1 := with_ok hm (i := i) (k := i) (b := 4607182418800017408) hin hin
      simp [lo169_1, TT.dv, hin, e1, w1]
  have hlp := lp (Vi n) (Vi n) (Vl (List.replicate (n * n) 0)) n (i := 0) (by omega) (zeros_mx hn hn)
  rw [show ((0 : Nat) : Int) = 0 from rfl] at hlp
  have he : fin1 (fun i => ps i n i) (fun _ => 4607182418800017408) n 0 (List.replicate (n * n) 0) = eyV n := by
    refine mat_ext (r := n) (c := n) (by rw [fin1_len]; simp) (matL_len _ _ _) fun i k hi hk => ?_
    unfold eyV
    rw [el_matL _ hi hk]
    unfold eyG
    by_cases h : i = k
    · subst h
      rw [if_pos rfl]
      exact fin1_at (pos := fun i => ps i n i) (v := fun _ => 4607182418800017408) n 0 _ (fun j _ h2 => by rw [List.length_replicate]; exact ps_lt (by omega) (by omega))
        (fun j j' _ a _ a' hh => (ps_inj (by omega) (by omega) hh).1) i (Nat.zero_le _) (by omega)
    · rw [if_neg h, fin1_other n 0 _ (fun j _ h2 hh => by have := ps_inj (by omega) hk hh; omega)]
      unfold el
      rw [List.getD_eq_getElem?_getD, List.getElem?_replicate]
      split <;> rfl
  rw [he] at hlp
  simp [tr169, TT.dv, KS.dv, hz, hlp]
end Go.Proofs.YthchhkghjfendabGreat.Dx

namespace Go.Proofs.YthchhkghjfendabGreat.Dx
open Go

def chk (R C : Int) (x : List Nat) : Int := if rightP R C x then (if finV x then 0 else 4) else 1
theorem fin2_loop {x : List Nat} {x0 x1 x3 x4 : PV} (h64 : x.length < 9000000000000000000) : ∀ (n : Nat) {i : Nat}, i + n = x.length →
    rounds (fun vs => lo2_1.dv (x0 :: x1 :: Vl x :: x3 :: vs)) [x4, Vi i] = some (if finR x n i then .y (.ext 0) [x4] else .y .ret []) := by
  intro n
  induction n with
  | zero =>
    intro i hi
    refine rounds_exit ?_ (by simp [finR])
    simp [lo2_1, TT.dv, show ¬ i < x.length by omega, finR]
  | succ n ih =>
    intro i hi
    have g1 := get_V (x := x) (i := i) (by omega)
    have f1 := finite_ok (el x i)
    unfold finR
    by_cases c : fPow (el x i) = 2047
    · rw [if_pos c]
      refine rounds_exit ?_ (by simp)
      simp [lo2_1, TT.dv, show i < x.length by omega, g1, f1, c]
    · rw [if_neg c]
      have e1 : (B.add .i64).den (Vi i) (Vi 1) = Vi (i + 1) := add_i (by omega) (by omega)
      refine Eq.trans (rounds_cont ?_) (ih (i := i + 1) (by omega))
      simp [lo2_1, TT.dv, show i < x.length by omega, g1, f1, c, e1]
theorem ccheck_ok (R C : Int) {x : List Nat} (h : x.length ≤ 17592186043904) : val 2 [Vi R, Vi C, Vl x] = some [Vi (chk R C x)] := by
  refine val_of tab2 ?_
  have h1 := check_ok R C x
  unfold chk
  by_cases c : rightP R C x
  · rw [if_pos c] at h1 ⊢
    have hl := fun x0 x1 x3 x4 => fin2_loop (x := x) (x0 := x0) (x1 := x1) (x3 := x3) (x4 := x4) (by omega) x.length (i := 0) (by omega)
    simp only [show ((0 : Nat) : Int) = 0 from rfl] at hl
    unfold finV
    cases hc : finR x x.length 0
    · simp only [hc] at hl
      simp [tr2, TT.dv, KS.dv, h1, hl]
    · simp only [hc] at hl
      simp [tr2, TT.dv, KS.dv, h1, hl]
  · rw [if_neg c] at h1 ⊢
    simp [tr2, TT.dv, h1]
theorem ccheck9_ok (R C : Int) {x : List Nat} (hw : Words x) (h : x.length ≤ 17592186043904) : val 178 [Vi R, Vi C, Vl x] = some [Vi (chk R C x)] := by
  refine val_of tab178 ?_
  have h1 := right_ok10 R C x
  have h2 := finite_9_ok hw (by omega)
  unfold chk
  by_cases c : rightP R C x
  · rw [decide_eq_true c] at h1
    rw [if_pos c]
    cases hc : finV x <;> rw [hc] at h2 <;> simp [tr178, TT.dv, h1, h2]
  · rw [decide_eq_false c] at h1
    rw [if_neg c]
    simp [tr178, TT.dv, h1]
def clI (c j : Nat) : Nat → Nat → List Nat → List Nat
  | 0, _, m => m
  | n + 1, i, m => clI c j n (i + 1) (m.set (ps i c j) 0)
def clV (r c : Nat) (m : List Nat) (j beta : Nat) : List Nat := clI c j (r - (j + 1)) (j + 1) (m.set (ps j c j) beta)
theorem clI_mx {r c j : Nat} : ∀ (n i : Nat) {m : List Nat}, Mx r c m → Mx r c (clI c j n i m)
  | 0, _, _, h => h
  | n + 1, i, m, h => clI_mx n (i + 1) (h.set (by decide))
theorem clV_mx {r c j beta : Nat} {m : List Nat} (h : Mx r c m) (hb : beta < 18446744073709551616) : Mx r c (clV r c m j beta) := clI_mx _ _ (h.set hb)
section
variable {r c j : Nat} (hjr : j < r) (hjc : j < c)
include hjr hjc
theorem cl9_loop {x0 x1 x2 x4 x5 x6 x7 : PV} : ∀ (n : Nat) {i : Nat} {m : List Nat}, i + n = r → Mx r c m →
    rounds (fun vs => lo197_1.dv (x0 :: x1 :: x2 :: Vi j :: x4 :: x5 :: x6 :: x7 :: vs)) [Vi i, Vi r, Vi c, Vl m] = some (.y (.ext 0) [Vi r, Vi c, Vl (clI c j n i m)]) := by
  intro n
  induction n with
  | zero =>
    intro i m hi hm
    have : i = r := by omega
    subst this
    refine rounds_exit ?_ (by simp)
    simp [lo197_1, TT.dv, clI]
  | succ n ih =>
    intro i m hi hm
    have hir : i < r := by omega
    have h1 := hm.hr
    refine Eq.trans (rounds_cont ?_) (ih (i := i + 1) (by omega) (hm.set (p := ps i c j) (v := 0) (by decide)))
    have e1 : (B.add .i64).den (Vi i) (Vi 1) = Vi (i + 1) := add_i (by omega) (by omega)
    have w1 := with_ok hm (i := i) (k := j) (b := 0) hir hjc
    simp [lo197_1, TT.dv, hir, e1, w1]
end
abbrev Mir := List Nat × Nat × Nat
def mrP (m : Mir) : PV := .a [Vl m.1, Vu m.2.1]
def mrP9 (m : Mir) : PV := .a [Vl m.1, Vu m.2.1, Vu m.2.2]
def dnOk (r c j : Nat) (x : List Nat) : Bool := finV (colL r c x j j) && mkOk (colL r c x j j)
def dnM (r c j : Nat) (x : List Nat) : Mir := (mkV (colL r c x j j), mkTau (colL r c x j j), mkBeta (colL r c x j j))
def dnX (r c j : Nat) (x : List Nat) : List Nat := clV r c (apV r c x j j (dnM r c j x).1 (dnM r c j x).2.1) j (dnM r c j x).2.2
structure MirOK (r j : Nat) (m : Mir) : Prop where
  len : m.1.length = r - j
  w : Words m.1
  t : m.2.1 < 18446744073709551616
  b : m.2.2 < 18446744073709551616
section
variable {r c j : Nat} {x : List Nat} (h : Mx r c x) (hj : j < c) (hjr : j < r)
include h hj hjr
theorem dnM_ok : MirOK r j (dnM r c j x) := by
  have hr := h.hr
  have hw := colL_words h j j
  have hl : (colL r c x j j).length = r - j := colL_len _ _ _ _ _
  exact ⟨(mkV_len hw (by omega) (by omega)).trans hl, mkV_words hw (by omega) (by omega), mkTau_lt hw (by omega) (by omega), mkBeta_lt hw (by omega) (by omega)⟩
theorem dnX_mx : Mx r c (dnX r c j x) := by
  have hm := dnM_ok h hj hjr
  exact clV_mx (apV_mx h hm.w hm.t (i := j) (by rw [hm.len]; omega)) hm.b
theorem dmake_ok : val 239 [Vl (colL r c x j j)] = some (if dnOk r c j x then [Vl (dnM r c j x).1, Vu (dnM r c j x).2.1, Vu (dnM r c j x).2.2, Vi 0] else [Vl [], Vu 0, Vu 0, Vi (if finV (colL r c x j j) then 2 else 4)]) := by
  have hr := h.hr
  have hw := colL_words h j j
  have hl : (colL r c x j j).length = r - j := colL_len _ _ _ _ _
  unfold dnOk dnM
  cases hf : finV (colL r c x j j)
  · rw [make_inf hw (by omega) (by omega) hf]; simp
  · rw [make_ok hw (by omega) (by omega) hf]; simp
theorem dapply_ok : val 238 [Vi r, Vi c, Vl x, Vi j, Vi j, Vl (dnM r c j x).1, Vu (dnM r c j x).2.1] = some [Vi r, Vi c, Vl (apV r c x j j (dnM r c j x).1 (dnM r c j x).2.1), Vi 0] := by
  have hm := dnM_ok h hj hjr
  exact apply_ok h hm.w hm.t (i := j) (by rw [hm.len]; omega) (by omega)
theorem dapply9_ok : val 190 [Vi r, Vi c, Vl x, Vi j, Vi j, Vl (dnM r c j x).1, Vu (dnM r c j x).2.1] = some [Vi r, Vi c, Vl (apV r c x j j (dnM r c j x).1 (dnM r c j x).2.1)] := by
  have hm := dnM_ok h hj hjr
  exact apply9_ok h hm.w hm.t (i := j) (by rw [hm.len]; omega) (by omega)
theorem dapply_mx : Mx r c (apV r c x j j (dnM r c j x).1 (dnM r c j x).2.1) := by
  have hm := dnM_ok h hj hjr
  exact apV_mx h hm.w hm.t (i := j) (by rw [hm.len]; omega)
end
def ML (ms : List Mir) : PV := .l (ms.map mrP)
def ML9 (ms : List Mir) : PV := .l (ms.map mrP9)
theorem ML_nil : Vl [] = ML [] := rfl
theorem ML9_nil : Vl [] = ML9 [] := rfl
theorem len_ML (ms : List Mir) : U.len.den (ML ms) = Vi ms.length := by simp [ML]
theorem len_ML9 (ms : List Mir) : U.len.den (ML9 ms) = Vi ms.length := by simp [ML9]
theorem app_ML (ms : List Mir) (m : Mir) : B.app.den (ML ms) (B.cons.den (U.toA.den (B.cons.den (Vl m.1) (B.cons.den (Vu m.2.1) (Vl [])))) (Vl [])) = ML (ms ++ [m]) := by
  show PV.l (ms.map mrP ++ [.a [Vl m.1, Vu m.2.1]]) = _
  unfold ML; rw [List.map_append]; rfl
theorem app_ML9 (ms : List Mir) (m : Mir) : B.app.den (ML9 ms) (B.cons.den (U.toA.den (B.cons.den (Vl m.1) (B.cons.den (Vu m.2.1) (B.cons.den (Vu m.2.2) (Vl []))))) (Vl [])) = ML9 (ms ++ [m]) := by
  show PV.l (ms.map mrP9 ++ [.a [Vl m.1, Vu m.2.1, Vu m.2.2]]) = _
  unfold ML9; rw [List.map_append]; rfl
def MsOK (r : Nat) (ms : List Mir) : Prop := ∀ j m, ms[j]? = some m → MirOK r j m
theorem MsOK.app {r : Nat} {ms : List Mir} (h : MsOK r ms) {m : Mir} (hm : MirOK r ms.length m) : MsOK r (ms ++ [m]) := by
  intro j m' hj
  rcases Nat.lt_or_ge j ms.length with h1 | h1
  · rw [List.getElem?_append_left h1] at hj; exact h j m' hj
  · rw [List.getElem?_append_right h1] at hj
    have : j = ms.length := by
      rcases Nat.eq_or_lt_of_le h1 with h2 | h2
      · exact h2.symm
      · rw [List.getElem?_eq_none (by simp; omega)] at hj; cases hj
    subst this
    simp at hj; subst hj; exact hm
end Go.Proofs.YthchhkghjfendabGreat.Dx

namespace Go.Proofs.YthchhkghjfendabGreat.Dx
open Go

def mir (ms : List Mir) (n : Nat) : Mir := ms.getD n ([], 0, 0)
theorem mir_some {ms : List Mir} {n : Nat} (h : n < ms.length) : ms[n]? = some (mir ms n) := by
  unfold mir; rw [List.getD_eq_getElem?_getD, List.getElem?_eq_getElem h]; rfl
theorem get_ML {ms : List Mir} {n : Nat} (h : n < ms.length) : B.get.den (ML ms) (Vi n) = .a [Vl (mir ms n).1, Vu (mir ms n).2.1] := by
  show (PV.l (ms.map mrP)).list.getD (Vi n).int.toNat default = _
  rw [int_I, Int.toNat_natCast, PV.list, List.getD_eq_getElem?_getD, List.getElem?_map, mir_some h]; rfl
theorem get_ML9 {ms : List Mir} {n : Nat} (h : n < ms.length) : B.get.den (ML9 ms) (Vi n) = .a [Vl (mir ms n).1, Vu (mir ms n).2.1, Vu (mir ms n).2.2] := by
  show (PV.l (ms.map mrP9)).list.getD (Vi n).int.toNat default = _
  rw [int_I, Int.toNat_natCast, PV.list, List.getD_eq_getElem?_getD, List.getElem?_map, mir_some h]; rfl
def backR (r : Nat) (ms : List Mir) : Nat → List Nat → List Nat
  | 0, q => q
  | n + 1, q => backR r ms n (apV r r q n 0 (mir ms n).1 (mir ms n).2.1)
section
variable {r : Nat} {ms : List Mir} (hms : MsOK r ms) (hml : ms.length ≤ r)
include hms hml
theorem mir_ok {n : Nat} (h : n < ms.length) : MirOK r n (mir ms n) := hms n _ (mir_some h)
theorem back_step_mx {q : List Nat} (hq : Mx r r q) {n : Nat} (h : n < ms.length) : Mx r r (apV r r q n 0 (mir ms n).1 (mir ms n).2.1) := by
  have hm := mir_ok hms hml h
  exact apV_mx hq hm.w hm.t (i := n) (by rw [hm.len]; omega)
theorem backR_mx : ∀ (n : Nat) {q : List Nat}, n ≤ ms.length → Mx r r q → Mx r r (backR r ms n q)
  | 0, _, _, hq => hq
  | n + 1, q, h, hq => backR_mx n (by omega) (back_step_mx hms hml hq (show n < ms.length by omega))
theorem back_ap {q : List Nat} (hq : Mx r r q) {n : Nat} (h : n < ms.length) : val 238 [Vi r, Vi r, Vl q, Vi n, Vi 0, Vl (mir ms n).1, Vu (mir ms n).2.1] = some [Vi r, Vi r, Vl (apV r r q n 0 (mir ms n).1 (mir ms n).2.1), Vi 0] := by
  have hm := mir_ok hms hml h
  have := apply_ok hq hm.w hm.t (i := n) (by rw [hm.len]; omega) (k := 0) (by omega)
  exact this
theorem back_ap9 {q : List Nat} (hq : Mx r r q) {n : Nat} (h : n < ms.length) : val 190 [Vi r, Vi r, Vl q, Vi n, Vi 0, Vl (mir ms n).1, Vu (mir ms n).2.1] = some [Vi r, Vi r, Vl (apV r r q n 0 (mir ms n).1 (mir ms n).2.1)] := by
  have hm := mir_ok hms hml h
  have := apply9_ok hq hm.w hm.t (i := n) (by rw [hm.len]; omega) (k := 0) (by omega)
  exact this
end
def qrQ (r : Nat) (ms : List Mir) : List Nat := backR r ms ms.length (eyV r)
end Go.Proofs.YthchhkghjfendabGreat.Dx

namespace Go.Proofs.YthchhkghjfendabGreat.Dx
open Go

theorem same_nil : val 174 [Vi 0, Vi 0, Vl [], Vi 0, Vi 0, Vl []] = some [Vb true] := same_m 0 0 (x := []) (by decide)
theorem chk_cases (R C : Int) (x : List Nat) : chk R C x ≠ 0 ∨ (chk R C x = 0 ∧ rightP R C x ∧ finV x = true) := by
  unfold chk
  by_cases h : rightP R C x
  · rw [if_pos h]
    cases hf : finV x
    · left; simp
    · right; exact ⟨by simp, h, rfl⟩
  · rw [if_neg h]; left; decide
end Go.Proofs.YthchhkghjfendabGreat.Dx

namespace Go.Proofs.YthchhkghjfendabGreat.Dx
open Go

section
variable {r c : Nat} {y : List Nat} (h : Mx r c y) (hu : ∀ a b, b < a → a < r → b < c → el y (ps a c b) = 0)
include h hu
end
end Go.Proofs.YthchhkghjfendabGreat.Dx

namespace Go.Proofs.YthchhkghjfendabGreat.Dx
open Go

theorem finR_iff {x : List Nat} : ∀ (n i : Nat), finR x n i = true ↔ ∀ k, i ≤ k → k < i + n → fPow (el x k) ≠ 2047
  | 0, i => ⟨fun _ k h1 h2 => by omega, fun _ => rfl⟩
  | n + 1, i => by
    unfold finR
    by_cases c : fPow (el x i) = 2047
    · rw [if_pos c]
      exact ⟨fun h => (by cases h), fun h => absurd c (h i (Nat.le_refl _) (by omega))⟩
    · rw [if_neg c, finR_iff n (i + 1)]
      refine ⟨fun h k h1 h2 => ?_, fun h k h1 h2 => h k (by omega) (by omega)⟩
      rcases Nat.eq_or_lt_of_le h1 with h3 | h3
      · subst h3; exact c
      · exact h k (by omega) (by omega)
theorem finV_iff {x : List Nat} : finV x = true ↔ ∀ k, k < x.length → fPow (el x k) ≠ 2047 := by
  unfold finV
  rw [finR_iff]
  exact ⟨fun h k hk => h k (Nat.zero_le _) (by omega), fun h k _ hk => h k (by omega)⟩
section
variable {r c : Nat} {x : List Nat} (h : Mx r c x) {up over : Bool}
include h
end
section
variable {r c : Nat} {y : List Nat} (h : Mx r c y)
include h
end
end Go.Proofs.YthchhkghjfendabGreat.Dx

namespace Go.Proofs.YthchhkghjfendabGreat.Dx
open Go

def Jl (l : List Int) : PV := .l (l.map Vi)
def ei (l : List Int) (i : Nat) : Int := l.getD i 0
theorem Jl_nil : Vl [] = Jl [] := rfl
@[simp] theorem len_J (l : List Int) : U.len.den (Jl l) = Vi l.length := by simp [Jl]
theorem get_J {l : List Int} {i : Nat} (h : i < l.length) : B.get.den (Jl l) (Vi i) = Vi (ei l i) := by
  rw [Jl, get_l _ rfl]
  simp [ei, List.getD_eq_getElem?_getD, h]
theorem app_J (l : List Int) (a : Int) : B.app.den (Jl l) (B.cons.den (Vi a) (Vl [])) = Jl (l ++ [a]) := by
  show PV.l (l.map Vi ++ [Vi a]) = _
  unfold Jl; rw [List.map_append]; rfl
theorem set_J (l : List Int) (i : Nat) (v : Int) : T3.set.den (Jl l) (Vi i) (Vi v) = Jl (l.set i v) := by
  rw [Jl, set_l _ rfl, Jl, List.map_set]
/-- The first places. -/
def firL (n : Nat) : List Int := (List.range n).map fun (i : Nat) => (i : Int)
@[simp] theorem firL_len (n : Nat) : (firL n).length = n := by simp [firL]
theorem firL_succ (n : Nat) : firL n ++ [(n : Int)] = firL (n + 1) := by unfold firL; rw [List.range_succ, List.map_append]; rfl
theorem ei_firL {n i : Nat} (h : i < n) : ei (firL n) i = i := by
  unfold ei firL; rw [List.getD_eq_getElem?_getD, List.getElem?_map, List.getElem?_range h]; rfl
theorem ei_set (l : List Int) (p : Nat) (v : Int) (q : Nat) : ei (l.set p v) q = if p = q ∧ p < l.length then v else ei l q := by
  unfold ei
  rw [List.getD_eq_getElem?_getD, List.getD_eq_getElem?_getD, List.getElem?_set]
  by_cases h : p = q
  · subst h
    by_cases h2 : p < l.length
    · simp [h2]
    · simp [h2, List.getElem?_eq_none (show l.length ≤ p by omega)]
  · simp [h]
/-- Two places changed. -/
def swL (l : List Int) (i k : Nat) : List Int := (l.set i (ei l k)).set k (ei l i)
@[simp] theorem swL_len (l : List Int) (i k : Nat) : (swL l i k).length = l.length := by simp [swL]
def swN (a b k : Nat) : Nat := if k = b then a else if k = a then b else k
theorem swN_lt {a b k c : Nat} (ha : a < c) (hb : b < c) (hk : k < c) : swN a b k < c := by unfold swN; split; exact ha; split; exact hb; exact hk
theorem ei_swL {l : List Int} {a b k : Nat} (ha : a < l.length) (hb : b < l.length) : ei (swL l a b) k = ei l (swN a b k) := by
  unfold swL swN
  rw [ei_set, ei_set, List.length_set]
  by_cases h1 : b = k
  · subst h1; simp [hb]
  · have h1' : ¬ k = b := fun h => h1 h.symm
    by_cases h2 : a = k
    · subst h2; simp [h1, h1', ha]
    · have h2' : ¬ k = a := fun h => h2 h.symm
      simp [h1, h1', h2, h2']
theorem first_ok {n : Nat} (hn : n ≤ 100) : val 205 [Vi n] = some [Jl (firL n)] := by
  refine val_of tab205 ?_
  have lp : ∀ (m : Nat) {i : Nat}, i + m = n → rounds (fun vs => lo205_1.dv (Vi n :: vs)) [Vi i, Jl (firL i)] = some (.y (.ext 0) [Jl (firL n)]) := by
    intro m
    induction m with
    | zero =>
      intro i hi
      have : i = n := by omega
      subst this
      refine rounds_exit ?_ (by simp)
      simp [lo205_1, TT.dv]
    | succ m ih =>
      intro i hi
      refine Eq.trans (rounds_cont ?_) (ih (i := i + 1) (by omega))
      have e1 : (B.add .i64).den (Vi i) (Vi 1) = Vi (i + 1) := add_i (by omega) (by omega)
      have a1 := app_J (firL i) i
      rw [firL_succ] at a1
      simp [lo205_1, TT.dv, show i < n by omega, e1, a1, show (i : Int) + 1 ≤ 17592186044416 by omega]
  have h := lp n (i := 0) (by omega)
  rw [show ((0 : Nat) : Int) = 0 from rfl, show Jl (firL 0) = Vl [] from rfl] at h
  simp [tr205, TT.dv, KS.dv, h]
theorem swap9_ok {l : List Int} {i k : Nat} (hl : l.length ≤ 100) (hi : i < l.length) (hk : k < l.length) : val 207 [Jl l, Vi i, Vi k] = some [Jl (swL l i k)] := by
  refine val_of tab207 ?_
  have g1 := get_J hi
  have g2 := get_J hk
  simp [tr207, TT.dv, g1, g2, set_J, show (l.length : Int) ≤ 17592186044416 by omega, hi, hk, swL]
def cnrm (r c : Nat) (x : List Nat) (j cc : Nat) : Nat := normV (colL r c x cc j)
def finN (b : Nat) : Bool := decide (fPow b < 2047)
def grL (r c : Nat) (x : List Nat) (j : Nat) : Nat → Nat → Nat → Bool → Nat × Bool
  | 0, _, at_, ok => (at_, ok)
  | n + 1, cc, at_, ok => grL r c x j n (cc + 1) (if cc = j ∨ ordI (cnrm r c x j at_) (cnrm r c x j cc) < 0 then cc else at_) (ok && finN (cnrm r c x j cc))
def grR (r c : Nat) (x : List Nat) (j : Nat) : Nat × Bool := grL r c x j (c - j) j j true
theorem grL_no {r c : Nat} {x : List Nat} {j : Nat} : ∀ (n cc at_ : Nat), (grL r c x j n cc at_ false).2 = false
  | 0, _, _ => rfl
  | n + 1, cc, at_ => by unfold grL; rw [Bool.false_and]; exact grL_no n _ _
theorem grL_lt {r c : Nat} {x : List Nat} {j : Nat} : ∀ (n : Nat) {cc at_ : Nat} {ok : Bool}, cc + n = c → at_ < c → j ≤ at_ → j ≤ cc → (grL r c x j n cc at_ ok).1 < c ∧ j ≤ (grL r c x j n cc at_ ok).1
  | 0, _, _, _, _, h, h2, _ => ⟨h, h2⟩
  | n + 1, cc, at_, ok, h1, h2, h3, h4 => by
    unfold grL
    split
    · exact grL_lt n (by omega) (by omega) h4 (by omega)
    · exact grL_lt n (by omega) h2 h3 (by omega)
theorem grR_lt {r c : Nat} {x : List Nat} {j : Nat} (hj : j < c) : (grR r c x j).1 < c ∧ j ≤ (grR r c x j).1 := grL_lt _ (by omega) hj (Nat.le_refl _) (Nat.le_refl _)
section
variable {r c : Nat} {x : List Nat} (h : Mx r c x) {j : Nat} (hj : j ≤ r)
include h hj
theorem cnrm_lt (cc : Nat) : cnrm r c x j cc < 18446744073709551616 := normV_lt _ (colL_words h cc j)
theorem cnrm_ok {cc : Nat} : val 314 [Vl (colL r c x cc j)] = some [Vu (cnrm r c x j cc), Vi 0] := by
  have hr := h.hr
  have hl : (colL r c x cc j).length = r - j := colL_len _ _ _ _ _
  have := norm_v_ok (colL_words h cc j) (by omega)
  rw [if_pos (by omega)] at this
  exact this
theorem cnrm9_ok {cc : Nat} : val 158 [Vl (colL r c x cc j)] = some [Vu (cnrm r c x j cc)] := by
  have hr := h.hr
  have hl : (colL r c x cc j).length = r - j := colL_len _ _ _ _ _
  exact norm_9_ok (colL_words h cc j) (by omega)
theorem look_ok {cc at_ m : Nat} {ok : Bool} (hcc : cc < c) (hm : m < 18446744073709551616) :
    val 265 [Vi cc, .a [Vi r, Vi c, Vl x], .a [Vi j], .a [Vb ok], .a [Vu m], .a [Vi at_]] = some (if cc = j ∨ ordI m (cnrm r c x j cc) < 0 then [.a [Vb (ok && finN (cnrm r c x j cc))], .a [Vu (cnrm r c x j cc)], .a [Vi cc]] else [.a [Vb (ok && finN (cnrm r c x j cc))], .a [Vu m], .a [Vi at_]]) := by
  refine val_of tab265 ?_
  have c1 := column_ok h hcc hj
  have n1 := cnrm_ok h hj (cc := cc)
  have f1 := finite_ok (cnrm r c x j cc)
  have l1 := less_ok hm (cnrm_lt h hj cc)
  have fld : ∀ (i : Nat) (l : List PV), (U.fld i).den (PV.a l) = l.getD i default := fun _ _ => rfl
  have ta : ∀ a : PV, U.toA.den (B.cons.den a (Vl [])) = PV.a [a] := fun _ => rfl
  have hf : decide (fPow (cnrm r c x j cc) ≠ 2047) = finN (cnrm r c x j cc) := by
    unfold finN; have := fPow_lt (cnrm r c x j cc); exact decide_eq_decide.2 (by omega)
  rw [hf] at f1
  generalize hn : cnrm r c x j cc = n at *
  by_cases e : cc = j
  · rw [if_pos (.inl e)]
    subst e
    cases ok <;> simp [tr265, TT.dv, fld, c1, n1, f1, ta]
  · have e' : ¬ (cc : Int) = j := by omega
    by_cases e2 : ordI m n < 0
    · rw [if_pos (.inr e2)]
      rw [decide_eq_true e2] at l1
      cases ok <;> simp [tr265, TT.dv, fld, c1, n1, f1, ta, e, e', l1]
    · rw [if_neg (by simp [e, e2])]
      rw [decide_eq_false e2] at l1
      cases ok <;> simp [tr265, TT.dv, fld, c1, n1, f1, ta, e, e', l1]
theorem gr_loop : ∀ (n : Nat) {cc at_ : Nat} {ok : Bool} {m : Nat}, cc + n = c → j ≤ cc → m < 18446744073709551616 → (cc = j ∨ m = cnrm r c x j at_) →
    rounds (fun vs => lo264_1.dv (Vi r :: Vi c :: Vl x :: Vi j :: vs)) [Vi cc, Vu m, Vb ok, Vi at_] = some (.y (.ext 0) [Vb (grL r c x j n cc at_ ok).2, Vi (grL r c x j n cc at_ ok).1]) := by
  intro n
  have hc := h.hc
  have ta : ∀ a : PV, U.toA.den (B.cons.den a (Vl [])) = PV.a [a] := fun _ => rfl
  have ta3 : ∀ a b d : PV, U.toA.den (B.cons.den a (B.cons.den b (B.cons.den d (Vl [])))) = PV.a [a, b, d] := fun _ _ _ => rfl
  have fld : ∀ (a : PV), (U.fld 0).den (PV.a [a]) = a := fun _ => rfl
  induction n with
  | zero =>
    intro cc at_ ok m hcc hj2 hm hor
    have : cc = c := by omega
    subst this
    refine rounds_exit ?_ (by simp)
    simp [lo264_1, TT.dv, grL]
  | succ n ih =>
    intro cc at_ ok m hcc hj2 hm hor
    have hlt : cc < c := by omega
    have lk := look_ok h hj (at_ := at_) (ok := ok) hlt hm
    have e1 : (B.add .i64).den (Vi cc) (Vi 1) = Vi (cc + 1) := add_i (by omega) (by omega)
    have hcond : (cc = j ∨ ordI m (cnrm r c x j cc) < 0) ↔ (cc = j ∨ ordI (cnrm r c x j at_) (cnrm r c x j cc) < 0) := by
      rcases hor with h0 | h0
      · exact ⟨fun _ => .inl h0, fun _ => .inl h0⟩
      · rw [h0]
    unfold grL
    by_cases c1 : cc = j ∨ ordI m (cnrm r c x j cc) < 0
    · rw [if_pos c1] at lk
      rw [if_pos (hcond.1 c1)]
      have h1 := ih (cc := cc + 1) (at_ := cc) (ok := ok && finN (cnrm r c x j cc)) (m := cnrm r c x j cc) (by omega) (by omega) (cnrm_lt h hj cc) (.inr rfl)
      have key : rounds (fun vs => lo264_1.dv (Vi r :: Vi c :: Vl x :: Vi j :: vs)) [Vi cc, Vu m, Vb ok, Vi at_] = rounds (fun vs => lo264_1.dv (Vi r :: Vi c :: Vl x :: Vi j :: vs)) [Vi ((cc + 1 : Nat) : Int), Vu (cnrm r c x j cc), Vb (ok && finN (cnrm r c x j cc)), Vi cc] := by
        refine rounds_cont ?_
        simp [lo264_1, TT.dv, hlt, ta, ta3, lk, fld, e1]
      rw [key]; exact h1
    · rw [if_neg c1] at lk
      rw [if_neg (fun hh => c1 (hcond.2 hh))]
      have h1 := ih (cc := cc + 1) (at_ := at_) (ok := ok && finN (cnrm r c x j cc)) (m := m) (by omega) (by omega) hm (.inr (hor.resolve_left (fun hh => c1 (.inl hh))))
      have key : rounds (fun vs => lo264_1.dv (Vi r :: Vi c :: Vl x :: Vi j :: vs)) [Vi cc, Vu m, Vb ok, Vi at_] = rounds (fun vs => lo264_1.dv (Vi r :: Vi c :: Vl x :: Vi j :: vs)) [Vi ((cc + 1 : Nat) : Int), Vu m, Vb (ok && finN (cnrm r c x j cc)), Vi at_] := by
        refine rounds_cont ?_
        simp [lo264_1, TT.dv, hlt, ta, ta3, lk, fld, e1]
      rw [key]; exact h1
theorem greatest_ok (hjc : j < c) : val 264 [Vi r, Vi c, Vl x, Vi j] = some [Vi (grR r c x j).1, Vb (grR r c x j).2] := by
  refine val_of tab264 ?_
  have h1 := gr_loop h hj (c - j) (cc := j) (at_ := j) (ok := true) (m := 0) (by omega) (Nat.le_refl _) (by decide) (.inl rfl)
  unfold grR
  simp [tr264, TT.dv, KS.dv, h1]
end
section
variable {r c : Nat} {x : List Nat} (h : Mx r c x) {j : Nat} (hj : j ≤ r)
include h hj
theorem gr9_loop {x4 : PV} : ∀ (n : Nat) {cc at_ : Nat}, cc + n = c → j ≤ cc → at_ < c → (cc = j → at_ = j) →
    if (grL r c x j n cc at_ true).2 then rounds (fun vs => lo210_1.dv (Vi r :: Vi c :: Vl x :: Vi j :: vs)) [x4, Vi at_, Vi cc] = some (.y (.ext 0) [x4, Vi (grL r c x j n cc at_ true).1])
    else ∃ q, rounds (fun vs => lo210_1.dv (Vi r :: Vi c :: Vl x :: Vi j :: vs)) [x4, Vi at_, Vi cc] = some (.y .ret [q]) := by
  intro n
  have hc := h.hc
  induction n with
  | zero =>
    intro cc at_ hcc hjc hat hor
    have : cc = c := by omega
    subst this
    simp only [grL, if_true]
    refine rounds_exit ?_ (by simp)
    simp [lo210_1, TT.dv]
  | succ n ih =>
    intro cc at_ hcc hjc hat hor
    have hlt : cc < c := by omega
    have c1 := column9_ok h hlt hj
    have n1 := cnrm9_ok h hj (cc := cc)
    have f1 := finite4_ok (cnrm_lt h hj cc)
    have c2 := column9_ok h hat hj
    have n2 := cnrm9_ok h hj (cc := at_)
    have o1 := order8_ok (cnrm_lt h hj at_) (cnrm_lt h hj cc)
    have l1 : val 211 [Vu (cnrm r c x j at_), Vu (cnrm r c x j cc)] = some [Vb (decide (ordI (cnrm r c x j at_) (cnrm r c x j cc) < 0))] := by
      refine val_of tab211 ?_
      simp [tr211, TT.dv, o1]
    have e1 : (B.add .i64).den (Vi cc) (Vi 1) = Vi (cc + 1) := add_i (by omega) (by omega)
    unfold grL
    by_cases hf : fPow (cnrm r c x j cc) < 2047
    · have hfn : finN (cnrm r c x j cc) = true := by unfold finN; rw [decide_eq_true hf]
      rw [decide_eq_true hf] at f1
      rw [hfn, Bool.and_true]
      have hcond : (cc = j ∨ ordI (cnrm r c x j at_) (cnrm r c x j cc) < 0 → at_ = cc ∨ ordI (cnrm r c x j at_) (cnrm r c x j cc) < 0) := fun hh => by
        rcases hh with hh | hh
        · exact .inl ((hor hh).trans hh.symm)
        · exact .inr hh
      by_cases hl : ordI (cnrm r c x j at_) (cnrm r c x j cc) < 0
      · rw [decide_eq_true hl] at l1
        have hat2 : (if cc = j ∨ ordI (cnrm r c x j at_) (cnrm r c x j cc) < 0 then cc else at_) = cc := if_pos (.inr hl)
        rw [hat2]
        have key : rounds (fun vs => lo210_1.dv (Vi r :: Vi c :: Vl x :: Vi j :: vs)) [x4, Vi at_, Vi cc] = rounds (fun vs => lo210_1.dv (Vi r :: Vi c :: Vl x :: Vi j :: vs)) [x4, Vi cc, Vi ((cc + 1 : Nat) : Int)] := by
          refine rounds_cont ?_
          simp [lo210_1, TT.dv, KS.dv, hlt, c1, n1, f1, c2, n2, l1, e1]
        rw [key]
        exact ih (by omega) (by omega) hlt (fun hh => by omega)
      · rw [decide_eq_false hl] at l1
        have hat2 : (if cc = j ∨ ordI (cnrm r c x j at_) (cnrm r c x j cc) < 0 then cc else at_) = at_ := by
          split
          · rename_i hh; exact ((hcond hh).resolve_right hl).symm
          · rfl
        rw [hat2]
        have key : rounds (fun vs => lo210_1.dv (Vi r :: Vi c :: Vl x :: Vi j :: vs)) [x4, Vi at_, Vi cc] = rounds (fun vs => lo210_1.dv (Vi r :: Vi c :: Vl x :: Vi j :: vs)) [x4, Vi at_, Vi ((cc + 1 : Nat) : Int)] := by
          refine rounds_cont ?_
          simp [lo210_1, TT.dv, KS.dv, hlt, c1, n1, f1, c2, n2, l1, e1]
        rw [key]
        exact ih (by omega) (by omega) hat (fun hh => by omega)
    · have hfn : finN (cnrm r c x j cc) = false := by unfold finN; rw [decide_eq_false hf]
      rw [decide_eq_false hf] at f1
      rw [hfn, Bool.and_false]
      rw [grL_no, if_neg (by decide)]
      exact ⟨Vi at_, rounds_exit (by simp [lo210_1, TT.dv, KS.dv, hlt, c1, n1, f1]) (by simp)⟩
theorem greatest9_ok (hjc : j < c) : val 210 [Vi r, Vi c, Vl x, Vi j] = some [Vi (if (grR r c x j).2 then ((grR r c x j).1 : Int) else -1)] := by
  refine val_of tab210 ?_
  have h1 := fun x4 => gr9_loop h hj (x4 := x4) (c - j) (cc := j) (at_ := j) (by omega) (Nat.le_refl _) hjc (fun _ => rfl)
  rw [show grL r c x j (c - j) j j true = grR r c x j from rfl] at h1
  cases hg : (grR r c x j).2
  · rw [hg] at h1
    simp only [Bool.false_eq_true, if_false] at h1
    obtain ⟨q, h2⟩ := h1 (Vi 0)
    simp [tr210, TT.dv, KS.dv, h2]
  · rw [hg] at h1
    simp only [if_true] at h1
    simp [tr210, TT.dv, KS.dv, h1]
end
def swG (c : Nat) (x : List Nat) (a b : Nat) (i k : Nat) : Nat := el x (ps i c (swN a b k))
def swV (r c : Nat) (x : List Nat) (a b : Nat) : List Nat := matL (swG c x a b) r c
theorem swV_mx {r c : Nat} {x : List Nat} (h : Mx r c x) (a b : Nat) : Mx r c (swV r c x a b) := matL_mx h.hr h.hc fun _ _ _ _ => h.w.el _
theorem el_swV {r c : Nat} {x : List Nat} {a b i k : Nat} (hi : i < r) (hk : k < c) : el (swV r c x a b) (ps i c k) = el x (ps i c (swN a b k)) := by
  unfold swV; rw [el_matL _ hi hk]; rfl
/-- Columns at places. -/
def coG (c : Nat) (x : List Nat) (pl : List Int) (i k : Nat) : Nat := el x (ps i c (ei pl k).toNat)
def coV (r c : Nat) (x : List Nat) (pl : List Int) : List Nat := matL (coG c x pl) r pl.length
theorem coV_sw {r c : Nat} {x : List Nat} (h : Mx r c x) {a b : Nat} (ha : a < c) (hb : b < c) : coV r c x (swL (firL c) a b) = swV r c x a b := by
  unfold coV swV
  rw [swL_len, firL_len]
  refine mat_ext (r := r) (c := c) (matL_len _ _ _) (matL_len _ _ _) fun i k hi hk => ?_
  rw [el_matL _ hi hk, el_matL _ hi hk]
  unfold coG swG
  rw [ei_swL (by simpa using ha) (by simpa using hb), ei_firL (swN_lt ha hb hk)]; rfl
section
variable {r c : Nat} {x : List Nat} (h : Mx r c x) {pl : List Int} (hl : pl.length ≤ 6) (hp : ∀ k, k < pl.length → 0 ≤ ei pl k ∧ ei pl k < c)
include h hl hp
theorem co9_inner {i : Nat} (hi : i < r) {x4 x5 x6 x8 x9 x10 : PV} : ∀ (n : Nat) {k : Nat} {m : List Nat}, k + n = pl.length → Mx r pl.length m →
    rounds (fun vs => lo203_2.dv (Vi r :: Vi c :: Vl x :: Jl pl :: x4 :: x5 :: x6 :: Vi i :: x8 :: x9 :: x10 :: vs)) [Vi k, Vi r, Vi pl.length, Vl m] = some (.y (.ext 2) [Vi r, Vi pl.length, Vl (fin1 (fun k => ps i pl.length k) (fun k => coG c x pl i k) n k m)]) := by
  intro n
  have hr := h.hr
  induction n with
  | zero =>
    intro k m hk hm
    have : k = pl.length := by omega
    subst this
    refine rounds_exit ?_ (by simp)
    simp [lo203_2, TT.dv, fin1]
  | succ n ih =>
    intro k m hk hm
    have hkc : k < pl.length := by omega
    refine Eq.trans (rounds_cont ?_) (ih (k := k + 1) (by omega) (hm.set (p := ps i pl.length k) (v := coG c x pl i k) (h.w.el _)))
    have e1 : (B.add .i64).den (Vi k) (Vi 1) = Vi (k + 1) := add_i (by omega) (by omega)
    have g1 := get_J hkc
    obtain ⟨p1, p2⟩ := hp k hkc
    have a1 := at_ok h hi (k := (ei pl k).toNat) (by omega)
    rw [show (((ei pl k).toNat : Nat) : Int) = ei pl k by omega] at a1
    have w1 := with_ok hm (i := i) (k := k) (b := coG c x pl i k) hi hkc
    unfold coG at w1 ⊢
    simp [lo203_2, TT.dv, hkc, e1, g1, a1, w1]
theorem co9_outer {x4 x5 x6 : PV} : ∀ (n : Nat) {i : Nat} {m : List Nat}, i + n = r → Mx r pl.length m →
    rounds (fun vs => lo203_1.dv (Vi r :: Vi c :: Vl x :: Jl pl :: x4 :: x5 :: x6 :: vs)) [Vi i, Vi r, Vi pl.length, Vl m] = some (.y (.ext 0) [Vi r, Vi pl.length, Vl (fin2 (fun i k => ps i pl.length k) (fun i k => coG c x pl i k) pl.length n i m)]) := by
  intro n
  have hr := h.hr
  induction n with
  | zero =>
    intro i m hi hm
    have : i = r := by omega
    subst this
    refine rounds_exit ?_ (by simp)
    simp [lo203_1, TT.dv, fin2]
  | succ n ih =>
    intro i m hi hm
    have hir : i < r := by omega
    have hm' : Mx r pl.length (fin1 (fun k => ps i pl.length k) (fun k => coG c x pl i k) pl.length 0 m) := by
      have key : ∀ (t b : Nat) (z : List Nat), Mx r pl.length z → Mx r pl.length (fin1 (fun k => ps i pl.length k) (fun k => coG c x pl i k) t b z) := by
        intro t
        induction t with
        | zero => intro b z hz; exact hz
        | succ t ih => intro b z hz; exact ih _ _ (hz.set (h.w.el _))
      exact key _ 0 m hm
    refine Eq.trans (rounds_cont ?_) (ih (i := i + 1) (by omega) hm')
    have e1 : (B.add .i64).den (Vi i) (Vi 1) = Vi (i + 1) := add_i (by omega) (by omega)
    have hin := fun x8 x9 x10 => co9_inner h hl hp hir (x4 := x4) (x5 := x5) (x6 := x6) (x8 := x8) (x9 := x9) (x10 := x10) pl.length (k := 0) (m := m) (by omega) hm
    simp only [show ((0 : Nat) : Int) = 0 from rfl] at hin
    simp [lo203_1, TT.dv, KS.dv, hir, e1, hin]
theorem columns9_ok : val 203 [Vi r, Vi c, Vl x, Jl pl] = some [Vi r, Vi pl.length, Vl (coV r c x pl)] := by
  refine val_of tab203 ?_
  have hz := zeros_ok h.hr hl
  have hlp := co9_outer h hl hp (x4 := Vi r) (x5 := Vi pl.length) (x6 := Vl (List.replicate (r * pl.length) 0)) r (i := 0) (by omega) (zeros_mx h.hr hl)
  rw [show ((0 : Nat) : Int) = 0 from rfl] at hlp
  have he : fin2 (fun i k => ps i pl.length k) (fun i k => coG c x pl i k) pl.length r 0 (List.replicate (r * pl.length) 0) = coV r c x pl := by
    refine mat_ext (r := r) (c := pl.length) (by rw [fin2_len]; simp) (matL_len _ _ _) fun i k hi hk => ?_
    unfold coV
    rw [el_matL _ hi hk]
    exact fin2_at (pos := fun i k => ps i pl.length k) (v := fun i k => coG c x pl i k) r 0 _ (fun j k _ h2 h3 => by rw [List.length_replicate]; exact ps_lt (by omega) h3)
      (fun j k j' k' _ a b _ a' b' hh => ps_inj b b' hh) i k (Nat.zero_le _) (by omega) hk
  rw [he] at hlp
  simp [tr203, TT.dv, KS.dv, hz, hlp]
end
end Go.Proofs.YthchhkghjfendabGreat.Dx

namespace Go.Proofs.YthchhkghjfendabGreat.Dx
open Go

def P2 (k : Int) : Rat := (2 : Rat) ^ k
def D (n : Nat) (p : Int) : Rat := n * P2 p
end Go.Proofs.YthchhkghjfendabGreat.Dx

namespace Go.Proofs.YthchhkghjfendabGreat.Dx
open Go

/-- The greatest: it is one of them. -/
theorem bigR_mem {x : List Nat} : ∀ (n : Nat) {i m : Nat}, (∀ j, i ≤ j → j < i + n → ¬ nanB (el x j)) →
    m ≤ bigR x n i m ∧ (∀ j, i ≤ j → j < i + n → absV (el x j) ≤ bigR x n i m) ∧ (bigR x n i m = m ∨ ∃ j, i ≤ j ∧ j < i + n ∧ absV (el x j) = bigR x n i m)
  | 0, i, m, _ => ⟨Nat.le_refl _, fun j h1 h2 => by omega, .inl rfl⟩
  | n + 1, i, m, h => by
    unfold bigR
    rw [if_neg (h i (Nat.le_refl _) (by omega))]
    obtain ⟨h1, h2, h3⟩ := bigR_mem n (i := i + 1) (m := max m (absV (el x i))) (fun j hj hj2 => h j (by omega) (by omega))
    refine ⟨by omega, fun j hj hj2 => ?_, ?_⟩
    · rcases Nat.eq_or_lt_of_le hj with he | he
      · subst he; omega
      · exact h2 j (by omega) (by omega)
    · rcases h3 with h3 | ⟨j, j1, j2, j3⟩
      · rcases Nat.le_total m (absV (el x i)) with hc | hc
        · exact .inr ⟨i, Nat.le_refl _, by omega, by omega⟩
        · exact .inl (by omega)
      · exact .inr ⟨j, by omega, by omega, j3⟩
end Go.Proofs.YthchhkghjfendabGreat.Dx

namespace Go.Proofs.YthchhkghjfendabGreat.Dx
open Go

def swI (c a b : Nat) : Nat → Nat → List Nat → List Nat
  | 0, _, m => m
  | n + 1, i, m => swI c a b n (i + 1) ((m.set (ps i c a) (el m (ps i c b))).set (ps i c b) (el m (ps i c a)))
theorem swI_len (c a b : Nat) : ∀ (n i : Nat) (m : List Nat), (swI c a b n i m).length = m.length
  | 0, _, _ => rfl
  | n + 1, i, m => by unfold swI; rw [swI_len c a b n, List.length_set, List.length_set]
theorem swI_at {r c a b : Nat} (ha : a < c) (hb : b < c) : ∀ (n i : Nat) {m : List Nat}, m.length = r * c → i + n = r → ∀ i' k, i' < r → k < c → el (swI c a b n i m) (ps i' c k) = if i ≤ i' then el m (ps i' c (swN a b k)) else el m (ps i' c k)
  | 0, i, m, _, he, i', k, hi, hk => by unfold swI; rw [if_neg (by omega)]
  | n + 1, i, m, hl, he, i', k, hi, hk => by
    have hir : i < r := by omega
    have step : ∀ i' k, i' < r → k < c → el ((m.set (ps i c a) (el m (ps i c b))).set (ps i c b) (el m (ps i c a))) (ps i' c k) = if i = i' then el m (ps i' c (swN a b k)) else el m (ps i' c k) := fun i' k hi hk => by
      rw [el_set, el_set, List.length_set]
      by_cases h1 : i = i'
      · subst h1
        rw [if_pos rfl]
        unfold swN
        by_cases h2 : k = b
        · subst h2
          rw [if_pos ⟨rfl, by rw [hl]; exact ps_lt hir hk⟩, if_pos rfl]
        · rw [if_neg (fun hh => h2 (ps_inj hb hk hh.1).2.symm), if_neg h2]
          by_cases h3 : k = a
          · subst h3
            rw [if_pos ⟨rfl, by rw [hl]; exact ps_lt hir hk⟩, if_pos rfl]
          · rw [if_neg (fun hh => h3 (ps_inj ha hk hh.1).2.symm), if_neg h3]
      · rw [if_neg h1, if_neg (fun hh => h1 (ps_inj hb hk hh.1).1), if_neg (fun hh => h1 (ps_inj ha hk hh.1).1)]
    unfold swI
    rw [swI_at ha hb n (i + 1) (by rw [List.length_set, List.length_set, hl]) (by omega) i' k hi hk, step _ _ hi (swN_lt ha hb hk), step _ _ hi hk]
    by_cases h1 : i + 1 ≤ i'
    · rw [if_pos h1, if_neg (by omega), if_pos (by omega)]
    · rw [if_neg h1]
      by_cases h2 : i = i'
      · rw [if_pos h2, if_pos (by omega)]
      · rw [if_neg h2, if_neg (by omega)]
theorem swI_swV {r c a b : Nat} {x : List Nat} (h : Mx r c x) (ha : a < c) (hb : b < c) : swI c a b r 0 x = swV r c x a b := by
  refine mat_ext (r := r) (c := c) (by rw [swI_len, h.len]) (matL_len _ _ _) fun i k hi hk => ?_
  rw [swI_at ha hb r 0 h.len (by omega) i k hi hk, if_pos (Nat.zero_le _), el_swV hi hk]
theorem copy_V (x : List Nat) : B.copy.den (Vl (List.replicate x.length 0)) (Vl x) = Vl x := by
  show PV.l ((x.map Vu).take ((List.replicate x.length 0).map Vu).length ++ ((List.replicate x.length 0).map Vu).drop (x.map Vu).length) = _
  rw [List.length_map, List.length_replicate, List.length_map, List.take_of_length_le (by simp), List.drop_of_length_le (by simp), List.append_nil]
  rfl
section
variable {r c : Nat} {a b : Nat} (ha : a < c) (hb : b < c)
include ha hb
theorem sw_loop {x2 : PV} : ∀ (n : Nat) {i : Nat} {m : List Nat}, i + n = r → Mx r c m →
    rounds (fun vs => lo267_1.dv (Vi r :: Vi c :: x2 :: Vi a :: Vi b :: vs)) [Vi i, Vl m] = some (.y (.ext 0) [Vl (swI c a b n i m)]) := by
  intro n
  induction n with
  | zero =>
    intro i m hi h
    have : i = r := by omega
    subst this
    refine rounds_exit ?_ (by simp)
    simp [lo267_1, TT.dv, swI]
  | succ n ih =>
    intro i m hi h
    have hir : i < r := by omega
    have hr := h.hr
    have hc := h.hc
    obtain ⟨m1, m2⟩ := row_ints h hir
    have hend := row_end h hir
    refine Eq.trans (rounds_cont ?_) (ih (i := i + 1) (by omega) ((h.set (h.w.el _)).set (h.w.el _)))
    have hz : (i + 1) * c = i * c + c := by rw [Nat.add_mul, Nat.one_mul]
    unfold ps
    have e1 : (B.add .i64).den (Vi i) (Vi 1) = Vi (i + 1) := add_i (by omega) (by omega)
    rw [e1] at m2
    rw [hz] at m2 hend
    have hy : i * c ≤ 6 * 6 := Nat.mul_le_mul (by omega) hc
    generalize i * c = y at *
    have g1 : B.get.den (Vl m) (Vi ((y : Int) + a)) = Vu (el m (y + a)) := by have := get_V (x := m) (i := y + a) (by omega); rwa [show ((y + a : Nat) : Int) = (y : Int) + a by omega] at this
    have g2 : B.get.den (Vl m) (Vi ((y : Int) + b)) = Vu (el m (y + b)) := by have := get_V (x := m) (i := y + b) (by omega); rwa [show ((y + b : Nat) : Int) = (y : Int) + b by omega] at this
    have st : ∀ (z : List Nat) (v d : Nat), T3.set.den (Vl z) (Vi ((y : Int) + d)) (Vu v) = Vl (z.set (y + d) v) := fun z v d => by have := set_V z (y + d) v; rwa [show ((y + d : Nat) : Int) = (y : Int) + d by omega] at this
    have e2 : ((y + c : Nat) : Int) - (y : Int) = (c : Int) := by omega
    have e3 : ((y + c : Nat) : Int) ≤ (m.length : Int) := by omega
    have e4 : (y : Int) ≤ ((y + c : Nat) : Int) := by omega
    have e5 : (0 : Int) ≤ ((y + c : Nat) : Int) := by omega
    have t1 : ∀ z : List Nat, B.take.den (Vl z) (Vi c) = Vl (z.take c) := fun z => take_V z c
    have d1 : ∀ z : List Nat, B.drop.den (Vl z) (Vi y) = Vl (z.drop y) := fun z => drop_V z y
    have l1 : a < min c (m.length - y) := by omega
    have l2 : b < min c (m.length - y) := by omega
    generalize ((y + c : Nat) : Int) = w at *
    simp [lo267_1, TT.dv, hir, e1, m1, m2, e2, e3, e4, e5, d1, t1, g1, g2, st]
    omega
theorem swap_ok {x : List Nat} (h : Mx r c x) : val 267 [Vi r, Vi c, Vl x, Vi a, Vi b] = some [Vi r, Vi c, Vl (swV r c x a b)] := by
  refine val_of tab267 ?_
  have hs := h.small
  have lp := fun x2 => sw_loop ha hb (x2 := x2) r (i := 0) (m := x) (by omega) h
  simp only [show ((0 : Nat) : Int) = 0 from rfl, swI_swV h ha hb] at lp
  simp [tr267, TT.dv, KS.dv, rep_V, copy_V, lp, show (x.length : Int) ≤ 17592186044416 by omega]
end
section
variable {r c j : Nat} (hjr : j < r) (hjc : j < c)
include hjr hjc
theorem cl266_loop {x2 x4 x5 x6 x7 x8 x9 x10 x11 x12 : PV} : ∀ (n : Nat) {i : Nat} {m : List Nat}, i + n = r → Mx r c m →
    rounds (fun vs => lo266_1.dv (Vi r :: Vi c :: x2 :: Vi j :: x4 :: x5 :: x6 :: x7 :: x8 :: x9 :: x10 :: x11 :: x12 :: vs)) [Vi i, Vl m] = some (.y (.ext 0) [Vl (clI c j n i m)]) := by
  intro n
  induction n with
  | zero =>
    intro i m hi hm
    have : i = r := by omega
    subst this
    refine rounds_exit ?_ (by simp)
    simp [lo266_1, TT.dv, clI]
  | succ n ih =>
    intro i m hi hm
    have hir : i < r := by omega
    have h1 := hm.hr
    have h2 := hm.hc
    refine Eq.trans (rounds_cont ?_) (ih (i := i + 1) (by omega) (hm.set (p := ps i c j) (v := 0) (by decide)))
    have e1 : (B.add .i64).den (Vi i) (Vi 1) = Vi (i + 1) := add_i (by omega) (by omega)
    have p1 := pos_i (i := i) (c := c) (k := j) (by omega) (by omega) (by omega)
    have l1 := hm.lt hir hjc
    simp [lo266_1, TT.dv, hir, e1, p1, l1, set_V]
theorem step_ok {x : List Nat} (h : Mx r c x) : val 266 [Vi r, Vi c, Vl x, Vi j] = some (if dnOk r c j x then [Vi r, Vi c, Vl (dnX r c j x), Vl (dnM r c j x).1, Vu (dnM r c j x).2.1, Vb true] else [Vi 0, Vi 0, Vl [], Vl [], Vu 0, Vb false]) := by
  refine val_of tab266 ?_
  have hr := h.hr
  have hc := h.hc
  have cl := column_ok h hjc (show j ≤ r by omega)
  have mk1 := dmake_ok h hjc hjr
  cases hok : dnOk r c j x
  · rw [hok] at mk1
    simp only [Bool.false_eq_true, if_false] at mk1 ⊢
    by_cases hf : finV (colL r c x j j) = true
    · rw [if_pos hf] at mk1
      simp [tr266, TT.dv, cl, mk1]
    · rw [if_neg hf] at mk1
      simp [tr266, TT.dv, cl, mk1]
  · rw [hok] at mk1
    simp only [if_true] at mk1 ⊢
    have ap := dapply_ok h hjc hjr
    have am := dapply_mx h hjc hjr
    have dm := dnM_ok h hjc hjr
    have p1 := pos_i (i := j) (c := c) (k := j) (by omega) (by omega) (by omega)
    have l1 := am.lt hjr hjc
    have e1 : (B.add .i64).den (Vi j) (Vi 1) = Vi ((j + 1 : Nat) : Int) := by rw [add_i (by omega) (by omega)]; rfl
    have lp := fun x2 x4 x5 x6 x7 x8 x9 x10 x11 x12 => cl266_loop hjr hjc (x2 := x2) (x4 := x4) (x5 := x5) (x6 := x6) (x7 := x7) (x8 := x8) (x9 := x9) (x10 := x10) (x11 := x11) (x12 := x12) (r - (j + 1)) (i := j + 1) (by omega) (am.set (p := ps j c j) dm.b)
    unfold dnX clV
    generalize ((j + 1 : Nat) : Int) = z at *
    simp [tr266, TT.dv, KS.dv, cl, mk1, ap, p1, l1, e1, set_V, lp]
theorem cleared16_ok {m : List Nat} {beta : Nat} (hm : Mx r c m) (hb : beta < 18446744073709551616) : val 209 [Vi r, Vi c, Vl m, Vi j, Vu beta] = some [Vi r, Vi c, Vl (clV r c m j beta)] := by
  refine val_of tab209 ?_
  rw [show tr209 = tr197 from rfl]
  have h1 := hm.hr
  have w1 := with_ok hm (i := j) (k := j) (b := beta) hjr hjc
  have e1 : (B.add .i64).den (Vi j) (Vi 1) = Vi ((j + 1 : Nat) : Int) := by rw [add_i (by omega) (by omega)]; rfl
  have hlp := fun x0 x1 x2 x4 x5 x6 x7 => cl9_loop hjr hjc (x0 := x0) (x1 := x1) (x2 := x2) (x4 := x4) (x5 := x5) (x6 := x6) (x7 := x7) (r - (j + 1)) (i := j + 1) (by omega) (hm.set (p := ps j c j) hb)
  generalize hz : ((j + 1 : Nat) : Int) = z at *
  simp [tr197, TT.dv, KS.dv, w1, e1, hlp, clV]
end
theorem make9_iff {r c j : Nat} {x : List Nat} (h : Mx r c x) (hj : j < c) (hjr : j < r) (hf : finV (colL r c x j j) = true) : val 192 [Vl (colL r c x j j)] = some (if dnOk r c j x then [Vl (dnM r c j x).1, Vu (dnM r c j x).2.1, Vu (dnM r c j x).2.2, Vb true] else [Vl [], Vu 0, Vu 0, Vb false]) := by
  have hr := h.hr
  have hw := colL_words h j j
  have hl : (colL r c x j j).length = r - j := colL_len _ _ _ _ _
  unfold dnOk dnM
  rw [hf, Bool.true_and]
  exact make9_ok hw (by omega) (by omega) hf
theorem bigR_nan {x : List Nat} : ∀ (n : Nat) {i m : Nat}, (∃ j, i ≤ j ∧ j < i + n ∧ nanB (el x j)) → bigR x n i m = nan0
  | 0, i, m, ⟨j, h1, h2, _⟩ => by omega
  | n + 1, i, m, ⟨j, h1, h2, h3⟩ => by
    unfold bigR
    by_cases c : nanB (el x i)
    · rw [if_pos c]
    · rw [if_neg c]
      refine bigR_nan n ⟨j, ?_, by omega, h3⟩
      rcases Nat.eq_or_lt_of_le h1 with h | h
      · subst h; exact absurd h3 c
      · exact h
theorem norm_fin {x : List Nat} (h : fPow (normV x) ≠ 2047) : finV x = true := by
  rw [finV_iff]
  intro k hk hp
  refine h ?_
  have hb : fPow (bigV x) = 2047 := by
    by_cases hn : ∃ j, 0 ≤ j ∧ j < 0 + x.length ∧ nanB (el x j)
    · unfold bigV; rw [bigR_nan _ hn]; decide
    · obtain ⟨b1, b2, b3⟩ := bigR_mem (x := x) x.length (i := 0) (m := 0) (fun j h1 h2 h3 => hn ⟨j, h1, h2, h3⟩)
      have := b2 k (Nat.zero_le _) (by omega)
      rw [show bigR x x.length 0 0 = bigV x from rfl] at this
      have h1 := bigV_lt x
      unfold absV at this
      unfold fPow at hp ⊢
      omega
  unfold normV
  rw [if_pos (.inr hb)]; exact hb
theorem grL_all {r c : Nat} {x : List Nat} {j : Nat} : ∀ (n : Nat) {cc at_ : Nat} {ok : Bool}, (grL r c x j n cc at_ ok).2 = true → ∀ k, cc ≤ k → k < cc + n → finN (cnrm r c x j k) = true
  | 0, cc, _, _, _, k, h1, h2 => by omega
  | n + 1, cc, at_, ok, h, k, h1, h2 => by
    unfold grL at h
    rcases Nat.eq_or_lt_of_le h1 with h3 | h3
    · subst h3
      cases hf : finN (cnrm r c x j cc)
      · rw [hf, Bool.and_false, grL_no] at h; cases h
      · rfl
    · exact grL_all n h k (by omega) (by omega)
theorem grR_fin {r c : Nat} {x : List Nat} {j : Nat} (hj : j < c) (h : (grR r c x j).2 = true) {k : Nat} (hk1 : j ≤ k) (hk : k < c) : finV (colL r c x k j) = true := by
  have := grL_all _ h k hk1 (by omega)
  refine norm_fin ?_
  unfold finN cnrm at this
  have := of_decide_eq_true this
  omega
theorem colL_sw {r c : Nat} {x : List Nat} {a j : Nat} (hj : j < c) (hjr : j ≤ r) : colL r c (swV r c x j a) j j = colL r c x a j := by
  unfold colL
  refine mk_congr fun i hi => ?_
  unfold colG
  rw [el_swV (by omega) hj]
  unfold swN
  by_cases h : j = a
  · subst h; rw [if_pos rfl]
  · rw [if_neg h, if_pos rfl]
def pvR (r c : Nat) : Nat → Nat → List Int → List Nat → List Mir → Option (List Int × List Nat × List Mir)
  | 0, _, pl, x, ms => some (pl, x, ms)
  | n + 1, j, pl, x, ms =>
    if (grR r c x j).2 then
      (if j = r - 1 then some (swL pl j (grR r c x j).1, swV r c x j (grR r c x j).1, ms) else
        if dnOk r c j (swV r c x j (grR r c x j).1) then pvR r c n (j + 1) (swL pl j (grR r c x j).1) (dnX r c j (swV r c x j (grR r c x j).1)) (ms ++ [dnM r c j (swV r c x j (grR r c x j).1)]) else none)
    else none
theorem pvR_mx {r c : Nat} : ∀ (n : Nat) {j : Nat} {pl pl' : List Int} {x y : List Nat} {ms ms' : List Mir}, j + n ≤ c → j + n ≤ r → Mx r c x → MsOK r ms → ms.length = j → pvR r c n j pl x ms = some (pl', y, ms') → Mx r c y ∧ MsOK r ms' ∧ ms'.length ≤ r ∧ pl'.length = pl.length
  | 0, j, pl, pl', x, y, ms, ms', _, h2, h, hm, hl, he => by
    simp [pvR] at he; obtain ⟨rfl, rfl, rfl⟩ := he
    exact ⟨h, hm, by omega, rfl⟩
  | n + 1, j, pl, pl', x, y, ms, ms', h1, h2, h, hm, hl, he => by
    unfold pvR at he
    split at he
    · have hs := swV_mx h j (grR r c x j).1
      split at he
      · simp at he; obtain ⟨rfl, rfl, rfl⟩ := he
        exact ⟨hs, hm, by omega, by simp⟩
      · split at he
        · have hd := dnM_ok hs (show j < c by omega) (show j < r by omega)
          obtain ⟨a, b, d, e⟩ := pvR_mx n (j := j + 1) (by omega) (by omega) (dnX_mx hs (by omega) (by omega)) (hm.app (by rw [hl]; exact hd)) (by simp [hl]) he
          exact ⟨a, b, d, by rw [e, swL_len]⟩
        · cases he
    · cases he
theorem pv_loop {r c : Nat} {x0 x2 x3 x4 : PV} : ∀ (n : Nat) {j : Nat} {pl : List Int} {x : List Nat} {ms : List Mir}, j + n = min c r → Mx r c x → ms.length = j → pl.length = c →
    match pvR r c n j pl x ms with
    | some (pl', y, ms') => rounds (fun vs => lo262_2.dv (Vi r :: Vi c :: x2 :: x3 :: x4 :: vs)) [x0, Vi j, ML ms, Jl pl, Vi r, Vi c, Vl x] = some (.y (.ext 2) [x0, ML ms', Jl pl', Vi r, Vi c, Vl y])
    | none => ∃ q, rounds (fun vs => lo262_2.dv (Vi r :: Vi c :: x2 :: x3 :: x4 :: vs)) [x0, Vi j, ML ms, Jl pl, Vi r, Vi c, Vl x] = some (.y .ret [q]) := by
  intro n
  induction n with
  | zero =>
    intro j pl x ms hj h hl hp
    have hr := h.hr
    have hc := h.hc
    simp only [pvR]
    refine rounds_exit ?_ (by simp)
    by_cases c1 : j < c
    · simp [lo262_2, TT.dv, c1, show ¬ j < r by omega]
    · simp [lo262_2, TT.dv, c1]
  | succ n ih =>
    intro j pl x ms hj h hl hp
    have hr := h.hr
    have hc := h.hc
    have hjc : j < c := by omega
    have hjr : j < r := by omega
    have gr := greatest_ok h (j := j) (by omega) hjc
    obtain ⟨ga, gb⟩ := grR_lt (r := r) (x := x) hjc
    unfold pvR
    generalize grR r c x j = g at *
    obtain ⟨a, ok⟩ := g
    simp only at gr ga gb ⊢
    cases ok
    · simp only [Bool.false_eq_true, if_false]
      exact ⟨ML ms, rounds_exit (by simp [lo262_2, TT.dv, hjc, hjr, gr]) (by simp)⟩
    · simp only [if_true]
      have sw := swap_ok (a := j) (b := a) hjc ga h
      have hs := swV_mx h j a
      have s1 : (B.sub .i64).den (Vi r) (Vi 1) = Vi ((r : Int) - 1) := sub_i (by omega) (by omega)
      have g1 := get_J (l := pl) (i := a) (by omega)
      have g2 := get_J (l := pl) (i := j) (by omega)
      have hla : a < pl.length := by omega
      have hlj : j < pl.length := by omega
      have hswL : (pl.set j (ei pl a)).set a (ei pl j) = swL pl j a := rfl
      by_cases hlast : j = r - 1
      · rw [if_pos hlast]
        have hlast' : (j : Int) = r - 1 := by omega
        refine rounds_exit ?_ (by simp)
        rw [← hlast'] at s1
        simp [lo262_2, TT.dv, hjc, hjr, gr, sw, hla, hlj, g1, g2, set_J, s1, hswL]
      · rw [if_neg hlast]
        have hlast' : ¬ (j : Int) = r - 1 := by omega
        have st := step_ok hjr hjc hs
        cases hok : dnOk r c j (swV r c x j a)
        · rw [hok] at st
          simp only [Bool.false_eq_true, if_false] at st ⊢
          exact ⟨ML ms, rounds_exit (by simp [lo262_2, TT.dv, hjc, hjr, gr, sw, hla, hlj, g1, g2, set_J, s1, hlast', st]) (by simp)⟩
        · rw [hok] at st
          simp only [if_true] at st ⊢
          have e1 : (B.add .i64).den (Vi j) (Vi 1) = Vi ((j + 1 : Nat) : Int) := by rw [add_i (by omega) (by omega)]; rfl
          have hap := app_ML ms (dnM r c j (swV r c x j a))
          have l2 : ((ms.length + 1 : Nat) : Int) ≤ 4398046511104 := by omega
          have hlen := len_ML (ms ++ [dnM r c j (swV r c x j a)])
          rw [List.length_append, show [dnM r c j (swV r c x j a)].length = 1 from rfl] at hlen
          have key : rounds (fun vs => lo262_2.dv (Vi r :: Vi c :: x2 :: x3 :: x4 :: vs)) [x0, Vi j, ML ms, Jl pl, Vi r, Vi c, Vl x] = rounds (fun vs => lo262_2.dv (Vi r :: Vi c :: x2 :: x3 :: x4 :: vs)) [x0, Vi ((j + 1 : Nat) : Int), ML (ms ++ [dnM r c j (swV r c x j a)]), Jl (swL pl j a), Vi r, Vi c, Vl (dnX r c j (swV r c x j a))] := by
            refine rounds_cont ?_
            generalize ((j + 1 : Nat) : Int) = z at *
            generalize ((ms.length + 1 : Nat) : Int) = w at *
            generalize dnX r c j (swV r c x j a) = y at *
            generalize dnM r c j (swV r c x j a) = mm at *
            generalize swV r c x j a = xx at *
            simp [lo262_2, TT.dv, hjc, hjr, gr, sw, hla, hlj, g1, g2, set_J, s1, hlast', st, e1, hap, hlen, l2, hswL]
          rw [key]
          exact ih (j := j + 1) (by omega) (dnX_mx hs hjc hjr) (by simp [hl]) (by simpa using hp)
theorem pv9_loop {r c : Nat} {x0 x2 x3 : PV} : ∀ (n : Nat) {j : Nat} {pl : List Int} {x : List Nat} {ms : List Mir}, j + n = min c r → Mx r c x → ms.length = j → pl.length = c →
    match pvR r c n j pl x ms with
    | some (pl', y, ms') => rounds (fun vs => lo204_1.dv (Vi r :: Vi c :: x2 :: x3 :: vs)) [Jl pl, Vi j, ML9 ms, Vi r, Vi c, Vl x] = some (.y (.ext 0) [Jl pl', ML9 ms', Vi r, Vi c, Vl y])
    | none => ∃ q1 q2 q3 q4 q5, rounds (fun vs => lo204_1.dv (Vi r :: Vi c :: x2 :: x3 :: vs)) [Jl pl, Vi j, ML9 ms, Vi r, Vi c, Vl x] = some (.y .ret [q1, q2, q3, q4, q5]) := by
  intro n
  induction n with
  | zero =>
    intro j pl x ms hj h hl hp
    have hr := h.hr
    have hc := h.hc
    simp only [pvR]
    refine rounds_exit ?_ (by simp)
    by_cases c1 : j < c
    · simp [lo204_1, TT.dv, c1, show ¬ j < r by omega]
    · simp [lo204_1, TT.dv, c1]
  | succ n ih =>
    intro j pl x ms hj h hl hp
    have hr := h.hr
    have hc := h.hc
    have hjc : j < c := by omega
    have hjr : j < r := by omega
    have gr := greatest9_ok h (j := j) (by omega) hjc
    obtain ⟨ga, gb⟩ := grR_lt (r := r) (x := x) hjc
    have gfin := fun hh => grR_fin (r := r) (x := x) hjc hh gb ga
    unfold pvR
    generalize grR r c x j = g at *
    obtain ⟨a, ok⟩ := g
    simp only at gr ga gb ⊢
    cases ok
    · simp only [Bool.false_eq_true, if_false] at gr ⊢
      exact ⟨Jl pl, ML9 ms, Vi r, Vi c, Vl x, rounds_exit (by simp [lo204_1, TT.dv, hjc, hjr, gr]) (by simp)⟩
    · simp only [if_true] at gr ⊢
      have fi := first_ok (n := c) (by omega)
      have s9 := swap9_ok (l := firL c) (i := j) (k := a) (by simp; omega) (by simpa using hjc) (by simpa using ga)
      have s9' := swap9_ok (l := pl) (i := j) (k := a) (by omega) (by omega) (by omega)
      have co := columns9_ok h (pl := swL (firL c) j a) (by simp; omega) (fun k hk => by
        simp at hk
        rw [ei_swL (by simpa using hjc) (by simpa using ga), ei_firL (swN_lt hjc ga hk)]
        have := swN_lt hjc ga hk
        omega)
      rw [coV_sw h hjc ga, show ((swL (firL c) j a).length : Int) = (c : Int) by simp] at co
      have hs := swV_mx h j a
      have s1 : (B.sub .i64).den (Vi r) (Vi 1) = Vi ((r : Int) - 1) := sub_i (by omega) (by omega)
      have na : ¬ (a : Int) < 0 := by omega
      by_cases hlast : j = r - 1
      · rw [if_pos hlast]
        have hlast' : (j : Int) = r - 1 := by omega
        refine rounds_exit ?_ (by simp)
        rw [← hlast'] at s1
        simp [lo204_1, TT.dv, hjc, hjr, gr, na, fi, s9, s9', co, s1]
      · rw [if_neg hlast]
        have hlast' : ¬ (j : Int) = r - 1 := by omega
        have cl := column9_ok hs hjc (show j ≤ r by omega)
        have hw := colL_words hs j j
        have hcl : (colL r c (swV r c x j a) j j).length = r - j := colL_len _ _ _ _ _
        have mk0 := make9_iff hs hjc hjr (by rw [colL_sw hjc (by omega)]; exact gfin rfl)
        cases hok : dnOk r c j (swV r c x j a)
        · rw [hok] at mk0
          simp only [Bool.false_eq_true, if_false] at mk0 ⊢
          exact ⟨_, _, _, _, _, rounds_exit (by simp [lo204_1, TT.dv, hjc, hjr, gr, na, fi, s9, s9', co, s1, hlast', cl, mk0]; exact ⟨rfl, rfl, rfl, rfl, rfl⟩) (by simp)⟩
        · rw [hok] at mk0
          simp only [if_true] at mk0 ⊢
          have ap := dapply9_ok hs hjc hjr
          have am := dapply_mx hs hjc hjr
          have dm := dnM_ok hs hjc hjr
          have cd := cleared16_ok hjr hjc am dm.b
          have e1 : (B.add .i64).den (Vi j) (Vi 1) = Vi ((j + 1 : Nat) : Int) := by rw [add_i (by omega) (by omega)]; rfl
          have hap := app_ML9 ms (dnM r c j (swV r c x j a))
          have l2 : ((ms.length + 1 : Nat) : Int) ≤ 3518437208883 := by omega
          have hlen := len_ML9 (ms ++ [dnM r c j (swV r c x j a)])
          rw [List.length_append, show [dnM r c j (swV r c x j a)].length = 1 from rfl] at hlen
          have key : rounds (fun vs => lo204_1.dv (Vi r :: Vi c :: x2 :: x3 :: vs)) [Jl pl, Vi j, ML9 ms, Vi r, Vi c, Vl x] = rounds (fun vs => lo204_1.dv (Vi r :: Vi c :: x2 :: x3 :: vs)) [Jl (swL pl j a), Vi ((j + 1 : Nat) : Int), ML9 (ms ++ [dnM r c j (swV r c x j a)]), Vi r, Vi c, Vl (dnX r c j (swV r c x j a))] := by
            refine rounds_cont ?_
            unfold dnX
            generalize ((j + 1 : Nat) : Int) = z at *
            generalize ((ms.length + 1 : Nat) : Int) = w at *
            generalize dnM r c j (swV r c x j a) = mm at *
            generalize clV r c (apV r c (swV r c x j a) j j mm.1 mm.2.1) j mm.2.2 = y at *
            simp [lo204_1, TT.dv, hjc, hjr, gr, na, fi, s9, s9', co, s1, hlast', cl, mk0, ap, cd, e1, hap, hlen, l2]
          rw [key]
          exact ih (j := j + 1) (by omega) (dnX_mx hs hjc hjr) (by simp [hl]) (by simpa using hp)
end Go.Proofs.YthchhkghjfendabGreat.Dx

namespace Go.Proofs.YthchhkghjfendabGreat.Dx
open Go

theorem awake_16 : val 69 [] = some [Vb true] := val_iff.2 ⟨4000, by kernel_rfl⟩
def pfR (r c : Nat) (x : List Nat) : Option (List Nat × List Nat × List Int) :=
  match pvR r c (min c r) 0 (firL c) x [] with
  | none => none
  | some (pl, y, ms) => if finV (qrQ r ms) && finV y then some (qrQ r ms, y, pl) else none
theorem pv_mx {r c : Nat} {x y : List Nat} {pl : List Int} {ms : List Mir} (h : Mx r c x) (he : pvR r c (min c r) 0 (firL c) x [] = some (pl, y, ms)) : Mx r c y ∧ MsOK r ms ∧ ms.length ≤ r ∧ pl.length = c := by
  obtain ⟨a, b, d, e⟩ := pvR_mx (min c r) (j := 0) (by omega) (by omega) h (fun j m hj => by simp at hj) rfl he
  exact ⟨a, b, d, by simpa using e⟩
theorem pfR_mx {r c : Nat} {x q y : List Nat} {pl : List Int} (h : Mx r c x) (he : pfR r c x = some (q, y, pl)) : Mx r r q ∧ Mx r c y ∧ pl.length = c := by
  unfold pfR at he
  split at he
  · cases he
  · rename_i pl' y' ms hd
    obtain ⟨hy, hms, hml, hpl⟩ := pv_mx h hd
    split at he
    · simp at he; obtain ⟨rfl, rfl, rfl⟩ := he
      exact ⟨backR_mx hms hml _ (Nat.le_refl _) (eyV_mx h.hr), hy, hpl⟩
    · cases he
theorem pl_loop {c : Nat} (hc : c ≤ 6) {x0 x2 x3 : PV} : ∀ (n : Nat) {i : Nat}, i + n = c → rounds (fun vs => lo262_1.dv (x0 :: Vi c :: x2 :: x3 :: vs)) [Vi i, Jl (firL i)] = some (.y (.ext 0) [Jl (firL c)]) := by
  intro n
  induction n with
  | zero =>
    intro i hi
    have : i = c := by omega
    subst this
    refine rounds_exit ?_ (by simp)
    simp [lo262_1, TT.dv]
  | succ n ih =>
    intro i hi
    refine Eq.trans (rounds_cont ?_) (ih (i := i + 1) (by omega))
    have e1 : (B.add .i64).den (Vi i) (Vi 1) = Vi (i + 1) := add_i (by omega) (by omega)
    have a1 := app_J (firL i) i
    rw [firL_succ] at a1
    simp [lo262_1, TT.dv, show i < c by omega, e1, a1, show (i : Int) + 1 ≤ 17592186044416 by omega]
section
variable {r : Nat} {ms : List Mir} (hms : MsOK r ms) (hml : ms.length ≤ r)
include hms hml
theorem back262_loop {x0 x1 x2 x3 x4 x5 x7 x8 x9 x10 x11 x12 x13 x14 : PV} : ∀ (n : Nat) {q : List Nat}, n ≤ ms.length → Mx r r q →
    rounds (fun vs => lo262_3.dv (x0 :: x1 :: x2 :: x3 :: x4 :: x5 :: ML ms :: x7 :: x8 :: x9 :: x10 :: x11 :: x12 :: x13 :: x14 :: vs)) [Vi ((n : Int) - 1), Vi r, Vi r, Vl q] = some (.y (.ext 4) [Vi r, Vi r, Vl (backR r ms n q)]) := by
  intro n
  induction n with
  | zero =>
    intro q hn hq
    refine rounds_exit ?_ (by simp)
    simp [lo262_3, TT.dv, backR]
  | succ n ih =>
    intro q hn hq
    have hlt : n < ms.length := by omega
    refine Eq.trans (rounds_cont ?_) (ih (by omega) (back_step_mx hms hml hq hlt))
    have hr := hq.hr
    have e0 : ((n + 1 : Nat) : Int) - 1 = (n : Int) := by omega
    have e1 : (B.sub .i64).den (Vi n) (Vi 1) = Vi ((n : Int) - 1) := sub_i (by omega) (by omega)
    have a1 := back_ap hms hml hq hlt
    have g1 := get_ML hlt
    have l1 := len_ML ms
    have f0 : ∀ a b : PV, (U.fld 0).den (PV.a [a, b]) = a := fun _ _ => rfl
    have f1 : ∀ a b : PV, (U.fld 1).den (PV.a [a, b]) = b := fun _ _ => rfl
    rw [e0]
    simp [lo262_3, TT.dv, hlt, e1, a1, g1, l1, f0, f1]
theorem back204_loop {x0 x1 x2 x3 x4 x6 x7 x8 x9 x10 x11 : PV} : ∀ (n : Nat) {q : List Nat}, n ≤ ms.length → Mx r r q →
    rounds (fun vs => lo204_2.dv (x0 :: x1 :: x2 :: x3 :: x4 :: ML9 ms :: x6 :: x7 :: x8 :: x9 :: x10 :: x11 :: vs)) [Vi ((n : Int) - 1), Vi r, Vi r, Vl q] = some (.y (.ext 2) [Vi r, Vi r, Vl (backR r ms n q)]) := by
  intro n
  induction n with
  | zero =>
    intro q hn hq
    refine rounds_exit ?_ (by simp)
    simp [lo204_2, TT.dv, backR]
  | succ n ih =>
    intro q hn hq
    have hlt : n < ms.length := by omega
    refine Eq.trans (rounds_cont ?_) (ih (by omega) (back_step_mx hms hml hq hlt))
    have hr := hq.hr
    have e0 : ((n + 1 : Nat) : Int) - 1 = (n : Int) := by omega
    have e1 : (B.sub .i64).den (Vi n) (Vi 1) = Vi ((n : Int) - 1) := sub_i (by omega) (by omega)
    have a1 := back_ap9 hms hml hq hlt
    have g1 := get_ML9 hlt
    have l1 := len_ML9 ms
    have f0 : ∀ a b c : PV, (U.fld 0).den (PV.a [a, b, c]) = a := fun _ _ _ => rfl
    have f1 : ∀ a b c : PV, (U.fld 1).den (PV.a [a, b, c]) = b := fun _ _ _ => rfl
    rw [e0]
    simp [lo204_2, TT.dv, hlt, e1, a1, g1, l1, f0, f1]
end
theorem pfactor_ok {r c : Nat} {x : List Nat} (h : Mx r c x) (hf : finV x = true) : val 262 [Vi r, Vi c, Vl x] = some (match pfR r c x with | some (q, y, pl) => [Vi r, Vi r, Vl q, Vi r, Vi c, Vl y, Jl pl, Vi 0] | none => [Vi 0, Vi 0, Vl [], Vi 0, Vi 0, Vl [], Jl [], Vi 2]) := by
  refine val_of tab262 ?_
  have hr := h.hr
  have hs := h.small
  have h1 := ccheck_ok r c (x := x) (by omega)
  unfold chk at h1
  rw [if_pos (mx_right h), if_pos hf] at h1
  have lp1 := fun x0 x2 x3 => pl_loop h.hc (x0 := x0) (x2 := x2) (x3 := x3) c (i := 0) (by omega)
  simp only [show ((0 : Nat) : Int) = 0 from rfl, show Jl (firL 0) = Vl [] from rfl] at lp1
  have lp2 := fun x0 x2 x3 x4 => pv_loop (x0 := x0) (x2 := x2) (x3 := x3) (x4 := x4) (min c r) (j := 0) (pl := firL c) (x := x) (ms := []) (by omega) h rfl (by simp)
  unfold pfR
  cases hd : pvR r c (min c r) 0 (firL c) x [] with
  | none =>
    rw [hd] at lp2
    obtain ⟨q, lp2⟩ := lp2 (Vi 0) (Vl x) (Vi 0) (Jl (firL c))
    rw [show ((0 : Nat) : Int) = 0 from rfl, ← ML_nil] at lp2
    simp [tr262, TT.dv, KS.dv, h1, lp1, lp2, show (x.length : Int) ≤ 17592186044416 by omega, ← Jl_nil]
  | some p =>
    obtain ⟨pl, y, ms⟩ := p
    rw [hd] at lp2
    have lp2 := lp2 (Vi 0) (Vl x) (Vi 0) (Jl (firL c))
    simp only [show ((0 : Nat) : Int) = 0 from rfl, ← ML_nil] at lp2
    obtain ⟨hy, hms, hml, hpl⟩ := pv_mx h hd
    have h3 := eye_ok hr
    have hq : Mx r r (qrQ r ms) := backR_mx hms hml _ (Nat.le_refl _) (eyV_mx h.hr)
    have lp3 := fun x0 x1 x2 x3 x4 x5 x7 x8 x9 x10 x11 x12 x13 x14 => back262_loop hms hml (x0 := x0) (x1 := x1) (x2 := x2) (x3 := x3) (x4 := x4) (x5 := x5) (x7 := x7) (x8 := x8) (x9 := x9) (x10 := x10) (x11 := x11) (x12 := x12) (x13 := x13) (x14 := x14) ms.length (Nat.le_refl _) (eyV_mx hr)
    rw [show backR r ms ms.length (eyV r) = qrQ r ms from rfl] at lp3
    have f1 := finite_v_ok hq.w (by have := hq.small; omega)
    have f2 := finite_v_ok hy.w (by have := hy.small; omega)
    have l1 := len_ML ms
    have s1 : (B.sub .i64).den (Vi ms.length) (Vi 1) = Vi ((ms.length : Int) - 1) := sub_i (by omega) (by omega)
    cases c1 : finV (qrQ r ms)
    · rw [c1] at f1
      simp [tr262, TT.dv, KS.dv, h1, lp1, lp2, h3, show (x.length : Int) ≤ 17592186044416 by omega, lp3, l1, s1, f1, c1, ← Jl_nil]
    · cases c2 : finV y <;> rw [c1] at f1 <;> rw [c2] at f2 <;>
      simp [tr262, TT.dv, KS.dv, h1, lp1, lp2, h3, show (x.length : Int) ≤ 17592186044416 by omega, lp3, l1, s1, f1, f2, c1, c2, ← Jl_nil]
theorem pfactor_no {R C : Int} {x : List Nat} (hl : x.length ≤ 17592186043904) {e : Int} (he : chk R C x = e) (h0 : e ≠ 0) : val 262 [Vi R, Vi C, Vl x] = some [Vi 0, Vi 0, Vl [], Vi 0, Vi 0, Vl [], Jl [], Vi e] := by
  refine val_of tab262 ?_
  have h1 := ccheck_ok R C hl
  rw [he] at h1
  simp [tr262, TT.dv, KS.dv, h1, h0, ← Jl_nil]
theorem pfactor9_ok {r c : Nat} {x : List Nat} (h : Mx r c x) : val 204 [Vi r, Vi c, Vl x] = some (match pfR r c x with | some (q, y, pl) => [Vi r, Vi r, Vl q, Vi r, Vi c, Vl y, Jl pl, Vb true] | none => [Vi 0, Vi 0, Vl [], Vi 0, Vi 0, Vl [], Jl [], Vb false]) := by
  refine val_of tab204 ?_
  have hr := h.hr
  have hc := h.hc
  have fi := first_ok (n := c) (by omega)
  have lp := fun x2 x3 => pv9_loop (x0 := x2) (x2 := x2) (x3 := x3) (min c r) (j := 0) (pl := firL c) (x := x) (ms := []) (by omega) h rfl (by simp)
  unfold pfR
  cases hd : pvR r c (min c r) 0 (firL c) x [] with
  | none =>
    rw [hd] at lp
    obtain ⟨q1, q2, q3, q4, q5, lp⟩ := lp (Vl x) (Jl (firL c))
    rw [show ((0 : Nat) : Int) = 0 from rfl, ← ML9_nil] at lp
    simp [tr204, TT.dv, KS.dv, fi, lp, ← Jl_nil]
  | some p =>
    obtain ⟨pl, y, ms⟩ := p
    obtain ⟨hy, hms, hml, hpl⟩ := pv_mx h hd
    rw [hd] at lp
    have lp := lp (Vl x) (Jl (firL c))
    simp only [show ((0 : Nat) : Int) = 0 from rfl, ← ML9_nil] at lp
    have h3 := eye9_ok hr
    have hq : Mx r r (qrQ r ms) := backR_mx hms hml _ (Nat.le_refl _) (eyV_mx h.hr)
    have lp2 := fun x0 x1 x2 x3 x4 x6 x7 x8 x9 x10 x11 => back204_loop hms hml (x0 := x0) (x1 := x1) (x2 := x2) (x3 := x3) (x4 := x4) (x6 := x6) (x7 := x7) (x8 := x8) (x9 := x9) (x10 := x10) (x11 := x11) ms.length (Nat.le_refl _) (eyV_mx hr)
    rw [show backR r ms ms.length (eyV r) = qrQ r ms from rfl] at lp2
    have f1 := finite_9_ok hq.w (by have := hq.small; omega)
    have f2 := finite_9_ok hy.w (by have := hy.small; omega)
    have l1 := len_ML9 ms
    have s1 : (B.sub .i64).den (Vi ms.length) (Vi 1) = Vi ((ms.length : Int) - 1) := sub_i (by omega) (by omega)
    cases c1 : finV (qrQ r ms)
    · rw [c1] at f1
      simp [tr204, TT.dv, KS.dv, fi, h3, lp, lp2, l1, s1, f1, c1, ← Jl_nil]
    · cases c2 : finV y <;> rw [c1] at f1 <;> rw [c2] at f2 <;>
      simp [tr204, TT.dv, KS.dv, fi, h3, lp, lp2, l1, s1, f1, f2, c1, c2, ← Jl_nil]
theorem sameI_loop {l : List Int} (h : l.length ≤ 1000) {x2 : PV} : ∀ (n : Nat) {i : Nat}, i + n = l.length → rounds (fun vs => lo206_1.dv (Jl l :: Jl l :: vs)) [x2, Vi i] = some (.y (.ext 0) [x2]) := by
  intro n
  induction n with
  | zero =>
    intro i hi
    have : i = l.length := by omega
    subst this
    refine rounds_exit ?_ (by simp)
    simp [lo206_1, TT.dv]
  | succ n ih =>
    intro i hi
    refine Eq.trans (rounds_cont ?_) (ih (i := i + 1) (by omega))
    have e1 : (B.add .i64).den (Vi i) (Vi 1) = Vi (i + 1) := add_i (by omega) (by omega)
    have g1 := get_J (l := l) (i := i) (by omega)
    simp [lo206_1, TT.dv, show i < l.length by omega, e1, g1]
theorem sameI_ok {l : List Int} (h : l.length ≤ 1000) : val 206 [Jl l, Jl l] = some [Vb true] := by
  refine val_of tab206 ?_
  have lp := fun x2 => sameI_loop h (x2 := x2) l.length (i := 0) (by omega)
  simp only [show ((0 : Nat) : Int) = 0 from rfl] at lp
  simp [tr206, TT.dv, KS.dv, lp]
theorem cpl64 : lo64_1 = cplT 14 0 := rfl
theorem law_PivotFactors {R C : Int} (_ : -9223372036854775808 ≤ R) (_ : R < 9223372036854775808) (_ : -9223372036854775808 ≤ C) (_ : C < 9223372036854775808) {x : List Nat} (hw : Words x) (hl : x.length ≤ 17592186043904) :
    val 64 [Vi R, Vi C, Vl x] = some [Vb true] := by
  refine val_of tab64 ?_
  have cp := copy_ok R C (x := x) (by omega)
  have lp := cpl_at (p := 14) (e := 0) hw hl
  rw [← cpl64] at lp
  have c9 := ccheck9_ok R C hw hl
  have si0 := sameI_ok (l := []) (by decide)
  rcases chk_cases R C x with hc | ⟨hc, hr, hf⟩
  · have f1 := pfactor_no hl rfl hc
    rw [← Jl_nil] at f1 si0
    generalize chk R C x = e at *
    refine Eq.trans (st_call rfl cp rfl) ?_
    refine Eq.trans (st_call rfl f1 rfl) ?_
    refine Eq.trans (st_loop (lp _ rfl)) ?_
    refine Eq.trans st_hit ?_
    simp only [List.cons_append, List.nil_append, List.append_nil]
    simp [TT.dv, KS.dv, c9, hc, same_nil, si0, awake_16]
  · obtain ⟨r, c, rfl, rfl, h⟩ := right_mx hr hw
    rw [hc] at c9
    have f1 := pfactor_ok h hf
    have f9 := pfactor9_ok h
    cases hq : pfR r c x with
    | none =>
      rw [hq] at f1 f9
      simp only at f1 f9
      rw [← Jl_nil] at f1 f9 si0
      refine Eq.trans (st_call rfl cp rfl) ?_
      refine Eq.trans (st_call rfl f1 rfl) ?_
      refine Eq.trans (st_loop (lp _ rfl)) ?_
      refine Eq.trans st_hit ?_
      simp only [List.cons_append, List.nil_append, List.append_nil]
      simp [TT.dv, KS.dv, c9, f9, same_nil, si0, awake_16]
    | some p =>
      obtain ⟨q, y, pl⟩ := p
      rw [hq] at f1 f9
      simp only at f1 f9
      obtain ⟨mq, my, hpl⟩ := pfR_mx h hq
      have hc6 := h.hc
      have s1 := same_m r r (x := q) (by have := mq.small; omega)
      have s2 := same_m r c (x := y) (by have := my.small; omega)
      have s3 := sameI_ok (l := pl) (by omega)
      refine Eq.trans (st_call rfl cp rfl) ?_
      refine Eq.trans (st_call rfl f1 rfl) ?_
      refine Eq.trans (st_loop (lp _ rfl)) ?_
      refine Eq.trans st_hit ?_
      simp only [List.cons_append, List.nil_append, List.append_nil]
      simp [TT.dv, KS.dv, c9, f9, s1, s2, s3, awake_16]
end Go.Proofs.YthchhkghjfendabGreat.Dx
