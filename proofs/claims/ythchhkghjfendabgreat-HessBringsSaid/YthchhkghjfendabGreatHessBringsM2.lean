/- The pure meaning of the functions that the law reaches, and that the law is true of it. No conditions. -/
import Derived.Test.YthchhkghjfendabGreatHessBringsM1
set_option linter.all false
namespace Go.Proofs.YthchhkghjfendabGreat.Dx
open Go

theorem or_hi {h l : Nat} (hh : h < 4398046511104) (hl : l < 1048576) : (B.or .u64).den (Vu (h * 1048576)) (Vu l) = Vu (h * 1048576 + l) := by
  have := or_add (a := h) (b := l) (i := 20) (by omega) (by omega) (by omega)
  rw [show (2 : Nat) ^ 20 = 1048576 from rfl, Nat.mul_comm] at this
  exact this
theorem hilo {P : Nat} (h : P < 2 ^ 106) : P / 18446744073709551616 < 4398046511104 ∧ P % 18446744073709551616 / 17592186044416 < 1048576 ∧
    P / 18446744073709551616 * 1048576 + P % 18446744073709551616 / 17592186044416 = P / 2 ^ 44 ∧ (P % 18446744073709551616 * 1048576 % 18446744073709551616 = 0 ↔ P % 2 ^ 44 = 0) ∧ P / 2 ^ 44 < 4611686018427387904 := by
  rw [show (2 : Nat) ^ 106 = 81129638414606681695789005144064 from rfl] at h
  rw [show (2 : Nat) ^ 44 = 17592186044416 from rfl]
  refine ⟨by omega, by omega, by omega, by omega, by omega⟩
theorem times_ok {a b : Nat} (ha : a < 18446744073709551616) (hb : b < 18446744073709551616) : ∃ f, val 301 [Vu a, Vu b] = some [Vu (mulV a b), f] := by
  have s1 := sign_ok a
  have s2 := sign_ok b
  have k1 := kind_ok a
  have k2 := kind_ok b
  have hn := times_nan a b
  unfold mulV
  by_cases c1 : nanB a ∨ nanB b
  · rw [if_pos c1]
    refine ⟨Vy 0, val_of tab301 ?_⟩
    rw [decide_eq_true c1] at hn
    simp [tr301, TT.dv, s1, s2, k1, k2, hn, nan0]
  · rw [if_neg c1]
    rw [decide_eq_false c1] at hn
    have cn1 : ¬ nanB a := fun h => c1 (.inl h)
    have cn2 : ¬ nanB b := fun h => c1 (.inr h)
    by_cases c2 : infB a ∨ infB b
    · rw [if_pos c2]
      by_cases c3 : zeroB a ∨ zeroB b
      · rw [if_pos c3]
        refine ⟨Vy 16, val_of tab301 ?_⟩
        have hc : (fKind a = 3 ∧ fKind b = 0) ∨ (fKind a = 0 ∧ fKind b = 3) := by
          rw [kind_infB, kind_infB, kind_zeroB, kind_zeroB]
          rcases c2 with h | h <;> rcases c3 with g | g
          · exact absurd h.1 (zeroB_fin g)
          · exact .inl ⟨h, g⟩
          · exact .inr ⟨g, h⟩
          · exact absurd h.1 (zeroB_fin g)
        rcases hc with ⟨h1, h2⟩ | ⟨h1, h2⟩ <;> simp [tr301, TT.dv, s1, s2, k1, k2, hn, h1, h2, nan0]
      · rw [if_neg c3]
        refine ⟨Vy 0, val_of tab301 ?_⟩
        have z1 : ¬ fKind a = 0 := fun h => c3 (.inl ((kind_zeroB a).1 h))
        have z2 : ¬ fKind b = 0 := fun h => c3 (.inr ((kind_zeroB b).1 h))
        have hs := signed_ok (b := infR) (fNeg a != fNeg b) (.inl rfl)
        unfold infR at hs ⊢
        rcases c2 with h | h
        · have h1 := (kind_infB a).2 h
          simp [tr301, TT.dv, s1, s2, k1, k2, hn, h1, z1, z2, hs]
        · have h1 := (kind_infB b).2 h
          simp [tr301, TT.dv, s1, s2, k1, k2, hn, h1, z1, z2, hs]
    · rw [if_neg c2]
      have i1 : ¬ fKind a = 3 := fun h => c2 (.inl ((kind_infB a).1 h))
      have i2 : ¬ fKind b = 3 := fun h => c2 (.inr ((kind_infB b).1 h))
      by_cases c3 : zeroB a ∨ zeroB b
      · rw [if_pos c3]
        refine ⟨Vy 0, val_of tab301 ?_⟩
        have hs := signed_ok (b := 0) (fNeg a != fNeg b) (.inr rfl)
        rcases c3 with h | h
        · have h1 := (kind_zeroB a).2 h
          simp [tr301, TT.dv, s1, s2, k1, k2, hn, h1, i1, i2, hs]
        · have h1 := (kind_zeroB b).2 h
          simp [tr301, TT.dv, s1, s2, k1, k2, hn, h1, i1, i2, hs]
      · rw [if_neg c3]
        have z1 : ¬ fKind a = 0 := fun h => c3 (.inl ((kind_zeroB a).1 h))
        have z2 : ¬ fKind b = 0 := fun h => c3 (.inr ((kind_zeroB b).1 h))
        have f1 := fin_of cn1 (fun h => c2 (.inl h))
        have f2 := fin_of cn2 (fun h => c2 (.inr h))
        have m1 : fMag a ≠ 0 := fun h => c3 (.inl ((zeroB_mag f1).2 h))
        have m2 : fMag b ≠ 0 := fun h => c3 (.inr ((zeroB_mag f2).2 h))
        have n1 := norm3_ok m1
        have n2 := norm3_ok m2
        obtain ⟨a1, a2, a3⟩ := nrm_bd m1 (fMag_lt a)
        obtain ⟨b1, b2, b3⟩ := nrm_bd m2 (fMag_lt b)
        obtain ⟨p1, p2⟩ := fPl_bd a
        obtain ⟨q1, q2⟩ := fPl_bd b
        have hw1 : nrm (fMag a) ≤ 52 := by unfold nrm; omega
        have hw2 : nrm (fMag b) ≤ 52 := by unfold nrm; omega
        have hPx : fMag a * 2 ^ nrm (fMag a) * (fMag b * 2 ^ nrm (fMag b)) = fMag a * fMag b * 2 ^ (nrm (fMag a) + nrm (fMag b)) := by
          rw [Nat.pow_add, Nat.mul_assoc, Nat.mul_left_comm (2 ^ nrm (fMag a)), ← Nat.mul_assoc (fMag a)]
        have m64 := mul64_ok (x := fMag a * 2 ^ nrm (fMag a)) (y := fMag b * 2 ^ nrm (fMag b)) (by omega) (by omega)
        have hlo : 2 ^ 100 ≤ fMag a * 2 ^ nrm (fMag a) * (fMag b * 2 ^ nrm (fMag b)) := by
          have := Nat.mul_le_mul a2 b2
          refine Nat.le_trans ?_ this
          decide
        have hhi : fMag a * 2 ^ nrm (fMag a) * (fMag b * 2 ^ nrm (fMag b)) < 2 ^ 106 := by
          have := Nat.mul_lt_mul'' a3 b3
          exact Nat.lt_of_lt_of_le this (by decide)
        have hsc := (near_scale true (fMag a * fMag b) (fPl a + fPl b) (nrm (fMag a) + nrm (fMag b))).2.2
        rw [← hPx] at hsc
        generalize hP : fMag a * 2 ^ nrm (fMag a) * (fMag b * 2 ^ nrm (fMag b)) = P at *
        have hnr := mul_near hlo (fPl a - nrm (fMag a) + (fPl b - nrm (fMag b)))
        obtain ⟨t1, t2, t3, t4, t5⟩ := hilo hhi
        have e1 : (B.add .i64).den (Vi (fPl a - nrm (fMag a))) (Vi (fPl b - nrm (fMag b))) = Vi (fPl a - nrm (fMag a) + (fPl b - nrm (fMag b))) := add_i (by omega) (by omega)
        have e2 : (B.add .i64).den (Vi (fPl a - nrm (fMag a) + (fPl b - nrm (fMag b)))) (Vi 44) = Vi (fPl a - nrm (fMag a) + (fPl b - nrm (fMag b)) + 44) := add_i (by omega) (by omega)
        have e3 : (B.shl .u64).den (Vu (P / 18446744073709551616)) (Vu 20) = Vu (P / 18446744073709551616 * 1048576) := by
          rw [shl_uU]; refine congrArg Vu ?_
          show P / 18446744073709551616 * 1048576 % _ = _
          omega
        have e4 : (B.shr .u64).den (Vu (P % 18446744073709551616)) (Vu 44) = Vu (P % 18446744073709551616 / 17592186044416) := by rw [shr_uU]; rfl
        have e5 := or_hi t1 t2
        rw [t3] at e5
        have e6 : (B.shl .u64).den (Vu (P % 18446744073709551616)) (Vu 20) = Vu (P % 18446744073709551616 * 1048576 % 18446744073709551616) := by rw [shl_uU]; rfl
        have e7 : decide (P % 18446744073709551616 * 1048576 % 18446744073709551616 ≠ 0) = decide (P % 2 ^ 44 ≠ 0) := by
          rw [decide_eq_decide, ne_eq, ne_eq, t4]
        generalize hE : fPl a - nrm (fMag a) + (fPl b - nrm (fMag b)) = E at *
        have hN0 : P / 2 ^ 44 ≠ 0 := by
          have := Nat.div_le_div_right (c := 2 ^ 44) hlo
          rw [show (2 : Nat) ^ 100 / 2 ^ 44 = 72057594037927936 from by decide] at this
          omega
        have hlog : 56 ≤ (P / 2 ^ 44).log2 := by
          rw [Nat.le_log2 hN0, Nat.le_div_iff_mul_le (Nat.two_pow_pos _), ← Nat.pow_add]; exact hlo
        obtain ⟨f, hw⟩ := wide_ok (neg := fNeg a != fNeg b) (more := decide (P % 2 ^ 44 ≠ 0)) (m := P / 2 ^ 44) (e := E + 44) hN0 (by omega) (by omega) (by omega) (fun _ => by unfold lastP; omega)
        have hV : nearV (fNeg a != fNeg b) (2 * (P / 2 ^ 44) + (decide (P % 2 ^ 44 ≠ 0)).toNat) (E + 44 - 1) = nearV (fNeg a != fNeg b) (fMag a * fMag b) (fPl a + fPl b) := by
          unfold nearV
          rw [hnr, ← hsc]
          exact congrArg _ (congrArg _ (by omega))
        rw [hV] at hw
        have e8 : B.ne.den ((B.shl .u64).den (Vu (P % 18446744073709551616)) (Vu 20)) (Vu 0) = Vb (decide (P % 2 ^ 44 ≠ 0)) := by
          rw [e6, ne_u, e7]
        generalize decide (P % 2 ^ 44 ≠ 0) = mo at *
        generalize P / 2 ^ 44 = N at *
        refine ⟨f, val_of tab301 ?_⟩
        simp [-shl_u_lit, -shr_u_lit, -ne_u, tr301, TT.dv, s1, s2, k1, k2, hn, z1, z2, i1, i2, n1, n2, m64, e1, e2, e3, e4, e5, e8, hw]
end Go.Proofs.YthchhkghjfendabGreat.Dx

namespace Go.Proofs.YthchhkghjfendabGreat.Dx
open Go

def quoN (m n k : Nat) : Nat := 2 * (m * 2 ^ k / n) + (decide (m * 2 ^ k % n ≠ 0)).toNat
theorem quo_more {m n k : Nat} {p : Int} (hn : n ≠ 0) (hN : m * 2 ^ k / n ≠ 0) (h : p - k < lastP (m * 2 ^ k / n) (p - k)) (j : Nat) :
    nearR (quoN m n (k + j)) (p - ((k + j : Nat) : Int) - 1) = nearR (quoN m n k) (p - k - 1) := by
  unfold quoN
  have hd : m * 2 ^ (k + j) = (m * 2 ^ k / n * 2 ^ j) * n + m * 2 ^ k % n * 2 ^ j := by
    have : m * 2 ^ k = m * 2 ^ k / n * n + m * 2 ^ k % n := by have := Nat.div_add_mod (m * 2 ^ k) n; rw [Nat.mul_comm n] at this; exact this.symm
    rw [Nat.pow_add, ← Nat.mul_assoc]
    conv => lhs; rw [this]
    rw [Nat.add_mul, Nat.mul_right_comm]
  have hr : m * 2 ^ k % n < n := Nat.mod_lt _ (Nat.pos_of_ne_zero hn)
  generalize m * 2 ^ k / n = N at *
  generalize m * 2 ^ k % n = r at *
  have e1 : m * 2 ^ (k + j) / n = N * 2 ^ j + r * 2 ^ j / n := by
    rw [hd, Nat.add_comm, Nat.add_mul_div_right _ _ (Nat.pos_of_ne_zero hn), Nat.add_comm]
  have e2 : m * 2 ^ (k + j) % n = r * 2 ^ j % n := by rw [hd, Nat.add_comm, Nat.add_mul_mod_self_right]
  rw [e1, e2]
  have h3 : r * 2 ^ j / n < 2 ^ j := by
    rw [Nat.div_lt_iff_lt_mul (Nat.pos_of_ne_zero hn), Nat.mul_comm]; exact Nat.mul_lt_mul_of_pos_left hr (Nat.two_pow_pos j)
  have hs : 2 * (N * 2 ^ j + r * 2 ^ j / n) + (decide (r * 2 ^ j % n ≠ 0)).toNat = N * 2 ^ (j + 1) + (2 * (r * 2 ^ j / n) + (decide (r * 2 ^ j % n ≠ 0)).toNat) := by
    rw [Nat.pow_succ, ← Nat.mul_assoc]; omega
  rw [hs]
  by_cases hr0 : r = 0
  · subst hr0
    simp only [Nat.zero_mul, Nat.zero_div, Nat.zero_mod, ne_eq, not_true_eq_false, decide_false, Bool.toNat_false, Nat.mul_zero, Nat.add_zero]
    have t1 := (near_scale true N (p - k) 1).2.2
    have t2 := (near_scale true N (p - k) (j + 1)).2.2
    rw [Nat.pow_one, Nat.mul_comm N 2] at t1
    rw [show p - (k : Int) - 1 = p - k - ((1 : Nat) : Int) from rfl, t1, ← t2]
    exact congrArg _ (by omega)
  · have hp : 0 < 2 * (r * 2 ^ j / n) + (decide (r * 2 ^ j % n ≠ 0)).toNat := by
      by_cases hq : r * 2 ^ j / n = 0
      · have hm : r * 2 ^ j % n ≠ 0 := by
          have := Nat.div_add_mod (r * 2 ^ j) n
          rw [hq] at this
          have h4 : 0 < r * 2 ^ j := Nat.mul_pos (Nat.pos_of_ne_zero hr0) (Nat.two_pow_pos j)
          omega
        simp [hm]
      · omega
    have hlt : 2 * (r * 2 ^ j / n) + (decide (r * 2 ^ j % n ≠ 0)).toNat < 2 ^ (j + 1) := by
      have := Bool.toNat_le (decide (r * 2 ^ j % n ≠ 0))
      rw [Nat.pow_succ]; omega
    have := (near_sticky hN h hp hlt).1
    rw [show p - ((k + j : Nat) : Int) - 1 = p - k - ((j + 1 : Nat) : Int) by omega, this]
    simp [hr0]
def quoK (m n : Nat) : Nat := 54 + n.log2 - m.log2
def divV (a b : Nat) : Nat :=
  if nanB a ∨ nanB b then nan0 else
  if infB a then (if infB b then nan0 else sgn (fNeg a != fNeg b) infR) else
  if infB b then sgn (fNeg a != fNeg b) 0 else
  if zeroB b then (if zeroB a then nan0 else sgn (fNeg a != fNeg b) infR) else
  if zeroB a then sgn (fNeg a != fNeg b) 0 else nearV (fNeg a != fNeg b) (quoN (fMag a) (fMag b) (quoK (fMag a) (fMag b))) (fPl a - fPl b - quoK (fMag a) (fMag b) - 1)
theorem divB_ok {a b : Nat} (ha : a < 18446744073709551616) (hb : b < 18446744073709551616) : B.fdiv.den (Vf (cnF a)) (Vf (cnF b)) = Vf (divV a b) := by
  show fv (Ieee.double.div (cnF a) (cnF b)) = _
  rw [div_cn]
  unfold divV Ieee.Format.div
  by_cases h1 : nanB a
  · obtain ⟨s, f, h⟩ := rd_nan h1; rw [h, if_pos (.inl h1)]; rfl
  by_cases h2 : nanB b
  · obtain ⟨s, f, h⟩ := rd_nan h2; rw [h, if_pos (.inr h2)]; cases Ieee.double.read a <;> rfl
  rw [if_neg (by simp [h1, h2])]
  by_cases h3 : infB a
  · rw [rd_inf ha h3, if_pos h3]
    by_cases h4 : infB b
    · rw [rd_inf hb h4, if_pos h4]; rfl
    · have hf := fin_of h2 h4
      rw [rd_num hb hf, if_neg h4]
      show fv (some (Ieee.double.write _)) = _
      rw [wr_inf, xor_ne]; rfl
  · have hf := fin_of h1 h3
    rw [if_neg h3, rd_num ha hf]
    by_cases h4 : infB b
    · rw [rd_inf hb h4, if_pos h4]
      show fv (some (Ieee.double.write _)) = _
      rw [wr_num, xor_ne, nearV_zero]; rfl
    · have hg := fin_of h2 h4
      rw [rd_num hb hg, if_neg h4]
      show fv (Option.map _ (if fMag b = 0 then if fMag a = 0 then none else _ else _)) = _
      by_cases h5 : zeroB b
      · rw [if_pos h5, if_pos h5.1]
        by_cases h6 : zeroB a
        · rw [if_pos h6, if_pos h6.1]; rfl
        · rw [if_neg h6, if_neg (fun h => h6 ((zeroB_mag hf).2 h))]
          show fv (some (Ieee.double.write _)) = _
          rw [wr_inf, xor_ne]; rfl
      · rw [if_neg h5, if_neg (fun h => h5 ((zeroB_mag hg).2 h))]
        show fv (some (Ieee.double.write _)) = _
        rw [wr_num, xor_ne]
        have hk : Ieee.double.fractionBits + 2 + (fMag b).log2 - (fMag a).log2 = quoK (fMag a) (fMag b) := rfl
        rw [hk, Nat.shiftLeft_eq]
        have hq : 2 * (fMag a * 2 ^ quoK (fMag a) (fMag b) / fMag b) + (fMag a * 2 ^ quoK (fMag a) (fMag b) % fMag b != 0).toNat = quoN (fMag a) (fMag b) (quoK (fMag a) (fMag b)) := by
          unfold quoN
          refine congrArg _ (congrArg _ ?_)
          by_cases h : fMag a * 2 ^ quoK (fMag a) (fMag b) % fMag b = 0 <;> simp [h]
        rw [hq]
        by_cases h6 : zeroB a
        · rw [if_pos h6]
          have : quoN (fMag a) (fMag b) (quoK (fMag a) (fMag b)) = 0 := by unfold quoN; rw [h6.1]; simp
          rw [this, nearV_zero]; rfl
        · rw [if_neg h6]; rfl
theorem divV_lt {a b : Nat} : divV a b < 18446744073709551616 := by
  have h1 : ∀ s, sgn s infR < 18446744073709551616 := fun s => (sgn_fields _ (Nat.le_refl _)).2.2.2.2
  have h2 : ∀ s, sgn s 0 < 18446744073709551616 := fun s => (sgn_fields _ (Nat.zero_le _)).2.2.2.2
  have h3 : nan0 < 18446744073709551616 := by decide
  unfold divV
  repeat' split
  all_goals first | exact h3 | exact h1 _ | exact h2 _ | exact word_lt _ _ _
theorem divV_nan (a b : Nat) : cnF (divV a b) = divV a b := by
  unfold divV
  repeat' split
  all_goals first | exact cnF_nanB nanB_nan0 | exact cnF_ok (nanB_sgn _).1 | exact cnF_ok (nanB_sgn _).2 | exact cnF_ok (nanB_near _ _ _)

theorem dbl_div {a y : Nat} (hy : 0 < y) : a * 2 / y = 2 * (a / y) + (if y ≤ 2 * (a % y) then 1 else 0) ∧ a * 2 % y = 2 * (a % y) - (if y ≤ 2 * (a % y) then y else 0) := by
  have h := Nat.div_add_mod a y
  have hr := Nat.mod_lt a hy
  generalize a / y = q at *
  generalize a % y = r at *
  have e : a * 2 = 2 * r + y * (2 * q) := by rw [← h, Nat.mul_left_comm y 2 q]; omega
  rw [e, Nat.add_mul_div_left _ _ hy, Nat.add_mul_mod_self_left]
  by_cases hc : y ≤ 2 * r
  · rw [if_pos hc, if_pos hc]
    have e2 : 2 * r = (2 * r - y) + y := by omega
    have h1 : 2 * r / y = 1 := by rw [e2, Nat.add_div_right _ hy, Nat.div_eq_of_lt (by omega)]
    have h2 : 2 * r % y = 2 * r - y := by
      conv => lhs; rw [e2]
      rw [Nat.add_mod_right, Nat.mod_eq_of_lt (by omega)]
    exact ⟨by omega, h2⟩
  · rw [if_neg hc, if_neg hc, Nat.div_eq_of_lt (by omega), Nat.mod_eq_of_lt (by omega)]
    exact ⟨by omega, by omega⟩
theorem div_loop {x0 x1 x2 x3 x4 x5 x6 x7 x8 x10 : PV} {A y : Nat} (hy : 4503599627370496 ≤ y) (hy2 : y < 9007199254740992) (hA : A < 9007199254740992) : ∀ (n : Nat) {i : Nat}, i + n = 61 →
    rounds (fun vs => lo300_1.dv (x0 :: x1 :: x2 :: x3 :: x4 :: x5 :: x6 :: x7 :: x8 :: Vu y :: x10 :: vs)) [Vu (A * 2 ^ i / y), Vu (A * 2 ^ i % y), Vi i] = some (.y (.ext 1) [Vu (A * 2 ^ 61 / y), Vu (A * 2 ^ 61 % y)]) := by
  intro n
  induction n with
  | zero =>
    intro i hi
    have : i = 61 := by omega
    subst this
    refine rounds_exit ?_ (by simp)
    simp [lo300_1, TT.dv]
  | succ n ih =>
    intro i hi
    refine Eq.trans (rounds_cont ?_) (ih (i := i + 1) (by omega))
    have hd := dbl_div (a := A * 2 ^ i) (y := y) (by omega)
    rw [Nat.mul_assoc, ← Nat.pow_succ] at hd
    obtain ⟨d1, d2⟩ := hd
    have hr : A * 2 ^ i % y < y := Nat.mod_lt _ (by omega)
    have hq : A * 2 ^ i / y < 4611686018427387904 := by
      rw [Nat.div_lt_iff_lt_mul (by omega)]
      have h1 : A * 2 ^ i ≤ A * 2 ^ 60 := Nat.mul_le_mul_left A (Nat.pow_le_pow_right (by omega) (by omega))
      rw [show (2 : Nat) ^ 60 = 1152921504606846976 from rfl] at h1
      have h2 : 4611686018427387904 * 4503599627370496 ≤ 4611686018427387904 * y := Nat.mul_le_mul_left _ hy
      omega
    rw [d1, d2]
    generalize A * 2 ^ i / y = q at *
    generalize A * 2 ^ i % y = r at *
    have e1 : (B.shl .u64).den (Vu r) (Vu 1) = Vu (2 * r) := by
      rw [shl_uU]; refine congrArg Vu ?_
      show r * 2 % _ = _; omega
    have e2 : (B.shl .u64).den (Vu q) (Vu 1) = Vu (2 * q) := by
      rw [shl_uU]; refine congrArg Vu ?_
      show q * 2 % _ = _; omega
    have e3 : (B.add .i64).den (Vi i) (Vi 1) = Vi (i + 1) := add_i (by omega) (by omega)
    have e4 : (i : Int) < 61 := by omega
    have e5 : (B.or .u64).den (Vu (2 * q)) (Vu 1) = Vu (2 * q + 1) := or_add (a := q) (b := 1) (i := 1) (by omega) (by omega) (by omega)
    by_cases hc : y ≤ 2 * r
    · have e6 : (B.sub .u64).den (Vu (2 * r)) (Vu y) = Vu (2 * r - y) := sub_u hc (by omega)
      simp [-shl_u_lit, lo300_1, TT.dv, KS.dv, e1, e2, e3, e4, e5, e6, hc]
    · simp [-shl_u_lit, lo300_1, TT.dv, KS.dv, e1, e2, e3, e4, hc]
end Go.Proofs.YthchhkghjfendabGreat.Dx

namespace Go.Proofs.YthchhkghjfendabGreat.Dx
open Go

/-- The quotient of two numbers of 53 digits. -/
theorem quo_near {m n : Nat} (hm : m ≠ 0) (hn : n ≠ 0) (hm2 : m < 9007199254740992) (hn2 : n < 9007199254740992) (i j : Int) (s : Bool) :
    nearV s (quoN (m * 2 ^ nrm m) (n * 2 ^ nrm n) 61) (i - nrm m - (j - nrm n) - 61 - 1) = nearV s (quoN m n (quoK m n)) (i - j - quoK m n - 1) ∧ m * 2 ^ nrm m * 2 ^ 61 / (n * 2 ^ nrm n) ≠ 0 ∧
    60 ≤ (m * 2 ^ nrm m * 2 ^ 61 / (n * 2 ^ nrm n)).log2 := by
  obtain ⟨a1, a2, a3⟩ := nrm_bd hm hm2
  obtain ⟨b1, b2, b3⟩ := nrm_bd hn hn2
  have hk : quoK m n = 54 + n.log2 - m.log2 := rfl
  have hk2 : nrm m + 61 = quoK m n + 7 + nrm n := by rw [hk]; unfold nrm; omega
  have e0 : m * 2 ^ nrm m * 2 ^ 61 = m * 2 ^ (quoK m n + 7) * 2 ^ nrm n := by
    rw [Nat.mul_assoc, ← Nat.pow_add, hk2, Nat.pow_add, Nat.mul_assoc]
  have e1 : m * 2 ^ nrm m * 2 ^ 61 / (n * 2 ^ nrm n) = m * 2 ^ (quoK m n + 7) / n := by rw [e0, Nat.mul_div_mul_right _ _ (Nat.two_pow_pos _)]
  have e2 : m * 2 ^ nrm m * 2 ^ 61 % (n * 2 ^ nrm n) = m * 2 ^ (quoK m n + 7) % n * 2 ^ nrm n := by rw [e0, Nat.mul_mod_mul_right]
  have hq : quoN (m * 2 ^ nrm m) (n * 2 ^ nrm n) 61 = quoN m n (quoK m n + 7) := by
    unfold quoN
    rw [e1, e2]
    refine congrArg _ (congrArg _ ?_)
    rw [decide_eq_decide, ne_eq, ne_eq, Nat.mul_eq_zero]
    simp
  have hlow : 2 ^ 60 ≤ m * 2 ^ nrm m * 2 ^ 61 / (n * 2 ^ nrm n) := by
    rw [Nat.le_div_iff_mul_le (by unfold two52 at b2; omega)]
    have h1 : 2 ^ 60 * (n * 2 ^ nrm n) ≤ 2 ^ 60 * 9007199254740992 := Nat.mul_le_mul_left _ (by omega)
    have h2 : 4503599627370496 * 2 ^ 61 ≤ m * 2 ^ nrm m * 2 ^ 61 := Nat.mul_le_mul_right _ a2
    have h3 : 2 ^ 60 * 9007199254740992 = 4503599627370496 * 2 ^ 61 := by decide
    exact Nat.le_trans h1 (Nat.le_trans (Nat.le_of_eq h3) h2)
  have hpos : 0 < 2 ^ 60 := Nat.two_pow_pos 60
  have hne : m * 2 ^ nrm m * 2 ^ 61 / (n * 2 ^ nrm n) ≠ 0 := by omega
  have hlog : 60 ≤ (m * 2 ^ nrm m * 2 ^ 61 / (n * 2 ^ nrm n)).log2 := by rw [Nat.le_log2 hne]; exact hlow
  refine ⟨?_, hne, hlog⟩
  rw [hq]
  have h0 : m * 2 ^ quoK m n / n ≠ 0 ∧ 53 ≤ (m * 2 ^ quoK m n / n).log2 := by
    have hh : 2 ^ 53 ≤ m * 2 ^ quoK m n / n := by
      rw [Nat.le_div_iff_mul_le (Nat.pos_of_ne_zero hn)]
      have h1 := Nat.mul_le_mul_right (2 ^ quoK m n) (Nat.log2_self_le hm)
      rw [← Nat.pow_add] at h1
      have h2 : 2 ^ 53 * n ≤ 2 ^ 53 * 2 ^ (n.log2 + 1) := Nat.mul_le_mul_left _ (Nat.le_of_lt Nat.lt_log2_self)
      rw [← Nat.pow_add] at h2
      rw [show m.log2 + quoK m n = 53 + (n.log2 + 1) by rw [hk]; omega] at h1
      omega
    have : m * 2 ^ quoK m n / n ≠ 0 := by have := Nat.two_pow_pos 53; omega
    exact ⟨this, by rw [Nat.le_log2 this]; exact hh⟩
  have := quo_more (m := m) (n := n) (k := quoK m n) (p := i - j) hn h0.1 (by unfold lastP; omega) 7
  unfold nearV
  rw [← this]
  exact congrArg _ (congrArg _ (by omega))
theorem div_ok {a b : Nat} (ha : a < 18446744073709551616) (hb : b < 18446744073709551616) : ∃ f, val 300 [Vu a, Vu b] = some [Vu (divV a b), f] := by
  have s1 := sign_ok a
  have s2 := sign_ok b
  have k1 := kind_ok a
  have k2 := kind_ok b
  have hn := times_nan a b
  have hsI := signed_ok (b := infR) (fNeg a != fNeg b) (.inl rfl)
  have hsZ := signed_ok (b := 0) (fNeg a != fNeg b) (.inr rfl)
  have eI : infR = 9218868437227405312 := rfl
  rw [eI] at hsI
  unfold divV
  rw [eI]
  by_cases c1 : nanB a ∨ nanB b
  · rw [if_pos c1]
    refine ⟨Vy 0, val_of tab300 ?_⟩
    rw [decide_eq_true c1] at hn
    simp [tr300, TT.dv, s1, s2, k1, k2, hn, nan0]
  · rw [if_neg c1]
    rw [decide_eq_false c1] at hn
    have cn1 : ¬ nanB a := fun h => c1 (.inl h)
    have cn2 : ¬ nanB b := fun h => c1 (.inr h)
    by_cases c2 : infB a
    · rw [if_pos c2]
      have i1 := (kind_infB a).2 c2
      by_cases c3 : infB b
      · rw [if_pos c3]
        have i2 := (kind_infB b).2 c3
        refine ⟨Vy 16, val_of tab300 ?_⟩
        simp [tr300, TT.dv, s1, s2, k1, k2, hn, i1, i2, nan0]
      · rw [if_neg c3]
        have i2 : ¬ fKind b = 3 := fun h => c3 ((kind_infB b).1 h)
        refine ⟨Vy 0, val_of tab300 ?_⟩
        simp [tr300, TT.dv, s1, s2, k1, k2, hn, i1, i2, hsI]
    · rw [if_neg c2]
      have i1 : ¬ fKind a = 3 := fun h => c2 ((kind_infB a).1 h)
      by_cases c3 : infB b
      · rw [if_pos c3]
        have i2 := (kind_infB b).2 c3
        refine ⟨Vy 0, val_of tab300 ?_⟩
        simp [tr300, TT.dv, s1, s2, k1, k2, hn, i1, i2, hsZ]
      · rw [if_neg c3]
        have i2 : ¬ fKind b = 3 := fun h => c3 ((kind_infB b).1 h)
        by_cases c4 : zeroB b
        · rw [if_pos c4]
          have z2 := (kind_zeroB b).2 c4
          by_cases c5 : zeroB a
          · rw [if_pos c5]
            have z1 := (kind_zeroB a).2 c5
            refine ⟨Vy 16, val_of tab300 ?_⟩
            simp [tr300, TT.dv, s1, s2, k1, k2, hn, z1, z2, nan0]
          · rw [if_neg c5]
            have z1 : ¬ fKind a = 0 := fun h => c5 ((kind_zeroB a).1 h)
            refine ⟨Vy 8, val_of tab300 ?_⟩
            simp [tr300, TT.dv, s1, s2, k1, k2, hn, i1, z1, z2, hsI]
        · rw [if_neg c4]
          have z2 : ¬ fKind b = 0 := fun h => c4 ((kind_zeroB b).1 h)
          by_cases c5 : zeroB a
          · rw [if_pos c5]
            have z1 := (kind_zeroB a).2 c5
            refine ⟨Vy 0, val_of tab300 ?_⟩
            simp [tr300, TT.dv, s1, s2, k1, k2, hn, i2, z1, z2, hsZ]
          · rw [if_neg c5]
            have z1 : ¬ fKind a = 0 := fun h => c5 ((kind_zeroB a).1 h)
            have f1 := fin_of cn1 c2
            have f2 := fin_of cn2 c3
            have m1 : fMag a ≠ 0 := fun h => c5 ((zeroB_mag f1).2 h)
            have m2 : fMag b ≠ 0 := fun h => c4 ((zeroB_mag f2).2 h)
            have n1 := norm3_ok m1
            have n2 := norm3_ok m2
            obtain ⟨a1, a2, a3⟩ := nrm_bd m1 (fMag_lt a)
            obtain ⟨b1, b2, b3⟩ := nrm_bd m2 (fMag_lt b)
            obtain ⟨p1, p2⟩ := fPl_bd a
            obtain ⟨q1, q2⟩ := fPl_bd b
            have hw1 : nrm (fMag a) ≤ 52 := by unfold nrm; omega
            have hw2 : nrm (fMag b) ≤ 52 := by unfold nrm; omega
            obtain ⟨g1, g2, g3⟩ := quo_near m1 m2 (fMag_lt a) (fMag_lt b) (fPl a) (fPl b) (fNeg a != fNeg b)
            rw [← g1]
            unfold two52 at a2 b2
            have hlp := fun x0 x1 x2 x3 x4 x5 x6 x7 x8 x10 => div_loop (x0 := x0) (x1 := x1) (x2 := x2) (x3 := x3) (x4 := x4) (x5 := x5) (x6 := x6) (x7 := x7) (x8 := x8) (x10 := x10) b2 b3 a3 61 (i := 0) rfl
            simp only [Nat.pow_zero, Nat.mul_one, show ((0 : Nat) : Int) = 0 from rfl] at hlp
            generalize hX : fMag a * 2 ^ nrm (fMag a) = X at *
            generalize hY : fMag b * 2 ^ nrm (fMag b) = Y at *
            have e0 : (B.sub .i64).den (Vi (fPl a - nrm (fMag a))) (Vi (fPl b - nrm (fMag b))) = Vi (fPl a - nrm (fMag a) - (fPl b - nrm (fMag b))) := sub_i (by omega) (by omega)
            generalize hE : fPl a - nrm (fMag a) - (fPl b - nrm (fMag b)) = E at *
            have e1 : (B.sub .i64).den (Vi E) (Vi 61) = Vi (E - 61) := sub_i (by omega) (by omega)
            have e2 : (B.quo .u64).den (Vu X) (Vu Y) = Vu (X / Y) := quo_u (by omega)
            have e3 : ¬ Y = 0 := by omega
            have hQ : X * 2 ^ 61 / Y < 18446744073709551616 := by
              rw [Nat.div_lt_iff_lt_mul (by omega)]
              have h2 : 18446744073709551616 * 4503599627370496 ≤ 18446744073709551616 * Y := Nat.mul_le_mul_left _ b2
              omega
            obtain ⟨f, hw⟩ := wide_ok (neg := fNeg a != fNeg b) (more := decide (X * 2 ^ 61 % Y ≠ 0)) (m := X * 2 ^ 61 / Y) (e := E - 61) g2 hQ (by omega) (by omega) (fun _ => by unfold lastP; omega)
            have hw' : val 305 [Vb (fNeg a != fNeg b), Vu (X * 2 ^ 61 / Y), Vi (E - 61), Vb (decide (X * 2 ^ 61 % Y ≠ 0))] = some [Vu (nearV (fNeg a != fNeg b) (quoN X Y 61) (E - 61 - 1)), f] := hw
            have e4 : B.ne.den (Vu (X * 2 ^ 61 % Y)) (Vu 0) = Vb (decide (X * 2 ^ 61 % Y ≠ 0)) := ne_u
            generalize nearV (fNeg a != fNeg b) (quoN X Y 61) (E - 61 - 1) = res at *
            generalize decide (X * 2 ^ 61 % Y ≠ 0) = mo at *
            generalize X * 2 ^ 61 / Y = Q at *
            generalize X * 2 ^ 61 % Y = R at *
            refine ⟨f, val_of tab300 ?_⟩
            simp [-ne_u, tr300, TT.dv, KS.dv, s1, s2, k1, k2, hn, z1, z2, i1, i2, n1, n2, ne_u (a := Y) (b := 0), e0, e1, e2, e3, hlp, e4, hw']
end Go.Proofs.YthchhkghjfendabGreat.Dx

namespace Go.Proofs.YthchhkghjfendabGreat.Dx
open Go

def sumV (s t : Bool) (m n : Nat) (i j : Int) : Nat :=
  nearV (if sg s m * 2 ^ (i - min i j).toNat + sg t n * 2 ^ (j - min i j).toNat = 0 then s && t else decide (sg s m * 2 ^ (i - min i j).toNat + sg t n * 2 ^ (j - min i j).toNat < 0))
    (sg s m * 2 ^ (i - min i j).toNat + sg t n * 2 ^ (j - min i j).toNat).natAbs (min i j)
theorem sumV_comm (s t : Bool) (m n : Nat) (i j : Int) : sumV s t m n i j = sumV t s n m j i := by
  unfold sumV
  rw [Int.add_comm, Bool.and_comm, show min i j = min j i by omega]
def addV (a b : Nat) : Nat :=
  if nanB a ∨ nanB b then nan0 else
  if infB a then (if infB b ∧ fNeg a ≠ fNeg b then nan0 else a) else
  if infB b then b else sumV (fNeg a) (fNeg b) (fMag a) (fMag b) (fPl a) (fPl b)
theorem addB_ok {a b : Nat} (ha : a < 18446744073709551616) (hb : b < 18446744073709551616) : B.fadd.den (Vf (cnF a)) (Vf (cnF b)) = Vf (addV a b) := by
  show fv (Ieee.double.add (cnF a) (cnF b)) = _
  rw [add_cn]
  unfold addV Ieee.Format.add
  by_cases h1 : nanB a
  · obtain ⟨s, f, h⟩ := rd_nan h1; rw [h, if_pos (.inl h1)]; rfl
  by_cases h2 : nanB b
  · obtain ⟨s, f, h⟩ := rd_nan h2; rw [h, if_pos (.inr h2)]; cases Ieee.double.read a <;> rfl
  rw [if_neg (by simp [h1, h2])]
  by_cases h3 : infB a
  · rw [rd_inf ha h3, if_pos h3]
    by_cases h4 : infB b
    · rw [rd_inf hb h4]
      show fv (Option.map _ (if fNeg a = fNeg b then some _ else none)) = _
      by_cases h5 : fNeg a = fNeg b
      · rw [if_pos h5, if_neg (by simp [h5])]
        show fv (some (Ieee.double.write _)) = _
        rw [wr_inf, ← inf_word ha h3]; rfl
      · rw [if_neg h5, if_pos ⟨h4, h5⟩]; rfl
    · have hf := fin_of h2 h4
      rw [rd_num hb hf, if_neg (by simp [h4])]
      show fv (some (Ieee.double.write _)) = _
      rw [wr_inf, ← inf_word ha h3]; rfl
  · have hf := fin_of h1 h3
    rw [if_neg h3, rd_num ha hf]
    by_cases h4 : infB b
    · rw [rd_inf hb h4, if_pos h4]
      show fv (some (Ieee.double.write _)) = _
      rw [wr_inf, ← inf_word hb h4]; rfl
    · have hg := fin_of h2 h4
      rw [rd_num hb hg, if_neg h4]
      show fv (some (Ieee.double.write (.number (if Ieee.signed _ _ _ + Ieee.signed _ _ _ = 0 then _ else _) _ _))) = _
      rw [wr_num, signed_eq, signed_eq]; rfl
theorem addV_lt {a b : Nat} (ha : a < 18446744073709551616) (hb : b < 18446744073709551616) : addV a b < 18446744073709551616 := by
  have h3 : nan0 < 18446744073709551616 := by decide
  unfold addV
  repeat' split
  all_goals first | exact h3 | exact ha | exact hb | exact word_lt _ _ _
theorem addV_nan (a b : Nat) : cnF (addV a b) = addV a b := by
  unfold addV
  split
  · exact cnF_nanB nanB_nan0
  · rename_i h
    split
    · split
      · exact cnF_nanB nanB_nan0
      · exact cnF_ok (fun hh => h (.inl hh))
    · split
      · exact cnF_ok (fun hh => h (.inr hh))
      · exact cnF_ok (nanB_near _ _ _)

theorem near0 {neg : Bool} {m : Nat} {e : Int} (hm : m < 18446744073709551616) (he : -1137 ≤ e) (he2 : e < 9000000000000) : ∃ f, val 283 [Vb neg, Vu m, Vi e, Vb false] = some [Vu (nearV neg m e), f] := by
  have h := near_ok (neg := neg) (more := false) hm he he2 (fun h => by cases h)
  have h2 := (near_scale neg m e 1).1
  rw [Nat.pow_one, Nat.mul_comm] at h2
  simp only [Bool.toNat_false, Nat.add_zero] at h
  rw [show nearV neg (2 * m) (e - 1) = nearV neg m e from h2] at h
  exact ⟨_, h⟩
/-- A number divided by a power of two, what is left in its lowest digit. -/
def rgt (M d : Nat) : Nat := if M % 2 ^ min d 63 = 0 then M / 2 ^ min d 63 else 2 * (M / 2 ^ min d 63 / 2) + 1
theorem right_ok {M d : Nat} (hM : M < 18446744073709551616) (hd : d < 9223372036854775808) : val 290 [Vu M, Vi d] = some [Vu (rgt M d)] := by
  refine val_of tab290 ?_
  have e0 : ∃ t : Nat, t = min d 63 := ⟨_, rfl⟩
  obtain ⟨t, ht⟩ := e0
  unfold rgt
  rw [← ht]
  have e1 : (B.shr .u64).den (Vu M) (Vi t) = Vu (M / 2 ^ t) := by rw [shr_uI rfl, Nat.min_eq_left (by omega)]
  have e2 : (B.shl .u64).den (Vu (M / 2 ^ t)) (Vi t) = Vu (M / 2 ^ t * 2 ^ t) := by
    rw [shl_uI rfl, Nat.min_eq_left (by omega), Nat.mod_eq_of_lt]
    exact Nat.lt_of_le_of_lt (Nat.div_mul_le_self _ _) hM
  have e3 : M / 2 ^ t * 2 ^ t = M ↔ M % 2 ^ t = 0 := by
    have := Nat.div_add_mod M (2 ^ t)
    rw [Nat.mul_comm] at this
    omega
  have hq : M / 2 ^ t < 18446744073709551616 := Nat.lt_of_le_of_lt (Nat.div_le_self _ _) hM
  have e4 : (B.or .u64).den (Vu (M / 2 ^ t)) (Vu 1) = Vu (2 * (M / 2 ^ t / 2) + 1) := by
    generalize M / 2 ^ t = q at *
    rcases (show q % 2 = 0 ∨ q % 2 = 1 by omega) with h | h
    · have := or_add (a := q / 2) (b := 1) (i := 1) (by omega) (by omega) (by omega)
      rw [show 2 ^ 1 * (q / 2) = q by omega] at this
      rw [this]; exact congrArg Vu (by omega)
    · rw [or_u hq (by omega)]
      refine congrArg Vu ?_
      have := Nat.two_pow_add_eq_or_of_lt (b := 1) (i := 1) (by omega) (q / 2)
      rw [Nat.pow_one, show 2 * (q / 2) + 1 = q by omega] at this
      conv => lhs; rw [this, Nat.or_assoc, Nat.or_self, ← this]
      omega
  generalize M / 2 ^ t = q at *
  by_cases hd63 : (d : Int) > 63
  · have ht63 : t = 63 := by omega
    rw [ht63] at e1 e2 e3 ⊢
    have e1' : (B.shr .u64).den (Vu M) (Vi 63) = Vu q := e1
    have e2' : (B.shl .u64).den (Vu q) (Vi 63) = Vu (q * 2 ^ 63) := e2
    have h63 : (63 : Int) < d := by omega
    generalize q * 2 ^ 63 = z at *
    by_cases hc : z = M
    · rw [if_pos (e3.1 hc)]
      simp [-shl_u_lit, -shr_u_lit, tr290, TT.dv, KS.dv, h63, e1', e2', hc]
    · rw [if_neg (fun h => hc (e3.2 h))]
      simp [-shl_u_lit, -shr_u_lit, tr290, TT.dv, KS.dv, h63, e1', e2', hc, e4]
  · have ht63 : t = d := by omega
    subst ht63
    have h63 : ¬ (63 : Int) < t := by omega
    generalize q * 2 ^ t = z at *
    by_cases hc : z = M
    · rw [if_pos (e3.1 hc)]
      simp [-shl_u_lit, -shr_u_lit, tr290, TT.dv, KS.dv, h63, e1, e2, hc]
    · rw [if_neg (fun h => hc (e3.2 h))]
      simp [-shl_u_lit, -shr_u_lit, tr290, TT.dv, KS.dv, h63, e1, e2, hc, e4]
end Go.Proofs.YthchhkghjfendabGreat.Dx

namespace Go.Proofs.YthchhkghjfendabGreat.Dx
open Go

theorem near_half {N k r : Nat} (p : Int) (hN : 2 ^ 56 ≤ N) (h0 : 0 < r) (hr : r < 2 ^ k) : nearR (N * 2 ^ k + r) (p - k) = nearR (2 * (N / 2) + 1) p := by
  have h56 : (2 : Nat) ^ 56 = 72057594037927936 := rfl
  rw [h56] at hN
  have hM : N / 2 ≠ 0 := by omega
  have hlog : 55 ≤ (N / 2).log2 := by
    rw [Nat.le_log2 hM]
    show 36028797018963968 ≤ N / 2
    omega
  have e1 : N * 2 ^ k + r = N / 2 * 2 ^ (k + 1) + (N % 2 * 2 ^ k + r) := by
    rw [Nat.pow_succ, ← Nat.mul_assoc, Nat.mul_right_comm, ← Nat.add_assoc, ← Nat.add_mul, Nat.mul_comm (N / 2), Nat.div_add_mod]
  have e2 : N % 2 * 2 ^ k + r < 2 ^ (k + 1) := by
    rw [Nat.pow_succ]
    have : N % 2 * 2 ^ k ≤ 1 * 2 ^ k := Nat.mul_le_mul_right _ (by omega)
    omega
  have := (near_sticky hM (p := p + 1) (by unfold lastP; omega) (show 0 < N % 2 * 2 ^ k + r by omega) e2).1
  rw [e1, show p - (k : Int) = p + 1 - ((k + 1 : Nat) : Int) by omega, this]
  exact congrArg _ (by omega)
theorem rgt_small {n d : Nat} (hd : d ≤ 9) : rgt (n * 512) d = n * 2 ^ (9 - d) := by
  have e : n * 512 = n * 2 ^ (9 - d) * 2 ^ d := by
    rw [Nat.mul_assoc, ← Nat.pow_add, show 9 - d + d = 9 by omega]
  unfold rgt
  rw [Nat.min_eq_left (by omega), e, Nat.mul_mod_left, if_pos rfl, Nat.mul_div_cancel _ (Nat.two_pow_pos _)]
theorem rgt_big {n d : Nat} (hd : 10 ≤ d) (hn : n < 9007199254740992) : rgt (n * 512) d = if n % 2 ^ (d - 9) = 0 then n / 2 ^ (d - 9) else 2 * (n / 2 ^ (d - 9) / 2) + 1 := by
  unfold rgt
  by_cases h : d ≤ 63
  · rw [Nat.min_eq_left h]
    have e : 2 ^ d = 2 ^ (d - 9) * 512 := by rw [show (512 : Nat) = 2 ^ 9 from rfl, ← Nat.pow_add]; exact congrArg _ (by omega)
    rw [e, Nat.mul_mod_mul_right, Nat.mul_div_mul_right _ _ (by omega)]
    have : (n % 2 ^ (d - 9) * 512 = 0) ↔ (n % 2 ^ (d - 9) = 0) := by omega
    by_cases hc : n % 2 ^ (d - 9) = 0
    · rw [if_pos (this.2 hc), if_pos hc]
    · rw [if_neg (fun h => hc (this.1 h)), if_neg hc]
  · rw [Nat.min_eq_right (by omega)]
    have h1 : 2 ^ 54 ≤ 2 ^ (d - 9) := Nat.pow_le_pow_right (by omega) (by omega)
    rw [show (2 : Nat) ^ 54 = 18014398509481984 from rfl] at h1
    rw [Nat.mod_eq_of_lt (show n < 2 ^ (d - 9) by omega), Nat.div_eq_of_lt (show n < 2 ^ (d - 9) by omega), show (2 : Nat) ^ 63 = 9223372036854775808 from rfl, Nat.mod_eq_of_lt (by omega), Nat.div_eq_of_lt (by omega)]
    by_cases hc : n = 0
    · subst hc; rfl
    · rw [if_neg (by omega), if_neg hc]
/-- What is far below: a number cut, and what is left of it. -/
theorem far_parts {n k : Nat} (hk : 1 ≤ k) (hn : n < 9007199254740992) : ∃ q r, n = q * 2 ^ k + r ∧ r < 2 ^ k ∧ q < 4503599627370496 ∧ n % 2 ^ k = r ∧ n / 2 ^ k = q := by
  refine ⟨n / 2 ^ k, n % 2 ^ k, by rw [Nat.mul_comm]; exact (Nat.div_add_mod _ _).symm, Nat.mod_lt _ (Nat.two_pow_pos _), ?_, rfl, rfl⟩
  have h1 : n / 2 ^ k ≤ n / 2 := Nat.div_le_div_left (by have := Nat.pow_le_pow_right (show 0 < 2 by omega) hk; omega) (by omega)
  omega
theorem nearR_of {n : Nat} {p q : Int} (h : p = q) : nearR n p = nearR n q := by rw [h]
theorem sum_plus {m n d : Nat} (e : Int) (hm : m < 9007199254740992) (hn : n < 9007199254740992) (h : d ≤ 9 ∨ 4503599627370496 ≤ m) : nearR (m * 512 + rgt (n * 512) d) e = nearR (m * 2 ^ d + n) (e + 9 - d) := by
  by_cases hd : d ≤ 9
  · rw [rgt_small hd]
    have e1 : m * 512 + n * 2 ^ (9 - d) = (m * 2 ^ d + n) * 2 ^ (9 - d) := by
      rw [Nat.add_mul, Nat.mul_assoc, ← Nat.pow_add, show d + (9 - d) = 9 by omega]
    have := (near_scale true (m * 2 ^ d + n) (e + 9 - d) (9 - d)).2.2
    rw [e1, ← this]
    exact nearR_of (by omega)
  · obtain ⟨q, r, h1, h2, h3, h4, h5⟩ := far_parts (n := n) (k := d - 9) (by omega) hn
    rw [rgt_big (by omega) hn, h4, h5]
    have hmp : m * 2 ^ d = m * 512 * 2 ^ (d - 9) := by rw [Nat.mul_assoc, show (512 : Nat) = 2 ^ 9 from rfl, ← Nat.pow_add]; exact congrArg _ (congrArg _ (by omega))
    have hT : m * 2 ^ d + n = (m * 512 + q) * 2 ^ (d - 9) + r := by rw [hmp, h1, Nat.add_mul]; omega
    rw [hT]
    by_cases hr : r = 0
    · rw [if_pos hr, hr, Nat.add_zero]
      have := (near_scale true (m * 512 + q) e (d - 9)).2.2
      rw [← this]
      exact nearR_of (by omega)
    · rw [if_neg hr]
      have := near_half (N := m * 512 + q) (k := d - 9) (r := r) e (by rw [show (2 : Nat) ^ 56 = 72057594037927936 from rfl]; omega) (by omega) h2
      rw [show e + 9 - (d : Int) = e - ((d - 9 : Nat) : Int) by omega, this]
      exact congrArg (nearR · e) (by omega)
theorem sum_minus {m n d : Nat} (e : Int) (hm : m < 9007199254740992) (hn : n < 9007199254740992) (h : d ≤ 9 ∨ 4503599627370496 ≤ m) :
    (rgt (n * 512) d < m * 512 ↔ n < m * 2 ^ d) ∧ (m * 512 < rgt (n * 512) d ↔ m * 2 ^ d < n) ∧
    (n < m * 2 ^ d → nearR (m * 512 - rgt (n * 512) d) e = nearR (m * 2 ^ d - n) (e + 9 - d)) ∧ (m * 2 ^ d < n → nearR (rgt (n * 512) d - m * 512) e = nearR (n - m * 2 ^ d) (e + 9 - d)) := by
  by_cases hd : d ≤ 9
  · rw [rgt_small hd]
    have e0 : m * 512 = m * 2 ^ d * 2 ^ (9 - d) := by rw [Nat.mul_assoc, ← Nat.pow_add, show d + (9 - d) = 9 by omega]
    have hp := Nat.two_pow_pos (9 - d)
    rw [e0, ← Nat.mul_sub_right_distrib, ← Nat.mul_sub_right_distrib]
    refine ⟨Nat.mul_lt_mul_right hp, Nat.mul_lt_mul_right hp, fun _ => ?_, fun _ => ?_⟩
    · rw [← (near_scale true (m * 2 ^ d - n) (e + 9 - d) (9 - d)).2.2]
      exact nearR_of (by omega)
    · rw [← (near_scale true (n - m * 2 ^ d) (e + 9 - d) (9 - d)).2.2]
      exact nearR_of (by omega)
  · obtain ⟨q, r, h1, h2, h3, h4, h5⟩ := far_parts (n := n) (k := d - 9) (by omega) hn
    rw [rgt_big (by omega) hn, h4, h5]
    have hmp : m * 2 ^ d = m * 512 * 2 ^ (d - 9) := by rw [Nat.mul_assoc, show (512 : Nat) = 2 ^ 9 from rfl, ← Nat.pow_add]; exact congrArg _ (congrArg _ (by omega))
    have hbig : n < m * 2 ^ d := by
      rw [hmp]
      have : m * 512 * 1 ≤ m * 512 * 2 ^ (d - 9) := Nat.mul_le_mul_left _ (Nat.two_pow_pos _)
      omega
    have hsm : (if r = 0 then q else 2 * (q / 2) + 1) < m * 512 := by split <;> omega
    refine ⟨⟨fun _ => hbig, fun _ => hsm⟩, ⟨fun h => by omega, fun h => by omega⟩, fun _ => ?_, fun h => by omega⟩
    by_cases hr : r = 0
    · rw [if_pos hr]
      have hT : m * 2 ^ d - n = (m * 512 - q) * 2 ^ (d - 9) := by rw [hmp, h1, hr, Nat.add_zero, ← Nat.mul_sub_right_distrib]
      rw [hT, ← (near_scale true (m * 512 - q) e (d - 9)).2.2]
      exact nearR_of (by omega)
    · rw [if_neg hr]
      have hT : m * 2 ^ d - n = (m * 512 - q - 1) * 2 ^ (d - 9) + (2 ^ (d - 9) - r) := by
        rw [hmp, h1]
        have e3 : m * 512 * 2 ^ (d - 9) = (m * 512 - q - 1) * 2 ^ (d - 9) + (q * 2 ^ (d - 9) + 1 * 2 ^ (d - 9)) := by
          rw [← Nat.add_mul, ← Nat.add_mul]; exact congrArg (· * _) (by omega)
        omega
      have := near_half (N := m * 512 - q - 1) (k := d - 9) (r := 2 ^ (d - 9) - r) e (by rw [show (2 : Nat) ^ 56 = 72057594037927936 from rfl]; omega) (by omega) (by omega)
      rw [hT, show e + 9 - (d : Int) = e - ((d - 9 : Nat) : Int) by omega, this]
      exact congrArg (nearR · e) (by omega)
end Go.Proofs.YthchhkghjfendabGreat.Dx

namespace Go.Proofs.YthchhkghjfendabGreat.Dx
open Go

theorem sg_shift (s : Bool) (m d : Nat) : sg s m * 2 ^ d = sg s (m * 2 ^ d) := by
  unfold sg
  cases s
  · simp
  · simp [Int.neg_mul]
theorem sumV_ge (s t : Bool) (m n : Nat) {i j : Int} (d : Nat) (h : i = j + d) :
    sumV s t m n i j = if s = t then nearV s (m * 2 ^ d + n) j else if n < m * 2 ^ d then nearV s (m * 2 ^ d - n) j else if m * 2 ^ d < n then nearV t (n - m * 2 ^ d) j else 0 := by
  unfold sumV
  have hmin : min i j = j := by omega
  rw [hmin, show (i - j).toNat = d by omega, show (j - j).toNat = 0 by omega, sg_shift, sg_shift, Nat.pow_zero, Nat.mul_one]
  generalize m * 2 ^ d = A
  have hz : ∀ (u : Bool) p, nearV u 0 p = sgn u 0 := nearV_zero
  cases s <;> cases t <;> simp only [sg, if_true, if_false, Bool.false_eq_true, Bool.and_self, Bool.and_false, Bool.and_true, reduceCtorEq, Bool.true_eq_false]
  · rw [show ((A : Int) + n).natAbs = A + n by omega]
    split
    · rfl
    · rw [decide_eq_false (by omega)]
  · by_cases h1 : n < A
    · rw [if_pos h1, if_neg (by omega), decide_eq_false (by omega)]
      exact congrArg (fun x => nearV false x j) (by omega)
    · rw [if_neg h1]
      by_cases h2 : A < n
      · rw [if_pos h2, if_neg (by omega), decide_eq_true (by omega)]
        exact congrArg (fun x => nearV true x j) (by omega)
      · rw [if_neg h2, if_pos (by omega), show ((A : Int) + -(n : Int)).natAbs = 0 by omega, hz]; rfl
  · by_cases h1 : n < A
    · rw [if_pos h1, if_neg (by omega), decide_eq_true (by omega)]
      exact congrArg (fun x => nearV true x j) (by omega)
    · rw [if_neg h1]
      by_cases h2 : A < n
      · rw [if_pos h2, if_neg (by omega), decide_eq_false (by omega)]
        exact congrArg (fun x => nearV false x j) (by omega)
      · rw [if_neg h2, if_pos (by omega), show (-(A : Int) + (n : Int)).natAbs = 0 by omega, hz]; rfl
  · rw [show (-(A : Int) + -(n : Int)).natAbs = A + n by omega]
    split
    · rfl
    · rw [decide_eq_true (by omega)]
theorem special_ok {a b : Nat} (ha : a < 18446744073709551616) (hb : b < 18446744073709551616) (h : ¬ (fPow a ≠ 2047 ∧ fPow b ≠ 2047)) : ∃ f, val 291 [Vu a, Vu b] = some [Vu (addV a b), f] := by
  have k1 := kind_ok a
  have k2 := kind_ok b
  have f1 := finite_ok a
  have f2 := finite_ok b
  unfold addV
  by_cases c1 : nanB a
  · rw [if_pos (.inl c1)]
    rw [(kind_nan a).2 c1] at k1
    refine ⟨Vy 0, val_of tab291 ?_⟩
    simp [tr291, TT.dv, KS.dv, k1, nan0]
  have i1 : ¬ fKind a = 4 := fun h => c1 ((kind_nan a).1 h)
  by_cases c2 : nanB b
  · rw [if_pos (.inr c2)]
    rw [(kind_nan b).2 c2] at k2
    refine ⟨Vy 0, val_of tab291 ?_⟩
    simp [tr291, TT.dv, KS.dv, k1, k2, i1, nan0]
  have i2 : ¬ fKind b = 4 := fun h => c2 ((kind_nan b).1 h)
  rw [if_neg (by simp [c1, c2])]
  by_cases c3 : infB a
  · rw [if_pos c3]
    have e1 : fPow a = 2047 := c3.1
    by_cases c4 : infB b
    · have e2 : fPow b = 2047 := c4.1
      have ea := inf_word ha c3
      have eb := inf_word hb c4
      by_cases c5 : fNeg a = fNeg b
      · rw [if_neg (by simp [c5])]
        have hab : a = b := by rw [ea, eb, c5]
        refine ⟨Vy 0, val_of tab291 ?_⟩
        simp [tr291, TT.dv, KS.dv, k2, i2, f2, e2, hab]
      · rw [if_pos ⟨c4, c5⟩]
        have hab : ¬ a = b := fun h => c5 (by rw [h])
        refine ⟨Vy 16, val_of tab291 ?_⟩
        simp [tr291, TT.dv, KS.dv, k1, k2, i1, i2, f1, f2, e1, e2, hab, nan0]
    · rw [if_neg (by simp [c4])]
      have e2 := fin_of c2 c4
      refine ⟨Vy 0, val_of tab291 ?_⟩
      simp [tr291, TT.dv, KS.dv, k1, k2, i1, i2, f1, f2, e1, e2]
  · rw [if_neg c3]
    have e1 := fin_of c1 c3
    have c4 : infB b := by
      by_cases h4 : infB b
      · exact h4
      · exact absurd ⟨e1, fin_of c2 h4⟩ h
    rw [if_pos c4]
    refine ⟨Vy 0, val_of tab291 ?_⟩
    simp [tr291, TT.dv, KS.dv, k1, k2, i1, i2, f1, f2, e1]
/-- The part of Add behind the turning round. -/
def tail288 : TT Unit := match tr288 with | .call _ _ _ _ (.call _ _ _ _ (.ite _ _ (.call _ _ _ _ (.call _ _ _ _ (.call _ _ _ _ (.call _ _ _ _ (.scope _ (.cons _ t _)))))))) => t | t => t
theorem rgt_le (M d : Nat) : rgt M d ≤ M := by
  unfold rgt
  have := Nat.div_le_self M (2 ^ min d 63)
  split
  · exact this
  · rename_i h5
    have h2 := Nat.div_add_mod M (2 ^ min d 63)
    have h3 : 0 < 2 ^ min d 63 := Nat.two_pow_pos _
    by_cases h4 : 2 ^ min d 63 = 1
    · rw [h4, Nat.mod_one] at h5; exact absurd rfl h5
    · have h6 := Nat.div_le_div_left (show 2 ≤ 2 ^ min d 63 by omega) (by omega) (a := M)
      generalize 2 ^ min d 63 = z at *
      omega
theorem tail_ok {x0 x1 x2 x3 x4 x5 x6 x7 x8 x9 : PV} {s t : Bool} {m n : Nat} {i j : Int} (d : Nat) (h : i = j + d) (hm : m < 9007199254740992) (hn : n < 9007199254740992) (hb : d ≤ 9 ∨ 4503599627370496 ≤ m) (hj : -1074 ≤ j) (hi : i ≤ 972) :
    ∃ f, tail288.dv [x0, x1, x2, x3, x4, x5, x6, x7, x8, x9, Vu m, Vi i, Vu n, Vi j, Vb s, Vb t] = some (.y .ret [Vu (sumV s t m n i j), f]) := by
  rw [sumV_ge s t m n d h]
  have e1 : (B.shl .u64).den (Vu n) (Vu 9) = Vu (n * 512) := by
    rw [shl_uU]; refine congrArg Vu ?_
    show n * 512 % _ = _; omega
  have e2 : (B.shl .u64).den (Vu m) (Vu 9) = Vu (m * 512) := by
    rw [shl_uU]; refine congrArg Vu ?_
    show m * 512 % _ = _; omega
  have e3 : (B.sub .i64).den (Vi i) (Vi j) = Vi d := by rw [sub_i (by omega) (by omega)]; exact congrArg Vi (by omega)
  have e4 : (B.sub .i64).den (Vi i) (Vi 9) = Vi (i - 9) := sub_i (by omega) (by omega)
  have e5 := right_ok (M := n * 512) (d := d) (by omega) (by omega)
  have hr := rgt_le (n * 512) d
  have l1 : -1137 ≤ i - 9 := by omega
  have l2 : i - 9 < 9000000000000 := by omega
  have l3 : i - 9 + 9 - (d : Int) = j := by omega
  have hp := sum_plus (i - 9) hm hn hb
  obtain ⟨q1, q2, q3, q4⟩ := sum_minus (i - 9) hm hn hb
  rw [l3] at hp q3 q4
  generalize rgt (n * 512) d = y at *
  have m64 : m * 512 < 18446744073709551616 := by clear hp q1 q2 q3 q4 e5; omega
  have y64 : y < 18446744073709551616 := by clear hp q1 q2 q3 q4 e5; omega
  have my64 : m * 512 + y < 18446744073709551616 := Nat.lt_of_le_of_lt (Nat.add_le_add (Nat.mul_le_mul_right 512 (Nat.le_of_lt hm)) (Nat.le_trans hr (Nat.mul_le_mul_right 512 (Nat.le_of_lt hn)))) (by decide)
  by_cases hs : s = t
  · rw [if_pos hs]
    subst hs
    have a1 : (m * 512 + y) % 18446744073709551616 = m * 512 + y := Nat.mod_eq_of_lt my64
    obtain ⟨f, hf⟩ := near0 (neg := s) (m := m * 512 + y) (e := i - 9) my64 l1 l2
    have hV : nearV s (m * 512 + y) (i - 9) = nearV s (m * 2 ^ d + n) j := by unfold nearV; rw [hp]
    rw [hV] at hf
    refine ⟨f, ?_⟩
    simp [-shl_u_lit, tail288, tr288, TT.dv, e1, e2, e3, e4, e5, a1, hf]
  · rw [if_neg hs]
    by_cases c1 : n < m * 2 ^ d
    · rw [if_pos c1]
      have c1' := q1.2 c1
      have a1 : (B.sub .u64).den (Vu (m * 512)) (Vu y) = Vu (m * 512 - y) := sub_u (Nat.le_of_lt c1') m64
      obtain ⟨f, hf⟩ := near0 (neg := s) (m := m * 512 - y) (e := i - 9) (Nat.lt_of_le_of_lt (Nat.sub_le _ _) m64) l1 l2
      have hV : nearV s (m * 512 - y) (i - 9) = nearV s (m * 2 ^ d - n) j := by unfold nearV; rw [q3 c1]
      rw [hV] at hf
      refine ⟨f, ?_⟩
      simp [-shl_u_lit, tail288, tr288, TT.dv, e1, e2, e3, e4, e5, hs, c1', a1, hf]
    · rw [if_neg c1]
      have c1' : ¬ y < m * 512 := fun h => c1 (q1.1 h)
      by_cases c2 : m * 2 ^ d < n
      · rw [if_pos c2]
        have c2' := q2.2 c2
        have a1 : (B.sub .u64).den (Vu y) (Vu (m * 512)) = Vu (y - m * 512) := sub_u (Nat.le_of_lt c2') y64
        obtain ⟨f, hf⟩ := near0 (neg := t) (m := y - m * 512) (e := i - 9) (Nat.lt_of_le_of_lt (Nat.sub_le _ _) y64) l1 l2
        have hV : nearV t (y - m * 512) (i - 9) = nearV t (n - m * 2 ^ d) j := by unfold nearV; rw [q4 c2]
        rw [hV] at hf
        refine ⟨f, ?_⟩
        simp [-shl_u_lit, tail288, tr288, TT.dv, e1, e2, e3, e4, e5, hs, c1', c2', a1, hf]
      · rw [if_neg c2]
        have c2' : ¬ m * 512 < y := fun h => c2 (q2.1 h)
        refine ⟨Vy 0, ?_⟩
        simp [-shl_u_lit, tail288, tr288, TT.dv, e1, e2, e3, e4, e5, hs, c1', c2']
theorem sadd_ok {a b : Nat} (ha : a < 18446744073709551616) (hb : b < 18446744073709551616) : ∃ f, val 288 [Vu a, Vu b] = some [Vu (addV a b), f] := by
  have f1 := finite_ok a
  have f2 := finite_ok b
  by_cases hf : fPow a ≠ 2047 ∧ fPow b ≠ 2047
  · obtain ⟨g1, g2⟩ := hf
    have n1 : ¬ nanB a := by unfold nanB; omega
    have n2 : ¬ nanB b := by unfold nanB; omega
    have i1 : ¬ infB a := by unfold infB; omega
    have i2 : ¬ infB b := by unfold infB; omega
    have p1 := parts_ok a
    have p2 := parts_ok b
    have s1 := sign_ok a
    have s2 := sign_ok b
    have hV : addV a b = sumV (fNeg a) (fNeg b) (fMag a) (fMag b) (fPl a) (fPl b) := by unfold addV; rw [if_neg (by simp [n1, n2]), if_neg i1, if_neg i2]
    rw [hV]
    obtain ⟨b1, b2⟩ := fPl_bd a
    obtain ⟨b3, b4⟩ := fPl_bd b
    have big : ∀ c, -1074 < fPl c → 4503599627370496 ≤ fMag c := fun c hc => by
      unfold fPl at hc; unfold fMag
      by_cases h0 : fPow c = 0
      · rw [if_pos h0] at hc; omega
      · rw [if_neg h0]; omega
    by_cases hlt : fPl a < fPl b
    · rw [sumV_comm]
      obtain ⟨f, h⟩ := tail_ok (x0 := Vu a) (x1 := Vu b) (x2 := Vb true) (x3 := Vb true) (x4 := Vu (fMag a)) (x5 := Vi (fPl a)) (x6 := Vu (fMag b)) (x7 := Vi (fPl b)) (x8 := Vb (fNeg a)) (x9 := Vb (fNeg b))
        (s := fNeg b) (t := fNeg a) (m := fMag b) (n := fMag a) (i := fPl b) (j := fPl a) (fPl b - fPl a).toNat (by omega) (fMag_lt b) (fMag_lt a) (.inr (big b (by omega))) b1 b4
      refine ⟨f, val_of tab288 (Eq.trans ?_ h)⟩
      simp only [tail288]
      simp [-shl_u_lit, tr288, TT.dv, KS.dv, f1, f2, g1, g2, p1, p2, s1, s2, hlt]
    · obtain ⟨f, h⟩ := tail_ok (x0 := Vu a) (x1 := Vu b) (x2 := Vb true) (x3 := Vb true) (x4 := Vu (fMag a)) (x5 := Vi (fPl a)) (x6 := Vu (fMag b)) (x7 := Vi (fPl b)) (x8 := Vb (fNeg a)) (x9 := Vb (fNeg b))
        (s := fNeg a) (t := fNeg b) (m := fMag a) (n := fMag b) (i := fPl a) (j := fPl b) (fPl a - fPl b).toNat (by omega) (fMag_lt a) (fMag_lt b) (by
          by_cases h : -1074 < fPl a
          · exact .inr (big a h)
          · left; omega) b3 b2
      refine ⟨f, val_of tab288 (Eq.trans ?_ h)⟩
      simp only [tail288]
      simp [-shl_u_lit, tr288, TT.dv, KS.dv, f1, f2, g1, g2, p1, p2, s1, s2, hlt]
  · obtain ⟨f, h⟩ := special_ok ha hb hf
    refine ⟨f, val_of tab288 ?_⟩
    by_cases g1 : fPow a = 2047
    · simp [tr288, TT.dv, KS.dv, f1, f2, g1, h]
    · have g2 : fPow b = 2047 := by omega
      simp [tr288, TT.dv, KS.dv, f1, f2, g1, g2, h]
end Go.Proofs.YthchhkghjfendabGreat.Dx

namespace Go.Proofs.YthchhkghjfendabGreat.Dx
open Go

theorem minus_neg {b : Nat} (hb : b < 18446744073709551616) : fNeg (fMinus b) = !fNeg b ∧ fPow (fMinus b) = fPow b ∧ fFrac (fMinus b) = fFrac b ∧ fMinus b < 18446744073709551616 := by
  unfold fMinus fNeg fPow fFrac
  by_cases h : b < 9223372036854775808
  · rw [if_pos h]
    refine ⟨?_, by omega, by omega, by omega⟩
    rw [show (b + 9223372036854775808) / 9223372036854775808 = 1 by omega, show b / 9223372036854775808 = 0 by omega]; rfl
  · rw [if_neg h]
    refine ⟨?_, by omega, by omega, by omega⟩
    rw [show (b - 9223372036854775808) / 9223372036854775808 = 0 by omega, show b / 9223372036854775808 = 1 by omega]; rfl
theorem sub_add {a b : Nat} (hb : b < 18446744073709551616) : Ieee.double.sub a b = Ieee.double.add a (fMinus b) := by
  obtain ⟨m1, m2, m3, m4⟩ := minus_neg hb
  unfold Ieee.Format.sub Ieee.Format.add
  rw [read_ok b, read_ok (fMinus b), neg_bit hb, neg_bit m4, m1, m2, m3, show fMag (fMinus b) = fMag b by unfold fMag; rw [m2, m3], show fPl (fMinus b) = fPl b by unfold fPl; rw [m2]]
  by_cases h1 : fPow b = 2047
  · rw [if_pos h1, if_pos h1]
    by_cases h2 : fFrac b = 0
    · rw [if_pos h2, if_pos h2]; rfl
    · rw [if_neg h2, if_neg h2]; cases Ieee.double.read a <;> rfl
  · rw [if_neg h1, if_neg h1]; rfl
def subV (a b : Nat) : Nat := addV a (fMinus b)
theorem subB_ok {a b : Nat} (ha : a < 18446744073709551616) (hb : b < 18446744073709551616) : B.fsub.den (Vf (cnF a)) (Vf (cnF b)) = Vf (subV a b) := by
  have h := addB_ok ha (minus_neg hb).2.2.2
  have e1 : B.fadd.den (Vf (cnF a)) (Vf (cnF (fMinus b))) = fv (Ieee.double.add (cnF a) (cnF (fMinus b))) := rfl
  have e2 : B.fsub.den (Vf (cnF a)) (Vf (cnF b)) = fv (Ieee.double.sub (cnF a) (cnF b)) := rfl
  rw [e1, add_cn] at h
  rw [e2, sub_cn, sub_add hb, h]; rfl
theorem subV_lt {a b : Nat} (ha : a < 18446744073709551616) (hb : b < 18446744073709551616) : subV a b < 18446744073709551616 := addV_lt ha (minus_neg hb).2.2.2
theorem subV_nan (a b : Nat) : cnF (subV a b) = subV a b := addV_nan _ _

theorem F9_ok (b : Nat) : val 154 [Vu b] = some [Vf (cnF b)] := val_of tab154 (by simp [tr154, TT.dv, b2f_ok])
theorem B9_ok {b : Nat} (hb : b < 18446744073709551616) (hc : cnF b = b) : val 150 [Vf b] = some [Vu b] := by
  refine val_of tab150 ?_
  have h := canon_ok hb
  rw [hc] at h
  simp [tr150, TT.dv, f2b_f, h]
section
variable {a b : Nat} (ha : a < 18446744073709551616) (hb : b < 18446744073709551616)
include ha hb
theorem add9_ok : val 148 [Vu a, Vu b] = some [Vu (addV a b)] := by
  refine val_of tab148 ?_
  simp [tr148, TT.dv, F9_ok, addB_ok ha hb, B9_ok (addV_lt ha hb) (addV_nan a b)]
theorem sub9_ok : val 163 [Vu a, Vu b] = some [Vu (subV a b)] := by
  refine val_of tab163 ?_
  simp [tr163, TT.dv, F9_ok, subB_ok ha hb, B9_ok (subV_lt ha hb) (subV_nan a b)]
theorem mul9_ok : val 156 [Vu a, Vu b] = some [Vu (mulV a b)] := by
  refine val_of tab156 ?_
  simp [tr156, TT.dv, F9_ok, mulB_ok ha hb, B9_ok mulV_lt (mulV_nan a b)]
theorem div9_ok : val 152 [Vu a, Vu b] = some [Vu (divV a b)] := by
  refine val_of tab152 ?_
  simp [tr152, TT.dv, F9_ok, divB_ok ha hb, B9_ok divV_lt (divV_nan a b)]
theorem vadd_ok : val 306 [Vu a, Vu b] = some [Vu (addV a b)] := by
  refine val_of tab306 ?_
  obtain ⟨f, h⟩ := sadd_ok ha hb
  simp [tr306, TT.dv, h]
theorem vsub_ok : val 317 [Vu a, Vu b] = some [Vu (subV a b)] := by
  refine val_of tab317 ?_
  obtain ⟨f, h⟩ := sadd_ok ha (minus_neg hb).2.2.2
  have h2 : val 289 [Vu a, Vu b] = some [Vu (subV a b), f] := by
    refine val_of tab289 ?_
    simp [tr289, TT.dv, minus_ok hb, h, subV]
  simp [tr317, TT.dv, h2]
theorem vmul_ok : val 313 [Vu a, Vu b] = some [Vu (mulV a b)] := by
  refine val_of tab313 ?_
  obtain ⟨f, h⟩ := times_ok ha hb
  simp [tr313, TT.dv, h]
theorem vdiv_ok : val 310 [Vu a, Vu b] = some [Vu (divV a b)] := by
  refine val_of tab310 ?_
  obtain ⟨f, h⟩ := div_ok ha hb
  simp [tr310, TT.dv, h]
end
section
variable {b : Nat} (hb : b < 18446744073709551616)
include hb
theorem sqrt9_ok : val 161 [Vu b] = some [Vu (sqrtV b)] := by
  refine val_of tab161 ?_
  have h : val 328 [Vf (cnF b)] = some [Vf (sqrtV b)] := val_of tab328 (by simp [tr328, TT.dv, fsqrt_ok hb])
  simp [tr161, TT.dv, F9_ok, h, B9_ok (sqrtV_lt hb) cnF_sqrt]
theorem vsqrt_ok : val 316 [Vu b] = some [Vu (sqrtV b)] := by
  refine val_of tab316 ?_
  simp [tr316, TT.dv, sqrt_ok hb]
theorem shift9_ok {k : Int} (hk1 : -4611686018427387904 ≤ k) (hk2 : k ≤ 4611686018427387904) : val 160 [Vu b, Vi k] = some [Vu (scaleV b k)] := by
  refine val_of tab160 ?_
  simp [tr160, TT.dv, F9_ok, ldexp_ok hb hk1 hk2, B9_ok (scaleV_lt hb k) (scaleV_nan b k)]
end
theorem vshift_ok (b : Nat) (k : Int) : val 315 [Vu b, Vi k] = some [Vu (scaleV b k)] := by
  refine val_of tab315 ?_
  simp [tr315, TT.dv, scale_ok]
end Go.Proofs.YthchhkghjfendabGreat.Dx

namespace Go.Proofs.YthchhkghjfendabGreat.Dx
open Go

def Words (x : List Nat) : Prop := ∀ a ∈ x, a < 18446744073709551616
def el (x : List Nat) (i : Nat) : Nat := x.getD i 0
def Vl (x : List Nat) : PV := .l (x.map Vu)
@[simp] theorem len_V (x : List Nat) : U.len.den (Vl x) = Vi x.length := by simp [Vl]
theorem get_V {x : List Nat} {i : Nat} (h : i < x.length) : B.get.den (Vl x) (Vi i) = Vu (el x i) := by
  rw [Vl, get_l _ rfl]
  simp [el, List.getD_eq_getElem?_getD, h]
@[simp] theorem nil_V : PV.l [] = Vl [] := rfl
@[simp] theorem wl_nil_V : wl [] = Vl [] := rfl
theorem app_V (x : List Nat) (a : Nat) : B.app.den (Vl x) (B.cons.den (Vu a) (Vl [])) = Vl (x ++ [a]) := by
  rw [Vl, Vl, List.map_nil, cons_l, app_l]; simp [Vl]
theorem Words.el {x : List Nat} (h : Words x) (i : Nat) : el x i < 18446744073709551616 := by
  rw [Dx.el, List.getD_eq_getElem?_getD]
  cases hx : x[i]? with
  | none => simp
  | some a => exact h a (List.mem_of_getElem? hx)

theorem pv_u64 {p : PV} (h : PvT (.int .u64) p) : ∃ n : Nat, p = Vu n ∧ n < 18446744073709551616 := by
  obtain ⟨a, rfl, hw⟩ := h
  obtain ⟨n, rfl, hn⟩ := wf_u64 hw
  exact ⟨n, rfl, hn⟩
theorem pv_i64 {p : PV} (h : PvT (.int .i64) p) : ∃ x : Int, p = Vi x ∧ -9223372036854775808 ≤ x ∧ x < 9223372036854775808 := by
  obtain ⟨a, rfl, hw⟩ := h
  exact ⟨a, rfl, wf_i64 hw⟩
theorem pv_bool {p : PV} (h : PvT .bool p) : ∃ b : Bool, p = Vb b := h
theorem pv_lu {p : PV} (h : PvT (.sl .u64) p) : ∃ x : List Nat, p = Vl x ∧ Words x ∧ x.length ≤ 17592186043904 := by
  obtain ⟨zs, rfl, hw, hl⟩ := h
  refine ⟨zs.map Int.toNat, ?_, ?_, ?_⟩
  · unfold Vl
    rw [List.map_map]
    refine congrArg PV.l (List.map_congr_left fun z hz => ?_)
    obtain ⟨n, rfl, _⟩ := wf_u64 (hw z hz)
    rfl
  · intro a ha
    obtain ⟨z, hz, rfl⟩ := List.mem_map.1 ha
    obtain ⟨n, rfl, hn⟩ := wf_u64 (hw z hz)
    simpa using hn
  · rw [List.length_map]
    have h1 : zs.length * 8 ≤ reachBytes := hl
    have h2 : reachBytes = 140737488351232 := rfl
    rw [h2] at h1
    omega
def dotR (x y : List Nat) : Nat → Nat → Nat → Nat
  | 0, _, s => s
  | n + 1, i, s => dotR x y n (i + 1) (addV s (mulV (el x i) (el y i)))
theorem dotR_lt {x y : List Nat} : ∀ (n : Nat) {i s : Nat}, s < 18446744073709551616 → dotR x y n i s < 18446744073709551616
  | 0, _, _, h => h
  | n + 1, i, s, h => dotR_lt n (addV_lt h mulV_lt)
section
variable {x y : List Nat} (hx : Words x) (hy : Words y) (hl : x.length = y.length) (h64 : x.length < 9000000000000000000)
include hx hy hl h64
theorem dot_loop {x2 : PV} : ∀ (n : Nat) {i s : Nat}, i + n = x.length → s < 18446744073709551616 →
    rounds (fun vs => lo311_1.dv (Vl x :: Vl y :: x2 :: vs)) [Vu s, Vi i] = some (.y (.ext 0) [Vu (dotR x y n i s)]) := by
  intro n
  induction n with
  | zero =>
    intro i s hi hs
    refine rounds_exit ?_ (by simp)
    simp [lo311_1, TT.dv, show ¬ i < x.length by omega, dotR]
  | succ n ih =>
    intro i s hi hs
    refine Eq.trans (rounds_cont ?_) (ih (i := i + 1) (s := addV s (mulV (el x i) (el y i))) (by omega) (addV_lt hs mulV_lt))
    have e1 : (B.add .i64).den (Vi i) (Vi 1) = Vi (i + 1) := add_i (by omega) (by omega)
    have g1 := get_V (x := x) (i := i) (by omega)
    have g2 := get_V (x := y) (i := i) (by omega)
    have c1 := vmul_ok (hx.el i) (hy.el i)
    have c2 := vadd_ok hs (mulV_lt (a := el x i) (b := el y i))
    simp [lo311_1, TT.dv, show i < x.length by omega, show i < y.length by omega, e1, g1, g2, c1, c2]
theorem dot9_loop : ∀ (n : Nat) {i s : Nat}, i + n = x.length → s < 18446744073709551616 →
    rounds (fun vs => lo153_1.dv (Vl x :: Vl y :: vs)) [Vu s, Vi i] = some (.y (.ext 0) [Vu (dotR x y n i s)]) := by
  intro n
  induction n with
  | zero =>
    intro i s hi hs
    refine rounds_exit ?_ (by simp)
    simp [lo153_1, TT.dv, show ¬ i < x.length by omega, dotR]
  | succ n ih =>
    intro i s hi hs
    refine Eq.trans (rounds_cont ?_) (ih (i := i + 1) (s := addV s (mulV (el x i) (el y i))) (by omega) (addV_lt hs mulV_lt))
    have e1 : (B.add .i64).den (Vi i) (Vi 1) = Vi (i + 1) := add_i (by omega) (by omega)
    have g1 := get_V (x := x) (i := i) (by omega)
    have g2 := get_V (x := y) (i := i) (by omega)
    have c1 := mul9_ok (hx.el i) (hy.el i)
    have c2 := add9_ok hs (mulV_lt (a := el x i) (b := el y i))
    simp [lo153_1, TT.dv, show i < x.length by omega, show i < y.length by omega, e1, g1, g2, c1, c2]
end
theorem fit_ok (x y : List Nat) : val 321 [Vl x, Vl y] = some [Vb (decide (x.length = y.length ∧ x.length ≤ 64))] := by
  refine val_of tab321 ?_
  have e1 : decide ((x.length : Int) = y.length) = decide (x.length = y.length) := decide_eq_decide.2 (by omega)
  have e2 : decide ((x.length : Int) ≤ 64) = decide (x.length ≤ 64) := decide_eq_decide.2 (by omega)
  simp [tr321, TT.dv, e1, e2]
def dotV (x y : List Nat) : Nat := dotR x y x.length 0 0
theorem dot_ok {x y : List Nat} (hx : Words x) (hy : Words y) : val 311 [Vl x, Vl y] = some (if x.length = y.length ∧ x.length ≤ 64 then [Vu (dotV x y), Vi 0] else [Vu 0, Vi 3]) := by
  refine val_of tab311 ?_
  have h1 := fit_ok x y
  by_cases h : x.length = y.length ∧ x.length ≤ 64
  · rw [if_pos h]
    rw [decide_eq_true h] at h1
    have hlp := dot_loop (x2 := Vb true) hx hy h.1 (by omega) x.length (i := 0) (s := 0) (by omega) (by omega)
    rw [show ((0 : Nat) : Int) = 0 from rfl] at hlp
    simp [tr311, TT.dv, KS.dv, h1, hlp, dotV]
  · rw [if_neg h]
    rw [decide_eq_false h] at h1
    simp [tr311, TT.dv, h1]
end Go.Proofs.YthchhkghjfendabGreat.Dx

namespace Go.Proofs.YthchhkghjfendabGreat.Dx
open Go

theorem max_u (a b : Nat) : (B.max .u64).den (Vu a) (Vu b) = Vu (max a b) := by
  simp only [B.den, Vu, PV.int, PV.v.injEq, Value.int.injEq, true_and]; by_cases h : (a : Int) < b <;> simp only [h, if_true, if_false] <;> omega
def absV (b : Nat) : Nat := b % 9223372036854775808
theorem absV_lt (b : Nat) : absV b < 9223372036854775808 := by unfold absV; omega
theorem nanB_absV (b : Nat) : nanB (absV b) ↔ nanB b := nanB_abs b
def bigR (x : List Nat) : Nat → Nat → Nat → Nat
  | 0, _, m => m
  | n + 1, i, m => if nanB (el x i) then nan0 else bigR x n (i + 1) (max m (absV (el x i)))
theorem maxB_nan (a : Nat) : maxB nan0 a = nan0 := by unfold maxB ordOk; simp [nanB_nan0]
theorem maxB_nan2 {m a : Nat} (h : nanB a) : maxB m (absV a) = nan0 := by unfold maxB ordOk; simp [(nanB_absV a).2 h]
theorem rk_pos {m : Nat} (h : m < 9223372036854775808) : rk m = m := by
  unfold rk fNeg sg
  rw [if_neg (by simp; omega), Nat.mod_eq_of_lt h]
theorem maxB_abs {m a : Nat} (hm : m < 9223372036854775808) (hn : ¬ nanB m) (h : ¬ nanB a) : maxB m (absV a) = max m (absV a) := by
  have ho : ordOk m (absV a) = true := by unfold ordOk; simp [hn]; exact fun hh => h ((nanB_absV a).1 hh)
  unfold maxB
  rw [if_pos ho]
  have : ordI m (absV a) < 0 ↔ m < absV a := by
    rw [ordI_lt, rk_pos hm, rk_pos (absV_lt a)]
    constructor
    · intro h; omega
    · intro h; exact ⟨ho, by omega⟩
  by_cases hc : m < absV a
  · rw [if_pos (this.2 hc)]; omega
  · rw [if_neg (fun h => hc (this.1 h))]; omega
theorem nanB_max {m a : Nat} (hn : ¬ nanB m) (h : ¬ nanB a) : ¬ nanB (max m a) := by
  rcases (show max m a = m ∨ max m a = a by omega) with h1 | h1 <;> rw [h1] <;> assumption
section
variable {x : List Nat} (hx : Words x) (h64 : x.length < 9000000000000000000)
include hx h64
/-- The loop over the greatest: at a NaN it leaves. -/
theorem big_loop {x1 : PV} : ∀ (n : Nat) {i m : Nat}, i + n = x.length → m < 9223372036854775808 → ¬ nanB m →
    (∃ r, rounds (fun vs => lo309_1.dv (Vl x :: vs)) [x1, Vu m, Vi i] = some (.y .ret [r]) ∧ bigR x n i m = nan0) ∨
    (rounds (fun vs => lo309_1.dv (Vl x :: vs)) [x1, Vu m, Vi i] = some (.y (.ext 0) [x1, Vu (bigR x n i m)])) := by
  intro n
  induction n with
  | zero =>
    intro i m hi hm hn
    refine .inr (rounds_exit ?_ (by simp))
    simp [lo309_1, TT.dv, show ¬ i < x.length by omega, bigR]
  | succ n ih =>
    intro i m hi hm hn
    have g1 := get_V (x := x) (i := i) (by omega)
    have k1 := kind_ok (el x i)
    unfold bigR
    by_cases c : nanB (el x i)
    · rw [if_pos c]
      rw [(kind_nan _).2 c] at k1
      refine .inl ⟨Vu m, rounds_exit ?_ (by simp), rfl⟩
      simp [lo309_1, TT.dv, show i < x.length by omega, g1, k1]
    · rw [if_neg c]
      have c' : ¬ fKind (el x i) = 4 := fun h => c ((kind_nan _).1 h)
      have e1 : (B.add .i64).den (Vi i) (Vi 1) = Vi (i + 1) := add_i (by omega) (by omega)
      have a1 := abs_ok (el x i)
      have hr : rounds (fun vs => lo309_1.dv (Vl x :: vs)) [x1, Vu m, Vi i] = rounds (fun vs => lo309_1.dv (Vl x :: vs)) [x1, Vu (max m (absV (el x i))), Vi ((i + 1 : Nat) : Int)] := by
        refine rounds_cont ?_
        simp [lo309_1, TT.dv, show i < x.length by omega, g1, k1, c', a1, e1, max_u, absV]
      have := absV_lt (el x i)
      rw [hr]
      exact ih (i := i + 1) (by omega) (by omega) (nanB_max hn (fun h => c ((nanB_absV _).1 h)))
theorem big9_nan : ∀ (n : Nat) {i : Nat}, i + n = x.length →
    rounds (fun vs => lo151_1.dv (Vl x :: vs)) [Vu nan0, Vi i] = some (.y (.ext 0) [Vu nan0]) := by
  intro n
  induction n with
  | zero =>
    intro i hi
    refine rounds_exit ?_ (by simp)
    simp [lo151_1, TT.dv, show ¬ i < x.length by omega]
  | succ n ih =>
    intro i hi
    refine Eq.trans (rounds_cont ?_) (ih (i := i + 1) (by omega))
    have g1 := get_V (x := x) (i := i) (by omega)
    have e1 : (B.add .i64).den (Vi i) (Vi 1) = Vi (i + 1) := add_i (by omega) (by omega)
    have a1 := abs8_ok (hx.el i)
    have m1 := max8_ok (a := nan0) (b := el x i % 9223372036854775808) (by decide) (by omega)
    rw [maxB_nan] at m1
    simp [lo151_1, TT.dv, show i < x.length by omega, g1, a1, m1, e1]
theorem big9_loop : ∀ (n : Nat) {i m : Nat}, i + n = x.length → m < 9223372036854775808 → ¬ nanB m →
    rounds (fun vs => lo151_1.dv (Vl x :: vs)) [Vu m, Vi i] = some (.y (.ext 0) [Vu (bigR x n i m)]) := by
  intro n
  induction n with
  | zero =>
    intro i m hi hm hn
    refine rounds_exit ?_ (by simp)
    simp [lo151_1, TT.dv, show ¬ i < x.length by omega, bigR]
  | succ n ih =>
    intro i m hi hm hn
    have g1 := get_V (x := x) (i := i) (by omega)
    have e1 : (B.add .i64).den (Vi i) (Vi 1) = Vi (i + 1) := add_i (by omega) (by omega)
    have a1 := abs8_ok (hx.el i)
    have m1 := max8_ok (a := m) (b := el x i % 9223372036854775808) (by omega) (by omega)
    have hr : rounds (fun vs => lo151_1.dv (Vl x :: vs)) [Vu m, Vi i] = rounds (fun vs => lo151_1.dv (Vl x :: vs)) [Vu (maxB m (absV (el x i))), Vi ((i + 1 : Nat) : Int)] := by
      refine rounds_cont ?_
      simp [lo151_1, TT.dv, show i < x.length by omega, g1, a1, m1, e1, absV]
    rw [hr]
    unfold bigR
    by_cases c : nanB (el x i)
    · rw [if_pos c, maxB_nan2 c]
      exact big9_nan hx h64 n (by omega)
    · rw [if_neg c, maxB_abs hm hn c]
      have := absV_lt (el x i)
      exact ih (i := i + 1) (by omega) (by omega) (nanB_max hn (fun h => c ((nanB_absV _).1 h)))
end
theorem bigR_lt {x : List Nat} : ∀ (n : Nat) {i m : Nat}, m < 9223372036854775808 → bigR x n i m < 9223372036854775808
  | 0, _, _, h => h
  | n + 1, i, m, h => by
    unfold bigR
    split
    · decide
    · exact bigR_lt n (by have := absV_lt (el x i); omega)
def bigV (x : List Nat) : Nat := bigR x x.length 0 0
theorem bigV_lt (x : List Nat) : bigV x < 9223372036854775808 := bigR_lt _ (by decide)
section
variable {x : List Nat} (hx : Words x) (h64 : x.length < 9000000000000000000)
include hx h64
theorem biggest_ok : val 309 [Vl x] = some [Vu (bigV x)] := by
  refine val_of tab309 ?_
  have h := big_loop hx h64 (x1 := Vu 0) x.length (i := 0) (m := 0) (by omega) (by decide) (by decide)
  rw [show ((0 : Nat) : Int) = 0 from rfl] at h
  unfold bigV
  rcases h with ⟨r, h1, h2⟩ | h1
  · rw [h2]; simp [tr309, TT.dv, KS.dv, h1, nan0]
  · simp [tr309, TT.dv, KS.dv, h1]
theorem biggest9_ok : val 151 [Vl x] = some [Vu (bigV x)] := by
  refine val_of tab151 ?_
  have h := big9_loop hx h64 x.length (i := 0) (m := 0) (by omega) (by decide) (by decide)
  rw [show ((0 : Nat) : Int) = 0 from rfl] at h
  unfold bigV
  simp [tr151, TT.dv, KS.dv, h]
end

def finR (x : List Nat) : Nat → Nat → Bool
  | 0, _ => true
  | n + 1, i => if fPow (el x i) = 2047 then false else finR x n (i + 1)
def finV (x : List Nat) : Bool := finR x x.length 0
section
variable {x : List Nat} (hx : Words x) (h64 : x.length < 9000000000000000000)
include hx h64
theorem fin_loop {x1 : PV} : ∀ (n : Nat) {i : Nat}, i + n = x.length →
    rounds (fun vs => lo312_1.dv (Vl x :: vs)) [x1, Vi i] = some (if finR x n i then .y (.ext 0) [x1] else .y .ret []) := by
  intro n
  induction n with
  | zero =>
    intro i hi
    refine rounds_exit ?_ (by simp [finR])
    simp [lo312_1, TT.dv, show ¬ i < x.length by omega, finR]
  | succ n ih =>
    intro i hi
    have g1 := get_V (x := x) (i := i) (by omega)
    have f1 := finite_ok (el x i)
    unfold finR
    by_cases c : fPow (el x i) = 2047
    · rw [if_pos c]
      refine rounds_exit ?_ (by simp)
      simp [lo312_1, TT.dv, show i < x.length by omega, g1, f1, c]
    · rw [if_neg c]
      have e1 : (B.add .i64).den (Vi i) (Vi 1) = Vi (i + 1) := add_i (by omega) (by omega)
      refine Eq.trans (rounds_cont ?_) (ih (i := i + 1) (by omega))
      simp [lo312_1, TT.dv, show i < x.length by omega, g1, f1, c, e1]
theorem fin9_loop {x1 : PV} : ∀ (n : Nat) {i : Nat}, i + n = x.length →
    rounds (fun vs => lo155_1.dv (Vl x :: vs)) [x1, Vi i] = some (if finR x n i then .y (.ext 0) [x1] else .y .ret []) := by
  intro n
  induction n with
  | zero =>
    intro i hi
    refine rounds_exit ?_ (by simp [finR])
    simp [lo155_1, TT.dv, show ¬ i < x.length by omega, finR]
  | succ n ih =>
    intro i hi
    have g1 := get_V (x := x) (i := i) (by omega)
    have f1 := finite4_ok (hx.el i)
    have hp := fPow_lt (el x i)
    unfold finR
    by_cases c : fPow (el x i) = 2047
    · rw [if_pos c]
      refine rounds_exit ?_ (by simp)
      simp [lo155_1, TT.dv, show i < x.length by omega, g1, f1, c]
    · rw [if_neg c]
      have e1 : (B.add .i64).den (Vi i) (Vi 1) = Vi (i + 1) := add_i (by omega) (by omega)
      refine Eq.trans (rounds_cont ?_) (ih (i := i + 1) (by omega))
      simp [lo155_1, TT.dv, show i < x.length by omega, g1, f1, show fPow (el x i) < 2047 by omega, e1]
theorem finite_v_ok : val 312 [Vl x] = some [Vb (finV x)] := by
  refine val_of tab312 ?_
  have h := fin_loop hx h64 (x1 := Vb false) x.length (i := 0) (by omega)
  rw [show ((0 : Nat) : Int) = 0 from rfl] at h
  unfold finV
  cases hc : finR x x.length 0 <;> rw [hc] at h <;> simp [tr312, TT.dv, KS.dv, h]
theorem finite_9_ok : val 155 [Vl x] = some [Vb (finV x)] := by
  refine val_of tab155 ?_
  have h := fin9_loop hx h64 (x1 := Vb false) x.length (i := 0) (by omega)
  rw [show ((0 : Nat) : Int) = 0 from rfl] at h
  unfold finV
  cases hc : finR x x.length 0 <;> rw [hc] at h <;> simp [tr155, TT.dv, KS.dv, h]
end

def sqrR (x : List Nat) (k : Int) : Nat → Nat → Nat → Nat
  | 0, _, s => s
  | n + 1, i, s => sqrR x k n (i + 1) (addV s (mulV (scaleV (el x i) (-k)) (scaleV (el x i) (-k))))
theorem sqrR_lt {x : List Nat} {k : Int} : ∀ (n : Nat) {i s : Nat}, s < 18446744073709551616 → sqrR x k n i s < 18446744073709551616
  | 0, _, _, h => h
  | n + 1, i, s, h => sqrR_lt n (addV_lt h mulV_lt)
def sqrV (x : List Nat) (k : Int) : Nat := sqrR x k x.length 0 0
def normV (x : List Nat) : Nat := if bigV x = 0 ∨ fPow (bigV x) = 2047 then bigV x else scaleV (sqrtV (sqrV x (expB (bigV x)))) (expB (bigV x))
theorem expB_bd (b : Nat) : -1100 ≤ expB b ∧ expB b ≤ 1100 := by
  unfold expB
  split
  · omega
  · rename_i h
    have h1 := fPl_bd b
    have h2 : bl (fMag b) ≤ 53 := bl_lt.2 (fMag_lt b)
    have h3 : fPow b ≠ 2047 := by omega
    unfold fPl at *
    have h4 := fPow_lt b
    split <;> rename_i h5 <;> simp only [h5, if_true, if_false] at h1 <;> omega
section
variable {x : List Nat} (hx : Words x) (h64 : x.length < 9000000000000000000) {k : Int} (hk : -1100 ≤ k ∧ k ≤ 1100)
include hx h64 hk
theorem norm_loop {x1 x2 : PV} : ∀ (n : Nat) {i s : Nat}, i + n = x.length → s < 18446744073709551616 →
    rounds (fun vs => lo314_1.dv (Vl x :: x1 :: x2 :: Vi k :: vs)) [Vu s, Vi i] = some (.y (.ext 0) [Vu (sqrR x k n i s)]) := by
  intro n
  induction n with
  | zero =>
    intro i s hi hs
    refine rounds_exit ?_ (by simp)
    simp [lo314_1, TT.dv, show ¬ i < x.length by omega, sqrR]
  | succ n ih =>
    intro i s hi hs
    refine Eq.trans (rounds_cont ?_) (ih (i := i + 1) (s := addV s (mulV (scaleV (el x i) (-k)) (scaleV (el x i) (-k)))) (by omega) (addV_lt hs mulV_lt))
    have e1 : (B.add .i64).den (Vi i) (Vi 1) = Vi (i + 1) := add_i (by omega) (by omega)
    have e2 : (U.neg .i64).den (Vi k) = Vi (-k) := neg_i (by omega) (by omega)
    have g1 := get_V (x := x) (i := i) (by omega)
    have c0 := vshift_ok (el x i) (-k)
    have ht := scaleV_lt (hx.el i) (-k)
    have c1 := vmul_ok ht ht
    have c2 := vadd_ok hs (mulV_lt (a := scaleV (el x i) (-k)) (b := scaleV (el x i) (-k)))
    simp [lo314_1, TT.dv, show i < x.length by omega, e1, e2, g1, c0, c1, c2]
theorem norm9_loop {x1 x2 : PV} : ∀ (n : Nat) {i s : Nat}, i + n = x.length → s < 18446744073709551616 →
    rounds (fun vs => lo158_1.dv (Vl x :: x1 :: x2 :: Vi k :: vs)) [Vu s, Vi i] = some (.y (.ext 0) [Vu (sqrR x k n i s)]) := by
  intro n
  induction n with
  | zero =>
    intro i s hi hs
    refine rounds_exit ?_ (by simp)
    simp [lo158_1, TT.dv, show ¬ i < x.length by omega, sqrR]
  | succ n ih =>
    intro i s hi hs
    refine Eq.trans (rounds_cont ?_) (ih (i := i + 1) (s := addV s (mulV (scaleV (el x i) (-k)) (scaleV (el x i) (-k)))) (by omega) (addV_lt hs mulV_lt))
    have e1 : (B.add .i64).den (Vi i) (Vi 1) = Vi (i + 1) := add_i (by omega) (by omega)
    have e2 : (B.sub .i64).den (Vi 0) (Vi k) = Vi (-k) := by rw [sub_i (by omega) (by omega)]; exact congrArg Vi (by omega)
    have g1 := get_V (x := x) (i := i) (by omega)
    have c0 := shift9_ok (hx.el i) (k := -k) (by omega) (by omega)
    have ht := scaleV_lt (hx.el i) (-k)
    have c1 := mul9_ok ht ht
    have c2 := add9_ok hs (mulV_lt (a := scaleV (el x i) (-k)) (b := scaleV (el x i) (-k)))
    simp [lo158_1, TT.dv, show i < x.length by omega, e1, e2, g1, c0, c1, c2]
end
theorem norm_v_ok {x : List Nat} (hx : Words x) (h64 : x.length < 9000000000000000000) : val 314 [Vl x] = some (if x.length ≤ 64 then [Vu (normV x), Vi 0] else [Vu 0, Vi 3]) := by
  refine val_of tab314 ?_
  by_cases hl : x.length ≤ 64
  · rw [if_pos hl]
    have hl' : ¬ 64 < (x.length : Int) := by omega
    have h1 := biggest_ok hx h64
    have f1 := finite_ok (bigV x)
    unfold normV
    by_cases c : bigV x = 0
    · rw [if_pos (.inl c)]
      rw [c] at h1 ⊢
      simp [tr314, TT.dv, hl', h1]
    · by_cases c2 : fPow (bigV x) = 2047
      · rw [if_pos (.inr c2)]
        simp [tr314, TT.dv, hl', h1, c, f1, c2]
      · rw [if_neg (by omega)]
        have e1 := exp_ok (b := bigV x)
        have hk := expB_bd (bigV x)
        have hlp := norm_loop hx h64 hk (x1 := Vu (bigV x)) (x2 := Vb true) x.length (i := 0) (s := 0) (by omega) (by decide)
        rw [show ((0 : Nat) : Int) = 0 from rfl] at hlp
        have s1 := vsqrt_ok (b := sqrV x (expB (bigV x))) (sqrR_lt _ (by decide))
        have s2 := vshift_ok (sqrtV (sqrV x (expB (bigV x)))) (expB (bigV x))
        rw [show sqrR x (expB (bigV x)) x.length 0 0 = sqrV x (expB (bigV x)) from rfl] at hlp
        simp [tr314, TT.dv, KS.dv, hl', h1, c, f1, c2, e1, hlp, s1, s2]
  · rw [if_neg hl]
    have hl' : 64 < (x.length : Int) := by omega
    simp [tr314, TT.dv, hl']
theorem norm_9_ok {x : List Nat} (hx : Words x) (h64 : x.length < 9000000000000000000) : val 158 [Vl x] = some [Vu (normV x)] := by
  refine val_of tab158 ?_
  have h1 := biggest9_ok hx h64
  have hb := bigV_lt x
  have f1 := finite4_ok (b := bigV x) (by omega)
  have hp := fPow_lt (bigV x)
  unfold normV
  by_cases c : bigV x = 0
  · rw [if_pos (.inl c)]
    rw [c] at h1 ⊢
    simp [tr158, TT.dv, h1]
  · by_cases c2 : fPow (bigV x) = 2047
    · rw [if_pos (.inr c2)]
      simp [tr158, TT.dv, h1, c, f1, c2]
    · rw [if_neg (by omega)]
      have e1 := exp8_ok (b := bigV x) (by omega)
      have hk := expB_bd (bigV x)
      have hlp := norm9_loop hx h64 hk (x1 := Vu (bigV x)) (x2 := Vb true) x.length (i := 0) (s := 0) (by omega) (by decide)
      rw [show ((0 : Nat) : Int) = 0 from rfl] at hlp
      have s1 := sqrt9_ok (b := sqrV x (expB (bigV x))) (sqrR_lt _ (by decide))
      have s2 := shift9_ok (b := sqrtV (sqrV x (expB (bigV x)))) (sqrtV_lt (sqrR_lt _ (by decide))) (k := expB (bigV x)) (by omega) (by omega)
      rw [show sqrR x (expB (bigV x)) x.length 0 0 = sqrV x (expB (bigV x)) from rfl] at hlp
      simp [tr158, TT.dv, KS.dv, h1, c, f1, show fPow (bigV x) < 2047 by omega, e1, hlp, s1, s2]
end Go.Proofs.YthchhkghjfendabGreat.Dx

namespace Go.Proofs.YthchhkghjfendabGreat.Dx
open Go

def fnP (f : Nat) (caps : List PV) : PV := .fn f caps
theorem set_V (x : List Nat) (i v : Nat) : T3.set.den (Vl x) (Vi i) (Vu v) = Vl (x.set i v) := by
  rw [Vl, set_l _ rfl, Vl, List.map_set]
theorem cpl_u {a : Nat} (h : a < 18446744073709551616) : (U.cpl .u64).den (Vu a) = Vu (18446744073709551615 ^^^ a) ∧ 18446744073709551615 ^^^ a < 18446744073709551616 :=
  ⟨(show (U.cpl .u64).den (Vu a) = (B.xor .u64).den (Vu 18446744073709551615) (Vu a) from rfl).trans (xor_u (by omega) h), Nat.xor_lt_two_pow (n := 64) (by omega) h⟩
theorem Words.set {x : List Nat} (h : Words x) {i v : Nat} (hv : v < 18446744073709551616) : Words (x.set i v) := by
  intro a ha
  rcases List.mem_or_eq_of_mem_set ha with h1 | h1
  · exact h a h1
  · rw [h1]; exact hv
/-- What a function makes of each place. -/
def mk (g : Nat → Nat) (n : Nat) : List Nat := (List.range n).map g
@[simp] theorem mk_len (g : Nat → Nat) (n : Nat) : (mk g n).length = n := by simp [mk]
theorem mk_succ (g : Nat → Nat) (n : Nat) : mk g n ++ [g n] = mk g (n + 1) := by simp [mk, List.range_succ]
theorem mk_words {g : Nat → Nat} {n : Nat} (h : ∀ i, i < n → g i < 18446744073709551616) : Words (mk g n) := by
  intro a ha
  obtain ⟨i, hi, rfl⟩ := List.mem_map.1 ha
  exact h i (by simpa using hi)
/-- Boxes and functions that catch them. -/
@[simp] theorem toA_V (l : List PV) : U.toA.den (.l l) = .a l := rfl
@[simp] theorem fld0_a (p : PV) (l : List PV) : (U.fld 0).den (.a (p :: l)) = p := rfl
theorem mkfn_l (f : Nat) (l : List PV) : (U.mkfn f).den (.l l) = fnP f l := rfl
section
variable {a : Nat} {x y : List Nat} (ha : a < 18446744073709551616) (hx : Words x) (hy : Words y) (hl : x.length = y.length) (h64 : x.length < 17592186044416)
include ha hx hy hl h64
end
section
variable {a : Nat} {x : List Nat} (ha : a < 18446744073709551616) (hx : Words x) (h64 : x.length < 17592186044416)
include ha hx h64
end
theorem same_loop {x : List Nat} {x2 : PV} (h64 : x.length < 9000000000000000000) : ∀ (n : Nat) {i : Nat}, i + n = x.length →
    rounds (fun vs => lo159_1.dv (Vl x :: Vl x :: vs)) [x2, Vi i] = some (.y (.ext 0) [x2]) := by
  intro n
  induction n with
  | zero =>
    intro i hi
    refine rounds_exit ?_ (by simp)
    simp [lo159_1, TT.dv, show ¬ i < x.length by omega]
  | succ n ih =>
    intro i hi
    refine Eq.trans (rounds_cont ?_) (ih (i := i + 1) (by omega))
    have e1 : (B.add .i64).den (Vi i) (Vi 1) = Vi (i + 1) := add_i (by omega) (by omega)
    have g1 := get_V (x := x) (i := i) (by omega)
    simp [lo159_1, TT.dv, show i < x.length by omega, e1, g1]
theorem same_self {x : List Nat} (h64 : x.length < 9000000000000000000) : val 159 [Vl x, Vl x] = some [Vb true] := by
  refine val_of tab159 ?_
  have hlp := same_loop (x2 := Vb false) h64 x.length (i := 0) (by omega)
  rw [show ((0 : Nat) : Int) = 0 from rfl] at hlp
  simp [tr159, TT.dv, KS.dv, hlp]
end Go.Proofs.YthchhkghjfendabGreat.Dx

namespace Go.Proofs.YthchhkghjfendabGreat.Dx
open Go

theorem cons_V (a : Nat) (x : List Nat) : B.cons.den (Vu a) (Vl x) = Vl (a :: x) := rfl
def tK (f g : Nat) : Int := expB (max (absV f) (absV g))
def tN (f g : Nat) : Nat := sqrtV (addV (mulV (scaleV f (-tK f g)) (scaleV f (-tK f g))) (mulV (scaleV g (-tK f g)) (scaleV g (-tK f g))))
def turnC (f g : Nat) : Nat := if zeroB g then 4607182418800017408 else if zeroB f then 0 else divV (scaleV f (-tK f g)) (tN f g)
def turnS (f g : Nat) : Nat := if zeroB g then 0 else if zeroB f then 4607182418800017408 else divV (scaleV g (-tK f g)) (tN f g)
def turnR (f g : Nat) : Nat := if zeroB g then f else if zeroB f then g else scaleV (tN f g) (tK f g)
section
variable {f g : Nat} (hf : f < 18446744073709551616) (hg : g < 18446744073709551616)
include hf hg
theorem sum_sq_lt {a b : Nat} : addV (mulV a a) (mulV b b) < 18446744073709551616 := addV_lt mulV_lt mulV_lt
theorem tN_lt : tN f g < 18446744073709551616 := sqrtV_lt (sum_sq_lt hf hg)
theorem turn_ok : val 232 [Vu f, Vu g] = some (if fPow f = 2047 ∨ fPow g = 2047 then [Vu 0, Vu 0, Vu 0, Vi 4] else [Vu (turnC f g), Vu (turnS f g), Vu (turnR f g), Vi 0]) := by
  refine val_of tab232 ?_
  have f1 := finite_ok f
  have f2 := finite_ok g
  have k1 := kind_ok f
  have k2 := kind_ok g
  by_cases c1 : fPow f = 2047
  · rw [if_pos (.inl c1)]
    simp [tr232, TT.dv, f1, c1]
  by_cases c2 : fPow g = 2047
  · rw [if_pos (.inr c2)]
    simp [tr232, TT.dv, f1, f2, c1, c2]
  rw [if_neg (by omega)]
  unfold turnC turnS turnR
  by_cases z2 : zeroB g
  · simp only [if_pos z2]
    rw [(kind_zeroB g).2 z2] at k2
    simp [tr232, TT.dv, f1, f2, c1, c2, k2]
  simp only [if_neg z2]
  have z2' : ¬ fKind g = 0 := fun h => z2 ((kind_zeroB g).1 h)
  by_cases z1 : zeroB f
  · simp only [if_pos z1]
    rw [(kind_zeroB f).2 z1] at k1
    simp [tr232, TT.dv, f1, f2, c1, c2, k1, k2, z2']
  simp only [if_neg z1]
  have z1' : ¬ fKind f = 0 := fun h => z1 ((kind_zeroB f).1 h)
  have n1 : ¬ nanB f := by unfold nanB; omega
  have n2 : ¬ nanB g := by unfold nanB; omega
  have hb := biggest_ok (x := [f, g]) (by intro a ha; simp at ha; rcases ha with rfl | rfl <;> assumption) (by simp)
  have hbig : bigV [f, g] = max (absV f) (absV g) := by
    show (if nanB f then nan0 else if nanB g then nan0 else max (max 0 (absV f)) (absV g)) = _
    rw [if_neg n1, if_neg n2, Nat.zero_max]
  rw [hbig] at hb
  have he := exp_ok (b := max (absV f) (absV g))
  have hk := expB_bd (max (absV f) (absV g))
  rw [show expB (max (absV f) (absV g)) = tK f g from rfl] at he hk
  have hneg : (U.neg .i64).den (Vi (tK f g)) = Vi (-tK f g) := neg_i (by omega) (by omega)
  have s1 := vshift_ok f (-tK f g)
  have s2 := vshift_ok g (-tK f g)
  have l1 := scaleV_lt hf (-tK f g)
  have l2 := scaleV_lt hg (-tK f g)
  have m1 := vmul_ok l1 l1
  have m2 := vmul_ok l2 l2
  have a1 := vadd_ok (mulV_lt (a := scaleV f (-tK f g)) (b := scaleV f (-tK f g))) (mulV_lt (a := scaleV g (-tK f g)) (b := scaleV g (-tK f g)))
  have q1 := vsqrt_ok (sum_sq_lt hf hg (a := scaleV f (-tK f g)) (b := scaleV g (-tK f g)))
  rw [show sqrtV (addV (mulV (scaleV f (-tK f g)) (scaleV f (-tK f g))) (mulV (scaleV g (-tK f g)) (scaleV g (-tK f g)))) = tN f g from rfl] at q1
  have d1 := vdiv_ok l1 (tN_lt hf hg)
  have d2 := vdiv_ok l2 (tN_lt hf hg)
  have s3 := vshift_ok (tN f g) (tK f g)
  simp [tr232, TT.dv, f1, f2, c1, c2, k1, k2, z2', z1', cons_V, hb, he, hneg, s1, s2, m1, m2, a1, q1, d1, d2, s3]
theorem turn12_ok (c1 : fPow f ≠ 2047) (c2 : fPow g ≠ 2047) : val 189 [Vu f, Vu g] = some [Vu (turnC f g), Vu (turnS f g), Vu (turnR f g)] := by
  refine val_of tab189 ?_
  have k1 := kind4_ok hf
  have k2 := kind4_ok hg
  unfold turnC turnS turnR
  by_cases z2 : zeroB g
  · simp only [if_pos z2]
    rw [(kind_zeroB g).2 z2] at k2
    simp [tr189, TT.dv, k2]
  simp only [if_neg z2]
  have z2' : ¬ fKind g = 0 := fun h => z2 ((kind_zeroB g).1 h)
  by_cases z1 : zeroB f
  · simp only [if_pos z1]
    rw [(kind_zeroB f).2 z1] at k1
    simp [tr189, TT.dv, k1, k2, z2']
  simp only [if_neg z1]
  have z1' : ¬ fKind f = 0 := fun h => z1 ((kind_zeroB f).1 h)
  have n1 : ¬ nanB f := by unfold nanB; omega
  have n2 : ¬ nanB g := by unfold nanB; omega
  have b1 := abs8_ok hf
  have b2 := abs8_ok hg
  rw [show f % 9223372036854775808 = absV f from rfl] at b1
  rw [show g % 9223372036854775808 = absV g from rfl] at b2
  have g1 := absV_lt f
  have g2 := absV_lt g
  have b3 := max8_ok (a := absV f) (b := absV g) (by omega) (by omega)
  rw [maxB_abs g1 (fun h => n1 ((nanB_absV f).1 h)) n2] at b3
  have he := exp8_ok (b := max (absV f) (absV g)) (by omega)
  have hk := expB_bd (max (absV f) (absV g))
  rw [show expB (max (absV f) (absV g)) = tK f g from rfl] at he hk
  have hneg : (B.sub .i64).den (Vi 0) (Vi (tK f g)) = Vi (-tK f g) := by rw [sub_i (by omega) (by omega)]; exact congrArg Vi (by omega)
  have s1 := shift9_ok hf (k := -tK f g) (by omega) (by omega)
  have s2 := shift9_ok hg (k := -tK f g) (by omega) (by omega)
  have l1 := scaleV_lt hf (-tK f g)
  have l2 := scaleV_lt hg (-tK f g)
  have m1 := mul9_ok l1 l1
  have m2 := mul9_ok l2 l2
  have a1 := add9_ok (mulV_lt (a := scaleV f (-tK f g)) (b := scaleV f (-tK f g))) (mulV_lt (a := scaleV g (-tK f g)) (b := scaleV g (-tK f g)))
  have q1 := sqrt9_ok (sum_sq_lt hf hg (a := scaleV f (-tK f g)) (b := scaleV g (-tK f g)))
  rw [show sqrtV (addV (mulV (scaleV f (-tK f g)) (scaleV f (-tK f g))) (mulV (scaleV g (-tK f g)) (scaleV g (-tK f g)))) = tN f g from rfl] at q1
  have d1 := div9_ok l1 (tN_lt hf hg)
  have d2 := div9_ok l2 (tN_lt hf hg)
  have s3 := shift9_ok (tN_lt hf hg) (k := tK f g) (by omega) (by omega)
  simp [tr189, TT.dv, k1, k2, z2', z1', b1, b2, b3, he, hneg, s1, s2, m1, m2, a1, q1, d1, d2, s3]
end
end Go.Proofs.YthchhkghjfendabGreat.Dx

namespace Go.Proofs.YthchhkghjfendabGreat.Dx
open Go

/-- The place of row i, column k. -/
def ps (i c k : Nat) : Nat := i * c + k
theorem ps_lt {i c k r : Nat} (hi : i < r) (hk : k < c) : ps i c k < r * c := by
  unfold ps
  have h1 : (i + 1) * c ≤ r * c := Nat.mul_le_mul_right c hi
  rw [Nat.add_mul, Nat.one_mul] at h1
  omega
theorem ps_inj {i c k i' k' : Nat} (hk : k < c) (hk' : k' < c) (h : ps i c k = ps i' c k') : i = i' ∧ k = k' := by
  unfold ps at h
  have h1 : (i * c + k) / c = i := by rw [Nat.mul_comm, Nat.mul_add_div (by omega), Nat.div_eq_of_lt hk, Nat.add_zero]
  have h2 : (i' * c + k') / c = i' := by rw [Nat.mul_comm, Nat.mul_add_div (by omega), Nat.div_eq_of_lt hk', Nat.add_zero]
  have h3 : i = i' := by rw [← h1, ← h2, h]
  subst h3
  exact ⟨rfl, by omega⟩
theorem ps_small {i c k : Nat} (hi : i < 100) (hc : c ≤ 100) (hk : k ≤ 100) : ps i c k ≤ 100000 := by
  unfold ps
  have : i * c ≤ 100 * 100 := Nat.mul_le_mul (by omega) hc
  omega
theorem pos_i {i c k : Nat} (hi : i < 100) (hc : c ≤ 100) (hk : k ≤ 100) : (B.add .i64).den ((B.mul .i64).den (Vi i) (Vi c)) (Vi k) = Vi (ps i c k) := by
  have h1 : i * c ≤ 100 * 100 := Nat.mul_le_mul (by omega) hc
  have h2 : (i : Int) * c = ((i * c : Nat) : Int) := by rw [Int.natCast_mul]
  rw [mul_i (by rw [h2]; omega) (by rw [h2]; omega), h2, add_i (by omega) (by omega)]
  unfold ps
  exact congrArg Vi (by omega)
/-- Right matrices. -/
structure Mx (r c : Nat) (x : List Nat) : Prop where
  hr : r ≤ 6
  hc : c ≤ 6
  len : x.length = r * c
  w : Words x
theorem Mx.lt {r c : Nat} {x : List Nat} (h : Mx r c x) {i k : Nat} (hi : i < r) (hk : k < c) : ps i c k < x.length := by rw [h.len]; exact ps_lt hi hk
theorem Mx.small {r c : Nat} {x : List Nat} (h : Mx r c x) : x.length ≤ 36 := by
  rw [h.len]; exact Nat.mul_le_mul h.hr h.hc
theorem Mx.set {r c : Nat} {x : List Nat} (h : Mx r c x) {p v : Nat} (hv : v < 18446744073709551616) : Mx r c (x.set p v) := ⟨h.hr, h.hc, by rw [List.length_set, h.len], h.w.set hv⟩
def rightP (R C : Int) (x : List Nat) : Prop := 0 ≤ R ∧ R ≤ 6 ∧ 0 ≤ C ∧ C ≤ 6 ∧ (x.length : Int) = R * C
instance (R C : Int) (x : List Nat) : Decidable (rightP R C x) := by unfold rightP; exact inferInstance
theorem right_mx {R C : Int} {x : List Nat} (h : rightP R C x) (hw : Words x) : ∃ r c : Nat, R = r ∧ C = c ∧ Mx r c x := by
  obtain ⟨h1, h2, h3, h4, h5⟩ := h
  refine ⟨R.toNat, C.toNat, by omega, by omega, by omega, by omega, ?_, hw⟩
  have e1 : R = R.toNat := by omega
  have e2 : C = C.toNat := by omega
  rw [e1, e2, ← Int.natCast_mul] at h5
  omega
theorem mx_right {r c : Nat} {x : List Nat} (h : Mx r c x) : rightP r c x :=
  ⟨by omega, by have := h.hr; omega, by omega, by have := h.hc; omega, by rw [h.len, Int.natCast_mul]⟩
theorem size_ok (n : Int) : val 259 [Vi n] = some [Vb (decide (0 ≤ n ∧ n ≤ 6))] := by
  refine val_of tab259 ?_
  simp [tr259, TT.dv]
theorem small_mul {R C : Int} (h1 : 0 ≤ R ∧ R ≤ 6) (h2 : 0 ≤ C ∧ C ≤ 6) : (B.mul .i64).den (Vi R) (Vi C) = Vi (R * C) := by
  have h3 : R * C ≤ 6 * 6 := Int.mul_le_mul h1.2 h2.2 h2.1 (by omega)
  have h4 : 0 ≤ R * C := Int.mul_nonneg h1.1 h2.1
  exact mul_i (by omega) (by omega)
theorem check_ok (R C : Int) (x : List Nat) : val 246 [Vi R, Vi C, Vl x] = some [Vi (if rightP R C x then 0 else 1)] := by
  refine val_of tab246 ?_
  have s1 := size_ok R
  have s2 := size_ok C
  by_cases h1 : 0 ≤ R ∧ R ≤ 6
  · rw [decide_eq_true h1] at s1
    by_cases h2 : 0 ≤ C ∧ C ≤ 6
    · rw [decide_eq_true h2] at s2
      have hm := small_mul h1 h2
      by_cases h3 : (x.length : Int) = R * C
      · rw [if_pos (show rightP R C x from ⟨h1.1, h1.2, h2.1, h2.2, h3⟩)]
        simp [tr246, TT.dv, s1, s2, hm, h3]
      · rw [if_neg (show ¬ rightP R C x from fun h => h3 h.2.2.2.2)]
        simp [tr246, TT.dv, s1, s2, hm, h3]
    · rw [decide_eq_false h2] at s2
      rw [if_neg (show ¬ rightP R C x from fun h => h2 ⟨h.2.2.1, h.2.2.2.1⟩)]
      simp [tr246, TT.dv, s1, s2]
  · rw [decide_eq_false h1] at s1
    rw [if_neg (show ¬ rightP R C x from fun h => h1 ⟨h.1, h.2.1⟩)]
    simp [tr246, TT.dv, s1]
theorem right_ok10 (R C : Int) (x : List Nat) : val 172 [Vi R, Vi C, Vl x] = some [Vb (decide (rightP R C x))] := by
  refine val_of tab172 ?_
  by_cases h1 : 0 ≤ R ∧ R ≤ 6
  · by_cases h2 : 0 ≤ C ∧ C ≤ 6
    · have hm := small_mul h1 h2
      by_cases h3 : (x.length : Int) = R * C
      · rw [decide_eq_true (show rightP R C x from ⟨h1.1, h1.2, h2.1, h2.2, h3⟩)]
        simp [tr172, TT.dv, hm, h1.1, h1.2, h2.1, h2.2, h3]
      · rw [decide_eq_false (show ¬ rightP R C x from fun h => h3 h.2.2.2.2)]
        simp [tr172, TT.dv, hm, h1.1, h1.2, h2.1, h2.2, h3]
    · rw [decide_eq_false (show ¬ rightP R C x from fun h => h2 ⟨h.2.2.1, h.2.2.2.1⟩)]
      by_cases h3 : 0 ≤ C
      · have h4 : ¬ C ≤ 6 := fun h => h2 ⟨h3, h⟩
        simp [tr172, TT.dv, h1.1, h1.2, h3, h4]
      · simp [tr172, TT.dv, h1.1, h1.2, h3]
  · rw [decide_eq_false (show ¬ rightP R C x from fun h => h1 ⟨h.1, h.2.1⟩)]
    by_cases h3 : 0 ≤ R
    · have h4 : ¬ R ≤ 6 := fun h => h1 ⟨h3, h⟩
      simp [tr172, TT.dv, h3, h4]
    · simp [tr172, TT.dv, h3]
section
variable {r c : Nat} {x : List Nat} (h : Mx r c x)
include h
theorem at_ok {i k : Nat} (hi : i < r) (hk : k < c) : val 166 [Vi r, Vi c, Vl x, Vi i, Vi k] = some [Vu (el x (ps i c k))] := by
  refine val_of tab166 ?_
  have h1 := h.hr
  have h2 := h.hc
  have e1 := pos_i (i := i) (c := c) (k := k) (by omega) (by omega) (by omega)
  have hl := h.lt hi hk
  simp [tr166, TT.dv, e1, hl, get_V hl]
theorem get_ok {i k : Nat} (hi : i < r) (hk : k < c) : val 257 [Vi r, Vi c, Vl x, Vi i, Vi k] = some [Vu (el x (ps i c k))] := by
  refine val_of tab257 ?_
  have h1 := h.hr
  have h2 := h.hc
  have e1 := pos_i (i := i) (c := c) (k := k) (by omega) (by omega) (by omega)
  have hl := h.lt hi hk
  simp [tr257, TT.dv, e1, hl, get_V hl]
theorem with_ok {i k b : Nat} (hi : i < r) (hk : k < c) : val 176 [Vi r, Vi c, Vl x, Vi i, Vi k, Vu b] = some [Vi r, Vi c, Vl (x.set (ps i c k) b)] := by
  refine val_of tab176 ?_
  have h1 := h.hr
  have h2 := h.hc
  have e1 := pos_i (i := i) (c := c) (k := k) (by omega) (by omega) (by omega)
  have hl := h.lt hi hk
  have hs := h.small
  simp [tr176, TT.dv, e1, hl, set_V, show (x.length : Int) ≤ 17592186044416 by omega]
end
theorem rep_V (n a : Nat) : B.rep.den (Vi n) (Vu a) = Vl (List.replicate n a) := by
  show PV.l (List.replicate (Vi n).int.toNat (Vu a)) = _
  rw [int_I, Int.toNat_natCast, Vl, List.map_replicate]
theorem zeros_ok {r c : Nat} (hr : r ≤ 6) (hc : c ≤ 6) : val 177 [Vi r, Vi c] = some [Vi r, Vi c, Vl (List.replicate (r * c) 0)] := by
  refine val_of tab177 ?_
  have h1 := small_mul (R := r) (C := c) (by omega) (by omega)
  have h2 : r * c ≤ 36 := Nat.mul_le_mul hr hc
  rw [← Int.natCast_mul] at h1
  generalize r * c = n at *
  simp [tr177, TT.dv, h1, rep_V, show (n : Int) ≤ 17592186044416 by omega]
theorem zeros_mx {r c : Nat} (hr : r ≤ 6) (hc : c ≤ 6) : Mx r c (List.replicate (r * c) 0) := ⟨hr, hc, by simp, fun a ha => by rw [(List.mem_replicate.1 ha).2]; decide⟩
theorem copy_ok (R C : Int) {x : List Nat} (h : x.length ≤ 17592186044416) : val 168 [Vi R, Vi C, Vl x] = some [Vi R, Vi C, Vl x] := by
  refine val_of tab168 ?_
  simp [tr168, TT.dv, show (x.length : Int) ≤ 17592186044416 by omega]
theorem same_m (R C : Int) {x : List Nat} (h : x.length < 9000000000000000000) : val 174 [Vi R, Vi C, Vl x, Vi R, Vi C, Vl x] = some [Vb true] := by
  refine val_of tab174 ?_
  simp [tr174, TT.dv, same_self h]
def matL (g : Nat → Nat → Nat) (r c : Nat) : List Nat := (List.range r).flatMap fun i => mk (g i) c
theorem matL_succ (g : Nat → Nat → Nat) (r c : Nat) : matL g r c ++ mk (g r) c = matL g (r + 1) c := by
  unfold matL; rw [List.range_succ, List.flatMap_append]; simp
theorem matL_len (g : Nat → Nat → Nat) (r c : Nat) : (matL g r c).length = r * c := by
  induction r with
  | zero => simp [matL]
  | succ r ih => rw [← matL_succ, List.length_append, ih, mk_len, Nat.add_mul, Nat.one_mul]
theorem el_app {x y : List Nat} (i : Nat) : el (x ++ y) i = if i < x.length then el x i else el y (i - x.length) := by
  unfold el
  rw [List.getD_eq_getElem?_getD, List.getD_eq_getElem?_getD, List.getD_eq_getElem?_getD]
  by_cases h : i < x.length
  · rw [if_pos h, List.getElem?_append_left h]
  · rw [if_neg h, List.getElem?_append_right (by omega)]
theorem el_matL (g : Nat → Nat → Nat) {c : Nat} : ∀ {r i k : Nat}, i < r → k < c → el (matL g r c) (ps i c k) = g i k := by
  intro r
  induction r with
  | zero => intro i k hi; omega
  | succ r ih =>
    intro i k hi hk
    rw [← matL_succ, el_app, matL_len]
    by_cases h : i < r
    · rw [if_pos (ps_lt h hk)]; exact ih h hk
    · have : i = r := by omega
      subst this
      unfold ps
      rw [if_neg (by omega), Nat.add_sub_cancel_left]
      unfold el mk
      rw [List.getD_eq_getElem?_getD, List.getElem?_map, List.getElem?_range hk]; rfl
theorem mat_ext {x y : List Nat} {r c : Nat} (hx : x.length = r * c) (hy : y.length = r * c) (h : ∀ i k, i < r → k < c → el x (ps i c k) = el y (ps i c k)) : x = y := by
  refine List.ext_getElem (by omega) fun t h1 h2 => ?_
  have hc : 0 < c := by
    rcases Nat.eq_zero_or_pos c with h0 | h0
    · subst h0; omega
    · exact h0
  have ht : t = ps (t / c) c (t % c) := by unfold ps; rw [Nat.mul_comm]; exact (Nat.div_add_mod t c).symm
  have := h (t / c) (t % c) (by rw [Nat.div_lt_iff_lt_mul hc]; omega) (Nat.mod_lt _ hc)
  rw [← ht] at this
  unfold el at this
  rw [List.getD_eq_getElem?_getD, List.getD_eq_getElem?_getD, List.getElem?_eq_getElem h1, List.getElem?_eq_getElem h2] at this
  exact this
theorem matL_mx {g : Nat → Nat → Nat} {r c : Nat} (hr : r ≤ 6) (hc : c ≤ 6) (h : ∀ i k, i < r → k < c → g i k < 18446744073709551616) : Mx r c (matL g r c) := by
  refine ⟨hr, hc, matL_len g r c, fun a ha => ?_⟩
  unfold matL at ha
  obtain ⟨i, hi, h1⟩ := List.mem_flatMap.1 ha
  obtain ⟨k, hk, rfl⟩ := List.mem_map.1 h1
  exact h i k (by simpa using hi) (by simpa using hk)
section
variable {f r c : Nat} {caps : List PV} {g : Nat → Nat → Nat} (hr : r ≤ 6) (hc : c ≤ 6) (h : ∀ i k : Nat, i < r → k < c → val f (Vi i :: Vi k :: caps) = some [Vu (g i k)])
include hr hc h
theorem of_inner {x4 : PV} {acc : List Nat} (ha : acc.length ≤ 1000) {i : Nat} (hi : i < r) : ∀ (n : Nat) {k : Nat}, k + n = c →
    rounds (fun vs => lo258_2.dv (Vi r :: Vi c :: fnP f caps :: Vi i :: x4 :: vs)) [Vi k, Vl (acc ++ mk (g i) k)] = some (.y (.ext 2) [Vl (acc ++ mk (g i) c)]) := by
  intro n
  induction n with
  | zero =>
    intro k hk
    have : k = c := by omega
    subst this
    refine rounds_exit ?_ (by simp)
    simp [lo258_2, TT.dv]
  | succ n ih =>
    intro k hk
    refine Eq.trans (rounds_cont ?_) (ih (k := k + 1) (by omega))
    have e1 : (B.add .i64).den (Vi k) (Vi 1) = Vi (k + 1) := add_i (by omega) (by omega)
    have h1 := h i k hi (by omega)
    have a1 := app_V (acc ++ mk (g i) k) (g i k)
    rw [List.append_assoc, mk_succ] at a1
    have l2 : ((acc.length : Int) + (k + 1)) ≤ 17592186044416 := by omega
    simp [lo258_2, TT.dv, fnP, show k < c by omega, h1, e1, a1, l2]
theorem of_outer : ∀ (n : Nat) {i : Nat}, i + n = r →
    rounds (fun vs => lo258_1.dv (Vi r :: Vi c :: fnP f caps :: vs)) [Vi i, Vl (matL g i c)] = some (.y (.ext 0) [Vl (matL g r c)]) := by
  intro n
  induction n with
  | zero =>
    intro i hi
    have : i = r := by omega
    subst this
    refine rounds_exit ?_ (by simp)
    simp [lo258_1, TT.dv]
  | succ n ih =>
    intro i hi
    refine Eq.trans (rounds_cont ?_) (ih (i := i + 1) (by omega))
    have e1 : (B.add .i64).den (Vi i) (Vi 1) = Vi (i + 1) := add_i (by omega) (by omega)
    have hl : (matL g i c).length ≤ 1000 := by
      rw [matL_len]
      have : i * c ≤ 6 * 6 := Nat.mul_le_mul (by omega) hc
      omega
    have hin := of_inner hr hc h (x4 := Vl (matL g i c)) hl (i := i) (by omega) c (k := 0) (by omega)
    rw [show ((0 : Nat) : Int) = 0 from rfl, show mk (g i) 0 = [] from rfl, List.append_nil, matL_succ] at hin
    simp [lo258_1, TT.dv, KS.dv, show i < r by omega, hin, e1]
theorem mof_ok : val 258 [Vi r, Vi c, fnP f caps] = some [Vi r, Vi c, Vl (matL g r c)] := by
  refine val_of tab258 ?_
  have hlp := of_outer hr hc h r (i := 0) (by omega)
  rw [show ((0 : Nat) : Int) = 0 from rfl, show matL g 0 c = [] from rfl] at hlp
  simp [tr258, TT.dv, KS.dv, hlp]
end
theorem el_set (x : List Nat) (p v q : Nat) : el (x.set p v) q = if p = q ∧ p < x.length then v else el x q := by
  unfold el
  rw [List.getD_eq_getElem?_getD, List.getD_eq_getElem?_getD, List.getElem?_set]
  by_cases h : p = q
  · subst h
    by_cases h2 : p < x.length
    · simp [h2]
    · simp [h2, List.getElem?_eq_none (show x.length ≤ p by omega)]
  · simp [h]
def fin1 (pos v : Nat → Nat) : Nat → Nat → List Nat → List Nat
  | 0, _, m => m
  | n + 1, k, m => fin1 pos v n (k + 1) (m.set (pos k) (v k))
def fin2 (pos v : Nat → Nat → Nat) (C : Nat) : Nat → Nat → List Nat → List Nat
  | 0, _, m => m
  | n + 1, i, m => fin2 pos v C n (i + 1) (fin1 (pos i) (v i) C 0 m)
theorem fin1_len (pos v : Nat → Nat) : ∀ (n k : Nat) (m : List Nat), (fin1 pos v n k m).length = m.length
  | 0, _, _ => rfl
  | n + 1, k, m => by unfold fin1; rw [fin1_len pos v n, List.length_set]
theorem fin2_len (pos v : Nat → Nat → Nat) (C : Nat) : ∀ (n i : Nat) (m : List Nat), (fin2 pos v C n i m).length = m.length
  | 0, _, _ => rfl
  | n + 1, k, m => by unfold fin2; rw [fin2_len pos v C n, fin1_len]
theorem fin1_other {pos v : Nat → Nat} {q : Nat} : ∀ (n k : Nat) (m : List Nat), (∀ j, k ≤ j → j < k + n → pos j ≠ q) → el (fin1 pos v n k m) q = el m q
  | 0, _, _, _ => rfl
  | n + 1, k, m, h => by
    unfold fin1
    rw [fin1_other n (k + 1) _ (fun j h1 h2 => h j (by omega) (by omega)), el_set, if_neg (fun hh => h k (Nat.le_refl _) (by omega) hh.1)]
theorem fin1_at {pos v : Nat → Nat} : ∀ (n k : Nat) (m : List Nat), (∀ j, k ≤ j → j < k + n → pos j < m.length) → (∀ j j', k ≤ j → j < k + n → k ≤ j' → j' < k + n → pos j = pos j' → j = j') → ∀ j, k ≤ j → j < k + n → el (fin1 pos v n k m) (pos j) = v j
  | 0, _, _, _, _, j, h1, h2 => by omega
  | n + 1, k, m, hl, hi, j, h1, h2 => by
    unfold fin1
    rcases Nat.eq_or_lt_of_le h1 with he | he
    · subst he
      rw [fin1_other n (k + 1) _ (fun j' a b hh => by have := hi j' k (by omega) (by omega) (Nat.le_refl _) (by omega) hh; omega), el_set, if_pos ⟨rfl, hl k (Nat.le_refl _) (by omega)⟩]
    · exact fin1_at n (k + 1) _ (fun j a b => by rw [List.length_set]; exact hl j (by omega) (by omega)) (fun j j' a b a' b' => hi j j' (by omega) (by omega) (by omega) (by omega)) j (by omega) (by omega)
theorem fin2_other {pos v : Nat → Nat → Nat} {C q : Nat} : ∀ (n i : Nat) (m : List Nat), (∀ j k, i ≤ j → j < i + n → k < C → pos j k ≠ q) → el (fin2 pos v C n i m) q = el m q
  | 0, _, _, _ => rfl
  | n + 1, i, m, h => by
    unfold fin2
    rw [fin2_other n (i + 1) _ (fun j k h1 h2 => h j k (by omega) (by omega)), fin1_other C 0 m (fun k _ h2 => h i k (Nat.le_refl _) (by omega) (by omega))]
theorem fin2_at {pos v : Nat → Nat → Nat} {C : Nat} : ∀ (n i : Nat) (m : List Nat), (∀ j k, i ≤ j → j < i + n → k < C → pos j k < m.length) → (∀ j k j' k', i ≤ j → j < i + n → k < C → i ≤ j' → j' < i + n → k' < C → pos j k = pos j' k' → j = j' ∧ k = k') →
    ∀ j k, i ≤ j → j < i + n → k < C → el (fin2 pos v C n i m) (pos j k) = v j k
  | 0, _, _, _, _, j, k, h1, h2, _ => by omega
  | n + 1, i, m, hl, hi, j, k, h1, h2, hk => by
    unfold fin2
    rcases Nat.eq_or_lt_of_le h1 with he | he
    · subst he
      rw [fin2_other n (i + 1) _ (fun j' k' a b c hh => by have := (hi j' k' i k (by omega) (by omega) c (Nat.le_refl _) (by omega) hk hh).1; omega)]
      exact fin1_at C 0 m (fun k' _ b => hl i k' (Nat.le_refl _) (by omega) (by omega)) (fun k1 k2 _ b _ b' hh => (hi i k1 i k2 (Nat.le_refl _) (by omega) (by omega) (Nat.le_refl _) (by omega) (by omega) hh).2) k (Nat.zero_le _) (by omega)
    · exact fin2_at n (i + 1) _ (fun j k a b c => by rw [fin1_len]; exact hl j k (by omega) (by omega) c) (fun j k j' k' a b c a' b' c' => hi j k j' k' (by omega) (by omega) c (by omega) (by omega) c') j k (by omega) (by omega) hk
end Go.Proofs.YthchhkghjfendabGreat.Dx

namespace Go.Proofs.YthchhkghjfendabGreat.Dx
open Go

def tpG (x : List Nat) (c : Nat) (i k : Nat) : Nat := el x (ps k c i)
/-- A matrix turned. -/
def tpV (r c : Nat) (x : List Nat) : List Nat := matL (tpG x c) c r
section
variable {r c : Nat} {x : List Nat} (h : Mx r c x)
include h
theorem tpV_mx : Mx c r (tpV r c x) := matL_mx h.hc h.hr fun i k _ _ => h.w.el _
theorem tp_ok : val 255 [Vi r, Vi c, Vl x] = some [Vi c, Vi r, Vl (tpV r c x), Vi 0] := by
  refine val_of tab255 ?_
  have h1 := check_ok r c x
  rw [if_pos (mx_right h)] at h1
  have h2 := mof_ok (f := 256) (r := c) (c := r) (caps := [.a [Vi r, Vi c, Vl x]]) (g := tpG x c) h.hc h.hr fun i k hi hk => by
    refine val_of tab256 ?_
    have hg := get_ok h hk hi
    have e0 : (U.fld 1).den (PV.a [Vi r, Vi c, Vl x]) = Vi c := rfl
    have e2 : (U.fld 2).den (PV.a [Vi r, Vi c, Vl x]) = Vl x := rfl
    simp [tr256, TT.dv, e0, e2, hg, tpG]
  have e1 : B.cons.den (U.toA.den (B.cons.den (Vi r) (B.cons.den (Vi c) (B.cons.den (Vl x) (Vl []))))) (Vl []) = .l [.a [Vi r, Vi c, Vl x]] := rfl
  simp [tr255, TT.dv, h1, e1, mkfn_l, h2, tpV]
theorem tp9_inner {i : Nat} (hi : i < r) {x3 x4 x5 x7 x8 x9 : PV} : ∀ (n : Nat) {k : Nat} {m : List Nat}, k + n = c → Mx c r m →
    rounds (fun vs => lo175_2.dv (Vi r :: Vi c :: Vl x :: x3 :: x4 :: x5 :: Vi i :: x7 :: x8 :: x9 :: vs)) [Vi k, Vi c, Vi r, Vl m] = some (.y (.ext 2) [Vi c, Vi r, Vl (fin1 (fun k => ps k r i) (fun k => el x (ps i c k)) n k m)]) := by
  intro n
  induction n with
  | zero =>
    intro k m hk hm
    have : k = c := by omega
    subst this
    refine rounds_exit ?_ (by simp)
    simp [lo175_2, TT.dv, fin1]
  | succ n ih =>
    intro k m hk hm
    refine Eq.trans (rounds_cont ?_) (ih (k := k + 1) (by omega) (hm.set (p := ps k r i) (h.w.el (ps i c k))))
    have h1 := h.hc
    have e1 : (B.add .i64).den (Vi k) (Vi 1) = Vi (k + 1) := add_i (by omega) (by omega)
    have a1 := at_ok h hi (show k < c by omega)
    have w1 := with_ok hm (i := k) (k := i) (b := el x (ps i c k)) (by omega) hi
    simp [lo175_2, TT.dv, show k < c by omega, e1, a1, w1]
theorem tp9_outer {x3 x4 x5 : PV} : ∀ (n : Nat) {i : Nat} {m : List Nat}, i + n = r → Mx c r m →
    rounds (fun vs => lo175_1.dv (Vi r :: Vi c :: Vl x :: x3 :: x4 :: x5 :: vs)) [Vi i, Vi c, Vi r, Vl m] = some (.y (.ext 0) [Vi c, Vi r, Vl (fin2 (fun i k => ps k r i) (fun i k => el x (ps i c k)) c n i m)]) := by
  intro n
  induction n with
  | zero =>
    intro i m hi hm
    have : i = r := by omega
    subst this
    refine rounds_exit ?_ (by simp)
    simp [lo175_1, TT.dv, fin2]
  | succ n ih =>
    intro i m hi hm
    have h1 := h.hr
    have hin := tp9_inner h (i := i) (by omega) (x3 := x3) (x4 := x4) (x5 := x5) (x7 := Vi c) (x8 := Vi r) (x9 := Vl m) c (k := 0) (m := m) (by omega) hm
    rw [show ((0 : Nat) : Int) = 0 from rfl] at hin
    have hm' : Mx c r (fin1 (fun k => ps k r i) (fun k => el x (ps i c k)) c 0 m) := by
      have key : ∀ (n k : Nat) (m : List Nat), Mx c r m → Mx c r (fin1 (fun k => ps k r i) (fun k => el x (ps i c k)) n k m) := by
        intro n
        induction n with
        | zero => intro k m hm; exact hm
        | succ n ih => intro k m hm; exact ih _ _ (hm.set (h.w.el _))
      exact key c 0 m hm
    refine Eq.trans (rounds_cont ?_) (ih (i := i + 1) (by omega) hm')
    have e1 : (B.add .i64).den (Vi i) (Vi 1) = Vi (i + 1) := add_i (by omega) (by omega)
    simp [lo175_1, TT.dv, KS.dv, show i < r by omega, hin, e1]
theorem tp9_ok : val 175 [Vi r, Vi c, Vl x] = some [Vi c, Vi r, Vl (tpV r c x)] := by
  refine val_of tab175 ?_
  have hz := zeros_ok h.hc h.hr
  have hlp := tp9_outer h (x3 := Vi c) (x4 := Vi r) (x5 := Vl (List.replicate (c * r) 0)) r (i := 0) (by omega) (zeros_mx h.hc h.hr)
  rw [show ((0 : Nat) : Int) = 0 from rfl] at hlp
  have he : fin2 (fun i k => ps k r i) (fun i k => el x (ps i c k)) c r 0 (List.replicate (c * r) 0) = tpV r c x := by
    refine mat_ext (r := c) (c := r) (by rw [fin2_len]; simp) (matL_len _ _ _) fun i k hi hk => ?_
    unfold tpV
    rw [el_matL _ hi hk]
    exact fin2_at (pos := fun i k => ps k r i) (v := fun i k => el x (ps i c k)) r 0 _ (fun j k _ h2 h3 => by rw [List.length_replicate]; exact ps_lt h3 (by omega))
      (fun j k j' k' _ a b _ a' b' hh => by have := ps_inj (by omega) (by omega) hh; exact ⟨this.2, this.1⟩) k i (Nat.zero_le _) (by omega) hi
  rw [he] at hlp
  simp [tr175, TT.dv, KS.dv, hz, hlp]
end

def rowR (x : List Nat) (cc i k C S : Nat) : Nat → Nat → List Nat → List Nat
  | 0, _, m => m
  | n + 1, j, m => rowR x cc i k C S n (j + 1) ((m.set (ps i cc j) (addV (mulV C (el x (ps i cc j))) (mulV S (el x (ps k cc j))))).set (ps k cc j) (subV (mulV C (el x (ps k cc j))) (mulV S (el x (ps i cc j)))))
def rowV (x : List Nat) (cc i k C S : Nat) : List Nat := rowR x cc i k C S cc 0 x
theorem rowR_mx {x : List Nat} {r c i k C S : Nat} : ∀ (n j : Nat) {m : List Nat}, Mx r c m → Mx r c (rowR x c i k C S n j m)
  | 0, _, _, h => h
  | n + 1, j, m, h => rowR_mx n (j + 1) ((h.set (addV_lt mulV_lt mulV_lt)).set (subV_lt mulV_lt mulV_lt))
section
variable {r c : Nat} {x : List Nat} (h : Mx r c x) {C S : Nat} (hC : C < 18446744073709551616) (hS : S < 18446744073709551616) {i k : Nat} (hi : i < r) (hk : k < r)
include h hC hS hi hk
theorem rows_loop {x7 : PV} : ∀ (n : Nat) {j : Nat} {m : List Nat}, j + n = c → Mx r c m →
    rounds (fun vs => lo231_1.dv (Vi r :: Vi c :: Vl x :: Vi i :: Vi k :: Vu C :: Vu S :: x7 :: vs)) [Vi j, Vl m] = some (.y (.ext 0) [Vl (rowR x c i k C S n j m)]) := by
  intro n
  induction n with
  | zero =>
    intro j m hj hm
    have : j = c := by omega
    subst this
    refine rounds_exit ?_ (by simp)
    simp [lo231_1, TT.dv, rowR]
  | succ n ih =>
    intro j m hj hm
    have hjc : j < c := by omega
    have h1 := h.hc
    have h2 := h.hr
    have hm2 := (hm.set (p := ps i c j) (addV_lt (mulV_lt (a := C) (b := el x (ps i c j))) (mulV_lt (a := S) (b := el x (ps k c j)))))
    refine Eq.trans (rounds_cont ?_) (ih (j := j + 1) (by omega) (hm2.set (p := ps k c j) (subV_lt (mulV_lt (a := C) (b := el x (ps k c j))) (mulV_lt (a := S) (b := el x (ps i c j))))))
    have e1 : (B.add .i64).den (Vi j) (Vi 1) = Vi (j + 1) := add_i (by omega) (by omega)
    have p1 := pos_i (i := i) (c := c) (k := j) (by omega) (by omega) (by omega)
    have p2 := pos_i (i := k) (c := c) (k := j) (by omega) (by omega) (by omega)
    have l1 := h.lt hi hjc
    have l2 := h.lt hk hjc
    have l3 := hm.lt hi hjc
    have l4 := hm.lt hk hjc
    have g1 := get_V l1
    have g2 := get_V l2
    have m1 := vmul_ok hC (h.w.el (ps i c j))
    have m2 := vmul_ok hS (h.w.el (ps k c j))
    have m3 := vmul_ok hC (h.w.el (ps k c j))
    have m4 := vmul_ok hS (h.w.el (ps i c j))
    have a1 := vadd_ok (mulV_lt (a := C) (b := el x (ps i c j))) (mulV_lt (a := S) (b := el x (ps k c j)))
    have a2 := vsub_ok (mulV_lt (a := C) (b := el x (ps k c j))) (mulV_lt (a := S) (b := el x (ps i c j)))
    simp [lo231_1, TT.dv, hjc, e1, p1, p2, l1, l2, l3, l4, g1, g2, m1, m2, m3, m4, a1, a2, set_V]
theorem rows_ok (hne : i ≠ k) : val 231 [Vi r, Vi c, Vl x, Vi i, Vi k, Vu C, Vu S] = some [Vi r, Vi c, Vl (rowV x c i k C S), Vi 0] := by
  refine val_of tab231 ?_
  have h1 := check_ok r c x
  rw [if_pos (mx_right h)] at h1
  have hs := h.small
  have hlp := rows_loop h hC hS hi hk (x7 := Vi 0) c (j := 0) (m := x) (by omega) h
  rw [show ((0 : Nat) : Int) = 0 from rfl] at hlp
  have e1 : B.copy.den (B.rep.den (Vi x.length) (Vu 0)) (Vl x) = Vl x := by
    rw [rep_V]
    show PV.l ((x.map Vu).take ((List.replicate x.length 0).map Vu).length ++ ((List.replicate x.length 0).map Vu).drop (x.map Vu).length) = _
    simp [Vl, List.take_of_length_le]
  have hne' : ¬ (i : Int) = k := by omega
  simp [tr231, TT.dv, KS.dv, h1, show ¬ (i : Int) < 0 by omega, show ¬ (k : Int) < 0 by omega, show ¬ r ≤ i by omega, show ¬ r ≤ k by omega, hne', show (x.length : Int) ≤ 17592186044416 by omega, e1, hlp, rowV]
theorem rows9_loop : ∀ (n : Nat) {j : Nat} {m : List Nat}, j + n = c → Mx r c m →
    rounds (fun vs => lo188_1.dv (Vi r :: Vi c :: Vl x :: Vi i :: Vi k :: Vu C :: Vu S :: vs)) [Vi j, Vi r, Vi c, Vl m] = some (.y (.ext 0) [Vi r, Vi c, Vl (rowR x c i k C S n j m)]) := by
  intro n
  induction n with
  | zero =>
    intro j m hj hm
    have : j = c := by omega
    subst this
    refine rounds_exit ?_ (by simp)
    simp [lo188_1, TT.dv, rowR]
  | succ n ih =>
    intro j m hj hm
    have hjc : j < c := by omega
    have h1 := h.hc
    have hm2 := (hm.set (p := ps i c j) (addV_lt (mulV_lt (a := C) (b := el x (ps i c j))) (mulV_lt (a := S) (b := el x (ps k c j)))))
    refine Eq.trans (rounds_cont ?_) (ih (j := j + 1) (by omega) (hm2.set (p := ps k c j) (subV_lt (mulV_lt (a := C) (b := el x (ps k c j))) (mulV_lt (a := S) (b := el x (ps i c j))))))
    have e1 : (B.add .i64).den (Vi j) (Vi 1) = Vi (j + 1) := add_i (by omega) (by omega)
    have g1 := at_ok h hi hjc
    have g2 := at_ok h hk hjc
    have m1 := mul9_ok hC (h.w.el (ps i c j))
    have m2 := mul9_ok hS (h.w.el (ps k c j))
    have m3 := mul9_ok hC (h.w.el (ps k c j))
    have m4 := mul9_ok hS (h.w.el (ps i c j))
    have a1 := add9_ok (mulV_lt (a := C) (b := el x (ps i c j))) (mulV_lt (a := S) (b := el x (ps k c j)))
    have a2 := sub9_ok (mulV_lt (a := C) (b := el x (ps k c j))) (mulV_lt (a := S) (b := el x (ps i c j)))
    have w1 := with_ok hm (i := i) (k := j) (b := addV (mulV C (el x (ps i c j))) (mulV S (el x (ps k c j)))) hi hjc
    have w2 := with_ok hm2 (i := k) (k := j) (b := subV (mulV C (el x (ps k c j))) (mulV S (el x (ps i c j)))) hk hjc
    simp [lo188_1, TT.dv, hjc, e1, g1, g2, m1, m2, m3, m4, a1, a2, w1, w2]
theorem rows9_ok : val 188 [Vi r, Vi c, Vl x, Vi i, Vi k, Vu C, Vu S] = some [Vi r, Vi c, Vl (rowV x c i k C S)] := by
  refine val_of tab188 ?_
  have hlp := rows9_loop h hC hS hi hk c (j := 0) (m := x) (by omega) h
  rw [show ((0 : Nat) : Int) = 0 from rfl] at hlp
  simp [tr188, TT.dv, KS.dv, hlp, rowV]
theorem rowV_mx : Mx r c (rowV x c i k C S) := rowR_mx c 0 h
end
/-- Two columns turned. -/
def colV (r c : Nat) (x : List Nat) (i k C S : Nat) : List Nat := tpV c r (rowV (tpV r c x) r i k C S)
section
variable {r c : Nat} {x : List Nat} (h : Mx r c x) {C S : Nat} (hC : C < 18446744073709551616) (hS : S < 18446744073709551616) {i k : Nat} (hi : i < c) (hk : k < c)
include h hC hS hi hk
theorem cols_ok (hne : i ≠ k) : val 230 [Vi r, Vi c, Vl x, Vi i, Vi k, Vu C, Vu S] = some [Vi r, Vi c, Vl (colV r c x i k C S), Vi 0] := by
  refine val_of tab230 ?_
  have h1 := tp_ok h
  have h2 := rows_ok (tpV_mx h) hC hS hi hk hne
  have h3 := tp_ok (rowV_mx (tpV_mx h) hC hS hi hk)
  simp [tr230, TT.dv, h1, h2, h3, colV]
theorem cols9_ok : val 187 [Vi r, Vi c, Vl x, Vi i, Vi k, Vu C, Vu S] = some [Vi r, Vi c, Vl (colV r c x i k C S)] := by
  refine val_of tab187 ?_
  have h1 := tp9_ok h
  have h2 := rows9_ok (tpV_mx h) hC hS hi hk
  have h3 := tp9_ok (rowV_mx (tpV_mx h) hC hS hi hk)
  simp [tr187, TT.dv, h1, h2, h3, colV]
theorem colV_mx : Mx r c (colV r c x i k C S) := tpV_mx (rowV_mx (tpV_mx h) hC hS hi hk)
end
end Go.Proofs.YthchhkghjfendabGreat.Dx

namespace Go.Proofs.YthchhkghjfendabGreat.Dx
open Go

theorem st_call {g : Exp} {f : Nat} {xs : List Exp} {n : Nat} {t : TT Unit} {ρ rs : List PV} (hg : g.isTrue ρ = true) (hv : val f (xs.map (Exp.den ρ)) = some rs) (hl : rs.length = n) : (TT.call g f xs n t).dv ρ = t.dv (ρ ++ rs) := by
  simp only [TT.dv, hg, hv, hl, if_true]
theorem st_skip {g : Exp} {f : Nat} {xs : List Exp} {n : Nat} {t : TT Unit} {ρ : List PV} (hg : g.isTrue ρ = false) : (TT.call g f xs n t).dv ρ = t.dv (ρ ++ List.replicate n default) := by
  simp only [TT.dv, hg, Bool.false_eq_true, if_false]
theorem st_t {c : Exp} {a b : TT Unit} {ρ : List PV} (hc : c.isTrue ρ = true) : (TT.ite c a b).dv ρ = a.dv ρ := by simp only [TT.dv, hc, if_true]
theorem st_f {c : Exp} {a b : TT Unit} {ρ : List PV} (hc : c.isTrue ρ = false) : (TT.ite c a b).dv ρ = b.dv ρ := by simp only [TT.dv, hc, Bool.false_eq_true, if_false]
theorem st_loop {init : List Exp} {t : TT Unit} {ks : KS Unit} {ρ vs : List PV} {x : Ex} (h : rounds (fun vs => t.dv (ρ ++ vs)) (init.map (Exp.den ρ)) = some (.y x vs)) : (TT.loop init t ks).dv ρ = ks.dv x vs ρ := by
  simp only [TT.dv, h]
theorem st_scope {t : TT Unit} {ks : KS Unit} {ρ vs : List PV} {x : Ex} (h : t.dv ρ = some (.y x vs)) : (TT.scope t ks).dv ρ = ks.dv x vs ρ := by
  simp only [TT.dv, h]
theorem st_hit {t : TT Unit} {ks : KS Unit} {ρ vs : List PV} {x : Ex} : (KS.cons x t ks).dv x vs ρ = t.dv (ρ ++ vs) := by
  simp only [KS.dv, if_true]
theorem st_miss {t : TT Unit} {ks : KS Unit} {ρ vs : List PV} {x y : Ex} (h : (x = y) = False) : (KS.cons x t ks).dv y vs ρ = ks.dv y vs ρ := by
  simp only [KS.dv, h, if_false]
/-- A loop that turns all bits of a row. -/
def cplT (p e : Nat) : TT Unit := .ite (.bi .lt (.var p) (.un .len (.var (p + 1)))) (.assert (.bi .le (.int .i64 0) (.var p)) (.assert (.bi .lt (.var p) (.un .len (.var (p + 1)))) (.assert (.bi .le (.int .i64 0) (.var p)) (.assert (.bi .lt (.var p) (.un .len (.var (p + 1)))) (.yield .cont [(.bi (.add .i64) (.var p) (.int .i64 1)), (.tri .set (.var (p + 1)) (.var p) (.un (.cpl .u64) (.bi .get (.var (p + 1)) (.var p))))]))))) (.yield (.ext e) [])
theorem cpl_any {e : Nat} {ρ : List PV} : ∀ (n : Nat) {i : Nat} {y : List Nat}, Words y → y.length < 9000000000000000000 → i + n = y.length →
    rounds (fun vs => (cplT ρ.length e).dv (ρ ++ vs)) [Vi i, Vl y] = some (.y (.ext e) []) := by
  intro n
  induction n with
  | zero =>
    intro i y hy hl hi
    refine rounds_exit ?_ (by simp)
    simp [cplT, TT.dv, show ¬ i < y.length by omega]
  | succ n ih =>
    intro i y hy hl hi
    have e1 : (B.add .i64).den (Vi i) (Vi 1) = Vi (i + 1) := add_i (by omega) (by omega)
    have g1 := get_V (x := y) (i := i) (by omega)
    obtain ⟨c1, c2⟩ := cpl_u (hy.el i)
    refine Eq.trans (rounds_cont ?_) (ih (i := i + 1) (hy.set (i := i) c2) (by simpa using hl) (by rw [List.length_set]; omega))
    simp [cplT, TT.dv, show i < y.length by omega, e1, g1, c1, set_V]
theorem cpl_at {e p : Nat} {x : List Nat} (hw : Words x) (hl : x.length ≤ 17592186043904) : ∀ ρ : List PV, ρ.length = p → rounds (fun vs => (cplT p e).dv (ρ ++ vs)) [Vi 0, Vl x] = some (.y (.ext e) []) := by
  intro ρ hp
  subst hp
  exact cpl_any x.length (i := 0) hw (by omega) (by omega)

def colG (x : List Nat) (c k from_ : Nat) (j : Nat) : Nat := el x (ps (from_ + j) c k)
/-- A column from a row on. -/
def colL (r c : Nat) (x : List Nat) (k from_ : Nat) : List Nat := mk (colG x c k from_) (r - from_)
theorem colL_words {r c : Nat} {x : List Nat} (h : Mx r c x) (k from_ : Nat) : Words (colL r c x k from_) := mk_words fun _ _ => h.w.el _
@[simp] theorem colL_len (r c : Nat) (x : List Nat) (k from_ : Nat) : (colL r c x k from_).length = r - from_ := mk_len _ _
section
variable {r c : Nat} {x : List Nat} (h : Mx r c x) {k f : Nat} (hk : k < c) (hf : f ≤ r)
include h hk hf
theorem column_ok : val 247 [Vi r, Vi c, Vl x, Vi k, Vi f] = some [Vl (colL r c x k f)] := by
  have hr := h.hr
  have lp : ∀ (n : Nat) {j : Nat}, j + n = r - f →
      rounds (fun vs => lo247_1.dv (Vi r :: Vi c :: Vl x :: Vi k :: Vi f :: vs)) [Vi ((f + j : Nat) : Int), Vl (mk (colG x c k f) j)] = some (.y (.ext 0) [Vl (colL r c x k f)]) := by
    intro n
    induction n with
    | zero =>
      intro j hj
      have : j = r - f := by omega
      subst this
      refine rounds_exit ?_ (by simp)
      have e : ¬ (((f + (r - f) : Nat) : Int) < (r : Int)) := by omega
      generalize ((f + (r - f) : Nat) : Int) = z at *
      simp [lo247_1, TT.dv, e, colL]
    | succ n ih =>
      intro j hj
      refine Eq.trans (rounds_cont ?_) (ih (j := j + 1) (by omega))
      have e1 : (B.add .i64).den (Vi ((f + j : Nat) : Int)) (Vi 1) = Vi ((f + (j + 1) : Nat) : Int) := by rw [add_i (by omega) (by omega)]; exact congrArg Vi (by omega)
      have g1 := get_ok h (i := f + j) (k := k) (by omega) hk
      have a1 := app_V (mk (colG x c k f) j) (colG x c k f j)
      rw [mk_succ] at a1
      have e2 : ((f + j : Nat) : Int) < (r : Int) := by omega
      have e3 : ((j : Int) + 1) ≤ 17592186044416 := by omega
      unfold colG at a1 ⊢
      generalize ((f + j : Nat) : Int) = z at *
      generalize ((f + (j + 1) : Nat) : Int) = z' at *
      simp [lo247_1, TT.dv, e1, e2, g1, a1, e3]
  refine val_of tab247 ?_
  have h0 := lp (r - f) (j := 0) (by omega)
  rw [Nat.add_zero, show mk (colG x c k f) 0 = [] from rfl] at h0
  simp [tr247, TT.dv, KS.dv, h0]
theorem column9_ok : val 167 [Vi r, Vi c, Vl x, Vi k, Vi f] = some [Vl (colL r c x k f)] := by
  have hr := h.hr
  have lp : ∀ (n : Nat) {j : Nat}, j + n = r - f →
      rounds (fun vs => lo167_1.dv (Vi r :: Vi c :: Vl x :: Vi k :: Vi f :: vs)) [Vi ((f + j : Nat) : Int), Vl (mk (colG x c k f) j)] = some (.y (.ext 0) [Vl (colL r c x k f)]) := by
    intro n
    induction n with
    | zero =>
      intro j hj
      have : j = r - f := by omega
      subst this
      refine rounds_exit ?_ (by simp)
      have e : ¬ (((f + (r - f) : Nat) : Int) < (r : Int)) := by omega
      generalize ((f + (r - f) : Nat) : Int) = z at *
      simp [lo167_1, TT.dv, e, colL]
    | succ n ih =>
      intro j hj
      refine Eq.trans (rounds_cont ?_) (ih (j := j + 1) (by omega))
      have e1 : (B.add .i64).den (Vi ((f + j : Nat) : Int)) (Vi 1) = Vi ((f + (j + 1) : Nat) : Int) := by rw [add_i (by omega) (by omega)]; exact congrArg Vi (by omega)
      have g1 := at_ok h (i := f + j) (k := k) (by omega) hk
      have a1 := app_V (mk (colG x c k f) j) (colG x c k f j)
      rw [mk_succ] at a1
      have e2 : ((f + j : Nat) : Int) < (r : Int) := by omega
      have e3 : ((j : Int) + 1) ≤ 17592186044416 := by omega
      unfold colG at a1 ⊢
      generalize ((f + j : Nat) : Int) = z at *
      generalize ((f + (j + 1) : Nat) : Int) = z' at *
      simp [lo167_1, TT.dv, e1, e2, g1, a1, e3]
  refine val_of tab167 ?_
  have h0 := lp (r - f) (j := 0) (by omega)
  rw [Nat.add_zero, show mk (colG x c k f) 0 = [] from rfl] at h0
  simp [tr167, TT.dv, KS.dv, h0]
end
theorem take_V (x : List Nat) (n : Nat) : B.take.den (Vl x) (Vi n) = Vl (x.take n) := by
  rw [Vl, take_l _ rfl, Vl, List.map_take]
theorem el_take {x : List Nat} {n j : Nat} (h : j < n) : el (x.take n) j = el x j := by
  unfold el
  rw [List.getD_eq_getElem?_getD, List.getD_eq_getElem?_getD, List.getElem?_take, if_pos h]
theorem Words.take {x : List Nat} (h : Words x) (n : Nat) : Words (x.take n) := fun a ha => h a (List.mem_of_mem_take ha)
def apI (cl v : List Nat) (t i c cc : Nat) : Nat → Nat → List Nat → List Nat
  | 0, _, m => m
  | n + 1, j, m => apI cl v t i c cc n (j + 1) (m.set (ps (i + j) c cc) (subV (el cl j) (mulV t (el v j))))
def apT (r c : Nat) (x v : List Nat) (tau i cc : Nat) : Nat := mulV tau (dotV v ((colL r c x cc i).take v.length))
def apO (r c : Nat) (x v : List Nat) (tau i : Nat) : Nat → Nat → List Nat → List Nat
  | 0, _, m => m
  | n + 1, cc, m => apO r c x v tau i n (cc + 1) (apI (colL r c x cc i) v (apT r c x v tau i cc) i c cc v.length 0 m)
def apV (r c : Nat) (x : List Nat) (i k : Nat) (v : List Nat) (tau : Nat) : List Nat := apO r c x v tau i (c - k) k x
theorem apI_mx {r c : Nat} {cl v : List Nat} {t i cc : Nat} (hc : Words cl) : ∀ (n j : Nat) {m : List Nat}, Mx r c m → Mx r c (apI cl v t i c cc n j m)
  | 0, _, _, h => h
  | n + 1, j, m, h => apI_mx hc n (j + 1) (h.set (subV_lt (hc.el j) mulV_lt))
theorem apO_mx {r c : Nat} {x v : List Nat} {tau i : Nat} (hx : Mx r c x) : ∀ (n cc : Nat) {m : List Nat}, Mx r c m → Mx r c (apO r c x v tau i n cc m)
  | 0, _, _, h => h
  | n + 1, cc, m, h => apO_mx hx n (cc + 1) (apI_mx (colL_words hx cc i) _ _ h)
section
variable {r c : Nat} {x : List Nat} (h : Mx r c x) {v : List Nat} (hv : Words v) {tau : Nat} (ht : tau < 18446744073709551616) {i : Nat} (hi : i + v.length ≤ r)
include h hv ht hi
theorem ap_inner {cc : Nat} (hcc : cc < c) {x3 x4 x7 x9 x11 x12 : PV} {t : Nat} (htt : t < 18446744073709551616) : ∀ (n : Nat) {j : Nat} {m : List Nat}, j + n = v.length → Mx r c m →
    rounds (fun vs => lo238_2.dv (Vi r :: Vi c :: Vl x :: Vi i :: x4 :: Vl v :: Vu tau :: x7 :: Vi cc :: x9 :: Vl (colL r c x cc i) :: x11 :: x12 :: Vu t :: vs)) [Vi j, Vl m] = some (.y (.ext 2) [Vl (apI (colL r c x cc i) v t i c cc n j m)]) := by
  intro n
  have hr := h.hr
  have hc := h.hc
  have htl : ((colL r c x cc i).take v.length).length = v.length := by rw [List.length_take, colL_len]; omega
  induction n with
  | zero =>
    intro j m hj hm
    have : j = v.length := by omega
    subst this
    refine rounds_exit ?_ (by simp)
    simp [lo238_2, TT.dv, take_V, htl, apI]
  | succ n ih =>
    intro j m hj hm
    have hjl : j < v.length := by omega
    refine Eq.trans (rounds_cont ?_) (ih (j := j + 1) (by omega) (hm.set (subV_lt ((colL_words h cc i).el j) (mulV_lt (a := t) (b := el v j)))))
    have e1 : (B.add .i64).den (Vi j) (Vi 1) = Vi (j + 1) := add_i (by omega) (by omega)
    have e2 : (B.add .i64).den (Vi i) (Vi j) = Vi ((i + j : Nat) : Int) := by rw [add_i (by omega) (by omega)]; exact congrArg Vi (by omega)
    have p1 := pos_i (i := i + j) (c := c) (k := cc) (by omega) (by omega) (by omega)
    have l1 := hm.lt (show i + j < r by omega) hcc
    have g1 := get_V (x := v) hjl
    have g2 := get_V (x := (colL r c x cc i).take v.length) (i := j) (by rw [htl]; exact hjl)
    rw [el_take hjl] at g2
    have m1 := vmul_ok htt (hv.el j)
    have s1 := vsub_ok ((colL_words h cc i).el j) (mulV_lt (a := t) (b := el v j))
    generalize ((i + j : Nat) : Int) = z at *
    simp [lo238_2, TT.dv, take_V, htl, hjl, e1, e2, p1, l1, g1, g2, m1, s1, set_V]
theorem ap_outer {k : Nat} {x7 : PV} : ∀ (n : Nat) {cc : Nat} {m : List Nat}, cc + n = c → Mx r c m →
    rounds (fun vs => lo238_1.dv (Vi r :: Vi c :: Vl x :: Vi i :: Vi k :: Vl v :: Vu tau :: x7 :: vs)) [Vi cc, Vl m] = some (.y (.ext 0) [Vl (apO r c x v tau i n cc m)]) := by
  intro n
  have hr := h.hr
  have hc := h.hc
  induction n with
  | zero =>
    intro cc m hcc hm
    have : cc = c := by omega
    subst this
    refine rounds_exit ?_ (by simp)
    simp [lo238_1, TT.dv, apO]
  | succ n ih =>
    intro cc m hcc hm
    have hlt : cc < c := by omega
    have hcl := colL_words h cc i
    refine Eq.trans (rounds_cont ?_) (ih (cc := cc + 1) (by omega) (apI_mx (v := v) (t := apT r c x v tau i cc) (i := i) (cc := cc) hcl v.length 0 hm))
    have e1 : (B.add .i64).den (Vi cc) (Vi 1) = Vi (cc + 1) := add_i (by omega) (by omega)
    have c1 := column_ok h hlt (show i ≤ r by omega)
    have htl : ((colL r c x cc i).take v.length).length = v.length := by rw [List.length_take, colL_len]; omega
    have d1 := dot_ok hv (hcl.take v.length)
    rw [if_pos ⟨htl.symm, by omega⟩] at d1
    have m1 := vmul_ok ht (b := dotV v ((colL r c x cc i).take v.length)) (dotR_lt _ (by decide))
    have hin := fun x4 x7 x9 x11 x12 => ap_inner h hv ht hi hlt (x3 := x4) (x4 := x4) (x7 := x7) (x9 := x9) (x11 := x11) (x12 := x12) (t := apT r c x v tau i cc) mulV_lt v.length (j := 0) (by omega) hm
    simp only [show ((0 : Nat) : Int) = 0 from rfl] at hin
    rw [show mulV tau (dotV v ((colL r c x cc i).take v.length)) = apT r c x v tau i cc from rfl] at m1
    have hle : v.length ≤ r - i := by omega
    simp [lo238_1, TT.dv, KS.dv, hlt, e1, c1, take_V, d1, m1, hin, hle]
theorem ap9_inner {cc : Nat} (hcc : cc < c) {x4 x8 x9 x10 x12 : PV} {t : Nat} (htt : t < 18446744073709551616) : ∀ (n : Nat) {j : Nat} {m : List Nat}, j + n = v.length → Mx r c m →
    rounds (fun vs => lo190_2.dv (Vi r :: Vi c :: Vl x :: Vi i :: x4 :: Vl v :: Vu tau :: Vi cc :: x8 :: x9 :: x10 :: Vl (colL r c x cc i) :: x12 :: Vu t :: vs)) [Vi j, Vi r, Vi c, Vl m] = some (.y (.ext 2) [Vi r, Vi c, Vl (apI (colL r c x cc i) v t i c cc n j m)]) := by
  intro n
  have hr := h.hr
  have hc := h.hc
  induction n with
  | zero =>
    intro j m hj hm
    have : j = v.length := by omega
    subst this
    refine rounds_exit ?_ (by simp)
    simp [lo190_2, TT.dv, apI]
  | succ n ih =>
    intro j m hj hm
    have hjl : j < v.length := by omega
    refine Eq.trans (rounds_cont ?_) (ih (j := j + 1) (by omega) (hm.set (subV_lt ((colL_words h cc i).el j) (mulV_lt (a := t) (b := el v j)))))
    have e1 : (B.add .i64).den (Vi j) (Vi 1) = Vi (j + 1) := add_i (by omega) (by omega)
    have e2 : (B.add .i64).den (Vi i) (Vi j) = Vi ((i + j : Nat) : Int) := by rw [add_i (by omega) (by omega)]; exact congrArg Vi (by omega)
    have hl2 : j < r - i := by omega
    have g1 := get_V (x := v) hjl
    have g2 := get_V (x := colL r c x cc i) (i := j) (by rw [colL_len]; exact hl2)
    have m1 := mul9_ok htt (hv.el j)
    have s1 := sub9_ok ((colL_words h cc i).el j) (mulV_lt (a := t) (b := el v j))
    have w1 := with_ok hm (i := i + j) (k := cc) (b := subV (el (colL r c x cc i) j) (mulV t (el v j))) (by omega) hcc
    generalize ((i + j : Nat) : Int) = z at *
    simp [lo190_2, TT.dv, hjl, hl2, e1, e2, g1, g2, m1, s1, w1]
theorem ap9_outer {k : Nat} : ∀ (n : Nat) {cc : Nat} {m : List Nat}, cc + n = c → Mx r c m →
    rounds (fun vs => lo190_1.dv (Vi r :: Vi c :: Vl x :: Vi i :: Vi k :: Vl v :: Vu tau :: vs)) [Vi cc, Vi r, Vi c, Vl m] = some (.y (.ext 0) [Vi r, Vi c, Vl (apO r c x v tau i n cc m)]) := by
  intro n
  have hr := h.hr
  have hc := h.hc
  induction n with
  | zero =>
    intro cc m hcc hm
    have : cc = c := by omega
    subst this
    refine rounds_exit ?_ (by simp)
    simp [lo190_1, TT.dv, apO]
  | succ n ih =>
    intro cc m hcc hm
    have hlt : cc < c := by omega
    have hcl := colL_words h cc i
    refine Eq.trans (rounds_cont ?_) (ih (cc := cc + 1) (by omega) (apI_mx (v := v) (t := apT r c x v tau i cc) (i := i) (cc := cc) hcl v.length 0 hm))
    have e1 : (B.add .i64).den (Vi cc) (Vi 1) = Vi (cc + 1) := add_i (by omega) (by omega)
    have c1 := column9_ok h hlt (show i ≤ r by omega)
    have htl : ((colL r c x cc i).take v.length).length = v.length := by rw [List.length_take, colL_len]; omega
    have hlp := dot9_loop hv (hcl.take v.length) htl.symm (by omega) v.length (i := 0) (s := 0) (by omega) (by decide)
    rw [show ((0 : Nat) : Int) = 0 from rfl] at hlp
    have d1 : val 153 [Vl v, Vl ((colL r c x cc i).take v.length)] = some [Vu (dotV v ((colL r c x cc i).take v.length))] := by
      refine val_of tab153 ?_
      simp [tr153, TT.dv, KS.dv, hlp, dotV]
    have m1 := mul9_ok ht (b := dotV v ((colL r c x cc i).take v.length)) (dotR_lt _ (by decide))
    have hin := fun x4 x8 x9 x10 x12 => ap9_inner h hv ht hi hlt (x4 := x4) (x8 := x8) (x9 := x9) (x10 := x10) (x12 := x12) (t := apT r c x v tau i cc) mulV_lt v.length (j := 0) (by omega) hm
    simp only [show ((0 : Nat) : Int) = 0 from rfl] at hin
    rw [show mulV tau (dotV v ((colL r c x cc i).take v.length)) = apT r c x v tau i cc from rfl] at m1
    have hle : v.length ≤ r - i := by omega
    simp [lo190_1, TT.dv, KS.dv, hlt, e1, c1, take_V, d1, m1, hin, hle]
theorem apply_ok {k : Nat} (hk : k ≤ c) : val 238 [Vi r, Vi c, Vl x, Vi i, Vi k, Vl v, Vu tau] = some [Vi r, Vi c, Vl (apV r c x i k v tau), Vi 0] := by
  refine val_of tab238 ?_
  have hr := h.hr
  have hc := h.hc
  have h1 := check_ok r c x
  rw [if_pos (mx_right h)] at h1
  have hs := h.small
  have hlp := ap_outer h hv ht hi (k := k) (x7 := Vi 0) (c - k) (cc := k) (m := x) (by omega) h
  have e1 : (B.sub .i64).den (Vi r) (Vi v.length) = Vi ((r : Int) - v.length) := sub_i (by omega) (by omega)
  simp [tr238, TT.dv, KS.dv, h1, e1, show ¬ (i : Int) < 0 by omega, show ¬ r < v.length by omega, show ¬ ((r : Int) - v.length < i) by omega, show ¬ (k : Int) < 0 by omega, show ¬ c < k by omega, show (x.length : Int) ≤ 17592186044416 by omega, hlp, apV]
theorem apply9_ok {k : Nat} (hk : k ≤ c) : val 190 [Vi r, Vi c, Vl x, Vi i, Vi k, Vl v, Vu tau] = some [Vi r, Vi c, Vl (apV r c x i k v tau)] := by
  refine val_of tab190 ?_
  have hlp := ap9_outer h hv ht hi (k := k) (c - k) (cc := k) (m := x) (by omega) h
  simp [tr190, TT.dv, KS.dv, hlp, apV]
theorem apV_mx {k : Nat} : Mx r c (apV r c x i k v tau) := apO_mx h _ _ h
end
end Go.Proofs.YthchhkghjfendabGreat.Dx

namespace Go.Proofs.YthchhkghjfendabGreat.Dx
open Go

end Go.Proofs.YthchhkghjfendabGreat.Dx

namespace Go.Proofs.YthchhkghjfendabGreat.Dx
open Go

theorem normV_lt (x : List Nat) (hx : Words x) : normV x < 18446744073709551616 := by
  unfold normV
  split
  · have := bigV_lt x; omega
  · exact scaleV_lt (sqrtV_lt (sqrR_lt _ (by decide))) _
def nou (x : List Nat) : Nat → Nat → Bool
  | 0, _ => true
  | n + 1, i => decide (fKind (el x i) = 0) && nou x n (i + 1)
theorem el_drop (x : List Nat) (n i : Nat) : el (x.drop n) i = el x (n + i) := by
  unfold el; rw [List.getD_eq_getElem?_getD, List.getD_eq_getElem?_getD, List.getElem?_drop]
theorem nou_drop (x : List Nat) : ∀ (n i : Nat), nou (x.drop 1) n i = nou x n (i + 1)
  | 0, _ => rfl
  | n + 1, i => by unfold nou; rw [el_drop, Nat.add_comm 1 i, nou_drop x n (i + 1)]
theorem nou_loop {x : List Nat} {x1 : PV} (h64 : x.length < 9000000000000000000) : ∀ (n : Nat) {i : Nat}, i + n = x.length →
    rounds (fun vs => lo243_1.dv (Vl x :: vs)) [x1, Vi i] = some (if nou x n i then .y (.ext 0) [x1] else .y .ret []) := by
  intro n
  induction n with
  | zero =>
    intro i hi
    refine rounds_exit ?_ (by simp [nou])
    simp [lo243_1, TT.dv, show ¬ i < x.length by omega, nou]
  | succ n ih =>
    intro i hi
    have g1 := get_V (x := x) (i := i) (by omega)
    have k1 := kind_ok (el x i)
    unfold nou
    by_cases c : fKind (el x i) = 0
    · rw [decide_eq_true c, Bool.true_and]
      have e1 : (B.add .i64).den (Vi i) (Vi 1) = Vi (i + 1) := add_i (by omega) (by omega)
      refine Eq.trans (rounds_cont ?_) (ih (i := i + 1) (by omega))
      simp [lo243_1, TT.dv, show i < x.length by omega, g1, k1, c, e1]
    · rw [decide_eq_false c, Bool.false_and]
      refine rounds_exit ?_ (by simp)
      simp [lo243_1, TT.dv, show i < x.length by omega, g1, k1, c]
theorem nou9_loop {x : List Nat} {x1 : PV} (hx : Words x) (h64 : x.length < 9000000000000000000) : ∀ (n : Nat) {i : Nat}, i + n = x.length →
    rounds (fun vs => lo194_1.dv (Vl x :: vs)) [x1, Vi i] = some (if nou x n i then .y (.ext 0) [x1] else .y .ret []) := by
  intro n
  induction n with
  | zero =>
    intro i hi
    refine rounds_exit ?_ (by simp [nou])
    simp [lo194_1, TT.dv, show ¬ i < x.length by omega, nou]
  | succ n ih =>
    intro i hi
    have g1 := get_V (x := x) (i := i) (by omega)
    have k1 := kind4_ok (hx.el i)
    unfold nou
    by_cases c : fKind (el x i) = 0
    · rw [decide_eq_true c, Bool.true_and]
      have e1 : (B.add .i64).den (Vi i) (Vi 1) = Vi (i + 1) := add_i (by omega) (by omega)
      refine Eq.trans (rounds_cont ?_) (ih (i := i + 1) (by omega))
      simp [lo194_1, TT.dv, show i < x.length by omega, g1, k1, c, e1]
    · rw [decide_eq_false c, Bool.false_and]
      refine rounds_exit ?_ (by simp)
      simp [lo194_1, TT.dv, show i < x.length by omega, g1, k1, c]
def nouV (x : List Nat) : Bool := nou x (x.length - 1) 1
theorem drop_V (x : List Nat) (n : Nat) : B.drop.den (Vl x) (Vi n) = Vl (x.drop n) := by
  rw [Vl, drop_l _ rfl, Vl, List.map_drop]
theorem drop_V1 (x : List Nat) : B.drop.den (Vl x) (Vi 1) = Vl x.tail := by have := drop_V x 1; rwa [List.drop_one] at this
theorem noughts_ok {x : List Nat} (h1 : 1 ≤ x.length) (h64 : x.length < 9000000000000000000) : val 243 [Vl (x.drop 1)] = some [Vb (nouV x)] := by
  refine val_of tab243 ?_
  have h := nou_loop (x := x.drop 1) (x1 := Vb false) (by simp; omega) (x.length - 1) (i := 0) (by simp)
  rw [nou_drop, show ((0 : Nat) : Int) = 0 from rfl] at h
  unfold nouV
  rw [Nat.zero_add] at h
  cases hc : nou x (x.length - 1) 1 <;> rw [hc] at h <;> simp [tr243, TT.dv, KS.dv] <;> simp at h <;> simp [h, KS.dv]
theorem noughts9_ok {x : List Nat} (hx : Words x) (h1 : 1 ≤ x.length) (h64 : x.length < 9000000000000000000) : val 194 [Vl x] = some [Vb (nouV x)] := by
  refine val_of tab194 ?_
  have h := nou9_loop (x := x) (x1 := Vb false) hx h64 (x.length - 1) (i := 1) (by omega)
  rw [show ((1 : Nat) : Int) = 1 from rfl] at h
  unfold nouV
  cases hc : nou x (x.length - 1) 1 <;> rw [hc] at h <;> simp [tr194, TT.dv, KS.dv, h]
/-- The place of the first number that is no nought. -/
def leadI (x : List Nat) : Nat → Nat → Option Nat
  | 0, _ => none
  | n + 1, i => if fKind (el x i) ≠ 0 then some i else leadI x n (i + 1)
theorem leadI_lt {x : List Nat} : ∀ {n i j : Nat}, leadI x n i = some j → j < i + n
  | 0, _, _, h => by simp [leadI] at h
  | n + 1, i, j, h => by
    unfold leadI at h
    split at h
    · simp at h; omega
    · have := leadI_lt h; omega
theorem nou_lead {x : List Nat} : ∀ {n i : Nat}, nou x n i = false → ∃ j, leadI x n i = some j
  | 0, _, h => by simp [nou] at h
  | n + 1, i, h => by
    unfold nou at h
    unfold leadI
    by_cases c : fKind (el x i) = 0
    · rw [decide_eq_true c, Bool.true_and] at h
      rw [if_neg (by simp [c])]
      exact nou_lead h
    · rw [if_pos c]; exact ⟨i, rfl⟩
theorem lead_some {x : List Nat} (h1 : 1 ≤ x.length) (h : nouV x = false) : ∃ j, leadI x x.length 0 = some j ∧ j < x.length := by
  unfold nouV at h
  obtain ⟨n, hn⟩ : ∃ n, x.length = n + 1 := ⟨x.length - 1, by omega⟩
  rw [hn] at h ⊢
  unfold leadI
  by_cases c : fKind (el x 0) ≠ 0
  · rw [if_pos c]; exact ⟨0, rfl, by omega⟩
  · rw [if_neg c]
    obtain ⟨j, hj⟩ := nou_lead h
    have := leadI_lt hj
    exact ⟨j, hj, by omega⟩
theorem lead_loop {x : List Nat} {x1 : PV} (h64 : x.length < 9000000000000000000) : ∀ (n : Nat) {i j : Nat}, i + n = x.length → leadI x n i = some j →
    rounds (fun vs => lo242_1.dv (Vl x :: vs)) [x1, Vi i] = some (.y .ret [Vu (el x j)]) := by
  intro n
  induction n with
  | zero => intro i j _ h; simp [leadI] at h
  | succ n ih =>
    intro i j hi hj
    have g1 := get_V (x := x) (i := i) (by omega)
    have k1 := kind_ok (el x i)
    unfold leadI at hj
    by_cases c : fKind (el x i) = 0
    · rw [if_neg (by simp [c])] at hj
      have e1 : (B.add .i64).den (Vi i) (Vi 1) = Vi (i + 1) := add_i (by omega) (by omega)
      refine Eq.trans (rounds_cont ?_) (ih (i := i + 1) (by omega) hj)
      simp [lo242_1, TT.dv, show i < x.length by omega, g1, k1, c, e1]
    · rw [if_pos c] at hj
      simp at hj; subst hj
      refine rounds_exit ?_ (by simp)
      simp [lo242_1, TT.dv, show i < x.length by omega, g1, k1, c]
theorem lead9_loop {x : List Nat} {x1 : PV} (hx : Words x) (h64 : x.length < 9000000000000000000) : ∀ (n : Nat) {i j : Nat}, i + n = x.length → leadI x n i = some j →
    rounds (fun vs => lo193_1.dv (Vl x :: vs)) [x1, Vi i] = some (.y .ret [Vi j]) := by
  intro n
  induction n with
  | zero => intro i j _ h; simp [leadI] at h
  | succ n ih =>
    intro i j hi hj
    have g1 := get_V (x := x) (i := i) (by omega)
    have k1 := kind4_ok (hx.el i)
    unfold leadI at hj
    by_cases c : fKind (el x i) = 0
    · rw [if_neg (by simp [c])] at hj
      have e1 : (B.add .i64).den (Vi i) (Vi 1) = Vi (i + 1) := add_i (by omega) (by omega)
      refine Eq.trans (rounds_cont ?_) (ih (i := i + 1) (by omega) hj)
      simp [lo193_1, TT.dv, show i < x.length by omega, g1, k1, c, e1]
    · rw [if_pos c] at hj
      simp at hj; subst hj
      refine rounds_exit ?_ (by simp)
      simp [lo193_1, TT.dv, show i < x.length by omega, g1, k1, c]
theorem vlead_ok {x : List Nat} {j : Nat} (h64 : x.length < 9000000000000000000) (hj : leadI x x.length 0 = some j) : val 242 [Vl x] = some [Vu (el x j)] := by
  refine val_of tab242 ?_
  have h := lead_loop (x1 := Vu 0) h64 x.length (i := 0) (by omega) hj
  rw [show ((0 : Nat) : Int) = 0 from rfl] at h
  simp [tr242, TT.dv, KS.dv, h]
theorem lead9_ok {x : List Nat} {j : Nat} (hx : Words x) (h64 : x.length < 9000000000000000000) (hj : leadI x x.length 0 = some j) : val 193 [Vl x] = some [Vi j] := by
  refine val_of tab193 ?_
  have h := lead9_loop (x1 := Vi 0) hx h64 x.length (i := 0) (by omega) hj
  rw [show ((0 : Nat) : Int) = 0 from rfl] at h
  simp [tr193, TT.dv, KS.dv, h]
def rowG (g : Nat → Nat) (i : Nat) : Nat := if i = 0 then 4607182418800017408 else g i
theorem mk_one (g : Nat → Nat) : mk (rowG g) 1 = [4607182418800017408] := rfl
theorem row_ok {f n : Nat} {caps : List PV} (g : Nat → Nat) (h1 : 1 ≤ n) (hn : n ≤ 1000) (h : ∀ i : Nat, 1 ≤ i → i < n → val f (Vi i :: caps) = some [Vu (g i)]) : val 244 [Vi n, fnP f caps] = some [Vl (mk (rowG g) n)] := by
  have lp : ∀ (k : Nat) {i : Nat}, 1 ≤ i → i + k = n → rounds (fun vs => lo244_1.dv (Vi n :: fnP f caps :: vs)) [Vi i, Vl (mk (rowG g) i)] = some (.y (.ext 0) [Vl (mk (rowG g) n)]) := by
    intro k
    induction k with
    | zero =>
      intro i hi1 hi
      have : i = n := by omega
      subst this
      refine rounds_exit ?_ (by simp)
      simp [lo244_1, TT.dv]
    | succ k ih =>
      intro i hi1 hi
      refine Eq.trans (rounds_cont ?_) (ih (i := i + 1) (by omega) (by omega))
      have e1 : (B.add .i64).den (Vi i) (Vi 1) = Vi (i + 1) := add_i (by omega) (by omega)
      have h1 := h i hi1 (by omega)
      have a1 := app_V (mk (rowG g) i) (g i)
      have hg : rowG g i = g i := by unfold rowG; rw [if_neg (by omega)]
      have a2 := mk_succ (rowG g) i
      rw [hg] at a2
      rw [a2] at a1
      have e2 : (i : Int) + 1 ≤ 17592186044416 := by omega
      simp [lo244_1, TT.dv, show i < n by omega, e1, fnP, h1, a1, e2]
  refine val_of tab244 ?_
  have h0 := lp (n - 1) (i := 1) (Nat.le_refl _) (by omega)
  rw [show ((1 : Nat) : Int) = 1 from rfl, mk_one] at h0
  have d1 := drop_V (mk (rowG g) n) 0
  rw [show ((0 : Nat) : Int) = 0 from rfl, List.drop_zero] at d1
  have t1 := take_V (mk (rowG g) n) n
  rw [show (mk (rowG g) n).take n = mk (rowG g) n from List.take_of_length_le (by simp)] at t1
  simp [tr244, TT.dv, KS.dv, cons_V, h0, d1, t1]
def shG (x : List Nat) (k : Int) (i : Nat) : Nat := scaleV (el x i) k
def shV (x : List Nat) (k : Int) : List Nat := mk (shG x k) x.length
theorem shV_words {x : List Nat} (hx : Words x) (k : Int) : Words (shV x k) := mk_words fun i _ => scaleV_lt (hx.el i) k
@[simp] theorem shV_len (x : List Nat) (k : Int) : (shV x k).length = x.length := mk_len _ _
theorem shifted_ok {x : List Nat} (k : Int) (hl : x.length ≤ 1000) : val 245 [Vl x, Vi k] = some [Vl (shV x k)] := by
  have lp : ∀ (n : Nat) {i : Nat}, i + n = x.length → rounds (fun vs => lo245_1.dv (Vl x :: Vi k :: vs)) [Vi i, Vl (mk (shG x k) i)] = some (.y (.ext 0) [Vl (shV x k)]) := by
    intro n
    induction n with
    | zero =>
      intro i hi
      have : i = x.length := by omega
      subst this
      refine rounds_exit ?_ (by simp)
      simp [lo245_1, TT.dv, shV]
    | succ n ih =>
      intro i hi
      refine Eq.trans (rounds_cont ?_) (ih (i := i + 1) (by omega))
      have e1 : (B.add .i64).den (Vi i) (Vi 1) = Vi (i + 1) := add_i (by omega) (by omega)
      have g1 := get_V (x := x) (i := i) (by omega)
      have s1 := vshift_ok (el x i) k
      have a1 := app_V (mk (shG x k) i) (shG x k i)
      rw [mk_succ] at a1
      unfold shG at a1 ⊢
      have e2 : (i : Int) + 1 ≤ 17592186044416 := by omega
      simp [lo245_1, TT.dv, show i < x.length by omega, e1, g1, s1, a1, e2]
  refine val_of tab245 ?_
  have h0 := lp x.length (i := 0) (by omega)
  rw [show ((0 : Nat) : Int) = 0 from rfl, show mk (shG x k) 0 = [] from rfl] at h0
  simp [tr245, TT.dv, KS.dv, h0]
def hK (x : List Nat) : Int := expB (bigV x)
def hY (x : List Nat) : List Nat := shV x (-hK x)
def hMu (x : List Nat) : Nat := if fNeg (el x ((leadI x x.length 0).getD 0)) then normV (hY x) else fMinus (normV (hY x))
def hBeta (x : List Nat) : Nat := scaleV (hMu x) (hK x)
def hD (x : List Nat) : Nat := subV (el (hY x) 0) (hMu x)
def hVG (x : List Nat) (i : Nat) : Nat := divV (el (hY x) i) (hD x)
def hTau (x : List Nat) : Nat := divV (subV (hMu x) (el (hY x) 0)) (hMu x)
/-- The mirror's vector, tau, beta; whether there is one. -/
def mkOk (x : List Nat) : Bool := nouV x || decide (fPow (hBeta x) ≠ 2047)
def mkV (x : List Nat) : List Nat := if nouV x then mk (rowG fun _ => 0) x.length else mk (rowG (hVG x)) x.length
def mkTau (x : List Nat) : Nat := if nouV x then 0 else hTau x
def mkBeta (x : List Nat) : Nat := if nouV x then el x 0 else hBeta x
section
variable {x : List Nat} (hx : Words x) (h1 : 1 ≤ x.length) (h64 : x.length ≤ 64)
include hx h1 h64
theorem hY_words : Words (hY x) := shV_words hx _
theorem hMu_lt : hMu x < 18446744073709551616 := by
  unfold hMu
  have h := normV_lt (hY x) (hY_words hx h1 h64)
  split
  · exact h
  · exact (minus_neg h).2.2.2
theorem hBeta_lt : hBeta x < 18446744073709551616 := scaleV_lt (hMu_lt hx h1 h64) _
theorem hD_lt : hD x < 18446744073709551616 := subV_lt ((hY_words hx h1 h64).el 0) (hMu_lt hx h1 h64)
theorem mkV_words : Words (mkV x) := by
  unfold mkV
  split
  · exact mk_words fun i _ => by unfold rowG; split; decide; simp
  · exact mk_words fun i _ => by unfold rowG; split; decide; exact divV_lt
theorem mkV_len : (mkV x).length = x.length := by unfold mkV; split <;> simp
theorem mkTau_lt : mkTau x < 18446744073709551616 := by unfold mkTau; split; decide; exact divV_lt
theorem mkBeta_lt : mkBeta x < 18446744073709551616 := by unfold mkBeta; split; exact hx.el 0; exact hBeta_lt hx h1 h64
theorem make_ok (hf : finV x = true) : val 239 [Vl x] = some (if mkOk x then [Vl (mkV x), Vu (mkTau x), Vu (mkBeta x), Vi 0] else [Vl [], Vu 0, Vu 0, Vi 2]) := by
  refine val_of tab239 ?_
  have f1 := finite_v_ok hx (by omega)
  rw [hf] at f1
  have n1 := noughts_ok (x := x) h1 (by omega)
  rw [List.drop_one] at n1
  have l0 : ¬ x.length = 0 := by omega
  have l64 : ¬ (64 : Int) < x.length := by omega
  have l1 : (1 : Int) ≤ x.length := by omega
  have l2 : 0 < x.length := by omega
  have g0 := get_V (x := x) l2
  rw [show ((0 : Nat) : Int) = 0 from rfl] at g0
  unfold mkOk mkV mkTau mkBeta
  cases hn : nouV x
  · rw [hn] at n1
    have b1 := biggest_ok hx (by omega)
    have e1 := exp_ok (b := bigV x)
    have hk := expB_bd (bigV x)
    rw [show expB (bigV x) = hK x from rfl] at e1 hk
    have ng : (U.neg .i64).den (Vi (hK x)) = Vi (-hK x) := neg_i (by omega) (by omega)
    have s1 := shifted_ok (x := x) (-hK x) (by omega)
    rw [show shV x (-hK x) = hY x from rfl] at s1
    have hyl : (hY x).length = x.length := shV_len _ _
    have hyw := hY_words hx h1 h64
    have nm := norm_v_ok hyw (by omega)
    rw [if_pos (by omega)] at nm
    obtain ⟨j, hj, hjl⟩ := lead_some h1 hn
    have ld := vlead_ok (x := x) (by omega) hj
    have sg := sign_ok (el x j)
    have mn := minus_ok (normV_lt (hY x) hyw)
    have hmu : hMu x = if fNeg (el x j) then normV (hY x) else fMinus (normV (hY x)) := by unfold hMu; rw [hj]; rfl
    have sh2 := vshift_ok (hMu x) (hK x)
    rw [show scaleV (hMu x) (hK x) = hBeta x from rfl] at sh2
    have fb := finite_ok (hBeta x)
    have gy := get_V (x := hY x) (i := 0) (by omega)
    rw [show ((0 : Nat) : Int) = 0 from rfl] at gy
    have ly : 0 < (hY x).length := by omega
    have sb := vsub_ok (hyw.el 0) (hMu_lt hx h1 h64)
    rw [show subV (el (hY x) 0) (hMu x) = hD x from rfl] at sb
    have rw1 := row_ok (f := 241) (n := (hY x).length) (caps := [.a [Vl (hY x)], .a [Vu (hD x)]]) (hVG x) (by omega) (by omega) fun i i1 i2 => by
      refine val_of tab241 ?_
      have g1 := get_V (x := hY x) i2
      have d1 := vdiv_ok (hyw.el i) (hD_lt hx h1 h64)
      simp [tr241, TT.dv, i2, g1, d1, hVG]
    have ec : B.cons.den (U.toA.den (B.cons.den (Vl (hY x)) (Vl []))) (B.cons.den (U.toA.den (B.cons.den (Vu (hD x)) (Vl []))) (Vl [])) = .l [.a [Vl (hY x)], .a [Vu (hD x)]] := rfl
    have sb2 := vsub_ok (hMu_lt hx h1 h64) (hyw.el 0)
    have dv2 := vdiv_ok (subV_lt (hMu_lt hx h1 h64) (hyw.el 0)) (hMu_lt hx h1 h64)
    rw [show divV (subV (hMu x) (el (hY x) 0)) (hMu x) = hTau x from rfl] at dv2
    rw [hyl] at rw1
    by_cases hb : fPow (hBeta x) = 2047
    · rw [decide_eq_false (by simp [hb])] 
      cases hs : fNeg (el x j)
      · rw [hs] at sg hmu
        rw [if_neg (by simp)] at hmu
        rw [← hmu] at mn
        simp [tr239, TT.dv, KS.dv, l0, l64, l1, f1, drop_V1, n1, b1, e1, ng, s1, nm, ld, sg, mn, sh2, fb, hb]
      · rw [hs] at sg hmu
        rw [if_pos rfl] at hmu
        rw [← hmu] at nm
        simp [tr239, TT.dv, KS.dv, l0, l64, l1, f1, drop_V1, n1, b1, e1, ng, s1, nm, ld, sg, sh2, fb, hb]
    · rw [decide_eq_true (show fPow (hBeta x) ≠ 2047 from hb)]
      cases hs : fNeg (el x j)
      · rw [hs] at sg hmu
        rw [if_neg (by simp)] at hmu
        rw [← hmu] at mn
        simp [tr239, TT.dv, KS.dv, l0, l64, l1, l2, ly, hyl, f1, drop_V1, n1, b1, e1, ng, s1, nm, ld, sg, mn, sh2, fb, hb, gy, sb, ec, mkfn_l, rw1, sb2, dv2]
      · rw [hs] at sg hmu
        rw [if_pos rfl] at hmu
        rw [← hmu] at nm
        simp [tr239, TT.dv, KS.dv, l0, l64, l1, l2, ly, hyl, f1, drop_V1, n1, b1, e1, ng, s1, nm, ld, sg, sh2, fb, hb, gy, sb, ec, mkfn_l, rw1, sb2, dv2]
  · rw [hn] at n1
    have rw1 := row_ok (f := 240) (n := x.length) (caps := []) (fun _ => 0) h1 (by omega) fun i _ _ => val_of tab240 (by simp [tr240, TT.dv])
    have ec : (U.mkfn 240).den (Vl []) = fnP 240 [] := rfl
    simp [tr239, TT.dv, l0, l64, l1, l2, f1, drop_V1, n1, ec, rw1, g0]
theorem make9_ok (hf : finV x = true) : val 192 [Vl x] = some (if mkOk x then [Vl (mkV x), Vu (mkTau x), Vu (mkBeta x), Vb true] else [Vl [], Vu 0, Vu 0, Vb false]) := by
  refine val_of tab192 ?_
  have n1 := noughts9_ok hx h1 (by omega)
  have l2 : 0 < x.length := by omega
  have g0 := get_V (x := x) l2
  rw [show ((0 : Nat) : Int) = 0 from rfl] at g0
  unfold mkOk mkV mkTau mkBeta
  cases hn : nouV x
  · rw [hn] at n1
    have hbl := bigV_lt x
    have b1 := biggest9_ok hx (by omega)
    have e1 := exp8_ok (b := bigV x) (by omega)
    have hk := expB_bd (bigV x)
    rw [show expB (bigV x) = hK x from rfl] at e1 hk
    have ng : (B.sub .i64).den (Vi 0) (Vi (hK x)) = Vi (-hK x) := by rw [sub_i (by omega) (by omega)]; exact congrArg Vi (by omega)
    have lp2 : ∀ (x1 x2 : PV) (n : Nat) {i : Nat}, i + n = x.length → rounds (fun vs => lo192_2.dv (Vl x :: x1 :: x2 :: Vi (hK x) :: vs)) [Vi i, Vl (mk (shG x (-hK x)) i)] = some (.y (.ext 2) [Vl (hY x)]) := by
      intro x1 x2 n
      induction n with
      | zero =>
        intro i hi
        have : i = x.length := by omega
        subst this
        refine rounds_exit ?_ (by simp)
        simp [lo192_2, TT.dv, hY, shV]
      | succ n ih =>
        intro i hi
        refine Eq.trans (rounds_cont ?_) (ih (i := i + 1) (by omega))
        have a0 : (B.add .i64).den (Vi i) (Vi 1) = Vi (i + 1) := add_i (by omega) (by omega)
        have g1 := get_V (x := x) (i := i) (by omega)
        have s1 := shift9_ok (hx.el i) (k := -hK x) (by omega) (by omega)
        have a1 := app_V (mk (shG x (-hK x)) i) (shG x (-hK x) i)
        rw [mk_succ] at a1
        unfold shG at a1 ⊢
        have e2 : (i : Int) + 1 ≤ 17592186044416 := by omega
        simp [lo192_2, TT.dv, show i < x.length by omega, ng, a0, g1, s1, a1, e2]
    have hyl : (hY x).length = x.length := shV_len _ _
    have hyw := hY_words hx h1 h64
    have nm := norm_9_ok hyw (by omega)
    obtain ⟨j, hj, hjl⟩ := lead_some h1 hn
    have ld := lead9_ok hx (by omega) hj
    have gj := get_V (x := x) hjl
    have sg := neg4_ok (hx.el j)
    have mn := minus4_ok (normV_lt (hY x) hyw)
    have hmu : hMu x = if fNeg (el x j) then normV (hY x) else fMinus (normV (hY x)) := by unfold hMu; rw [hj]; rfl
    have hml := hMu_lt hx h1 h64
    have sh2 := shift9_ok hml (k := hK x) (by omega) (by omega)
    rw [show scaleV (hMu x) (hK x) = hBeta x from rfl] at sh2
    have fb := finite4_ok (hBeta_lt hx h1 h64)
    have pb := fPow_lt (hBeta x)
    have gy := get_V (x := hY x) (i := 0) (by omega)
    rw [show ((0 : Nat) : Int) = 0 from rfl] at gy
    have ly : 0 < (hY x).length := by omega
    have sb := sub9_ok (hyw.el 0) hml
    rw [show subV (el (hY x) 0) (hMu x) = hD x from rfl] at sb
    have hdl := hD_lt hx h1 h64
    have sb2 := sub9_ok hml (hyw.el 0)
    have dv2 := div9_ok (subV_lt hml (hyw.el 0)) hml
    rw [show divV (subV (hMu x) (el (hY x) 0)) (hMu x) = hTau x from rfl] at dv2
    have lp3 : ∀ (x1 x2 x3 x5 x6 x7 x8 : PV) (n : Nat) {i : Nat}, 1 ≤ i → i + n = x.length → rounds (fun vs => lo192_3.dv (Vl x :: x1 :: x2 :: x3 :: Vl (hY x) :: x5 :: x6 :: x7 :: x8 :: Vu (hD x) :: vs)) [Vi i, Vl (mk (rowG (hVG x)) i)] = some (.y (.ext 4) [Vl (mk (rowG (hVG x)) x.length)]) := by
      intro x1 x2 x3 x5 x6 x7 x8 n
      induction n with
      | zero =>
        intro i hi1 hi
        have : i = x.length := by omega
        subst this
        refine rounds_exit ?_ (by simp)
        simp [lo192_3, TT.dv, hyl]
      | succ n ih =>
        intro i hi1 hi
        refine Eq.trans (rounds_cont ?_) (ih (i := i + 1) (by omega) (by omega))
        have a0 : (B.add .i64).den (Vi i) (Vi 1) = Vi (i + 1) := add_i (by omega) (by omega)
        have g1 := get_V (x := hY x) (i := i) (by omega)
        have d1 := div9_ok (hyw.el i) hdl
        have hg : rowG (hVG x) i = divV (el (hY x) i) (hD x) := by unfold rowG; rw [if_neg (by omega)]; rfl
        have a1 := app_V (mk (rowG (hVG x)) i) (divV (el (hY x) i) (hD x))
        have a2 := mk_succ (rowG (hVG x)) i
        rw [hg] at a2
        rw [a2] at a1
        have e2 : (i : Int) + 1 ≤ 17592186044416 := by omega
        simp [lo192_3, TT.dv, hyl, show i < x.length by omega, a0, g1, d1, a1, e2]
    have lq2 := fun x1 x2 => lp2 x1 x2 x.length (i := 0) (by omega)
    have lq3 := fun x1 x2 x3 x5 x6 x7 x8 => lp3 x1 x2 x3 x5 x6 x7 x8 (x.length - 1) (i := 1) (Nat.le_refl _) (by omega)
    simp only [show ((0 : Nat) : Int) = 0 from rfl, show mk (shG x (-hK x)) 0 = [] from rfl] at lq2
    simp only [show ((1 : Nat) : Int) = 1 from rfl, mk_one] at lq3
    by_cases hb : fPow (hBeta x) = 2047
    · rw [decide_eq_false (by simp [hb])] 
      cases hs : fNeg (el x j)
      · rw [hs] at sg hmu
        rw [if_neg (by simp)] at hmu
        rw [← hmu] at mn
        simp [tr192, TT.dv, KS.dv, n1, b1, e1, lq2, nm, ld, hjl, gj, sg, mn, sh2, fb, hb]
      · rw [hs] at sg hmu
        rw [if_pos rfl] at hmu
        rw [← hmu] at nm
        simp [tr192, TT.dv, KS.dv, n1, b1, e1, lq2, nm, ld, hjl, gj, sg, sh2, fb, hb]
    · rw [decide_eq_true (show fPow (hBeta x) ≠ 2047 from hb)]
      have hb' : fPow (hBeta x) < 2047 := by omega
      cases hs : fNeg (el x j)
      · rw [hs] at sg hmu
        rw [if_neg (by simp)] at hmu
        rw [← hmu] at mn
        simp [tr192, TT.dv, KS.dv, n1, b1, e1, lq2, nm, ld, hjl, gj, sg, mn, sh2, fb, hb', ly, gy, sb, cons_V, lq3, sb2, dv2]
      · rw [hs] at sg hmu
        rw [if_pos rfl] at hmu
        rw [← hmu] at nm
        simp [tr192, TT.dv, KS.dv, n1, b1, e1, lq2, nm, ld, hjl, gj, sg, sh2, fb, hb', ly, gy, sb, cons_V, lq3, sb2, dv2]
  · rw [hn] at n1
    have lp1 : ∀ (x1 : PV) (n : Nat) {i : Nat}, 1 ≤ i → i + n = x.length → rounds (fun vs => lo192_1.dv (Vl x :: x1 :: vs)) [Vi i, Vl (mk (rowG fun _ => 0) i)] = some (.y (.ext 0) [Vl (mk (rowG fun _ => 0) x.length)]) := by
      intro x1 n
      induction n with
      | zero =>
        intro i hi1 hi
        have : i = x.length := by omega
        subst this
        refine rounds_exit ?_ (by simp)
        simp [lo192_1, TT.dv]
      | succ n ih =>
        intro i hi1 hi
        refine Eq.trans (rounds_cont ?_) (ih (i := i + 1) (by omega) (by omega))
        have a0 : (B.add .i64).den (Vi i) (Vi 1) = Vi (i + 1) := add_i (by omega) (by omega)
        have hg : rowG (fun _ => 0) i = 0 := by unfold rowG; rw [if_neg (by omega)]
        have a1 := app_V (mk (rowG fun _ => 0) i) 0
        have a2 := mk_succ (rowG fun _ => 0) i
        rw [hg] at a2
        rw [a2] at a1
        have e2 : (i : Int) + 1 ≤ 17592186044416 := by omega
        simp [lo192_1, TT.dv, show i < x.length by omega, a0, a1, e2]
    have lq1 := fun x1 => lp1 x1 (x.length - 1) (i := 1) (Nat.le_refl _) (by omega)
    simp only [show ((1 : Nat) : Int) = 1 from rfl, mk_one] at lq1
    simp [tr192, TT.dv, KS.dv, n1, cons_V, lq1, l2, g0]
end
end Go.Proofs.YthchhkghjfendabGreat.Dx

namespace Go.Proofs.YthchhkghjfendabGreat.Dx
open Go

theorem make_inf {x : List Nat} (hx : Words x) (h1 : 1 ≤ x.length) (h64 : x.length ≤ 64) (hf : finV x = false) : val 239 [Vl x] = some [Vl [], Vu 0, Vu 0, Vi 4] := by
  refine val_of tab239 ?_
  have f1 := finite_v_ok hx (by omega)
  rw [hf] at f1
  simp [tr239, TT.dv, show ¬ x.length = 0 by omega, show ¬ (64 : Int) < x.length by omega, f1]
end Go.Proofs.YthchhkghjfendabGreat.Dx

namespace Go.Proofs.YthchhkghjfendabGreat.Dx
open Go

def rowL (c : Nat) (x : List Nat) (i : Nat) : List Nat := (x.take ((i + 1) * c)).drop (i * c)
section
variable {r c : Nat} {x : List Nat} (h : Mx r c x) {i : Nat} (hi : i < r)
include h hi
theorem row_end : (i + 1) * c ≤ x.length := by rw [h.len]; exact Nat.mul_le_mul_right c hi
theorem rowL_len : (rowL c x i).length = c := by
  have := row_end h hi
  unfold rowL
  rw [List.length_drop, List.length_take, Nat.min_eq_left this, Nat.add_mul, Nat.one_mul]; omega
theorem rowL_words : Words (rowL c x i) := fun a ha => h.w a (List.mem_of_mem_take (List.mem_of_mem_drop ha))
theorem row_ints : (B.mul .i64).den (Vi i) (Vi c) = Vi ((i * c : Nat) : Int) ∧ (B.mul .i64).den ((B.add .i64).den (Vi i) (Vi 1)) (Vi c) = Vi (((i + 1) * c : Nat) : Int) := by
  have h1 := h.hr
  have h2 := h.hc
  have h3 : i * c ≤ 6 * 6 := Nat.mul_le_mul (by omega) h2
  have h4 : (i + 1) * c ≤ 6 * 6 := Nat.mul_le_mul (by omega) h2
  have e1 : (i : Int) * c = ((i * c : Nat) : Int) := by rw [Int.natCast_mul]
  have e2 : ((i : Int) + 1) * c = (((i + 1) * c : Nat) : Int) := by rw [Int.natCast_mul]; rfl
  rw [add_i (by omega) (by omega), mul_i (by rw [e1]; omega) (by rw [e1]; omega), mul_i (by rw [e2]; omega) (by rw [e2]; omega), e1, e2]
  exact ⟨rfl, rfl⟩
theorem mrow_ok : val 254 [Vi r, Vi c, Vl x, Vi i, Vi 0] = some [Vl (rowL c x i)] := by
  refine val_of tab254 ?_
  obtain ⟨e1, e2⟩ := row_ints h hi
  have hend := row_end h hi
  have hs := h.small
  have hic : i * c ≤ (i + 1) * c := Nat.mul_le_mul_right c (by omega)
  have e3 : (B.add .i64).den (Vi ((i * c : Nat) : Int)) (Vi 0) = Vi ((i * c : Nat) : Int) := by rw [add_i (by omega) (by omega)]; exact congrArg Vi (by omega)
  have hrl := rowL_len h hi
  have hc := h.hc
  unfold rowL at hrl ⊢
  have t1 := take_V x ((i + 1) * c)
  have d1 := drop_V (x.take ((i + 1) * c)) (i * c)
  generalize (i + 1) * c = z at *
  generalize i * c = y at *
  simp [tr254, TT.dv, e1, e2, e3, t1, d1, show y ≤ z from hic, show z ≤ x.length from hend]
  omega
theorem mrow9_ok : val 173 [Vi r, Vi c, Vl x, Vi i] = some [Vl (rowL c x i)] := by
  refine val_of tab173 ?_
  obtain ⟨e1, e2⟩ := row_ints h hi
  have hend := row_end h hi
  have hic : i * c ≤ (i + 1) * c := Nat.mul_le_mul_right c (by omega)
  unfold rowL
  have t1 := take_V x ((i + 1) * c)
  have d1 := drop_V (x.take ((i + 1) * c)) (i * c)
  generalize (i + 1) * c = z at *
  generalize i * c = y at *
  simp [tr173, TT.dv, e1, e2, t1, d1, show y ≤ z from hic, show z ≤ x.length from hend]
end
def muG (ca : Nat) (x : List Nat) (rb cb : Nat) (y : List Nat) (i k : Nat) : Nat := dotV (rowL ca x i) (colL rb cb y k 0)
def muV (ra ca : Nat) (x : List Nat) (rb cb : Nat) (y : List Nat) : List Nat := matL (muG ca x rb cb y) ra cb
theorem two_ok (R C R' C' : Int) (x y : List Nat) : val 260 [Vi R, Vi C, Vl x, Vi R', Vi C', Vl y] = some [Vi (if rightP R C x ∧ rightP R' C' y then 0 else 1)] := by
  refine val_of tab260 ?_
  have h1 := check_ok R C x
  have h2 := check_ok R' C' y
  by_cases c1 : rightP R C x
  · rw [if_pos c1] at h1
    by_cases c2 : rightP R' C' y
    · rw [if_pos c2] at h2
      rw [if_pos ⟨c1, c2⟩]
      simp [tr260, TT.dv, h1, h2]
    · rw [if_neg c2] at h2
      rw [if_neg (fun h => c2 h.2)]
      simp [tr260, TT.dv, h1, h2]
  · rw [if_neg c1] at h1
    rw [if_neg (fun h => c1 h.1)]
    simp [tr260, TT.dv, h1]
section
variable {ra ca rb cb : Nat} {x y : List Nat} (h : Mx ra ca x) (h' : Mx rb cb y) (hcr : ca = rb)
include h h' hcr
theorem muG_lt {i k : Nat} : muG ca x rb cb y i k < 18446744073709551616 := dotR_lt _ (by decide)
theorem mul_ok10 : val 250 [Vi ra, Vi ca, Vl x, Vi rb, Vi cb, Vl y] = some [Vi ra, Vi cb, Vl (muV ra ca x rb cb y), Vi 0] := by
  refine val_of tab250 ?_
  have h1 := two_ok ra ca rb cb x y
  rw [if_pos ⟨mx_right h, mx_right h'⟩] at h1
  have h2 := mof_ok (f := 251) (r := ra) (c := cb) (caps := [.a [Vi ra, Vi ca, Vl x], .a [Vi rb, Vi cb, Vl y]]) (g := muG ca x rb cb y) h.hr h'.hc fun i k hi hk => by
    refine val_of tab251 ?_
    have hr := mrow_ok h hi
    have hcl := column_ok h' hk (show 0 ≤ rb by omega)
    rw [show ((0 : Nat) : Int) = 0 from rfl] at hcl
    have hl := rowL_len h hi
    have hd := dot_ok (rowL_words h hi) (colL_words h' k 0)
    have hca := h.hc
    rw [if_pos ⟨by rw [hl, colL_len]; omega, by omega⟩] at hd
    have e0 : (U.fld 1).den (PV.a [Vi ra, Vi ca, Vl x]) = Vi ca := rfl
    have e1 : (U.fld 2).den (PV.a [Vi ra, Vi ca, Vl x]) = Vl x := rfl
    have e2 : (U.fld 1).den (PV.a [Vi rb, Vi cb, Vl y]) = Vi cb := rfl
    have e3 : (U.fld 2).den (PV.a [Vi rb, Vi cb, Vl y]) = Vl y := rfl
    simp [tr251, TT.dv, e0, e1, e2, e3, hr, hcl, hd, muG]
  have ec : B.cons.den (U.toA.den (B.cons.den (Vi ra) (B.cons.den (Vi ca) (B.cons.den (Vl x) (Vl []))))) (B.cons.den (U.toA.den (B.cons.den (Vi rb) (B.cons.den (Vi cb) (B.cons.den (Vl y) (Vl []))))) (Vl [])) = .l [.a [Vi ra, Vi ca, Vl x], .a [Vi rb, Vi cb, Vl y]] := rfl
  subst hcr
  simp [tr250, TT.dv, h1, ec, mkfn_l, h2, muV]
theorem mul9_inner {i : Nat} (hi : i < ra) {x6 x7 x8 x10 x11 x12 : PV} : ∀ (n : Nat) {k : Nat} {m : List Nat}, k + n = cb → Mx ra cb m →
    rounds (fun vs => lo170_2.dv (Vi ra :: Vi ca :: Vl x :: Vi rb :: Vi cb :: Vl y :: x6 :: x7 :: x8 :: Vi i :: x10 :: x11 :: x12 :: vs)) [Vi k, Vi ra, Vi cb, Vl m] = some (.y (.ext 2) [Vi ra, Vi cb, Vl (fin1 (fun k => ps i cb k) (fun k => muG ca x rb cb y i k) n k m)]) := by
  intro n
  induction n with
  | zero =>
    intro k m hk hm
    have : k = cb := by omega
    subst this
    refine rounds_exit ?_ (by simp)
    simp [lo170_2, TT.dv, fin1]
  | succ n ih =>
    intro k m hk hm
    have hkc : k < cb := by omega
    refine Eq.trans (rounds_cont ?_) (ih (k := k + 1) (by omega) (hm.set (p := ps i cb k) (muG_lt h h' hcr (i := i) (k := k))))
    have hcb := h'.hc
    have e1 : (B.add .i64).den (Vi k) (Vi 1) = Vi (k + 1) := add_i (by omega) (by omega)
    have hr := mrow9_ok h hi
    have hcl := column9_ok h' hkc (show 0 ≤ rb by omega)
    rw [show ((0 : Nat) : Int) = 0 from rfl] at hcl
    have hl := rowL_len h hi
    have hca := h.hc
    have hlp := dot9_loop (rowL_words h hi) (colL_words h' k 0) (by rw [hl, colL_len]; omega) (by omega) (rowL ca x i).length (i := 0) (s := 0) (by omega) (by decide)
    rw [show ((0 : Nat) : Int) = 0 from rfl] at hlp
    have d1 : val 153 [Vl (rowL ca x i), Vl (colL rb cb y k 0)] = some [Vu (muG ca x rb cb y i k)] := by
      refine val_of tab153 ?_
      simp [tr153, TT.dv, KS.dv, hlp, muG, dotV]
    have w1 := with_ok hm (i := i) (k := k) (b := muG ca x rb cb y i k) hi hkc
    simp [lo170_2, TT.dv, hkc, e1, hr, hcl, d1, w1]
theorem fin1_mx {r c : Nat} {pos v : Nat → Nat} (hv : ∀ k, v k < 18446744073709551616) : ∀ (n k : Nat) {m : List Nat}, Mx r c m → Mx r c (fin1 pos v n k m)
  | 0, _, _, h => h
  | n + 1, k, m, h => fin1_mx hv n (k + 1) (h.set (hv k))
theorem mul9_outer {x6 x7 x8 : PV} : ∀ (n : Nat) {i : Nat} {m : List Nat}, i + n = ra → Mx ra cb m →
    rounds (fun vs => lo170_1.dv (Vi ra :: Vi ca :: Vl x :: Vi rb :: Vi cb :: Vl y :: x6 :: x7 :: x8 :: vs)) [Vi i, Vi ra, Vi cb, Vl m] = some (.y (.ext 0) [Vi ra, Vi cb, Vl (fin2 (fun i k => ps i cb k) (fun i k => muG ca x rb cb y i k) cb n i m)]) := by
  intro n
  induction n with
  | zero =>
    intro i m hi hm
    have : i = ra := by omega
    subst this
    refine rounds_exit ?_ (by simp)
    simp [lo170_1, TT.dv, fin2]
  | succ n ih =>
    intro i m hi hm
    have hia : i < ra := by omega
    have hra := h.hr
    refine Eq.trans (rounds_cont ?_) (ih (i := i + 1) (by omega) (fin1_mx h h' hcr (pos := fun k => ps i cb k) (v := fun k => muG ca x rb cb y i k) (fun _ => muG_lt h h' hcr) cb 0 hm))
    have e1 : (B.add .i64).den (Vi i) (Vi 1) = Vi (i + 1) := add_i (by omega) (by omega)
    have hin := fun x10 x11 x12 => mul9_inner h h' hcr hia (x6 := x6) (x7 := x7) (x8 := x8) (x10 := x10) (x11 := x11) (x12 := x12) cb (k := 0) (m := m) (by omega) hm
    simp only [show ((0 : Nat) : Int) = 0 from rfl] at hin
    simp [lo170_1, TT.dv, KS.dv, hia, e1, hin]
theorem mul9_ok10 : val 170 [Vi ra, Vi ca, Vl x, Vi rb, Vi cb, Vl y] = some [Vi ra, Vi cb, Vl (muV ra ca x rb cb y)] := by
  refine val_of tab170 ?_
  have hz := zeros_ok h.hr h'.hc
  have hlp := mul9_outer h h' hcr (x6 := Vi ra) (x7 := Vi cb) (x8 := Vl (List.replicate (ra * cb) 0)) ra (i := 0) (by omega) (zeros_mx h.hr h'.hc)
  rw [show ((0 : Nat) : Int) = 0 from rfl] at hlp
  have he : fin2 (fun i k => ps i cb k) (fun i k => muG ca x rb cb y i k) cb ra 0 (List.replicate (ra * cb) 0) = muV ra ca x rb cb y := by
    refine mat_ext (r := ra) (c := cb) (by rw [fin2_len]; simp) (matL_len _ _ _) fun i k hi hk => ?_
    unfold muV
    rw [el_matL _ hi hk]
    exact fin2_at (pos := fun i k => ps i cb k) (v := fun i k => muG ca x rb cb y i k) ra 0 _ (fun j k _ h2 h3 => by rw [List.length_replicate]; exact ps_lt (by omega) h3)
      (fun j k j' k' _ a b _ a' b' hh => ps_inj b b' hh) i k (Nat.zero_le _) (by omega) hk
  rw [he] at hlp
  simp [tr170, TT.dv, KS.dv, hz, hlp]
theorem muV_mx : Mx ra cb (muV ra ca x rb cb y) := matL_mx h.hr h'.hc fun _ _ _ _ => muG_lt h h' hcr
end
section
variable {r c : Nat} {x : List Nat} (h : Mx r c x) {i k m n : Nat} (hi : i + m ≤ r) (hk : k + n ≤ c)
include h hi hk
end
def eyG (i k : Nat) : Nat := if i = k then 4607182418800017408 else 0
def eyV (n : Nat) : List Nat := matL eyG n n
theorem eyV_mx {n : Nat} (hn : n ≤ 6) : Mx n n (eyV n) := matL_mx hn hn fun i k _ _ => by unfold eyG; split <;> decide
theorem eye_ok {n : Nat} (hn : n ≤ 6) : val 248 [Vi n] = some [Vi n, Vi n, Vl (eyV n), Vi 0] := by
  refine val_of tab248 ?_
  have h1 := size_ok n
  rw [decide_eq_true (by omega)] at h1
  have h2 := mof_ok (f := 249) (r := n) (c := n) (caps := []) (g := eyG) hn hn fun i k _ _ => by
    refine val_of tab249 ?_
    unfold eyG
    by_cases h : i = k
    · simp [tr249, TT.dv, h]
    · simp [tr249, TT.dv, h, show ¬ (i : Int) = k by omega]
  have ec : (U.mkfn 249).den (Vl []) = fnP 249 [] := rfl
  simp [tr248, TT.dv, h1, ec, h2, eyV]
theorem eye9_ok {n : Nat} (hn : n ≤ 6) : val 169 [Vi n] = some [Vi n, Vi n, Vl (eyV n)] := by
  refine val_of tab169 ?_
  have hz := zeros_ok hn hn
  have lp : ∀ (x1 x2 x3 : PV) (t : Nat) {i : Nat} {m : List Nat}, i + t = n → Mx n n m → rounds (fun vs => lo169_1.dv (Vi n :: x1 :: x2 :: x3 :: vs)) [Vi i, Vi n, Vi n, Vl m] = some (.y (.ext 0) [Vi n, Vi n, Vl (fin1 (fun i => ps i n i) (fun _ => 4607182418800017408) t i m)]) := by
    intro x1 x2 x3 t
    induction t with
    | zero =>
      intro i m hi hm
      have : i = n := by omega
      subst this
      refine rounds_exit ?_ (by simp)
      simp [lo169_1, TT.dv, fin1]
    | succ t ih =>
      intro i m hi hm
      have hin : i < n := by omega
      refine Eq.trans (rounds_cont ?_) (ih (i := i + 1) (by omega) (hm.set (p := ps i n i) (v := 4607182418800017408) (by decide)))
      have e1 : (B.add .i64).den (Vi i) (Vi 1) = Vi (i + 1) := add_i (by omega) (by omega)
      have w1 := with_ok hm (i := i) (k := i) (b := 4607182418800017408) hin hin
      simp [lo169_1, TT.dv, hin, e1, w1]
  have hlp := lp (Vi n) (Vi n) (Vl (List.replicate (n * n) 0)) n (i := 0) (by omega) (zeros_mx hn hn)
  rw [show ((0 : Nat) : Int) = 0 from rfl] at hlp
  have he : fin1 (fun i => ps i n i) (fun _ => 4607182418800017408) n 0 (List.replicate (n * n) 0) = eyV n := by
    refine mat_ext (r := n) (c := n) (by rw [fin1_len]; simp) (matL_len _ _ _) fun i k hi hk => ?_
    unfold eyV
    rw [el_matL _ hi hk]
    unfold eyG
    by_cases h : i = k
    · subst h
      rw [if_pos rfl]
      exact fin1_at (pos := fun i => ps i n i) (v := fun _ => 4607182418800017408) n 0 _ (fun j _ h2 => by rw [List.length_replicate]; exact ps_lt (by omega) (by omega))
        (fun j j' _ a _ a' hh => (ps_inj (by omega) (by omega) hh).1) i (Nat.zero_le _) (by omega)
    · rw [if_neg h, fin1_other n 0 _ (fun j _ h2 hh => by have := ps_inj (by omega) hk hh; omega)]
      unfold el
      rw [List.getD_eq_getElem?_getD, List.getElem?_replicate]
      split <;> rfl
  rw [he] at hlp
  simp [tr169, TT.dv, KS.dv, hz, hlp]
end Go.Proofs.YthchhkghjfendabGreat.Dx

namespace Go.Proofs.YthchhkghjfendabGreat.Dx
open Go

def chk (R C : Int) (x : List Nat) : Int := if rightP R C x then (if finV x then 0 else 4) else 1
theorem fin2_loop {x : List Nat} {x0 x1 x3 x4 : PV} (h64 : x.length < 9000000000000000000) : ∀ (n : Nat) {i : Nat}, i + n = x.length →
    rounds (fun vs => lo2_1.dv (x0 :: x1 :: Vl x :: x3 :: vs)) [x4, Vi i] = some (if finR x n i then .y (.ext 0) [x4] else .y .ret []) := by
  intro n
  induction n with
  | zero =>
    intro i hi
    refine rounds_exit ?_ (by simp [finR])
    simp [lo2_1, TT.dv, show ¬ i < x.length by omega, finR]
  | succ n ih =>
    intro i hi
    have g1 := get_V (x := x) (i := i) (by omega)
    have f1 := finite_ok (el x i)
    unfold finR
    by_cases c : fPow (el x i) = 2047
    · rw [if_pos c]
      refine rounds_exit ?_ (by simp)
      simp [lo2_1, TT.dv, show i < x.length by omega, g1, f1, c]
    · rw [if_neg c]
      have e1 : (B.add .i64).den (Vi i) (Vi 1) = Vi (i + 1) := add_i (by omega) (by omega)
      refine Eq.trans (rounds_cont ?_) (ih (i := i + 1) (by omega))
      simp [lo2_1, TT.dv, show i < x.length by omega, g1, f1, c, e1]
theorem ccheck_ok (R C : Int) {x : List Nat} (h : x.length ≤ 17592186043904) : val 2 [Vi R, Vi C, Vl x] = some [Vi (chk R C x)] := by
  refine val_of tab2 ?_
  have h1 := check_ok R C x
  unfold chk
  by_cases c : rightP R C x
  · rw [if_pos c] at h1 ⊢
    have hl := fun x0 x1 x3 x4 => fin2_loop (x := x) (x0 := x0) (x1 := x1) (x3 := x3) (x4 := x4) (by omega) x.length (i := 0) (by omega)
    simp only [show ((0 : Nat) : Int) = 0 from rfl] at hl
    unfold finV
    cases hc : finR x x.length 0
    · simp only [hc] at hl
      simp [tr2, TT.dv, KS.dv, h1, hl]
    · simp only [hc] at hl
      simp [tr2, TT.dv, KS.dv, h1, hl]
  · rw [if_neg c] at h1 ⊢
    simp [tr2, TT.dv, h1]
theorem ccheck9_ok (R C : Int) {x : List Nat} (hw : Words x) (h : x.length ≤ 17592186043904) : val 178 [Vi R, Vi C, Vl x] = some [Vi (chk R C x)] := by
  refine val_of tab178 ?_
  have h1 := right_ok10 R C x
  have h2 := finite_9_ok hw (by omega)
  unfold chk
  by_cases c : rightP R C x
  · rw [decide_eq_true c] at h1
    rw [if_pos c]
    cases hc : finV x <;> rw [hc] at h2 <;> simp [tr178, TT.dv, h1, h2]
  · rw [decide_eq_false c] at h1
    rw [if_neg c]
    simp [tr178, TT.dv, h1]
def clI (c j : Nat) : Nat → Nat → List Nat → List Nat
  | 0, _, m => m
  | n + 1, i, m => clI c j n (i + 1) (m.set (ps i c j) 0)
def clV (r c : Nat) (m : List Nat) (j beta : Nat) : List Nat := clI c j (r - (j + 1)) (j + 1) (m.set (ps j c j) beta)
theorem clI_mx {r c j : Nat} : ∀ (n i : Nat) {m : List Nat}, Mx r c m → Mx r c (clI c j n i m)
  | 0, _, _, h => h
  | n + 1, i, m, h => clI_mx n (i + 1) (h.set (by decide))
theorem clV_mx {r c j beta : Nat} {m : List Nat} (h : Mx r c m) (hb : beta < 18446744073709551616) : Mx r c (clV r c m j beta) := clI_mx _ _ (h.set hb)
section
variable {r c j : Nat} (hjr : j < r) (hjc : j < c)
include hjr hjc
theorem cl_loop {x0 x1 x2 x3 x5 x6 x7 x8 x9 x10 x11 x12 x13 x16 x17 : PV} : ∀ (n : Nat) {i : Nat} {m : List Nat}, i + n = r → Mx r c m →
    rounds (fun vs => lo271_2.dv (x0 :: x1 :: x2 :: x3 :: Vi j :: x5 :: x6 :: x7 :: x8 :: x9 :: x10 :: x11 :: x12 :: x13 :: Vi r :: Vi c :: x16 :: x17 :: vs)) [Vi i, Vl m] = some (.y (.ext 2) [Vl (clI c j n i m)]) := by
  intro n
  induction n with
  | zero =>
    intro i m hi hm
    have : i = r := by omega
    subst this
    refine rounds_exit ?_ (by simp)
    simp [lo271_2, TT.dv, clI]
  | succ n ih =>
    intro i m hi hm
    have hir : i < r := by omega
    have h1 := hm.hr
    have h2 := hm.hc
    refine Eq.trans (rounds_cont ?_) (ih (i := i + 1) (by omega) (hm.set (p := ps i c j) (v := 0) (by decide)))
    have e1 : (B.add .i64).den (Vi i) (Vi 1) = Vi (i + 1) := add_i (by omega) (by omega)
    have p1 := pos_i (i := i) (c := c) (k := j) (by omega) (by omega) (by omega)
    have l1 := hm.lt hir hjc
    simp [lo271_2, TT.dv, hir, e1, p1, l1, set_V]
theorem cl9_loop {x0 x1 x2 x4 x5 x6 x7 : PV} : ∀ (n : Nat) {i : Nat} {m : List Nat}, i + n = r → Mx r c m →
    rounds (fun vs => lo197_1.dv (x0 :: x1 :: x2 :: Vi j :: x4 :: x5 :: x6 :: x7 :: vs)) [Vi i, Vi r, Vi c, Vl m] = some (.y (.ext 0) [Vi r, Vi c, Vl (clI c j n i m)]) := by
  intro n
  induction n with
  | zero =>
    intro i m hi hm
    have : i = r := by omega
    subst this
    refine rounds_exit ?_ (by simp)
    simp [lo197_1, TT.dv, clI]
  | succ n ih =>
    intro i m hi hm
    have hir : i < r := by omega
    have h1 := hm.hr
    refine Eq.trans (rounds_cont ?_) (ih (i := i + 1) (by omega) (hm.set (p := ps i c j) (v := 0) (by decide)))
    have e1 : (B.add .i64).den (Vi i) (Vi 1) = Vi (i + 1) := add_i (by omega) (by omega)
    have w1 := with_ok hm (i := i) (k := j) (b := 0) hir hjc
    simp [lo197_1, TT.dv, hir, e1, w1]
theorem cleared_ok {m : List Nat} {beta : Nat} (hm : Mx r c m) (hb : beta < 18446744073709551616) : val 197 [Vi r, Vi c, Vl m, Vi j, Vu beta] = some [Vi r, Vi c, Vl (clV r c m j beta)] := by
  refine val_of tab197 ?_
  have h1 := hm.hr
  have w1 := with_ok hm (i := j) (k := j) (b := beta) hjr hjc
  have e1 : (B.add .i64).den (Vi j) (Vi 1) = Vi ((j + 1 : Nat) : Int) := by rw [add_i (by omega) (by omega)]; rfl
  have hlp := fun x0 x1 x2 x4 x5 x6 x7 => cl9_loop hjr hjc (x0 := x0) (x1 := x1) (x2 := x2) (x4 := x4) (x5 := x5) (x6 := x6) (x7 := x7) (r - (j + 1)) (i := j + 1) (by omega) (hm.set (p := ps j c j) hb)
  generalize hz : ((j + 1 : Nat) : Int) = z at *
  simp [tr197, TT.dv, KS.dv, w1, e1, hlp, clV]
end
abbrev Mir := List Nat × Nat × Nat
def mrP (m : Mir) : PV := .a [Vl m.1, Vu m.2.1]
def mrP9 (m : Mir) : PV := .a [Vl m.1, Vu m.2.1, Vu m.2.2]
def dnOk (r c j : Nat) (x : List Nat) : Bool := finV (colL r c x j j) && mkOk (colL r c x j j)
def dnM (r c j : Nat) (x : List Nat) : Mir := (mkV (colL r c x j j), mkTau (colL r c x j j), mkBeta (colL r c x j j))
def dnX (r c j : Nat) (x : List Nat) : List Nat := clV r c (apV r c x j j (dnM r c j x).1 (dnM r c j x).2.1) j (dnM r c j x).2.2
def dnR (r c : Nat) : Nat → Nat → List Nat → List Mir → Option (List Nat × List Mir)
  | 0, _, x, ms => some (x, ms)
  | n + 1, j, x, ms => if dnOk r c j x then dnR r c n (j + 1) (dnX r c j x) (ms ++ [dnM r c j x]) else none
structure MirOK (r j : Nat) (m : Mir) : Prop where
  len : m.1.length = r - j
  w : Words m.1
  t : m.2.1 < 18446744073709551616
  b : m.2.2 < 18446744073709551616
section
variable {r c j : Nat} {x : List Nat} (h : Mx r c x) (hj : j < c) (hjr : j < r)
include h hj hjr
theorem dnM_ok : MirOK r j (dnM r c j x) := by
  have hr := h.hr
  have hw := colL_words h j j
  have hl : (colL r c x j j).length = r - j := colL_len _ _ _ _ _
  exact ⟨(mkV_len hw (by omega) (by omega)).trans hl, mkV_words hw (by omega) (by omega), mkTau_lt hw (by omega) (by omega), mkBeta_lt hw (by omega) (by omega)⟩
theorem dnX_mx : Mx r c (dnX r c j x) := by
  have hm := dnM_ok h hj hjr
  exact clV_mx (apV_mx h hm.w hm.t (i := j) (by rw [hm.len]; omega)) hm.b
theorem dmake_ok : val 239 [Vl (colL r c x j j)] = some (if dnOk r c j x then [Vl (dnM r c j x).1, Vu (dnM r c j x).2.1, Vu (dnM r c j x).2.2, Vi 0] else [Vl [], Vu 0, Vu 0, Vi (if finV (colL r c x j j) then 2 else 4)]) := by
  have hr := h.hr
  have hw := colL_words h j j
  have hl : (colL r c x j j).length = r - j := colL_len _ _ _ _ _
  unfold dnOk dnM
  cases hf : finV (colL r c x j j)
  · rw [make_inf hw (by omega) (by omega) hf]; simp
  · rw [make_ok hw (by omega) (by omega) hf]; simp
theorem dapply_ok : val 238 [Vi r, Vi c, Vl x, Vi j, Vi j, Vl (dnM r c j x).1, Vu (dnM r c j x).2.1] = some [Vi r, Vi c, Vl (apV r c x j j (dnM r c j x).1 (dnM r c j x).2.1), Vi 0] := by
  have hm := dnM_ok h hj hjr
  exact apply_ok h hm.w hm.t (i := j) (by rw [hm.len]; omega) (by omega)
theorem dapply9_ok : val 190 [Vi r, Vi c, Vl x, Vi j, Vi j, Vl (dnM r c j x).1, Vu (dnM r c j x).2.1] = some [Vi r, Vi c, Vl (apV r c x j j (dnM r c j x).1 (dnM r c j x).2.1)] := by
  have hm := dnM_ok h hj hjr
  exact apply9_ok h hm.w hm.t (i := j) (by rw [hm.len]; omega) (by omega)
theorem dapply_mx : Mx r c (apV r c x j j (dnM r c j x).1 (dnM r c j x).2.1) := by
  have hm := dnM_ok h hj hjr
  exact apV_mx h hm.w hm.t (i := j) (by rw [hm.len]; omega)
end
def ML (ms : List Mir) : PV := .l (ms.map mrP)
def ML9 (ms : List Mir) : PV := .l (ms.map mrP9)
theorem ML_nil : Vl [] = ML [] := rfl
theorem ML9_nil : Vl [] = ML9 [] := rfl
theorem len_ML (ms : List Mir) : U.len.den (ML ms) = Vi ms.length := by simp [ML]
theorem len_ML9 (ms : List Mir) : U.len.den (ML9 ms) = Vi ms.length := by simp [ML9]
theorem app_ML (ms : List Mir) (m : Mir) : B.app.den (ML ms) (B.cons.den (U.toA.den (B.cons.den (Vl m.1) (B.cons.den (Vu m.2.1) (Vl [])))) (Vl [])) = ML (ms ++ [m]) := by
  show PV.l (ms.map mrP ++ [.a [Vl m.1, Vu m.2.1]]) = _
  unfold ML; rw [List.map_append]; rfl
theorem app_ML9 (ms : List Mir) (m : Mir) : B.app.den (ML9 ms) (B.cons.den (U.toA.den (B.cons.den (Vl m.1) (B.cons.den (Vu m.2.1) (B.cons.den (Vu m.2.2) (Vl []))))) (Vl [])) = ML9 (ms ++ [m]) := by
  show PV.l (ms.map mrP9 ++ [.a [Vl m.1, Vu m.2.1, Vu m.2.2]]) = _
  unfold ML9; rw [List.map_append]; rfl
def MsOK (r : Nat) (ms : List Mir) : Prop := ∀ j m, ms[j]? = some m → MirOK r j m
theorem MsOK.app {r : Nat} {ms : List Mir} (h : MsOK r ms) {m : Mir} (hm : MirOK r ms.length m) : MsOK r (ms ++ [m]) := by
  intro j m' hj
  rcases Nat.lt_or_ge j ms.length with h1 | h1
  · rw [List.getElem?_append_left h1] at hj; exact h j m' hj
  · rw [List.getElem?_append_right h1] at hj
    have : j = ms.length := by
      rcases Nat.eq_or_lt_of_le h1 with h2 | h2
      · exact h2.symm
      · rw [List.getElem?_eq_none (by simp; omega)] at hj; cases hj
    subst this
    simp at hj; subst hj; exact hm
theorem dnR_mx {r c : Nat} : ∀ (n : Nat) {j : Nat} {x y : List Nat} {ms ms' : List Mir}, j + n ≤ c → j + n ≤ r → Mx r c x → MsOK r ms → ms.length = j → dnR r c n j x ms = some (y, ms') → Mx r c y ∧ MsOK r ms' ∧ ms'.length = j + n
  | 0, j, x, y, ms, ms', _, _, h, hm, hl, he => by
    simp [dnR] at he; obtain ⟨rfl, rfl⟩ := he
    exact ⟨h, hm, by omega⟩
  | n + 1, j, x, y, ms, ms', h1, h2, h, hm, hl, he => by
    unfold dnR at he
    split at he
    · have hd := dnM_ok h (show j < c by omega) (show j < r by omega)
      obtain ⟨a, b, d⟩ := dnR_mx n (j := j + 1) (by omega) (by omega) (dnX_mx h (by omega) (by omega)) (hm.app (by rw [hl]; exact hd)) (by simp [hl]) he
      exact ⟨a, b, by omega⟩
    · cases he
theorem down_loop {r c : Nat} {x0 x1 x2 x3 : PV} : ∀ (n : Nat) {j : Nat} {x : List Nat} {ms : List Mir}, j + n = min c (r - 1) → Mx r c x → ms.length = j →
    match dnR r c n j x ms with
    | some (y, ms') => rounds (fun vs => lo271_1.dv (Vi r :: Vi c :: x2 :: vs)) [x3, Vi j, ML ms, Vi r, Vi c, Vl x] = some (.y (.ext 0) [x3, ML ms', Vi r, Vi c, Vl y])
    | none => ∃ q1 q2 q3 q4, rounds (fun vs => lo271_1.dv (Vi r :: Vi c :: x2 :: vs)) [x3, Vi j, ML ms, Vi r, Vi c, Vl x] = some (.y .ret [q1, q2, q3, q4, Vi 2]) := by
  intro n
  induction n with
  | zero =>
    intro j x ms hj h hl
    have hr := h.hr
    have hc := h.hc
    simp only [dnR]
    refine rounds_exit ?_ (by simp)
    have s1 : (B.sub .i64).den (Vi r) (Vi 1) = Vi ((r : Int) - 1) := sub_i (by omega) (by omega)
    by_cases c1 : j < c
    · simp [lo271_1, TT.dv, c1, s1, show ¬ (j : Int) < r - 1 by omega]
    · simp [lo271_1, TT.dv, c1, s1]
  | succ n ih =>
    intro j x ms hj h hl
    have hr := h.hr
    have hc := h.hc
    have hjc : j < c := by omega
    have hjr : j < r := by omega
    have s1 : (B.sub .i64).den (Vi r) (Vi 1) = Vi ((r : Int) - 1) := sub_i (by omega) (by omega)
    have c1 : (j : Int) < r - 1 := by omega
    have cl := column_ok h hjc (show j ≤ r by omega)
    have mk1 := dmake_ok h hjc hjr
    unfold dnR
    cases hok : dnOk r c j x
    · rw [hok] at mk1
      simp only [Bool.false_eq_true, if_false] at mk1 ⊢
      refine ⟨ML ms, Vi r, Vi c, Vl x, rounds_exit ?_ (by simp)⟩
      by_cases hf : finV (colL r c x j j) = true
      · rw [if_pos hf] at mk1
        simp [lo271_1, TT.dv, hjc, s1, c1, cl, mk1]
      · rw [if_neg hf] at mk1
        simp [lo271_1, TT.dv, hjc, s1, c1, cl, mk1]
    · rw [hok] at mk1
      simp only [if_true] at mk1 ⊢
      have ap := dapply_ok h hjc hjr
      have am := dapply_mx h hjc hjr
      have dm := dnM_ok h hjc hjr
      have p1 := pos_i (i := j) (c := c) (k := j) (by omega) (by omega) (by omega)
      have l1 := am.lt hjr hjc
      have e1 : (B.add .i64).den (Vi j) (Vi 1) = Vi ((j + 1 : Nat) : Int) := by rw [add_i (by omega) (by omega)]; rfl
      have lp := fun x0 x1 x2 x3 x5 x6 x7 x8 x9 x10 x11 x12 x13 x16 x17 => cl_loop hjr hjc (x0 := x0) (x1 := x1) (x2 := x2) (x3 := x3) (x5 := x5) (x6 := x6) (x7 := x7) (x8 := x8) (x9 := x9) (x10 := x10) (x11 := x11) (x12 := x12) (x13 := x13) (x16 := x16) (x17 := x17) (r - (j + 1)) (i := j + 1) (by omega) (am.set (p := ps j c j) dm.b)
      have hap := app_ML ms (dnM r c j x)
      have l2 : ((ms.length + 1 : Nat) : Int) ≤ 4398046511104 := by omega
      have hlen := len_ML (ms ++ [dnM r c j x])
      rw [List.length_append, show [dnM r c j x].length = 1 from rfl] at hlen
      have key : rounds (fun vs => lo271_1.dv (Vi r :: Vi c :: x2 :: vs)) [x3, Vi j, ML ms, Vi r, Vi c, Vl x] = rounds (fun vs => lo271_1.dv (Vi r :: Vi c :: x2 :: vs)) [x3, Vi ((j + 1 : Nat) : Int), ML (ms ++ [dnM r c j x]), Vi r, Vi c, Vl (dnX r c j x)] := by
        refine rounds_cont ?_
        unfold dnX clV
        generalize ((j + 1 : Nat) : Int) = z at *
        generalize ((ms.length + 1 : Nat) : Int) = w at *
        simp [lo271_1, TT.dv, KS.dv, hjc, s1, c1, cl, mk1, ap, p1, l1, e1, set_V, lp, hap, hlen, l2]
      rw [key]
      exact ih (j := j + 1) (by omega) (dnX_mx h hjc hjr) (by simp [hl])
end Go.Proofs.YthchhkghjfendabGreat.Dx

namespace Go.Proofs.YthchhkghjfendabGreat.Dx
open Go

def dnA (r c : Nat) (x : List Nat) : Option (List Nat × List Mir) := dnR r c (min c (r - 1)) 0 x []
theorem down_ok {r c : Nat} {x : List Nat} (h : Mx r c x) : val 271 [Vi r, Vi c, Vl x] = some (match dnA r c x with | some (y, ms) => [Vi r, Vi c, Vl y, ML ms, Vi 0] | none => [Vi 0, Vi 0, Vl [], Vl [], Vi 2]) := by
  refine val_of tab271 ?_
  have lp := fun x2 x3 => down_loop (x0 := x2) (x1 := x2) (x2 := x2) (x3 := x3) (min c (r - 1)) (j := 0) (ms := []) (by omega) h rfl
  unfold dnA
  cases hd : dnR r c (min c (r - 1)) 0 x [] with
  | none =>
    rw [hd] at lp
    obtain ⟨q1, q2, q3, q4, lp⟩ := lp (Vl x) (Vi 0)
    rw [show ((0 : Nat) : Int) = 0 from rfl, ← ML_nil] at lp
    simp [tr271, TT.dv, KS.dv, lp]
  | some p =>
    obtain ⟨y, ms⟩ := p
    rw [hd] at lp
    have lp := lp (Vl x) (Vi 0)
    simp only [show ((0 : Nat) : Int) = 0 from rfl, ← ML_nil] at lp
    simp [tr271, TT.dv, KS.dv, lp]
theorem dnA_mx {r c : Nat} {x y : List Nat} {ms : List Mir} (h : Mx r c x) (he : dnA r c x = some (y, ms)) : Mx r c y ∧ MsOK r ms ∧ ms.length = min c (r - 1) := by
  obtain ⟨a, b, d⟩ := dnR_mx (min c (r - 1)) (j := 0) (by omega) (by omega) h (fun j m hj => by simp at hj) rfl he
  exact ⟨a, b, by omega⟩
def mir (ms : List Mir) (n : Nat) : Mir := ms.getD n ([], 0, 0)
theorem mir_some {ms : List Mir} {n : Nat} (h : n < ms.length) : ms[n]? = some (mir ms n) := by
  unfold mir; rw [List.getD_eq_getElem?_getD, List.getElem?_eq_getElem h]; rfl
theorem get_ML {ms : List Mir} {n : Nat} (h : n < ms.length) : B.get.den (ML ms) (Vi n) = .a [Vl (mir ms n).1, Vu (mir ms n).2.1] := by
  show (PV.l (ms.map mrP)).list.getD (Vi n).int.toNat default = _
  rw [int_I, Int.toNat_natCast, PV.list, List.getD_eq_getElem?_getD, List.getElem?_map, mir_some h]; rfl
theorem get_ML9 {ms : List Mir} {n : Nat} (h : n < ms.length) : B.get.den (ML9 ms) (Vi n) = .a [Vl (mir ms n).1, Vu (mir ms n).2.1, Vu (mir ms n).2.2] := by
  show (PV.l (ms.map mrP9)).list.getD (Vi n).int.toNat default = _
  rw [int_I, Int.toNat_natCast, PV.list, List.getD_eq_getElem?_getD, List.getElem?_map, mir_some h]; rfl
def backR (r : Nat) (ms : List Mir) : Nat → List Nat → List Nat
  | 0, q => q
  | n + 1, q => backR r ms n (apV r r q n 0 (mir ms n).1 (mir ms n).2.1)
section
variable {r : Nat} {ms : List Mir} (hms : MsOK r ms) (hml : ms.length ≤ r)
include hms hml
theorem mir_ok {n : Nat} (h : n < ms.length) : MirOK r n (mir ms n) := hms n _ (mir_some h)
theorem back_step_mx {q : List Nat} (hq : Mx r r q) {n : Nat} (h : n < ms.length) : Mx r r (apV r r q n 0 (mir ms n).1 (mir ms n).2.1) := by
  have hm := mir_ok hms hml h
  exact apV_mx hq hm.w hm.t (i := n) (by rw [hm.len]; omega)
theorem backR_mx : ∀ (n : Nat) {q : List Nat}, n ≤ ms.length → Mx r r q → Mx r r (backR r ms n q)
  | 0, _, _, hq => hq
  | n + 1, q, h, hq => backR_mx n (by omega) (back_step_mx hms hml hq (show n < ms.length by omega))
theorem back_ap {q : List Nat} (hq : Mx r r q) {n : Nat} (h : n < ms.length) : val 238 [Vi r, Vi r, Vl q, Vi n, Vi 0, Vl (mir ms n).1, Vu (mir ms n).2.1] = some [Vi r, Vi r, Vl (apV r r q n 0 (mir ms n).1 (mir ms n).2.1), Vi 0] := by
  have hm := mir_ok hms hml h
  have := apply_ok hq hm.w hm.t (i := n) (by rw [hm.len]; omega) (k := 0) (by omega)
  exact this
theorem back_ap9 {q : List Nat} (hq : Mx r r q) {n : Nat} (h : n < ms.length) : val 190 [Vi r, Vi r, Vl q, Vi n, Vi 0, Vl (mir ms n).1, Vu (mir ms n).2.1] = some [Vi r, Vi r, Vl (apV r r q n 0 (mir ms n).1 (mir ms n).2.1)] := by
  have hm := mir_ok hms hml h
  have := apply9_ok hq hm.w hm.t (i := n) (by rw [hm.len]; omega) (k := 0) (by omega)
  exact this
theorem back_loop {x0 x1 x2 x3 x4 x5 x6 x8 x9 x10 x11 x12 : PV} : ∀ (n : Nat) {q : List Nat}, n ≤ ms.length → Mx r r q →
    rounds (fun vs => lo268_1.dv (x0 :: x1 :: x2 :: x3 :: x4 :: x5 :: x6 :: ML ms :: x8 :: x9 :: x10 :: x11 :: x12 :: vs)) [Vi 0, Vi ((n : Int) - 1), Vi r, Vi r, Vl q] = some (.y (.ext 0) [Vi 0, Vi r, Vi r, Vl (backR r ms n q)]) := by
  intro n
  induction n with
  | zero =>
    intro q hn hq
    refine rounds_exit ?_ (by simp)
    simp [lo268_1, TT.dv, backR]
  | succ n ih =>
    intro q hn hq
    have hlt : n < ms.length := by omega
    refine Eq.trans (rounds_cont ?_) (ih (by omega) (back_step_mx hms hml hq hlt))
    have hr := hq.hr
    have e0 : ((n + 1 : Nat) : Int) - 1 = (n : Int) := by omega
    have e1 : (B.sub .i64).den (Vi n) (Vi 1) = Vi ((n : Int) - 1) := sub_i (by omega) (by omega)
    have a1 := back_ap hms hml hq hlt
    have g1 := get_ML hlt
    have l1 := len_ML ms
    have f0 : ∀ a b : PV, (U.fld 0).den (PV.a [a, b]) = a := fun _ _ => rfl
    have f1 : ∀ a b : PV, (U.fld 1).den (PV.a [a, b]) = b := fun _ _ => rfl
    rw [e0]
    simp [lo268_1, TT.dv, hlt, e1, a1, g1, l1, f0, f1, show ¬ (n : Int) < 0 by omega]
theorem back9_loop {x0 x1 x2 x4 x5 x6 x7 x8 x9 : PV} : ∀ (n : Nat) {q : List Nat}, n ≤ ms.length → Mx r r q →
    rounds (fun vs => lo195_2.dv (x0 :: x1 :: x2 :: ML9 ms :: x4 :: x5 :: x6 :: x7 :: x8 :: x9 :: vs)) [Vi ((n : Int) - 1), Vi r, Vi r, Vl q] = some (.y (.ext 2) [Vi r, Vi r, Vl (backR r ms n q)]) := by
  intro n
  induction n with
  | zero =>
    intro q hn hq
    refine rounds_exit ?_ (by simp)
    simp [lo195_2, TT.dv, backR]
  | succ n ih =>
    intro q hn hq
    have hlt : n < ms.length := by omega
    refine Eq.trans (rounds_cont ?_) (ih (by omega) (back_step_mx hms hml hq hlt))
    have hr := hq.hr
    have e0 : ((n + 1 : Nat) : Int) - 1 = (n : Int) := by omega
    have e1 : (B.sub .i64).den (Vi n) (Vi 1) = Vi ((n : Int) - 1) := sub_i (by omega) (by omega)
    have a1 := back_ap9 hms hml hq hlt
    have g1 := get_ML9 hlt
    have l1 := len_ML9 ms
    have f0 : ∀ a b c : PV, (U.fld 0).den (PV.a [a, b, c]) = a := fun _ _ _ => rfl
    have f1 : ∀ a b c : PV, (U.fld 1).den (PV.a [a, b, c]) = b := fun _ _ _ => rfl
    rw [e0]
    simp [lo195_2, TT.dv, hlt, e1, a1, g1, l1, f0, f1]
end
theorem down9_loop {r c : Nat} {x0 x1 x2 x3 : PV} : ∀ (n : Nat) {j : Nat} {x : List Nat} {ms : List Mir}, j + n = min c (r - 1) → Mx r c x → ms.length = j →
    match dnR r c n j x ms with
    | some (y, ms') => rounds (fun vs => lo195_1.dv (Vi r :: Vi c :: x2 :: vs)) [Vi j, ML9 ms, Vi r, Vi c, Vl x] = some (.y (.ext 0) [ML9 ms', Vi r, Vi c, Vl y])
    | none => ∃ q1 q2 q3 q4, rounds (fun vs => lo195_1.dv (Vi r :: Vi c :: x2 :: vs)) [Vi j, ML9 ms, Vi r, Vi c, Vl x] = some (.y .ret [q1, q2, q3, q4]) := by
  intro n
  induction n with
  | zero =>
    intro j x ms hj h hl
    have hr := h.hr
    have hc := h.hc
    simp only [dnR]
    refine rounds_exit ?_ (by simp)
    have s1 : (B.sub .i64).den (Vi r) (Vi 1) = Vi ((r : Int) - 1) := sub_i (by omega) (by omega)
    by_cases c1 : j < c
    · simp [lo195_1, TT.dv, c1, s1, show ¬ (j : Int) < r - 1 by omega]
    · simp [lo195_1, TT.dv, c1, s1]
  | succ n ih =>
    intro j x ms hj h hl
    have hr := h.hr
    have hc := h.hc
    have hjc : j < c := by omega
    have hjr : j < r := by omega
    have s1 : (B.sub .i64).den (Vi r) (Vi 1) = Vi ((r : Int) - 1) := sub_i (by omega) (by omega)
    have c1 : (j : Int) < r - 1 := by omega
    have cl := column9_ok h hjc (show j ≤ r by omega)
    have hw := colL_words h j j
    have hcl : (colL r c x j j).length = r - j := colL_len _ _ _ _ _
    have f9 := finite_9_ok hw (by omega)
    unfold dnR
    cases hok : dnOk r c j x
    · simp only [Bool.false_eq_true, if_false]
      refine ⟨ML9 ms, Vi r, Vi c, Vl x, rounds_exit ?_ (by simp)⟩
      unfold dnOk at hok
      cases hf : finV (colL r c x j j)
      · rw [hf] at f9
        simp [lo195_1, TT.dv, hjc, s1, c1, cl, f9]
      · rw [hf] at f9 hok
        have mk1 := make9_ok hw (by omega) (by omega) hf
        simp only [Bool.true_and] at hok
        rw [hok] at mk1
        simp only [Bool.false_eq_true, if_false] at mk1
        simp [lo195_1, TT.dv, hjc, s1, c1, cl, f9, mk1]
    · simp only [if_true]
      have hok2 := hok
      unfold dnOk at hok2
      obtain ⟨hf, hmk⟩ := (Bool.and_eq_true_iff).1 hok2
      rw [hf] at f9
      have mk1 := make9_ok hw (by omega) (by omega) hf
      rw [hmk] at mk1
      simp only [if_true] at mk1
      have mk1 : val 192 [Vl (colL r c x j j)] = some [Vl (dnM r c j x).1, Vu (dnM r c j x).2.1, Vu (dnM r c j x).2.2, Vb true] := mk1
      have ap := dapply9_ok h hjc hjr
      have am := dapply_mx h hjc hjr
      have dm := dnM_ok h hjc hjr
      have cd := cleared_ok hjr hjc am dm.b
      have e1 : (B.add .i64).den (Vi j) (Vi 1) = Vi ((j + 1 : Nat) : Int) := by rw [add_i (by omega) (by omega)]; rfl
      have hap := app_ML9 ms (dnM r c j x)
      have l2 : ((ms.length + 1 : Nat) : Int) ≤ 3518437208883 := by omega
      have hlen := len_ML9 (ms ++ [dnM r c j x])
      rw [List.length_append, show [dnM r c j x].length = 1 from rfl] at hlen
      have key : rounds (fun vs => lo195_1.dv (Vi r :: Vi c :: x2 :: vs)) [Vi j, ML9 ms, Vi r, Vi c, Vl x] = rounds (fun vs => lo195_1.dv (Vi r :: Vi c :: x2 :: vs)) [Vi ((j + 1 : Nat) : Int), ML9 (ms ++ [dnM r c j x]), Vi r, Vi c, Vl (dnX r c j x)] := by
        refine rounds_cont ?_
        unfold dnX
        generalize ((j + 1 : Nat) : Int) = z at *
        generalize ((ms.length + 1 : Nat) : Int) = w at *
        simp [lo195_1, TT.dv, KS.dv, hjc, s1, c1, cl, f9, mk1, ap, cd, e1, hap, hlen, l2]
      rw [key]
      exact ih (j := j + 1) (by omega) (dnX_mx h hjc hjr) (by simp [hl])
def qrQ (r : Nat) (ms : List Mir) : List Nat := backR r ms ms.length (eyV r)
/-- Both factors, where there are any. -/
def qrR (r c : Nat) (x : List Nat) : Option (List Nat × List Nat) :=
  match dnA r c x with
  | none => none
  | some (y, ms) => if finV (qrQ r ms) && finV y then some (qrQ r ms, y) else none
theorem qrR_mx {r c : Nat} {x q y : List Nat} (h : Mx r c x) (he : qrR r c x = some (q, y)) : Mx r r q ∧ Mx r c y := by
  unfold qrR at he
  split at he
  · cases he
  · rename_i y' ms hd
    obtain ⟨hy, hms, hml⟩ := dnA_mx h hd
    split at he
    · simp at he; obtain ⟨rfl, rfl⟩ := he
      exact ⟨backR_mx hms (by omega) _ (Nat.le_refl _) (eyV_mx h.hr), hy⟩
    · cases he
theorem factor_ok {r c : Nat} {x : List Nat} (h : Mx r c x) (hf : finV x = true) : val 268 [Vi r, Vi c, Vl x] = some (match qrR r c x with | some (q, y) => [Vi r, Vi r, Vl q, Vi r, Vi c, Vl y, Vi 0] | none => [Vi 0, Vi 0, Vl [], Vi 0, Vi 0, Vl [], Vi 2]) := by
  refine val_of tab268 ?_
  have hr := h.hr
  have hs := h.small
  have h1 := ccheck_ok r c (x := x) (by omega)
  unfold chk at h1
  rw [if_pos (mx_right h), if_pos hf] at h1
  have h2 := down_ok h
  unfold qrR
  cases hd : dnA r c x with
  | none =>
    rw [hd] at h2
    simp only at h2
    simp [tr268, TT.dv, KS.dv, h1, h2, show (x.length : Int) ≤ 17592186044416 by omega]
  | some p =>
    obtain ⟨y, ms⟩ := p
    rw [hd] at h2
    simp only at h2
    obtain ⟨hy, hms, hml⟩ := dnA_mx h hd
    have hle : ms.length ≤ r := by omega
    have h3 := eye_ok hr
    have hq : Mx r r (qrQ r ms) := backR_mx hms hle _ (Nat.le_refl _) (eyV_mx h.hr)
    have lp := fun x0 x1 x2 x3 x4 x5 x6 x8 x9 x10 x11 x12 => back_loop hms hle (x0 := x0) (x1 := x1) (x2 := x2) (x3 := x3) (x4 := x4) (x5 := x5) (x6 := x6) (x8 := x8) (x9 := x9) (x10 := x10) (x11 := x11) (x12 := x12) ms.length (Nat.le_refl _) (eyV_mx hr)
    rw [show backR r ms ms.length (eyV r) = qrQ r ms from rfl] at lp
    have f1 := finite_v_ok hq.w (by have := hq.small; omega)
    have f2 := finite_v_ok hy.w (by have := hy.small; omega)
    have l1 := len_ML ms
    have s1 : (B.sub .i64).den (Vi ms.length) (Vi 1) = Vi ((ms.length : Int) - 1) := sub_i (by omega) (by omega)
    cases c1 : finV (qrQ r ms)
    · rw [c1] at f1
      simp [tr268, TT.dv, KS.dv, h1, h2, h3, show (x.length : Int) ≤ 17592186044416 by omega, lp, l1, s1, f1, c1]
    · cases c2 : finV y <;> rw [c1] at f1 <;> rw [c2] at f2 <;>
      simp [tr268, TT.dv, KS.dv, h1, h2, h3, show (x.length : Int) ≤ 17592186044416 by omega, lp, l1, s1, f1, f2, c1, c2]
theorem factor9_ok {r c : Nat} {x : List Nat} (h : Mx r c x) : val 195 [Vi r, Vi c, Vl x] = some (match qrR r c x with | some (q, y) => [Vi r, Vi r, Vl q, Vi r, Vi c, Vl y, Vb true] | none => [Vi 0, Vi 0, Vl [], Vi 0, Vi 0, Vl [], Vb false]) := by
  refine val_of tab195 ?_
  have hr := h.hr
  have lp := fun x2 => down9_loop (x0 := x2) (x1 := x2) (x2 := x2) (x3 := x2) (min c (r - 1)) (j := 0) (ms := []) (by omega) h rfl
  unfold qrR
  cases hd : dnA r c x with
  | none =>
    unfold dnA at hd
    rw [hd] at lp
    obtain ⟨q1, q2, q3, q4, lp⟩ := lp (Vl x)
    rw [show ((0 : Nat) : Int) = 0 from rfl, ← ML9_nil] at lp
    simp [tr195, TT.dv, KS.dv, lp]
  | some p =>
    obtain ⟨y, ms⟩ := p
    obtain ⟨hy, hms, hml⟩ := dnA_mx h hd
    unfold dnA at hd
    rw [hd] at lp
    have lp := lp (Vl x)
    simp only [show ((0 : Nat) : Int) = 0 from rfl, ← ML9_nil] at lp
    have hle : ms.length ≤ r := by omega
    have h3 := eye9_ok hr
    have hq : Mx r r (qrQ r ms) := backR_mx hms hle _ (Nat.le_refl _) (eyV_mx h.hr)
    have lp2 := fun x0 x1 x2 x4 x5 x6 x7 x8 x9 => back9_loop hms hle (x0 := x0) (x1 := x1) (x2 := x2) (x4 := x4) (x5 := x5) (x6 := x6) (x7 := x7) (x8 := x8) (x9 := x9) ms.length (Nat.le_refl _) (eyV_mx hr)
    rw [show backR r ms ms.length (eyV r) = qrQ r ms from rfl] at lp2
    have f1 := finite_9_ok hq.w (by have := hq.small; omega)
    have f2 := finite_9_ok hy.w (by have := hy.small; omega)
    have l1 := len_ML9 ms
    have s1 : (B.sub .i64).den (Vi ms.length) (Vi 1) = Vi ((ms.length : Int) - 1) := sub_i (by omega) (by omega)
    cases c1 : finV (qrQ r ms)
    · rw [c1] at f1
      simp [tr195, TT.dv, KS.dv, h3, lp, lp2, l1, s1, f1, c1]
    · cases c2 : finV y <;> rw [c1] at f1 <;> rw [c2] at f2 <;>
      simp [tr195, TT.dv, KS.dv, h3, lp, lp2, l1, s1, f1, f2, c1, c2]
end Go.Proofs.YthchhkghjfendabGreat.Dx

namespace Go.Proofs.YthchhkghjfendabGreat.Dx
open Go

theorem same_nil : val 174 [Vi 0, Vi 0, Vl [], Vi 0, Vi 0, Vl []] = some [Vb true] := same_m 0 0 (x := []) (by decide)
theorem chk_cases (R C : Int) (x : List Nat) : chk R C x ≠ 0 ∨ (chk R C x = 0 ∧ rightP R C x ∧ finV x = true) := by
  unfold chk
  by_cases h : rightP R C x
  · rw [if_pos h]
    cases hf : finV x
    · left; simp
    · right; exact ⟨by simp, h, rfl⟩
  · rw [if_neg h]; left; decide
end Go.Proofs.YthchhkghjfendabGreat.Dx

namespace Go.Proofs.YthchhkghjfendabGreat.Dx
open Go

section
variable {r c : Nat} {y : List Nat} (h : Mx r c y) (hu : ∀ a b, b < a → a < r → b < c → el y (ps a c b) = 0)
include h hu
end
end Go.Proofs.YthchhkghjfendabGreat.Dx

namespace Go.Proofs.YthchhkghjfendabGreat.Dx
open Go

section
variable {r c : Nat} {x : List Nat} (h : Mx r c x) {up over : Bool}
include h
end
section
variable {r c : Nat} {y : List Nat} (h : Mx r c y)
include h
end
end Go.Proofs.YthchhkghjfendabGreat.Dx

namespace Go.Proofs.YthchhkghjfendabGreat.Dx
open Go

theorem awake_18 : val 76 [] = some [Vb true] := val_iff.2 ⟨20000, by kernel_rfl⟩
end Go.Proofs.YthchhkghjfendabGreat.Dx

namespace Go.Proofs.YthchhkghjfendabGreat.Dx
open Go

theorem hat_ok {r c : Nat} {x : List Nat} (h : Mx r c x) {i k : Nat} (hi : i < r) (hk : k < c) : val 235 [Vi r, Vi c, Vl x, Vi i, Vi k] = some [Vu (el x (ps i c k))] := by
  refine val_of tab235 ?_
  have h1 := h.hr
  have h2 := h.hc
  have e1 := pos_i (i := i) (c := c) (k := k) (by omega) (by omega) (by omega)
  have hl := h.lt hi hk
  simp [tr235, TT.dv, e1, hl, get_V hl]
section
variable {n : Nat} {x : List Nat} (h : Mx n n x)
include h
end
def chI (c b : Nat) : Nat → Nat → List Nat → List Nat
  | 0, _, m => m
  | n + 1, i, m => chI c b n (i + 1) (fin1 (fun k => ps i c k) (fun _ => 0) (i - b) 0 m)
theorem fin0_mx {r c : Nat} {pos : Nat → Nat} : ∀ (n k : Nat) {m : List Nat}, Mx r c m → Mx r c (fin1 pos (fun _ => 0) n k m)
  | 0, _, _, h => h
  | n + 1, k, m, h => fin0_mx n (k + 1) (h.set (p := pos k) (v := 0) (by decide))
theorem chI_mx {r c b : Nat} : ∀ (n i : Nat) {m : List Nat}, Mx r c m → Mx r c (chI c b n i m)
  | 0, _, _, h => h
  | n + 1, i, m, h => chI_mx n (i + 1) (fin0_mx _ _ h)
def clH (n b : Nat) (m : List Nat) : List Nat := chI n b n 0 m
theorem clH_mx {n b : Nat} {m : List Nat} (h : Mx n n m) : Mx n n (clH n b m) := chI_mx _ _ h
section
variable {n b : Nat} (hb : b ≤ 1)
include hb
theorem ch_in {i : Nat} (hi : i < n) {x2 x5 : PV} : ∀ (t : Nat) {k : Nat} {m : List Nat}, k + t = i - b → Mx n n m →
    rounds (fun vs => lo236_2.dv (Vi n :: Vi n :: x2 :: Vi b :: Vi i :: x5 :: vs)) [Vi k, Vl m] = some (.y (.ext 2) [Vl (fin1 (fun k => ps i n k) (fun _ => 0) t k m)]) := by
  intro t
  induction t with
  | zero =>
    intro k m hk h
    have hn := h.hr
    have e2 : (B.add .i64).den (Vi k) (Vi b) = Vi ((k + b : Nat) : Int) := by rw [add_i (by omega) (by omega)]; exact congrArg Vi (by omega)
    refine rounds_exit ?_ (by simp)
    have e3 : ¬ ((k + b : Nat) : Int) < i := by omega
    generalize ((k + b : Nat) : Int) = z at *
    simp [lo236_2, TT.dv, e2, e3, fin1]
  | succ t ih =>
    intro k m hk h
    have hn := h.hr
    have hkn : k < n := by omega
    refine Eq.trans (rounds_cont ?_) (ih (k := k + 1) (by omega) (h.set (p := ps i n k) (v := 0) (by decide)))
    have e1 : (B.add .i64).den (Vi k) (Vi 1) = Vi (k + 1) := add_i (by omega) (by omega)
    have e2 : (B.add .i64).den (Vi k) (Vi b) = Vi ((k + b : Nat) : Int) := by rw [add_i (by omega) (by omega)]; exact congrArg Vi (by omega)
    have p1 := pos_i (i := i) (c := n) (k := k) (by omega) (by omega) (by omega)
    have l1 := h.lt hi hkn
    have e3 : ((k + b : Nat) : Int) < i := by omega
    generalize ((k + b : Nat) : Int) = z at *
    simp [lo236_2, TT.dv, e1, e2, e3, p1, l1, set_V]
theorem ch_out {x2 : PV} : ∀ (t : Nat) {i : Nat} {m : List Nat}, i + t = n → Mx n n m →
    rounds (fun vs => lo236_1.dv (Vi n :: Vi n :: x2 :: Vi b :: vs)) [Vi i, Vl m] = some (.y (.ext 0) [Vl (chI n b t i m)]) := by
  intro t
  induction t with
  | zero =>
    intro i m hi h
    have : i = n := by omega
    subst this
    refine rounds_exit ?_ (by simp)
    simp [lo236_1, TT.dv, chI]
  | succ t ih =>
    intro i m hi h
    have hn := h.hr
    have hin : i < n := by omega
    refine Eq.trans (rounds_cont ?_) (ih (i := i + 1) (by omega) (fin0_mx (i - b) 0 h))
    have e1 : (B.add .i64).den (Vi i) (Vi 1) = Vi (i + 1) := add_i (by omega) (by omega)
    have lp := fun x5 => ch_in hb hin (x2 := x2) (x5 := x5) (i - b) (k := 0) (m := m) (by omega) h
    simp only [show ((0 : Nat) : Int) = 0 from rfl] at lp
    simp [lo236_1, TT.dv, KS.dv, hin, e1, lp]
theorem clh_ok {m : List Nat} (h : Mx n n m) : val 236 [Vi n, Vi n, Vl m, Vi b] = some [Vl (clH n b m)] := by
  refine val_of tab236 ?_
  have lp := fun x2 => ch_out hb (x2 := x2) n (i := 0) (m := m) (by omega) h
  simp only [show ((0 : Nat) : Int) = 0 from rfl] at lp
  simp [tr236, TT.dv, KS.dv, lp, clH]
theorem ch9_in {i : Nat} (hi : i < n) {x0 x1 x2 x5 x6 x7 : PV} : ∀ (t : Nat) {k : Nat} {m : List Nat}, k + t = i - b → Mx n n m →
    rounds (fun vs => lo217_2.dv (x0 :: x1 :: x2 :: Vi b :: Vi i :: x5 :: x6 :: x7 :: vs)) [Vi k, Vi n, Vi n, Vl m] = some (.y (.ext 2) [Vi n, Vi n, Vl (fin1 (fun k => ps i n k) (fun _ => 0) t k m)]) := by
  intro t
  induction t with
  | zero =>
    intro k m hk h
    have hn := h.hr
    have e2 : (B.sub .i64).den (Vi i) (Vi b) = Vi ((i : Int) - b) := sub_i (by omega) (by omega)
    refine rounds_exit ?_ (by simp)
    simp [lo217_2, TT.dv, e2, show ¬ (k : Int) < i - b by omega, fin1]
  | succ t ih =>
    intro k m hk h
    have hn := h.hr
    have hkn : k < n := by omega
    refine Eq.trans (rounds_cont ?_) (ih (k := k + 1) (by omega) (h.set (p := ps i n k) (v := 0) (by decide)))
    have e1 : (B.add .i64).den (Vi k) (Vi 1) = Vi (k + 1) := add_i (by omega) (by omega)
    have e2 : (B.sub .i64).den (Vi i) (Vi b) = Vi ((i : Int) - b) := sub_i (by omega) (by omega)
    have w1 := with_ok h (i := i) (k := k) (b := 0) hi hkn
    simp [lo217_2, TT.dv, e1, e2, show (k : Int) < i - b by omega, w1]
theorem ch9_out {x0 x1 x2 : PV} : ∀ (t : Nat) {i : Nat} {m : List Nat}, i + t = n → Mx n n m →
    rounds (fun vs => lo217_1.dv (x0 :: x1 :: x2 :: Vi b :: vs)) [Vi i, Vi n, Vi n, Vl m] = some (.y (.ext 0) [Vi n, Vi n, Vl (chI n b t i m)]) := by
  intro t
  induction t with
  | zero =>
    intro i m hi h
    have : i = n := by omega
    subst this
    refine rounds_exit ?_ (by simp)
    simp [lo217_1, TT.dv, chI]
  | succ t ih =>
    intro i m hi h
    have hn := h.hr
    have hin : i < n := by omega
    refine Eq.trans (rounds_cont ?_) (ih (i := i + 1) (by omega) (fin0_mx (i - b) 0 h))
    have e1 : (B.add .i64).den (Vi i) (Vi 1) = Vi (i + 1) := add_i (by omega) (by omega)
    have lp := fun x5 x6 x7 => ch9_in hb hin (x0 := x0) (x1 := x1) (x2 := x2) (x5 := x5) (x6 := x6) (x7 := x7) (i - b) (k := 0) (m := m) (by omega) h
    simp only [show ((0 : Nat) : Int) = 0 from rfl] at lp
    simp [lo217_1, TT.dv, KS.dv, hin, e1, lp]
theorem clh9_ok {m : List Nat} (h : Mx n n m) : val 217 [Vi n, Vi n, Vl m, Vi b] = some [Vi n, Vi n, Vl (clH n b m)] := by
  refine val_of tab217 ?_
  have lp := fun x0 x1 x2 => ch9_out hb (x0 := x0) (x1 := x1) (x2 := x2) n (i := 0) (m := m) (by omega) h
  simp only [show ((0 : Nat) : Int) = 0 from rfl] at lp
  simp [tr217, TT.dv, KS.dv, lp, clH]
end
end Go.Proofs.YthchhkghjfendabGreat.Dx

namespace Go.Proofs.YthchhkghjfendabGreat.Dx
open Go

/-- What two matrices are brought to: H, T, Q, Z. -/
structure Q4 where
  H : List Nat
  T : List Nat
  Q : List Nat
  Z : List Nat
structure Mx4 (n : Nat) (s : Q4) : Prop where
  H : Mx n n s.H
  T : Mx n n s.T
  Q : Mx n n s.Q
  Z : Mx n n s.Z
def hrF (n i j : Nat) (s : Q4) : Nat := el s.H (ps (i - 1) n j)
def hrG (n i j : Nat) (s : Q4) : Nat := el s.H (ps i n j)
def hrV (n i j : Nat) (s : Q4) (C S r : Nat) : Q4 :=
  ⟨((rowV s.H n (i - 1) i C S).set (ps (i - 1) n j) r).set (ps i n j) 0, rowV s.T n (i - 1) i C S, colV n n s.Q (i - 1) i C S, s.Z⟩
def hsR (n i j : Nat) (s : Q4) : Q4 := hrV n i j s (turnC (hrF n i j s) (hrG n i j s)) (turnS (hrF n i j s) (hrG n i j s)) (turnR (hrF n i j s) (hrG n i j s))
def hcF (n i : Nat) (s : Q4) : Nat := el s.T (ps i n i)
def hcG (n i : Nat) (s : Q4) : Nat := el s.T (ps i n (i - 1))
def hcV (n i : Nat) (s : Q4) (C S r : Nat) : Q4 :=
  ⟨colV n n s.H i (i - 1) C S, ((colV n n s.T i (i - 1) C S).set (ps i n i) r).set (ps i n (i - 1)) 0, s.Q, colV n n s.Z i (i - 1) C S⟩
def hsC (n i : Nat) (s : Q4) : Q4 := hcV n i s (turnC (hcF n i s) (hcG n i s)) (turnS (hcF n i s) (hcG n i s)) (turnR (hcF n i s) (hcG n i s))
def finP (a b : Nat) : Bool := decide (¬ (fPow a = 2047 ∨ fPow b = 2047))
def hsS (n i j : Nat) (s : Q4) : Option Q4 :=
  if finP (hrF n i j s) (hrG n i j s) then (if finP (hcF n i (hsR n i j s)) (hcG n i (hsR n i j s)) then some (hsC n i (hsR n i j s)) else none) else none
theorem turn_lt {f g : Nat} (hf : f < 18446744073709551616) (hg : g < 18446744073709551616) : turnC f g < 18446744073709551616 ∧ turnS f g < 18446744073709551616 ∧ turnR f g < 18446744073709551616 := by
  refine ⟨?_, ?_, ?_⟩
  · unfold turnC; split; decide; split; decide; exact divV_lt
  · unfold turnS; split; decide; split; decide; exact divV_lt
  · unfold turnR; split; exact hf; split; exact hg; exact scaleV_lt (tN_lt hf hg) _
section
variable {n i : Nat} (hi : 1 ≤ i) (hin : i < n)
include hi hin
theorem hrV_mx {j : Nat} {s : Q4} (h : Mx4 n s) {C S r : Nat} (hC : C < 18446744073709551616) (hS : S < 18446744073709551616) (hr : r < 18446744073709551616) : Mx4 n (hrV n i j s C S r) :=
  ⟨((rowV_mx h.H hC hS (i := i - 1) (k := i) (by omega) hin).set hr).set (by decide), rowV_mx h.T hC hS (i := i - 1) (k := i) (by omega) hin, colV_mx h.Q hC hS (i := i - 1) (k := i) (by omega) hin, h.Z⟩
theorem hcV_mx {s : Q4} (h : Mx4 n s) {C S r : Nat} (hC : C < 18446744073709551616) (hS : S < 18446744073709551616) (hr : r < 18446744073709551616) : Mx4 n (hcV n i s C S r) :=
  ⟨colV_mx h.H hC hS (i := i) (k := i - 1) hin (by omega), ((colV_mx h.T hC hS (i := i) (k := i - 1) hin (by omega)).set hr).set (by decide), h.Q, colV_mx h.Z hC hS (i := i) (k := i - 1) hin (by omega)⟩
theorem hsR_mx {j : Nat} {s : Q4} (h : Mx4 n s) : Mx4 n (hsR n i j s) := by
  obtain ⟨a, b, c⟩ := turn_lt (f := hrF n i j s) (g := hrG n i j s) (h.H.w.el _) (h.H.w.el _)
  exact hrV_mx hi hin h a b c
theorem hsC_mx {s : Q4} (h : Mx4 n s) : Mx4 n (hsC n i s) := by
  obtain ⟨a, b, c⟩ := turn_lt (f := hcF n i s) (g := hcG n i s) (h.T.w.el _) (h.T.w.el _)
  exact hcV_mx hi hin h a b c
theorem hsS_mx {j : Nat} {s s' : Q4} (h : Mx4 n s) (he : hsS n i j s = some s') : Mx4 n s' := by
  unfold hsS at he
  split at he
  · split at he
    · cases he; exact hsC_mx hi hin (hsR_mx hi hin h)
    · cases he
  · cases he
theorem hrows_ok {j : Nat} (hj : j < n) {s : Q4} (h : Mx4 n s) : val 1 [Vi n, Vi n, Vl s.H, Vi n, Vi n, Vl s.T, Vi n, Vi n, Vl s.Q, Vi n, Vi n, Vl s.Z, Vi i, Vi j] =
    some (if finP (hrF n i j s) (hrG n i j s) then [Vi n, Vi n, Vl (hsR n i j s).H, Vi n, Vi n, Vl (hsR n i j s).T, Vi n, Vi n, Vl (hsR n i j s).Q, Vi n, Vi n, Vl (hsR n i j s).Z, Vi 0]
      else [Vi 0, Vi 0, Vl [], Vi 0, Vi 0, Vl [], Vi 0, Vi 0, Vl [], Vi 0, Vi 0, Vl [], Vi 2]) := by
  refine val_of tab1 ?_
  have hn := h.H.hr
  have e1 : (B.sub .i64).den (Vi i) (Vi 1) = Vi ((i - 1 : Nat) : Int) := by rw [sub_i (by omega) (by omega)]; exact congrArg Vi (by omega)
  have a1 : val 235 [Vi n, Vi n, Vl s.H, (B.sub .i64).den (Vi i) (Vi 1), Vi j] = some [Vu (hrF n i j s)] := by rw [e1]; exact hat_ok h.H (i := i - 1) (by omega) hj
  have a2 : val 235 [Vi n, Vi n, Vl s.H, Vi i, Vi j] = some [Vu (hrG n i j s)] := hat_ok h.H hin hj
  have t1 := turn_ok (f := hrF n i j s) (g := hrG n i j s) (h.H.w.el _) (h.H.w.el _)
  obtain ⟨l1, l2, l3⟩ := turn_lt (f := hrF n i j s) (g := hrG n i j s) (h.H.w.el _) (h.H.w.el _)
  unfold finP hsR
  generalize hrF n i j s = f at *
  generalize hrG n i j s = g at *
  by_cases c : fPow f = 2047 ∨ fPow g = 2047
  · rw [if_pos c] at t1
    rw [decide_eq_false (fun hh => hh c), if_neg (by decide)]
    refine Eq.trans (st_call rfl a1 rfl) ?_
    refine Eq.trans (st_call rfl a2 rfl) ?_
    refine Eq.trans (st_call rfl t1 rfl) ?_
    simp only [List.cons_append, List.nil_append]
    refine Eq.trans (st_t (by simp)) ?_
    rfl
  · rw [if_neg c] at t1
    rw [decide_eq_true c, if_pos rfl]
    generalize turnC f g = C at *
    generalize turnS f g = S at *
    generalize turnR f g = r at *
    have r1 : val 231 [Vi n, Vi n, Vl s.H, (B.sub .i64).den (Vi i) (Vi 1), Vi i, Vu C, Vu S] = some [Vi n, Vi n, Vl (rowV s.H n (i - 1) i C S), Vi 0] := by rw [e1]; exact rows_ok h.H l1 l2 (by omega) hin (by omega)
    have r2 : val 231 [Vi n, Vi n, Vl s.T, (B.sub .i64).den (Vi i) (Vi 1), Vi i, Vu C, Vu S] = some [Vi n, Vi n, Vl (rowV s.T n (i - 1) i C S), Vi 0] := by rw [e1]; exact rows_ok h.T l1 l2 (by omega) hin (by omega)
    have r3 : val 230 [Vi n, Vi n, Vl s.Q, (B.sub .i64).den (Vi i) (Vi 1), Vi i, Vu C, Vu S] = some [Vi n, Vi n, Vl (colV n n s.Q (i - 1) i C S), Vi 0] := by rw [e1]; exact cols_ok h.Q l1 l2 (by omega) hin (by omega)
    have m1 := rowV_mx h.H l1 l2 (i := i - 1) (k := i) (by omega) hin
    have p1 : (B.add .i64).den ((B.mul .i64).den ((B.sub .i64).den (Vi i) (Vi 1)) (Vi n)) (Vi j) = Vi (ps (i - 1) n j) := by rw [e1]; exact pos_i (i := i - 1) (c := n) (k := j) (by omega) (by omega) (by omega)
    have p2 := pos_i (i := i) (c := n) (k := j) (by omega) (by omega) (by omega)
    have q1 := m1.lt (show i - 1 < n by omega) hj
    have q2 := m1.lt hin hj
    unfold hrV
    simp only
    generalize rowV s.H n (i - 1) i C S = H' at *
    generalize rowV s.T n (i - 1) i C S = T' at *
    generalize colV n n s.Q (i - 1) i C S = Q' at *
    refine Eq.trans (st_call rfl a1 rfl) ?_
    refine Eq.trans (st_call rfl a2 rfl) ?_
    refine Eq.trans (st_call rfl t1 rfl) ?_
    simp only [List.cons_append, List.nil_append]
    refine Eq.trans (st_f (by simp)) ?_
    refine Eq.trans (st_call rfl r1 rfl) ?_
    refine Eq.trans (st_call rfl r2 rfl) ?_
    refine Eq.trans (st_call rfl r3 rfl) ?_
    simp only [List.cons_append, List.nil_append]
    simp [TT.dv, p1, p2, q1, q2, set_V]
theorem hcols_ok {s : Q4} (h : Mx4 n s) : val 0 [Vi n, Vi n, Vl s.H, Vi n, Vi n, Vl s.T, Vi n, Vi n, Vl s.Q, Vi n, Vi n, Vl s.Z, Vi i] =
    some (if finP (hcF n i s) (hcG n i s) then [Vi n, Vi n, Vl (hsC n i s).H, Vi n, Vi n, Vl (hsC n i s).T, Vi n, Vi n, Vl (hsC n i s).Q, Vi n, Vi n, Vl (hsC n i s).Z, Vi 0]
      else [Vi 0, Vi 0, Vl [], Vi 0, Vi 0, Vl [], Vi 0, Vi 0, Vl [], Vi 0, Vi 0, Vl [], Vi 2]) := by
  refine val_of tab0 ?_
  have hn := h.H.hr
  have e1 : (B.sub .i64).den (Vi i) (Vi 1) = Vi ((i - 1 : Nat) : Int) := by rw [sub_i (by omega) (by omega)]; exact congrArg Vi (by omega)
  have a1 : val 235 [Vi n, Vi n, Vl s.T, Vi i, Vi i] = some [Vu (hcF n i s)] := hat_ok h.T hin hin
  have a2 : val 235 [Vi n, Vi n, Vl s.T, Vi i, (B.sub .i64).den (Vi i) (Vi 1)] = some [Vu (hcG n i s)] := by rw [e1]; exact hat_ok h.T hin (k := i - 1) (by omega)
  have t1 := turn_ok (f := hcF n i s) (g := hcG n i s) (h.T.w.el _) (h.T.w.el _)
  obtain ⟨l1, l2, l3⟩ := turn_lt (f := hcF n i s) (g := hcG n i s) (h.T.w.el _) (h.T.w.el _)
  unfold finP hsC
  generalize hcF n i s = f at *
  generalize hcG n i s = g at *
  by_cases c : fPow f = 2047 ∨ fPow g = 2047
  · rw [if_pos c] at t1
    rw [decide_eq_false (fun hh => hh c), if_neg (by decide)]
    refine Eq.trans (st_call rfl a1 rfl) ?_
    refine Eq.trans (st_call rfl a2 rfl) ?_
    refine Eq.trans (st_call rfl t1 rfl) ?_
    simp only [List.cons_append, List.nil_append]
    refine Eq.trans (st_t (by simp)) ?_
    rfl
  · rw [if_neg c] at t1
    rw [decide_eq_true c, if_pos rfl]
    generalize turnC f g = C at *
    generalize turnS f g = S at *
    generalize turnR f g = r at *
    have r1 : val 230 [Vi n, Vi n, Vl s.T, Vi i, (B.sub .i64).den (Vi i) (Vi 1), Vu C, Vu S] = some [Vi n, Vi n, Vl (colV n n s.T i (i - 1) C S), Vi 0] := by rw [e1]; exact cols_ok h.T l1 l2 hin (by omega) (by omega)
    have r2 : val 230 [Vi n, Vi n, Vl s.H, Vi i, (B.sub .i64).den (Vi i) (Vi 1), Vu C, Vu S] = some [Vi n, Vi n, Vl (colV n n s.H i (i - 1) C S), Vi 0] := by rw [e1]; exact cols_ok h.H l1 l2 hin (by omega) (by omega)
    have r3 : val 230 [Vi n, Vi n, Vl s.Z, Vi i, (B.sub .i64).den (Vi i) (Vi 1), Vu C, Vu S] = some [Vi n, Vi n, Vl (colV n n s.Z i (i - 1) C S), Vi 0] := by rw [e1]; exact cols_ok h.Z l1 l2 hin (by omega) (by omega)
    have m1 := colV_mx h.T l1 l2 (i := i) (k := i - 1) hin (by omega)
    have p1 := pos_i (i := i) (c := n) (k := i) (by omega) (by omega) (by omega)
    have hps : ps i n i ≤ 100000 := ps_small (by omega) (by omega) (by omega)
    have p2 : (B.sub .i64).den (Vi (ps i n i)) (Vi 1) = Vi (ps i n (i - 1)) := by
      rw [sub_i (by omega) (by omega)]; unfold ps; exact congrArg Vi (by omega)
    have q1 := m1.lt hin hin
    have q2 := m1.lt hin (show i - 1 < n by omega)
    unfold hcV
    simp only
    generalize colV n n s.T i (i - 1) C S = T' at *
    generalize colV n n s.H i (i - 1) C S = H' at *
    generalize colV n n s.Z i (i - 1) C S = Z' at *
    refine Eq.trans (st_call rfl a1 rfl) ?_
    refine Eq.trans (st_call rfl a2 rfl) ?_
    refine Eq.trans (st_call rfl t1 rfl) ?_
    simp only [List.cons_append, List.nil_append]
    refine Eq.trans (st_f (by simp)) ?_
    refine Eq.trans (st_call rfl r1 rfl) ?_
    refine Eq.trans (st_call rfl r2 rfl) ?_
    refine Eq.trans (st_call rfl r3 rfl) ?_
    simp only [List.cons_append, List.nil_append]
    simp [TT.dv, p1, p2, q1, q2, set_V]
theorem fin4_W {b : Nat} (hb : b < 18446744073709551616) : val 120 [Vu b] = some [Vb (decide (fPow b ≠ 2047))] := by
  have h := finite4_ok hb
  have := fPow_lt b
  rw [h]
  exact congrArg (fun z => some [Vb z]) (decide_eq_decide.2 (by omega))
theorem fin2_ok {m : List Nat} (h : Mx n n m) : val 218 [Vi n, Vi n, Vl m, Vi i, Vi i, Vi ((i - 1 : Nat) : Int)] = some [Vb (finP (el m (ps i n i)) (el m (ps i n (i - 1))))] := by
  refine val_of tab218 ?_
  have a1 := at_ok h hin hin
  have a2 := at_ok h hin (k := i - 1) (by omega)
  have f1 := fin4_W hi hin (h.w.el (ps i n i))
  have f2 := fin4_W hi hin (h.w.el (ps i n (i - 1)))
  unfold finP
  generalize ((i - 1 : Nat) : Int) = z at *
  by_cases c1 : fPow (el m (ps i n i)) = 2047
  · simp [tr218, TT.dv, a1, f1, c1]
  · by_cases c2 : fPow (el m (ps i n (i - 1))) = 2047
    · simp [tr218, TT.dv, a1, a2, f1, f2, c1, c2]
    · simp [tr218, TT.dv, a1, a2, f1, f2, c1, c2]
theorem two18_ok {m : List Nat} (h : Mx n n m) {a b c d r : Nat} (ha : a < n) (hb : b < n) (hc : c < n) (hd : d < n) (hr : r < 18446744073709551616) : val 220 [Vi n, Vi n, Vl m, Vi a, Vi b, Vu r, Vi c, Vi d] = some [Vi n, Vi n, Vl ((m.set (ps a n b) r).set (ps c n d) 0)] := by
  refine val_of tab220 ?_
  have w1 := with_ok h (b := r) ha hb
  have w2 := with_ok (h.set (p := ps a n b) hr) (b := 0) hc hd
  simp [tr220, TT.dv, w1, w2]
theorem hstep9_ok {j : Nat} (hj : j < n) {s : Q4} (h : Mx4 n s) (hf : finP (hrF n i j s) (hrG n i j s) = true) : val 219 [Vi n, Vi n, Vl s.H, Vi n, Vi n, Vl s.T, Vi n, Vi n, Vl s.Q, Vi n, Vi n, Vl s.Z, Vb true, Vi i, Vi j] =
    some (match hsS n i j s with
      | some s' => [Vi n, Vi n, Vl s'.H, Vi n, Vi n, Vl s'.T, Vi n, Vi n, Vl s'.Q, Vi n, Vi n, Vl s'.Z, Vb true]
      | none => [Vi 0, Vi 0, Vl [], Vi 0, Vi 0, Vl [], Vi 0, Vi 0, Vl [], Vi 0, Vi 0, Vl [], Vb false]) := by
  refine val_of tab219 ?_
  have hn := h.H.hr
  have e1 : (B.sub .i64).den (Vi i) (Vi 1) = Vi ((i - 1 : Nat) : Int) := by rw [sub_i (by omega) (by omega)]; exact congrArg Vi (by omega)
  have a1 : val 166 [Vi n, Vi n, Vl s.H, (B.sub .i64).den (Vi i) (Vi 1), Vi j] = some [Vu (hrF n i j s)] := by rw [e1]; exact at_ok h.H (i := i - 1) (by omega) hj
  have a2 : val 166 [Vi n, Vi n, Vl s.H, Vi i, Vi j] = some [Vu (hrG n i j s)] := at_ok h.H hin hj
  have hf' : fPow (hrF n i j s) ≠ 2047 ∧ fPow (hrG n i j s) ≠ 2047 := by
    have := of_decide_eq_true hf; omega
  have t1 := turn12_ok (f := hrF n i j s) (g := hrG n i j s) (h.H.w.el _) (h.H.w.el _) hf'.1 hf'.2
  obtain ⟨l1, l2, l3⟩ := turn_lt (f := hrF n i j s) (g := hrG n i j s) (h.H.w.el _) (h.H.w.el _)
  unfold hsS
  rw [if_pos hf]
  have hm := hsR_mx hi hin (j := j) h
  have hfin := fin2_ok hi hin hm.T
  have b1 : val 166 [Vi n, Vi n, Vl (hsR n i j s).T, Vi i, Vi i] = some [Vu (hcF n i (hsR n i j s))] := at_ok hm.T hin hin
  have b2 : val 166 [Vi n, Vi n, Vl (hsR n i j s).T, Vi i, (B.sub .i64).den (Vi i) (Vi 1)] = some [Vu (hcG n i (hsR n i j s))] := by rw [e1]; exact at_ok hm.T hin (k := i - 1) (by omega)
  obtain ⟨k1, k2, k3⟩ := turn_lt (f := hcF n i (hsR n i j s)) (g := hcG n i (hsR n i j s)) (hm.T.w.el _) (hm.T.w.el _)
  have u1 := turn12_ok (f := hcF n i (hsR n i j s)) (g := hcG n i (hsR n i j s)) (hm.T.w.el _) (hm.T.w.el _)
  have hrdef : hsR n i j s = hrV n i j s (turnC (hrF n i j s) (hrG n i j s)) (turnS (hrF n i j s) (hrG n i j s)) (turnR (hrF n i j s) (hrG n i j s)) := rfl
  have r1 : val 188 [Vi n, Vi n, Vl s.H, (B.sub .i64).den (Vi i) (Vi 1), Vi i, Vu (turnC (hrF n i j s) (hrG n i j s)), Vu (turnS (hrF n i j s) (hrG n i j s))] = some [Vi n, Vi n, Vl (rowV s.H n (i - 1) i (turnC (hrF n i j s) (hrG n i j s)) (turnS (hrF n i j s) (hrG n i j s)))] := by rw [e1]; exact rows9_ok h.H l1 l2 (by omega) hin
  have r2 : val 188 [Vi n, Vi n, Vl s.T, (B.sub .i64).den (Vi i) (Vi 1), Vi i, Vu (turnC (hrF n i j s) (hrG n i j s)), Vu (turnS (hrF n i j s) (hrG n i j s))] = some [Vi n, Vi n, Vl (hsR n i j s).T] := by rw [e1]; exact rows9_ok h.T l1 l2 (by omega) hin
  have r3 : val 187 [Vi n, Vi n, Vl s.Q, (B.sub .i64).den (Vi i) (Vi 1), Vi i, Vu (turnC (hrF n i j s) (hrG n i j s)), Vu (turnS (hrF n i j s) (hrG n i j s))] = some [Vi n, Vi n, Vl (hsR n i j s).Q] := by rw [e1]; exact cols9_ok h.Q l1 l2 (by omega) hin
  have w1 : val 220 [Vi n, Vi n, Vl (rowV s.H n (i - 1) i (turnC (hrF n i j s) (hrG n i j s)) (turnS (hrF n i j s) (hrG n i j s))), (B.sub .i64).den (Vi i) (Vi 1), Vi j, Vu (turnR (hrF n i j s) (hrG n i j s)), Vi i, Vi j] = some [Vi n, Vi n, Vl (hsR n i j s).H] := by
    rw [e1]; exact two18_ok hi hin (rowV_mx h.H l1 l2 (i := i - 1) (k := i) (by omega) hin) (a := i - 1) (by omega) hj hin hj l3
  have hfin' : val 218 [Vi n, Vi n, Vl (hsR n i j s).T, Vi i, Vi i, (B.sub .i64).den (Vi i) (Vi 1)] = some [Vb (finP (hcF n i (hsR n i j s)) (hcG n i (hsR n i j s)))] := by rw [e1]; exact hfin
  have v1 : val 187 [Vi n, Vi n, Vl (hsR n i j s).T, Vi i, (B.sub .i64).den (Vi i) (Vi 1), Vu (turnC (hcF n i (hsR n i j s)) (hcG n i (hsR n i j s))), Vu (turnS (hcF n i (hsR n i j s)) (hcG n i (hsR n i j s)))] = some [Vi n, Vi n, Vl (colV n n (hsR n i j s).T i (i - 1) (turnC (hcF n i (hsR n i j s)) (hcG n i (hsR n i j s))) (turnS (hcF n i (hsR n i j s)) (hcG n i (hsR n i j s))))] := by rw [e1]; exact cols9_ok hm.T k1 k2 hin (by omega)
  have v2 : val 187 [Vi n, Vi n, Vl (hsR n i j s).H, Vi i, (B.sub .i64).den (Vi i) (Vi 1), Vu (turnC (hcF n i (hsR n i j s)) (hcG n i (hsR n i j s))), Vu (turnS (hcF n i (hsR n i j s)) (hcG n i (hsR n i j s)))] = some [Vi n, Vi n, Vl (hsC n i (hsR n i j s)).H] := by rw [e1]; exact cols9_ok hm.H k1 k2 hin (by omega)
  have v3 : val 187 [Vi n, Vi n, Vl (hsR n i j s).Z, Vi i, (B.sub .i64).den (Vi i) (Vi 1), Vu (turnC (hcF n i (hsR n i j s)) (hcG n i (hsR n i j s))), Vu (turnS (hcF n i (hsR n i j s)) (hcG n i (hsR n i j s)))] = some [Vi n, Vi n, Vl (hsC n i (hsR n i j s)).Z] := by rw [e1]; exact cols9_ok hm.Z k1 k2 hin (by omega)
  have v4 : val 220 [Vi n, Vi n, Vl (colV n n (hsR n i j s).T i (i - 1) (turnC (hcF n i (hsR n i j s)) (hcG n i (hsR n i j s))) (turnS (hcF n i (hsR n i j s)) (hcG n i (hsR n i j s)))), Vi i, Vi i, Vu (turnR (hcF n i (hsR n i j s)) (hcG n i (hsR n i j s))), Vi i, (B.sub .i64).den (Vi i) (Vi 1)] = some [Vi n, Vi n, Vl (hsC n i (hsR n i j s)).T] := by
    rw [e1]; exact two18_ok hi hin (colV_mx hm.T k1 k2 (i := i) (k := i - 1) hin (by omega)) hin hin hin (d := i - 1) (by omega) k3
  have hZ : (hsR n i j s).Z = s.Z := rfl
  have hQ : (hsC n i (hsR n i j s)).Q = (hsR n i j s).Q := rfl
  generalize rowV s.H n (i - 1) i (turnC (hrF n i j s) (hrG n i j s)) (turnS (hrF n i j s) (hrG n i j s)) = H0 at *
  generalize turnC (hrF n i j s) (hrG n i j s) = C at *
  generalize turnS (hrF n i j s) (hrG n i j s) = S at *
  generalize turnR (hrF n i j s) (hrG n i j s) = r at *
  clear hrdef
  refine Eq.trans (st_call rfl a1 rfl) ?_
  refine Eq.trans (st_call rfl a2 rfl) ?_
  refine Eq.trans (st_call rfl t1 rfl) ?_
  simp only [List.cons_append, List.nil_append]
  refine Eq.trans (st_call rfl r1 rfl) ?_
  refine Eq.trans (st_call rfl w1 rfl) ?_
  refine Eq.trans (st_call rfl r2 rfl) ?_
  refine Eq.trans (st_call rfl r3 rfl) ?_
  simp only [List.cons_append, List.nil_append]
  refine Eq.trans (st_call rfl hfin' rfl) ?_
  cases hc : finP (hcF n i (hsR n i j s)) (hcG n i (hsR n i j s))
  · refine Eq.trans (st_t rfl) ?_
    rfl
  · have hc' : fPow (hcF n i (hsR n i j s)) ≠ 2047 ∧ fPow (hcG n i (hsR n i j s)) ≠ 2047 := by
      have := of_decide_eq_true hc; omega
    have u2 := u1 hc'.1 hc'.2
    rw [hZ] at v3
    simp only [if_true]
    generalize turnC (hcF n i (hsR n i j s)) (hcG n i (hsR n i j s)) = C2 at *
    generalize turnS (hcF n i (hsR n i j s)) (hcG n i (hsR n i j s)) = S2 at *
    generalize turnR (hcF n i (hsR n i j s)) (hcG n i (hsR n i j s)) = r2 at *
    refine Eq.trans (st_f rfl) ?_
    simp only [List.cons_append, List.nil_append]
    refine Eq.trans (st_call rfl b1 rfl) ?_
    refine Eq.trans (st_call rfl b2 rfl) ?_
    refine Eq.trans (st_call rfl u2 rfl) ?_
    simp only [List.cons_append, List.nil_append]
    refine Eq.trans (st_call rfl v1 rfl) ?_
    refine Eq.trans (st_call rfl v4 rfl) ?_
    refine Eq.trans (st_call rfl v2 rfl) ?_
    refine Eq.trans (st_call rfl v3 rfl) ?_
    rfl
end
end Go.Proofs.YthchhkghjfendabGreat.Dx

namespace Go.Proofs.YthchhkghjfendabGreat.Dx
open Go

def hsIn (n j : Nat) : Nat → Q4 → Option Q4
  | 0, s => some s
  | m + 1, s => match hsS n (j + 2 + m) j s with
    | some s' => hsIn n j m s'
    | none => none
def hsOut (n : Nat) : Nat → Nat → Q4 → Option Q4
  | 0, _, s => some s
  | m + 1, j, s => match hsIn n j (n - (j + 2)) s with
    | some s' => hsOut n m (j + 1) s'
    | none => none
theorem hsIn_mx {n j : Nat} : ∀ (m : Nat) {s s' : Q4}, j + 2 + m ≤ n → Mx4 n s → hsIn n j m s = some s' → Mx4 n s'
  | 0, s, s', _, h, he => by simp [hsIn] at he; subst he; exact h
  | m + 1, s, s', hm, h, he => by
    unfold hsIn at he
    split at he
    · rename_i s2 hs
      exact hsIn_mx m (by omega) (hsS_mx (i := j + 2 + m) (by omega) (by omega) h hs) he
    · cases he
theorem hsOut_mx {n : Nat} : ∀ (m j : Nat) {s s' : Q4}, j + m = n - 2 → Mx4 n s → hsOut n m j s = some s' → Mx4 n s'
  | 0, _, s, s', _, h, he => by simp [hsOut] at he; subst he; exact h
  | m + 1, j, s, s', hm, h, he => by
    unfold hsOut at he
    split at he
    · rename_i s2 hs
      exact hsOut_mx m (j + 1) (by omega) (hsIn_mx _ (by omega) h hs) he
    · cases he
def brR (n : Nat) (a b : List Nat) : Option Q4 :=
  match qrR n n b with
  | none => none
  | some (q, y) =>
    match hsOut n (n - 2) 0 ⟨muV n n (tpV n n q) n n a, y, q, eyV n⟩ with
    | none => none
    | some s => if finV (clH n 1 s.H) && finV (clH n 0 s.T) && finV s.Q && finV s.Z then some ⟨clH n 1 s.H, clH n 0 s.T, s.Q, s.Z⟩ else none

theorem hin_loop {n j : Nat} (hn6 : n ≤ 6) {x1 x2 x3 x4 x5 x6 x7 x8 x9 x10 x11 x12 x13 x14 x15 x16 x17 x18 x19 x20 x21 x23 x24 x25 x26 x27 x28 x29 x30 x31 x32 x33 x34 : PV} : ∀ (m : Nat) {s : Q4}, j + 2 + m ≤ n → Mx4 n s →
    match hsIn n j m s with
    | some s' => rounds (fun vs => lo233_2.dv (Vi n :: x1 :: x2 :: x3 :: x4 :: x5 :: x6 :: x7 :: x8 :: x9 :: x10 :: x11 :: x12 :: x13 :: x14 :: x15 :: x16 :: x17 :: x18 :: x19 :: x20 :: x21 :: Vi j :: x23 :: x24 :: x25 :: x26 :: x27 :: x28 :: x29 :: x30 :: x31 :: x32 :: x33 :: x34 :: vs)) [Vi 0, Vi ((j + 1 + m : Nat) : Int), Vi n, Vi n, Vi n, Vi n, Vi n, Vi n, Vi n, Vi n, Vl s.Z, Vl s.Q, Vl s.T, Vl s.H] = some (.y (.ext 4) [Vi 0, Vi n, Vi n, Vi n, Vi n, Vi n, Vi n, Vi n, Vi n, Vl s'.Z, Vl s'.Q, Vl s'.T, Vl s'.H])
    | none => ∃ a1 a2 a3 a4 a5 a6 a7 a8 a9 a10 a11 a12, rounds (fun vs => lo233_2.dv (Vi n :: x1 :: x2 :: x3 :: x4 :: x5 :: x6 :: x7 :: x8 :: x9 :: x10 :: x11 :: x12 :: x13 :: x14 :: x15 :: x16 :: x17 :: x18 :: x19 :: x20 :: x21 :: Vi j :: x23 :: x24 :: x25 :: x26 :: x27 :: x28 :: x29 :: x30 :: x31 :: x32 :: x33 :: x34 :: vs)) [Vi 0, Vi ((j + 1 + m : Nat) : Int), Vi n, Vi n, Vi n, Vi n, Vi n, Vi n, Vi n, Vi n, Vl s.Z, Vl s.Q, Vl s.T, Vl s.H] = some (.y (.ext 2) [Vi 2, a1, a2, a3, a4, a5, a6, a7, a8, a9, a10, a11, a12]) := by
  intro m
  induction m with
  | zero =>
    intro s hm h
    simp only [hsIn]
    refine rounds_exit ?_ (by simp)
    have e2 : (B.add .i64).den (Vi j) (Vi 2) = Vi ((j + 2 : Nat) : Int) := by rw [add_i (by omega) (by omega)]; rfl
    have hc : (B.ge.den (Vi ((j + 1 + 0 : Nat) : Int)) ((B.add .i64).den (Vi j) (Vi 2))).bool = true ↔ False := by
      rw [e2]; simp; try omega
    have hc' : (B.ge.den (Vi ((j + 1 + 0 : Nat) : Int)) ((B.add .i64).den (Vi j) (Vi 2))).bool = false := by
      cases hb : (B.ge.den (Vi ((j + 1 + 0 : Nat) : Int)) ((B.add .i64).den (Vi j) (Vi 2))).bool
      · rfl
      · exact absurd (hc.1 hb) id
    exact Eq.trans (st_f hc') rfl
  | succ m ih =>
    intro s hm h
    have hi : 1 ≤ j + 2 + m := by omega
    have hin : j + 2 + m < n := by omega
    have r1 := hrows_ok hi hin (j := j) (by omega) h
    have hm1 := hsR_mx hi hin (j := j) h
    have r2 := hcols_ok hi hin hm1
    have e2 : (B.add .i64).den (Vi j) (Vi 2) = Vi ((j + 2 : Nat) : Int) := by rw [add_i (by omega) (by omega)]; rfl
    have e1 : (B.sub .i64).den (Vi ((j + 2 + m : Nat) : Int)) (Vi 1) = Vi ((j + 1 + m : Nat) : Int) := by rw [sub_i (by omega) (by omega)]; exact congrArg Vi (by omega)
    have hc' : (B.ge.den (Vi ((j + 2 + m : Nat) : Int)) ((B.add .i64).den (Vi j) (Vi 2))).bool = true := by
      rw [e2]; simp; try omega
    rw [show j + 1 + (m + 1) = j + 2 + m by omega]
    unfold hsIn
    unfold hsS
    cases c1 : finP (hrF n (j + 2 + m) j s) (hrG n (j + 2 + m) j s)
    · rw [c1, if_neg (by decide)] at r1
      simp only [Bool.false_eq_true, if_false]
      refine ⟨Vi 0, Vi 0, Vi 0, Vi 0, Vi 0, Vi 0, Vi 0, Vi 0, Vl [], Vl [], Vl [], Vl [], rounds_exit (us := [Vi 2, Vi 0, Vi 0, Vi 0, Vi 0, Vi 0, Vi 0, Vi 0, Vi 0, Vl [], Vl [], Vl [], Vl []]) ?_ (by simp)⟩
      refine Eq.trans (st_t hc') ?_
      refine Eq.trans (st_call rfl r1 rfl) ?_
      refine Eq.trans (st_t rfl) ?_
      rfl
    · rw [c1, if_pos rfl] at r1
      rw [if_pos rfl]
      cases c2 : finP (hcF n (j + 2 + m) (hsR n (j + 2 + m) j s)) (hcG n (j + 2 + m) (hsR n (j + 2 + m) j s))
      · rw [c2, if_neg (by decide)] at r2
        simp only [Bool.false_eq_true, if_false]
        refine ⟨Vi 0, Vi 0, Vi 0, Vi 0, Vi 0, Vi 0, Vi 0, Vi 0, Vl [], Vl [], Vl [], Vl [], rounds_exit (us := [Vi 2, Vi 0, Vi 0, Vi 0, Vi 0, Vi 0, Vi 0, Vi 0, Vi 0, Vl [], Vl [], Vl [], Vl []]) ?_ (by simp)⟩
        refine Eq.trans (st_t hc') ?_
        refine Eq.trans (st_call rfl r1 rfl) ?_
        refine Eq.trans (st_f rfl) ?_
        simp only [List.cons_append, List.nil_append]
        refine Eq.trans (st_call rfl r2 rfl) ?_
        refine Eq.trans (st_t rfl) ?_
        rfl
      · rw [c2, if_pos rfl] at r2
        rw [if_pos rfl]
        have hm2 := hsC_mx hi hin hm1
        have hih := ih (s := hsC n (j + 2 + m) (hsR n (j + 2 + m) j s)) (by omega) hm2
        have key : rounds (fun vs => lo233_2.dv (Vi n :: x1 :: x2 :: x3 :: x4 :: x5 :: x6 :: x7 :: x8 :: x9 :: x10 :: x11 :: x12 :: x13 :: x14 :: x15 :: x16 :: x17 :: x18 :: x19 :: x20 :: x21 :: Vi j :: x23 :: x24 :: x25 :: x26 :: x27 :: x28 :: x29 :: x30 :: x31 :: x32 :: x33 :: x34 :: vs)) [Vi 0, Vi ((j + 2 + m : Nat) : Int), Vi n, Vi n, Vi n, Vi n, Vi n, Vi n, Vi n, Vi n, Vl s.Z, Vl s.Q, Vl s.T, Vl s.H] = rounds (fun vs => lo233_2.dv (Vi n :: x1 :: x2 :: x3 :: x4 :: x5 :: x6 :: x7 :: x8 :: x9 :: x10 :: x11 :: x12 :: x13 :: x14 :: x15 :: x16 :: x17 :: x18 :: x19 :: x20 :: x21 :: Vi j :: x23 :: x24 :: x25 :: x26 :: x27 :: x28 :: x29 :: x30 :: x31 :: x32 :: x33 :: x34 :: vs)) [Vi 0, Vi ((j + 1 + m : Nat) : Int), Vi n, Vi n, Vi n, Vi n, Vi n, Vi n, Vi n, Vi n, Vl (hsC n (j + 2 + m) (hsR n (j + 2 + m) j s)).Z, Vl (hsC n (j + 2 + m) (hsR n (j + 2 + m) j s)).Q, Vl (hsC n (j + 2 + m) (hsR n (j + 2 + m) j s)).T, Vl (hsC n (j + 2 + m) (hsR n (j + 2 + m) j s)).H] := by
          rw [← e1]
          refine rounds_cont ?_
          refine Eq.trans (st_t hc') ?_
          refine Eq.trans (st_call rfl r1 rfl) ?_
          refine Eq.trans (st_f rfl) ?_
          simp only [List.cons_append, List.nil_append]
          refine Eq.trans (st_call rfl r2 rfl) ?_
          refine Eq.trans (st_f rfl) ?_
          rfl
        simp only
        rw [key]
        exact hih

theorem hout_loop {n : Nat} (hn6 : n ≤ 6) {x1 x2 x3 x4 x5 x6 x7 x8 x9 x10 x11 x12 x13 x14 x15 x16 x17 x18 x19 x20 : PV} : ∀ (m : Nat) {j : Nat} {s : Q4}, j + m = n - 2 → Mx4 n s →
    match hsOut n m j s with
    | some s' => rounds (fun vs => lo233_1.dv (Vi n :: x1 :: x2 :: x3 :: x4 :: x5 :: x6 :: x7 :: x8 :: x9 :: x10 :: x11 :: x12 :: x13 :: x14 :: x15 :: x16 :: x17 :: x18 :: x19 :: x20 :: vs)) [Vi 0, Vi j, Vi n, Vi n, Vi n, Vi n, Vi n, Vi n, Vi n, Vi n, Vl s.Z, Vl s.Q, Vl s.T, Vl s.H] = some (.y (.ext 2) [Vi 0, Vi n, Vi n, Vi n, Vi n, Vi n, Vi n, Vi n, Vi n, Vl s'.Z, Vl s'.Q, Vl s'.T, Vl s'.H])
    | none => ∃ a1 a2 a3 a4 a5 a6 a7 a8 a9 a10 a11 a12, rounds (fun vs => lo233_1.dv (Vi n :: x1 :: x2 :: x3 :: x4 :: x5 :: x6 :: x7 :: x8 :: x9 :: x10 :: x11 :: x12 :: x13 :: x14 :: x15 :: x16 :: x17 :: x18 :: x19 :: x20 :: vs)) [Vi 0, Vi j, Vi n, Vi n, Vi n, Vi n, Vi n, Vi n, Vi n, Vi n, Vl s.Z, Vl s.Q, Vl s.T, Vl s.H] = some (.y (.ext 2) [Vi 2, a1, a2, a3, a4, a5, a6, a7, a8, a9, a10, a11, a12]) := by
  intro m
  induction m with
  | zero =>
    intro j s hm h
    simp only [hsOut]
    refine rounds_exit ?_ (by simp)
    have e2 : (B.sub .i64).den (Vi n) (Vi 2) = Vi ((n : Int) - 2) := sub_i (by omega) (by omega)
    have hc' : (B.lt.den (Vi j) ((B.sub .i64).den (Vi n) (Vi 2))).bool = false := by
      rw [e2]; simp; try omega
    exact Eq.trans (st_f hc') rfl
  | succ m ih =>
    intro j s hm h
    have e2 : (B.sub .i64).den (Vi n) (Vi 2) = Vi ((n : Int) - 2) := sub_i (by omega) (by omega)
    have hc' : (B.lt.den (Vi j) ((B.sub .i64).den (Vi n) (Vi 2))).bool = true := by
      rw [e2]; simp; try omega
    have e1 : (B.add .i64).den (Vi j) (Vi 1) = Vi ((j + 1 : Nat) : Int) := by rw [add_i (by omega) (by omega)]; rfl
    have e3 : (B.sub .i64).den (Vi n) (Vi 1) = Vi ((j + 1 + (n - (j + 2)) : Nat) : Int) := by rw [sub_i (by omega) (by omega)]; exact congrArg Vi (by omega)
    have hl := hin_loop (n := n) (j := j) hn6 (x1 := x1) (x2 := x2) (x3 := x3) (x4 := x4) (x5 := x5) (x6 := x6) (x7 := x7) (x8 := x8) (x9 := x9) (x10 := x10) (x11 := x11) (x12 := x12) (x13 := x13) (x14 := x14) (x15 := x15) (x16 := x16) (x17 := x17) (x18 := x18) (x19 := x19) (x20 := x20) (x21 := Vi 0) (x23 := Vi n) (x24 := Vi n) (x25 := Vi n) (x26 := Vi n) (x27 := Vi n) (x28 := Vi n) (x29 := Vi n) (x30 := Vi n) (x31 := Vl s.Z) (x32 := Vl s.Q) (x33 := Vl s.T) (x34 := Vl s.H) (n - (j + 2)) (s := s) (by omega) h
    rw [← e3] at hl
    unfold hsOut
    cases hs : hsIn n j (n - (j + 2)) s with
    | none =>
      rw [hs] at hl
      obtain ⟨a1, a2, a3, a4, a5, a6, a7, a8, a9, a10, a11, a12, hl⟩ := hl
      refine ⟨a1, a2, a3, a4, a5, a6, a7, a8, a9, a10, a11, a12, rounds_exit ?_ (by simp)⟩
      refine Eq.trans (st_t hc') ?_
      refine Eq.trans (st_loop hl) ?_
      refine Eq.trans st_hit ?_
      rfl
    | some s2 =>
      rw [hs] at hl
      have hm2 := hsIn_mx _ (by omega) h hs
      have hih := ih (j := j + 1) (s := s2) (by omega) hm2
      have key : rounds (fun vs => lo233_1.dv (Vi n :: x1 :: x2 :: x3 :: x4 :: x5 :: x6 :: x7 :: x8 :: x9 :: x10 :: x11 :: x12 :: x13 :: x14 :: x15 :: x16 :: x17 :: x18 :: x19 :: x20 :: vs)) [Vi 0, Vi j, Vi n, Vi n, Vi n, Vi n, Vi n, Vi n, Vi n, Vi n, Vl s.Z, Vl s.Q, Vl s.T, Vl s.H] = rounds (fun vs => lo233_1.dv (Vi n :: x1 :: x2 :: x3 :: x4 :: x5 :: x6 :: x7 :: x8 :: x9 :: x10 :: x11 :: x12 :: x13 :: x14 :: x15 :: x16 :: x17 :: x18 :: x19 :: x20 :: vs)) [Vi 0, Vi ((j + 1 : Nat) : Int), Vi n, Vi n, Vi n, Vi n, Vi n, Vi n, Vi n, Vi n, Vl s2.Z, Vl s2.Q, Vl s2.T, Vl s2.H] := by
        rw [← e1]
        refine rounds_cont ?_
        refine Eq.trans (st_t hc') ?_
        refine Eq.trans (st_loop hl) ?_
        refine Eq.trans (st_miss (by simp)) ?_
        refine Eq.trans st_hit ?_
        rfl
      simp only
      rw [key]
      exact hih

theorem first18_ok {n : Nat} {a b : List Nat} (ha : Mx n n a) (hb : Mx n n b) (hf : finV b = true) : val 237 [Vi n, Vi n, Vl a, Vi n, Vi n, Vl b] = some (match qrR n n b with
    | some (q, y) => [Vi n, Vi n, Vl (muV n n (tpV n n q) n n a), Vi n, Vi n, Vl y, Vi n, Vi n, Vl q, Vi n, Vi n, Vl (eyV n), Vi 0]
    | none => [Vi 0, Vi 0, Vl [], Vi 0, Vi 0, Vl [], Vi 0, Vi 0, Vl [], Vi 0, Vi 0, Vl [], Vi 2]) := by
  refine val_of tab237 ?_
  have f1 := factor_ok hb hf
  have hn := ha.hr
  cases hq : qrR n n b with
  | none =>
    rw [hq] at f1
    simp only at f1
    simp [tr237, TT.dv, f1]
  | some p =>
    obtain ⟨q, y⟩ := p
    rw [hq] at f1
    simp only at f1
    obtain ⟨mq, my⟩ := qrR_mx hb hq
    have ht := tp_ok mq
    have hm := mul_ok10 (tpV_mx mq) ha rfl
    have t1 : val 270 [Vi n, Vi n, Vl q, Vi n, Vi n, Vl a] = some [Vi n, Vi n, Vl (muV n n (tpV n n q) n n a), Vi 0] := by
      refine val_of tab270 ?_
      simp [tr270, TT.dv, ht, hm]
    have e1 := eye_ok hn
    simp [tr237, TT.dv, f1, t1, e1]
theorem br_start {n : Nat} {a b q y : List Nat} (ha : Mx n n a) (hb : Mx n n b) (hq : qrR n n b = some (q, y)) : Mx4 n ⟨muV n n (tpV n n q) n n a, y, q, eyV n⟩ := by
  obtain ⟨mq, my⟩ := qrR_mx hb hq
  exact ⟨muV_mx (tpV_mx mq) ha rfl, my, mq, eyV_mx ha.hr⟩
theorem brR_mx {n : Nat} {a b : List Nat} {s : Q4} (ha : Mx n n a) (hb : Mx n n b) (he : brR n a b = some s) : Mx4 n s := by
  unfold brR at he
  split at he
  · cases he
  · rename_i q y hq
    split at he
    · cases he
    · rename_i s2 hs
      have hm := hsOut_mx _ 0 (by omega) (br_start ha hb hq) hs
      split at he
      · simp at he; subst he
        exact ⟨clH_mx hm.H, clH_mx hm.T, hm.Q, hm.Z⟩
      · cases he
def brE (R C : Int) (a : List Nat) (R' C' : Int) (b : List Nat) : Int := if chk R C a ≠ 0 then chk R C a else if chk R' C' b ≠ 0 then chk R' C' b else if R ≠ C ∨ R' ≠ R ∨ C' ≠ R then 3 else 0
theorem bring_ok {n : Nat} {a b : List Nat} (ha : Mx n n a) (hb : Mx n n b) (fa : finV a = true) (fb : finV b = true) : val 233 [Vi n, Vi n, Vl a, Vi n, Vi n, Vl b] = some (match brR n a b with
    | some s => [Vi n, Vi n, Vl s.H, Vi n, Vi n, Vl s.T, Vi n, Vi n, Vl s.Q, Vi n, Vi n, Vl s.Z, Vi 0]
    | none => [Vi 0, Vi 0, Vl [], Vi 0, Vi 0, Vl [], Vi 0, Vi 0, Vl [], Vi 0, Vi 0, Vl [], Vi 2]) := by
  refine val_of tab233 ?_
  have hn := ha.hr
  have c1 := ccheck_ok n n (x := a) (by have := ha.small; omega)
  have c2 := ccheck_ok n n (x := b) (by have := hb.small; omega)
  unfold chk at c1 c2
  rw [if_pos (mx_right ha), if_pos fa] at c1
  rw [if_pos (mx_right hb), if_pos fb] at c2
  have f1 := first18_ok ha hb fb
  unfold brR
  refine Eq.trans (st_call rfl c1 rfl) ?_
  refine Eq.trans (st_f rfl) ?_
  refine Eq.trans (st_call rfl c2 rfl) ?_
  refine Eq.trans (st_f rfl) ?_
  simp only [List.cons_append, List.nil_append]
  refine Eq.trans (st_f (by simp)) ?_
  cases hq : qrR n n b with
  | none =>
    rw [hq] at f1
    refine Eq.trans (st_call rfl f1 rfl) ?_
    refine Eq.trans (st_t rfl) ?_
    rfl
  | some p =>
    obtain ⟨q, y⟩ := p
    rw [hq] at f1
    have hst := br_start ha hb hq
    refine Eq.trans (st_call rfl f1 rfl) ?_
    refine Eq.trans (st_f rfl) ?_
    simp only [List.cons_append, List.nil_append]
    have lp := hout_loop (n := n) hn (x1 := Vi n) (x2 := Vl a) (x3 := Vi n) (x4 := Vi n) (x5 := Vl b) (x6 := Vi 0) (x7 := Vi 0) (x8 := Vi n) (x9 := Vi n) (x10 := Vl (muV n n (tpV n n q) n n a)) (x11 := Vi n) (x12 := Vi n) (x13 := Vl y) (x14 := Vi n) (x15 := Vi n) (x16 := Vl q) (x17 := Vi n) (x18 := Vi n) (x19 := Vl (eyV n)) (x20 := Vi 0) (n - 2) (j := 0) (s := ⟨muV n n (tpV n n q) n n a, y, q, eyV n⟩) (by omega) hst
    rw [show ((0 : Nat) : Int) = 0 from rfl] at lp
    cases hs : hsOut n (n - 2) 0 ⟨muV n n (tpV n n q) n n a, y, q, eyV n⟩ with
    | none =>
      rw [hs] at lp
      obtain ⟨a1, a2, a3, a4, a5, a6, a7, a8, a9, a10, a11, a12, lp⟩ := lp
      refine Eq.trans (st_loop lp) ?_
      refine Eq.trans st_hit ?_
      refine Eq.trans (st_t rfl) ?_
      rfl
    | some s =>
      rw [hs] at lp
      have hm := hsOut_mx _ 0 (by omega) hst hs
      have cH := clh_ok (b := 1) (by omega) hm.H
      have cT := clh_ok (b := 0) (by omega) hm.T
      have mH := clH_mx (b := 1) hm.H
      have mT := clH_mx (b := 0) hm.T
      have f1 := finite_v_ok mH.w (by have := mH.small; omega)
      have f2 := finite_v_ok mT.w (by have := mT.small; omega)
      have f3 := finite_v_ok hm.Q.w (by have := hm.Q.small; omega)
      have f4 := finite_v_ok hm.Z.w (by have := hm.Z.small; omega)
      refine Eq.trans (st_loop lp) ?_
      refine Eq.trans st_hit ?_
      simp only [List.cons_append, List.nil_append]
      refine Eq.trans (st_f rfl) ?_
      refine Eq.trans (st_call rfl cH rfl) ?_
      refine Eq.trans (st_call rfl cT rfl) ?_
      simp only [List.cons_append, List.nil_append]
      refine Eq.trans (st_call rfl f1 rfl) ?_
      cases d1 : finV (clH n 1 s.H)
      · refine Eq.trans (st_t rfl) ?_
        rfl
      refine Eq.trans (st_f rfl) ?_
      simp only [List.cons_append, List.nil_append]
      refine Eq.trans (st_call rfl f2 rfl) ?_
      cases d2 : finV (clH n 0 s.T)
      · refine Eq.trans (st_t rfl) ?_
        rfl
      refine Eq.trans (st_f rfl) ?_
      simp only [List.cons_append, List.nil_append]
      refine Eq.trans (st_call rfl f3 rfl) ?_
      cases d3 : finV s.Q
      · refine Eq.trans (st_t rfl) ?_
        rfl
      refine Eq.trans (st_f rfl) ?_
      simp only [List.cons_append, List.nil_append]
      refine Eq.trans (st_call rfl f4 rfl) ?_
      cases d4 : finV s.Z
      · refine Eq.trans (st_t rfl) ?_
        rfl
      refine Eq.trans (st_f rfl) ?_
      rfl

end Go.Proofs.YthchhkghjfendabGreat.Dx

namespace Go.Proofs.YthchhkghjfendabGreat.Dx
open Go


theorem hin9_loop {n j : Nat} (hn6 : n ≤ 6) {x1 x2 x3 x4 x5 x6 x7 x8 x9 x10 x11 x12 x13 x14 x15 x16 x17 x18 x19 x20 x21 x23 x24 x25 x26 x27 x28 x29 x30 x31 x32 x33 x34 x35 : PV} : ∀ (m : Nat) {s : Q4}, j + 2 + m ≤ n → Mx4 n s →
    match hsIn n j m s with
    | some s' => rounds (fun vs => lo212_2.dv (Vi n :: x1 :: x2 :: x3 :: x4 :: x5 :: x6 :: x7 :: x8 :: x9 :: x10 :: x11 :: x12 :: x13 :: x14 :: x15 :: x16 :: x17 :: x18 :: x19 :: x20 :: x21 :: Vi j :: x23 :: x24 :: x25 :: x26 :: x27 :: x28 :: x29 :: x30 :: x31 :: x32 :: x33 :: x34 :: x35 :: vs)) [Vi ((j + 1 + m : Nat) : Int), Vi n, Vi n, Vl s.H, Vi n, Vi n, Vl s.T, Vi n, Vi n, Vl s.Q, Vi n, Vi n, Vl s.Z, Vb true] = some (.y (.ext 2) [Vi n, Vi n, Vl s'.H, Vi n, Vi n, Vl s'.T, Vi n, Vi n, Vl s'.Q, Vi n, Vi n, Vl s'.Z, Vb true])
    | none => ∃ a1 a2 a3 a4 a5 a6 a7 a8 a9 a10 a11 a12 a13, rounds (fun vs => lo212_2.dv (Vi n :: x1 :: x2 :: x3 :: x4 :: x5 :: x6 :: x7 :: x8 :: x9 :: x10 :: x11 :: x12 :: x13 :: x14 :: x15 :: x16 :: x17 :: x18 :: x19 :: x20 :: x21 :: Vi j :: x23 :: x24 :: x25 :: x26 :: x27 :: x28 :: x29 :: x30 :: x31 :: x32 :: x33 :: x34 :: x35 :: vs)) [Vi ((j + 1 + m : Nat) : Int), Vi n, Vi n, Vl s.H, Vi n, Vi n, Vl s.T, Vi n, Vi n, Vl s.Q, Vi n, Vi n, Vl s.Z, Vb true] = some (.y .ret [a1, a2, a3, a4, a5, a6, a7, a8, a9, a10, a11, a12, a13]) := by
  intro m
  induction m with
  | zero =>
    intro s hm h
    simp only [hsIn]
    refine rounds_exit ?_ (by simp)
    have e2 : (B.add .i64).den (Vi j) (Vi 2) = Vi ((j + 2 : Nat) : Int) := by rw [add_i (by omega) (by omega)]; rfl
    have hc' : (B.ge.den (Vi ((j + 1 + 0 : Nat) : Int)) ((B.add .i64).den (Vi j) (Vi 2))).bool = false := by
      rw [e2]; simp; try omega
    exact Eq.trans (st_f hc') rfl
  | succ m ih =>
    intro s hm h
    have hi : 1 ≤ j + 2 + m := by omega
    have hin : j + 2 + m < n := by omega
    have e1 : (B.sub .i64).den (Vi ((j + 2 + m : Nat) : Int)) (Vi 1) = Vi ((j + 1 + m : Nat) : Int) := by rw [sub_i (by omega) (by omega)]; exact congrArg Vi (by omega)
    have a1 : val 166 [Vi n, Vi n, Vl s.H, (B.sub .i64).den (Vi ((j + 2 + m : Nat) : Int)) (Vi 1), Vi j] = some [Vu (hrF n (j + 2 + m) j s)] := by
      rw [e1]
      have := at_ok h.H (i := j + 1 + m) (k := j) (by omega) (by omega)
      rw [this]; unfold hrF; rw [show j + 2 + m - 1 = j + 1 + m by omega]
    have a2 : val 166 [Vi n, Vi n, Vl s.H, Vi ((j + 2 + m : Nat) : Int), Vi j] = some [Vu (hrG n (j + 2 + m) j s)] := at_ok h.H hin (by omega)
    have f1 := fin4_W hi hin (b := hrF n (j + 2 + m) j s) (h.H.w.el _)
    have f2 := fin4_W hi hin (b := hrG n (j + 2 + m) j s) (h.H.w.el _)
    have e2 : (B.add .i64).den (Vi j) (Vi 2) = Vi ((j + 2 : Nat) : Int) := by rw [add_i (by omega) (by omega)]; rfl
    have hc' : (B.ge.den (Vi ((j + 2 + m : Nat) : Int)) ((B.add .i64).den (Vi j) (Vi 2))).bool = true := by
      rw [e2]; simp; try omega
    rw [show j + 1 + (m + 1) = j + 2 + m by omega]
    unfold hsIn
    cases c1 : finP (hrF n (j + 2 + m) j s) (hrG n (j + 2 + m) j s)
    · have hs : hsS n (j + 2 + m) j s = none := by unfold hsS; rw [c1]; rfl
      rw [hs]
      simp only
      have c1' := of_decide_eq_false c1
      by_cases d1 : fPow (hrF n (j + 2 + m) j s) = 2047
      · rw [decide_eq_false (by simp [d1])] at f1
        refine ⟨Vi n, Vi n, Vl s.H, Vi n, Vi n, Vl s.T, Vi n, Vi n, Vl s.Q, Vi n, Vi n, Vl s.Z, Vb true, rounds_exit (us := [Vi n, Vi n, Vl s.H, Vi n, Vi n, Vl s.T, Vi n, Vi n, Vl s.Q, Vi n, Vi n, Vl s.Z, Vb true]) ?_ (by simp)⟩
        refine Eq.trans (st_t hc') ?_
        refine Eq.trans (st_call rfl a1 rfl) ?_
        refine Eq.trans (st_call rfl f1 rfl) ?_
        simp only [List.cons_append, List.nil_append]
        refine Eq.trans (st_skip rfl) ?_
        refine Eq.trans (st_skip rfl) ?_
        refine Eq.trans (st_t rfl) ?_
        rfl
      · have d2 : fPow (hrG n (j + 2 + m) j s) = 2047 := by omega
        rw [decide_eq_true d1] at f1
        rw [decide_eq_false (by simp [d2])] at f2
        refine ⟨Vi n, Vi n, Vl s.H, Vi n, Vi n, Vl s.T, Vi n, Vi n, Vl s.Q, Vi n, Vi n, Vl s.Z, Vb true, rounds_exit (us := [Vi n, Vi n, Vl s.H, Vi n, Vi n, Vl s.T, Vi n, Vi n, Vl s.Q, Vi n, Vi n, Vl s.Z, Vb true]) ?_ (by simp)⟩
        refine Eq.trans (st_t hc') ?_
        refine Eq.trans (st_call rfl a1 rfl) ?_
        refine Eq.trans (st_call rfl f1 rfl) ?_
        simp only [List.cons_append, List.nil_append]
        refine Eq.trans (st_call rfl a2 rfl) ?_
        refine Eq.trans (st_call rfl f2 rfl) ?_
        refine Eq.trans (st_t rfl) ?_
        rfl
    · have d := of_decide_eq_true c1
      have st := hstep9_ok hi hin (j := j) (by omega) h c1
      rw [decide_eq_true (show fPow (hrF n (j + 2 + m) j s) ≠ 2047 by omega)] at f1
      rw [decide_eq_true (show fPow (hrG n (j + 2 + m) j s) ≠ 2047 by omega)] at f2
      cases hs : hsS n (j + 2 + m) j s with
      | none =>
        rw [hs] at st
        simp only
        refine ⟨Vi 0, Vi 0, Vl [], Vi 0, Vi 0, Vl [], Vi 0, Vi 0, Vl [], Vi 0, Vi 0, Vl [], Vb false, rounds_exit (us := [Vi 0, Vi 0, Vl [], Vi 0, Vi 0, Vl [], Vi 0, Vi 0, Vl [], Vi 0, Vi 0, Vl [], Vb false]) ?_ (by simp)⟩
        refine Eq.trans (st_t hc') ?_
        refine Eq.trans (st_call rfl a1 rfl) ?_
        refine Eq.trans (st_call rfl f1 rfl) ?_
        simp only [List.cons_append, List.nil_append]
        refine Eq.trans (st_call rfl a2 rfl) ?_
        refine Eq.trans (st_call rfl f2 rfl) ?_
        refine Eq.trans (st_f rfl) ?_
        simp only [List.cons_append, List.nil_append]
        refine Eq.trans (st_call rfl st rfl) ?_
        refine Eq.trans (st_t rfl) ?_
        rfl
      | some s2 =>
        rw [hs] at st
        have hm2 := hsS_mx hi hin h hs
        have hih := ih (s := s2) (by omega) hm2
        have key : rounds (fun vs => lo212_2.dv (Vi n :: x1 :: x2 :: x3 :: x4 :: x5 :: x6 :: x7 :: x8 :: x9 :: x10 :: x11 :: x12 :: x13 :: x14 :: x15 :: x16 :: x17 :: x18 :: x19 :: x20 :: x21 :: Vi j :: x23 :: x24 :: x25 :: x26 :: x27 :: x28 :: x29 :: x30 :: x31 :: x32 :: x33 :: x34 :: x35 :: vs)) [Vi ((j + 2 + m : Nat) : Int), Vi n, Vi n, Vl s.H, Vi n, Vi n, Vl s.T, Vi n, Vi n, Vl s.Q, Vi n, Vi n, Vl s.Z, Vb true] = rounds (fun vs => lo212_2.dv (Vi n :: x1 :: x2 :: x3 :: x4 :: x5 :: x6 :: x7 :: x8 :: x9 :: x10 :: x11 :: x12 :: x13 :: x14 :: x15 :: x16 :: x17 :: x18 :: x19 :: x20 :: x21 :: Vi j :: x23 :: x24 :: x25 :: x26 :: x27 :: x28 :: x29 :: x30 :: x31 :: x32 :: x33 :: x34 :: x35 :: vs)) [Vi ((j + 1 + m : Nat) : Int), Vi n, Vi n, Vl s2.H, Vi n, Vi n, Vl s2.T, Vi n, Vi n, Vl s2.Q, Vi n, Vi n, Vl s2.Z, Vb true] := by
          rw [← e1]
          refine rounds_cont ?_
          refine Eq.trans (st_t hc') ?_
          refine Eq.trans (st_call rfl a1 rfl) ?_
          refine Eq.trans (st_call rfl f1 rfl) ?_
          simp only [List.cons_append, List.nil_append]
          refine Eq.trans (st_call rfl a2 rfl) ?_
          refine Eq.trans (st_call rfl f2 rfl) ?_
          refine Eq.trans (st_f rfl) ?_
          simp only [List.cons_append, List.nil_append]
          refine Eq.trans (st_call rfl st rfl) ?_
          refine Eq.trans (st_f rfl) ?_
          rfl
        simp only
        rw [key]
        exact hih

theorem hout9_loop {n : Nat} (hn6 : n ≤ 6) {x1 x2 x3 x4 x5 x6 x7 x8 x9 x10 x11 x12 x13 x14 x15 x16 x17 x18 x19 x20 x21 : PV} : ∀ (m : Nat) {j : Nat} {s : Q4}, j + m = n - 2 → Mx4 n s →
    match hsOut n m j s with
    | some s' => rounds (fun vs => lo212_1.dv (Vi n :: x1 :: x2 :: x3 :: x4 :: x5 :: x6 :: x7 :: x8 :: x9 :: x10 :: x11 :: x12 :: x13 :: x14 :: x15 :: x16 :: x17 :: x18 :: x19 :: x20 :: x21 :: vs)) [Vi j, Vi n, Vi n, Vl s.H, Vi n, Vi n, Vl s.T, Vi n, Vi n, Vl s.Q, Vi n, Vi n, Vl s.Z, Vb true] = some (.y (.ext 0) [Vi n, Vi n, Vl s'.H, Vi n, Vi n, Vl s'.T, Vi n, Vi n, Vl s'.Q, Vi n, Vi n, Vl s'.Z, Vb true])
    | none => ∃ a1 a2 a3 a4 a5 a6 a7 a8 a9 a10 a11 a12 a13, rounds (fun vs => lo212_1.dv (Vi n :: x1 :: x2 :: x3 :: x4 :: x5 :: x6 :: x7 :: x8 :: x9 :: x10 :: x11 :: x12 :: x13 :: x14 :: x15 :: x16 :: x17 :: x18 :: x19 :: x20 :: x21 :: vs)) [Vi j, Vi n, Vi n, Vl s.H, Vi n, Vi n, Vl s.T, Vi n, Vi n, Vl s.Q, Vi n, Vi n, Vl s.Z, Vb true] = some (.y .ret [a1, a2, a3, a4, a5, a6, a7, a8, a9, a10, a11, a12, a13]) := by
  intro m
  induction m with
  | zero =>
    intro j s hm h
    simp only [hsOut]
    refine rounds_exit ?_ (by simp)
    have e2 : (B.sub .i64).den (Vi n) (Vi 2) = Vi ((n : Int) - 2) := sub_i (by omega) (by omega)
    have hc' : (B.lt.den (Vi j) ((B.sub .i64).den (Vi n) (Vi 2))).bool = false := by
      rw [e2]; simp; try omega
    exact Eq.trans (st_f hc') rfl
  | succ m ih =>
    intro j s hm h
    have e2 : (B.sub .i64).den (Vi n) (Vi 2) = Vi ((n : Int) - 2) := sub_i (by omega) (by omega)
    have hc' : (B.lt.den (Vi j) ((B.sub .i64).den (Vi n) (Vi 2))).bool = true := by
      rw [e2]; simp; try omega
    have e1 : (B.add .i64).den (Vi j) (Vi 1) = Vi ((j + 1 : Nat) : Int) := by rw [add_i (by omega) (by omega)]; rfl
    have e3 : (B.sub .i64).den (Vi n) (Vi 1) = Vi ((j + 1 + (n - (j + 2)) : Nat) : Int) := by rw [sub_i (by omega) (by omega)]; exact congrArg Vi (by omega)
    have hl := hin9_loop (n := n) (j := j) hn6 (x1 := x1) (x2 := x2) (x3 := x3) (x4 := x4) (x5 := x5) (x6 := x6) (x7 := x7) (x8 := x8) (x9 := x9) (x10 := x10) (x11 := x11) (x12 := x12) (x13 := x13) (x14 := x14) (x15 := x15) (x16 := x16) (x17 := x17) (x18 := x18) (x19 := x19) (x20 := x20) (x21 := x21) (x23 := Vi n) (x24 := Vi n) (x25 := Vl s.H) (x26 := Vi n) (x27 := Vi n) (x28 := Vl s.T) (x29 := Vi n) (x30 := Vi n) (x31 := Vl s.Q) (x32 := Vi n) (x33 := Vi n) (x34 := Vl s.Z) (x35 := Vb true) (n - (j + 2)) (s := s) (by omega) h
    rw [← e3] at hl
    unfold hsOut
    cases hs : hsIn n j (n - (j + 2)) s with
    | none =>
      rw [hs] at hl
      obtain ⟨a1, a2, a3, a4, a5, a6, a7, a8, a9, a10, a11, a12, a13, hl⟩ := hl
      refine ⟨a1, a2, a3, a4, a5, a6, a7, a8, a9, a10, a11, a12, a13, rounds_exit ?_ (by simp)⟩
      refine Eq.trans (st_t hc') ?_
      refine Eq.trans (st_loop hl) ?_
      refine Eq.trans st_hit ?_
      rfl
    | some s2 =>
      rw [hs] at hl
      have hm2 := hsIn_mx _ (by omega) h hs
      have hih := ih (j := j + 1) (s := s2) (by omega) hm2
      have key : rounds (fun vs => lo212_1.dv (Vi n :: x1 :: x2 :: x3 :: x4 :: x5 :: x6 :: x7 :: x8 :: x9 :: x10 :: x11 :: x12 :: x13 :: x14 :: x15 :: x16 :: x17 :: x18 :: x19 :: x20 :: x21 :: vs)) [Vi j, Vi n, Vi n, Vl s.H, Vi n, Vi n, Vl s.T, Vi n, Vi n, Vl s.Q, Vi n, Vi n, Vl s.Z, Vb true] = rounds (fun vs => lo212_1.dv (Vi n :: x1 :: x2 :: x3 :: x4 :: x5 :: x6 :: x7 :: x8 :: x9 :: x10 :: x11 :: x12 :: x13 :: x14 :: x15 :: x16 :: x17 :: x18 :: x19 :: x20 :: x21 :: vs)) [Vi ((j + 1 : Nat) : Int), Vi n, Vi n, Vl s2.H, Vi n, Vi n, Vl s2.T, Vi n, Vi n, Vl s2.Q, Vi n, Vi n, Vl s2.Z, Vb true] := by
        rw [← e1]
        refine rounds_cont ?_
        refine Eq.trans (st_t hc') ?_
        refine Eq.trans (st_loop hl) ?_
        refine Eq.trans (st_miss (by simp)) ?_
        refine Eq.trans st_hit ?_
        rfl
      simp only
      rw [key]
      exact hih

theorem bring9_ok {n : Nat} {a b : List Nat} (ha : Mx n n a) (hb : Mx n n b) : val 212 [Vi n, Vi n, Vl a, Vi n, Vi n, Vl b] = some (match brR n a b with
    | some s => [Vi n, Vi n, Vl s.H, Vi n, Vi n, Vl s.T, Vi n, Vi n, Vl s.Q, Vi n, Vi n, Vl s.Z, Vb true]
    | none => [Vi 0, Vi 0, Vl [], Vi 0, Vi 0, Vl [], Vi 0, Vi 0, Vl [], Vi 0, Vi 0, Vl [], Vb false]) := by
  refine val_of tab212 ?_
  have hn := ha.hr
  have f1 := factor9_ok hb
  unfold brR
  cases hq : qrR n n b with
  | none =>
    rw [hq] at f1
    refine Eq.trans (st_call rfl f1 rfl) ?_
    refine Eq.trans (st_t rfl) ?_
    rfl
  | some p =>
    obtain ⟨q, y⟩ := p
    rw [hq] at f1
    obtain ⟨mq, my⟩ := qrR_mx hb hq
    have ht := tp9_ok mq
    have hm := mul9_ok10 (tpV_mx mq) ha rfl
    have e1 := eye9_ok hn
    have hst := br_start ha hb hq
    refine Eq.trans (st_call rfl f1 rfl) ?_
    refine Eq.trans (st_f rfl) ?_
    simp only [List.cons_append, List.nil_append]
    refine Eq.trans (st_call rfl ht rfl) ?_
    refine Eq.trans (st_call rfl hm rfl) ?_
    refine Eq.trans (st_call rfl e1 rfl) ?_
    simp only [List.cons_append, List.nil_append]
    have lp := hout9_loop (n := n) hn (x1 := Vi n) (x2 := Vl a) (x3 := Vi n) (x4 := Vi n) (x5 := Vl b) (x6 := Vi n) (x7 := Vi n) (x8 := Vl q) (x9 := Vi n) (x10 := Vi n) (x11 := Vl y) (x12 := Vb true) (x13 := Vi n) (x14 := Vi n) (x15 := Vl (tpV n n q)) (x16 := Vi n) (x17 := Vi n) (x18 := Vl (muV n n (tpV n n q) n n a)) (x19 := Vi n) (x20 := Vi n) (x21 := Vl (eyV n)) (n - 2) (j := 0) (s := ⟨muV n n (tpV n n q) n n a, y, q, eyV n⟩) (by omega) hst
    rw [show ((0 : Nat) : Int) = 0 from rfl] at lp
    cases hs : hsOut n (n - 2) 0 ⟨muV n n (tpV n n q) n n a, y, q, eyV n⟩ with
    | none =>
      rw [hs] at lp
      obtain ⟨a1, a2, a3, a4, a5, a6, a7, a8, a9, a10, a11, a12, a13, lp⟩ := lp
      refine Eq.trans (st_loop lp) ?_
      refine Eq.trans st_hit ?_
      rfl
    | some s =>
      rw [hs] at lp
      have hm := hsOut_mx _ 0 (by omega) hst hs
      have cH := clh9_ok (b := 1) (by omega) hm.H
      have cT := clh9_ok (b := 0) (by omega) hm.T
      have mH := clH_mx (b := 1) hm.H
      have mT := clH_mx (b := 0) hm.T
      have f1 := finite_9_ok mH.w (by have := mH.small; omega)
      have f2 := finite_9_ok mT.w (by have := mT.small; omega)
      have f3 := finite_9_ok hm.Q.w (by have := hm.Q.small; omega)
      have f4 := finite_9_ok hm.Z.w (by have := hm.Z.small; omega)
      refine Eq.trans (st_loop lp) ?_
      refine Eq.trans (st_miss (by simp)) ?_
      refine Eq.trans st_hit ?_
      simp only [List.cons_append, List.nil_append]
      refine Eq.trans (st_call rfl cH rfl) ?_
      refine Eq.trans (st_call rfl cT rfl) ?_
      simp only [List.cons_append, List.nil_append]
      refine Eq.trans (st_call rfl f1 rfl) ?_
      cases d1 : finV (clH n 1 s.H)
      · refine Eq.trans (st_skip rfl) ?_
        refine Eq.trans (st_skip rfl) ?_
        refine Eq.trans (st_skip rfl) ?_
        refine Eq.trans (st_t rfl) ?_
        rfl
      refine Eq.trans (st_call rfl f2 rfl) ?_
      cases d2 : finV (clH n 0 s.T)
      · refine Eq.trans (st_skip rfl) ?_
        refine Eq.trans (st_skip rfl) ?_
        refine Eq.trans (st_t rfl) ?_
        rfl
      refine Eq.trans (st_call rfl f3 rfl) ?_
      cases d3 : finV s.Q
      · refine Eq.trans (st_skip rfl) ?_
        refine Eq.trans (st_t rfl) ?_
        rfl
      refine Eq.trans (st_call rfl f4 rfl) ?_
      cases d4 : finV s.Z
      · refine Eq.trans (st_t rfl) ?_
        rfl
      refine Eq.trans (st_f rfl) ?_
      rfl

theorem check18_ok {R C R' C' : Int} {a b : List Nat} (ha : Words a) (la : a.length ≤ 17592186043904) (hb : Words b) (lb : b.length ≤ 17592186043904) : val 77 [Vi R, Vi C, Vl a, Vi R', Vi C', Vl b] = some [Vi (brE R C a R' C' b)] := by
  refine val_of tab77 ?_
  have c1 := ccheck9_ok R C ha la
  have c2 := ccheck9_ok R' C' hb lb
  unfold brE
  generalize chk R C a = e1 at *
  generalize chk R' C' b = e2 at *
  by_cases h1 : e1 = 0
  · by_cases h2 : e2 = 0
    · rw [if_neg (by simpa using h1), if_neg (by simpa using h2)]
      subst h1 h2
      by_cases h3 : R = C
      · subst h3
        by_cases h4 : R' = R
        · subst h4
          by_cases h5 : C' = R'
          · subst h5
            rw [if_neg (by omega)]
            simp [tr77, TT.dv, c1, c2]
          · rw [if_pos (by omega)]
            simp [tr77, TT.dv, c1, c2, h5]
        · rw [if_pos (by omega)]
          simp [tr77, TT.dv, c1, c2, h4]
      · rw [if_pos (by omega)]
        simp [tr77, TT.dv, c1, c2, h3]
    · rw [if_neg (by simpa using h1), if_pos h2]
      simp [tr77, TT.dv, c1, c2, h1, h2]
  · rw [if_pos h1]
    simp [tr77, TT.dv, c1, h1]
theorem bring_no {R C R' C' : Int} {a b : List Nat} (la : a.length ≤ 17592186043904) (lb : b.length ≤ 17592186043904) (h : brE R C a R' C' b ≠ 0) : val 233 [Vi R, Vi C, Vl a, Vi R', Vi C', Vl b] = some [Vi 0, Vi 0, Vl [], Vi 0, Vi 0, Vl [], Vi 0, Vi 0, Vl [], Vi 0, Vi 0, Vl [], Vi (brE R C a R' C' b)] := by
  refine val_of tab233 ?_
  have c1 := ccheck_ok R C la
  have c2 := ccheck_ok R' C' lb
  unfold brE at h ⊢
  generalize chk R C a = e1 at *
  generalize chk R' C' b = e2 at *
  by_cases h1 : e1 = 0
  · by_cases h2 : e2 = 0
    · rw [if_neg (by simpa using h1), if_neg (by simpa using h2)] at h ⊢
      subst h1 h2
      by_cases h6 : R ≠ C ∨ R' ≠ R ∨ C' ≠ R
      · rw [if_pos h6]
        refine Eq.trans (st_call rfl c1 rfl) ?_
        refine Eq.trans (st_f rfl) ?_
        refine Eq.trans (st_call rfl c2 rfl) ?_
        refine Eq.trans (st_f rfl) ?_
        simp only [List.cons_append, List.nil_append]
        refine Eq.trans (st_t ?_) rfl
        by_cases h3 : R = C
        · by_cases h4 : R' = R
          · have h5 : C' ≠ R := by omega
            simp [← h3, h4, h5]
          · simp [← h3, h4]
        · have h3' : ¬ C = R := fun hh => h3 hh.symm
          simp [h3, h3']
      · rw [if_neg h6] at h; exact absurd rfl h
    · rw [if_neg (by simpa using h1), if_pos h2] at h ⊢
      subst h1
      refine Eq.trans (st_call rfl c1 rfl) ?_
      refine Eq.trans (st_f rfl) ?_
      refine Eq.trans (st_call rfl c2 rfl) ?_
      refine Eq.trans (st_t (by simp [h2])) rfl
  · rw [if_pos h1]
    refine Eq.trans (st_call rfl c1 rfl) ?_
    refine Eq.trans (st_t (by simp [h1])) rfl
theorem br_cases {R C R' C' : Int} {a b : List Nat} (ha : Words a) (hb : Words b) : brE R C a R' C' b ≠ 0 ∨ (brE R C a R' C' b = 0 ∧ ∃ n : Nat, R = n ∧ C = n ∧ R' = n ∧ C' = n ∧ Mx n n a ∧ Mx n n b ∧ finV a = true ∧ finV b = true) := by
  by_cases h : brE R C a R' C' b = 0
  · right
    refine ⟨h, ?_⟩
    unfold brE at h
    rcases chk_cases R C a with h1 | ⟨h1, r1, f1⟩
    · rw [if_pos h1] at h; exact absurd h h1
    · rw [if_neg (by simpa using h1)] at h
      rcases chk_cases R' C' b with h2 | ⟨h2, r2, f2⟩
      · rw [if_pos h2] at h; exact absurd h h2
      · rw [if_neg (by simpa using h2)] at h
        by_cases h6 : R ≠ C ∨ R' ≠ R ∨ C' ≠ R
        · rw [if_pos h6] at h; exact absurd h (by decide)
        · obtain ⟨m, n, e1, e2, hm⟩ := right_mx r1 ha
          obtain ⟨m', n', e3, e4, hm'⟩ := right_mx r2 hb
          obtain rfl : m = n := by omega
          obtain rfl : m' = m := by omega
          obtain rfl : n' = m' := by omega
          exact ⟨_, e1, e2, e3, e4, hm, hm', f1, f2⟩
  · exact .inl h
section
variable {n : Nat} {s : Q4} (h : Mx4 n s) (hT : ∀ i k, k < i → i < n → el s.T (ps i n k) = 0) (hH : ∀ i k, k + 1 < i → i < n → el s.H (ps i n k) = 0)
include h hT hH
end
theorem Vl_inj {a b : List Nat} : Vl a = Vl b ↔ a = b := by
  refine ⟨fun h => ?_, fun h => by rw [h]⟩
  exact (List.map_inj_right (fun x y hxy => U_inj.1 hxy)).1 (PV.l.inj h)
theorem cpl71 : lo71_1 = cplT 27 0 := rfl
theorem cpl71b : lo71_2 = cplT 27 2 := rfl
theorem law_HessBrings {R C : Int} (_ : -9223372036854775808 ≤ R) (_ : R < 9223372036854775808) (_ : -9223372036854775808 ≤ C) (_ : C < 9223372036854775808) {a : List Nat} (ha : Words a) (la : a.length ≤ 17592186043904)
    {R' C' : Int} (_ : -9223372036854775808 ≤ R') (_ : R' < 9223372036854775808) (_ : -9223372036854775808 ≤ C') (_ : C' < 9223372036854775808) {b : List Nat} (hb : Words b) (lb : b.length ≤ 17592186043904) :
    val 71 [Vi R, Vi C, Vl a, Vi R', Vi C', Vl b] = some [Vb true] := by
  refine val_of tab71 ?_
  have cp1 := copy_ok R C (x := a) (by omega)
  have cp2 := copy_ok R' C' (x := b) (by omega)
  have lp1 := cpl_at (p := 27) (e := 0) ha la
  have lp2 := cpl_at (p := 27) (e := 2) hb lb
  rw [← cpl71] at lp1
  rw [← cpl71b] at lp2
  have s1 := same_m R C (x := a) (by omega)
  have s2 := same_m R' C' (x := b) (by omega)
  have ck := check18_ok (R := R) (C := C) (R' := R') (C' := C') ha la hb lb
  obtain ⟨e, rs, ws, f1, hrs, hws, hsc⟩ : ∃ (e : Int) (rs : List PV) (ws : List PV), val 233 [Vi R, Vi C, Vl a, Vi R', Vi C', Vl b] = some (rs ++ [Vi e]) ∧ rs = ws ∧
      (∃ m1 n1 x1 m2 n2 x2 m3 n3 x3 m4 n4 x4, ws = [Vi m1, Vi n1, Vl x1, Vi m2, Vi n2, Vl x2, Vi m3, Vi n3, Vl x3, Vi m4, Vi n4, Vl x4] ∧ x1.length ≤ 36 ∧ x2.length ≤ 36 ∧ x3.length ≤ 36 ∧ x4.length ≤ 36) ∧
      ((brE R C a R' C' b ≠ 0 ∧ e = brE R C a R' C' b ∧ ws = [Vi 0, Vi 0, Vl [], Vi 0, Vi 0, Vl [], Vi 0, Vi 0, Vl [], Vi 0, Vi 0, Vl []]) ∨ (brE R C a R' C' b = 0 ∧ ∃ ok : Bool, val 212 [Vi R, Vi C, Vl a, Vi R', Vi C', Vl b] = some (ws ++ [Vb ok]) ∧ e = if ok then 0 else 2)) := by
    rcases br_cases (R := R) (C := C) (R' := R') (C' := C') ha hb with h | ⟨h0, n, rfl, rfl, rfl, rfl, ma, mb, fa, fb⟩
    · exact ⟨_, _, _, bring_no la lb h, rfl, ⟨0, 0, [], 0, 0, [], 0, 0, [], 0, 0, [], rfl, by decide, by decide, by decide, by decide⟩, .inl ⟨h, rfl, rfl⟩⟩
    · have f1 := bring_ok ma mb fa fb
      have f9 := bring9_ok ma mb
      cases hs : brR n a b with
      | none =>
        rw [hs] at f1 f9
        exact ⟨2, [Vi 0, Vi 0, Vl [], Vi 0, Vi 0, Vl [], Vi 0, Vi 0, Vl [], Vi 0, Vi 0, Vl []], _, f1, rfl, ⟨0, 0, [], 0, 0, [], 0, 0, [], 0, 0, [], rfl, by decide, by decide, by decide, by decide⟩, .inr ⟨h0, false, f9, rfl⟩⟩
      | some s =>
        rw [hs] at f1 f9
        have hm := brR_mx ma mb hs
        exact ⟨0, [Vi n, Vi n, Vl s.H, Vi n, Vi n, Vl s.T, Vi n, Vi n, Vl s.Q, Vi n, Vi n, Vl s.Z], _, f1, rfl, ⟨n, n, s.H, n, n, s.T, n, n, s.Q, n, n, s.Z, rfl, hm.H.small, hm.T.small, hm.Q.small, hm.Z.small⟩, .inr ⟨h0, true, f9, rfl⟩⟩
  obtain ⟨m1, n1, x1, m2, n2, x2, m3, n3, x3, m4, n4, x4, rfl, l1, l2, l3, l4⟩ := hws
  subst hrs
  have t1 := same_m m1 n1 (x := x1) (by omega)
  have t2 := same_m m2 n2 (x := x2) (by omega)
  have t3 := same_m m3 n3 (x := x3) (by omega)
  have t4 := same_m m4 n4 (x := x4) (by omega)
  simp only [List.cons_append, List.nil_append] at f1 hsc
  refine Eq.trans (st_call rfl cp1 rfl) ?_
  refine Eq.trans (st_call rfl cp2 rfl) ?_
  simp only [List.cons_append, List.nil_append]
  refine Eq.trans (st_call rfl f1 rfl) ?_
  simp only [List.cons_append, List.nil_append]
  refine Eq.trans (st_call rfl s1 rfl) ?_
  refine Eq.trans (st_call rfl s2 rfl) ?_
  refine Eq.trans (st_f rfl) ?_
  simp only [List.cons_append, List.nil_append]
  refine Eq.trans (st_loop (lp1 _ rfl)) ?_
  refine Eq.trans st_hit ?_
  simp only [List.append_nil]
  refine Eq.trans (st_loop (lp2 _ rfl)) ?_
  refine Eq.trans st_hit ?_
  simp only [List.append_nil]
  refine Eq.trans (st_call rfl ck rfl) ?_
  simp only [List.cons_append, List.nil_append]
  generalize brE R C a R' C' b = be at *
  rcases hsc with ⟨h1, rfl, h3⟩ | ⟨rfl, ok, h2, rfl⟩
  · simp only [List.cons.injEq, and_true, I_inj, Vl_inj] at h3
    obtain ⟨rfl, rfl, rfl, rfl, rfl, rfl, rfl, rfl, rfl, rfl, rfl, rfl⟩ := h3
    have hb0 : (B.eq.den (Vi e) (Vi 0)).bool = false := by simp [h1]
    refine Eq.trans (st_scope (Eq.trans (st_f hb0) rfl)) ?_
    refine Eq.trans st_hit ?_
    simp only [List.cons_append, List.nil_append]
    refine Eq.trans (st_call (by simp) same_nil rfl) ?_
    refine Eq.trans (st_call (by simp) same_nil rfl) ?_
    refine Eq.trans (st_call (by simp) same_nil rfl) ?_
    refine Eq.trans (st_call (by simp) same_nil rfl) ?_
    refine Eq.trans (st_call (by simp) awake_18 rfl) ?_
    simp [TT.dv]
  · cases ok
    · refine Eq.trans (st_scope (Eq.trans (st_t rfl) (Eq.trans (st_call rfl h2 rfl) (Eq.trans (st_t rfl) rfl)))) ?_
      refine Eq.trans st_hit ?_
      simp only [List.cons_append, List.nil_append]
      refine Eq.trans (st_call (by simp) t1 rfl) ?_
      refine Eq.trans (st_call (by simp) t2 rfl) ?_
      refine Eq.trans (st_call (by simp) t3 rfl) ?_
      refine Eq.trans (st_call (by simp) t4 rfl) ?_
      refine Eq.trans (st_call (by simp) awake_18 rfl) ?_
      simp [TT.dv]
    · refine Eq.trans (st_scope (Eq.trans (st_t rfl) (Eq.trans (st_call rfl h2 rfl) (Eq.trans (st_f rfl) rfl)))) ?_
      refine Eq.trans st_hit ?_
      simp only [List.cons_append, List.nil_append]
      refine Eq.trans (st_call (by simp) t1 rfl) ?_
      refine Eq.trans (st_call (by simp) t2 rfl) ?_
      refine Eq.trans (st_call (by simp) t3 rfl) ?_
      refine Eq.trans (st_call (by simp) t4 rfl) ?_
      refine Eq.trans (st_call (by simp) awake_18 rfl) ?_
      simp [TT.dv]
end Go.Proofs.YthchhkghjfendabGreat.Dx

