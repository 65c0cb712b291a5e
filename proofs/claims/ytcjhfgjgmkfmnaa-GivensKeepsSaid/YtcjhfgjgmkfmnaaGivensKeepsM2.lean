/- The pure meaning of the functions that the law reaches, and that the law is true of it. No conditions. -/
import Derived.Test.YtcjhfgjgmkfmnaaGivensKeepsM1
set_option linter.all false
namespace Go.Proofs.Ytcjhfgjgmkfmnaa.Dx
open Go

/-- The quotient of two numbers of 53 digits. -/
theorem quo_near {m n : Nat} (hm : m ≠ 0) (hn : n ≠ 0) (hm2 : m < 9007199254740992) (hn2 : n < 9007199254740992) (i j : Int) (s : Bool) :
    nearV s (quoN (m * 2 ^ nrm m) (n * 2 ^ nrm n) 61) (i - nrm m - (j - nrm n) - 61 - 1) = nearV s (quoN m n (quoK m n)) (i - j - quoK m n - 1) ∧ m * 2 ^ nrm m * 2 ^ 61 / (n * 2 ^ nrm n) ≠ 0 ∧
    60 ≤ (m * 2 ^ nrm m * 2 ^ 61 / (n * 2 ^ nrm n)).log2 := by
  obtain ⟨a1, a2, a3⟩ := nrm_bd hm hm2
  obtain ⟨b1, b2, b3⟩ := nrm_bd hn hn2
  have hk : quoK m n = 54 + n.log2 - m.log2 := rfl
  have hk2 : nrm m + 61 = quoK m n + 7 + nrm n := by rw [hk]; unfold nrm; omega
  have e0 : m * 2 ^ nrm m * 2 ^ 61 = m * 2 ^ (quoK m n + 7) * 2 ^ nrm n := by
    rw [Nat.mul_assoc, ← Nat.pow_add, hk2, Nat.pow_add, Nat.mul_assoc]
  have e1 : m * 2 ^ nrm m * 2 ^ 61 / (n * 2 ^ nrm n) = m * 2 ^ (quoK m n + 7) / n := by rw [e0, Nat.mul_div_mul_right _ _ (Nat.two_pow_pos _)]
  have e2 : m * 2 ^ nrm m * 2 ^ 61 % (n * 2 ^ nrm n) = m * 2 ^ (quoK m n + 7) % n * 2 ^ nrm n := by rw [e0, Nat.mul_mod_mul_right]
  have hq : quoN (m * 2 ^ nrm m) (n * 2 ^ nrm n) 61 = quoN m n (quoK m n + 7) := by
    unfold quoN
    rw [e1, e2]
    refine congrArg _ (congrArg _ ?_)
    rw [decide_eq_decide, ne_eq, ne_eq, Nat.mul_eq_zero]
    simp
  have hlow : 2 ^ 60 ≤ m * 2 ^ nrm m * 2 ^ 61 / (n * 2 ^ nrm n) := by
    rw [Nat.le_div_iff_mul_le (by unfold two52 at b2; omega)]
    have h1 : 2 ^ 60 * (n * 2 ^ nrm n) ≤ 2 ^ 60 * 9007199254740992 := Nat.mul_le_mul_left _ (by omega)
    have h2 : 4503599627370496 * 2 ^ 61 ≤ m * 2 ^ nrm m * 2 ^ 61 := Nat.mul_le_mul_right _ a2
    have h3 : 2 ^ 60 * 9007199254740992 = 4503599627370496 * 2 ^ 61 := by decide
    exact Nat.le_trans h1 (Nat.le_trans (Nat.le_of_eq h3) h2)
  have hpos : 0 < 2 ^ 60 := Nat.two_pow_pos 60
  have hne : m * 2 ^ nrm m * 2 ^ 61 / (n * 2 ^ nrm n) ≠ 0 := by omega
  have hlog : 60 ≤ (m * 2 ^ nrm m * 2 ^ 61 / (n * 2 ^ nrm n)).log2 := by rw [Nat.le_log2 hne]; exact hlow
  refine ⟨?_, hne, hlog⟩
  rw [hq]
  have h0 : m * 2 ^ quoK m n / n ≠ 0 ∧ 53 ≤ (m * 2 ^ quoK m n / n).log2 := by
    have hh : 2 ^ 53 ≤ m * 2 ^ quoK m n / n := by
      rw [Nat.le_div_iff_mul_le (Nat.pos_of_ne_zero hn)]
      have h1 := Nat.mul_le_mul_right (2 ^ quoK m n) (Nat.log2_self_le hm)
      rw [← Nat.pow_add] at h1
      have h2 : 2 ^ 53 * n ≤ 2 ^ 53 * 2 ^ (n.log2 + 1) := Nat.mul_le_mul_left _ (Nat.le_of_lt Nat.lt_log2_self)
      rw [← Nat.pow_add] at h2
      rw [show m.log2 + quoK m n = 53 + (n.log2 + 1) by rw [hk]; omega] at h1
      omega
    have : m * 2 ^ quoK m n / n ≠ 0 := by have := Nat.two_pow_pos 53; omega
    exact ⟨this, by rw [Nat.le_log2 this]; exact hh⟩
  have := quo_more (m := m) (n := n) (k := quoK m n) (p := i - j) hn h0.1 (by unfold lastP; omega) 7
  unfold nearV
  rw [← this]
  exact congrArg _ (congrArg _ (by omega))
theorem div_ok {a b : Nat} (ha : a < 18446744073709551616) (hb : b < 18446744073709551616) : ∃ f, val 300 [Vu a, Vu b] = some [Vu (divV a b), f] := by
  have s1 := sign_ok a
  have s2 := sign_ok b
  have k1 := kind_ok a
  have k2 := kind_ok b
  have hn := times_nan a b
  have hsI := signed_ok (b := infR) (fNeg a != fNeg b) (.inl rfl)
  have hsZ := signed_ok (b := 0) (fNeg a != fNeg b) (.inr rfl)
  have eI : infR = 9218868437227405312 := rfl
  rw [eI] at hsI
  unfold divV
  rw [eI]
  by_cases c1 : nanB a ∨ nanB b
  · rw [if_pos c1]
    refine ⟨Vy 0, val_of tab300 ?_⟩
    rw [decide_eq_true c1] at hn
    simp [tr300, TT.dv, s1, s2, k1, k2, hn, nan0]
  · rw [if_neg c1]
    rw [decide_eq_false c1] at hn
    have cn1 : ¬ nanB a := fun h => c1 (.inl h)
    have cn2 : ¬ nanB b := fun h => c1 (.inr h)
    by_cases c2 : infB a
    · rw [if_pos c2]
      have i1 := (kind_infB a).2 c2
      by_cases c3 : infB b
      · rw [if_pos c3]
        have i2 := (kind_infB b).2 c3
        refine ⟨Vy 16, val_of tab300 ?_⟩
        simp [tr300, TT.dv, s1, s2, k1, k2, hn, i1, i2, nan0]
      · rw [if_neg c3]
        have i2 : ¬ fKind b = 3 := fun h => c3 ((kind_infB b).1 h)
        refine ⟨Vy 0, val_of tab300 ?_⟩
        simp [tr300, TT.dv, s1, s2, k1, k2, hn, i1, i2, hsI]
    · rw [if_neg c2]
      have i1 : ¬ fKind a = 3 := fun h => c2 ((kind_infB a).1 h)
      by_cases c3 : infB b
      · rw [if_pos c3]
        have i2 := (kind_infB b).2 c3
        refine ⟨Vy 0, val_of tab300 ?_⟩
        simp [tr300, TT.dv, s1, s2, k1, k2, hn, i1, i2, hsZ]
      · rw [if_neg c3]
        have i2 : ¬ fKind b = 3 := fun h => c3 ((kind_infB b).1 h)
        by_cases c4 : zeroB b
        · rw [if_pos c4]
          have z2 := (kind_zeroB b).2 c4
          by_cases c5 : zeroB a
          · rw [if_pos c5]
            have z1 := (kind_zeroB a).2 c5
            refine ⟨Vy 16, val_of tab300 ?_⟩
            simp [tr300, TT.dv, s1, s2, k1, k2, hn, z1, z2, nan0]
          · rw [if_neg c5]
            have z1 : ¬ fKind a = 0 := fun h => c5 ((kind_zeroB a).1 h)
            refine ⟨Vy 8, val_of tab300 ?_⟩
            simp [tr300, TT.dv, s1, s2, k1, k2, hn, i1, z1, z2, hsI]
        · rw [if_neg c4]
          have z2 : ¬ fKind b = 0 := fun h => c4 ((kind_zeroB b).1 h)
          by_cases c5 : zeroB a
          · rw [if_pos c5]
            have z1 := (kind_zeroB a).2 c5
            refine ⟨Vy 0, val_of tab300 ?_⟩
            simp [tr300, TT.dv, s1, s2, k1, k2, hn, i2, z1, z2, hsZ]
          · rw [if_neg c5]
            have z1 : ¬ fKind a = 0 := fun h => c5 ((kind_zeroB a).1 h)
            have f1 := fin_of cn1 c2
            have f2 := fin_of cn2 c3
            have m1 : fMag a ≠ 0 := fun h => c5 ((zeroB_mag f1).2 h)
            have m2 : fMag b ≠ 0 := fun h => c4 ((zeroB_mag f2).2 h)
            have n1 := norm3_ok m1
            have n2 := norm3_ok m2
            obtain ⟨a1, a2, a3⟩ := nrm_bd m1 (fMag_lt a)
            obtain ⟨b1, b2, b3⟩ := nrm_bd m2 (fMag_lt b)
            obtain ⟨p1, p2⟩ := fPl_bd a
            obtain ⟨q1, q2⟩ := fPl_bd b
            have hw1 : nrm (fMag a) ≤ 52 := by unfold nrm; omega
            have hw2 : nrm (fMag b) ≤ 52 := by unfold nrm; omega
            obtain ⟨g1, g2, g3⟩ := quo_near m1 m2 (fMag_lt a) (fMag_lt b) (fPl a) (fPl b) (fNeg a != fNeg b)
            rw [← g1]
            unfold two52 at a2 b2
            have hlp := fun x0 x1 x2 x3 x4 x5 x6 x7 x8 x10 => div_loop (x0 := x0) (x1 := x1) (x2 := x2) (x3 := x3) (x4 := x4) (x5 := x5) (x6 := x6) (x7 := x7) (x8 := x8) (x10 := x10) b2 b3 a3 61 (i := 0) rfl
            simp only [Nat.pow_zero, Nat.mul_one, show ((0 : Nat) : Int) = 0 from rfl] at hlp
            generalize hX : fMag a * 2 ^ nrm (fMag a) = X at *
            generalize hY : fMag b * 2 ^ nrm (fMag b) = Y at *
            have e0 : (B.sub .i64).den (Vi (fPl a - nrm (fMag a))) (Vi (fPl b - nrm (fMag b))) = Vi (fPl a - nrm (fMag a) - (fPl b - nrm (fMag b))) := sub_i (by omega) (by omega)
            generalize hE : fPl a - nrm (fMag a) - (fPl b - nrm (fMag b)) = E at *
            have e1 : (B.sub .i64).den (Vi E) (Vi 61) = Vi (E - 61) := sub_i (by omega) (by omega)
            have e2 : (B.quo .u64).den (Vu X) (Vu Y) = Vu (X / Y) := quo_u (by omega)
            have e3 : ¬ Y = 0 := by omega
            have hQ : X * 2 ^ 61 / Y < 18446744073709551616 := by
              rw [Nat.div_lt_iff_lt_mul (by omega)]
              have h2 : 18446744073709551616 * 4503599627370496 ≤ 18446744073709551616 * Y := Nat.mul_le_mul_left _ b2
              omega
            obtain ⟨f, hw⟩ := wide_ok (neg := fNeg a != fNeg b) (more := decide (X * 2 ^ 61 % Y ≠ 0)) (m := X * 2 ^ 61 / Y) (e := E - 61) g2 hQ (by omega) (by omega) (fun _ => by unfold lastP; omega)
            have hw' : val 305 [Vb (fNeg a != fNeg b), Vu (X * 2 ^ 61 / Y), Vi (E - 61), Vb (decide (X * 2 ^ 61 % Y ≠ 0))] = some [Vu (nearV (fNeg a != fNeg b) (quoN X Y 61) (E - 61 - 1)), f] := hw
            have e4 : B.ne.den (Vu (X * 2 ^ 61 % Y)) (Vu 0) = Vb (decide (X * 2 ^ 61 % Y ≠ 0)) := ne_u
            generalize nearV (fNeg a != fNeg b) (quoN X Y 61) (E - 61 - 1) = res at *
            generalize decide (X * 2 ^ 61 % Y ≠ 0) = mo at *
            generalize X * 2 ^ 61 / Y = Q at *
            generalize X * 2 ^ 61 % Y = R at *
            refine ⟨f, val_of tab300 ?_⟩
            simp [-ne_u, tr300, TT.dv, KS.dv, s1, s2, k1, k2, hn, z1, z2, i1, i2, n1, n2, ne_u (a := Y) (b := 0), e0, e1, e2, e3, hlp, e4, hw']
end Go.Proofs.Ytcjhfgjgmkfmnaa.Dx

namespace Go.Proofs.Ytcjhfgjgmkfmnaa.Dx
open Go

def sumV (s t : Bool) (m n : Nat) (i j : Int) : Nat :=
  nearV (if sg s m * 2 ^ (i - min i j).toNat + sg t n * 2 ^ (j - min i j).toNat = 0 then s && t else decide (sg s m * 2 ^ (i - min i j).toNat + sg t n * 2 ^ (j - min i j).toNat < 0))
    (sg s m * 2 ^ (i - min i j).toNat + sg t n * 2 ^ (j - min i j).toNat).natAbs (min i j)
theorem sumV_comm (s t : Bool) (m n : Nat) (i j : Int) : sumV s t m n i j = sumV t s n m j i := by
  unfold sumV
  rw [Int.add_comm, Bool.and_comm, show min i j = min j i by omega]
def addV (a b : Nat) : Nat :=
  if nanB a ∨ nanB b then nan0 else
  if infB a then (if infB b ∧ fNeg a ≠ fNeg b then nan0 else a) else
  if infB b then b else sumV (fNeg a) (fNeg b) (fMag a) (fMag b) (fPl a) (fPl b)
theorem addV_lt {a b : Nat} (ha : a < 18446744073709551616) (hb : b < 18446744073709551616) : addV a b < 18446744073709551616 := by
  have h3 : nan0 < 18446744073709551616 := by decide
  unfold addV
  repeat' split
  all_goals first | exact h3 | exact ha | exact hb | exact word_lt _ _ _
theorem near0 {neg : Bool} {m : Nat} {e : Int} (hm : m < 18446744073709551616) (he : -1137 ≤ e) (he2 : e < 9000000000000) : ∃ f, val 283 [Vb neg, Vu m, Vi e, Vb false] = some [Vu (nearV neg m e), f] := by
  have h := near_ok (neg := neg) (more := false) hm he he2 (fun h => by cases h)
  have h2 := (near_scale neg m e 1).1
  rw [Nat.pow_one, Nat.mul_comm] at h2
  simp only [Bool.toNat_false, Nat.add_zero] at h
  rw [show nearV neg (2 * m) (e - 1) = nearV neg m e from h2] at h
  exact ⟨_, h⟩
/-- A number divided by a power of two, what is left in its lowest digit. -/
def rgt (M d : Nat) : Nat := if M % 2 ^ min d 63 = 0 then M / 2 ^ min d 63 else 2 * (M / 2 ^ min d 63 / 2) + 1
theorem right_ok {M d : Nat} (hM : M < 18446744073709551616) (hd : d < 9223372036854775808) : val 290 [Vu M, Vi d] = some [Vu (rgt M d)] := by
  refine val_of tab290 ?_
  have e0 : ∃ t : Nat, t = min d 63 := ⟨_, rfl⟩
  obtain ⟨t, ht⟩ := e0
  unfold rgt
  rw [← ht]
  have e1 : (B.shr .u64).den (Vu M) (Vi t) = Vu (M / 2 ^ t) := by rw [shr_uI rfl, Nat.min_eq_left (by omega)]
  have e2 : (B.shl .u64).den (Vu (M / 2 ^ t)) (Vi t) = Vu (M / 2 ^ t * 2 ^ t) := by
    rw [shl_uI rfl, Nat.min_eq_left (by omega), Nat.mod_eq_of_lt]
    exact Nat.lt_of_le_of_lt (Nat.div_mul_le_self _ _) hM
  have e3 : M / 2 ^ t * 2 ^ t = M ↔ M % 2 ^ t = 0 := by
    have := Nat.div_add_mod M (2 ^ t)
    rw [Nat.mul_comm] at this
    omega
  have hq : M / 2 ^ t < 18446744073709551616 := Nat.lt_of_le_of_lt (Nat.div_le_self _ _) hM
  have e4 : (B.or .u64).den (Vu (M / 2 ^ t)) (Vu 1) = Vu (2 * (M / 2 ^ t / 2) + 1) := by
    generalize M / 2 ^ t = q at *
    rcases (show q % 2 = 0 ∨ q % 2 = 1 by omega) with h | h
    · have := or_add (a := q / 2) (b := 1) (i := 1) (by omega) (by omega) (by omega)
      rw [show 2 ^ 1 * (q / 2) = q by omega] at this
      rw [this]; exact congrArg Vu (by omega)
    · rw [or_u hq (by omega)]
      refine congrArg Vu ?_
      have := Nat.two_pow_add_eq_or_of_lt (b := 1) (i := 1) (by omega) (q / 2)
      rw [Nat.pow_one, show 2 * (q / 2) + 1 = q by omega] at this
      conv => lhs; rw [this, Nat.or_assoc, Nat.or_self, ← this]
      omega
  generalize M / 2 ^ t = q at *
  by_cases hd63 : (d : Int) > 63
  · have ht63 : t = 63 := by omega
    rw [ht63] at e1 e2 e3 ⊢
    have e1' : (B.shr .u64).den (Vu M) (Vi 63) = Vu q := e1
    have e2' : (B.shl .u64).den (Vu q) (Vi 63) = Vu (q * 2 ^ 63) := e2
    have h63 : (63 : Int) < d := by omega
    generalize q * 2 ^ 63 = z at *
    by_cases hc : z = M
    · rw [if_pos (e3.1 hc)]
      simp [-shl_u_lit, -shr_u_lit, tr290, TT.dv, KS.dv, h63, e1', e2', hc]
    · rw [if_neg (fun h => hc (e3.2 h))]
      simp [-shl_u_lit, -shr_u_lit, tr290, TT.dv, KS.dv, h63, e1', e2', hc, e4]
  · have ht63 : t = d := by omega
    subst ht63
    have h63 : ¬ (63 : Int) < t := by omega
    generalize q * 2 ^ t = z at *
    by_cases hc : z = M
    · rw [if_pos (e3.1 hc)]
      simp [-shl_u_lit, -shr_u_lit, tr290, TT.dv, KS.dv, h63, e1, e2, hc]
    · rw [if_neg (fun h => hc (e3.2 h))]
      simp [-shl_u_lit, -shr_u_lit, tr290, TT.dv, KS.dv, h63, e1, e2, hc, e4]
end Go.Proofs.Ytcjhfgjgmkfmnaa.Dx

namespace Go.Proofs.Ytcjhfgjgmkfmnaa.Dx
open Go

theorem near_half {N k r : Nat} (p : Int) (hN : 2 ^ 56 ≤ N) (h0 : 0 < r) (hr : r < 2 ^ k) : nearR (N * 2 ^ k + r) (p - k) = nearR (2 * (N / 2) + 1) p := by
  have h56 : (2 : Nat) ^ 56 = 72057594037927936 := rfl
  rw [h56] at hN
  have hM : N / 2 ≠ 0 := by omega
  have hlog : 55 ≤ (N / 2).log2 := by
    rw [Nat.le_log2 hM]
    show 36028797018963968 ≤ N / 2
    omega
  have e1 : N * 2 ^ k + r = N / 2 * 2 ^ (k + 1) + (N % 2 * 2 ^ k + r) := by
    rw [Nat.pow_succ, ← Nat.mul_assoc, Nat.mul_right_comm, ← Nat.add_assoc, ← Nat.add_mul, Nat.mul_comm (N / 2), Nat.div_add_mod]
  have e2 : N % 2 * 2 ^ k + r < 2 ^ (k + 1) := by
    rw [Nat.pow_succ]
    have : N % 2 * 2 ^ k ≤ 1 * 2 ^ k := Nat.mul_le_mul_right _ (by omega)
    omega
  have := (near_sticky hM (p := p + 1) (by unfold lastP; omega) (show 0 < N % 2 * 2 ^ k + r by omega) e2).1
  rw [e1, show p - (k : Int) = p + 1 - ((k + 1 : Nat) : Int) by omega, this]
  exact congrArg _ (by omega)
theorem rgt_small {n d : Nat} (hd : d ≤ 9) : rgt (n * 512) d = n * 2 ^ (9 - d) := by
  have e : n * 512 = n * 2 ^ (9 - d) * 2 ^ d := by
    rw [Nat.mul_assoc, ← Nat.pow_add, show 9 - d + d = 9 by omega]
  unfold rgt
  rw [Nat.min_eq_left (by omega), e, Nat.mul_mod_left, if_pos rfl, Nat.mul_div_cancel _ (Nat.two_pow_pos _)]
theorem rgt_big {n d : Nat} (hd : 10 ≤ d) (hn : n < 9007199254740992) : rgt (n * 512) d = if n % 2 ^ (d - 9) = 0 then n / 2 ^ (d - 9) else 2 * (n / 2 ^ (d - 9) / 2) + 1 := by
  unfold rgt
  by_cases h : d ≤ 63
  · rw [Nat.min_eq_left h]
    have e : 2 ^ d = 2 ^ (d - 9) * 512 := by rw [show (512 : Nat) = 2 ^ 9 from rfl, ← Nat.pow_add]; exact congrArg _ (by omega)
    rw [e, Nat.mul_mod_mul_right, Nat.mul_div_mul_right _ _ (by omega)]
    have : (n % 2 ^ (d - 9) * 512 = 0) ↔ (n % 2 ^ (d - 9) = 0) := by omega
    by_cases hc : n % 2 ^ (d - 9) = 0
    · rw [if_pos (this.2 hc), if_pos hc]
    · rw [if_neg (fun h => hc (this.1 h)), if_neg hc]
  · rw [Nat.min_eq_right (by omega)]
    have h1 : 2 ^ 54 ≤ 2 ^ (d - 9) := Nat.pow_le_pow_right (by omega) (by omega)
    rw [show (2 : Nat) ^ 54 = 18014398509481984 from rfl] at h1
    rw [Nat.mod_eq_of_lt (show n < 2 ^ (d - 9) by omega), Nat.div_eq_of_lt (show n < 2 ^ (d - 9) by omega), show (2 : Nat) ^ 63 = 9223372036854775808 from rfl, Nat.mod_eq_of_lt (by omega), Nat.div_eq_of_lt (by omega)]
    by_cases hc : n = 0
    · subst hc; rfl
    · rw [if_neg (by omega), if_neg hc]
/-- What is far below: a number cut, and what is left of it. -/
theorem far_parts {n k : Nat} (hk : 1 ≤ k) (hn : n < 9007199254740992) : ∃ q r, n = q * 2 ^ k + r ∧ r < 2 ^ k ∧ q < 4503599627370496 ∧ n % 2 ^ k = r ∧ n / 2 ^ k = q := by
  refine ⟨n / 2 ^ k, n % 2 ^ k, by rw [Nat.mul_comm]; exact (Nat.div_add_mod _ _).symm, Nat.mod_lt _ (Nat.two_pow_pos _), ?_, rfl, rfl⟩
  have h1 : n / 2 ^ k ≤ n / 2 := Nat.div_le_div_left (by have := Nat.pow_le_pow_right (show 0 < 2 by omega) hk; omega) (by omega)
  omega
theorem nearR_of {n : Nat} {p q : Int} (h : p = q) : nearR n p = nearR n q := by rw [h]
theorem sum_plus {m n d : Nat} (e : Int) (hm : m < 9007199254740992) (hn : n < 9007199254740992) (h : d ≤ 9 ∨ 4503599627370496 ≤ m) : nearR (m * 512 + rgt (n * 512) d) e = nearR (m * 2 ^ d + n) (e + 9 - d) := by
  by_cases hd : d ≤ 9
  · rw [rgt_small hd]
    have e1 : m * 512 + n * 2 ^ (9 - d) = (m * 2 ^ d + n) * 2 ^ (9 - d) := by
      rw [Nat.add_mul, Nat.mul_assoc, ← Nat.pow_add, show d + (9 - d) = 9 by omega]
    have := (near_scale true (m * 2 ^ d + n) (e + 9 - d) (9 - d)).2.2
    rw [e1, ← this]
    exact nearR_of (by omega)
  · obtain ⟨q, r, h1, h2, h3, h4, h5⟩ := far_parts (n := n) (k := d - 9) (by omega) hn
    rw [rgt_big (by omega) hn, h4, h5]
    have hmp : m * 2 ^ d = m * 512 * 2 ^ (d - 9) := by rw [Nat.mul_assoc, show (512 : Nat) = 2 ^ 9 from rfl, ← Nat.pow_add]; exact congrArg _ (congrArg _ (by omega))
    have hT : m * 2 ^ d + n = (m * 512 + q) * 2 ^ (d - 9) + r := by rw [hmp, h1, Nat.add_mul]; omega
    rw [hT]
    by_cases hr : r = 0
    · rw [if_pos hr, hr, Nat.add_zero]
      have := (near_scale true (m * 512 + q) e (d - 9)).2.2
      rw [← this]
      exact nearR_of (by omega)
    · rw [if_neg hr]
      have := near_half (N := m * 512 + q) (k := d - 9) (r := r) e (by rw [show (2 : Nat) ^ 56 = 72057594037927936 from rfl]; omega) (by omega) h2
      rw [show e + 9 - (d : Int) = e - ((d - 9 : Nat) : Int) by omega, this]
      exact congrArg (nearR · e) (by omega)
theorem sum_minus {m n d : Nat} (e : Int) (hm : m < 9007199254740992) (hn : n < 9007199254740992) (h : d ≤ 9 ∨ 4503599627370496 ≤ m) :
    (rgt (n * 512) d < m * 512 ↔ n < m * 2 ^ d) ∧ (m * 512 < rgt (n * 512) d ↔ m * 2 ^ d < n) ∧
    (n < m * 2 ^ d → nearR (m * 512 - rgt (n * 512) d) e = nearR (m * 2 ^ d - n) (e + 9 - d)) ∧ (m * 2 ^ d < n → nearR (rgt (n * 512) d - m * 512) e = nearR (n - m * 2 ^ d) (e + 9 - d)) := by
  by_cases hd : d ≤ 9
  · rw [rgt_small hd]
    have e0 : m * 512 = m * 2 ^ d * 2 ^ (9 - d) := by rw [Nat.mul_assoc, ← Nat.pow_add, show d + (9 - d) = 9 by omega]
    have hp := Nat.two_pow_pos (9 - d)
    rw [e0, ← Nat.mul_sub_right_distrib, ← Nat.mul_sub_right_distrib]
    refine ⟨Nat.mul_lt_mul_right hp, Nat.mul_lt_mul_right hp, fun _ => ?_, fun _ => ?_⟩
    · rw [← (near_scale true (m * 2 ^ d - n) (e + 9 - d) (9 - d)).2.2]
      exact nearR_of (by omega)
    · rw [← (near_scale true (n - m * 2 ^ d) (e + 9 - d) (9 - d)).2.2]
      exact nearR_of (by omega)
  · obtain ⟨q, r, h1, h2, h3, h4, h5⟩ := far_parts (n := n) (k := d - 9) (by omega) hn
    rw [rgt_big (by omega) hn, h4, h5]
    have hmp : m * 2 ^ d = m * 512 * 2 ^ (d - 9) := by rw [Nat.mul_assoc, show (512 : Nat) = 2 ^ 9 from rfl, ← Nat.pow_add]; exact congrArg _ (congrArg _ (by omega))
    have hbig : n < m * 2 ^ d := by
      rw [hmp]
      have : m * 512 * 1 ≤ m * 512 * 2 ^ (d - 9) := Nat.mul_le_mul_left _ (Nat.two_pow_pos _)
      omega
    have hsm : (if r = 0 then q else 2 * (q / 2) + 1) < m * 512 := by split <;> omega
    refine ⟨⟨fun _ => hbig, fun _ => hsm⟩, ⟨fun h => by omega, fun h => by omega⟩, fun _ => ?_, fun h => by omega⟩
    by_cases hr : r = 0
    · rw [if_pos hr]
      have hT : m * 2 ^ d - n = (m * 512 - q) * 2 ^ (d - 9) := by rw [hmp, h1, hr, Nat.add_zero, ← Nat.mul_sub_right_distrib]
      rw [hT, ← (near_scale true (m * 512 - q) e (d - 9)).2.2]
      exact nearR_of (by omega)
    · rw [if_neg hr]
      have hT : m * 2 ^ d - n = (m * 512 - q - 1) * 2 ^ (d - 9) + (2 ^ (d - 9) - r) := by
        rw [hmp, h1]
        have e3 : m * 512 * 2 ^ (d - 9) = (m * 512 - q - 1) * 2 ^ (d - 9) + (q * 2 ^ (d - 9) + 1 * 2 ^ (d - 9)) := by
          rw [← Nat.add_mul, ← Nat.add_mul]; exact congrArg (· * _) (by omega)
        omega
      have := near_half (N := m * 512 - q - 1) (k := d - 9) (r := 2 ^ (d - 9) - r) e (by rw [show (2 : Nat) ^ 56 = 72057594037927936 from rfl]; omega) (by omega) (by omega)
      rw [hT, show e + 9 - (d : Int) = e - ((d - 9 : Nat) : Int) by omega, this]
      exact congrArg (nearR · e) (by omega)
end Go.Proofs.Ytcjhfgjgmkfmnaa.Dx

namespace Go.Proofs.Ytcjhfgjgmkfmnaa.Dx
open Go

theorem sg_shift (s : Bool) (m d : Nat) : sg s m * 2 ^ d = sg s (m * 2 ^ d) := by
  unfold sg
  cases s
  · simp
  · simp [Int.neg_mul]
theorem sumV_ge (s t : Bool) (m n : Nat) {i j : Int} (d : Nat) (h : i = j + d) :
    sumV s t m n i j = if s = t then nearV s (m * 2 ^ d + n) j else if n < m * 2 ^ d then nearV s (m * 2 ^ d - n) j else if m * 2 ^ d < n then nearV t (n - m * 2 ^ d) j else 0 := by
  unfold sumV
  have hmin : min i j = j := by omega
  rw [hmin, show (i - j).toNat = d by omega, show (j - j).toNat = 0 by omega, sg_shift, sg_shift, Nat.pow_zero, Nat.mul_one]
  generalize m * 2 ^ d = A
  have hz : ∀ (u : Bool) p, nearV u 0 p = sgn u 0 := nearV_zero
  cases s <;> cases t <;> simp only [sg, if_true, if_false, Bool.false_eq_true, Bool.and_self, Bool.and_false, Bool.and_true, reduceCtorEq, Bool.true_eq_false]
  · rw [show ((A : Int) + n).natAbs = A + n by omega]
    split
    · rfl
    · rw [decide_eq_false (by omega)]
  · by_cases h1 : n < A
    · rw [if_pos h1, if_neg (by omega), decide_eq_false (by omega)]
      exact congrArg (fun x => nearV false x j) (by omega)
    · rw [if_neg h1]
      by_cases h2 : A < n
      · rw [if_pos h2, if_neg (by omega), decide_eq_true (by omega)]
        exact congrArg (fun x => nearV true x j) (by omega)
      · rw [if_neg h2, if_pos (by omega), show ((A : Int) + -(n : Int)).natAbs = 0 by omega, hz]; rfl
  · by_cases h1 : n < A
    · rw [if_pos h1, if_neg (by omega), decide_eq_true (by omega)]
      exact congrArg (fun x => nearV true x j) (by omega)
    · rw [if_neg h1]
      by_cases h2 : A < n
      · rw [if_pos h2, if_neg (by omega), decide_eq_false (by omega)]
        exact congrArg (fun x => nearV false x j) (by omega)
      · rw [if_neg h2, if_pos (by omega), show (-(A : Int) + (n : Int)).natAbs = 0 by omega, hz]; rfl
  · rw [show (-(A : Int) + -(n : Int)).natAbs = A + n by omega]
    split
    · rfl
    · rw [decide_eq_true (by omega)]
theorem special_ok {a b : Nat} (ha : a < 18446744073709551616) (hb : b < 18446744073709551616) (h : ¬ (fPow a ≠ 2047 ∧ fPow b ≠ 2047)) : ∃ f, val 291 [Vu a, Vu b] = some [Vu (addV a b), f] := by
  have k1 := kind_ok a
  have k2 := kind_ok b
  have f1 := finite_ok a
  have f2 := finite_ok b
  unfold addV
  by_cases c1 : nanB a
  · rw [if_pos (.inl c1)]
    rw [(kind_nan a).2 c1] at k1
    refine ⟨Vy 0, val_of tab291 ?_⟩
    simp [tr291, TT.dv, KS.dv, k1, nan0]
  have i1 : ¬ fKind a = 4 := fun h => c1 ((kind_nan a).1 h)
  by_cases c2 : nanB b
  · rw [if_pos (.inr c2)]
    rw [(kind_nan b).2 c2] at k2
    refine ⟨Vy 0, val_of tab291 ?_⟩
    simp [tr291, TT.dv, KS.dv, k1, k2, i1, nan0]
  have i2 : ¬ fKind b = 4 := fun h => c2 ((kind_nan b).1 h)
  rw [if_neg (by simp [c1, c2])]
  by_cases c3 : infB a
  · rw [if_pos c3]
    have e1 : fPow a = 2047 := c3.1
    by_cases c4 : infB b
    · have e2 : fPow b = 2047 := c4.1
      have ea := inf_word ha c3
      have eb := inf_word hb c4
      by_cases c5 : fNeg a = fNeg b
      · rw [if_neg (by simp [c5])]
        have hab : a = b := by rw [ea, eb, c5]
        refine ⟨Vy 0, val_of tab291 ?_⟩
        simp [tr291, TT.dv, KS.dv, k2, i2, f2, e2, hab]
      · rw [if_pos ⟨c4, c5⟩]
        have hab : ¬ a = b := fun h => c5 (by rw [h])
        refine ⟨Vy 16, val_of tab291 ?_⟩
        simp [tr291, TT.dv, KS.dv, k1, k2, i1, i2, f1, f2, e1, e2, hab, nan0]
    · rw [if_neg (by simp [c4])]
      have e2 := fin_of c2 c4
      refine ⟨Vy 0, val_of tab291 ?_⟩
      simp [tr291, TT.dv, KS.dv, k1, k2, i1, i2, f1, f2, e1, e2]
  · rw [if_neg c3]
    have e1 := fin_of c1 c3
    have c4 : infB b := by
      by_cases h4 : infB b
      · exact h4
      · exact absurd ⟨e1, fin_of c2 h4⟩ h
    rw [if_pos c4]
    refine ⟨Vy 0, val_of tab291 ?_⟩
    simp [tr291, TT.dv, KS.dv, k1, k2, i1, i2, f1, f2, e1]
/-- The part of Add behind the turning round. -/
def tail288 : TT Unit := match tr288 with | .call _ _ _ _ (.call _ _ _ _ (.ite _ _ (.call _ _ _ _ (.call _ _ _ _ (.call _ _ _ _ (.call _ _ _ _ (.scope _ (.cons _ t _)))))))) => t | t => t
theorem rgt_le (M d : Nat) : rgt M d ≤ M := by
  unfold rgt
  have := Nat.div_le_self M (2 ^ min d 63)
  split
  · exact this
  · rename_i h5
    have h2 := Nat.div_add_mod M (2 ^ min d 63)
    have h3 : 0 < 2 ^ min d 63 := Nat.two_pow_pos _
    by_cases h4 : 2 ^ min d 63 = 1
    · rw [h4, Nat.mod_one] at h5; exact absurd rfl h5
    · have h6 := Nat.div_le_div_left (show 2 ≤ 2 ^ min d 63 by omega) (by omega) (a := M)
      generalize 2 ^ min d 63 = z at *
      omega
theorem tail_ok {x0 x1 x2 x3 x4 x5 x6 x7 x8 x9 : PV} {s t : Bool} {m n : Nat} {i j : Int} (d : Nat) (h : i = j + d) (hm : m < 9007199254740992) (hn : n < 9007199254740992) (hb : d ≤ 9 ∨ 4503599627370496 ≤ m) (hj : -1074 ≤ j) (hi : i ≤ 972) :
    ∃ f, tail288.dv [x0, x1, x2, x3, x4, x5, x6, x7, x8, x9, Vu m, Vi i, Vu n, Vi j, Vb s, Vb t] = some (.y .ret [Vu (sumV s t m n i j), f]) := by
  rw [sumV_ge s t m n d h]
  have e1 : (B.shl .u64).den (Vu n) (Vu 9) = Vu (n * 512) := by
    rw [shl_uU]; refine congrArg Vu ?_
    show n * 512 % _ = _; omega
  have e2 : (B.shl .u64).den (Vu m) (Vu 9) = Vu (m * 512) := by
    rw [shl_uU]; refine congrArg Vu ?_
    show m * 512 % _ = _; omega
  have e3 : (B.sub .i64).den (Vi i) (Vi j) = Vi d := by rw [sub_i (by omega) (by omega)]; exact congrArg Vi (by omega)
  have e4 : (B.sub .i64).den (Vi i) (Vi 9) = Vi (i - 9) := sub_i (by omega) (by omega)
  have e5 := right_ok (M := n * 512) (d := d) (by omega) (by omega)
  have hr := rgt_le (n * 512) d
  have l1 : -1137 ≤ i - 9 := by omega
  have l2 : i - 9 < 9000000000000 := by omega
  have l3 : i - 9 + 9 - (d : Int) = j := by omega
  have hp := sum_plus (i - 9) hm hn hb
  obtain ⟨q1, q2, q3, q4⟩ := sum_minus (i - 9) hm hn hb
  rw [l3] at hp q3 q4
  generalize rgt (n * 512) d = y at *
  have m64 : m * 512 < 18446744073709551616 := by clear hp q1 q2 q3 q4 e5; omega
  have y64 : y < 18446744073709551616 := by clear hp q1 q2 q3 q4 e5; omega
  have my64 : m * 512 + y < 18446744073709551616 := Nat.lt_of_le_of_lt (Nat.add_le_add (Nat.mul_le_mul_right 512 (Nat.le_of_lt hm)) (Nat.le_trans hr (Nat.mul_le_mul_right 512 (Nat.le_of_lt hn)))) (by decide)
  by_cases hs : s = t
  · rw [if_pos hs]
    subst hs
    have a1 : (m * 512 + y) % 18446744073709551616 = m * 512 + y := Nat.mod_eq_of_lt my64
    obtain ⟨f, hf⟩ := near0 (neg := s) (m := m * 512 + y) (e := i - 9) my64 l1 l2
    have hV : nearV s (m * 512 + y) (i - 9) = nearV s (m * 2 ^ d + n) j := by unfold nearV; rw [hp]
    rw [hV] at hf
    refine ⟨f, ?_⟩
    simp [-shl_u_lit, tail288, tr288, TT.dv, e1, e2, e3, e4, e5, a1, hf]
  · rw [if_neg hs]
    by_cases c1 : n < m * 2 ^ d
    · rw [if_pos c1]
      have c1' := q1.2 c1
      have a1 : (B.sub .u64).den (Vu (m * 512)) (Vu y) = Vu (m * 512 - y) := sub_u (Nat.le_of_lt c1') m64
      obtain ⟨f, hf⟩ := near0 (neg := s) (m := m * 512 - y) (e := i - 9) (Nat.lt_of_le_of_lt (Nat.sub_le _ _) m64) l1 l2
      have hV : nearV s (m * 512 - y) (i - 9) = nearV s (m * 2 ^ d - n) j := by unfold nearV; rw [q3 c1]
      rw [hV] at hf
      refine ⟨f, ?_⟩
      simp [-shl_u_lit, tail288, tr288, TT.dv, e1, e2, e3, e4, e5, hs, c1', a1, hf]
    · rw [if_neg c1]
      have c1' : ¬ y < m * 512 := fun h => c1 (q1.1 h)
      by_cases c2 : m * 2 ^ d < n
      · rw [if_pos c2]
        have c2' := q2.2 c2
        have a1 : (B.sub .u64).den (Vu y) (Vu (m * 512)) = Vu (y - m * 512) := sub_u (Nat.le_of_lt c2') y64
        obtain ⟨f, hf⟩ := near0 (neg := t) (m := y - m * 512) (e := i - 9) (Nat.lt_of_le_of_lt (Nat.sub_le _ _) y64) l1 l2
        have hV : nearV t (y - m * 512) (i - 9) = nearV t (n - m * 2 ^ d) j := by unfold nearV; rw [q4 c2]
        rw [hV] at hf
        refine ⟨f, ?_⟩
        simp [-shl_u_lit, tail288, tr288, TT.dv, e1, e2, e3, e4, e5, hs, c1', c2', a1, hf]
      · rw [if_neg c2]
        have c2' : ¬ m * 512 < y := fun h => c2 (q2.1 h)
        refine ⟨Vy 0, ?_⟩
        simp [-shl_u_lit, tail288, tr288, TT.dv, e1, e2, e3, e4, e5, hs, c1', c2']
theorem sadd_ok {a b : Nat} (ha : a < 18446744073709551616) (hb : b < 18446744073709551616) : ∃ f, val 288 [Vu a, Vu b] = some [Vu (addV a b), f] := by
  have f1 := finite_ok a
  have f2 := finite_ok b
  by_cases hf : fPow a ≠ 2047 ∧ fPow b ≠ 2047
  · obtain ⟨g1, g2⟩ := hf
    have n1 : ¬ nanB a := by unfold nanB; omega
    have n2 : ¬ nanB b := by unfold nanB; omega
    have i1 : ¬ infB a := by unfold infB; omega
    have i2 : ¬ infB b := by unfold infB; omega
    have p1 := parts_ok a
    have p2 := parts_ok b
    have s1 := sign_ok a
    have s2 := sign_ok b
    have hV : addV a b = sumV (fNeg a) (fNeg b) (fMag a) (fMag b) (fPl a) (fPl b) := by unfold addV; rw [if_neg (by simp [n1, n2]), if_neg i1, if_neg i2]
    rw [hV]
    obtain ⟨b1, b2⟩ := fPl_bd a
    obtain ⟨b3, b4⟩ := fPl_bd b
    have big : ∀ c, -1074 < fPl c → 4503599627370496 ≤ fMag c := fun c hc => by
      unfold fPl at hc; unfold fMag
      by_cases h0 : fPow c = 0
      · rw [if_pos h0] at hc; omega
      · rw [if_neg h0]; omega
    by_cases hlt : fPl a < fPl b
    · rw [sumV_comm]
      obtain ⟨f, h⟩ := tail_ok (x0 := Vu a) (x1 := Vu b) (x2 := Vb true) (x3 := Vb true) (x4 := Vu (fMag a)) (x5 := Vi (fPl a)) (x6 := Vu (fMag b)) (x7 := Vi (fPl b)) (x8 := Vb (fNeg a)) (x9 := Vb (fNeg b))
        (s := fNeg b) (t := fNeg a) (m := fMag b) (n := fMag a) (i := fPl b) (j := fPl a) (fPl b - fPl a).toNat (by omega) (fMag_lt b) (fMag_lt a) (.inr (big b (by omega))) b1 b4
      refine ⟨f, val_of tab288 (Eq.trans ?_ h)⟩
      simp only [tail288]
      simp [-shl_u_lit, tr288, TT.dv, KS.dv, f1, f2, g1, g2, p1, p2, s1, s2, hlt]
    · obtain ⟨f, h⟩ := tail_ok (x0 := Vu a) (x1 := Vu b) (x2 := Vb true) (x3 := Vb true) (x4 := Vu (fMag a)) (x5 := Vi (fPl a)) (x6 := Vu (fMag b)) (x7 := Vi (fPl b)) (x8 := Vb (fNeg a)) (x9 := Vb (fNeg b))
        (s := fNeg a) (t := fNeg b) (m := fMag a) (n := fMag b) (i := fPl a) (j := fPl b) (fPl a - fPl b).toNat (by omega) (fMag_lt a) (fMag_lt b) (by
          by_cases h : -1074 < fPl a
          · exact .inr (big a h)
          · left; omega) b3 b2
      refine ⟨f, val_of tab288 (Eq.trans ?_ h)⟩
      simp only [tail288]
      simp [-shl_u_lit, tr288, TT.dv, KS.dv, f1, f2, g1, g2, p1, p2, s1, s2, hlt]
  · obtain ⟨f, h⟩ := special_ok ha hb hf
    refine ⟨f, val_of tab288 ?_⟩
    by_cases g1 : fPow a = 2047
    · simp [tr288, TT.dv, KS.dv, f1, f2, g1, h]
    · have g2 : fPow b = 2047 := by omega
      simp [tr288, TT.dv, KS.dv, f1, f2, g1, g2, h]
end Go.Proofs.Ytcjhfgjgmkfmnaa.Dx

namespace Go.Proofs.Ytcjhfgjgmkfmnaa.Dx
open Go

theorem minus_neg {b : Nat} (hb : b < 18446744073709551616) : fNeg (fMinus b) = !fNeg b ∧ fPow (fMinus b) = fPow b ∧ fFrac (fMinus b) = fFrac b ∧ fMinus b < 18446744073709551616 := by
  unfold fMinus fNeg fPow fFrac
  by_cases h : b < 9223372036854775808
  · rw [if_pos h]
    refine ⟨?_, by omega, by omega, by omega⟩
    rw [show (b + 9223372036854775808) / 9223372036854775808 = 1 by omega, show b / 9223372036854775808 = 0 by omega]; rfl
  · rw [if_neg h]
    refine ⟨?_, by omega, by omega, by omega⟩
    rw [show (b - 9223372036854775808) / 9223372036854775808 = 0 by omega, show b / 9223372036854775808 = 1 by omega]; rfl
def subV (a b : Nat) : Nat := addV a (fMinus b)
theorem subV_lt {a b : Nat} (ha : a < 18446744073709551616) (hb : b < 18446744073709551616) : subV a b < 18446744073709551616 := addV_lt ha (minus_neg hb).2.2.2
section
variable {a b : Nat} (ha : a < 18446744073709551616) (hb : b < 18446744073709551616)
include ha hb
theorem vadd_ok : val 306 [Vu a, Vu b] = some [Vu (addV a b)] := by
  refine val_of tab306 ?_
  obtain ⟨f, h⟩ := sadd_ok ha hb
  simp [tr306, TT.dv, h]
theorem vsub_ok : val 317 [Vu a, Vu b] = some [Vu (subV a b)] := by
  refine val_of tab317 ?_
  obtain ⟨f, h⟩ := sadd_ok ha (minus_neg hb).2.2.2
  have h2 : val 289 [Vu a, Vu b] = some [Vu (subV a b), f] := by
    refine val_of tab289 ?_
    simp [tr289, TT.dv, minus_ok hb, h, subV]
  simp [tr317, TT.dv, h2]
theorem vmul_ok : val 313 [Vu a, Vu b] = some [Vu (mulV a b)] := by
  refine val_of tab313 ?_
  obtain ⟨f, h⟩ := times_ok ha hb
  simp [tr313, TT.dv, h]
theorem vdiv_ok : val 310 [Vu a, Vu b] = some [Vu (divV a b)] := by
  refine val_of tab310 ?_
  obtain ⟨f, h⟩ := div_ok ha hb
  simp [tr310, TT.dv, h]
end
section
variable {b : Nat} (hb : b < 18446744073709551616)
include hb
theorem vsqrt_ok : val 316 [Vu b] = some [Vu (sqrtV b)] := by
  refine val_of tab316 ?_
  simp [tr316, TT.dv, sqrt_ok hb]
end
theorem vshift_ok (b : Nat) (k : Int) : val 315 [Vu b, Vi k] = some [Vu (scaleV b k)] := by
  refine val_of tab315 ?_
  simp [tr315, TT.dv, scale_ok]
end Go.Proofs.Ytcjhfgjgmkfmnaa.Dx

namespace Go.Proofs.Ytcjhfgjgmkfmnaa.Dx
open Go

def Words (x : List Nat) : Prop := ∀ a ∈ x, a < 18446744073709551616
def el (x : List Nat) (i : Nat) : Nat := x.getD i 0
def Vl (x : List Nat) : PV := .l (x.map Vu)
@[simp] theorem len_V (x : List Nat) : U.len.den (Vl x) = Vi x.length := by simp [Vl]
theorem get_V {x : List Nat} {i : Nat} (h : i < x.length) : B.get.den (Vl x) (Vi i) = Vu (el x i) := by
  rw [Vl, get_l _ rfl]
  simp [el, List.getD_eq_getElem?_getD, h]
@[simp] theorem nil_V : PV.l [] = Vl [] := rfl
@[simp] theorem wl_nil_V : wl [] = Vl [] := rfl
theorem Words.el {x : List Nat} (h : Words x) (i : Nat) : el x i < 18446744073709551616 := by
  rw [Dx.el, List.getD_eq_getElem?_getD]
  cases hx : x[i]? with
  | none => simp
  | some a => exact h a (List.mem_of_getElem? hx)

theorem pv_u64 {p : PV} (h : PvT (.int .u64) p) : ∃ n : Nat, p = Vu n ∧ n < 18446744073709551616 := by
  obtain ⟨a, rfl, hw⟩ := h
  obtain ⟨n, rfl, hn⟩ := wf_u64 hw
  exact ⟨n, rfl, hn⟩
theorem pv_i64 {p : PV} (h : PvT (.int .i64) p) : ∃ x : Int, p = Vi x ∧ -9223372036854775808 ≤ x ∧ x < 9223372036854775808 := by
  obtain ⟨a, rfl, hw⟩ := h
  exact ⟨a, rfl, wf_i64 hw⟩
theorem pv_bool {p : PV} (h : PvT .bool p) : ∃ b : Bool, p = Vb b := h
theorem pv_lu {p : PV} (h : PvT (.sl .u64) p) : ∃ x : List Nat, p = Vl x ∧ Words x ∧ x.length ≤ 17592186043904 := by
  obtain ⟨zs, rfl, hw, hl⟩ := h
  refine ⟨zs.map Int.toNat, ?_, ?_, ?_⟩
  · unfold Vl
    rw [List.map_map]
    refine congrArg PV.l (List.map_congr_left fun z hz => ?_)
    obtain ⟨n, rfl, _⟩ := wf_u64 (hw z hz)
    rfl
  · intro a ha
    obtain ⟨z, hz, rfl⟩ := List.mem_map.1 ha
    obtain ⟨n, rfl, hn⟩ := wf_u64 (hw z hz)
    simpa using hn
  · rw [List.length_map]
    have h1 : zs.length * 8 ≤ reachBytes := hl
    have h2 : reachBytes = 140737488351232 := rfl
    rw [h2] at h1
    omega
section
variable {x y : List Nat} (hx : Words x) (hy : Words y) (hl : x.length = y.length) (h64 : x.length < 9000000000000000000)
include hx hy hl h64
end
end Go.Proofs.Ytcjhfgjgmkfmnaa.Dx

namespace Go.Proofs.Ytcjhfgjgmkfmnaa.Dx
open Go

theorem max_u (a b : Nat) : (B.max .u64).den (Vu a) (Vu b) = Vu (max a b) := by
  simp only [B.den, Vu, PV.int, PV.v.injEq, Value.int.injEq, true_and]; by_cases h : (a : Int) < b <;> simp only [h, if_true, if_false] <;> omega
def absV (b : Nat) : Nat := b % 9223372036854775808
theorem absV_lt (b : Nat) : absV b < 9223372036854775808 := by unfold absV; omega
theorem nanB_absV (b : Nat) : nanB (absV b) ↔ nanB b := nanB_abs b
def bigR (x : List Nat) : Nat → Nat → Nat → Nat
  | 0, _, m => m
  | n + 1, i, m => if nanB (el x i) then nan0 else bigR x n (i + 1) (max m (absV (el x i)))
theorem rk_pos {m : Nat} (h : m < 9223372036854775808) : rk m = m := by
  unfold rk fNeg sg
  rw [if_neg (by simp; omega), Nat.mod_eq_of_lt h]
theorem nanB_max {m a : Nat} (hn : ¬ nanB m) (h : ¬ nanB a) : ¬ nanB (max m a) := by
  rcases (show max m a = m ∨ max m a = a by omega) with h1 | h1 <;> rw [h1] <;> assumption
section
variable {x : List Nat} (hx : Words x) (h64 : x.length < 9000000000000000000)
include hx h64
/-- The loop over the greatest: at a NaN it leaves. -/
theorem big_loop {x1 : PV} : ∀ (n : Nat) {i m : Nat}, i + n = x.length → m < 9223372036854775808 → ¬ nanB m →
    (∃ r, rounds (fun vs => lo309_1.dv (Vl x :: vs)) [x1, Vu m, Vi i] = some (.y .ret [r]) ∧ bigR x n i m = nan0) ∨
    (rounds (fun vs => lo309_1.dv (Vl x :: vs)) [x1, Vu m, Vi i] = some (.y (.ext 0) [x1, Vu (bigR x n i m)])) := by
  intro n
  induction n with
  | zero =>
    intro i m hi hm hn
    refine .inr (rounds_exit ?_ (by simp))
    simp [lo309_1, TT.dv, show ¬ i < x.length by omega, bigR]
  | succ n ih =>
    intro i m hi hm hn
    have g1 := get_V (x := x) (i := i) (by omega)
    have k1 := kind_ok (el x i)
    unfold bigR
    by_cases c : nanB (el x i)
    · rw [if_pos c]
      rw [(kind_nan _).2 c] at k1
      refine .inl ⟨Vu m, rounds_exit ?_ (by simp), rfl⟩
      simp [lo309_1, TT.dv, show i < x.length by omega, g1, k1]
    · rw [if_neg c]
      have c' : ¬ fKind (el x i) = 4 := fun h => c ((kind_nan _).1 h)
      have e1 : (B.add .i64).den (Vi i) (Vi 1) = Vi (i + 1) := add_i (by omega) (by omega)
      have a1 := abs_ok (el x i)
      have hr : rounds (fun vs => lo309_1.dv (Vl x :: vs)) [x1, Vu m, Vi i] = rounds (fun vs => lo309_1.dv (Vl x :: vs)) [x1, Vu (max m (absV (el x i))), Vi ((i + 1 : Nat) : Int)] := by
        refine rounds_cont ?_
        simp [lo309_1, TT.dv, show i < x.length by omega, g1, k1, c', a1, e1, max_u, absV]
      have := absV_lt (el x i)
      rw [hr]
      exact ih (i := i + 1) (by omega) (by omega) (nanB_max hn (fun h => c ((nanB_absV _).1 h)))
end
def bigV (x : List Nat) : Nat := bigR x x.length 0 0
section
variable {x : List Nat} (hx : Words x) (h64 : x.length < 9000000000000000000)
include hx h64
theorem biggest_ok : val 309 [Vl x] = some [Vu (bigV x)] := by
  refine val_of tab309 ?_
  have h := big_loop hx h64 (x1 := Vu 0) x.length (i := 0) (m := 0) (by omega) (by decide) (by decide)
  rw [show ((0 : Nat) : Int) = 0 from rfl] at h
  unfold bigV
  rcases h with ⟨r, h1, h2⟩ | h1
  · rw [h2]; simp [tr309, TT.dv, KS.dv, h1, nan0]
  · simp [tr309, TT.dv, KS.dv, h1]
end

def finR (x : List Nat) : Nat → Nat → Bool
  | 0, _ => true
  | n + 1, i => if fPow (el x i) = 2047 then false else finR x n (i + 1)
def finV (x : List Nat) : Bool := finR x x.length 0
section
variable {x : List Nat} (hx : Words x) (h64 : x.length < 9000000000000000000)
include hx h64
theorem fin9_loop {x1 : PV} : ∀ (n : Nat) {i : Nat}, i + n = x.length →
    rounds (fun vs => lo155_1.dv (Vl x :: vs)) [x1, Vi i] = some (if finR x n i then .y (.ext 0) [x1] else .y .ret []) := by
  intro n
  induction n with
  | zero =>
    intro i hi
    refine rounds_exit ?_ (by simp [finR])
    simp [lo155_1, TT.dv, show ¬ i < x.length by omega, finR]
  | succ n ih =>
    intro i hi
    have g1 := get_V (x := x) (i := i) (by omega)
    have f1 := finite4_ok (hx.el i)
    have hp := fPow_lt (el x i)
    unfold finR
    by_cases c : fPow (el x i) = 2047
    · rw [if_pos c]
      refine rounds_exit ?_ (by simp)
      simp [lo155_1, TT.dv, show i < x.length by omega, g1, f1, c]
    · rw [if_neg c]
      have e1 : (B.add .i64).den (Vi i) (Vi 1) = Vi (i + 1) := add_i (by omega) (by omega)
      refine Eq.trans (rounds_cont ?_) (ih (i := i + 1) (by omega))
      simp [lo155_1, TT.dv, show i < x.length by omega, g1, f1, show fPow (el x i) < 2047 by omega, e1]
theorem finite_9_ok : val 155 [Vl x] = some [Vb (finV x)] := by
  refine val_of tab155 ?_
  have h := fin9_loop hx h64 (x1 := Vb false) x.length (i := 0) (by omega)
  rw [show ((0 : Nat) : Int) = 0 from rfl] at h
  unfold finV
  cases hc : finR x x.length 0 <;> rw [hc] at h <;> simp [tr155, TT.dv, KS.dv, h]
end

def sqrR (x : List Nat) (k : Int) : Nat → Nat → Nat → Nat
  | 0, _, s => s
  | n + 1, i, s => sqrR x k n (i + 1) (addV s (mulV (scaleV (el x i) (-k)) (scaleV (el x i) (-k))))
def sqrV (x : List Nat) (k : Int) : Nat := sqrR x k x.length 0 0
def normV (x : List Nat) : Nat := if bigV x = 0 ∨ fPow (bigV x) = 2047 then bigV x else scaleV (sqrtV (sqrV x (expB (bigV x)))) (expB (bigV x))
theorem expB_bd (b : Nat) : -1100 ≤ expB b ∧ expB b ≤ 1100 := by
  unfold expB
  split
  · omega
  · rename_i h
    have h1 := fPl_bd b
    have h2 : bl (fMag b) ≤ 53 := bl_lt.2 (fMag_lt b)
    have h3 : fPow b ≠ 2047 := by omega
    unfold fPl at *
    have h4 := fPow_lt b
    split <;> rename_i h5 <;> simp only [h5, if_true, if_false] at h1 <;> omega
section
variable {x : List Nat} (hx : Words x) (h64 : x.length < 9000000000000000000) {k : Int} (hk : -1100 ≤ k ∧ k ≤ 1100)
include hx h64 hk
end
end Go.Proofs.Ytcjhfgjgmkfmnaa.Dx

namespace Go.Proofs.Ytcjhfgjgmkfmnaa.Dx
open Go

theorem set_V (x : List Nat) (i v : Nat) : T3.set.den (Vl x) (Vi i) (Vu v) = Vl (x.set i v) := by
  rw [Vl, set_l _ rfl, Vl, List.map_set]
theorem Words.set {x : List Nat} (h : Words x) {i v : Nat} (hv : v < 18446744073709551616) : Words (x.set i v) := by
  intro a ha
  rcases List.mem_or_eq_of_mem_set ha with h1 | h1
  · exact h a h1
  · rw [h1]; exact hv
/-- What a function makes of each place. -/
def mk (g : Nat → Nat) (n : Nat) : List Nat := (List.range n).map g
@[simp] theorem mk_len (g : Nat → Nat) (n : Nat) : (mk g n).length = n := by simp [mk]
/-- Boxes and functions that catch them. -/
@[simp] theorem toA_V (l : List PV) : U.toA.den (.l l) = .a l := rfl
@[simp] theorem fld0_a (p : PV) (l : List PV) : (U.fld 0).den (.a (p :: l)) = p := rfl
section
variable {a : Nat} {x y : List Nat} (ha : a < 18446744073709551616) (hx : Words x) (hy : Words y) (hl : x.length = y.length) (h64 : x.length < 17592186044416)
include ha hx hy hl h64
end
section
variable {a : Nat} {x : List Nat} (ha : a < 18446744073709551616) (hx : Words x) (h64 : x.length < 17592186044416)
include ha hx h64
end
end Go.Proofs.Ytcjhfgjgmkfmnaa.Dx

namespace Go.Proofs.Ytcjhfgjgmkfmnaa.Dx
open Go

theorem cons_V (a : Nat) (x : List Nat) : B.cons.den (Vu a) (Vl x) = Vl (a :: x) := rfl
def tK (f g : Nat) : Int := expB (max (absV f) (absV g))
def tN (f g : Nat) : Nat := sqrtV (addV (mulV (scaleV f (-tK f g)) (scaleV f (-tK f g))) (mulV (scaleV g (-tK f g)) (scaleV g (-tK f g))))
def turnC (f g : Nat) : Nat := if zeroB g then 4607182418800017408 else if zeroB f then 0 else divV (scaleV f (-tK f g)) (tN f g)
def turnS (f g : Nat) : Nat := if zeroB g then 0 else if zeroB f then 4607182418800017408 else divV (scaleV g (-tK f g)) (tN f g)
def turnR (f g : Nat) : Nat := if zeroB g then f else if zeroB f then g else scaleV (tN f g) (tK f g)
section
variable {f g : Nat} (hf : f < 18446744073709551616) (hg : g < 18446744073709551616)
include hf hg
theorem sum_sq_lt {a b : Nat} : addV (mulV a a) (mulV b b) < 18446744073709551616 := addV_lt mulV_lt mulV_lt
theorem tN_lt : tN f g < 18446744073709551616 := sqrtV_lt (sum_sq_lt hf hg)
theorem turn_ok : val 232 [Vu f, Vu g] = some (if fPow f = 2047 ∨ fPow g = 2047 then [Vu 0, Vu 0, Vu 0, Vi 4] else [Vu (turnC f g), Vu (turnS f g), Vu (turnR f g), Vi 0]) := by
  refine val_of tab232 ?_
  have f1 := finite_ok f
  have f2 := finite_ok g
  have k1 := kind_ok f
  have k2 := kind_ok g
  by_cases c1 : fPow f = 2047
  · rw [if_pos (.inl c1)]
    simp [tr232, TT.dv, f1, c1]
  by_cases c2 : fPow g = 2047
  · rw [if_pos (.inr c2)]
    simp [tr232, TT.dv, f1, f2, c1, c2]
  rw [if_neg (by omega)]
  unfold turnC turnS turnR
  by_cases z2 : zeroB g
  · simp only [if_pos z2]
    rw [(kind_zeroB g).2 z2] at k2
    simp [tr232, TT.dv, f1, f2, c1, c2, k2]
  simp only [if_neg z2]
  have z2' : ¬ fKind g = 0 := fun h => z2 ((kind_zeroB g).1 h)
  by_cases z1 : zeroB f
  · simp only [if_pos z1]
    rw [(kind_zeroB f).2 z1] at k1
    simp [tr232, TT.dv, f1, f2, c1, c2, k1, k2, z2']
  simp only [if_neg z1]
  have z1' : ¬ fKind f = 0 := fun h => z1 ((kind_zeroB f).1 h)
  have n1 : ¬ nanB f := by unfold nanB; omega
  have n2 : ¬ nanB g := by unfold nanB; omega
  have hb := biggest_ok (x := [f, g]) (by intro a ha; simp at ha; rcases ha with rfl | rfl <;> assumption) (by simp)
  have hbig : bigV [f, g] = max (absV f) (absV g) := by
    show (if nanB f then nan0 else if nanB g then nan0 else max (max 0 (absV f)) (absV g)) = _
    rw [if_neg n1, if_neg n2, Nat.zero_max]
  rw [hbig] at hb
  have he := exp_ok (b := max (absV f) (absV g))
  have hk := expB_bd (max (absV f) (absV g))
  rw [show expB (max (absV f) (absV g)) = tK f g from rfl] at he hk
  have hneg : (U.neg .i64).den (Vi (tK f g)) = Vi (-tK f g) := neg_i (by omega) (by omega)
  have s1 := vshift_ok f (-tK f g)
  have s2 := vshift_ok g (-tK f g)
  have l1 := scaleV_lt hf (-tK f g)
  have l2 := scaleV_lt hg (-tK f g)
  have m1 := vmul_ok l1 l1
  have m2 := vmul_ok l2 l2
  have a1 := vadd_ok (mulV_lt (a := scaleV f (-tK f g)) (b := scaleV f (-tK f g))) (mulV_lt (a := scaleV g (-tK f g)) (b := scaleV g (-tK f g)))
  have q1 := vsqrt_ok (sum_sq_lt hf hg (a := scaleV f (-tK f g)) (b := scaleV g (-tK f g)))
  rw [show sqrtV (addV (mulV (scaleV f (-tK f g)) (scaleV f (-tK f g))) (mulV (scaleV g (-tK f g)) (scaleV g (-tK f g)))) = tN f g from rfl] at q1
  have d1 := vdiv_ok l1 (tN_lt hf hg)
  have d2 := vdiv_ok l2 (tN_lt hf hg)
  have s3 := vshift_ok (tN f g) (tK f g)
  simp [tr232, TT.dv, f1, f2, c1, c2, k1, k2, z2', z1', cons_V, hb, he, hneg, s1, s2, m1, m2, a1, q1, d1, d2, s3]
end
theorem awake_12 : val 44 [] = some [Vb true] := val_iff.2 ⟨300, by kernel_rfl⟩
end Go.Proofs.Ytcjhfgjgmkfmnaa.Dx

namespace Go.Proofs.Ytcjhfgjgmkfmnaa.Dx
open Go

def P2 (k : Int) : Rat := (2 : Rat) ^ k
theorem P2_add (a b : Int) : P2 (a + b) = P2 a * P2 b := Rat.zpow_add (by decide) a b
theorem P2_pos (k : Int) : 0 < P2 k := Rat.zpow_pos (by decide)
theorem P2_zero : P2 0 = 1 := Rat.zpow_zero 2
theorem P2_nat (n : Nat) : P2 n = ((2 ^ n : Nat) : Rat) := by
  unfold P2; rw [Rat.zpow_natCast, Rat.natCast_pow]; rfl
theorem P2_sub (a b : Int) : P2 (a - b) * P2 b = P2 a := by rw [← P2_add]; exact congrArg P2 (by omega)
theorem P2_mono {a b : Int} (h : a ≤ b) : P2 a ≤ P2 b := by
  have h1 : b = a + ((b - a).toNat : Nat) := by omega
  rw [h1, P2_add, P2_nat]
  have h2 : (1 : Rat) ≤ ((2 ^ (b - a).toNat : Nat) : Rat) := by
    have : 1 ≤ 2 ^ (b - a).toNat := Nat.two_pow_pos _
    exact_mod_cast this
  have := Rat.mul_le_mul_of_nonneg_left h2 (Rat.le_of_lt (P2_pos a))
  rwa [Rat.mul_one] at this
theorem P2_lt {a b : Int} (h : a < b) : P2 a < P2 b := by
  have h1 := P2_mono (a := a + 1) (b := b) (by omega)
  rw [P2_add] at h1
  have h2 : P2 1 = 2 := by rw [show (1 : Int) = ((1 : Nat) : Int) from rfl, P2_nat]; rfl
  have h3 := P2_pos a
  rw [h2] at h1
  grind
def D (n : Nat) (p : Int) : Rat := n * P2 p
theorem D_nonneg (n : Nat) (p : Int) : 0 ≤ D n p := Rat.mul_nonneg Rat.natCast_nonneg (Rat.le_of_lt (P2_pos p))
theorem D_scale (n : Nat) (p : Int) (j : Nat) : D (n * 2 ^ j) (p - j) = D n p := by
  unfold D
  rw [Rat.natCast_mul, ← P2_nat, Rat.mul_assoc, Rat.mul_comm (P2 j), P2_sub]
theorem D_le {n m : Nat} {p : Int} : D n p ≤ D m p ↔ n ≤ m := by
  unfold D
  constructor
  · intro h; exact Rat.natCast_le_natCast.1 (Rat.le_of_mul_le_mul_right h (P2_pos p))
  · intro h; exact Rat.mul_le_mul_of_nonneg_right (Rat.natCast_le_natCast.2 h) (Rat.le_of_lt (P2_pos p))
theorem D_zero (p : Int) : D 0 p = 0 := by unfold D; simp
theorem D_mul (m n : Nat) (p q : Int) : D m p * D n q = D (m * n) (p + q) := by
  unfold D; rw [Rat.natCast_mul, P2_add]; grind
theorem D_add (m n : Nat) (p : Int) : D m p + D n p = D (m + n) p := by
  unfold D; rw [Rat.natCast_add]; grind
theorem D_shift (n : Nat) (p q : Int) : D n p * P2 q = D n (p + q) := by unfold D; rw [P2_add, Rat.mul_assoc]
theorem D_one (p : Int) : D 1 p = P2 p := by unfold D; simp
/-- A number at another place. -/
theorem D_base (n : Nat) {p b : Int} (h : b ≤ p) : D n p = D (n * 2 ^ (p - b).toNat) b := by
  have := D_scale n p (p - b).toNat
  rw [show p - ((p - b).toNat : Int) = b by omega] at this
  exact this.symm
theorem nearR_base (n : Nat) {p b : Int} (h : b ≤ p) : nearR n p = nearR (n * 2 ^ (p - b).toNat) b := by
  have := (near_scale true n p (p - b).toNat).2.2
  rw [show p - ((p - b).toNat : Int) = b by omega] at this
  exact this.symm
/-- Rounding keeps the order. -/
theorem near_mono {n m : Nat} {p q : Int} (h : D n p ≤ D m q) : nearR n p ≤ nearR m q := by
  rw [nearR_base n (Int.min_le_left p q), nearR_base m (Int.min_le_right p q)]
  rw [D_base n (Int.min_le_left p q), D_base m (Int.min_le_right p q), D_le] at h
  exact nearR_mono _ h
theorem near_eq {n m : Nat} {p q : Int} (h : D n p = D m q) : nearR n p = nearR m q :=
  Nat.le_antisymm (near_mono (by rw [h]; exact Rat.le_refl)) (near_mono (by rw [h]; exact Rat.le_refl))

def W (w : Nat) : Rat := D (fMag w) (fPl w)
theorem W_nonneg (w : Nat) : 0 ≤ W w := D_nonneg _ _
theorem W_mgv (w : Nat) : W w = D (mgv (w % 9223372036854775808)) (-1074) := by
  unfold W
  rw [D_base _ (fPl_bd w).1, ← mgv_val, show fPl w - -1074 = fPl w + 1074 by omega]
theorem W_le {a b : Nat} (ha : a < 9223372036854775808) (hb : b < 9223372036854775808) : W a ≤ W b ↔ a ≤ b := by
  rw [W_mgv, W_mgv, D_le, Nat.mod_eq_of_lt ha, Nat.mod_eq_of_lt hb]
  constructor
  · intro h
    rcases Nat.lt_or_ge b a with h1 | h1
    · have := mgv_mono h1; omega
    · exact h1
  · intro h
    rcases Nat.lt_or_eq_of_le h with h1 | h1
    · exact Nat.le_of_lt (mgv_mono h1)
    · rw [h1]; exact Nat.le_refl _
theorem W_abs (w : Nat) : W (absV w) = W w := by rw [W_mgv, W_mgv]; unfold absV; rw [Nat.mod_mod]
theorem near_W {w : Nat} (h : w < infR) : nearR (fMag w) (fPl w) = w := by
  have hp := fPl_bd w
  have hm := fMag_lt w
  have hk : two52 ≤ fMag w ∨ fPl w = -1074 := by
    unfold fMag fPl two52
    by_cases c : fPow w = 0
    · right; rw [if_pos c]
    · left; rw [if_neg c]; omega
  unfold nearR
  rw [rung_fits hp.1 (by unfold two52; omega) hk]
  unfold infR at h ⊢
  unfold fMag fPl two52 fPow fFrac
  split
  · rename_i c; omega
  · rename_i c; omega
theorem near_le {n w : Nat} {p : Int} (hw : w < infR) (h : D n p ≤ W w) : nearR n p ≤ w := by
  have := near_mono h
  rwa [near_W hw] at this
theorem near_fin {n : Nat} {p : Int} (h : D n p ≤ P2 1023) : nearR n p < infR := by
  have h1 := near_le (n := n) (p := p) (w := 9214364837600034816) (by decide) (by
    refine Rat.le_trans h ?_
    unfold W
    rw [show fMag 9214364837600034816 = 2 ^ 52 from by decide, show fPl 9214364837600034816 = 971 from by decide, ← D_one 1023, D_base 1 (b := 971) (by omega)]
    exact Rat.le_refl)
  exact Nat.lt_of_le_of_lt h1 (by decide)
/-- Half a place. -/
theorem near_half_ulp {n : Nat} {p : Int} (h0 : n ≠ 0) (h : nearR n p < infR) : 2 * W (nearR n p) ≤ 2 * D n p + P2 (lastP n p) ∧ 2 * D n p ≤ 2 * W (nearR n p) + P2 (lastP n p) := by
  have hL : -1074 ≤ lastP n p := by unfold lastP; omega
  -- common base
  obtain ⟨kb1, kb2⟩ := kept_bounds (n := n) (p := p) h0
  have hr : rung n p = (lastP n p + 1074).toNat * two52 + RHE (n * 2 ^ (p - lastP n p).toNat) (lastP n p - p).toNat := by unfold rung; rw [if_neg h0]
  have hR : nearR n p = rung n p := by unfold nearR at h ⊢; omega
  generalize hK : RHE (n * 2 ^ (p - lastP n p).toNat) (lastP n p - p).toNat = K at *
  -- the word's value
  have hW : W (nearR n p) = D K (lastP n p) := by
    rw [W_mgv]
    have hlt : nearR n p < 9223372036854775808 := by unfold infR at h; omega
    rw [Nat.mod_eq_of_lt hlt, D_base K hL]
    refine congrArg (D · _) ?_
    rw [hR, hr] at *
    generalize lastP n p = L at *
    rw [show L - -1074 = L + 1074 by omega]
    unfold infR at h
    unfold two52 at *
    rcases Nat.lt_or_ge K 4503599627370496 with h1 | h1
    · have hL0 : L = -1074 := by omega
      subst hL0
      unfold mgv
      rw [if_pos (by omega)]; simp
    · generalize hT : (L + 1074).toNat = T at *
      rcases Nat.lt_or_ge K 9007199254740992 with h2 | h2
      · unfold mgv
        rw [if_neg (by omega), show (T * 4503599627370496 + K) % 4503599627370496 = K - 4503599627370496 by omega, show (T * 4503599627370496 + K) / 4503599627370496 - 1 = T by omega, Nat.sub_add_cancel h1]
      · have : K = 9007199254740992 := by omega
        subst this
        unfold mgv
        rw [if_neg (by omega), show (T * 4503599627370496 + 9007199254740992) % 4503599627370496 = 0 by omega, show (T * 4503599627370496 + 9007199254740992) / 4503599627370496 - 1 = T + 1 by omega, Nat.pow_succ]
        omega
  rw [hW]
  obtain ⟨n1, n2⟩ := RHE_near (n * 2 ^ (p - lastP n p).toNat) (lastP n p - p).toNat
  rw [hK] at n1 n2
  -- at the base min p L
  have hb1 : D n p = D (n * 2 ^ (p - lastP n p).toNat) (lastP n p - (lastP n p - p).toNat) := by
    rcases Int.le_total p (lastP n p) with hle | hle
    · rw [show (p - lastP n p).toNat = 0 by omega, Nat.pow_zero, Nat.mul_one]; exact congrArg (D n) (by omega)
    · rw [D_base n hle]; exact congrArg (D _) (by omega)
  have hb2 : D K (lastP n p) = D (K * 2 ^ (lastP n p - p).toNat) (lastP n p - (lastP n p - p).toNat) := (D_scale K (lastP n p) (lastP n p - p).toNat).symm
  have hb3 : P2 (lastP n p) = D (2 ^ (lastP n p - p).toNat) (lastP n p - (lastP n p - p).toNat) := by
    have := D_scale 1 (lastP n p) (lastP n p - p).toNat
    rw [Nat.one_mul] at this
    rw [this, D_one]
  rw [hb1, hb2, hb3]
  generalize lastP n p - ((lastP n p - p).toNat : Int) = b
  have two : ∀ m, 2 * D m b = D (2 * m) b := fun m => by unfold D; rw [Rat.natCast_mul, Rat.mul_assoc]; rfl
  rw [two, two, D_add, D_add, D_le, D_le]
  exact ⟨n1, n2⟩
theorem lastP_le {n : Nat} {p : Int} (h0 : n ≠ 0) : P2 (lastP n p) ≤ D n p * P2 (-52) + P2 (-1074) := by
  unfold lastP
  rcases Int.le_total (p + n.log2 - 52) (-1074) with h | h
  · rw [Int.max_eq_right h]
    have := Rat.mul_nonneg (D_nonneg n p) (Rat.le_of_lt (P2_pos (-52)))
    grind
  · rw [Int.max_eq_left h]
    have h1 : P2 (p + n.log2) ≤ D n p := by
      unfold D
      rw [Int.add_comm, P2_add, P2_nat]
      exact Rat.mul_le_mul_of_nonneg_right (Rat.natCast_le_natCast.2 (Nat.log2_self_le h0)) (Rat.le_of_lt (P2_pos p))
    have h2 := Rat.mul_le_mul_of_nonneg_right h1 (Rat.le_of_lt (P2_pos (-52)))
    rw [← P2_add, show p + (n.log2 : Int) + -52 = p + n.log2 - 52 by omega] at h2
    have := P2_pos (-1074)
    grind
/-- Rounding is right but for a part in 2^53, and half the least number. -/
theorem near_err {n : Nat} {p : Int} (h : nearR n p < infR) : W (nearR n p) ≤ D n p + D n p * P2 (-53) + P2 (-1075) ∧ D n p ≤ W (nearR n p) + D n p * P2 (-53) + P2 (-1075) := by
  have e1 : P2 (-52) = 2 * P2 (-53) := by
    rw [show (-52 : Int) = ((1 : Nat) : Int) + -53 by omega, P2_add, P2_nat]; rfl
  have e2 : P2 (-1074) = 2 * P2 (-1075) := by
    rw [show (-1074 : Int) = ((1 : Nat) : Int) + -1075 by omega, P2_add, P2_nat]; rfl
  by_cases h0 : n = 0
  · subst h0
    rw [D_zero]
    have : nearR 0 p = 0 := by unfold nearR; rw [rung_zero]; rfl
    rw [this]
    have hW0 : W 0 = 0 := by unfold W; rw [show fMag 0 = 0 from by decide, D_zero]
    have := P2_pos (-1075)
    rw [hW0]
    grind
  · obtain ⟨a1, a2⟩ := near_half_ulp h0 h
    have a3 := lastP_le (p := p) h0
    rw [e1, e2] at a3
    grind
end Go.Proofs.Ytcjhfgjgmkfmnaa.Dx

namespace Go.Proofs.Ytcjhfgjgmkfmnaa.Dx
open Go

theorem abs_fin {b : Nat} (h : absV b < infR) : fPow b ≠ 2047 := by
  unfold absV infR at h; unfold fPow; omega
theorem fields_abs (b : Nat) : fMag (absV b) = fMag b ∧ fPl (absV b) = fPl b ∧ fPow (absV b) = fPow b ∧ fNeg (absV b) = false := by
  have h1 : fPow (absV b) = fPow b := by unfold fPow absV; omega
  have h2 : fFrac (absV b) = fFrac b := by unfold fFrac absV; omega
  refine ⟨by unfold fMag; rw [h1, h2], by unfold fPl; rw [h1], h1, by unfold fNeg absV; simp⟩
theorem absV_sgn (s : Bool) {r : Nat} (h : r ≤ infR) : absV (sgn s r) = r := (sgn_fields s h).2.2.2.1
theorem absV_near (s : Bool) (n : Nat) (p : Int) : absV (nearV s n p) = nearR n p := absV_sgn s (nearR_le n p)
theorem fin_near {s : Bool} {n : Nat} {p : Int} (h : nearR n p < infR) : fPow (nearV s n p) ≠ 2047 := abs_fin (by rw [absV_near]; exact h)
theorem fin_nan {b : Nat} (h : fPow b ≠ 2047) : ¬ nanB b := by unfold nanB; omega
theorem fin_inf {b : Nat} (h : fPow b ≠ 2047) : ¬ infB b := by unfold infB; omega
theorem mulV_fin {a b : Nat} (ha : fPow a ≠ 2047) (hb : fPow b ≠ 2047) : mulV a b = nearV (fNeg a != fNeg b) (fMag a * fMag b) (fPl a + fPl b) := by
  unfold mulV
  rw [if_neg (by simp [fin_nan ha, fin_nan hb]), if_neg (by simp [fin_inf ha, fin_inf hb])]
  split
  · rename_i h
    have : fMag a * fMag b = 0 := by rcases h with h | h <;> rw [h.1] <;> simp
    rw [this, nearV_zero]
  · rfl
theorem addV_fin {a b : Nat} (ha : fPow a ≠ 2047) (hb : fPow b ≠ 2047) : addV a b = sumV (fNeg a) (fNeg b) (fMag a) (fMag b) (fPl a) (fPl b) := by
  unfold addV
  rw [if_neg (by simp [fin_nan ha, fin_nan hb]), if_neg (fin_inf ha), if_neg (fin_inf hb)]
theorem scaleV_fin {b : Nat} (hb : b < 18446744073709551616) (h : fPow b ≠ 2047) (k : Int) : scaleV b k = nearV (fNeg b) (fMag b) (fPl b + clamp k) := by
  unfold scaleV
  rw [if_neg (fin_nan h)]
  split
  · rename_i h2
    have hz : fMag b = 0 := by omega
    rw [hz, nearV_zero]
    exact zero_word hb ⟨hz, ((mag_zero b).1 hz).1⟩
  · rfl
/-- The sum of two numbers without signs. -/
theorem add_pos {a b : Nat} (ha : a < infR) (hb : b < infR) : ∃ N p, addV a b = nearR N p ∧ D N p = W a + W b := by
  have fa : fPow a ≠ 2047 := abs_fin (by unfold absV; unfold infR at ha ⊢; omega)
  have fb : fPow b ≠ 2047 := abs_fin (by unfold absV; unfold infR at hb ⊢; omega)
  have na : fNeg a = false := by unfold fNeg; unfold infR at ha; simp; omega
  have nb : fNeg b = false := by unfold fNeg; unfold infR at hb; simp; omega
  refine ⟨fMag a * 2 ^ (fPl a - min (fPl a) (fPl b)).toNat + fMag b * 2 ^ (fPl b - min (fPl a) (fPl b)).toNat, min (fPl a) (fPl b), ?_, ?_⟩
  · rw [addV_fin fa fb, na, nb]
    unfold sumV
    rw [sg_shift, sg_shift]
    unfold sg
    simp only [Bool.false_eq_true, if_false, Bool.and_self]
    rw [← Int.natCast_add, Int.natAbs_natCast]
    split
    · rfl
    · rw [decide_eq_false (by omega)]; rfl
  · rw [← D_add, ← D_base _ (Int.min_le_left _ _), ← D_base _ (Int.min_le_right _ _)]; rfl
theorem expB_W {b : Nat} (h : fPow b ≠ 2047) (h0 : fMag b ≠ 0) : P2 (expB b) ≤ W b ∧ W b < P2 (expB b + 1) := by
  have he : expB b = (fMag b).log2 + fPl b := by
    unfold expB; rw [if_neg (by omega), log2_bl h0]; omega
  rw [he]
  unfold W D
  constructor
  · rw [P2_add, P2_nat]
    exact Rat.mul_le_mul_of_nonneg_right (Rat.natCast_le_natCast.2 (Nat.log2_self_le h0)) (Rat.le_of_lt (P2_pos _))
  · rw [show ((fMag b).log2 : Int) + fPl b + 1 = (((fMag b).log2 + 1 : Nat) : Int) + fPl b by omega, P2_add, P2_nat]
    exact Rat.mul_lt_mul_of_pos_right (Rat.natCast_lt_natCast.2 Nat.lt_log2_self) (P2_pos _)
theorem W_exact {n : Nat} {p : Int} (h0 : n ≠ 0) (hx : exq n p = true) (hf : nearR n p < infR) : W (nearR n p) = D n p := by
  obtain ⟨q, _, h2, _, h4⟩ := near_exact false h0 hx hf
  rw [show nearV false n p = nearR n p from rfl] at h2 h4
  unfold W
  rw [h2]
  have := h4 (min (fPl (nearR n p)) p) (Int.min_le_left _ _) (Int.min_le_right _ _)
  rw [D_base q (Int.min_le_left (fPl (nearR n p)) p), this, ← D_base n (Int.min_le_right (fPl (nearR n p)) p)]
theorem W_int {c : Nat} (h : c < 9007199254740992) : nearR c 0 < infR ∧ W (nearR c 0) = c := by
  have hf : nearR c 0 < infR := near_fin (by
    unfold D
    rw [P2_zero, Rat.mul_one]
    have h1 : (c : Rat) ≤ ((2 ^ 53 : Nat) : Rat) := Rat.natCast_le_natCast.2 (Nat.le_of_lt h)
    rw [← P2_nat] at h1
    exact Rat.le_trans h1 (P2_mono (by omega)))
  refine ⟨hf, ?_⟩
  by_cases h0 : c = 0
  · subst h0
    have : nearR 0 0 = 0 := by decide
    rw [this]; unfold W; rw [show fMag 0 = 0 from by decide, D_zero]; rfl
  · have hl : c.log2 < 53 := (Nat.log2_lt h0).2 h
    have hx : exq c 0 = true := by
      unfold exq lastP
      rw [show (max ((0 : Int) + c.log2 - 52) (-1074) - 0).toNat = 0 by omega]; simp [Nat.mod_one]
    rw [W_exact h0 hx hf]
    unfold D
    rw [P2_zero, Rat.mul_one]
theorem expB_normal {b : Nat} (h1 : fPow b ≠ 0) (h2 : fPow b ≠ 2047) : expB b = fPl b + 52 := by
  have hm : two52 ≤ fMag b := by unfold fMag two52; rw [if_neg h1]; omega
  have h0 : fMag b ≠ 0 := by unfold two52 at hm; omega
  unfold expB
  rw [if_neg (by omega), log2_bl h0, log2_of hm (fMag_lt b)]; omega
end Go.Proofs.Ytcjhfgjgmkfmnaa.Dx

namespace Go.Proofs.Ytcjhfgjgmkfmnaa.Dx
open Go

theorem log2_sq {m : Nat} (h1 : two52 ≤ m) (h2 : m < 9007199254740992) : ((m * m).log2 = 104 ∨ ((m * m).log2 = 105 ∧ two52 < m)) ∧ m * m ≠ 0 := by
  have hl : 4503599627370496 * 4503599627370496 ≤ m * m := Nat.mul_le_mul h1 h1
  have hu : m * m < 9007199254740992 * 9007199254740992 := Nat.mul_lt_mul'' h2 h2
  have h0 : m * m ≠ 0 := by omega
  refine ⟨?_, h0⟩
  have b1 : ¬ (m * m).log2 < 104 := fun h => by rw [Nat.log2_lt h0] at h; omega
  have b2 : (m * m).log2 < 106 := by rw [Nat.log2_lt h0]; omega
  by_cases h : (m * m).log2 = 104
  · exact .inl h
  · right
    refine ⟨by omega, ?_⟩
    by_cases he : m = two52
    · exfalso; apply h
      rw [he]; decide
    · omega
theorem z_facts {e : Int} {d : Nat} (he : -480 ≤ e) (he2 : e ≤ 330) (hd2 : d = 52 ∨ d = 53) : e + e ≤ e + e + (d : Int) ∧ (e + e + (d : Int) - (e + e)).toNat = d ∧ e + e ≤ e + e + (d : Int) + 1 ∧ (e + e + (d : Int) + 1 - (e + e)).toNat = 1 + d ∧ -1074 ≤ e + e + (d : Int) ∧ e + e + (d : Int) ≤ 900 ∧ e + e + (d : Int) + 1 ≤ 900 ∧ -1074 ≤ e + e + (d : Int) + 1 ∧ e + e + (d : Int) ≤ 971 ∧ e + e + (d : Int) + 1 ≤ 971 ∧ (e + e + (d : Int) + 1 + 1074).toNat = (e + e + d + 1074).toNat + 1 ∧ -1074 ≤ e ∧ e ≤ 900 := by
  refine ⟨?_, ?_, ?_, ?_, ?_, ?_, ?_, ?_, ?_, ?_, ?_, ?_, ?_⟩ <;> omega
theorem K_eq {K : Nat} (h : K ≤ 2 * two52) (h' : ¬ K < 9007199254740992) : K = 2 * two52 := by unfold two52 at *; omega
theorem pl_fact {e f : Int} (h : e + e ≤ f) : f - (((f - (e + e)).toNat + 120 : Nat) : Int) = 2 * (e - 60) := by omega
theorem squares_back {m : Nat} {e : Int} (h1 : two52 ≤ m) (h2 : m < 9007199254740992) (he : -480 ≤ e) (he2 : e ≤ 330) :
    ∃ q : Nat, ∃ f : Int, fMag (nearV false (m * m) (e + e)) = q ∧ fPl (nearV false (m * m) (e + e)) = f ∧ fPow (nearV false (m * m) (e + e)) ≠ 2047 ∧ q ≠ 0 ∧ nearR (sqN q f) (sqP f) = (e + 1074).toNat * two52 + m := by
  obtain ⟨hlog, h0⟩ := log2_sq h1 h2
  obtain ⟨d, hd, hd2⟩ : ∃ d : Nat, d = (m * m).log2 - 52 ∧ (d = 52 ∨ d = 53) := ⟨_, rfl, by omega⟩
  have hlast : lastP (m * m) (e + e) = e + e + d := by unfold lastP; omega
  obtain ⟨kb1, kb2⟩ := kept_bounds (n := m * m) (p := e + e) h0
  have hK : RHE (m * m * 2 ^ (e + e - lastP (m * m) (e + e)).toNat) (lastP (m * m) (e + e) - (e + e)).toNat = RHE (m * m) d := by
    rw [hlast, show (e + e - (e + e + d)).toNat = 0 by omega, Nat.pow_zero, Nat.mul_one, show (e + e + (d : Int) - (e + e)).toNat = d by omega]
  rw [hK] at kb1 kb2
  have kb2 := kb2 (by omega)
  have hrung : rung (m * m) (e + e) = (e + e + d + 1074).toNat * two52 + RHE (m * m) d := by
    unfold rung; rw [if_neg h0, hK, hlast]
  obtain ⟨n1, n2⟩ := RHE_near (m * m) d
  have hex : m = two52 → RHE (m * m) d * 2 ^ d = m * m := fun hm => by
    have : d = 52 := by omega
    rw [this, hm]; decide
  have hpd : (d = 52 → 2 ^ d = 4503599627370496) ∧ (d = 53 → 2 ^ d = 9007199254740992) := ⟨fun h => by rw [h], fun h => by rw [h]⟩
  have hlo : 4 * (m * m) + 1 < 4 * (RHE (m * m) d * 2 ^ d) + 4 * m := by
    unfold two52 at *
    rcases hd2 with h | h
    · have := hpd.1 h; omega
    · have := hpd.2 h; omega
  have hhi : 4 * (RHE (m * m) d * 2 ^ d) < 4 * (m * m) + 4 * m + 1 := by
    unfold two52 at *
    rcases hd2 with h | h
    · have := hpd.1 h; omega
    · have := hpd.2 h; omega
  clear n1 n2
  generalize RHE (m * m) d = K at *
  -- the word's parts
  obtain ⟨z1, z2, z3, z4, z5, z6, z7, z8, z9, z10, z11, z12, z13⟩ := z_facts he he2 hd2
  obtain ⟨q, f, g1, g2, g3, g4, g5⟩ : ∃ q : Nat, ∃ f : Int, fMag (nearV false (m * m) (e + e)) = q ∧ fPl (nearV false (m * m) (e + e)) = f ∧ fPow (nearV false (m * m) (e + e)) ≠ 2047 ∧ e + e ≤ f ∧ q * 2 ^ (f - (e + e)).toNat = K * 2 ^ d := by
    clear hlo hhi hex hpd hK hlast hlog
    by_cases hc : K < 9007199254740992
    · have hR : nearR (m * m) (e + e) = (e + e + d + 1074).toNat * two52 + K := by
        unfold nearR; rw [hrung]; exact min_inf z6 hc
      obtain ⟨r1, r2, r3⟩ := read_fits (q := K) (e := e + e + d) false z5 z9 hc (.inl kb2)
      have hv : nearV false (m * m) (e + e) = sgn false ((e + e + d + 1074).toNat * two52 + K) := by unfold nearV; rw [hR]
      rw [hv]
      exact ⟨_, _, r1, r2, r3, z1, by rw [z2]⟩
    · have hKe : K = 2 * two52 := K_eq kb1 hc
      have h52 : (e + e + d + 1074).toNat * two52 + K = (e + e + d + 1 + 1074).toNat * two52 + two52 := by
        rw [hKe, z11, Nat.add_mul, Nat.one_mul, Nat.two_mul, Nat.add_assoc]
      have hR : nearR (m * m) (e + e) = (e + e + d + 1 + 1074).toNat * two52 + two52 := by
        unfold nearR; rw [hrung, h52]; exact min_inf z7 (by decide)
      obtain ⟨r1, r2, r3⟩ := read_fits (q := two52) (e := e + e + d + 1) false z8 z10 (by decide) (.inl (Nat.le_refl _))
      have hv : nearV false (m * m) (e + e) = sgn false ((e + e + d + 1 + 1074).toNat * two52 + two52) := by unfold nearV; rw [hR]
      rw [hv]
      refine ⟨_, _, r1, r2, r3, z3, ?_⟩
      rw [z4, hKe, Nat.pow_add, ← Nat.mul_assoc, Nat.pow_one, Nat.mul_comm two52 2]
  have hq0 : q ≠ 0 := fun h => by
    rw [h, Nat.zero_mul] at g5
    have := Nat.mul_ne_zero (show K ≠ 0 by unfold two52 at kb2; omega) (Nat.ne_of_gt (Nat.two_pow_pos d))
    omega
  refine ⟨q, f, g1, g2, g3, hq0, ?_⟩
  have hN : q * 2 ^ ((f - (e + e)).toNat + 120) = K * 2 ^ d * 4 ^ 60 := by
    rw [Nat.pow_add, ← Nat.mul_assoc, g5]
  have hroot := isq_ok (q * 2 ^ ((f - (e + e)).toNat + 120))
  have hbig : 9007199254740992 ≤ isq (q * 2 ^ ((f - (e + e)).toNat + 120)) := root_ge hroot (by
    have a1 : 2 ^ 110 ≤ 2 ^ ((f - (e + e)).toNat + 120) := Nat.pow_le_pow_right (by decide) (Nat.le_trans (by decide : 110 ≤ 120) (Nat.le_add_left _ _))
    have a2 := Nat.mul_le_mul (show 1 ≤ q from Nat.pos_of_ne_zero hq0) a1
    have a3 : (9007199254740992 : Nat) * 9007199254740992 ≤ 2 ^ 110 := by decide
    rw [Nat.one_mul] at a2
    exact Nat.le_trans a3 a2)
  have hany := sq_any (m := q) (s := (f - (e + e)).toNat + 120) (e := f) (p := e - 60) hq0 (pl_fact g4) hroot hbig
  rw [← hany.1]
  generalize isq (q * 2 ^ ((f - (e + e)).toNat + 120)) = w at *
  rw [hN] at hroot ⊢
  exact root_about (t := 60) h1 h2 z12 z13 (.inl hlo) hhi hex (by decide) hroot
end Go.Proofs.Ytcjhfgjgmkfmnaa.Dx

namespace Go.Proofs.Ytcjhfgjgmkfmnaa.Dx
open Go

def DV (x e : Int) : Rat := (x : Rat) * P2 e
theorem P2_int (n : Nat) : P2 n = (((2 : Int) ^ n : Int) : Rat) := by
  rw [P2_nat, Rat.natCast_pow, Rat.intCast_pow]; rfl
theorem DV_at (x : Int) {e l : Int} (h : l ≤ e) : DV (x * 2 ^ (e - l).toNat) l = DV x e := by
  unfold DV
  rw [Rat.intCast_mul, ← P2_int, Rat.mul_assoc, ← P2_add]
  exact congrArg _ (congrArg P2 (by omega))
theorem DV_le {x y l : Int} : DV x l ≤ DV y l ↔ x ≤ y := by
  unfold DV
  constructor
  · intro h; exact Rat.intCast_le_intCast.1 (Rat.le_of_mul_le_mul_right h (P2_pos l))
  · intro h; exact Rat.mul_le_mul_of_nonneg_right (Rat.intCast_le_intCast.2 h) (Rat.le_of_lt (P2_pos l))
theorem DV_dadd (x e y f : Int) : DV (dadd x e y f) (min e f) = DV x e + DV y f := by
  rw [← DV_at x (Int.min_le_left e f), ← DV_at y (Int.min_le_right e f)]
  unfold dadd DV
  rw [Rat.intCast_add]; grind
theorem DV_mul (x e y f : Int) : DV (x * y) (e + f) = DV x e * DV y f := by
  unfold DV; rw [Rat.intCast_mul, P2_add]; grind
theorem DV_scale (x e k : Int) : DV x (e + k) = DV x e * P2 k := by unfold DV; rw [P2_add]; grind
theorem DV_neg (x e : Int) : DV (-x) e = -DV x e := by unfold DV; rw [Rat.intCast_neg]; grind
theorem dcmp_le (x e y f : Int) : dcmp x e y f ≤ 0 ↔ DV x e ≤ DV y f := by
  rw [← DV_at x (Int.min_le_left e f), ← DV_at y (Int.min_le_right e f), DV_le]
  unfold dcmp cmp3
  split
  · omega
  · split <;> omega
theorem DV_sx {b : Nat} (h : fNeg b = false) : DV (sx b) (fPl b) = W b := by
  unfold DV sx sg W D; rw [h]; simp only [Bool.false_eq_true, if_false]; rw [Rat.intCast_natCast]
theorem od_sign (x : Int) : od x < 0 ↔ x < 0 := by
  have h := od_mul x
  have hp : (0 : Int) < 2 ^ tz x.natAbs := Int.pow_pos (by omega)
  generalize od x = o at *
  generalize (2 : Int) ^ tz x.natAbs = z at *
  constructor
  · intro h1
    rw [← h]
    exact Int.mul_neg_of_neg_of_pos h1 hp
  · intro h1
    rcases Int.lt_or_le o 0 with h2 | h2
    · exact h2
    · have := Int.mul_nonneg h2 (Int.le_of_lt hp); omega
theorem dS_ok (x e : Int) : dS x e = Vb (decide (x < 0)) := by unfold dS bS; rw [Bo_inj, decide_eq_decide]; exact od_sign x
def TameP (x : List Nat) (K : Int) : Prop := ∀ i, i < x.length → fPow (el x i) ≠ 2047 ∧ (fMag (el x i) = 0 ∨ (-K ≤ expB (el x i) ∧ expB (el x i) < K))
section
variable {x : List Nat} (hx : Words x) (h64 : x.length < 9000000000000000000) {K : Int} (hK : 0 ≤ K ∧ K ≤ 100000)
include hx h64 hK
theorem tame_loop {x2 : PV} : ∀ (n : Nat) {i : Nat}, i + n = x.length →
    (rounds (fun vs => lo164_1.dv (Vl x :: Vi K :: vs)) [x2, Vi i] = some (.y .ret [])) ∨
    (rounds (fun vs => lo164_1.dv (Vl x :: Vi K :: vs)) [x2, Vi i] = some (.y (.ext 0) [x2]) ∧ ∀ j, i ≤ j → j < x.length → fPow (el x j) ≠ 2047 ∧ (fMag (el x j) = 0 ∨ (-K ≤ expB (el x j) ∧ expB (el x j) < K))) := by
  intro n
  induction n with
  | zero =>
    intro i hi
    refine .inr ⟨rounds_exit ?_ (by simp), fun j h1 h2 => by omega⟩
    simp [lo164_1, TT.dv, show ¬ i < x.length by omega]
  | succ n ih =>
    intro i hi
    have g1 := get_V (x := x) (i := i) (by omega)
    have f1 := finite4_ok (hx.el i)
    have k1 := kind4_ok (hx.el i)
    have e1 := exp8_ok (hx.el i)
    have hlt : i < x.length := by omega
    have s1 : (B.sub .i64).den (Vi 0) (Vi K) = Vi (-K) := by rw [sub_i (by omega) (by omega)]; exact congrArg Vi (by omega)
    have e2 : (B.add .i64).den (Vi i) (Vi 1) = Vi (i + 1) := add_i (by omega) (by omega)
    have hp := fPow_lt (el x i)
    by_cases c1 : fPow (el x i) = 2047
    · refine .inl (rounds_exit ?_ (by simp))
      simp [lo164_1, TT.dv, hlt, g1, f1, c1]
    · have c1' : fPow (el x i) < 2047 := by omega
      have goon : (fMag (el x i) = 0 ∨ (-K ≤ expB (el x i) ∧ expB (el x i) < K)) → rounds (fun vs => lo164_1.dv (Vl x :: Vi K :: vs)) [x2, Vi i] = rounds (fun vs => lo164_1.dv (Vl x :: Vi K :: vs)) [x2, Vi ((i + 1 : Nat) : Int)] := fun hg => by
        refine rounds_cont ?_
        by_cases z : fMag (el x i) = 0
        · rw [(kind_zero _).2 ((mag_zero _).1 z)] at k1
          simp [lo164_1, TT.dv, hlt, g1, f1, c1', k1, e2]
        · have z' : ¬ fKind (el x i) = 0 := fun h => z ((mag_zero _).2 ((kind_zero _).1 h))
          have h2 : -K ≤ expB (el x i) ∧ expB (el x i) < K := hg.resolve_left z
          simp [lo164_1, TT.dv, hlt, g1, f1, c1', k1, z', e1, s1, e2, show ¬ expB (el x i) < -K by omega, show ¬ K ≤ expB (el x i) by omega]
      by_cases hg : fMag (el x i) = 0 ∨ (-K ≤ expB (el x i) ∧ expB (el x i) < K)
      · rcases ih (i := i + 1) (by omega) with h | ⟨h, h'⟩
        · exact .inl ((goon hg).trans h)
        · refine .inr ⟨(goon hg).trans h, fun j h1 h2 => ?_⟩
          rcases Nat.eq_or_lt_of_le h1 with he | he
          · subst he; exact ⟨c1, hg⟩
          · exact h' j (by omega) h2
      · refine .inl (rounds_exit ?_ (by simp))
        have z : ¬ fMag (el x i) = 0 := fun h => hg (.inl h)
        have z' : ¬ fKind (el x i) = 0 := fun h => z ((mag_zero _).2 ((kind_zero _).1 h))
        by_cases c2 : expB (el x i) < -K
        · simp [lo164_1, TT.dv, hlt, g1, f1, c1', k1, z', e1, s1, c2]
        · have c3 : K ≤ expB (el x i) := by omega
          simp [lo164_1, TT.dv, hlt, g1, f1, c1', k1, z', e1, s1, c2, c3]
theorem tame_ok : ∃ b, val 164 [Vl x, Vi K] = some [Vb b] ∧ (b = true → TameP x K) := by
  have h := tame_loop hx h64 hK (x2 := Vb false) x.length (i := 0) (by omega)
  rw [show ((0 : Nat) : Int) = 0 from rfl] at h
  rcases h with h | ⟨h, h'⟩
  · refine ⟨false, val_of tab164 ?_, fun h => by cases h⟩
    simp [tr164, TT.dv, KS.dv, h]
  · refine ⟨true, val_of tab164 ?_, fun _ i hi => h' i (Nat.zero_le _) hi⟩
    simp [tr164, TT.dv, KS.dv, h]
end
end Go.Proofs.Ytcjhfgjgmkfmnaa.Dx

namespace Go.Proofs.Ytcjhfgjgmkfmnaa.Dx
open Go

theorem normal_of_exp {b : Nat} (h : fPow b ≠ 2047) (h0 : fMag b ≠ 0) (he : -1022 ≤ expB b) : fPow b ≠ 0 := by
  intro hp
  have hl : (fMag b).log2 < 52 := by
    rw [Nat.log2_lt h0]; unfold fMag; rw [if_pos hp]; exact fFrac_lt b
  unfold expB at he
  rw [if_neg (by omega), log2_bl h0] at he
  unfold fPl at he
  rw [if_pos hp] at he
  omega
theorem clamp_id {k : Int} (h : -2300 ≤ k ∧ k ≤ 2300) : clamp k = k := by unfold clamp; omega
/-- The square of a part. -/
theorem sq_part {t : Nat} (h : fPow t ≠ 2047) : mulV t t = nearR (fMag t * fMag t) (fPl t + fPl t) ∧ D (fMag t * fMag t) (fPl t + fPl t) = W t * W t := by
  refine ⟨?_, by unfold W; rw [D_mul]⟩
  rw [mulV_fin h h, show (fNeg t != fNeg t) = false by cases fNeg t <;> rfl]
  rfl
theorem sq_le4 {t : Nat} (h : fPow t ≠ 2047) (h2 : W t ≤ 2) : mulV t t ≤ 4616189618054758400 ∧ mulV t t < infR ∧ W (mulV t t) ≤ 4 := by
  have hW4 : W 4616189618054758400 = 4 := by
    unfold W D
    rw [show fMag 4616189618054758400 = 2 ^ 52 from by decide, show fPl 4616189618054758400 = -50 from by decide, ← P2_nat, ← P2_add, show ((52 : Nat) : Int) + -50 = ((2 : Nat) : Int) by omega, P2_nat]; rfl
  obtain ⟨h3, h4⟩ := sq_part h
  have h5 : mulV t t ≤ 4616189618054758400 := by
    rw [h3]
    refine near_le (by decide) ?_
    rw [h4, hW4]
    have h6 := W_nonneg t
    have h7 := Rat.mul_le_mul_of_nonneg_left h2 h6
    grind
  refine ⟨h5, Nat.lt_of_le_of_lt h5 (by decide), ?_⟩
  rw [← hW4, W_le (by omega) (by decide)]; exact h5
theorem sqrt_pos {s : Nat} (h : s < infR) : sqrtV s ≤ infR := by
  have hn : fNeg s = false := by unfold fNeg; unfold infR at h; simp; omega
  have hnan : ¬ nanB s := by unfold nanB fPow; unfold infR at h; omega
  unfold sqrtV
  rw [if_neg hnan, hn]
  split
  · omega
  · simp only [Bool.false_eq_true, if_false]; exact nearR_le _ _
theorem le_inf_nan {s : Nat} (h : s ≤ infR) : ¬ nanB s := by
  rcases Nat.lt_or_eq_of_le h with h1 | h1
  · unfold nanB fPow; unfold infR at h1; omega
  · subst h1; decide
theorem sqrt_mono {a b : Nat} (ha : a ≤ b) (hb : b < infR) : sqrtV a ≤ sqrtV b := by
  have h1 := sqrt_pos (s := a) (by omega)
  have h2 := sqrt_pos hb
  have hi : infR < 9223372036854775808 := by decide
  have := rise (a := a) (b := b) (by omega) (by omega) (by unfold ordOk; simp [le_inf_nan (show a ≤ infR by omega), le_inf_nan (show b ≤ infR by omega)])
    (by rw [rk_pos (by omega), rk_pos (by omega)]; omega) (by unfold ordOk; simp [le_inf_nan h1, le_inf_nan h2])
  rw [rk_pos (by omega), rk_pos (by omega)] at this
  omega
theorem mag_le2 (t : Nat) : fMag t ≤ 2 * two52 := by have := fMag_lt t; unfold two52; omega
theorem mag_normal {t : Nat} (h : fPow t ≠ 0) : two52 ≤ fMag t := by unfold fMag two52; rw [if_neg h]; omega
theorem min_id {z t : Nat} (h : min z infR = t) (h2 : t < infR) : z = t := by omega
/-- The root of the square of a number about 1. -/
theorem sqrt_sq {t : Nat} (h : t < infR) (h0 : fPow t ≠ 0) (h1 : -480 ≤ fPl t) (h2 : fPl t ≤ 330) : sqrtV (mulV t t) = t := by
  have hf : fPow t ≠ 2047 := abs_fin (by unfold absV; unfold infR at h ⊢; omega)
  have hn : fNeg t = false := by unfold fNeg; unfold infR at h; simp; omega
  have m1 := mag_normal h0
  obtain ⟨q, f, q1, q2, q3, q4, q5⟩ := squares_back m1 (fMag_lt t) h1 h2
  rw [(sq_part hf).1]
  rw [show nearV false (fMag t * fMag t) (fPl t + fPl t) = nearR (fMag t * fMag t) (fPl t + fPl t) from rfl] at q1 q2 q3
  have hneg : fNeg (nearR (fMag t * fMag t) (fPl t + fPl t)) = false := word_neg false _ _
  generalize nearR (fMag t * fMag t) (fPl t + fPl t) = Q at *
  unfold sqrtV
  rw [if_neg (fin_nan q3), hneg, q1, q2, if_neg (by
    intro hh
    rcases hh with hh | hh
    · exact q4 hh.1
    · rw [hh] at q3; exact q3 (by decide))]
  simp only [Bool.false_eq_true, if_false]
  show nearR _ _ = _
  rw [q5]
  have := near_W h
  unfold nearR at this
  rw [rung_fits (by omega) (mag_le2 t) (.inl m1)] at this
  generalize (fPl t + 1074).toNat * two52 + fMag t = z at *
  exact min_id this h
theorem word_pos {r : Nat} (h : r < infR) : fPow r ≠ 2047 ∧ fNeg r = false ∧ r < 18446744073709551616 ∧ absV r = r := by
  have hi : infR = 9218868437227405312 := rfl
  rw [hi] at h
  exact ⟨abs_fin (by unfold absV; rw [hi]; omega), by unfold fNeg; simp; omega, by omega, by unfold absV; omega⟩
end Go.Proofs.Ytcjhfgjgmkfmnaa.Dx

namespace Go.Proofs.Ytcjhfgjgmkfmnaa.Dx
open Go

theorem rat_sq_le {a b : Rat} (h0 : 0 ≤ a) (h : a ≤ b) : a * a ≤ b * b := by
  have h1 := Rat.mul_le_mul_of_nonneg_left h h0
  have h2 := Rat.mul_le_mul_of_nonneg_right h (Rat.le_trans h0 h)
  exact Rat.le_trans h1 h2
theorem rat_sq_nonneg (a : Rat) : 0 ≤ a * a := by
  rcases Rat.le_total (a := 0) (b := a) with h | h
  · exact Rat.mul_nonneg h h
  · have := Rat.mul_nonneg (a := -a) (b := -a) (by grind) (by grind)
    grind
/-- One rounding of a number that is not negative. -/
theorem near_err' {n : Nat} {p : Int} (h : nearR n p < infR) : W (nearR n p) ≤ D n p + D n p * (1 / 9007199254740992) + P2 (-1075) ∧ D n p ≤ W (nearR n p) + D n p * (1 / 9007199254740992) + P2 (-1075) := by
  have hu : P2 (-53) = 1 / 9007199254740992 := by decide +kernel
  have := near_err h
  rwa [hu] at this
theorem eta_small : 0 ≤ P2 (-1075) ∧ P2 (-1075) ≤ 1 / 1000000000000000000000000000000 := by
  refine ⟨Rat.le_of_lt (P2_pos _), ?_⟩
  have h1 : P2 (-1075) ≤ P2 (-120) := P2_mono (by omega)
  have h2 : P2 (-120) ≤ 1 / 1000000000000000000000000000000 := by decide +kernel
  exact Rat.le_trans h1 h2
end Go.Proofs.Ytcjhfgjgmkfmnaa.Dx

namespace Go.Proofs.Ytcjhfgjgmkfmnaa.Dx
open Go

def sumA (a : Nat → Rat) : Nat → Rat
  | 0 => 0
  | n + 1 => sumA a n + a n * a n
/-- The root, before it is rounded: its square is the number but for two parts in 2^53. -/
theorem stk_sq {N w : Nat} (h : IsRoot N w) (hw : 9007199254740992 ≤ w) : 
    ((stk N w * stk N w : Nat) : Rat) ≤ (4 * N : Nat) + (4 * N : Nat) * (2 * (1 / 9007199254740992)) ∧ ((4 * N : Nat) : Rat) ≤ (stk N w * stk N w : Nat) + (4 * N : Nat) * (2 * (1 / 9007199254740992)) := by
  obtain ⟨h1, h2⟩ := h
  have key : stk N w * stk N w ≤ 4 * N + 4 * w + 1 ∧ 4 * N ≤ stk N w * stk N w + 4 * w + 4 := by
    unfold stk
    by_cases hx : w * w = N
    · rw [decide_eq_false (by simp [hx])]
      have : (2 * w + false.toNat) * (2 * w + false.toNat) = 4 * (w * w) := by
        simp only [Bool.toNat_false, Nat.add_zero]; rw [Nat.mul_mul_mul_comm]
      rw [this, hx]; omega
    · rw [decide_eq_true hx]
      have : (2 * w + true.toNat) * (2 * w + true.toNat) = 4 * (w * w) + 4 * w + 1 := sq_exp w
      rw [this]
      have h3 : (w + 1) * (w + 1) = w * w + 2 * w + 1 := by rw [Nat.add_mul, Nat.mul_add]; omega
      omega
  have hww : 9007199254740992 * w ≤ w * w := Nat.mul_le_mul_right w hw
  have k2 : 9007199254740992 * w ≤ N := Nat.le_trans hww h1
  have r1 : ((stk N w * stk N w : Nat) : Rat) ≤ ((4 * N + 4 * w + 1 : Nat) : Rat) := Rat.natCast_le_natCast.2 key.1
  have r2 : ((4 * N : Nat) : Rat) ≤ ((stk N w * stk N w + 4 * w + 4 : Nat) : Rat) := Rat.natCast_le_natCast.2 key.2
  have r3 : ((9007199254740992 * w : Nat) : Rat) ≤ (N : Rat) := Rat.natCast_le_natCast.2 k2
  have r4 : ((9007199254740992 : Nat) : Rat) ≤ (w : Rat) := Rat.natCast_le_natCast.2 hw
  simp only [Rat.natCast_add, Rat.natCast_mul] at r1 r2 r3 ⊢
  have c1 : ((4 : Nat) : Rat) = 4 := rfl
  have c2 : ((1 : Nat) : Rat) = 1 := rfl
  have c3 : ((9007199254740992 : Nat) : Rat) = 9007199254740992 := rfl
  rw [c3] at r3 r4
  rw [c1] at r1 r2 ⊢
  rw [c2] at r1
  generalize (stk N w : Rat) * (stk N w : Rat) = z at *
  generalize (N : Rat) = n at *
  generalize (w : Rat) = y at *
  constructor <;> grind
end Go.Proofs.Ytcjhfgjgmkfmnaa.Dx

namespace Go.Proofs.Ytcjhfgjgmkfmnaa.Dx
open Go

/-- Bounds that sums bear: how low the place is, how high the top. -/
structure DBs (x e : Int) (E T : Nat) : Prop where
  lo : -(E : Int) ≤ e
  hi : e ≤ E
  top : (bl x.natAbs : Int) + e ≤ T
theorem DBs.db {x e : Int} {E T : Nat} (h : DBs x e E T) (h1 : E ≤ 40000000) (h2 : T ≤ 40000000) : DB x e := by
  obtain ⟨a, b, c⟩ := h
  exact ⟨by omega, by omega, by omega⟩
theorem DBs.word (b : Nat) : DBs (sx b) (fPl b) 1100 1100 := by
  have h1 := bl_mag b
  have h2 := fPl_bd b
  exact ⟨by omega, by omega, by omega⟩
theorem DBs.mono {x e : Int} {E T E' T' : Nat} (h : DBs x e E T) (h1 : E ≤ E') (h2 : T ≤ T') : DBs x e E' T' := by
  obtain ⟨a, b, c⟩ := h
  exact ⟨by omega, by omega, by omega⟩
theorem DBs.neg {x e : Int} {E T : Nat} (h : DBs x e E T) : DBs (-x) e E T := by
  obtain ⟨a, b, c⟩ := h
  exact ⟨a, b, by rwa [Int.natAbs_neg]⟩
theorem DBs.mul {x e y f : Int} {E T E' T' : Nat} (h : DBs x e E T) (h' : DBs y f E' T') : DBs (x * y) (e + f) (E + E') (T + T') := by
  obtain ⟨a, b, c⟩ := h
  obtain ⟨a', b', c'⟩ := h'
  have := bl_int_mul x y
  exact ⟨by omega, by omega, by omega⟩
theorem DBs.scale {x e k : Int} {E T : Nat} (h : DBs x e E T) (K : Nat) (hk : -(K : Int) ≤ k ∧ k ≤ K) : DBs x (e + k) (E + K) (T + K) := by
  obtain ⟨a, b, c⟩ := h
  exact ⟨by omega, by omega, by omega⟩
theorem DBs.add {x e y f : Int} {E T : Nat} (h : DBs x e E T) (h' : DBs y f E T) : DBs (dadd x e y f) (min e f) E (T + 1) := by
  obtain ⟨a, b, c⟩ := h
  obtain ⟨a', b', c'⟩ := h'
  have h1 := bl_int_add (x * 2 ^ (e - min e f).toNat) (y * 2 ^ (f - min e f).toNat)
  have h2 := bl_int_shl x (e - min e f).toNat
  have h3 := bl_int_shl y (f - min e f).toNat
  refine ⟨by omega, by omega, ?_⟩
  unfold dadd
  omega
end Go.Proofs.Ytcjhfgjgmkfmnaa.Dx

namespace Go.Proofs.Ytcjhfgjgmkfmnaa.Dx
open Go

theorem scale_near {b : Nat} (hb : b < 18446744073709551616) (h : fPow b ≠ 2047) {k : Int} (hk : -2300 ≤ k ∧ k ≤ 2300) : absV (scaleV b k) = nearR (fMag b) (fPl b + k) := by
  rw [scaleV_fin hb h, clamp_id hk, absV_near]
theorem fPl_eq {w : Nat} (h : fPow w ≠ 0) : fPl w = (fPow w : Int) - 1075 := by unfold fPl; rw [if_neg h]
/-- A word, times a power of two, that stays a normal one. -/
theorem scale_exact {b : Nat} (hb : b < 18446744073709551616) (h0 : fPow b ≠ 0) (h : fPow b ≠ 2047) {k : Int} (hk : -2300 ≤ k ∧ k ≤ 2300) (h1 : -1022 ≤ expB b + k) (h2 : expB b + k ≤ 1023) :
    fMag (scaleV b k) = fMag b ∧ fPl (scaleV b k) = fPl b + k ∧ fPow (scaleV b k) ≠ 2047 ∧ fPow (scaleV b k) ≠ 0 ∧ W (scaleV b k) = W b * P2 k ∧ absV (scaleV b k) = nearR (fMag b) (fPl b + k) := by
  have he := expB_normal h0 h
  have m1 := mag_normal h0
  have hd := (near_normal m1 (fMag_lt b) (e := fPl b + k) (by omega) (by omega) (fNeg b)).1
  have hs : scaleV b k = nearV (fNeg b) (fMag b) (fPl b + k) := by rw [scaleV_fin hb h, clamp_id hk]
  have hw := scale_near hb h hk
  rw [hs, hd]
  obtain ⟨g1, g2, g3, g4⟩ := fields_of (s := fNeg b) (P := (fPl b + k + 1074).toNat) (q := fMag b) (by omega) m1 (fMag_lt b)
  have g5 : fPl (sgn (fNeg b) ((fPl b + k + 1074).toNat * two52 + fMag b)) = fPl b + k := by
    rw [fPl_eq (by rw [g1]; omega), g1]
    omega
  refine ⟨g2, g5, ?_, by rw [g1]; omega, ?_, ?_⟩
  · rw [g1]; clear hd hs hw g1 g2 g3 g4 g5; omega
  · unfold W; rw [g2, g5, D_shift]
  · rw [← hd, absV_near]
theorem W_zero_of {b : Nat} (h : fMag b = 0) : W b = 0 := by unfold W; rw [h, D_zero]
end Go.Proofs.Ytcjhfgjgmkfmnaa.Dx

namespace Go.Proofs.Ytcjhfgjgmkfmnaa.Dx
open Go

theorem P2_le_iff {a b : Int} : P2 a ≤ P2 b ↔ a ≤ b := by
  constructor
  · intro h
    rcases Int.lt_or_le b a with h1 | h1
    · have := P2_lt h1; grind
    · exact h1
  · exact P2_mono
end Go.Proofs.Ytcjhfgjgmkfmnaa.Dx

namespace Go.Proofs.Ytcjhfgjgmkfmnaa.Dx
open Go

theorem err_sqB {a T η : Rat} (ha : 0 ≤ a) (ha2 : a ≤ 1000) (hT : 0 ≤ T) (hη : 0 ≤ η) (hη1 : η ≤ 1 / 1000000) (h1 : T ≤ a + a * (1 / 9007199254740992) + η) (h2 : a ≤ T + a * (1 / 9007199254740992) + η) :
    T * T ≤ a * a + 3 * (1 / 9007199254740992) * (a * a) + 5000 * η ∧ a * a ≤ T * T + 3 * (1 / 9007199254740992) * (a * a) + 5000 * η := by
  have e1 : a * η ≤ 1000 * η := Rat.mul_le_mul_of_nonneg_right ha2 hη
  have e0 : 0 ≤ a * η := Rat.mul_nonneg ha hη
  have e2 : η * η ≤ η := by
    have := Rat.mul_le_mul_of_nonneg_right hη1 hη
    grind
  have e3 := Rat.mul_nonneg hη hη
  have e4 := Rat.mul_nonneg ha ha
  constructor
  · have := rat_sq_le hT h1
    grind
  · have e5 : a * T ≤ a * (a + a * (1 / 9007199254740992) + η) := Rat.mul_le_mul_of_nonneg_left h1 ha
    have e6 : a * a ≤ a * (T + a * (1 / 9007199254740992) + η) := Rat.mul_le_mul_of_nonneg_left h2 ha
    have e7 : T * a ≤ T * (T + a * (1 / 9007199254740992) + η) := Rat.mul_le_mul_of_nonneg_left h2 hT
    have e8 : T * η ≤ (a + a * (1 / 9007199254740992) + η) * η := Rat.mul_le_mul_of_nonneg_right h1 hη
    grind
/-- The root of a number, rounded: its square. -/
theorem root_err {s : Nat} (hs : s < infR) (h1 : 1 / 4 ≤ W s) (h2 : W s ≤ 100000) (hr : sqrtV s < infR) :
    W (sqrtV s) * W (sqrtV s) ≤ W s + 6 * (1 / 9007199254740992) * W s ∧ W s ≤ W (sqrtV s) * W (sqrtV s) + 6 * (1 / 9007199254740992) * W s := by
  obtain ⟨p1, p2, p3, p4⟩ := word_pos hs
  have h0 : fMag s ≠ 0 := fun h => by rw [W_zero_of h] at h1; grind
  have hv : sqrtV s = nearR (sqN (fMag s) (fPl s)) (sqP (fPl s)) := by
    unfold sqrtV
    rw [if_neg (fin_nan p1), p2, if_neg (by
      intro hh
      rcases hh with hh | hh
      · exact h0 hh.1
      · rw [hh] at hs; omega)]
    rfl
  have hS : 110 ≤ sqS (fPl s) ∧ fPl s - sqS (fPl s) = 2 * ((fPl s - sqS (fPl s)) / 2) := by
    unfold sqS
    by_cases h : fPl s % 2 = 0
    · rw [if_pos h]; omega
    · rw [if_neg h]; omega
  have hroot := isq_ok (fMag s * 2 ^ sqS (fPl s))
  have hbig : 9007199254740992 ≤ isq (fMag s * 2 ^ sqS (fPl s)) := root_ge hroot (by
    have h3 : 2 ^ 110 ≤ 2 ^ sqS (fPl s) := Nat.pow_le_pow_right (by omega) hS.1
    have h4 := Nat.mul_le_mul (show 1 ≤ fMag s by omega) h3
    have h5 : (9007199254740992 : Nat) * 9007199254740992 ≤ 2 ^ 110 := by decide
    rw [Nat.one_mul] at h4
    exact Nat.le_trans h5 h4)
  obtain ⟨k1, k2⟩ := stk_sq hroot hbig
  -- its value
  have hW : ((4 * (fMag s * 2 ^ sqS (fPl s)) : Nat) : Rat) * P2 (fPl s - sqS (fPl s) - 2) = W s := by
    have e := D_scale (fMag s) (fPl s) (sqS (fPl s) + 2)
    rw [show fMag s * 2 ^ (sqS (fPl s) + 2) = 4 * (fMag s * 2 ^ sqS (fPl s)) by rw [Nat.pow_add, show (2 : Nat) ^ 2 = 4 from rfl, ← Nat.mul_assoc, Nat.mul_comm], show fPl s - ((sqS (fPl s) + 2 : Nat) : Int) = fPl s - sqS (fPl s) - 2 by omega] at e
    exact e
  have hD : D (sqN (fMag s) (fPl s)) (sqP (fPl s)) * D (sqN (fMag s) (fPl s)) (sqP (fPl s)) = ((stk (fMag s * 2 ^ sqS (fPl s)) (isq (fMag s * 2 ^ sqS (fPl s))) * stk (fMag s * 2 ^ sqS (fPl s)) (isq (fMag s * 2 ^ sqS (fPl s))) : Nat) : Rat) * P2 (fPl s - sqS (fPl s) - 2) := by
    rw [D_mul]
    unfold D
    have e : sqP (fPl s) + sqP (fPl s) = fPl s - sqS (fPl s) - 2 := by unfold sqP; omega
    rw [e]; rfl
  have hP := Rat.le_of_lt (P2_pos (fPl s - sqS (fPl s) - 2))
  have m1 := Rat.mul_le_mul_of_nonneg_right k1 hP
  have m2 := Rat.mul_le_mul_of_nonneg_right k2 hP
  rw [← hD] at m1
  have m1' : D (sqN (fMag s) (fPl s)) (sqP (fPl s)) * D (sqN (fMag s) (fPl s)) (sqP (fPl s)) ≤ W s + W s * (2 * (1 / 9007199254740992)) := by
    rw [← hW]; grind
  have m2' : W s ≤ D (sqN (fMag s) (fPl s)) (sqP (fPl s)) * D (sqN (fMag s) (fPl s)) (sqP (fPl s)) + W s * (2 * (1 / 9007199254740992)) := by
    rw [hD, ← hW]; grind
  rw [hv] at hr ⊢
  obtain ⟨g1, g2⟩ := near_err' hr
  have hv0 := D_nonneg (sqN (fMag s) (fPl s)) (sqP (fPl s))
  generalize D (sqN (fMag s) (fPl s)) (sqP (fPl s)) = v at *
  have hv2 : v ≤ 1000 := by
    rcases Rat.le_total (a := v) (b := 1000) with h | h
    · exact h
    · have := rat_sq_le (by grind) h
      grind
  obtain ⟨n1, n2⟩ := eta_small
  obtain ⟨q1, q2⟩ := err_sqB hv0 hv2 (W_nonneg (nearR (sqN (fMag s) (fPl s)) (sqP (fPl s)))) n1 (by grind) g1 g2
  clear hW hD m1 m2 k1 k2 hroot hbig g1 g2
  generalize W (nearR (sqN (fMag s) (fPl s)) (sqP (fPl s))) = T at *
  generalize W s = w at *
  generalize P2 (-1075) = η at *
  have hT := rat_sq_nonneg T
  generalize T * T = TT at *
  generalize v * v = vv at *
  constructor <;> grind
theorem dz : dS 0 0 = Vb false ∧ dL 0 0 = wl [] ∧ dE 0 0 = Vi 0 := by
  refine ⟨by rw [dS_ok]; rfl, ?_, ?_⟩
  · unfold dL; rw [od_zero]; unfold bL; rw [show (0 : Int).natAbs = 0 from rfl, dig_zero]
  · unfold dE; simp [ev]
theorem W_sx (b : Nat) : DV (sx b) (fPl b) * DV (sx b) (fPl b) = W b * W b := by
  have h : (sx b : Int) * sx b = ((fMag b * fMag b : Nat) : Int) := by unfold sx sg; split <;> simp [Int.neg_mul_neg]
  rw [← DV_mul, h]
  unfold W
  rw [D_mul]
  unfold DV D
  rw [Rat.intCast_natCast]
theorem squares_loop {x : List Nat} (hx : Words x) (hl : x.length ≤ 1000) : ∀ (n : Nat) {i : Nat} {X E : Int}, i + n = x.length → DBs X E 2200 (2200 + i) → DV X E = sumA (fun i => W (el x i)) i →
    ∃ X' E', rounds (fun vs => lo162_1.dv (Vl x :: vs)) [Vi i, dS X E, dL X E, dE X E] = some (.y (.ext 0) [dS X' E', dL X' E', dE X' E']) ∧ DBs X' E' 2200 (2200 + x.length) ∧ DV X' E' = sumA (fun i => W (el x i)) x.length := by
  intro n
  induction n with
  | zero =>
    intro i X E hi hB hv
    have : i = x.length := by omega
    subst this
    refine ⟨X, E, rounds_exit ?_ (by simp), hB, hv⟩
    simp [lo162_1, TT.dv]
  | succ n ih =>
    intro i X E hi hB hv
    have hlt : i < x.length := by omega
    have e1 : (B.add .i64).den (Vi i) (Vi 1) = Vi (i + 1) := add_i (by omega) (by omega)
    have g1 := get_V (x := x) hlt
    have v1 := value_ok (hx.el i)
    have m1 := mulD_ok (DB.word (el x i)) (DB.word (el x i))
    have hm := (DBs.word (el x i)).mul (DBs.word (el x i))
    have a1 := addD_ok (hB.db (by omega) (by omega)) (hm.db (by omega) (by omega))
    have hB' := hB.add (hm.mono (E' := 2200) (T' := 2200 + i) (by omega) (by omega))
    obtain ⟨X', E', h1, h2, h3⟩ := ih (i := i + 1) (X := dadd X E (sx (el x i) * sx (el x i)) (fPl (el x i) + fPl (el x i))) (E := min E (fPl (el x i) + fPl (el x i))) (by omega) hB' (by
      rw [DV_dadd, hv, DV_mul, W_sx]; rfl)
    refine ⟨X', E', Eq.trans (rounds_cont ?_) h1, h2, h3⟩
    simp [lo162_1, TT.dv, hlt, e1, g1, v1, m1, a1]
theorem squares_ok {x : List Nat} (hx : Words x) (hl : x.length ≤ 1000) : ∃ X E, val 162 [Vl x] = some [dS X E, dL X E, dE X E] ∧ DBs X E 2200 (2200 + x.length) ∧ DV X E = sumA (fun i => W (el x i)) x.length := by
  obtain ⟨X, E, h1, h2, h3⟩ := squares_loop hx hl x.length (i := 0) (X := 0) (E := 0) (by omega) ⟨by omega, by omega, by rw [show (0 : Int).natAbs = 0 from rfl, bl_zero]; omega⟩ (by unfold DV sumA; rw [Rat.intCast_zero]; exact Rat.zero_mul _)
  refine ⟨X, E, val_of tab162 ?_, h2, h3⟩
  obtain ⟨z1, z2, z3⟩ := dz
  rw [z1, z2, z3, show ((0 : Nat) : Int) = 0 from rfl, wl_nil_V] at h1
  simp [tr162, TT.dv, KS.dv, h1]
/-- Near: two exact numbers that differ by at most a part in 2^k of the second. -/
theorem near_d_ok {X E Y F : Int} {e T : Nat} (hX : DBs X E e T) (hY : DBs Y F e T) (he : e ≤ 10000000) (hT : T ≤ 10000000) {k : Int} (hk : 0 ≤ k ∧ k ≤ 1000) (h1 : DV X E ≤ DV Y F + DV Y F * P2 (-k)) (h2 : DV Y F ≤ DV X E + DV Y F * P2 (-k)) :
    val 157 [dS X E, dL X E, dE X E, dS Y F, dL Y F, dE Y F, Vi k] = some [Vb true] := by
  refine val_of tab157 ?_
  have s1 := subD_ok (hX.db (by omega) (by omega)) (hY.db (by omega) (by omega))
  have hd := hX.add hY.neg
  have hv := DV_dadd X E (-Y) F
  rw [DV_neg] at hv
  have e1 : (B.sub .i64).den (Vi 0) (Vi k) = Vi (-k) := by rw [sub_i (by omega) (by omega)]; exact congrArg Vi (by omega)
  have sc := scaleD_ok (hY.db (by omega) (by omega)) (k := -k) (by omega)
  have hsc := hY.scale (k := -k) 1000 (by omega)
  have hscd := hsc.db (by omega) (by omega)
  have hvs := DV_scale Y F (-k)
  generalize dadd X E (-Y) F = d at *
  generalize min E F = f at *
  have hng := negD_ok (hd.db (by omega) (by omega))
  have c1 := compareD_ok (hd.db (by omega) (by omega)) hscd
  have c2 := compareD_ok (hd.neg.db (by omega) (by omega)) hscd
  have hs := dS_ok d f
  by_cases hneg : d < 0
  · have hc : dcmp (-d) f Y (F + -k) ≤ 0 := by
      rw [dcmp_le, DV_neg, hv, hvs]; grind
    generalize dcmp (-d) f Y (F + -k) = z at *
    generalize dL d f = d2 at *
    generalize dE d f = d3 at *
    generalize dS (-d) f = n1 at *
    generalize dL (-d) f = n2 at *
    generalize dE (-d) f = n3 at *
    rw [hs, decide_eq_true hneg] at s1 hng
    clear c1 hv hvs hsc hscd hd hs
    simp [tr157, TT.dv, KS.dv, s1, hng, e1, sc, c2, hc]
  · have hc : dcmp d f Y (F + -k) ≤ 0 := by
      rw [dcmp_le, hv, hvs]; grind
    generalize dcmp d f Y (F + -k) = z at *
    generalize dL d f = d2 at *
    generalize dE d f = d3 at *
    rw [hs, decide_eq_false hneg] at s1 c1
    clear c2 hv hvs hsc hscd hd hs hng
    simp [tr157, TT.dv, KS.dv, s1, e1, sc, c1, hc]
end Go.Proofs.Ytcjhfgjgmkfmnaa.Dx

namespace Go.Proofs.Ytcjhfgjgmkfmnaa.Dx
open Go

theorem quo_q {m n : Nat} (hm : m ≠ 0) (hn : n ≠ 0) (h : 54 + n.log2 ≥ m.log2) : 2 ^ 53 ≤ m * 2 ^ quoK m n / n := by
  have hk : quoK m n = 54 + n.log2 - m.log2 := rfl
  rw [Nat.le_div_iff_mul_le (Nat.pos_of_ne_zero hn)]
  have h1 := Nat.mul_le_mul_right (2 ^ quoK m n) (Nat.log2_self_le hm)
  rw [← Nat.pow_add] at h1
  have h2 : 2 ^ 53 * n ≤ 2 ^ 53 * 2 ^ (n.log2 + 1) := Nat.mul_le_mul_left _ (Nat.le_of_lt Nat.lt_log2_self)
  rw [← Nat.pow_add] at h2
  rw [show m.log2 + quoK m n = 53 + (n.log2 + 1) by rw [hk]; omega] at h1
  exact Nat.le_trans h2 h1
/-- The quotient's digits: times the divisor they are the dividend but for a part in 2^54. -/
theorem quo_val {m n : Nat} (hm : m ≠ 0) (hn : n ≠ 0) (hm2 : m < 9007199254740992) (i j : Int) :
    D (quoN m n (quoK m n)) (i - j - quoK m n - 1) * D n j ≤ D m i + D m i * (1 / 18014398509481984) ∧ D m i ≤ D (quoN m n (quoK m n)) (i - j - quoK m n - 1) * D n j + D m i * (1 / 18014398509481984) := by
  have hlm : m.log2 ≤ 52 := by have := (Nat.log2_lt hm).2 (show m < 2 ^ 53 from hm2); omega
  have hq := quo_q hm hn (by omega)
  generalize hK : quoK m n = K at *
  have h1 := Nat.div_add_mod (m * 2 ^ K) n
  have h2 := Nat.mod_lt (m * 2 ^ K) (Nat.pos_of_ne_zero hn)
  have key : quoN m n K * n ≤ 2 * (m * 2 ^ K) + n ∧ 2 * (m * 2 ^ K) ≤ quoN m n K * n + n ∧ 18014398509481984 * n ≤ 2 * (m * 2 ^ K) := by
    unfold quoN
    have h3 : 9007199254740992 * n ≤ m * 2 ^ K / n * n := Nat.mul_le_mul_right n hq
    rw [Nat.mul_comm n] at h1
    generalize m * 2 ^ K = M at *
    have e1 : (2 * (M / n) + (decide (M % n ≠ 0)).toNat) * n = 2 * (M / n * n) + (decide (M % n ≠ 0)).toNat * n := by rw [Nat.add_mul, Nat.mul_assoc]
    rw [e1]
    generalize M / n * n = qn at *
    by_cases hr : M % n = 0
    · simp only [hr, ne_eq, not_true_eq_false, decide_false, Bool.toNat_false, Nat.zero_mul]; omega
    · simp only [hr, ne_eq, not_false_eq_true, decide_true, Bool.toNat_true, Nat.one_mul]; omega
  obtain ⟨k1, k2, k3⟩ := key
  have hM : ((2 * (m * 2 ^ K) : Nat) : Rat) * P2 (i - K - 1) = D m i := by
    have e := D_scale m i (K + 1)
    rw [show m * 2 ^ (K + 1) = 2 * (m * 2 ^ K) by rw [Nat.pow_succ, ← Nat.mul_assoc, Nat.mul_comm], show i - ((K + 1 : Nat) : Int) = i - K - 1 by omega] at e
    exact e
  have hQ : D (quoN m n K) (i - j - K - 1) * D n j = ((quoN m n K * n : Nat) : Rat) * P2 (i - K - 1) := by
    rw [D_mul]; unfold D; exact congrArg _ (congrArg P2 (by omega))
  have r1 : ((quoN m n K * n : Nat) : Rat) ≤ ((2 * (m * 2 ^ K) + n : Nat) : Rat) := Rat.natCast_le_natCast.2 k1
  have r2 : ((2 * (m * 2 ^ K) : Nat) : Rat) ≤ ((quoN m n K * n + n : Nat) : Rat) := Rat.natCast_le_natCast.2 k2
  have r3 : ((18014398509481984 * n : Nat) : Rat) ≤ ((2 * (m * 2 ^ K) : Nat) : Rat) := Rat.natCast_le_natCast.2 k3
  rw [Rat.natCast_add] at r1 r2
  rw [Rat.natCast_mul 18014398509481984 n, show ((18014398509481984 : Nat) : Rat) = 18014398509481984 from rfl] at r3
  rw [hQ, ← hM]
  generalize ((quoN m n K * n : Nat) : Rat) = z at *
  generalize ((2 * (m * 2 ^ K) : Nat) : Rat) = y at *
  generalize (n : Rat) = w at *
  have hP := Rat.le_of_lt (P2_pos (i - K - 1))
  have s1 : z ≤ y + y * (1 / 18014398509481984) := by grind
  have s2 : y ≤ z + y * (1 / 18014398509481984) := by grind
  have t1 := Rat.mul_le_mul_of_nonneg_right s1 hP
  have t2 := Rat.mul_le_mul_of_nonneg_right s2 hP
  constructor <;> grind
/-- A quotient of two numbers, rounded. -/
theorem div_err {a b : Nat} (ha : a < 18446744073709551616) (hb : b < 18446744073709551616) (fa : fPow a ≠ 2047) (fb : fPow b ≠ 2047) (h0 : fMag b ≠ 0) (h1 : W a ≤ 4 * W b) (hb1 : W b ≤ 16) :
    fPow (divV a b) ≠ 2047 ∧ (fMag a ≠ 0 → fNeg (divV a b) = (fNeg a != fNeg b)) ∧ (fMag a = 0 → W (divV a b) = 0) ∧
    W (divV a b) * W b ≤ W a + W a * (2 * (1 / 9007199254740992)) + 16 * P2 (-1075) ∧ W a ≤ W (divV a b) * W b + W a * (2 * (1 / 9007199254740992)) + 16 * P2 (-1075) := by
  obtain ⟨n1, n2⟩ := eta_small
  have hWa := W_nonneg a
  have hWb := W_nonneg b
  have zb : ¬ zeroB b := fun h => h0 h.1
  by_cases hz : fMag a = 0
  · have za : zeroB a := (zeroB_mag fa).2 hz
    have hv : divV a b = sgn (fNeg a != fNeg b) 0 := by
      unfold divV
      rw [if_neg (by simp [fin_nan fa, fin_nan fb]), if_neg (fin_inf fa), if_neg (fin_inf fb), if_neg zb, if_pos za]
    have hm : fMag (divV a b) = 0 := by rw [hv]; cases (fNeg a != fNeg b) <;> decide
    have hp : fPow (divV a b) ≠ 2047 := by rw [hv]; cases (fNeg a != fNeg b) <;> decide
    rw [W_zero_of hm, W_zero_of hz]
    exact ⟨hp, fun h => absurd hz h, fun _ => rfl, by grind, by grind⟩
  · have za : ¬ zeroB a := fun h => hz h.1
    have hv : divV a b = nearV (fNeg a != fNeg b) (quoN (fMag a) (fMag b) (quoK (fMag a) (fMag b))) (fPl a - fPl b - quoK (fMag a) (fMag b) - 1) := by
      unfold divV
      rw [if_neg (by simp [fin_nan fa, fin_nan fb]), if_neg (fin_inf fa), if_neg (fin_inf fb), if_neg zb, if_neg za]
    obtain ⟨q1, q2⟩ := quo_val hz h0 (fMag_lt a) (fPl a) (fPl b)
    rw [show D (fMag a) (fPl a) = W a from rfl, show D (fMag b) (fPl b) = W b from rfl] at q1 q2
    generalize hN : quoN (fMag a) (fMag b) (quoK (fMag a) (fMag b)) = N at *
    generalize hE : fPl a - fPl b - quoK (fMag a) (fMag b) - 1 = E at *
    have hbpos : 0 < W b := Rat.mul_pos (by have : 0 < fMag b := Nat.pos_of_ne_zero h0; exact Rat.natCast_pos.2 this) (P2_pos _)
    have hD5 : D N E ≤ 5 := by
      have : D N E * W b ≤ 5 * W b := by grind
      exact Rat.le_of_mul_le_mul_right this hbpos
    have hf : nearR N E < infR := near_fin (by
      have h8 : (8 : Rat) = P2 ((3 : Nat) : Int) := by rw [P2_nat]; rfl
      have : D N E ≤ P2 ((3 : Nat) : Int) := by rw [← h8]; grind
      exact Rat.le_trans this (P2_mono (by omega)))
    obtain ⟨g1, g2⟩ := near_err' hf
    have hWn : W (divV a b) = W (nearR N E) := by rw [hv, ← W_abs, absV_near]
    refine ⟨by rw [hv]; exact fin_near hf, fun _ => by rw [hv]; exact word_neg _ _ _, fun h => absurd h hz, ?_, ?_⟩
    · rw [hWn]
      have m1 := Rat.mul_le_mul_of_nonneg_right g1 hWb
      have m2 : P2 (-1075) * W b ≤ P2 (-1075) * 16 := Rat.mul_le_mul_of_nonneg_left hb1 n1
      grind
    · rw [hWn]
      have m1 := Rat.mul_le_mul_of_nonneg_right g2 hWb
      have m2 : P2 (-1075) * W b ≤ P2 (-1075) * 16 := Rat.mul_le_mul_of_nonneg_left hb1 n1
      grind
end Go.Proofs.Ytcjhfgjgmkfmnaa.Dx

namespace Go.Proofs.Ytcjhfgjgmkfmnaa.Dx
open Go

theorem err_sqC {a T η : Rat} (ha : 0 ≤ a) (ha2 : a ≤ 1000) (hT : 0 ≤ T) (hη : 0 ≤ η) (hη1 : η ≤ 1 / 1000000) (h1 : T ≤ a + a * (2 * (1 / 9007199254740992)) + η) (h2 : a ≤ T + a * (2 * (1 / 9007199254740992)) + η) :
    T * T ≤ a * a + 5 * (1 / 9007199254740992) * (a * a) + 5000 * η ∧ a * a ≤ T * T + 5 * (1 / 9007199254740992) * (a * a) + 5000 * η := by
  have e1 : a * η ≤ 1000 * η := Rat.mul_le_mul_of_nonneg_right ha2 hη
  have e0 : 0 ≤ a * η := Rat.mul_nonneg ha hη
  have e2 : η * η ≤ η := by
    have := Rat.mul_le_mul_of_nonneg_right hη1 hη
    grind
  have e3 := Rat.mul_nonneg hη hη
  have e4 := Rat.mul_nonneg ha ha
  constructor
  · have := rat_sq_le hT h1
    grind
  · have e5 : a * T ≤ a * (a + a * (2 * (1 / 9007199254740992)) + η) := Rat.mul_le_mul_of_nonneg_left h1 ha
    have e6 : a * a ≤ a * (T + a * (2 * (1 / 9007199254740992)) + η) := Rat.mul_le_mul_of_nonneg_left h2 ha
    have e7 : T * a ≤ T * (T + a * (2 * (1 / 9007199254740992)) + η) := Rat.mul_le_mul_of_nonneg_left h2 hT
    have e8 : T * η ≤ (a + a * (2 * (1 / 9007199254740992)) + η) * η := Rat.mul_le_mul_of_nonneg_right h1 hη
    grind
/-- The values a, b of what is turned, n of the root, C, S of the turn. -/
structure TurnE (f g : Nat) (k : Int) (a b : Rat) : Prop where
  hk : -400 ≤ k ∧ k < 400
  ea : W f = a * P2 k
  eb : W g = b * P2 k
  a0 : 0 ≤ a
  b0 : 0 ≤ b
  a2 : a ≤ 2
  b2 : b ≤ 2
  A1 : 1 ≤ a * a + b * b
  nf : tN f g < infR
  n1 : 1 / 2 ≤ W (tN f g)
  n16 : W (tN f g) ≤ 16
  up : W (tN f g) * W (tN f g) ≤ (a * a + b * b) + 10 * (1 / 9007199254740992) * (a * a + b * b)
  lo : a * a + b * b ≤ W (tN f g) * W (tN f g) + 10 * (1 / 9007199254740992) * (a * a + b * b)
  cf : fPow (turnC f g) ≠ 2047
  sf : fPow (turnS f g) ≠ 2047
  cn : fNeg (turnC f g) = fNeg f
  sn : fNeg (turnS f g) = fNeg g
  cu : W (turnC f g) * W (tN f g) ≤ a + a * (2 * (1 / 9007199254740992)) + 16 * P2 (-1075)
  cl : a ≤ W (turnC f g) * W (tN f g) + a * (2 * (1 / 9007199254740992)) + 16 * P2 (-1075)
  su : W (turnS f g) * W (tN f g) ≤ b + b * (2 * (1 / 9007199254740992)) + 16 * P2 (-1075)
  sl : b ≤ W (turnS f g) * W (tN f g) + b * (2 * (1 / 9007199254740992)) + 16 * P2 (-1075)
  rf : fPow (turnR f g) ≠ 2047
  rn : fNeg (turnR f g) = false
  er : W (turnR f g) = W (tN f g) * P2 k
theorem sq_err {t : Nat} (h : fPow t ≠ 2047) (h2 : W t ≤ 2) : W (mulV t t) ≤ W t * W t + W t * W t * (1 / 9007199254740992) + P2 (-1075) ∧ W t * W t ≤ W (mulV t t) + W t * W t * (1 / 9007199254740992) + P2 (-1075) := by
  obtain ⟨q1, q2, q3⟩ := sq_le4 h h2
  obtain ⟨s1, s2⟩ := sq_part h
  rw [s1] at q2 ⊢
  have := near_err' q2
  rwa [s2] at this
theorem turnE {f g : Nat} (hf : f < 18446744073709551616) (hg : g < 18446744073709551616) (pf : fPow f ≠ 2047) (pg : fPow g ≠ 2047) (mf : fMag f ≠ 0) (mg : fMag g ≠ 0)
    (ef : -400 ≤ expB f ∧ expB f < 400) (eg : -400 ≤ expB g ∧ expB g < 400) : ∃ k a b, TurnE f g k a b := by
  have nf := normal_of_exp pf mf (by omega)
  have ng := normal_of_exp pg mg (by omega)
  -- the greater one
  obtain ⟨M, hM, hMf, hMg⟩ : ∃ M, M = max (absV f) (absV g) ∧ W f ≤ W M ∧ W g ≤ W M := by
    refine ⟨_, rfl, ?_, ?_⟩
    · rw [← W_abs f, W_le (absV_lt _) (by have := absV_lt f; have := absV_lt g; omega)]; omega
    · rw [← W_abs g, W_le (absV_lt _) (by have := absV_lt f; have := absV_lt g; omega)]; omega
  have hkk : tK f g = expB M := by rw [hM]; rfl
  have hMor : M = absV f ∨ M = absV g := by omega
  obtain ⟨hMp, hM0, hMe, hMone⟩ : fPow M ≠ 2047 ∧ fMag M ≠ 0 ∧ (-400 ≤ expB M ∧ expB M < 400) ∧ (W M = W f ∨ W M = W g) := by
    rcases hMor with h | h
    · obtain ⟨f1, f2, f3, f4⟩ := fields_abs f
      rw [← h] at f1 f2 f3
      refine ⟨by rw [f3]; exact pf, by rw [f1]; exact mf, ?_, .inl (by rw [h, W_abs])⟩
      have : expB M = expB f := by unfold expB; rw [f1, f2, f3]
      rw [this]; exact ef
    · obtain ⟨f1, f2, f3, f4⟩ := fields_abs g
      rw [← h] at f1 f2 f3
      refine ⟨by rw [f3]; exact pg, by rw [f1]; exact mg, ?_, .inr (by rw [h, W_abs])⟩
      have : expB M = expB g := by unfold expB; rw [f1, f2, f3]
      rw [this]; exact eg
  obtain ⟨w1, w2⟩ := expB_W hMp hM0
  rw [← hkk] at w1 w2 hMe
  clear hM hMor
  have hcS : turnC f g = divV (scaleV f (-tK f g)) (tN f g) ∧ turnS f g = divV (scaleV g (-tK f g)) (tN f g) ∧ turnR f g = scaleV (tN f g) (tK f g) := by
    unfold turnC turnS turnR
    have z1 : ¬ zeroB g := fun h => mg h.1
    have z2 : ¬ zeroB f := fun h => mf h.1
    simp only [if_neg z1, if_neg z2]
    exact ⟨trivial, trivial, trivial⟩
  have hNdef : tN f g = sqrtV (addV (mulV (scaleV f (-tK f g)) (scaleV f (-tK f g))) (mulV (scaleV g (-tK f g)) (scaleV g (-tK f g)))) := rfl
  generalize tK f g = k at *
  have hPk := Rat.le_of_lt (P2_pos (-k))
  have hPP : P2 (-k) * P2 k = 1 := by rw [← P2_add, show -k + k = 0 by omega, P2_zero]
  obtain ⟨x1, x2, x3, x4, x5, x6⟩ := scale_exact hf nf pf (k := -k) (by omega) (by omega) (by omega)
  obtain ⟨y1, y2, y3, y4, y5, y6⟩ := scale_exact hg ng pg (k := -k) (by omega) (by omega) (by omega)
  have sa : fNeg (scaleV f (-k)) = fNeg f := by rw [scaleV_fin hf pf]; exact word_neg _ _ _
  have sb : fNeg (scaleV g (-k)) = fNeg g := by rw [scaleV_fin hg pg]; exact word_neg _ _ _
  have ltA := scaleV_lt hf (-k)
  have ltB := scaleV_lt hg (-k)
  generalize scaleV f (-k) = t at *
  generalize scaleV g (-k) = u at *
  have two : P2 (k + 1) * P2 (-k) = 2 := by rw [← P2_add, show k + 1 + -k = ((1 : Nat) : Int) by omega, P2_nat]; rfl
  have hone : P2 k * P2 (-k) = 1 := by rw [Rat.mul_comm]; exact hPP
  have ta2 : W t ≤ 2 := by
    rw [x5, ← two]; exact Rat.mul_le_mul_of_nonneg_right (Rat.le_trans hMf (Rat.le_of_lt w2)) hPk
  have ub2 : W u ≤ 2 := by
    rw [y5, ← two]; exact Rat.mul_le_mul_of_nonneg_right (Rat.le_trans hMg (Rat.le_of_lt w2)) hPk
  have hA1 : 1 ≤ W t * W t + W u * W u := by
    have h1 := Rat.mul_le_mul_of_nonneg_right w1 hPk
    rw [hone] at h1
    have p1 := rat_sq_nonneg (W t)
    have p2 := rat_sq_nonneg (W u)
    rcases hMone with h | h
    · rw [h, ← x5] at h1
      have := rat_sq_le (by grind) h1
      grind
    · rw [h, ← y5] at h1
      have := rat_sq_le (by grind) h1
      grind
  -- the sum of squares
  obtain ⟨q1, q2, q3⟩ := sq_le4 x3 ta2
  obtain ⟨r1, r2, r3⟩ := sq_le4 y3 ub2
  obtain ⟨eq1, eq2⟩ := sq_err x3 ta2
  obtain ⟨er1, er2⟩ := sq_err y3 ub2
  obtain ⟨N, p, hs1, hs2⟩ := add_pos q2 r2
  obtain ⟨w81, w82⟩ := W_int (c := 8) (by omega)
  have hle8 : addV (mulV t t) (mulV u u) ≤ nearR 8 0 := by
    rw [hs1]
    refine near_le w81 ?_
    rw [hs2, w82]
    show _ ≤ (8 : Rat)
    grind
  have hsf : addV (mulV t t) (mulV u u) < infR := Nat.lt_of_le_of_lt hle8 w81
  rw [hs1] at hsf
  obtain ⟨es1, es2⟩ := near_err' hsf
  rw [← hs1] at hsf es1 es2
  rw [hs2] at es1 es2
  obtain ⟨n1, n2⟩ := eta_small
  have hWs8 : W (addV (mulV t t) (mulV u u)) ≤ 8 := by
    have : W (addV (mulV t t) (mulV u u)) ≤ W (nearR 8 0) := by rw [W_le (by unfold infR at hsf; omega) (by decide)]; exact hle8
    rw [w82] at this; exact this
  generalize hss : addV (mulV t t) (mulV u u) = s at *
  have pA := rat_sq_nonneg (W t)
  have pB := rat_sq_nonneg (W u)
  have hWsl : 1 / 4 ≤ W s := by grind
  have hle256 : s ≤ nearR 256 0 := Nat.le_trans hle8 (by decide)
  have h16 : sqrtV (nearR 256 0) = 4625196817309499392 := by
    have h1 : nearR 256 0 = 4643211215818981376 := by decide
    rw [h1]
    have h2 := sqrt_sq (t := 4625196817309499392) (by decide) (by decide) (by decide) (by decide)
    rw [← h2]
    exact congrArg sqrtV (by decide)
  have hr16 : sqrtV s ≤ 4625196817309499392 := by rw [← h16]; exact sqrt_mono hle256 (by decide)
  have hrf : sqrtV s < infR := Nat.lt_of_le_of_lt hr16 (by decide)
  obtain ⟨v1, v2⟩ := root_err hsf hWsl (by grind) hrf
  rw [← hNdef] at hrf v1 v2 hr16
  have hn16 : W (tN f g) ≤ 16 := by
    have h1 : W 4625196817309499392 = 16 := by
      unfold W D
      rw [show fMag 4625196817309499392 = 2 ^ 52 from by decide, show fPl 4625196817309499392 = -48 from by decide, ← P2_nat, ← P2_add, show ((52 : Nat) : Int) + -48 = ((4 : Nat) : Int) by omega, P2_nat]; rfl
    rw [← h1, W_le (by unfold infR at hrf; omega) (by decide)]; exact hr16
  have hN0 := W_nonneg (tN f g)
  have hup : W (tN f g) * W (tN f g) ≤ (W t * W t + W u * W u) + 10 * (1 / 9007199254740992) * (W t * W t + W u * W u) := by
    generalize W (tN f g) * W (tN f g) = z at *
    generalize W t * W t = aa at *
    generalize W u * W u = bb at *
    grind
  have hlo : W t * W t + W u * W u ≤ W (tN f g) * W (tN f g) + 10 * (1 / 9007199254740992) * (W t * W t + W u * W u) := by
    generalize W (tN f g) * W (tN f g) = z at *
    generalize W t * W t = aa at *
    generalize W u * W u = bb at *
    grind
  have hNN : 1 / 2 ≤ W (tN f g) * W (tN f g) := by
    generalize W (tN f g) * W (tN f g) = z at *
    generalize W t * W t = aa at *
    generalize W u * W u = bb at *
    grind
  have hn1 : 1 / 2 ≤ W (tN f g) := by
    rcases Rat.le_total (a := 1 / 2) (b := W (tN f g)) with h | h
    · exact h
    · have := rat_sq_le hN0 h
      grind
  have hNge : ∀ z : Rat, 0 ≤ z → z * z ≤ W t * W t + W u * W u → z ≤ 4 * W (tN f g) := fun z hz hzz => by
    rcases Rat.le_total (a := z) (b := 4 * W (tN f g)) with h | h
    · exact h
    · have := rat_sq_le (by grind) h
      have e : 4 * W (tN f g) * (4 * W (tN f g)) = 16 * (W (tN f g) * W (tN f g)) := by grind
      rw [e] at this
      generalize W (tN f g) * W (tN f g) = y at *
      generalize W t * W t = aa at *
      generalize W u * W u = bb at *
      generalize z * z = zz at *
      grind
  obtain ⟨p1, p2, p3, p4⟩ := word_pos hrf
  have hNm : fMag (tN f g) ≠ 0 := fun h => by rw [W_zero_of h] at hn1; grind
  obtain ⟨d1, d2, d3, d4, d5⟩ := div_err ltA p3 x3 p1 hNm (hNge _ (W_nonneg t) (by grind)) hn16
  obtain ⟨e1, e2, e3, e4, e5⟩ := div_err ltB p3 y3 p1 hNm (hNge _ (W_nonneg u) (by grind)) hn16
  rw [← hcS.1] at d1 d2 d3 d4 d5
  rw [← hcS.2.1] at e1 e2 e3 e4 e5
  have hexpN : -2 ≤ expB (tN f g) ∧ expB (tN f g) ≤ 4 := by
    obtain ⟨z1, z2⟩ := expB_W p1 hNm
    have a1 : P2 (expB (tN f g)) ≤ P2 ((4 : Nat) : Int) := by rw [P2_nat]; exact Rat.le_trans z1 hn16
    rw [P2_le_iff] at a1
    have a2 : ¬ P2 (expB (tN f g) + 1) ≤ P2 (-2) := by
      rw [show P2 (-2) = 1 / 4 by decide +kernel]; grind
    rw [P2_le_iff] at a2
    omega
  obtain ⟨g1, g2, g3, g4, g5, g6⟩ := scale_exact p3 (normal_of_exp p1 hNm (by omega)) p1 (k := k) (by omega) (by omega) (by omega)
  rw [← hcS.2.2] at g1 g2 g3 g4 g5 g6
  refine ⟨k, W t, W u, ⟨by omega, ?_, ?_, W_nonneg t, W_nonneg u, ta2, ub2, hA1, hrf, hn1, hn16, hup, hlo, d1, e1, ?_, ?_, ?_, ?_, ?_, ?_, g3, ?_, g5⟩⟩
  · rw [x5, Rat.mul_assoc, hPP, Rat.mul_one]
  · rw [y5, Rat.mul_assoc, hPP, Rat.mul_one]
  · rw [d2 (by rw [x1]; exact mf), sa, p2]; cases fNeg f <;> rfl
  · rw [e2 (by rw [y1]; exact mg), sb, p2]; cases fNeg g <;> rfl
  · exact d4
  · exact d5
  · exact e4
  · exact e5
  · rw [hcS.2.2, scaleV_fin p3 p1, p2]; exact word_neg _ _ _
end Go.Proofs.Ytcjhfgjgmkfmnaa.Dx

namespace Go.Proofs.Ytcjhfgjgmkfmnaa.Dx
open Go

/-- A word's value, with its sign. -/
def sv (b : Nat) : Rat := DV (sx b) (fPl b)
theorem sv_pos {b : Nat} (h : fNeg b = false) : sv b = W b := DV_sx h
theorem sv_neg {b : Nat} (h : fNeg b = true) : sv b = -W b := by
  unfold sv DV sx sg W D; rw [h]; simp only [if_true]; rw [Rat.intCast_neg, Rat.intCast_natCast]; grind
theorem sv_zero {b : Nat} (h : fMag b = 0) : sv b = 0 := by
  cases hn : fNeg b
  · rw [sv_pos hn, W_zero_of h]
  · rw [sv_neg hn, W_zero_of h]; grind
theorem sv_minus {b : Nat} (hb : b < 18446744073709551616) : sv (fMinus b) = -sv b := by
  obtain ⟨m1, m2, m3, m4⟩ := minus_neg hb
  have hW : W (fMinus b) = W b := by unfold W fMag fPl; rw [m2, m3]
  cases hn : fNeg b
  · rw [hn] at m1; rw [sv_neg m1, sv_pos hn, hW]
  · rw [hn] at m1; rw [sv_pos m1, sv_neg hn, hW]; grind
def sumP (p : Nat → Rat) : Nat → Rat
  | 0 => 0
  | n + 1 => sumP p n + p n
theorem W_one : W 4607182418800017408 = 1 := by
  unfold W D
  rw [show fMag 4607182418800017408 = 2 ^ 52 from by decide, show fPl 4607182418800017408 = -52 from by decide, ← P2_nat, ← P2_add, show ((52 : Nat) : Int) + -52 = 0 by omega, P2_zero]
theorem p48 : P2 (-48) = 1 / 281474976710656 := by decide +kernel
structure TurnL (f g c s r : Nat) : Prop where
  cl : c < 18446744073709551616
  sl : s < 18446744073709551616
  rl : r < 18446744073709551616
  cf : fPow c ≠ 2047
  sf : fPow s ≠ 2047
  rf : fPow r ≠ 2047
  one1 : W c * W c + W s * W s ≤ 1 + 1 * P2 (-48)
  one2 : 1 ≤ W c * W c + W s * W s + 1 * P2 (-48)
  r1 : sv c * sv f + sv s * sv g - sv r ≤ W r * P2 (-48)
  r2 : -(W r * P2 (-48)) ≤ sv c * sv f + sv s * sv g - sv r
  z1 : sv c * sv g + -sv s * sv f ≤ W r * P2 (-48)
  z2 : -(W r * P2 (-48)) ≤ sv c * sv g + -sv s * sv f
theorem turn_real {f g : Nat} {k : Int} {a b : Rat} (T : TurnE f g k a b) :
    let C := W (turnC f g); let S := W (turnS f g); let N := W (tN f g)
    (C * C + S * S ≤ 1 + 1 * P2 (-48) ∧ 1 ≤ C * C + S * S + 1 * P2 (-48)) ∧ (C * a + S * b ≤ N + N * P2 (-48) ∧ N ≤ C * a + S * b + N * P2 (-48)) ∧ (C * b ≤ S * a + N * P2 (-48) ∧ S * a ≤ C * b + N * P2 (-48)) := by
  intro C S N
  rw [p48]
  obtain ⟨n1, n2⟩ := eta_small
  have hC : 0 ≤ C := W_nonneg _
  have hS : 0 ≤ S := W_nonneg _
  have a0 := T.a0
  have b0 := T.b0
  have a2 := T.a2
  have b2 := T.b2
  have A1 := T.A1
  have hn1 : 1 / 2 ≤ N := T.n1
  have hup : N * N ≤ (a * a + b * b) + 10 * (1 / 9007199254740992) * (a * a + b * b) := T.up
  have hlo : a * a + b * b ≤ N * N + 10 * (1 / 9007199254740992) * (a * a + b * b) := T.lo
  have cu : C * N ≤ a + a * (2 * (1 / 9007199254740992)) + 16 * P2 (-1075) := T.cu
  have cl : a ≤ C * N + a * (2 * (1 / 9007199254740992)) + 16 * P2 (-1075) := T.cl
  have su : S * N ≤ b + b * (2 * (1 / 9007199254740992)) + 16 * P2 (-1075) := T.su
  have sl : b ≤ S * N + b * (2 * (1 / 9007199254740992)) + 16 * P2 (-1075) := T.sl
  clear_value C S N
  clear T
  generalize P2 (-1075) = η at *
  have hN0 : 0 < N := by grind
  have hNN : 0 < N * N := Rat.mul_pos hN0 hN0
  have hCN : 0 ≤ C * N := Rat.mul_nonneg hC (by grind)
  have hSN : 0 ≤ S * N := Rat.mul_nonneg hS (by grind)
  have haa := Rat.mul_nonneg a0 a0
  have hbb := Rat.mul_nonneg b0 b0
  refine ⟨?_, ?_, ?_⟩
  · obtain ⟨e1, e2⟩ := err_sqC a0 (by grind) hCN (η := 16 * η) (by grind) (by grind) cu cl
    obtain ⟨f1, f2⟩ := err_sqC b0 (by grind) hSN (η := 16 * η) (by grind) (by grind) su sl
    have g1 : C * N * (C * N) = C * C * (N * N) := by grind
    have g2 : S * N * (S * N) = S * S * (N * N) := by grind
    rw [g1] at e1 e2
    rw [g2] at f1 f2
    generalize N * N = M at *
    generalize a * a = aa at *
    generalize b * b = bb at *
    constructor
    · refine Rat.le_of_mul_le_mul_right (c := M) ?_ hNN
      have : (C * C + S * S) * M = C * C * M + S * S * M := by grind
      rw [this]
      generalize C * C * M = x at *
      generalize S * S * M = y at *
      grind
    · refine Rat.le_of_mul_le_mul_right (c := M) ?_ hNN
      have : (C * C + S * S + 1 * (1 / 281474976710656)) * M = C * C * M + S * S * M + M * (1 / 281474976710656) := by grind
      rw [this]
      generalize C * C * M = x at *
      generalize S * S * M = y at *
      grind
  · have e1 := Rat.mul_le_mul_of_nonneg_right cu a0
    have e2 := Rat.mul_le_mul_of_nonneg_right cl a0
    have f1 := Rat.mul_le_mul_of_nonneg_right su b0
    have f2 := Rat.mul_le_mul_of_nonneg_right sl b0
    have ha : a * η ≤ 2 * η := Rat.mul_le_mul_of_nonneg_right a2 n1
    have hb : b * η ≤ 2 * η := Rat.mul_le_mul_of_nonneg_right b2 n1
    constructor
    · refine Rat.le_of_mul_le_mul_right (c := N) ?_ hN0
      have : (C * a + S * b) * N = C * N * a + S * N * b := by grind
      rw [this]
      have : (N + N * (1 / 281474976710656)) * N = N * N + N * N * (1 / 281474976710656) := by grind
      rw [this]
      generalize N * N = M at *
      grind
    · refine Rat.le_of_mul_le_mul_right (c := N) ?_ hN0
      have : (C * a + S * b + N * (1 / 281474976710656)) * N = C * N * a + S * N * b + N * N * (1 / 281474976710656) := by grind
      rw [this]
      generalize N * N = M at *
      grind
  · have e1 := Rat.mul_le_mul_of_nonneg_right cu b0
    have e2 := Rat.mul_le_mul_of_nonneg_right cl b0
    have f1 := Rat.mul_le_mul_of_nonneg_right su a0
    have f2 := Rat.mul_le_mul_of_nonneg_right sl a0
    have ha : a * η ≤ 2 * η := Rat.mul_le_mul_of_nonneg_right a2 n1
    have hb : b * η ≤ 2 * η := Rat.mul_le_mul_of_nonneg_right b2 n1
    have hab := rat_sq_nonneg (a - b)
    have hab2 : 2 * (a * b) ≤ a * a + b * b := by grind
    have hab0 := Rat.mul_nonneg a0 b0
    constructor
    · refine Rat.le_of_mul_le_mul_right (c := N) ?_ hN0
      have : C * b * N = C * N * b := by grind
      rw [this]
      have : (S * a + N * (1 / 281474976710656)) * N = S * N * a + N * N * (1 / 281474976710656) := by grind
      rw [this]
      generalize N * N = M at *
      grind
    · refine Rat.le_of_mul_le_mul_right (c := N) ?_ hN0
      have : S * a * N = S * N * a := by grind
      rw [this]
      have : (C * b + N * (1 / 281474976710656)) * N = C * N * b + N * N * (1 / 281474976710656) := by grind
      rw [this]
      generalize N * N = M at *
      grind
theorem sv_cases (b : Nat) : (fNeg b = false ∧ sv b = W b) ∨ (fNeg b = true ∧ sv b = -W b) := by
  cases h : fNeg b
  · exact .inl ⟨rfl, sv_pos h⟩
  · exact .inr ⟨rfl, sv_neg h⟩
theorem sv_of {b : Nat} {s : Bool} (h : fNeg b = s) : sv b = if s then -W b else W b := by
  cases s
  · exact sv_pos h
  · exact sv_neg h
theorem sv_one : sv 4607182418800017408 = 1 := by rw [sv_pos (by decide), W_one]
theorem turnL {f g : Nat} (hf : f < 18446744073709551616) (hg : g < 18446744073709551616) (hT : TameP [f, g] 400) : TurnL f g (turnC f g) (turnS f g) (turnR f g) := by
  obtain ⟨pf, ef⟩ := hT 0 (by simp)
  obtain ⟨pg, eg⟩ := hT 1 (by simp)
  rw [show el [f, g] 0 = f from rfl] at pf ef
  rw [show el [f, g] 1 = g from rfl] at pg eg
  have hp := Rat.le_of_lt (P2_pos (-48))
  have w0 : W 0 = 0 := W_zero_of (by decide)
  have s0 : sv 0 = 0 := sv_zero (by decide)
  by_cases zg : zeroB g
  · have e1 : turnC f g = 4607182418800017408 := by unfold turnC; rw [if_pos zg]
    have e2 : turnS f g = 0 := by unfold turnS; rw [if_pos zg]
    have e3 : turnR f g = f := by unfold turnR; rw [if_pos zg]
    have hm := Rat.mul_nonneg (W_nonneg f) hp
    rw [e1, e2, e3]
    refine ⟨by decide, by decide, hf, by decide, by decide, pf, ?_, ?_, ?_, ?_, ?_, ?_⟩
    · rw [W_one, w0]; grind
    · rw [W_one, w0]; grind
    · rw [sv_one, s0]; grind
    · rw [sv_one, s0]; grind
    · rw [sv_one, s0, sv_zero zg.1]; grind
    · rw [sv_one, s0, sv_zero zg.1]; grind
  by_cases zf : zeroB f
  · have e1 : turnC f g = 0 := by unfold turnC; rw [if_neg zg, if_pos zf]
    have e2 : turnS f g = 4607182418800017408 := by unfold turnS; rw [if_neg zg, if_pos zf]
    have e3 : turnR f g = g := by unfold turnR; rw [if_neg zg, if_pos zf]
    have hm := Rat.mul_nonneg (W_nonneg g) hp
    rw [e1, e2, e3]
    refine ⟨by decide, by decide, hg, by decide, by decide, pg, ?_, ?_, ?_, ?_, ?_, ?_⟩
    · rw [W_one, w0]; grind
    · rw [W_one, w0]; grind
    · rw [sv_one, s0]; grind
    · rw [sv_one, s0]; grind
    · rw [sv_one, s0, sv_zero zf.1]; grind
    · rw [sv_one, s0, sv_zero zf.1]; grind
  have mf : fMag f ≠ 0 := fun h => zf ((zeroB_mag pf).2 h)
  have mg : fMag g ≠ 0 := fun h => zg ((zeroB_mag pg).2 h)
  obtain ⟨k, a, b, T⟩ := turnE hf hg pf pg mf mg (ef.resolve_left mf) (eg.resolve_left mg)
  obtain ⟨⟨o1, o2⟩, ⟨u1, u2⟩, v1, v2⟩ := turn_real T
  have lc : turnC f g < 18446744073709551616 := by unfold turnC; rw [if_neg zg, if_neg zf]; exact divV_lt
  have ls : turnS f g < 18446744073709551616 := by unfold turnS; rw [if_neg zg, if_neg zf]; exact divV_lt
  have lr : turnR f g < 18446744073709551616 := by unfold turnR; rw [if_neg zg, if_neg zf]; exact scaleV_lt (tN_lt hf hg) _
  have hc := sv_of T.cn
  have hs := sv_of T.sn
  have hr := sv_pos T.rn
  have hf' := sv_of (b := f) rfl
  have hg' := sv_of (b := g) rfl
  rw [T.ea] at hf'
  rw [T.eb] at hg'
  have hP := Rat.le_of_lt (P2_pos k)
  have m1 := Rat.mul_le_mul_of_nonneg_right u1 hP
  have m2 := Rat.mul_le_mul_of_nonneg_right u2 hP
  have m3 := Rat.mul_le_mul_of_nonneg_right v1 hP
  have m4 := Rat.mul_le_mul_of_nonneg_right v2 hP
  refine ⟨lc, ls, lr, T.cf, T.sf, T.rf, o1, o2, ?_, ?_, ?_, ?_⟩
  all_goals
    rw [hc, hs, hf', hg', T.er]
    try rw [hr, T.er]
    generalize W (turnC f g) = C at *
    generalize W (turnS f g) = S at *
    generalize W (tN f g) = N at *
    generalize P2 k = P at *
    generalize P2 (-48) = e at *
    clear hc hs hr hf' hg' T o1 o2 u1 u2 v1 v2
    cases fNeg f <;> cases fNeg g <;> simp only [if_true, if_false, Bool.false_eq_true] <;> grind
theorem pair_V (a b : Nat) : B.cons.den (Vu a) (B.cons.den (Vu b) (Vl [])) = Vl [a, b] := rfl
theorem words2 {a b : Nat} (ha : a < 18446744073709551616) (hb : b < 18446744073709551616) : Words [a, b] := by
  intro x hx; simp at hx; rcases hx with rfl | rfl <;> assumption
end Go.Proofs.Ytcjhfgjgmkfmnaa.Dx

namespace Go.Proofs.Ytcjhfgjgmkfmnaa.Dx
open Go

/-- The place of row i, column k. -/
def ps (i c k : Nat) : Nat := i * c + k
theorem ps_lt {i c k r : Nat} (hi : i < r) (hk : k < c) : ps i c k < r * c := by
  unfold ps
  have h1 : (i + 1) * c ≤ r * c := Nat.mul_le_mul_right c hi
  rw [Nat.add_mul, Nat.one_mul] at h1
  omega
theorem ps_inj {i c k i' k' : Nat} (hk : k < c) (hk' : k' < c) (h : ps i c k = ps i' c k') : i = i' ∧ k = k' := by
  unfold ps at h
  have h1 : (i * c + k) / c = i := by rw [Nat.mul_comm, Nat.mul_add_div (by omega), Nat.div_eq_of_lt hk, Nat.add_zero]
  have h2 : (i' * c + k') / c = i' := by rw [Nat.mul_comm, Nat.mul_add_div (by omega), Nat.div_eq_of_lt hk', Nat.add_zero]
  have h3 : i = i' := by rw [← h1, ← h2, h]
  subst h3
  exact ⟨rfl, by omega⟩
theorem pos_i {i c k : Nat} (hi : i < 100) (hc : c ≤ 100) (hk : k ≤ 100) : (B.add .i64).den ((B.mul .i64).den (Vi i) (Vi c)) (Vi k) = Vi (ps i c k) := by
  have h1 : i * c ≤ 100 * 100 := Nat.mul_le_mul (by omega) hc
  have h2 : (i : Int) * c = ((i * c : Nat) : Int) := by rw [Int.natCast_mul]
  rw [mul_i (by rw [h2]; omega) (by rw [h2]; omega), h2, add_i (by omega) (by omega)]
  unfold ps
  exact congrArg Vi (by omega)
/-- Right matrices. -/
structure Mx (r c : Nat) (x : List Nat) : Prop where
  hr : r ≤ 6
  hc : c ≤ 6
  len : x.length = r * c
  w : Words x
theorem Mx.lt {r c : Nat} {x : List Nat} (h : Mx r c x) {i k : Nat} (hi : i < r) (hk : k < c) : ps i c k < x.length := by rw [h.len]; exact ps_lt hi hk
theorem Mx.small {r c : Nat} {x : List Nat} (h : Mx r c x) : x.length ≤ 36 := by
  rw [h.len]; exact Nat.mul_le_mul h.hr h.hc
theorem Mx.set {r c : Nat} {x : List Nat} (h : Mx r c x) {p v : Nat} (hv : v < 18446744073709551616) : Mx r c (x.set p v) := ⟨h.hr, h.hc, by rw [List.length_set, h.len], h.w.set hv⟩
def rightP (R C : Int) (x : List Nat) : Prop := 0 ≤ R ∧ R ≤ 6 ∧ 0 ≤ C ∧ C ≤ 6 ∧ (x.length : Int) = R * C
instance (R C : Int) (x : List Nat) : Decidable (rightP R C x) := by unfold rightP; exact inferInstance
theorem right_mx {R C : Int} {x : List Nat} (h : rightP R C x) (hw : Words x) : ∃ r c : Nat, R = r ∧ C = c ∧ Mx r c x := by
  obtain ⟨h1, h2, h3, h4, h5⟩ := h
  refine ⟨R.toNat, C.toNat, by omega, by omega, by omega, by omega, ?_, hw⟩
  have e1 : R = R.toNat := by omega
  have e2 : C = C.toNat := by omega
  rw [e1, e2, ← Int.natCast_mul] at h5
  omega
theorem mx_right {r c : Nat} {x : List Nat} (h : Mx r c x) : rightP r c x :=
  ⟨by omega, by have := h.hr; omega, by omega, by have := h.hc; omega, by rw [h.len, Int.natCast_mul]⟩
theorem size_ok (n : Int) : val 259 [Vi n] = some [Vb (decide (0 ≤ n ∧ n ≤ 6))] := by
  refine val_of tab259 ?_
  simp [tr259, TT.dv]
theorem small_mul {R C : Int} (h1 : 0 ≤ R ∧ R ≤ 6) (h2 : 0 ≤ C ∧ C ≤ 6) : (B.mul .i64).den (Vi R) (Vi C) = Vi (R * C) := by
  have h3 : R * C ≤ 6 * 6 := Int.mul_le_mul h1.2 h2.2 h2.1 (by omega)
  have h4 : 0 ≤ R * C := Int.mul_nonneg h1.1 h2.1
  exact mul_i (by omega) (by omega)
theorem check_ok (R C : Int) (x : List Nat) : val 246 [Vi R, Vi C, Vl x] = some [Vi (if rightP R C x then 0 else 1)] := by
  refine val_of tab246 ?_
  have s1 := size_ok R
  have s2 := size_ok C
  by_cases h1 : 0 ≤ R ∧ R ≤ 6
  · rw [decide_eq_true h1] at s1
    by_cases h2 : 0 ≤ C ∧ C ≤ 6
    · rw [decide_eq_true h2] at s2
      have hm := small_mul h1 h2
      by_cases h3 : (x.length : Int) = R * C
      · rw [if_pos (show rightP R C x from ⟨h1.1, h1.2, h2.1, h2.2, h3⟩)]
        simp [tr246, TT.dv, s1, s2, hm, h3]
      · rw [if_neg (show ¬ rightP R C x from fun h => h3 h.2.2.2.2)]
        simp [tr246, TT.dv, s1, s2, hm, h3]
    · rw [decide_eq_false h2] at s2
      rw [if_neg (show ¬ rightP R C x from fun h => h2 ⟨h.2.2.1, h.2.2.2.1⟩)]
      simp [tr246, TT.dv, s1, s2]
  · rw [decide_eq_false h1] at s1
    rw [if_neg (show ¬ rightP R C x from fun h => h1 ⟨h.1, h.2.1⟩)]
    simp [tr246, TT.dv, s1]
theorem right_ok10 (R C : Int) (x : List Nat) : val 172 [Vi R, Vi C, Vl x] = some [Vb (decide (rightP R C x))] := by
  refine val_of tab172 ?_
  by_cases h1 : 0 ≤ R ∧ R ≤ 6
  · by_cases h2 : 0 ≤ C ∧ C ≤ 6
    · have hm := small_mul h1 h2
      by_cases h3 : (x.length : Int) = R * C
      · rw [decide_eq_true (show rightP R C x from ⟨h1.1, h1.2, h2.1, h2.2, h3⟩)]
        simp [tr172, TT.dv, hm, h1.1, h1.2, h2.1, h2.2, h3]
      · rw [decide_eq_false (show ¬ rightP R C x from fun h => h3 h.2.2.2.2)]
        simp [tr172, TT.dv, hm, h1.1, h1.2, h2.1, h2.2, h3]
    · rw [decide_eq_false (show ¬ rightP R C x from fun h => h2 ⟨h.2.2.1, h.2.2.2.1⟩)]
      by_cases h3 : 0 ≤ C
      · have h4 : ¬ C ≤ 6 := fun h => h2 ⟨h3, h⟩
        simp [tr172, TT.dv, h1.1, h1.2, h3, h4]
      · simp [tr172, TT.dv, h1.1, h1.2, h3]
  · rw [decide_eq_false (show ¬ rightP R C x from fun h => h1 ⟨h.1, h.2.1⟩)]
    by_cases h3 : 0 ≤ R
    · have h4 : ¬ R ≤ 6 := fun h => h1 ⟨h3, h⟩
      simp [tr172, TT.dv, h3, h4]
    · simp [tr172, TT.dv, h3]
section
variable {r c : Nat} {x : List Nat} (h : Mx r c x)
include h
end
theorem rep_V (n a : Nat) : B.rep.den (Vi n) (Vu a) = Vl (List.replicate n a) := by
  show PV.l (List.replicate (Vi n).int.toNat (Vu a)) = _
  rw [int_I, Int.toNat_natCast, Vl, List.map_replicate]
section
variable {f r c : Nat} {caps : List PV} {g : Nat → Nat → Nat} (hr : r ≤ 6) (hc : c ≤ 6) (h : ∀ i k : Nat, i < r → k < c → val f (Vi i :: Vi k :: caps) = some [Vu (g i k)])
include hr hc h
end
theorem el_set (x : List Nat) (p v q : Nat) : el (x.set p v) q = if p = q ∧ p < x.length then v else el x q := by
  unfold el
  rw [List.getD_eq_getElem?_getD, List.getD_eq_getElem?_getD, List.getElem?_set]
  by_cases h : p = q
  · subst h
    by_cases h2 : p < x.length
    · simp [h2]
    · simp [h2, List.getElem?_eq_none (show x.length ≤ p by omega)]
  · simp [h]
end Go.Proofs.Ytcjhfgjgmkfmnaa.Dx

namespace Go.Proofs.Ytcjhfgjgmkfmnaa.Dx
open Go

section
variable {r c : Nat} {x : List Nat} (h : Mx r c x)
include h
end

def rowR (x : List Nat) (cc i k C S : Nat) : Nat → Nat → List Nat → List Nat
  | 0, _, m => m
  | n + 1, j, m => rowR x cc i k C S n (j + 1) ((m.set (ps i cc j) (addV (mulV C (el x (ps i cc j))) (mulV S (el x (ps k cc j))))).set (ps k cc j) (subV (mulV C (el x (ps k cc j))) (mulV S (el x (ps i cc j)))))
def rowV (x : List Nat) (cc i k C S : Nat) : List Nat := rowR x cc i k C S cc 0 x
theorem rowR_mx {x : List Nat} {r c i k C S : Nat} : ∀ (n j : Nat) {m : List Nat}, Mx r c m → Mx r c (rowR x c i k C S n j m)
  | 0, _, _, h => h
  | n + 1, j, m, h => rowR_mx n (j + 1) ((h.set (addV_lt mulV_lt mulV_lt)).set (subV_lt mulV_lt mulV_lt))
section
variable {r c : Nat} {x : List Nat} (h : Mx r c x) {C S : Nat} (hC : C < 18446744073709551616) (hS : S < 18446744073709551616) {i k : Nat} (hi : i < r) (hk : k < r)
include h hC hS hi hk
theorem rows_loop {x7 : PV} : ∀ (n : Nat) {j : Nat} {m : List Nat}, j + n = c → Mx r c m →
    rounds (fun vs => lo231_1.dv (Vi r :: Vi c :: Vl x :: Vi i :: Vi k :: Vu C :: Vu S :: x7 :: vs)) [Vi j, Vl m] = some (.y (.ext 0) [Vl (rowR x c i k C S n j m)]) := by
  intro n
  induction n with
  | zero =>
    intro j m hj hm
    have : j = c := by omega
    subst this
    refine rounds_exit ?_ (by simp)
    simp [lo231_1, TT.dv, rowR]
  | succ n ih =>
    intro j m hj hm
    have hjc : j < c := by omega
    have h1 := h.hc
    have h2 := h.hr
    have hm2 := (hm.set (p := ps i c j) (addV_lt (mulV_lt (a := C) (b := el x (ps i c j))) (mulV_lt (a := S) (b := el x (ps k c j)))))
    refine Eq.trans (rounds_cont ?_) (ih (j := j + 1) (by omega) (hm2.set (p := ps k c j) (subV_lt (mulV_lt (a := C) (b := el x (ps k c j))) (mulV_lt (a := S) (b := el x (ps i c j))))))
    have e1 : (B.add .i64).den (Vi j) (Vi 1) = Vi (j + 1) := add_i (by omega) (by omega)
    have p1 := pos_i (i := i) (c := c) (k := j) (by omega) (by omega) (by omega)
    have p2 := pos_i (i := k) (c := c) (k := j) (by omega) (by omega) (by omega)
    have l1 := h.lt hi hjc
    have l2 := h.lt hk hjc
    have l3 := hm.lt hi hjc
    have l4 := hm.lt hk hjc
    have g1 := get_V l1
    have g2 := get_V l2
    have m1 := vmul_ok hC (h.w.el (ps i c j))
    have m2 := vmul_ok hS (h.w.el (ps k c j))
    have m3 := vmul_ok hC (h.w.el (ps k c j))
    have m4 := vmul_ok hS (h.w.el (ps i c j))
    have a1 := vadd_ok (mulV_lt (a := C) (b := el x (ps i c j))) (mulV_lt (a := S) (b := el x (ps k c j)))
    have a2 := vsub_ok (mulV_lt (a := C) (b := el x (ps k c j))) (mulV_lt (a := S) (b := el x (ps i c j)))
    simp [lo231_1, TT.dv, hjc, e1, p1, p2, l1, l2, l3, l4, g1, g2, m1, m2, m3, m4, a1, a2, set_V]
theorem rows_ok (hne : i ≠ k) : val 231 [Vi r, Vi c, Vl x, Vi i, Vi k, Vu C, Vu S] = some [Vi r, Vi c, Vl (rowV x c i k C S), Vi 0] := by
  refine val_of tab231 ?_
  have h1 := check_ok r c x
  rw [if_pos (mx_right h)] at h1
  have hs := h.small
  have hlp := rows_loop h hC hS hi hk (x7 := Vi 0) c (j := 0) (m := x) (by omega) h
  rw [show ((0 : Nat) : Int) = 0 from rfl] at hlp
  have e1 : B.copy.den (B.rep.den (Vi x.length) (Vu 0)) (Vl x) = Vl x := by
    rw [rep_V]
    show PV.l ((x.map Vu).take ((List.replicate x.length 0).map Vu).length ++ ((List.replicate x.length 0).map Vu).drop (x.map Vu).length) = _
    simp [Vl, List.take_of_length_le]
  have hne' : ¬ (i : Int) = k := by omega
  simp [tr231, TT.dv, KS.dv, h1, show ¬ (i : Int) < 0 by omega, show ¬ (k : Int) < 0 by omega, show ¬ r ≤ i by omega, show ¬ r ≤ k by omega, hne', show (x.length : Int) ≤ 17592186044416 by omega, e1, hlp, rowV]
end
section
variable {r c : Nat} {x : List Nat} (h : Mx r c x) {C S : Nat} (hC : C < 18446744073709551616) (hS : S < 18446744073709551616) {i k : Nat} (hi : i < c) (hk : k < c)
include h hC hS hi hk
end
end Go.Proofs.Ytcjhfgjgmkfmnaa.Dx

namespace Go.Proofs.Ytcjhfgjgmkfmnaa.Dx
open Go

def colG (x : List Nat) (c k from_ : Nat) (j : Nat) : Nat := el x (ps (from_ + j) c k)
/-- A column from a row on. -/
def colL (r c : Nat) (x : List Nat) (k from_ : Nat) : List Nat := mk (colG x c k from_) (r - from_)
@[simp] theorem colL_len (r c : Nat) (x : List Nat) (k from_ : Nat) : (colL r c x k from_).length = r - from_ := mk_len _ _
section
variable {r c : Nat} {x : List Nat} (h : Mx r c x) {k f : Nat} (hk : k < c) (hf : f ≤ r)
include h hk hf
end
theorem Words.take {x : List Nat} (h : Words x) (n : Nat) : Words (x.take n) := fun a ha => h a (List.mem_of_mem_take ha)
section
variable {r c : Nat} {x : List Nat} (h : Mx r c x) {v : List Nat} (hv : Words v) {tau : Nat} (ht : tau < 18446744073709551616) {i : Nat} (hi : i + v.length ≤ r)
include h hv ht hi
end
end Go.Proofs.Ytcjhfgjgmkfmnaa.Dx

namespace Go.Proofs.Ytcjhfgjgmkfmnaa.Dx
open Go

end Go.Proofs.Ytcjhfgjgmkfmnaa.Dx

namespace Go.Proofs.Ytcjhfgjgmkfmnaa.Dx
open Go

/-- The place of the first number that is no nought. -/
def leadI (x : List Nat) : Nat → Nat → Option Nat
  | 0, _ => none
  | n + 1, i => if fKind (el x i) ≠ 0 then some i else leadI x n (i + 1)
def shG (x : List Nat) (k : Int) (i : Nat) : Nat := scaleV (el x i) k
def shV (x : List Nat) (k : Int) : List Nat := mk (shG x k) x.length
@[simp] theorem shV_len (x : List Nat) (k : Int) : (shV x k).length = x.length := mk_len _ _
def hK (x : List Nat) : Int := expB (bigV x)
def hY (x : List Nat) : List Nat := shV x (-hK x)
def hMu (x : List Nat) : Nat := if fNeg (el x ((leadI x x.length 0).getD 0)) then normV (hY x) else fMinus (normV (hY x))
def hD (x : List Nat) : Nat := subV (el (hY x) 0) (hMu x)
section
variable {x : List Nat} (hx : Words x) (h1 : 1 ≤ x.length) (h64 : x.length ≤ 64)
include hx h1 h64
end
end Go.Proofs.Ytcjhfgjgmkfmnaa.Dx

namespace Go.Proofs.Ytcjhfgjgmkfmnaa.Dx
open Go

end Go.Proofs.Ytcjhfgjgmkfmnaa.Dx

namespace Go.Proofs.Ytcjhfgjgmkfmnaa.Dx
open Go

/-- x is y, but for e. -/
def Er (x y e : Rat) : Prop := x ≤ y + e ∧ y ≤ x + e
/-- x without its sign is at most a. -/
def Ab (x a : Rat) : Prop := -a ≤ x ∧ x ≤ a
theorem Ab.mono {x a b : Rat} (h : Ab x a) (hab : a ≤ b) : Ab x b := by obtain ⟨h1, h2⟩ := h; exact ⟨by grind, by grind⟩
theorem Ab.neg {x a : Rat} (h : Ab x a) : Ab (-x) a := by obtain ⟨h1, h2⟩ := h; exact ⟨by grind, by grind⟩
theorem Ab.add {x y a b : Rat} (h : Ab x a) (h' : Ab y b) : Ab (x + y) (a + b) := by
  obtain ⟨h1, h2⟩ := h; obtain ⟨h3, h4⟩ := h'; exact ⟨by grind, by grind⟩
theorem Ab.sub {x y a b : Rat} (h : Ab x a) (h' : Ab y b) : Ab (x - y) (a + b) := by
  obtain ⟨h1, h2⟩ := h; obtain ⟨h3, h4⟩ := h'; exact ⟨by grind, by grind⟩
theorem Ab.mul {x y a b : Rat} (h : Ab x a) (h' : Ab y b) : Ab (x * y) (a * b) := by
  obtain ⟨h1, h2⟩ := h
  obtain ⟨h3, h4⟩ := h'
  have p1 : 0 ≤ (a - x) * (b + y) := Rat.mul_nonneg (by grind) (by grind)
  have p2 : 0 ≤ (a + x) * (b - y) := Rat.mul_nonneg (by grind) (by grind)
  have p3 : 0 ≤ (a - x) * (b - y) := Rat.mul_nonneg (by grind) (by grind)
  have p4 : 0 ≤ (a + x) * (b + y) := Rat.mul_nonneg (by grind) (by grind)
  exact ⟨by grind, by grind⟩
theorem Ab.of_sq {x a : Rat} (ha : 0 ≤ a) (h : x * x ≤ a * a) : Ab x a := by
  constructor
  · rcases Rat.le_total (a := -a) (b := x) with h1 | h1
    · exact h1
    · rcases Rat.le_total (a := a) (b := -x) with h2 | h2
      · have := rat_sq_le ha h2
        have e : -x * -x = x * x := by grind
        rw [e] at this
        have e2 : x * x = a * a := by grind
        have p : 0 ≤ (-x - a) * (-x + a) := Rat.mul_nonneg (by grind) (by grind)
        rcases Rat.le_total (a := -x) (b := a) with h3 | h3
        · grind
        · have p1 : 0 ≤ (-x - a) * (-x - a) := rat_sq_nonneg _
          have p2 : 0 ≤ (-x - a) * a := Rat.mul_nonneg (by grind) ha
          have p3 : (-x - a) * (-x + a) = 0 := by grind
          have p4 : (-x - a) * (-x - a) + 2 * ((-x - a) * a) = (-x - a) * (-x + a) := by grind
          have p5 : (-x - a) * (-x - a) = 0 := by grind
          have p6 : -x - a = 0 := by
            rcases Rat.mul_eq_zero.1 p5 with h | h <;> exact h
          grind
      · grind
  · rcases Rat.le_total (a := x) (b := a) with h1 | h1
    · exact h1
    · have p1 : 0 ≤ (x - a) * (x - a) := rat_sq_nonneg _
      have p2 : 0 ≤ (x - a) * a := Rat.mul_nonneg (by grind) ha
      have p4 : (x - a) * (x - a) + 2 * ((x - a) * a) = x * x - a * a := by grind
      have p5 : (x - a) * (x - a) = 0 := by grind
      have p6 : x - a = 0 := by
        rcases Rat.mul_eq_zero.1 p5 with h | h <;> exact h
      grind
theorem Er.refl (x : Rat) : Er x x 0 := ⟨by grind, by grind⟩
theorem Er.symm {x y e : Rat} (h : Er x y e) : Er y x e := ⟨h.2, h.1⟩
theorem Er.mono {x y e f : Rat} (h : Er x y e) (hf : e ≤ f) : Er x y f := by obtain ⟨h1, h2⟩ := h; exact ⟨by grind, by grind⟩
theorem Er.trans {x y z e f : Rat} (h : Er x y e) (h' : Er y z f) : Er x z (e + f) := by
  obtain ⟨h1, h2⟩ := h; obtain ⟨h3, h4⟩ := h'; exact ⟨by grind, by grind⟩
theorem Er.add {x y e x' y' e' : Rat} (h : Er x y e) (h' : Er x' y' e') : Er (x + x') (y + y') (e + e') := by
  obtain ⟨h1, h2⟩ := h; obtain ⟨h3, h4⟩ := h'; exact ⟨by grind, by grind⟩
theorem Er.sub {x y e x' y' e' : Rat} (h : Er x y e) (h' : Er x' y' e') : Er (x - x') (y - y') (e + e') := by
  obtain ⟨h1, h2⟩ := h; obtain ⟨h3, h4⟩ := h'; exact ⟨by grind, by grind⟩
theorem Er.neg {x y e : Rat} (h : Er x y e) : Er (-x) (-y) e := by obtain ⟨h1, h2⟩ := h; exact ⟨by grind, by grind⟩
theorem Er.ab {x y e : Rat} (h : Er x y e) : Ab (x - y) e := by obtain ⟨h1, h2⟩ := h; exact ⟨by grind, by grind⟩
theorem Er.bound {x y e a : Rat} (h : Er x y e) (h' : Ab y a) : Ab x (a + e) := by
  obtain ⟨h1, h2⟩ := h; obtain ⟨h3, h4⟩ := h'; exact ⟨by grind, by grind⟩
/-- A product's error. -/
theorem Er.mul {x y e x' y' e' a a' : Rat} (h : Er x y e) (h' : Er x' y' e') (ha : Ab y a) (ha' : Ab x' a') : Er (x * x') (y * y') (e * a' + a * e') := by
  have p1 := h.ab.mul ha'
  have p2 := ha.mul h'.ab
  obtain ⟨q1, q2⟩ := p1.add p2
  exact ⟨by grind, by grind⟩
theorem Er.sq {x y e a : Rat} (h : Er x y e) (ha : Ab y a) : Er (x * x) (y * y) (e * (2 * a + e)) := by
  have := h.mul h ha (h.bound ha)
  exact this.mono (by grind)
theorem sumA_sumP (a : Nat → Rat) : ∀ n, sumA a n = sumP (fun i => a i * a i) n
  | 0 => rfl
  | n + 1 => by unfold sumA sumP; rw [sumA_sumP a n]
theorem sumP_congr {p q : Nat → Rat} : ∀ {n : Nat}, (∀ i, i < n → p i = q i) → sumP p n = sumP q n
  | 0, _ => rfl
  | n + 1, h => by unfold sumP; rw [sumP_congr (fun i hi => h i (by omega)), h n (by omega)]
theorem sumP_split (p : Nat → Rat) (m : Nat) : ∀ n, sumP p (m + n) = sumP p m + sumP (fun i => p (m + i)) n
  | 0 => by simp only [sumP]; rw [Nat.add_zero]; grind
  | n + 1 => by
    rw [← Nat.add_assoc]
    simp only [sumP]
    rw [sumP_split p m n]; grind
theorem sumP_add (p q : Nat → Rat) : ∀ n, sumP (fun i => p i + q i) n = sumP p n + sumP q n
  | 0 => by simp only [sumP]; grind
  | n + 1 => by simp only [sumP]; rw [sumP_add p q n]; grind
theorem sumP_mul (p : Nat → Rat) (k : Rat) : ∀ n, sumP (fun i => k * p i) n = k * sumP p n
  | 0 => by simp only [sumP]; grind
  | n + 1 => by simp only [sumP]; rw [sumP_mul p k n]; grind
theorem sumP_zero : ∀ n, sumP (fun _ => 0) n = 0
  | 0 => rfl
  | n + 1 => by simp only [sumP]; rw [sumP_zero n]; grind
theorem sumP_swap (g : Nat → Nat → Rat) (c : Nat) : ∀ r, sumP (fun i => sumP (g i) c) r = sumP (fun k => sumP (fun i => g i k) r) c
  | 0 => by simp only [sumP]; rw [sumP_zero]
  | r + 1 => by
    simp only [sumP]
    rw [sumP_swap g c r, ← sumP_add]
theorem sumP_grid (f : Nat → Rat) (c : Nat) : ∀ r, sumP f (r * c) = sumP (fun i => sumP (fun k => f (ps i c k)) c) r
  | 0 => by rw [Nat.zero_mul]; rfl
  | r + 1 => by
    rw [Nat.add_mul, Nat.one_mul, sumP_split, sumP_grid f c r]
    rfl
theorem sumP_nonneg {p : Nat → Rat} : ∀ {n : Nat}, (∀ i, i < n → 0 ≤ p i) → 0 ≤ sumP p n
  | 0, _ => by unfold sumP; exact Rat.le_refl
  | n + 1, h => by
    have h1 := sumP_nonneg (p := p) (n := n) (fun i hi => h i (by omega))
    have h2 := h n (by omega)
    unfold sumP; grind
theorem sumP_mem {p : Nat → Rat} : ∀ {n : Nat}, (∀ i, i < n → 0 ≤ p i) → ∀ i, i < n → p i ≤ sumP p n
  | 0, _, i, hi => by omega
  | n + 1, h, i, hi => by
    have h1 := sumP_nonneg (p := p) (n := n) (fun i hi => h i (by omega))
    have h2 := h n (by omega)
    unfold sumP
    by_cases hn : i = n
    · subst hn; grind
    · have := sumP_mem (p := p) (n := n) (fun i hi => h i (by omega)) i (by omega)
      grind
theorem sumP_er {p q e : Nat → Rat} : ∀ {n : Nat}, (∀ i, i < n → Er (p i) (q i) (e i)) → Er (sumP p n) (sumP q n) (sumP e n)
  | 0, _ => Er.refl 0
  | n + 1, h => (sumP_er (fun i hi => h i (by omega))).add (h n (by omega))
abbrev uu : Rat := 1 / 9007199254740992
abbrev ee : Rat := P2 (-1075)
/-- A word that is a number, but for an error. -/
structure Fl (w : Nat) (v e : Rat) : Prop where
  lt : w < 18446744073709551616
  fin : fPow w ≠ 2047
  er : Er (sv w) v e
theorem Fl.exact {w : Nat} (h : w < 18446744073709551616) (hf : fPow w ≠ 2047) : Fl w (sv w) 0 := ⟨h, hf, Er.refl _⟩
theorem Fl.mono {w : Nat} {v e f : Rat} (h : Fl w v e) (hf : e ≤ f) : Fl w v f := ⟨h.lt, h.fin, h.er.mono hf⟩
theorem Fl.of {w : Nat} {v e v' e' : Rat} (h : Fl w v e) (h' : Er v v' e') : Fl w v' (e + e') := ⟨h.lt, h.fin, h.er.trans h'⟩
theorem sv_W (w : Nat) : sv w * sv w = W w * W w := W_sx w
theorem sv_ab (w : Nat) : Ab (sv w) (W w) := by
  have h := W_nonneg w
  rcases sv_cases w with ⟨_, h1⟩ | ⟨_, h1⟩ <;> rw [h1]
  · exact ⟨by grind, by grind⟩
  · exact ⟨by grind, by grind⟩
/-- A number rounded. -/
theorem fl_near {s : Bool} {n : Nat} {p : Int} {v : Rat} {A : Rat} (hv : v = if s then -D n p else D n p) (hA : Ab v A) (h : A ≤ P2 1023) : Fl (nearV s n p) v (A * uu + ee) := by
  have hn := D_nonneg n p
  have hD : D n p ≤ A := by
    obtain ⟨h1, h2⟩ := hA
    cases s <;> simp only [if_true, if_false, Bool.false_eq_true] at hv <;> grind
  have hf := near_fin (Rat.le_trans hD h)
  have hfin := fin_near (s := s) hf
  obtain ⟨e1, e2⟩ := near_err' hf
  obtain ⟨_, _, f3, f4, f5⟩ := sgn_fields s (nearR_le n p)
  have hW : W (nearV s n p) = W (nearR n p) := by
    rw [← W_abs, absV_near]
  refine ⟨f5, hfin, ?_⟩
  have hs := sv_of (b := nearV s n p) (s := s) f3
  rw [hs, hv, hW]
  have e3 : D n p * (1 / 9007199254740992) ≤ A * (1 / 9007199254740992) := Rat.mul_le_mul_of_nonneg_right hD (by decide +kernel)
  generalize D n p = d at *
  generalize W (nearR n p) = w at *
  show Er _ _ (A * (1 / 9007199254740992) + P2 (-1075))
  generalize P2 (-1075) = η at *
  cases s <;> simp only [if_true, if_false, Bool.false_eq_true] <;> exact ⟨by grind, by grind⟩
theorem sv_D (w : Nat) : sv w = if fNeg w then -D (fMag w) (fPl w) else D (fMag w) (fPl w) := sv_of rfl
theorem fl_mul {a b : Nat} (ha : fPow a ≠ 2047) (hb : fPow b ≠ 2047) {A : Rat} (h : Ab (sv a * sv b) A) (hA : A ≤ P2 1023) : Fl (mulV a b) (sv a * sv b) (A * uu + ee) := by
  rw [mulV_fin ha hb]
  refine fl_near ?_ h hA
  rw [sv_D a, sv_D b, ← D_mul]
  generalize D (fMag a) (fPl a) = x
  generalize D (fMag b) (fPl b) = y
  cases fNeg a <;> cases fNeg b <;> simp <;> grind
theorem DV_sg (s : Bool) (m : Nat) (p : Int) : DV (sg s m) p = if s then -D m p else D m p := by
  unfold DV sg D
  cases s
  · simp only [Bool.false_eq_true, if_false]; rw [Rat.intCast_natCast]
  · simp only [if_true]; rw [Rat.intCast_neg, Rat.intCast_natCast]; grind
theorem D_abs (x p : Int) : DV x p = if decide (x < 0) then -D x.natAbs p else D x.natAbs p := by
  by_cases h : x < 0
  · rw [decide_eq_true h, if_pos rfl, show x = sg true x.natAbs by unfold sg; simp; omega, DV_sg]
    simp [sg]
  · rw [decide_eq_false h, if_neg (by decide)]
    unfold DV D
    rw [show x = ((x.natAbs : Nat) : Int) by omega, Rat.intCast_natCast]
    simp
theorem fl_add {a b : Nat} (ha : fPow a ≠ 2047) (hb : fPow b ≠ 2047) {A : Rat} (h : Ab (sv a + sv b) A) (hA : A ≤ P2 1023) : Fl (addV a b) (sv a + sv b) (A * uu + ee) := by
  rw [addV_fin ha hb]
  unfold sumV
  have key : sv a + sv b = DV (sg (fNeg a) (fMag a) * 2 ^ (fPl a - min (fPl a) (fPl b)).toNat + sg (fNeg b) (fMag b) * 2 ^ (fPl b - min (fPl a) (fPl b)).toNat) (min (fPl a) (fPl b)) := by
    have := DV_dadd (sg (fNeg a) (fMag a)) (fPl a) (sg (fNeg b) (fMag b)) (fPl b)
    exact this.symm
  generalize sg (fNeg a) (fMag a) * 2 ^ (fPl a - min (fPl a) (fPl b)).toNat + sg (fNeg b) (fMag b) * 2 ^ (fPl b - min (fPl a) (fPl b)).toNat = X at *
  refine fl_near ?_ h hA
  rw [key]
  by_cases h0 : X = 0
  · rw [if_pos h0, h0, show (0 : Int).natAbs = 0 from rfl, D_zero]
    unfold DV; rw [Rat.intCast_zero, Rat.zero_mul]
    split <;> grind
  · rw [if_neg h0]; exact D_abs X _
theorem fl_sub {a b : Nat} (ha : fPow a ≠ 2047) (hb : fPow b ≠ 2047) (hbl : b < 18446744073709551616) {A : Rat} (h : Ab (sv a - sv b) A) (hA : A ≤ P2 1023) : Fl (subV a b) (sv a - sv b) (A * uu + ee) := by
  unfold subV
  have hm := sv_minus hbl
  have e : sv a - sv b = sv a + sv (fMinus b) := by rw [hm]; grind
  obtain ⟨m1, m2, m3, m4⟩ := minus_neg hbl
  have hp : fPow (fMinus b) ≠ 2047 := by rw [m2]; exact hb
  rw [e] at h ⊢
  exact fl_add ha hp h hA
/-- A product, of numbers with errors. -/
theorem Fl.mul {a b : Nat} {v e A v' e' B C : Rat} (h : Fl a v e) (h' : Fl b v' e') (hA : Ab v A) (hB : Ab (sv b) B) (hC : Ab (sv a * sv b) C) (hC2 : C ≤ P2 1023) : Fl (mulV a b) (v * v') (C * uu + ee + (e * B + A * e')) :=
  (fl_mul h.fin h'.fin hC hC2).of (h.er.mul h'.er hA hB)
theorem Fl.add {a b : Nat} {v e v' e' C : Rat} (h : Fl a v e) (h' : Fl b v' e') (hC : Ab (sv a + sv b) C) (hC2 : C ≤ P2 1023) : Fl (addV a b) (v + v') (C * uu + ee + (e + e')) :=
  (fl_add h.fin h'.fin hC hC2).of (h.er.add h'.er)
theorem Fl.sub {a b : Nat} {v e v' e' C : Rat} (h : Fl a v e) (h' : Fl b v' e') (hC : Ab (sv a - sv b) C) (hC2 : C ≤ P2 1023) : Fl (subV a b) (v - v') (C * uu + ee + (e + e')) :=
  (fl_sub h.fin h'.fin h'.lt hC hC2).of (h.er.sub h'.er)
theorem Fl.bound {a : Nat} {v e A : Rat} (h : Fl a v e) (hA : Ab v A) : Ab (sv a) (A + e) := h.er.bound hA
end Go.Proofs.Ytcjhfgjgmkfmnaa.Dx

namespace Go.Proofs.Ytcjhfgjgmkfmnaa.Dx
open Go

section
variable {r c : Nat} {x : List Nat} (h : Mx r c x) {i : Nat} (hi : i < r)
include h hi
end
section
variable {ra ca rb cb : Nat} {x y : List Nat} (h : Mx ra ca x) (h' : Mx rb cb y) (hcr : ca = rb)
include h h' hcr
end
section
variable {r c : Nat} {x : List Nat} (h : Mx r c x) {i k m n : Nat} (hi : i + m ≤ r) (hk : k + n ≤ c)
include h hi hk
end
end Go.Proofs.Ytcjhfgjgmkfmnaa.Dx

namespace Go.Proofs.Ytcjhfgjgmkfmnaa.Dx
open Go

def chk (R C : Int) (x : List Nat) : Int := if rightP R C x then (if finV x then 0 else 4) else 1
theorem ccheck9_ok (R C : Int) {x : List Nat} (hw : Words x) (h : x.length ≤ 17592186043904) : val 178 [Vi R, Vi C, Vl x] = some [Vi (chk R C x)] := by
  refine val_of tab178 ?_
  have h1 := right_ok10 R C x
  have h2 := finite_9_ok hw (by omega)
  unfold chk
  by_cases c : rightP R C x
  · rw [decide_eq_true c] at h1
    rw [if_pos c]
    cases hc : finV x <;> rw [hc] at h2 <;> simp [tr178, TT.dv, h1, h2]
  · rw [decide_eq_false c] at h1
    rw [if_neg c]
    simp [tr178, TT.dv, h1]
section
variable {r c j : Nat} (hjr : j < r) (hjc : j < c)
include hjr hjc
end
abbrev Mir := List Nat × Nat × Nat
structure MirOK (r j : Nat) (m : Mir) : Prop where
  len : m.1.length = r - j
  w : Words m.1
  t : m.2.1 < 18446744073709551616
  b : m.2.2 < 18446744073709551616
section
variable {r c j : Nat} {x : List Nat} (h : Mx r c x) (hj : j < c) (hjr : j < r)
include h hj hjr
end
def MsOK (r : Nat) (ms : List Mir) : Prop := ∀ j m, ms[j]? = some m → MirOK r j m
theorem MsOK.app {r : Nat} {ms : List Mir} (h : MsOK r ms) {m : Mir} (hm : MirOK r ms.length m) : MsOK r (ms ++ [m]) := by
  intro j m' hj
  rcases Nat.lt_or_ge j ms.length with h1 | h1
  · rw [List.getElem?_append_left h1] at hj; exact h j m' hj
  · rw [List.getElem?_append_right h1] at hj
    have : j = ms.length := by
      rcases Nat.eq_or_lt_of_le h1 with h2 | h2
      · exact h2.symm
      · rw [List.getElem?_eq_none (by simp; omega)] at hj; cases hj
    subst this
    simp at hj; subst hj; exact hm
end Go.Proofs.Ytcjhfgjgmkfmnaa.Dx

namespace Go.Proofs.Ytcjhfgjgmkfmnaa.Dx
open Go

section
variable {r : Nat} {ms : List Mir} (hms : MsOK r ms) (hml : ms.length ≤ r)
include hms hml
end
end Go.Proofs.Ytcjhfgjgmkfmnaa.Dx

namespace Go.Proofs.Ytcjhfgjgmkfmnaa.Dx
open Go

end Go.Proofs.Ytcjhfgjgmkfmnaa.Dx

namespace Go.Proofs.Ytcjhfgjgmkfmnaa.Dx
open Go

section
variable {r c : Nat} {y : List Nat} (h : Mx r c y) (hu : ∀ a b, b < a → a < r → b < c → el y (ps a c b) = 0)
include h hu
end
end Go.Proofs.Ytcjhfgjgmkfmnaa.Dx

namespace Go.Proofs.Ytcjhfgjgmkfmnaa.Dx
open Go

theorem finR_iff {x : List Nat} : ∀ (n i : Nat), finR x n i = true ↔ ∀ k, i ≤ k → k < i + n → fPow (el x k) ≠ 2047
  | 0, i => ⟨fun _ k h1 h2 => by omega, fun _ => rfl⟩
  | n + 1, i => by
    unfold finR
    by_cases c : fPow (el x i) = 2047
    · rw [if_pos c]
      exact ⟨fun h => (by cases h), fun h => absurd c (h i (Nat.le_refl _) (by omega))⟩
    · rw [if_neg c, finR_iff n (i + 1)]
      refine ⟨fun h k h1 h2 => ?_, fun h k h1 h2 => h k (by omega) (by omega)⟩
      rcases Nat.eq_or_lt_of_le h1 with h3 | h3
      · subst h3; exact c
      · exact h k (by omega) (by omega)
theorem finV_iff {x : List Nat} : finV x = true ↔ ∀ k, k < x.length → fPow (el x k) ≠ 2047 := by
  unfold finV
  rw [finR_iff]
  exact ⟨fun h k hk => h k (Nat.zero_le _) (by omega), fun h k _ hk => h k (by omega)⟩
theorem finV_mx {r c : Nat} {x : List Nat} (h : Mx r c x) : finV x = true ↔ ∀ i k, i < r → k < c → fPow (el x (ps i c k)) ≠ 2047 := by
  rw [finV_iff]
  refine ⟨fun hh i k hi hk => hh _ (h.lt hi hk), fun hh t ht => ?_⟩
  have hc : 0 < c := by
    rcases Nat.eq_zero_or_pos c with h0 | h0
    · subst h0; rw [h.len] at ht; omega
    · exact h0
  have e : t = ps (t / c) c (t % c) := by unfold ps; rw [Nat.mul_comm]; exact (Nat.div_add_mod t c).symm
  have := hh (t / c) (t % c) (by rw [Nat.div_lt_iff_lt_mul hc, ← h.len]; exact ht) (Nat.mod_lt _ hc)
  rwa [← e] at this
section
variable {r c : Nat} {x : List Nat} (h : Mx r c x) {up over : Bool}
include h
end
section
variable {r c : Nat} {y : List Nat} (h : Mx r c y)
include h
end
end Go.Proofs.Ytcjhfgjgmkfmnaa.Dx

namespace Go.Proofs.Ytcjhfgjgmkfmnaa.Dx
open Go

theorem rowR_other {x : List Nat} {cc i k C S q : Nat} : ∀ (n j : Nat) {m : List Nat}, (∀ j', ps i cc j' ≠ q ∨ ¬ (j ≤ j' ∧ j' < j + n)) → (∀ j', ps k cc j' ≠ q ∨ ¬ (j ≤ j' ∧ j' < j + n)) → el (rowR x cc i k C S n j m) q = el m q
  | 0, _, _, _, _ => rfl
  | n + 1, j, m, h1, h2 => by
    unfold rowR
    rw [rowR_other n (j + 1) (fun j' => (h1 j').imp id (fun h hh => h (by omega))) (fun j' => (h2 j').imp id (fun h hh => h (by omega))), el_set, el_set,
      if_neg (fun hh => (h2 j).elim (fun h => h hh.1) (fun h => h (by omega))), if_neg (fun hh => (h1 j).elim (fun h => h hh.1) (fun h => h (by omega)))]
section
variable {r c : Nat} {x : List Nat} {i k C S : Nat} (hi : i < r) (hk : k < r) (hne : i ≠ k)
include hi hk hne
theorem rowR_at : ∀ (n j : Nat) {m : List Nat}, j + n = c → m.length = r * c → ∀ t, j ≤ t → t < c →
    el (rowR x c i k C S n j m) (ps i c t) = addV (mulV C (el x (ps i c t))) (mulV S (el x (ps k c t))) ∧ el (rowR x c i k C S n j m) (ps k c t) = subV (mulV C (el x (ps k c t))) (mulV S (el x (ps i c t)))
  | 0, j, m, h1, h2, t, h3, h4 => by omega
  | n + 1, j, m, h1, h2, t, h3, h4 => by
    unfold rowR
    rcases Nat.eq_or_lt_of_le h3 with h5 | h5
    · subst h5
      have l1 : ps i c j < m.length := by rw [h2]; exact ps_lt hi h4
      have l2 : ps k c j < m.length := by rw [h2]; exact ps_lt hk h4
      have o1 : ∀ q, (∀ j', ps q c j' ≠ ps i c j ∨ ¬ (j + 1 ≤ j' ∧ j' < j + 1 + n)) := fun q j' => by
        by_cases h6 : j + 1 ≤ j' ∧ j' < j + 1 + n
        · left; intro hh; have := (ps_inj (show j' < c by omega) h4 hh).2; omega
        · exact .inr h6
      have o2 : ∀ q, (∀ j', ps q c j' ≠ ps k c j ∨ ¬ (j + 1 ≤ j' ∧ j' < j + 1 + n)) := fun q j' => by
        by_cases h6 : j + 1 ≤ j' ∧ j' < j + 1 + n
        · left; intro hh; have := (ps_inj (show j' < c by omega) h4 hh).2; omega
        · exact .inr h6
      have hd : ps k c j ≠ ps i c j := fun hh => hne (ps_inj h4 h4 hh).1.symm
      constructor
      · rw [rowR_other n (j + 1) (o1 i) (o1 k), el_set, if_neg (fun hh => hd hh.1), el_set, if_pos ⟨rfl, l1⟩]
      · rw [rowR_other n (j + 1) (o2 i) (o2 k), el_set, if_pos ⟨rfl, by rw [List.length_set]; exact l2⟩]
    · exact rowR_at n (j + 1) (by omega) (by rw [List.length_set, List.length_set, h2]) t (by omega) h4
end
theorem near_nought (s : Bool) (p : Int) : sv (nearV s 0 p) = 0 ∧ fPow (nearV s 0 p) ≠ 2047 ∧ fMag (nearV s 0 p) = 0 := by
  have h : nearR 0 p = 0 := by
    have := @near_W 0 (by decide)
    rw [show fMag 0 = 0 from rfl] at this
    rw [near_eq (n := 0) (p := p) (m := 0) (q := fPl 0) (by rw [D_zero, D_zero])]; exact this
  unfold nearV
  rw [h]
  cases s
  · exact ⟨sv_zero (by decide), by decide, by decide⟩
  · exact ⟨sv_zero (by decide), by decide, by decide⟩
theorem mul_nought {a b : Nat} (ha : fPow a ≠ 2047) (hb : fPow b ≠ 2047) (h : fMag b = 0) : sv (mulV a b) = 0 ∧ fPow (mulV a b) ≠ 2047 ∧ fMag (mulV a b) = 0 := by
  rw [mulV_fin ha hb, h, Nat.mul_zero]; exact near_nought _ _
theorem add_nought {a b : Nat} (ha : fPow a ≠ 2047) (hb : fPow b ≠ 2047) (h : fMag a = 0) (h' : fMag b = 0) : sv (addV a b) = 0 ∧ fPow (addV a b) ≠ 2047 ∧ fMag (addV a b) = 0 := by
  rw [addV_fin ha hb]
  unfold sumV
  rw [h, h', show ∀ s, sg s 0 = 0 from fun s => by cases s <;> rfl, show ∀ s, sg s 0 = 0 from fun s => by cases s <;> rfl, Int.zero_mul, Int.zero_mul]
  exact near_nought _ _
theorem minus_fields {b : Nat} (hb : b < 18446744073709551616) : fPow (fMinus b) = fPow b ∧ fMag (fMinus b) = fMag b := by
  obtain ⟨m1, m2, m3, m4⟩ := minus_neg hb
  exact ⟨m2, by unfold fMag; rw [m2, m3]⟩
/-- What tame numbers are. -/
theorem tame_W {b : Nat} {K : Int} (hf : fPow b ≠ 2047) (h : fMag b = 0 ∨ (-K ≤ expB b ∧ expB b < K)) : W b = 0 ∨ (P2 (-K) ≤ W b ∧ W b ≤ P2 K) := by
  rcases h with h | ⟨h1, h2⟩
  · exact .inl (W_zero_of h)
  · by_cases hm : fMag b = 0
    · exact .inl (W_zero_of hm)
    · obtain ⟨w1, w2⟩ := expB_W hf hm
      exact .inr ⟨Rat.le_trans (P2_mono h1) w1, Rat.le_trans (Rat.le_of_lt w2) (P2_mono (by omega))⟩
theorem mag_of_W {b : Nat} (h : W b = 0) : fMag b = 0 := by
  unfold W D at h
  rcases Rat.mul_eq_zero.1 h with h | h
  · have h2 : ((fMag b : Nat) : Rat) = ((0 : Nat) : Rat) := h
    exact Rat.natCast_inj.1 h2
  · have := P2_pos (fPl b); rw [h] at this; exact absurd this Rat.lt_irrefl
theorem ee_small {m : Rat} (h : P2 (-400) ≤ m) : 0 ≤ ee ∧ ee ≤ m * uu * (1 / 1000000) := by
  refine ⟨Rat.le_of_lt (P2_pos _), ?_⟩
  have e1 : ee = P2 (-400) * P2 (-675) := by rw [← P2_add]; rfl
  have e2 : P2 (-675) ≤ uu * (1 / 1000000) := by decide +kernel
  have e3 : 0 ≤ P2 (-400) := Rat.le_of_lt (P2_pos _)
  rw [e1]
  have h1 : P2 (-400) * P2 (-675) ≤ P2 (-400) * (uu * (1 / 1000000)) := Rat.mul_le_mul_of_nonneg_left e2 e3
  have h2 : P2 (-400) * (uu * (1 / 1000000)) ≤ m * (uu * (1 / 1000000)) := Rat.mul_le_mul_of_nonneg_right h (by decide +kernel)
  rw [Rat.mul_assoc]
  exact Rat.le_trans h1 h2
structure Pair (C S a b : Nat) : Prop where
  f1 : fPow (addV (mulV C a) (mulV S b)) ≠ 2047
  f2 : fPow (subV (mulV C b) (mulV S a)) ≠ 2047
  er : Er (W (addV (mulV C a) (mulV S b)) * W (addV (mulV C a) (mulV S b)) + W (subV (mulV C b) (mulV S a)) * W (subV (mulV C b) (mulV S a))) (W a * W a + W b * W b) (100 * uu * (W a * W a + W b * W b))
theorem P2_big : P2 400 * 3 ≤ P2 1023 := by decide +kernel
theorem turn_pair {C S a b : Nat} (fC : fPow C ≠ 2047) (fS : fPow S ≠ 2047) (o1 : W C * W C + W S * W S ≤ 1 + 1 * P2 (-48)) (o2 : 1 ≤ W C * W C + W S * W S + 1 * P2 (-48))
    (fa : fPow a ≠ 2047) (fb : fPow b ≠ 2047) (ta : W a = 0 ∨ (P2 (-400) ≤ W a ∧ W a ≤ P2 400)) (tb : W b = 0 ∨ (P2 (-400) ≤ W b ∧ W b ≤ P2 400)) : Pair C S a b := by
  by_cases hz : W a = 0 ∧ W b = 0
  · obtain ⟨z1, z2⟩ := hz
    obtain ⟨a1, a2, a3⟩ := mul_nought fC fa (mag_of_W z1)
    obtain ⟨b1, b2, b3⟩ := mul_nought fS fb (mag_of_W z2)
    obtain ⟨c1, c2, c3⟩ := mul_nought fC fb (mag_of_W z2)
    obtain ⟨d1, d2, d3⟩ := mul_nought fS fa (mag_of_W z1)
    obtain ⟨e1, e2, e3⟩ := add_nought a2 b2 a3 b3
    obtain ⟨m1, m2⟩ := minus_fields (b := mulV S a) mulV_lt
    obtain ⟨g1, g2, g3⟩ := add_nought (a := mulV C b) (b := fMinus (mulV S a)) c2 (by rw [m1]; exact d2) c3 (by rw [m2]; exact d3)
    refine ⟨e2, g2, ?_⟩
    rw [W_zero_of e3, show W (subV (mulV C b) (mulV S a)) = 0 from W_zero_of g3, z1, z2]
    exact ⟨by grind, by grind⟩
  · have p48' : P2 (-48) = 1 / 281474976710656 := by decide +kernel
    rw [p48'] at o1 o2
    have wC := rat_sq_nonneg (W C)
    have wS := rat_sq_nonneg (W S)
    have aC : Ab (sv C) (101 / 100) := Ab.of_sq (by decide +kernel) (by rw [sv_W]; grind)
    have aS : Ab (sv S) (101 / 100) := Ab.of_sq (by decide +kernel) (by rw [sv_W]; grind)
    obtain ⟨m, hm1, hm2, hma, hmb, hm⟩ : ∃ m, P2 (-400) ≤ m ∧ m ≤ P2 400 ∧ W a ≤ m ∧ W b ≤ m ∧ m * m ≤ W a * W a + W b * W b := by
      have sa := rat_sq_nonneg (W a)
      have sb := rat_sq_nonneg (W b)
      have na := W_nonneg a
      have nb := W_nonneg b
      rcases Rat.le_total (a := W a) (b := W b) with h | h
      · rcases tb with t | t
        · exact absurd ⟨by grind, t⟩ hz
        · exact ⟨W b, t.1, t.2, h, Rat.le_refl, by grind⟩
      · rcases ta with t | t
        · exact absurd ⟨t, by grind⟩ hz
        · exact ⟨W a, t.1, t.2, Rat.le_refl, h, by grind⟩
    have va := (sv_ab a).mono hma
    have vb := (sv_ab b).mono hmb
    obtain ⟨n1, n2⟩ := ee_small hm1
    have hm0 : 0 ≤ m := Rat.le_trans (Rat.le_of_lt (P2_pos _)) hm1
    have hbig := P2_big
    have u0 : (0 : Rat) ≤ uu := by decide +kernel
    have hmu : 0 ≤ m * uu := Rat.mul_nonneg hm0 u0
    have hmu1 : m * uu ≤ m * (1 / 1000000) := Rat.mul_le_mul_of_nonneg_left (by decide +kernel) hm0
    -- products
    have Q1 : ∀ {g d : Nat}, fPow g ≠ 2047 → fPow d ≠ 2047 → Ab (sv g) (101 / 100) → Ab (sv d) m → Fl (mulV g d) (sv g * sv d) (102 / 100 * (m * uu)) ∧ Ab (sv g * sv d) (101 / 100 * m) := fun hg hd ag ad => by
      have hp := ag.mul ad
      refine ⟨(fl_mul hg hd hp (by grind)).mono ?_, hp⟩
      have : 101 / 100 * m * uu = 101 / 100 * (m * uu) := Rat.mul_assoc _ _ _
      rw [this]; grind
    obtain ⟨p1, q1⟩ := Q1 fC fa aC va
    obtain ⟨p2, q2⟩ := Q1 fS fb aS vb
    obtain ⟨p3, q3⟩ := Q1 fC fb aC vb
    obtain ⟨p4, q4⟩ := Q1 fS fa aS va
    have b1 := p1.bound q1
    have b2 := p2.bound q2
    have b3 := p3.bound q3
    have b4 := p4.bound q4
    have r1 := (p1.add p2 ((b1.add b2).mono (b := 203 / 100 * m) (by grind)) (by grind)).mono (f := 5 * (m * uu)) (by
      have : 203 / 100 * m * uu = 203 / 100 * (m * uu) := Rat.mul_assoc _ _ _
      rw [this]; grind)
    have r2 := (p3.sub p4 ((b3.sub b4).mono (b := 203 / 100 * m) (by grind)) (by grind)).mono (f := 5 * (m * uu)) (by
      have : 203 / 100 * m * uu = 203 / 100 * (m * uu) := Rat.mul_assoc _ _ _
      rw [this]; grind)
    have s1 := r1.er.sq (q1.add q2)
    have s2 := r2.er.sq (q3.sub q4)
    have hmm : 0 ≤ m * m := Rat.mul_nonneg hm0 hm0
    have hmmu : 5 * (m * uu) * (2 * (101 / 100 * m + 101 / 100 * m) + 5 * (m * uu)) ≤ 21 * uu * (m * m) := by
      have h1 : m * uu * (m * uu) ≤ m * uu * (m * (1 / 1000000)) := Rat.mul_le_mul_of_nonneg_left hmu1 hmu
      have h2 : 0 ≤ uu * (m * m) := Rat.mul_nonneg u0 hmm
      generalize uu = v at *
      grind
    have s3 := (s1.mono hmmu).add (s2.mono hmmu)
    refine ⟨r1.fin, r2.fin, ?_⟩
    rw [sv_W, sv_W] at s3
    have e1 : (sv C * sv a + sv S * sv b) * (sv C * sv a + sv S * sv b) + (sv C * sv b - sv S * sv a) * (sv C * sv b - sv S * sv a) = (sv C * sv C + sv S * sv S) * (sv a * sv a + sv b * sv b) := by grind
    rw [e1, sv_W, sv_W, sv_W, sv_W] at s3
    have hT : 0 ≤ W a * W a + W b * W b := Rat.le_trans hmm hm
    have s4 : Er ((W C * W C + W S * W S) * (W a * W a + W b * W b)) (W a * W a + W b * W b) (1 / 281474976710656 * (W a * W a + W b * W b)) := by
      have h1 : 0 ≤ (1 + 1 * (1 / 281474976710656) - (W C * W C + W S * W S)) * (W a * W a + W b * W b) := Rat.mul_nonneg (by grind) hT
      have h2 : 0 ≤ (W C * W C + W S * W S + 1 * (1 / 281474976710656) - 1) * (W a * W a + W b * W b) := Rat.mul_nonneg (by grind) hT
      generalize W a * W a + W b * W b = T at *
      generalize W C * W C + W S * W S = o at *
      exact ⟨by grind, by grind⟩
    refine (s3.trans s4).mono ?_
    have h3 : uu * (m * m) ≤ uu * (W a * W a + W b * W b) := Rat.mul_le_mul_of_nonneg_left hm u0
    generalize W a * W a + W b * W b = T at *
    generalize m * m = mm at *
    show 21 * (1 / 9007199254740992) * mm + 21 * (1 / 9007199254740992) * mm + 1 / 281474976710656 * T ≤ 100 * (1 / 9007199254740992) * T
    have h4 : (1 / 9007199254740992) * mm ≤ (1 / 9007199254740992) * T := h3
    grind
def gsq (c : Nat) (x : List Nat) (i k : Nat) : Rat := W (el x (ps i c k)) * W (el x (ps i c k))
theorem sq_cols {r c : Nat} {x : List Nat} (h : Mx r c x) : sumA (fun i => W (el x i)) x.length = sumP (fun k => sumP (fun i => gsq c x i k) r) c := by
  rw [sumA_sumP, h.len, sumP_grid (fun t => W (el x t) * W (el x t)) c r]
  exact sumP_swap (gsq c x) c r
theorem gsq_nonneg (c : Nat) (x : List Nat) (i k : Nat) : 0 ≤ gsq c x i k := Rat.mul_nonneg (W_nonneg _) (W_nonneg _)
theorem square11_ok {r c : Nat} {x : List Nat} (h : Mx r c x) : ∃ X E, val 183 [Vi r, Vi c, Vl x] = some [dS X E, dL X E, dE X E] ∧ DBs X E 2200 2300 ∧ DV X E = sumP (fun k => sumP (fun i => gsq c x i k) r) c := by
  have hs := h.small
  obtain ⟨X, E, h1, h2, h3⟩ := squares_ok h.w (by omega)
  refine ⟨X, E, val_of tab183 ?_, h2.mono (by omega) (by omega), h3.trans (sq_cols h)⟩
  simp [tr183, TT.dv, h1]
theorem tame11_ok (R C : Int) {x : List Nat} (hw : Words x) (hl : x.length ≤ 17592186043904) {K : Int} (hK : 0 ≤ K ∧ K ≤ 100000) : ∃ b, val 184 [Vi R, Vi C, Vl x, Vi K] = some [Vb b] ∧ (b = true → rightP R C x ∧ TameP x K) := by
  have h1 := right_ok10 R C x
  obtain ⟨b, t1, t2⟩ := tame_ok hw (by omega) hK
  by_cases c : rightP R C x
  · rw [decide_eq_true c] at h1
    refine ⟨b, val_of tab184 ?_, fun hb => ⟨c, t2 hb⟩⟩
    simp [tr184, TT.dv, h1, t1]
  · rw [decide_eq_false c] at h1
    refine ⟨false, val_of tab184 ?_, fun hb => by cases hb⟩
    simp [tr184, TT.dv, h1]
theorem tame_at {r c : Nat} {x : List Nat} (h : Mx r c x) {K : Int} (hT : TameP x K) {i k : Nat} (hi : i < r) (hk : k < c) : fPow (el x (ps i c k)) ≠ 2047 ∧ (W (el x (ps i c k)) = 0 ∨ (P2 (-K) ≤ W (el x (ps i c k)) ∧ W (el x (ps i c k)) ≤ P2 K)) := by
  obtain ⟨h1, h2⟩ := hT _ (h.lt hi hk)
  exact ⟨h1, tame_W h1 h2⟩
theorem sum_two {p q : Nat → Rat} {r : Nat} {e : Rat} (hr : 2 ≤ r) (h : ∀ i, 0 < i → i < r - 1 → p i = q i) (he : Er (p 0 + p (r - 1)) (q 0 + q (r - 1)) e) : Er (sumP p r) (sumP q r) e := by
  have key : ∀ f : Nat → Rat, sumP f r = f 0 + f (r - 1) + sumP (fun i => f (1 + i)) (r - 2) := fun f => by
    have h1 := sumP_split f 1 (r - 1)
    rw [show 1 + (r - 1) = r by omega] at h1
    have h2 := sumP_split (fun i => f (1 + i)) (r - 2) 1
    rw [show r - 2 + 1 = r - 1 by omega] at h2
    rw [h1, h2]
    show 0 + f 0 + (sumP (fun i => f (1 + i)) (r - 2) + (0 + f (1 + (r - 2 + 0)))) = _
    rw [show 1 + (r - 2 + 0) = r - 1 by omega]; grind
  rw [key p, key q, sumP_congr (p := fun i => p (1 + i)) (q := fun i => q (1 + i)) fun i hi => h _ (by omega) (by omega)]
  obtain ⟨h1, h2⟩ := he
  exact ⟨by grind, by grind⟩
theorem law_GivensKeeps {R C : Int} (_ : -9223372036854775808 ≤ R) (_ : R < 9223372036854775808) (_ : -9223372036854775808 ≤ C) (_ : C < 9223372036854775808) {x : List Nat} (hw : Words x) (hl : x.length ≤ 17592186043904)
    {f g : Nat} (hf : f < 18446744073709551616) (hg : g < 18446744073709551616) : val 38 [Vi R, Vi C, Vl x, Vu f, Vu g] = some [Vb true] := by
  refine val_of tab38 ?_
  obtain ⟨b, t1, t2⟩ := tame11_ok R C hw hl (K := 400) (by omega)
  obtain ⟨b', u1, u2⟩ := tame_ok (words2 hf hg) (by simp) (K := 400) (by omega)
  cases b
  · simp [tr38, TT.dv, pair_V, t1, awake_12]
  cases b'
  · simp [tr38, TT.dv, pair_V, t1, u1, awake_12]
  by_cases h2 : R < 2
  · simp [tr38, TT.dv, pair_V, t1, u1, h2, awake_12]
  obtain ⟨hr, hT⟩ := t2 rfl
  have hT2 := u2 rfl
  obtain ⟨r, c, rfl, rfl, h⟩ := right_mx hr hw
  have L := turnL hf hg hT2
  have h1 := turn_ok hf hg
  rw [if_neg (by have h1 := (hT2 0 (by simp)).1; have h2 := (hT2 1 (by simp)).1; rw [show el [f, g] 0 = f from rfl] at h1; rw [show el [f, g] 1 = g from rfl] at h2; omega)] at h1
  generalize turnC f g = s1 at *
  generalize turnS f g = s2 at *
  generalize turnR f g = s3 at *
  have hr6 := h.hr
  have rw1 := rows_ok h L.cl L.sl (i := 0) (k := r - 1) (by omega) (by omega) (by omega)
  have e1 : (B.sub .i64).den (Vi r) (Vi 1) = Vi ((r - 1 : Nat) : Int) := by rw [sub_i (by omega) (by omega)]; exact congrArg Vi (by omega)
  rw [show ((0 : Nat) : Int) = 0 from rfl] at rw1
  have hmx : Mx r c (rowV x c 0 (r - 1) s1 s2) := rowR_mx c 0 h
  have P : ∀ k, k < c → Pair s1 s2 (el x (ps 0 c k)) (el x (ps (r - 1) c k)) := fun k hk => by
    obtain ⟨a1, a2⟩ := tame_at h hT (i := 0) (by omega) hk
    obtain ⟨b1, b2⟩ := tame_at h hT (i := r - 1) (by omega) hk
    exact turn_pair L.cf L.sf L.one1 L.one2 a1 b1 a2 b2
  have hat : ∀ k, k < c → el (rowV x c 0 (r - 1) s1 s2) (ps 0 c k) = addV (mulV s1 (el x (ps 0 c k))) (mulV s2 (el x (ps (r - 1) c k))) ∧ el (rowV x c 0 (r - 1) s1 s2) (ps (r - 1) c k) = subV (mulV s1 (el x (ps (r - 1) c k))) (mulV s2 (el x (ps 0 c k))) := fun k hk =>
    rowR_at (r := r) (c := c) (x := x) (i := 0) (k := r - 1) (by omega) (by omega) (by omega) c 0 (by omega) h.len k (by omega) hk
  have hot : ∀ i k, 0 < i → i < r - 1 → k < c → el (rowV x c 0 (r - 1) s1 s2) (ps i c k) = el x (ps i c k) := fun i k hi1 hi2 hk => by
    refine rowR_other c 0 (fun j' => ?_) (fun j' => ?_)
    · by_cases h6 : 0 ≤ j' ∧ j' < 0 + c
      · left; intro hh; have := (ps_inj (show j' < c by omega) hk hh).1; omega
      · exact .inr h6
    · by_cases h6 : 0 ≤ j' ∧ j' < 0 + c
      · left; intro hh; have := (ps_inj (show j' < c by omega) hk hh).1; omega
      · exact .inr h6
  have hfin : finV (rowV x c 0 (r - 1) s1 s2) = true := by
    rw [finV_mx hmx]
    intro i k hi hk
    by_cases i0 : i = 0
    · subst i0; rw [(hat k hk).1]; exact (P k hk).f1
    · by_cases i1 : i = r - 1
      · subst i1; rw [(hat k hk).2]; exact (P k hk).f2
      · rw [hot i k (by omega) (by omega) hk]; exact (tame_at h hT hi hk).1
  have ck := ccheck9_ok (R := r) (C := c) hmx.w (by have := hmx.small; omega)
  unfold chk at ck
  rw [if_pos (mx_right hmx), if_pos hfin] at ck
  obtain ⟨X, E, x1, x2, x3⟩ := square11_ok hmx
  obtain ⟨Y, F, y1, y2, y3⟩ := square11_ok h
  have hEr : Er (DV X E) (DV Y F) (100 * uu * DV Y F) := by
    rw [x3, y3, ← sumP_mul]
    refine sumP_er fun k hk => ?_
    refine (sum_two (e := 100 * uu * (gsq c x 0 k + gsq c x (r - 1) k)) (by omega) (fun i hi1 hi2 => by unfold gsq; rw [hot i k hi1 hi2 hk]) ?_).mono ?_
    · unfold gsq
      rw [(hat k hk).1, (hat k hk).2]
      exact (P k hk).er
    · refine Rat.mul_le_mul_of_nonneg_left ?_ (by decide +kernel)
      have hn : ∀ i, 0 ≤ gsq c x i k := fun i => gsq_nonneg _ _ _ _
      have h1 := sumP_split (fun i => gsq c x i k) (r - 1) 1
      rw [show r - 1 + 1 = r by omega] at h1
      rw [h1]
      have h3 := sumP_mem (p := fun i => gsq c x i k) (n := r - 1) (fun i _ => hn i) 0 (by omega)
      show _ ≤ _ + (0 + gsq c x (r - 1 + 0) k)
      rw [Nat.add_zero]
      grind
  have hY : 0 ≤ DV Y F := by rw [y3]; exact sumP_nonneg fun k _ => sumP_nonneg fun i _ => gsq_nonneg _ _ _ _
  have p40 : P2 (-40) = 1 / 1099511627776 := by decide +kernel
  obtain ⟨z1, z2⟩ := hEr
  have hne := near_d_ok (k := 40) x2 y2 (by omega) (by omega) (by omega) (by rw [p40]; generalize DV X E = v at *; generalize DV Y F = w at *; have : v ≤ w + 100 * (1 / 9007199254740992) * w := z1; grind)
    (by rw [p40]; generalize DV X E = v at *; generalize DV Y F = w at *; have : w ≤ v + 100 * (1 / 9007199254740992) * w := z2; grind)
  generalize rowV x c 0 (r - 1) s1 s2 = y at *
  generalize ((r - 1 : Nat) : Int) = q at *
  generalize dS X E = g1 at *
  generalize dL X E = g2 at *
  generalize dE X E = g3 at *
  generalize dS Y F = g4 at *
  generalize dL Y F = g5 at *
  generalize dE Y F = g6 at *
  clear z1 z2 x2 y2 x3 y3 hY hfin hot hat P hmx L hT hT2
  simp [tr38, TT.dv, pair_V, t1, u1, show ¬ r < 2 by omega, show ¬ (r : Int) < 2 by omega, h1, e1, rw1, ck, x1, y1, hne, awake_12]
end Go.Proofs.Ytcjhfgjgmkfmnaa.Dx
