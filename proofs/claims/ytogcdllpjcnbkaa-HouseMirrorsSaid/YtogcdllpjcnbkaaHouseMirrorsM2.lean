/- The pure meaning of the functions that the law reaches, and that the law is true of it. No conditions. -/
import Derived.Test.YtogcdllpjcnbkaaHouseMirrorsM1
set_option linter.all false
namespace Go.Proofs.Ytogcdllpjcnbkaa.Dx
open Go

/-- The quotient of two numbers of 53 digits. -/
theorem quo_near {m n : Nat} (hm : m ≠ 0) (hn : n ≠ 0) (hm2 : m < 9007199254740992) (hn2 : n < 9007199254740992) (i j : Int) (s : Bool) :
    nearV s (quoN (m * 2 ^ nrm m) (n * 2 ^ nrm n) 61) (i - nrm m - (j - nrm n) - 61 - 1) = nearV s (quoN m n (quoK m n)) (i - j - quoK m n - 1) ∧ m * 2 ^ nrm m * 2 ^ 61 / (n * 2 ^ nrm n) ≠ 0 ∧
    60 ≤ (m * 2 ^ nrm m * 2 ^ 61 / (n * 2 ^ nrm n)).log2 := by
  obtain ⟨a1, a2, a3⟩ := nrm_bd hm hm2
  obtain ⟨b1, b2, b3⟩ := nrm_bd hn hn2
  have hk : quoK m n = 54 + n.log2 - m.log2 := rfl
  have hk2 : nrm m + 61 = quoK m n + 7 + nrm n := by rw [hk]; unfold nrm; omega
  have e0 : m * 2 ^ nrm m * 2 ^ 61 = m * 2 ^ (quoK m n + 7) * 2 ^ nrm n := by
    rw [Nat.mul_assoc, ← Nat.pow_add, hk2, Nat.pow_add, Nat.mul_assoc]
  have e1 : m * 2 ^ nrm m * 2 ^ 61 / (n * 2 ^ nrm n) = m * 2 ^ (quoK m n + 7) / n := by rw [e0, Nat.mul_div_mul_right _ _ (Nat.two_pow_pos _)]
  have e2 : m * 2 ^ nrm m * 2 ^ 61 % (n * 2 ^ nrm n) = m * 2 ^ (quoK m n + 7) % n * 2 ^ nrm n := by rw [e0, Nat.mul_mod_mul_right]
  have hq : quoN (m * 2 ^ nrm m) (n * 2 ^ nrm n) 61 = quoN m n (quoK m n + 7) := by
    unfold quoN
    rw [e1, e2]
    refine congrArg _ (congrArg _ ?_)
    rw [decide_eq_decide, ne_eq, ne_eq, Nat.mul_eq_zero]
    simp
  have hlow : 2 ^ 60 ≤ m * 2 ^ nrm m * 2 ^ 61 / (n * 2 ^ nrm n) := by
    rw [Nat.le_div_iff_mul_le (by unfold two52 at b2; omega)]
    have h1 : 2 ^ 60 * (n * 2 ^ nrm n) ≤ 2 ^ 60 * 9007199254740992 := Nat.mul_le_mul_left _ (by omega)
    have h2 : 4503599627370496 * 2 ^ 61 ≤ m * 2 ^ nrm m * 2 ^ 61 := Nat.mul_le_mul_right _ a2
    have h3 : 2 ^ 60 * 9007199254740992 = 4503599627370496 * 2 ^ 61 := by decide
    exact Nat.le_trans h1 (Nat.le_trans (Nat.le_of_eq h3) h2)
  have hpos : 0 < 2 ^ 60 := Nat.two_pow_pos 60
  have hne : m * 2 ^ nrm m * 2 ^ 61 / (n * 2 ^ nrm n) ≠ 0 := by omega
  have hlog : 60 ≤ (m * 2 ^ nrm m * 2 ^ 61 / (n * 2 ^ nrm n)).log2 := by rw [Nat.le_log2 hne]; exact hlow
  refine ⟨?_, hne, hlog⟩
  rw [hq]
  have h0 : m * 2 ^ quoK m n / n ≠ 0 ∧ 53 ≤ (m * 2 ^ quoK m n / n).log2 := by
    have hh : 2 ^ 53 ≤ m * 2 ^ quoK m n / n := by
      rw [Nat.le_div_iff_mul_le (Nat.pos_of_ne_zero hn)]
      have h1 := Nat.mul_le_mul_right (2 ^ quoK m n) (Nat.log2_self_le hm)
      rw [← Nat.pow_add] at h1
      have h2 : 2 ^ 53 * n ≤ 2 ^ 53 * 2 ^ (n.log2 + 1) := Nat.mul_le_mul_left _ (Nat.le_of_lt Nat.lt_log2_self)
      rw [← Nat.pow_add] at h2
      rw [show m.log2 + quoK m n = 53 + (n.log2 + 1) by rw [hk]; omega] at h1
      omega
    have : m * 2 ^ quoK m n / n ≠ 0 := by have := Nat.two_pow_pos 53; omega
    exact ⟨this, by rw [Nat.le_log2 this]; exact hh⟩
  have := quo_more (m := m) (n := n) (k := quoK m n) (p := i - j) hn h0.1 (by unfold lastP; omega) 7
  unfold nearV
  rw [← this]
  exact congrArg _ (congrArg _ (by omega))
theorem div_ok {a b : Nat} (ha : a < 18446744073709551616) (hb : b < 18446744073709551616) : ∃ f, val 300 [Vu a, Vu b] = some [Vu (divV a b), f] := by
  have s1 := sign_ok a
  have s2 := sign_ok b
  have k1 := kind_ok a
  have k2 := kind_ok b
  have hn := times_nan a b
  have hsI := signed_ok (b := infR) (fNeg a != fNeg b) (.inl rfl)
  have hsZ := signed_ok (b := 0) (fNeg a != fNeg b) (.inr rfl)
  have eI : infR = 9218868437227405312 := rfl
  rw [eI] at hsI
  unfold divV
  rw [eI]
  by_cases c1 : nanB a ∨ nanB b
  · rw [if_pos c1]
    refine ⟨Vy 0, val_of tab300 ?_⟩
    rw [decide_eq_true c1] at hn
    simp [tr300, TT.dv, s1, s2, k1, k2, hn, nan0]
  · rw [if_neg c1]
    rw [decide_eq_false c1] at hn
    have cn1 : ¬ nanB a := fun h => c1 (.inl h)
    have cn2 : ¬ nanB b := fun h => c1 (.inr h)
    by_cases c2 : infB a
    · rw [if_pos c2]
      have i1 := (kind_infB a).2 c2
      by_cases c3 : infB b
      · rw [if_pos c3]
        have i2 := (kind_infB b).2 c3
        refine ⟨Vy 16, val_of tab300 ?_⟩
        simp [tr300, TT.dv, s1, s2, k1, k2, hn, i1, i2, nan0]
      · rw [if_neg c3]
        have i2 : ¬ fKind b = 3 := fun h => c3 ((kind_infB b).1 h)
        refine ⟨Vy 0, val_of tab300 ?_⟩
        simp [tr300, TT.dv, s1, s2, k1, k2, hn, i1, i2, hsI]
    · rw [if_neg c2]
      have i1 : ¬ fKind a = 3 := fun h => c2 ((kind_infB a).1 h)
      by_cases c3 : infB b
      · rw [if_pos c3]
        have i2 := (kind_infB b).2 c3
        refine ⟨Vy 0, val_of tab300 ?_⟩
        simp [tr300, TT.dv, s1, s2, k1, k2, hn, i1, i2, hsZ]
      · rw [if_neg c3]
        have i2 : ¬ fKind b = 3 := fun h => c3 ((kind_infB b).1 h)
        by_cases c4 : zeroB b
        · rw [if_pos c4]
          have z2 := (kind_zeroB b).2 c4
          by_cases c5 : zeroB a
          · rw [if_pos c5]
            have z1 := (kind_zeroB a).2 c5
            refine ⟨Vy 16, val_of tab300 ?_⟩
            simp [tr300, TT.dv, s1, s2, k1, k2, hn, z1, z2, nan0]
          · rw [if_neg c5]
            have z1 : ¬ fKind a = 0 := fun h => c5 ((kind_zeroB a).1 h)
            refine ⟨Vy 8, val_of tab300 ?_⟩
            simp [tr300, TT.dv, s1, s2, k1, k2, hn, i1, z1, z2, hsI]
        · rw [if_neg c4]
          have z2 : ¬ fKind b = 0 := fun h => c4 ((kind_zeroB b).1 h)
          by_cases c5 : zeroB a
          · rw [if_pos c5]
            have z1 := (kind_zeroB a).2 c5
            refine ⟨Vy 0, val_of tab300 ?_⟩
            simp [tr300, TT.dv, s1, s2, k1, k2, hn, i2, z1, z2, hsZ]
          · rw [if_neg c5]
            have z1 : ¬ fKind a = 0 := fun h => c5 ((kind_zeroB a).1 h)
            have f1 := fin_of cn1 c2
            have f2 := fin_of cn2 c3
            have m1 : fMag a ≠ 0 := fun h => c5 ((zeroB_mag f1).2 h)
            have m2 : fMag b ≠ 0 := fun h => c4 ((zeroB_mag f2).2 h)
            have n1 := norm3_ok m1
            have n2 := norm3_ok m2
            obtain ⟨a1, a2, a3⟩ := nrm_bd m1 (fMag_lt a)
            obtain ⟨b1, b2, b3⟩ := nrm_bd m2 (fMag_lt b)
            obtain ⟨p1, p2⟩ := fPl_bd a
            obtain ⟨q1, q2⟩ := fPl_bd b
            have hw1 : nrm (fMag a) ≤ 52 := by unfold nrm; omega
            have hw2 : nrm (fMag b) ≤ 52 := by unfold nrm; omega
            obtain ⟨g1, g2, g3⟩ := quo_near m1 m2 (fMag_lt a) (fMag_lt b) (fPl a) (fPl b) (fNeg a != fNeg b)
            rw [← g1]
            unfold two52 at a2 b2
            have hlp := fun x0 x1 x2 x3 x4 x5 x6 x7 x8 x10 => div_loop (x0 := x0) (x1 := x1) (x2 := x2) (x3 := x3) (x4 := x4) (x5 := x5) (x6 := x6) (x7 := x7) (x8 := x8) (x10 := x10) b2 b3 a3 61 (i := 0) rfl
            simp only [Nat.pow_zero, Nat.mul_one, show ((0 : Nat) : Int) = 0 from rfl] at hlp
            generalize hX : fMag a * 2 ^ nrm (fMag a) = X at *
            generalize hY : fMag b * 2 ^ nrm (fMag b) = Y at *
            have e0 : (B.sub .i64).den (Vi (fPl a - nrm (fMag a))) (Vi (fPl b - nrm (fMag b))) = Vi (fPl a - nrm (fMag a) - (fPl b - nrm (fMag b))) := sub_i (by omega) (by omega)
            generalize hE : fPl a - nrm (fMag a) - (fPl b - nrm (fMag b)) = E at *
            have e1 : (B.sub .i64).den (Vi E) (Vi 61) = Vi (E - 61) := sub_i (by omega) (by omega)
            have e2 : (B.quo .u64).den (Vu X) (Vu Y) = Vu (X / Y) := quo_u (by omega)
            have e3 : ¬ Y = 0 := by omega
            have hQ : X * 2 ^ 61 / Y < 18446744073709551616 := by
              rw [Nat.div_lt_iff_lt_mul (by omega)]
              have h2 : 18446744073709551616 * 4503599627370496 ≤ 18446744073709551616 * Y := Nat.mul_le_mul_left _ b2
              omega
            obtain ⟨f, hw⟩ := wide_ok (neg := fNeg a != fNeg b) (more := decide (X * 2 ^ 61 % Y ≠ 0)) (m := X * 2 ^ 61 / Y) (e := E - 61) g2 hQ (by omega) (by omega) (fun _ => by unfold lastP; omega)
            have hw' : val 305 [Vb (fNeg a != fNeg b), Vu (X * 2 ^ 61 / Y), Vi (E - 61), Vb (decide (X * 2 ^ 61 % Y ≠ 0))] = some [Vu (nearV (fNeg a != fNeg b) (quoN X Y 61) (E - 61 - 1)), f] := hw
            have e4 : B.ne.den (Vu (X * 2 ^ 61 % Y)) (Vu 0) = Vb (decide (X * 2 ^ 61 % Y ≠ 0)) := ne_u
            generalize nearV (fNeg a != fNeg b) (quoN X Y 61) (E - 61 - 1) = res at *
            generalize decide (X * 2 ^ 61 % Y ≠ 0) = mo at *
            generalize X * 2 ^ 61 / Y = Q at *
            generalize X * 2 ^ 61 % Y = R at *
            refine ⟨f, val_of tab300 ?_⟩
            simp [-ne_u, tr300, TT.dv, KS.dv, s1, s2, k1, k2, hn, z1, z2, i1, i2, n1, n2, ne_u (a := Y) (b := 0), e0, e1, e2, e3, hlp, e4, hw']
end Go.Proofs.Ytogcdllpjcnbkaa.Dx

namespace Go.Proofs.Ytogcdllpjcnbkaa.Dx
open Go

def sumV (s t : Bool) (m n : Nat) (i j : Int) : Nat :=
  nearV (if sg s m * 2 ^ (i - min i j).toNat + sg t n * 2 ^ (j - min i j).toNat = 0 then s && t else decide (sg s m * 2 ^ (i - min i j).toNat + sg t n * 2 ^ (j - min i j).toNat < 0))
    (sg s m * 2 ^ (i - min i j).toNat + sg t n * 2 ^ (j - min i j).toNat).natAbs (min i j)
theorem sumV_comm (s t : Bool) (m n : Nat) (i j : Int) : sumV s t m n i j = sumV t s n m j i := by
  unfold sumV
  rw [Int.add_comm, Bool.and_comm, show min i j = min j i by omega]
def addV (a b : Nat) : Nat :=
  if nanB a ∨ nanB b then nan0 else
  if infB a then (if infB b ∧ fNeg a ≠ fNeg b then nan0 else a) else
  if infB b then b else sumV (fNeg a) (fNeg b) (fMag a) (fMag b) (fPl a) (fPl b)
theorem addV_lt {a b : Nat} (ha : a < 18446744073709551616) (hb : b < 18446744073709551616) : addV a b < 18446744073709551616 := by
  have h3 : nan0 < 18446744073709551616 := by decide
  unfold addV
  repeat' split
  all_goals first | exact h3 | exact ha | exact hb | exact word_lt _ _ _
theorem near0 {neg : Bool} {m : Nat} {e : Int} (hm : m < 18446744073709551616) (he : -1137 ≤ e) (he2 : e < 9000000000000) : ∃ f, val 283 [Vb neg, Vu m, Vi e, Vb false] = some [Vu (nearV neg m e), f] := by
  have h := near_ok (neg := neg) (more := false) hm he he2 (fun h => by cases h)
  have h2 := (near_scale neg m e 1).1
  rw [Nat.pow_one, Nat.mul_comm] at h2
  simp only [Bool.toNat_false, Nat.add_zero] at h
  rw [show nearV neg (2 * m) (e - 1) = nearV neg m e from h2] at h
  exact ⟨_, h⟩
/-- A number divided by a power of two, what is left in its lowest digit. -/
def rgt (M d : Nat) : Nat := if M % 2 ^ min d 63 = 0 then M / 2 ^ min d 63 else 2 * (M / 2 ^ min d 63 / 2) + 1
theorem right_ok {M d : Nat} (hM : M < 18446744073709551616) (hd : d < 9223372036854775808) : val 290 [Vu M, Vi d] = some [Vu (rgt M d)] := by
  refine val_of tab290 ?_
  have e0 : ∃ t : Nat, t = min d 63 := ⟨_, rfl⟩
  obtain ⟨t, ht⟩ := e0
  unfold rgt
  rw [← ht]
  have e1 : (B.shr .u64).den (Vu M) (Vi t) = Vu (M / 2 ^ t) := by rw [shr_uI rfl, Nat.min_eq_left (by omega)]
  have e2 : (B.shl .u64).den (Vu (M / 2 ^ t)) (Vi t) = Vu (M / 2 ^ t * 2 ^ t) := by
    rw [shl_uI rfl, Nat.min_eq_left (by omega), Nat.mod_eq_of_lt]
    exact Nat.lt_of_le_of_lt (Nat.div_mul_le_self _ _) hM
  have e3 : M / 2 ^ t * 2 ^ t = M ↔ M % 2 ^ t = 0 := by
    have := Nat.div_add_mod M (2 ^ t)
    rw [Nat.mul_comm] at this
    omega
  have hq : M / 2 ^ t < 18446744073709551616 := Nat.lt_of_le_of_lt (Nat.div_le_self _ _) hM
  have e4 : (B.or .u64).den (Vu (M / 2 ^ t)) (Vu 1) = Vu (2 * (M / 2 ^ t / 2) + 1) := by
    generalize M / 2 ^ t = q at *
    rcases (show q % 2 = 0 ∨ q % 2 = 1 by omega) with h | h
    · have := or_add (a := q / 2) (b := 1) (i := 1) (by omega) (by omega) (by omega)
      rw [show 2 ^ 1 * (q / 2) = q by omega] at this
      rw [this]; exact congrArg Vu (by omega)
    · rw [or_u hq (by omega)]
      refine congrArg Vu ?_
      have := Nat.two_pow_add_eq_or_of_lt (b := 1) (i := 1) (by omega) (q / 2)
      rw [Nat.pow_one, show 2 * (q / 2) + 1 = q by omega] at this
      conv => lhs; rw [this, Nat.or_assoc, Nat.or_self, ← this]
      omega
  generalize M / 2 ^ t = q at *
  by_cases hd63 : (d : Int) > 63
  · have ht63 : t = 63 := by omega
    rw [ht63] at e1 e2 e3 ⊢
    have e1' : (B.shr .u64).den (Vu M) (Vi 63) = Vu q := e1
    have e2' : (B.shl .u64).den (Vu q) (Vi 63) = Vu (q * 2 ^ 63) := e2
    have h63 : (63 : Int) < d := by omega
    generalize q * 2 ^ 63 = z at *
    by_cases hc : z = M
    · rw [if_pos (e3.1 hc)]
      simp [-shl_u_lit, -shr_u_lit, tr290, TT.dv, KS.dv, h63, e1', e2', hc]
    · rw [if_neg (fun h => hc (e3.2 h))]
      simp [-shl_u_lit, -shr_u_lit, tr290, TT.dv, KS.dv, h63, e1', e2', hc, e4]
  · have ht63 : t = d := by omega
    subst ht63
    have h63 : ¬ (63 : Int) < t := by omega
    generalize q * 2 ^ t = z at *
    by_cases hc : z = M
    · rw [if_pos (e3.1 hc)]
      simp [-shl_u_lit, -shr_u_lit, tr290, TT.dv, KS.dv, h63, e1, e2, hc]
    · rw [if_neg (fun h => hc (e3.2 h))]
      simp [-shl_u_lit, -shr_u_lit, tr290, TT.dv, KS.dv, h63, e1, e2, hc, e4]
end Go.Proofs.Ytogcdllpjcnbkaa.Dx

namespace Go.Proofs.Ytogcdllpjcnbkaa.Dx
open Go

theorem near_half {N k r : Nat} (p : Int) (hN : 2 ^ 56 ≤ N) (h0 : 0 < r) (hr : r < 2 ^ k) : nearR (N * 2 ^ k + r) (p - k) = nearR (2 * (N / 2) + 1) p := by
  have h56 : (2 : Nat) ^ 56 = 72057594037927936 := rfl
  rw [h56] at hN
  have hM : N / 2 ≠ 0 := by omega
  have hlog : 55 ≤ (N / 2).log2 := by
    rw [Nat.le_log2 hM]
    show 36028797018963968 ≤ N / 2
    omega
  have e1 : N * 2 ^ k + r = N / 2 * 2 ^ (k + 1) + (N % 2 * 2 ^ k + r) := by
    rw [Nat.pow_succ, ← Nat.mul_assoc, Nat.mul_right_comm, ← Nat.add_assoc, ← Nat.add_mul, Nat.mul_comm (N / 2), Nat.div_add_mod]
  have e2 : N % 2 * 2 ^ k + r < 2 ^ (k + 1) := by
    rw [Nat.pow_succ]
    have : N % 2 * 2 ^ k ≤ 1 * 2 ^ k := Nat.mul_le_mul_right _ (by omega)
    omega
  have := (near_sticky hM (p := p + 1) (by unfold lastP; omega) (show 0 < N % 2 * 2 ^ k + r by omega) e2).1
  rw [e1, show p - (k : Int) = p + 1 - ((k + 1 : Nat) : Int) by omega, this]
  exact congrArg _ (by omega)
theorem rgt_small {n d : Nat} (hd : d ≤ 9) : rgt (n * 512) d = n * 2 ^ (9 - d) := by
  have e : n * 512 = n * 2 ^ (9 - d) * 2 ^ d := by
    rw [Nat.mul_assoc, ← Nat.pow_add, show 9 - d + d = 9 by omega]
  unfold rgt
  rw [Nat.min_eq_left (by omega), e, Nat.mul_mod_left, if_pos rfl, Nat.mul_div_cancel _ (Nat.two_pow_pos _)]
theorem rgt_big {n d : Nat} (hd : 10 ≤ d) (hn : n < 9007199254740992) : rgt (n * 512) d = if n % 2 ^ (d - 9) = 0 then n / 2 ^ (d - 9) else 2 * (n / 2 ^ (d - 9) / 2) + 1 := by
  unfold rgt
  by_cases h : d ≤ 63
  · rw [Nat.min_eq_left h]
    have e : 2 ^ d = 2 ^ (d - 9) * 512 := by rw [show (512 : Nat) = 2 ^ 9 from rfl, ← Nat.pow_add]; exact congrArg _ (by omega)
    rw [e, Nat.mul_mod_mul_right, Nat.mul_div_mul_right _ _ (by omega)]
    have : (n % 2 ^ (d - 9) * 512 = 0) ↔ (n % 2 ^ (d - 9) = 0) := by omega
    by_cases hc : n % 2 ^ (d - 9) = 0
    · rw [if_pos (this.2 hc), if_pos hc]
    · rw [if_neg (fun h => hc (this.1 h)), if_neg hc]
  · rw [Nat.min_eq_right (by omega)]
    have h1 : 2 ^ 54 ≤ 2 ^ (d - 9) := Nat.pow_le_pow_right (by omega) (by omega)
    rw [show (2 : Nat) ^ 54 = 18014398509481984 from rfl] at h1
    rw [Nat.mod_eq_of_lt (show n < 2 ^ (d - 9) by omega), Nat.div_eq_of_lt (show n < 2 ^ (d - 9) by omega), show (2 : Nat) ^ 63 = 9223372036854775808 from rfl, Nat.mod_eq_of_lt (by omega), Nat.div_eq_of_lt (by omega)]
    by_cases hc : n = 0
    · subst hc; rfl
    · rw [if_neg (by omega), if_neg hc]
/-- What is far below: a number cut, and what is left of it. -/
theorem far_parts {n k : Nat} (hk : 1 ≤ k) (hn : n < 9007199254740992) : ∃ q r, n = q * 2 ^ k + r ∧ r < 2 ^ k ∧ q < 4503599627370496 ∧ n % 2 ^ k = r ∧ n / 2 ^ k = q := by
  refine ⟨n / 2 ^ k, n % 2 ^ k, by rw [Nat.mul_comm]; exact (Nat.div_add_mod _ _).symm, Nat.mod_lt _ (Nat.two_pow_pos _), ?_, rfl, rfl⟩
  have h1 : n / 2 ^ k ≤ n / 2 := Nat.div_le_div_left (by have := Nat.pow_le_pow_right (show 0 < 2 by omega) hk; omega) (by omega)
  omega
theorem nearR_of {n : Nat} {p q : Int} (h : p = q) : nearR n p = nearR n q := by rw [h]
theorem sum_plus {m n d : Nat} (e : Int) (hm : m < 9007199254740992) (hn : n < 9007199254740992) (h : d ≤ 9 ∨ 4503599627370496 ≤ m) : nearR (m * 512 + rgt (n * 512) d) e = nearR (m * 2 ^ d + n) (e + 9 - d) := by
  by_cases hd : d ≤ 9
  · rw [rgt_small hd]
    have e1 : m * 512 + n * 2 ^ (9 - d) = (m * 2 ^ d + n) * 2 ^ (9 - d) := by
      rw [Nat.add_mul, Nat.mul_assoc, ← Nat.pow_add, show d + (9 - d) = 9 by omega]
    have := (near_scale true (m * 2 ^ d + n) (e + 9 - d) (9 - d)).2.2
    rw [e1, ← this]
    exact nearR_of (by omega)
  · obtain ⟨q, r, h1, h2, h3, h4, h5⟩ := far_parts (n := n) (k := d - 9) (by omega) hn
    rw [rgt_big (by omega) hn, h4, h5]
    have hmp : m * 2 ^ d = m * 512 * 2 ^ (d - 9) := by rw [Nat.mul_assoc, show (512 : Nat) = 2 ^ 9 from rfl, ← Nat.pow_add]; exact congrArg _ (congrArg _ (by omega))
    have hT : m * 2 ^ d + n = (m * 512 + q) * 2 ^ (d - 9) + r := by rw [hmp, h1, Nat.add_mul]; omega
    rw [hT]
    by_cases hr : r = 0
    · rw [if_pos hr, hr, Nat.add_zero]
      have := (near_scale true (m * 512 + q) e (d - 9)).2.2
      rw [← this]
      exact nearR_of (by omega)
    · rw [if_neg hr]
      have := near_half (N := m * 512 + q) (k := d - 9) (r := r) e (by rw [show (2 : Nat) ^ 56 = 72057594037927936 from rfl]; omega) (by omega) h2
      rw [show e + 9 - (d : Int) = e - ((d - 9 : Nat) : Int) by omega, this]
      exact congrArg (nearR · e) (by omega)
theorem sum_minus {m n d : Nat} (e : Int) (hm : m < 9007199254740992) (hn : n < 9007199254740992) (h : d ≤ 9 ∨ 4503599627370496 ≤ m) :
    (rgt (n * 512) d < m * 512 ↔ n < m * 2 ^ d) ∧ (m * 512 < rgt (n * 512) d ↔ m * 2 ^ d < n) ∧
    (n < m * 2 ^ d → nearR (m * 512 - rgt (n * 512) d) e = nearR (m * 2 ^ d - n) (e + 9 - d)) ∧ (m * 2 ^ d < n → nearR (rgt (n * 512) d - m * 512) e = nearR (n - m * 2 ^ d) (e + 9 - d)) := by
  by_cases hd : d ≤ 9
  · rw [rgt_small hd]
    have e0 : m * 512 = m * 2 ^ d * 2 ^ (9 - d) := by rw [Nat.mul_assoc, ← Nat.pow_add, show d + (9 - d) = 9 by omega]
    have hp := Nat.two_pow_pos (9 - d)
    rw [e0, ← Nat.mul_sub_right_distrib, ← Nat.mul_sub_right_distrib]
    refine ⟨Nat.mul_lt_mul_right hp, Nat.mul_lt_mul_right hp, fun _ => ?_, fun _ => ?_⟩
    · rw [← (near_scale true (m * 2 ^ d - n) (e + 9 - d) (9 - d)).2.2]
      exact nearR_of (by omega)
    · rw [← (near_scale true (n - m * 2 ^ d) (e + 9 - d) (9 - d)).2.2]
      exact nearR_of (by omega)
  · obtain ⟨q, r, h1, h2, h3, h4, h5⟩ := far_parts (n := n) (k := d - 9) (by omega) hn
    rw [rgt_big (by omega) hn, h4, h5]
    have hmp : m * 2 ^ d = m * 512 * 2 ^ (d - 9) := by rw [Nat.mul_assoc, show (512 : Nat) = 2 ^ 9 from rfl, ← Nat.pow_add]; exact congrArg _ (congrArg _ (by omega))
    have hbig : n < m * 2 ^ d := by
      rw [hmp]
      have : m * 512 * 1 ≤ m * 512 * 2 ^ (d - 9) := Nat.mul_le_mul_left _ (Nat.two_pow_pos _)
      omega
    have hsm : (if r = 0 then q else 2 * (q / 2) + 1) < m * 512 := by split <;> omega
    refine ⟨⟨fun _ => hbig, fun _ => hsm⟩, ⟨fun h => by omega, fun h => by omega⟩, fun _ => ?_, fun h => by omega⟩
    by_cases hr : r = 0
    · rw [if_pos hr]
      have hT : m * 2 ^ d - n = (m * 512 - q) * 2 ^ (d - 9) := by rw [hmp, h1, hr, Nat.add_zero, ← Nat.mul_sub_right_distrib]
      rw [hT, ← (near_scale true (m * 512 - q) e (d - 9)).2.2]
      exact nearR_of (by omega)
    · rw [if_neg hr]
      have hT : m * 2 ^ d - n = (m * 512 - q - 1) * 2 ^ (d - 9) + (2 ^ (d - 9) - r) := by
        rw [hmp, h1]
        have e3 : m * 512 * 2 ^ (d - 9) = (m * 512 - q - 1) * 2 ^ (d - 9) + (q * 2 ^ (d - 9) + 1 * 2 ^ (d - 9)) := by
          rw [← Nat.add_mul, ← Nat.add_mul]; exact congrArg (· * _) (by omega)
        omega
      have := near_half (N := m * 512 - q - 1) (k := d - 9) (r := 2 ^ (d - 9) - r) e (by rw [show (2 : Nat) ^ 56 = 72057594037927936 from rfl]; omega) (by omega) (by omega)
      rw [hT, show e + 9 - (d : Int) = e - ((d - 9 : Nat) : Int) by omega, this]
      exact congrArg (nearR · e) (by omega)
end Go.Proofs.Ytogcdllpjcnbkaa.Dx

namespace Go.Proofs.Ytogcdllpjcnbkaa.Dx
open Go

theorem sg_shift (s : Bool) (m d : Nat) : sg s m * 2 ^ d = sg s (m * 2 ^ d) := by
  unfold sg
  cases s
  · simp
  · simp [Int.neg_mul]
theorem sumV_ge (s t : Bool) (m n : Nat) {i j : Int} (d : Nat) (h : i = j + d) :
    sumV s t m n i j = if s = t then nearV s (m * 2 ^ d + n) j else if n < m * 2 ^ d then nearV s (m * 2 ^ d - n) j else if m * 2 ^ d < n then nearV t (n - m * 2 ^ d) j else 0 := by
  unfold sumV
  have hmin : min i j = j := by omega
  rw [hmin, show (i - j).toNat = d by omega, show (j - j).toNat = 0 by omega, sg_shift, sg_shift, Nat.pow_zero, Nat.mul_one]
  generalize m * 2 ^ d = A
  have hz : ∀ (u : Bool) p, nearV u 0 p = sgn u 0 := nearV_zero
  cases s <;> cases t <;> simp only [sg, if_true, if_false, Bool.false_eq_true, Bool.and_self, Bool.and_false, Bool.and_true, reduceCtorEq, Bool.true_eq_false]
  · rw [show ((A : Int) + n).natAbs = A + n by omega]
    split
    · rfl
    · rw [decide_eq_false (by omega)]
  · by_cases h1 : n < A
    · rw [if_pos h1, if_neg (by omega), decide_eq_false (by omega)]
      exact congrArg (fun x => nearV false x j) (by omega)
    · rw [if_neg h1]
      by_cases h2 : A < n
      · rw [if_pos h2, if_neg (by omega), decide_eq_true (by omega)]
        exact congrArg (fun x => nearV true x j) (by omega)
      · rw [if_neg h2, if_pos (by omega), show ((A : Int) + -(n : Int)).natAbs = 0 by omega, hz]; rfl
  · by_cases h1 : n < A
    · rw [if_pos h1, if_neg (by omega), decide_eq_true (by omega)]
      exact congrArg (fun x => nearV true x j) (by omega)
    · rw [if_neg h1]
      by_cases h2 : A < n
      · rw [if_pos h2, if_neg (by omega), decide_eq_false (by omega)]
        exact congrArg (fun x => nearV false x j) (by omega)
      · rw [if_neg h2, if_pos (by omega), show (-(A : Int) + (n : Int)).natAbs = 0 by omega, hz]; rfl
  · rw [show (-(A : Int) + -(n : Int)).natAbs = A + n by omega]
    split
    · rfl
    · rw [decide_eq_true (by omega)]
theorem special_ok {a b : Nat} (ha : a < 18446744073709551616) (hb : b < 18446744073709551616) (h : ¬ (fPow a ≠ 2047 ∧ fPow b ≠ 2047)) : ∃ f, val 291 [Vu a, Vu b] = some [Vu (addV a b), f] := by
  have k1 := kind_ok a
  have k2 := kind_ok b
  have f1 := finite_ok a
  have f2 := finite_ok b
  unfold addV
  by_cases c1 : nanB a
  · rw [if_pos (.inl c1)]
    rw [(kind_nan a).2 c1] at k1
    refine ⟨Vy 0, val_of tab291 ?_⟩
    simp [tr291, TT.dv, KS.dv, k1, nan0]
  have i1 : ¬ fKind a = 4 := fun h => c1 ((kind_nan a).1 h)
  by_cases c2 : nanB b
  · rw [if_pos (.inr c2)]
    rw [(kind_nan b).2 c2] at k2
    refine ⟨Vy 0, val_of tab291 ?_⟩
    simp [tr291, TT.dv, KS.dv, k1, k2, i1, nan0]
  have i2 : ¬ fKind b = 4 := fun h => c2 ((kind_nan b).1 h)
  rw [if_neg (by simp [c1, c2])]
  by_cases c3 : infB a
  · rw [if_pos c3]
    have e1 : fPow a = 2047 := c3.1
    by_cases c4 : infB b
    · have e2 : fPow b = 2047 := c4.1
      have ea := inf_word ha c3
      have eb := inf_word hb c4
      by_cases c5 : fNeg a = fNeg b
      · rw [if_neg (by simp [c5])]
        have hab : a = b := by rw [ea, eb, c5]
        refine ⟨Vy 0, val_of tab291 ?_⟩
        simp [tr291, TT.dv, KS.dv, k2, i2, f2, e2, hab]
      · rw [if_pos ⟨c4, c5⟩]
        have hab : ¬ a = b := fun h => c5 (by rw [h])
        refine ⟨Vy 16, val_of tab291 ?_⟩
        simp [tr291, TT.dv, KS.dv, k1, k2, i1, i2, f1, f2, e1, e2, hab, nan0]
    · rw [if_neg (by simp [c4])]
      have e2 := fin_of c2 c4
      refine ⟨Vy 0, val_of tab291 ?_⟩
      simp [tr291, TT.dv, KS.dv, k1, k2, i1, i2, f1, f2, e1, e2]
  · rw [if_neg c3]
    have e1 := fin_of c1 c3
    have c4 : infB b := by
      by_cases h4 : infB b
      · exact h4
      · exact absurd ⟨e1, fin_of c2 h4⟩ h
    rw [if_pos c4]
    refine ⟨Vy 0, val_of tab291 ?_⟩
    simp [tr291, TT.dv, KS.dv, k1, k2, i1, i2, f1, f2, e1]
/-- The part of Add behind the turning round. -/
def tail288 : TT Unit := match tr288 with | .call _ _ _ _ (.call _ _ _ _ (.ite _ _ (.call _ _ _ _ (.call _ _ _ _ (.call _ _ _ _ (.call _ _ _ _ (.scope _ (.cons _ t _)))))))) => t | t => t
theorem rgt_le (M d : Nat) : rgt M d ≤ M := by
  unfold rgt
  have := Nat.div_le_self M (2 ^ min d 63)
  split
  · exact this
  · rename_i h5
    have h2 := Nat.div_add_mod M (2 ^ min d 63)
    have h3 : 0 < 2 ^ min d 63 := Nat.two_pow_pos _
    by_cases h4 : 2 ^ min d 63 = 1
    · rw [h4, Nat.mod_one] at h5; exact absurd rfl h5
    · have h6 := Nat.div_le_div_left (show 2 ≤ 2 ^ min d 63 by omega) (by omega) (a := M)
      generalize 2 ^ min d 63 = z at *
      omega
theorem tail_ok {x0 x1 x2 x3 x4 x5 x6 x7 x8 x9 : PV} {s t : Bool} {m n : Nat} {i j : Int} (d : Nat) (h : i = j + d) (hm : m < 9007199254740992) (hn : n < 9007199254740992) (hb : d ≤ 9 ∨ 4503599627370496 ≤ m) (hj : -1074 ≤ j) (hi : i ≤ 972) :
    ∃ f, tail288.dv [x0, x1, x2, x3, x4, x5, x6, x7, x8, x9, Vu m, Vi i, Vu n, Vi j, Vb s, Vb t] = some (.y .ret [Vu (sumV s t m n i j), f]) := by
  rw [sumV_ge s t m n d h]
  have e1 : (B.shl .u64).den (Vu n) (Vu 9) = Vu (n * 512) := by
    rw [shl_uU]; refine congrArg Vu ?_
    show n * 512 % _ = _; omega
  have e2 : (B.shl .u64).den (Vu m) (Vu 9) = Vu (m * 512) := by
    rw [shl_uU]; refine congrArg Vu ?_
    show m * 512 % _ = _; omega
  have e3 : (B.sub .i64).den (Vi i) (Vi j) = Vi d := by rw [sub_i (by omega) (by omega)]; exact congrArg Vi (by omega)
  have e4 : (B.sub .i64).den (Vi i) (Vi 9) = Vi (i - 9) := sub_i (by omega) (by omega)
  have e5 := right_ok (M := n * 512) (d := d) (by omega) (by omega)
  have hr := rgt_le (n * 512) d
  have l1 : -1137 ≤ i - 9 := by omega
  have l2 : i - 9 < 9000000000000 := by omega
  have l3 : i - 9 + 9 - (d : Int) = j := by omega
  have hp := sum_plus (i - 9) hm hn hb
  obtain ⟨q1, q2, q3, q4⟩ := sum_minus (i - 9) hm hn hb
  rw [l3] at hp q3 q4
  generalize rgt (n * 512) d = y at *
  have m64 : m * 512 < 18446744073709551616 := by clear hp q1 q2 q3 q4 e5; omega
  have y64 : y < 18446744073709551616 := by clear hp q1 q2 q3 q4 e5; omega
  have my64 : m * 512 + y < 18446744073709551616 := Nat.lt_of_le_of_lt (Nat.add_le_add (Nat.mul_le_mul_right 512 (Nat.le_of_lt hm)) (Nat.le_trans hr (Nat.mul_le_mul_right 512 (Nat.le_of_lt hn)))) (by decide)
  by_cases hs : s = t
  · rw [if_pos hs]
    subst hs
    have a1 : (m * 512 + y) % 18446744073709551616 = m * 512 + y := Nat.mod_eq_of_lt my64
    obtain ⟨f, hf⟩ := near0 (neg := s) (m := m * 512 + y) (e := i - 9) my64 l1 l2
    have hV : nearV s (m * 512 + y) (i - 9) = nearV s (m * 2 ^ d + n) j := by unfold nearV; rw [hp]
    rw [hV] at hf
    refine ⟨f, ?_⟩
    simp [-shl_u_lit, tail288, tr288, TT.dv, e1, e2, e3, e4, e5, a1, hf]
  · rw [if_neg hs]
    by_cases c1 : n < m * 2 ^ d
    · rw [if_pos c1]
      have c1' := q1.2 c1
      have a1 : (B.sub .u64).den (Vu (m * 512)) (Vu y) = Vu (m * 512 - y) := sub_u (Nat.le_of_lt c1') m64
      obtain ⟨f, hf⟩ := near0 (neg := s) (m := m * 512 - y) (e := i - 9) (Nat.lt_of_le_of_lt (Nat.sub_le _ _) m64) l1 l2
      have hV : nearV s (m * 512 - y) (i - 9) = nearV s (m * 2 ^ d - n) j := by unfold nearV; rw [q3 c1]
      rw [hV] at hf
      refine ⟨f, ?_⟩
      simp [-shl_u_lit, tail288, tr288, TT.dv, e1, e2, e3, e4, e5, hs, c1', a1, hf]
    · rw [if_neg c1]
      have c1' : ¬ y < m * 512 := fun h => c1 (q1.1 h)
      by_cases c2 : m * 2 ^ d < n
      · rw [if_pos c2]
        have c2' := q2.2 c2
        have a1 : (B.sub .u64).den (Vu y) (Vu (m * 512)) = Vu (y - m * 512) := sub_u (Nat.le_of_lt c2') y64
        obtain ⟨f, hf⟩ := near0 (neg := t) (m := y - m * 512) (e := i - 9) (Nat.lt_of_le_of_lt (Nat.sub_le _ _) y64) l1 l2
        have hV : nearV t (y - m * 512) (i - 9) = nearV t (n - m * 2 ^ d) j := by unfold nearV; rw [q4 c2]
        rw [hV] at hf
        refine ⟨f, ?_⟩
        simp [-shl_u_lit, tail288, tr288, TT.dv, e1, e2, e3, e4, e5, hs, c1', c2', a1, hf]
      · rw [if_neg c2]
        have c2' : ¬ m * 512 < y := fun h => c2 (q2.1 h)
        refine ⟨Vy 0, ?_⟩
        simp [-shl_u_lit, tail288, tr288, TT.dv, e1, e2, e3, e4, e5, hs, c1', c2']
theorem sadd_ok {a b : Nat} (ha : a < 18446744073709551616) (hb : b < 18446744073709551616) : ∃ f, val 288 [Vu a, Vu b] = some [Vu (addV a b), f] := by
  have f1 := finite_ok a
  have f2 := finite_ok b
  by_cases hf : fPow a ≠ 2047 ∧ fPow b ≠ 2047
  · obtain ⟨g1, g2⟩ := hf
    have n1 : ¬ nanB a := by unfold nanB; omega
    have n2 : ¬ nanB b := by unfold nanB; omega
    have i1 : ¬ infB a := by unfold infB; omega
    have i2 : ¬ infB b := by unfold infB; omega
    have p1 := parts_ok a
    have p2 := parts_ok b
    have s1 := sign_ok a
    have s2 := sign_ok b
    have hV : addV a b = sumV (fNeg a) (fNeg b) (fMag a) (fMag b) (fPl a) (fPl b) := by unfold addV; rw [if_neg (by simp [n1, n2]), if_neg i1, if_neg i2]
    rw [hV]
    obtain ⟨b1, b2⟩ := fPl_bd a
    obtain ⟨b3, b4⟩ := fPl_bd b
    have big : ∀ c, -1074 < fPl c → 4503599627370496 ≤ fMag c := fun c hc => by
      unfold fPl at hc; unfold fMag
      by_cases h0 : fPow c = 0
      · rw [if_pos h0] at hc; omega
      · rw [if_neg h0]; omega
    by_cases hlt : fPl a < fPl b
    · rw [sumV_comm]
      obtain ⟨f, h⟩ := tail_ok (x0 := Vu a) (x1 := Vu b) (x2 := Vb true) (x3 := Vb true) (x4 := Vu (fMag a)) (x5 := Vi (fPl a)) (x6 := Vu (fMag b)) (x7 := Vi (fPl b)) (x8 := Vb (fNeg a)) (x9 := Vb (fNeg b))
        (s := fNeg b) (t := fNeg a) (m := fMag b) (n := fMag a) (i := fPl b) (j := fPl a) (fPl b - fPl a).toNat (by omega) (fMag_lt b) (fMag_lt a) (.inr (big b (by omega))) b1 b4
      refine ⟨f, val_of tab288 (Eq.trans ?_ h)⟩
      simp only [tail288]
      simp [-shl_u_lit, tr288, TT.dv, KS.dv, f1, f2, g1, g2, p1, p2, s1, s2, hlt]
    · obtain ⟨f, h⟩ := tail_ok (x0 := Vu a) (x1 := Vu b) (x2 := Vb true) (x3 := Vb true) (x4 := Vu (fMag a)) (x5 := Vi (fPl a)) (x6 := Vu (fMag b)) (x7 := Vi (fPl b)) (x8 := Vb (fNeg a)) (x9 := Vb (fNeg b))
        (s := fNeg a) (t := fNeg b) (m := fMag a) (n := fMag b) (i := fPl a) (j := fPl b) (fPl a - fPl b).toNat (by omega) (fMag_lt a) (fMag_lt b) (by
          by_cases h : -1074 < fPl a
          · exact .inr (big a h)
          · left; omega) b3 b2
      refine ⟨f, val_of tab288 (Eq.trans ?_ h)⟩
      simp only [tail288]
      simp [-shl_u_lit, tr288, TT.dv, KS.dv, f1, f2, g1, g2, p1, p2, s1, s2, hlt]
  · obtain ⟨f, h⟩ := special_ok ha hb hf
    refine ⟨f, val_of tab288 ?_⟩
    by_cases g1 : fPow a = 2047
    · simp [tr288, TT.dv, KS.dv, f1, f2, g1, h]
    · have g2 : fPow b = 2047 := by omega
      simp [tr288, TT.dv, KS.dv, f1, f2, g1, g2, h]
end Go.Proofs.Ytogcdllpjcnbkaa.Dx

namespace Go.Proofs.Ytogcdllpjcnbkaa.Dx
open Go

theorem minus_neg {b : Nat} (hb : b < 18446744073709551616) : fNeg (fMinus b) = !fNeg b ∧ fPow (fMinus b) = fPow b ∧ fFrac (fMinus b) = fFrac b ∧ fMinus b < 18446744073709551616 := by
  unfold fMinus fNeg fPow fFrac
  by_cases h : b < 9223372036854775808
  · rw [if_pos h]
    refine ⟨?_, by omega, by omega, by omega⟩
    rw [show (b + 9223372036854775808) / 9223372036854775808 = 1 by omega, show b / 9223372036854775808 = 0 by omega]; rfl
  · rw [if_neg h]
    refine ⟨?_, by omega, by omega, by omega⟩
    rw [show (b - 9223372036854775808) / 9223372036854775808 = 0 by omega, show b / 9223372036854775808 = 1 by omega]; rfl
def subV (a b : Nat) : Nat := addV a (fMinus b)
theorem subV_lt {a b : Nat} (ha : a < 18446744073709551616) (hb : b < 18446744073709551616) : subV a b < 18446744073709551616 := addV_lt ha (minus_neg hb).2.2.2
section
variable {a b : Nat} (ha : a < 18446744073709551616) (hb : b < 18446744073709551616)
include ha hb
theorem vadd_ok : val 306 [Vu a, Vu b] = some [Vu (addV a b)] := by
  refine val_of tab306 ?_
  obtain ⟨f, h⟩ := sadd_ok ha hb
  simp [tr306, TT.dv, h]
theorem vsub_ok : val 317 [Vu a, Vu b] = some [Vu (subV a b)] := by
  refine val_of tab317 ?_
  obtain ⟨f, h⟩ := sadd_ok ha (minus_neg hb).2.2.2
  have h2 : val 289 [Vu a, Vu b] = some [Vu (subV a b), f] := by
    refine val_of tab289 ?_
    simp [tr289, TT.dv, minus_ok hb, h, subV]
  simp [tr317, TT.dv, h2]
theorem vmul_ok : val 313 [Vu a, Vu b] = some [Vu (mulV a b)] := by
  refine val_of tab313 ?_
  obtain ⟨f, h⟩ := times_ok ha hb
  simp [tr313, TT.dv, h]
theorem vdiv_ok : val 310 [Vu a, Vu b] = some [Vu (divV a b)] := by
  refine val_of tab310 ?_
  obtain ⟨f, h⟩ := div_ok ha hb
  simp [tr310, TT.dv, h]
end
section
variable {b : Nat} (hb : b < 18446744073709551616)
include hb
theorem vsqrt_ok : val 316 [Vu b] = some [Vu (sqrtV b)] := by
  refine val_of tab316 ?_
  simp [tr316, TT.dv, sqrt_ok hb]
end
theorem vshift_ok (b : Nat) (k : Int) : val 315 [Vu b, Vi k] = some [Vu (scaleV b k)] := by
  refine val_of tab315 ?_
  simp [tr315, TT.dv, scale_ok]
end Go.Proofs.Ytogcdllpjcnbkaa.Dx

namespace Go.Proofs.Ytogcdllpjcnbkaa.Dx
open Go

def Words (x : List Nat) : Prop := ∀ a ∈ x, a < 18446744073709551616
def el (x : List Nat) (i : Nat) : Nat := x.getD i 0
def Vl (x : List Nat) : PV := .l (x.map Vu)
@[simp] theorem len_V (x : List Nat) : U.len.den (Vl x) = Vi x.length := by simp [Vl]
theorem get_V {x : List Nat} {i : Nat} (h : i < x.length) : B.get.den (Vl x) (Vi i) = Vu (el x i) := by
  rw [Vl, get_l _ rfl]
  simp [el, List.getD_eq_getElem?_getD, h]
@[simp] theorem nil_V : PV.l [] = Vl [] := rfl
@[simp] theorem wl_nil_V : wl [] = Vl [] := rfl
theorem app_V (x : List Nat) (a : Nat) : B.app.den (Vl x) (B.cons.den (Vu a) (Vl [])) = Vl (x ++ [a]) := by
  rw [Vl, Vl, List.map_nil, cons_l, app_l]; simp [Vl]
theorem Words.el {x : List Nat} (h : Words x) (i : Nat) : el x i < 18446744073709551616 := by
  rw [Dx.el, List.getD_eq_getElem?_getD]
  cases hx : x[i]? with
  | none => simp
  | some a => exact h a (List.mem_of_getElem? hx)

theorem pv_u64 {p : PV} (h : PvT (.int .u64) p) : ∃ n : Nat, p = Vu n ∧ n < 18446744073709551616 := by
  obtain ⟨a, rfl, hw⟩ := h
  obtain ⟨n, rfl, hn⟩ := wf_u64 hw
  exact ⟨n, rfl, hn⟩
theorem pv_i64 {p : PV} (h : PvT (.int .i64) p) : ∃ x : Int, p = Vi x ∧ -9223372036854775808 ≤ x ∧ x < 9223372036854775808 := by
  obtain ⟨a, rfl, hw⟩ := h
  exact ⟨a, rfl, wf_i64 hw⟩
theorem pv_bool {p : PV} (h : PvT .bool p) : ∃ b : Bool, p = Vb b := h
theorem pv_lu {p : PV} (h : PvT (.sl .u64) p) : ∃ x : List Nat, p = Vl x ∧ Words x ∧ x.length ≤ 17592186043904 := by
  obtain ⟨zs, rfl, hw, hl⟩ := h
  refine ⟨zs.map Int.toNat, ?_, ?_, ?_⟩
  · unfold Vl
    rw [List.map_map]
    refine congrArg PV.l (List.map_congr_left fun z hz => ?_)
    obtain ⟨n, rfl, _⟩ := wf_u64 (hw z hz)
    rfl
  · intro a ha
    obtain ⟨z, hz, rfl⟩ := List.mem_map.1 ha
    obtain ⟨n, rfl, hn⟩ := wf_u64 (hw z hz)
    simpa using hn
  · rw [List.length_map]
    have h1 : zs.length * 8 ≤ reachBytes := hl
    have h2 : reachBytes = 140737488351232 := rfl
    rw [h2] at h1
    omega
def dotR (x y : List Nat) : Nat → Nat → Nat → Nat
  | 0, _, s => s
  | n + 1, i, s => dotR x y n (i + 1) (addV s (mulV (el x i) (el y i)))
theorem dotR_lt {x y : List Nat} : ∀ (n : Nat) {i s : Nat}, s < 18446744073709551616 → dotR x y n i s < 18446744073709551616
  | 0, _, _, h => h
  | n + 1, i, s, h => dotR_lt n (addV_lt h mulV_lt)
section
variable {x y : List Nat} (hx : Words x) (hy : Words y) (hl : x.length = y.length) (h64 : x.length < 9000000000000000000)
include hx hy hl h64
theorem dot_loop {x2 : PV} : ∀ (n : Nat) {i s : Nat}, i + n = x.length → s < 18446744073709551616 →
    rounds (fun vs => lo311_1.dv (Vl x :: Vl y :: x2 :: vs)) [Vu s, Vi i] = some (.y (.ext 0) [Vu (dotR x y n i s)]) := by
  intro n
  induction n with
  | zero =>
    intro i s hi hs
    refine rounds_exit ?_ (by simp)
    simp [lo311_1, TT.dv, show ¬ i < x.length by omega, dotR]
  | succ n ih =>
    intro i s hi hs
    refine Eq.trans (rounds_cont ?_) (ih (i := i + 1) (s := addV s (mulV (el x i) (el y i))) (by omega) (addV_lt hs mulV_lt))
    have e1 : (B.add .i64).den (Vi i) (Vi 1) = Vi (i + 1) := add_i (by omega) (by omega)
    have g1 := get_V (x := x) (i := i) (by omega)
    have g2 := get_V (x := y) (i := i) (by omega)
    have c1 := vmul_ok (hx.el i) (hy.el i)
    have c2 := vadd_ok hs (mulV_lt (a := el x i) (b := el y i))
    simp [lo311_1, TT.dv, show i < x.length by omega, show i < y.length by omega, e1, g1, g2, c1, c2]
end
theorem fit_ok (x y : List Nat) : val 321 [Vl x, Vl y] = some [Vb (decide (x.length = y.length ∧ x.length ≤ 64))] := by
  refine val_of tab321 ?_
  have e1 : decide ((x.length : Int) = y.length) = decide (x.length = y.length) := decide_eq_decide.2 (by omega)
  have e2 : decide ((x.length : Int) ≤ 64) = decide (x.length ≤ 64) := decide_eq_decide.2 (by omega)
  simp [tr321, TT.dv, e1, e2]
def dotV (x y : List Nat) : Nat := dotR x y x.length 0 0
theorem dot_ok {x y : List Nat} (hx : Words x) (hy : Words y) : val 311 [Vl x, Vl y] = some (if x.length = y.length ∧ x.length ≤ 64 then [Vu (dotV x y), Vi 0] else [Vu 0, Vi 3]) := by
  refine val_of tab311 ?_
  have h1 := fit_ok x y
  by_cases h : x.length = y.length ∧ x.length ≤ 64
  · rw [if_pos h]
    rw [decide_eq_true h] at h1
    have hlp := dot_loop (x2 := Vb true) hx hy h.1 (by omega) x.length (i := 0) (s := 0) (by omega) (by omega)
    rw [show ((0 : Nat) : Int) = 0 from rfl] at hlp
    simp [tr311, TT.dv, KS.dv, h1, hlp, dotV]
  · rw [if_neg h]
    rw [decide_eq_false h] at h1
    simp [tr311, TT.dv, h1]
end Go.Proofs.Ytogcdllpjcnbkaa.Dx

namespace Go.Proofs.Ytogcdllpjcnbkaa.Dx
open Go

theorem max_u (a b : Nat) : (B.max .u64).den (Vu a) (Vu b) = Vu (max a b) := by
  simp only [B.den, Vu, PV.int, PV.v.injEq, Value.int.injEq, true_and]; by_cases h : (a : Int) < b <;> simp only [h, if_true, if_false] <;> omega
def absV (b : Nat) : Nat := b % 9223372036854775808
theorem absV_lt (b : Nat) : absV b < 9223372036854775808 := by unfold absV; omega
theorem nanB_absV (b : Nat) : nanB (absV b) ↔ nanB b := nanB_abs b
def bigR (x : List Nat) : Nat → Nat → Nat → Nat
  | 0, _, m => m
  | n + 1, i, m => if nanB (el x i) then nan0 else bigR x n (i + 1) (max m (absV (el x i)))
theorem rk_pos {m : Nat} (h : m < 9223372036854775808) : rk m = m := by
  unfold rk fNeg sg
  rw [if_neg (by simp; omega), Nat.mod_eq_of_lt h]
theorem nanB_max {m a : Nat} (hn : ¬ nanB m) (h : ¬ nanB a) : ¬ nanB (max m a) := by
  rcases (show max m a = m ∨ max m a = a by omega) with h1 | h1 <;> rw [h1] <;> assumption
section
variable {x : List Nat} (hx : Words x) (h64 : x.length < 9000000000000000000)
include hx h64
/-- The loop over the greatest: at a NaN it leaves. -/
theorem big_loop {x1 : PV} : ∀ (n : Nat) {i m : Nat}, i + n = x.length → m < 9223372036854775808 → ¬ nanB m →
    (∃ r, rounds (fun vs => lo309_1.dv (Vl x :: vs)) [x1, Vu m, Vi i] = some (.y .ret [r]) ∧ bigR x n i m = nan0) ∨
    (rounds (fun vs => lo309_1.dv (Vl x :: vs)) [x1, Vu m, Vi i] = some (.y (.ext 0) [x1, Vu (bigR x n i m)])) := by
  intro n
  induction n with
  | zero =>
    intro i m hi hm hn
    refine .inr (rounds_exit ?_ (by simp))
    simp [lo309_1, TT.dv, show ¬ i < x.length by omega, bigR]
  | succ n ih =>
    intro i m hi hm hn
    have g1 := get_V (x := x) (i := i) (by omega)
    have k1 := kind_ok (el x i)
    unfold bigR
    by_cases c : nanB (el x i)
    · rw [if_pos c]
      rw [(kind_nan _).2 c] at k1
      refine .inl ⟨Vu m, rounds_exit ?_ (by simp), rfl⟩
      simp [lo309_1, TT.dv, show i < x.length by omega, g1, k1]
    · rw [if_neg c]
      have c' : ¬ fKind (el x i) = 4 := fun h => c ((kind_nan _).1 h)
      have e1 : (B.add .i64).den (Vi i) (Vi 1) = Vi (i + 1) := add_i (by omega) (by omega)
      have a1 := abs_ok (el x i)
      have hr : rounds (fun vs => lo309_1.dv (Vl x :: vs)) [x1, Vu m, Vi i] = rounds (fun vs => lo309_1.dv (Vl x :: vs)) [x1, Vu (max m (absV (el x i))), Vi ((i + 1 : Nat) : Int)] := by
        refine rounds_cont ?_
        simp [lo309_1, TT.dv, show i < x.length by omega, g1, k1, c', a1, e1, max_u, absV]
      have := absV_lt (el x i)
      rw [hr]
      exact ih (i := i + 1) (by omega) (by omega) (nanB_max hn (fun h => c ((nanB_absV _).1 h)))
end
theorem bigR_lt {x : List Nat} : ∀ (n : Nat) {i m : Nat}, m < 9223372036854775808 → bigR x n i m < 9223372036854775808
  | 0, _, _, h => h
  | n + 1, i, m, h => by
    unfold bigR
    split
    · decide
    · exact bigR_lt n (by have := absV_lt (el x i); omega)
def bigV (x : List Nat) : Nat := bigR x x.length 0 0
theorem bigV_lt (x : List Nat) : bigV x < 9223372036854775808 := bigR_lt _ (by decide)
section
variable {x : List Nat} (hx : Words x) (h64 : x.length < 9000000000000000000)
include hx h64
theorem biggest_ok : val 309 [Vl x] = some [Vu (bigV x)] := by
  refine val_of tab309 ?_
  have h := big_loop hx h64 (x1 := Vu 0) x.length (i := 0) (m := 0) (by omega) (by decide) (by decide)
  rw [show ((0 : Nat) : Int) = 0 from rfl] at h
  unfold bigV
  rcases h with ⟨r, h1, h2⟩ | h1
  · rw [h2]; simp [tr309, TT.dv, KS.dv, h1, nan0]
  · simp [tr309, TT.dv, KS.dv, h1]
end

def finR (x : List Nat) : Nat → Nat → Bool
  | 0, _ => true
  | n + 1, i => if fPow (el x i) = 2047 then false else finR x n (i + 1)
def finV (x : List Nat) : Bool := finR x x.length 0
section
variable {x : List Nat} (hx : Words x) (h64 : x.length < 9000000000000000000)
include hx h64
theorem fin_loop {x1 : PV} : ∀ (n : Nat) {i : Nat}, i + n = x.length →
    rounds (fun vs => lo312_1.dv (Vl x :: vs)) [x1, Vi i] = some (if finR x n i then .y (.ext 0) [x1] else .y .ret []) := by
  intro n
  induction n with
  | zero =>
    intro i hi
    refine rounds_exit ?_ (by simp [finR])
    simp [lo312_1, TT.dv, show ¬ i < x.length by omega, finR]
  | succ n ih =>
    intro i hi
    have g1 := get_V (x := x) (i := i) (by omega)
    have f1 := finite_ok (el x i)
    unfold finR
    by_cases c : fPow (el x i) = 2047
    · rw [if_pos c]
      refine rounds_exit ?_ (by simp)
      simp [lo312_1, TT.dv, show i < x.length by omega, g1, f1, c]
    · rw [if_neg c]
      have e1 : (B.add .i64).den (Vi i) (Vi 1) = Vi (i + 1) := add_i (by omega) (by omega)
      refine Eq.trans (rounds_cont ?_) (ih (i := i + 1) (by omega))
      simp [lo312_1, TT.dv, show i < x.length by omega, g1, f1, c, e1]
theorem fin9_loop {x1 : PV} : ∀ (n : Nat) {i : Nat}, i + n = x.length →
    rounds (fun vs => lo155_1.dv (Vl x :: vs)) [x1, Vi i] = some (if finR x n i then .y (.ext 0) [x1] else .y .ret []) := by
  intro n
  induction n with
  | zero =>
    intro i hi
    refine rounds_exit ?_ (by simp [finR])
    simp [lo155_1, TT.dv, show ¬ i < x.length by omega, finR]
  | succ n ih =>
    intro i hi
    have g1 := get_V (x := x) (i := i) (by omega)
    have f1 := finite4_ok (hx.el i)
    have hp := fPow_lt (el x i)
    unfold finR
    by_cases c : fPow (el x i) = 2047
    · rw [if_pos c]
      refine rounds_exit ?_ (by simp)
      simp [lo155_1, TT.dv, show i < x.length by omega, g1, f1, c]
    · rw [if_neg c]
      have e1 : (B.add .i64).den (Vi i) (Vi 1) = Vi (i + 1) := add_i (by omega) (by omega)
      refine Eq.trans (rounds_cont ?_) (ih (i := i + 1) (by omega))
      simp [lo155_1, TT.dv, show i < x.length by omega, g1, f1, show fPow (el x i) < 2047 by omega, e1]
theorem finite_v_ok : val 312 [Vl x] = some [Vb (finV x)] := by
  refine val_of tab312 ?_
  have h := fin_loop hx h64 (x1 := Vb false) x.length (i := 0) (by omega)
  rw [show ((0 : Nat) : Int) = 0 from rfl] at h
  unfold finV
  cases hc : finR x x.length 0 <;> rw [hc] at h <;> simp [tr312, TT.dv, KS.dv, h]
theorem finite_9_ok : val 155 [Vl x] = some [Vb (finV x)] := by
  refine val_of tab155 ?_
  have h := fin9_loop hx h64 (x1 := Vb false) x.length (i := 0) (by omega)
  rw [show ((0 : Nat) : Int) = 0 from rfl] at h
  unfold finV
  cases hc : finR x x.length 0 <;> rw [hc] at h <;> simp [tr155, TT.dv, KS.dv, h]
end

def sqrR (x : List Nat) (k : Int) : Nat → Nat → Nat → Nat
  | 0, _, s => s
  | n + 1, i, s => sqrR x k n (i + 1) (addV s (mulV (scaleV (el x i) (-k)) (scaleV (el x i) (-k))))
theorem sqrR_lt {x : List Nat} {k : Int} : ∀ (n : Nat) {i s : Nat}, s < 18446744073709551616 → sqrR x k n i s < 18446744073709551616
  | 0, _, _, h => h
  | n + 1, i, s, h => sqrR_lt n (addV_lt h mulV_lt)
def sqrV (x : List Nat) (k : Int) : Nat := sqrR x k x.length 0 0
def normV (x : List Nat) : Nat := if bigV x = 0 ∨ fPow (bigV x) = 2047 then bigV x else scaleV (sqrtV (sqrV x (expB (bigV x)))) (expB (bigV x))
theorem expB_bd (b : Nat) : -1100 ≤ expB b ∧ expB b ≤ 1100 := by
  unfold expB
  split
  · omega
  · rename_i h
    have h1 := fPl_bd b
    have h2 : bl (fMag b) ≤ 53 := bl_lt.2 (fMag_lt b)
    have h3 : fPow b ≠ 2047 := by omega
    unfold fPl at *
    have h4 := fPow_lt b
    split <;> rename_i h5 <;> simp only [h5, if_true, if_false] at h1 <;> omega
section
variable {x : List Nat} (hx : Words x) (h64 : x.length < 9000000000000000000) {k : Int} (hk : -1100 ≤ k ∧ k ≤ 1100)
include hx h64 hk
theorem norm_loop {x1 x2 : PV} : ∀ (n : Nat) {i s : Nat}, i + n = x.length → s < 18446744073709551616 →
    rounds (fun vs => lo314_1.dv (Vl x :: x1 :: x2 :: Vi k :: vs)) [Vu s, Vi i] = some (.y (.ext 0) [Vu (sqrR x k n i s)]) := by
  intro n
  induction n with
  | zero =>
    intro i s hi hs
    refine rounds_exit ?_ (by simp)
    simp [lo314_1, TT.dv, show ¬ i < x.length by omega, sqrR]
  | succ n ih =>
    intro i s hi hs
    refine Eq.trans (rounds_cont ?_) (ih (i := i + 1) (s := addV s (mulV (scaleV (el x i) (-k)) (scaleV (el x i) (-k)))) (by omega) (addV_lt hs mulV_lt))
    have e1 : (B.add .i64).den (Vi i) (Vi 1) = Vi (i + 1) := add_i (by omega) (by omega)
    have e2 : (U.neg .i64).den (Vi k) = Vi (-k) := neg_i (by omega) (by omega)
    have g1 := get_V (x := x) (i := i) (by omega)
    have c0 := vshift_ok (el x i) (-k)
    have ht := scaleV_lt (hx.el i) (-k)
    have c1 := vmul_ok ht ht
    have c2 := vadd_ok hs (mulV_lt (a := scaleV (el x i) (-k)) (b := scaleV (el x i) (-k)))
    simp [lo314_1, TT.dv, show i < x.length by omega, e1, e2, g1, c0, c1, c2]
end
theorem norm_v_ok {x : List Nat} (hx : Words x) (h64 : x.length < 9000000000000000000) : val 314 [Vl x] = some (if x.length ≤ 64 then [Vu (normV x), Vi 0] else [Vu 0, Vi 3]) := by
  refine val_of tab314 ?_
  by_cases hl : x.length ≤ 64
  · rw [if_pos hl]
    have hl' : ¬ 64 < (x.length : Int) := by omega
    have h1 := biggest_ok hx h64
    have f1 := finite_ok (bigV x)
    unfold normV
    by_cases c : bigV x = 0
    · rw [if_pos (.inl c)]
      rw [c] at h1 ⊢
      simp [tr314, TT.dv, hl', h1]
    · by_cases c2 : fPow (bigV x) = 2047
      · rw [if_pos (.inr c2)]
        simp [tr314, TT.dv, hl', h1, c, f1, c2]
      · rw [if_neg (by omega)]
        have e1 := exp_ok (b := bigV x)
        have hk := expB_bd (bigV x)
        have hlp := norm_loop hx h64 hk (x1 := Vu (bigV x)) (x2 := Vb true) x.length (i := 0) (s := 0) (by omega) (by decide)
        rw [show ((0 : Nat) : Int) = 0 from rfl] at hlp
        have s1 := vsqrt_ok (b := sqrV x (expB (bigV x))) (sqrR_lt _ (by decide))
        have s2 := vshift_ok (sqrtV (sqrV x (expB (bigV x)))) (expB (bigV x))
        rw [show sqrR x (expB (bigV x)) x.length 0 0 = sqrV x (expB (bigV x)) from rfl] at hlp
        simp [tr314, TT.dv, KS.dv, hl', h1, c, f1, c2, e1, hlp, s1, s2]
  · rw [if_neg hl]
    have hl' : 64 < (x.length : Int) := by omega
    simp [tr314, TT.dv, hl']
end Go.Proofs.Ytogcdllpjcnbkaa.Dx

namespace Go.Proofs.Ytogcdllpjcnbkaa.Dx
open Go

def fnP (f : Nat) (caps : List PV) : PV := .fn f caps
theorem set_V (x : List Nat) (i v : Nat) : T3.set.den (Vl x) (Vi i) (Vu v) = Vl (x.set i v) := by
  rw [Vl, set_l _ rfl, Vl, List.map_set]
theorem Words.set {x : List Nat} (h : Words x) {i v : Nat} (hv : v < 18446744073709551616) : Words (x.set i v) := by
  intro a ha
  rcases List.mem_or_eq_of_mem_set ha with h1 | h1
  · exact h a h1
  · rw [h1]; exact hv
/-- What a function makes of each place. -/
def mk (g : Nat → Nat) (n : Nat) : List Nat := (List.range n).map g
@[simp] theorem mk_len (g : Nat → Nat) (n : Nat) : (mk g n).length = n := by simp [mk]
theorem mk_succ (g : Nat → Nat) (n : Nat) : mk g n ++ [g n] = mk g (n + 1) := by simp [mk, List.range_succ]
theorem mk_words {g : Nat → Nat} {n : Nat} (h : ∀ i, i < n → g i < 18446744073709551616) : Words (mk g n) := by
  intro a ha
  obtain ⟨i, hi, rfl⟩ := List.mem_map.1 ha
  exact h i (by simpa using hi)
/-- Boxes and functions that catch them. -/
@[simp] theorem toA_V (l : List PV) : U.toA.den (.l l) = .a l := rfl
@[simp] theorem fld0_a (p : PV) (l : List PV) : (U.fld 0).den (.a (p :: l)) = p := rfl
theorem mkfn_l (f : Nat) (l : List PV) : (U.mkfn f).den (.l l) = fnP f l := rfl
section
variable {a : Nat} {x y : List Nat} (ha : a < 18446744073709551616) (hx : Words x) (hy : Words y) (hl : x.length = y.length) (h64 : x.length < 17592186044416)
include ha hx hy hl h64
end
section
variable {a : Nat} {x : List Nat} (ha : a < 18446744073709551616) (hx : Words x) (h64 : x.length < 17592186044416)
include ha hx h64
end
end Go.Proofs.Ytogcdllpjcnbkaa.Dx

namespace Go.Proofs.Ytogcdllpjcnbkaa.Dx
open Go

theorem cons_V (a : Nat) (x : List Nat) : B.cons.den (Vu a) (Vl x) = Vl (a :: x) := rfl
section
variable {f g : Nat} (hf : f < 18446744073709551616) (hg : g < 18446744073709551616)
include hf hg
end
end Go.Proofs.Ytogcdllpjcnbkaa.Dx

namespace Go.Proofs.Ytogcdllpjcnbkaa.Dx
open Go

def P2 (k : Int) : Rat := (2 : Rat) ^ k
theorem P2_add (a b : Int) : P2 (a + b) = P2 a * P2 b := Rat.zpow_add (by decide) a b
theorem P2_pos (k : Int) : 0 < P2 k := Rat.zpow_pos (by decide)
theorem P2_zero : P2 0 = 1 := Rat.zpow_zero 2
theorem P2_nat (n : Nat) : P2 n = ((2 ^ n : Nat) : Rat) := by
  unfold P2; rw [Rat.zpow_natCast, Rat.natCast_pow]; rfl
theorem P2_sub (a b : Int) : P2 (a - b) * P2 b = P2 a := by rw [← P2_add]; exact congrArg P2 (by omega)
theorem P2_mono {a b : Int} (h : a ≤ b) : P2 a ≤ P2 b := by
  have h1 : b = a + ((b - a).toNat : Nat) := by omega
  rw [h1, P2_add, P2_nat]
  have h2 : (1 : Rat) ≤ ((2 ^ (b - a).toNat : Nat) : Rat) := by
    have : 1 ≤ 2 ^ (b - a).toNat := Nat.two_pow_pos _
    exact_mod_cast this
  have := Rat.mul_le_mul_of_nonneg_left h2 (Rat.le_of_lt (P2_pos a))
  rwa [Rat.mul_one] at this
theorem P2_lt {a b : Int} (h : a < b) : P2 a < P2 b := by
  have h1 := P2_mono (a := a + 1) (b := b) (by omega)
  rw [P2_add] at h1
  have h2 : P2 1 = 2 := by rw [show (1 : Int) = ((1 : Nat) : Int) from rfl, P2_nat]; rfl
  have h3 := P2_pos a
  rw [h2] at h1
  grind
def D (n : Nat) (p : Int) : Rat := n * P2 p
theorem D_nonneg (n : Nat) (p : Int) : 0 ≤ D n p := Rat.mul_nonneg Rat.natCast_nonneg (Rat.le_of_lt (P2_pos p))
theorem D_scale (n : Nat) (p : Int) (j : Nat) : D (n * 2 ^ j) (p - j) = D n p := by
  unfold D
  rw [Rat.natCast_mul, ← P2_nat, Rat.mul_assoc, Rat.mul_comm (P2 j), P2_sub]
theorem D_le {n m : Nat} {p : Int} : D n p ≤ D m p ↔ n ≤ m := by
  unfold D
  constructor
  · intro h; exact Rat.natCast_le_natCast.1 (Rat.le_of_mul_le_mul_right h (P2_pos p))
  · intro h; exact Rat.mul_le_mul_of_nonneg_right (Rat.natCast_le_natCast.2 h) (Rat.le_of_lt (P2_pos p))
theorem D_zero (p : Int) : D 0 p = 0 := by unfold D; simp
theorem D_mul (m n : Nat) (p q : Int) : D m p * D n q = D (m * n) (p + q) := by
  unfold D; rw [Rat.natCast_mul, P2_add]; grind
theorem D_add (m n : Nat) (p : Int) : D m p + D n p = D (m + n) p := by
  unfold D; rw [Rat.natCast_add]; grind
theorem D_shift (n : Nat) (p q : Int) : D n p * P2 q = D n (p + q) := by unfold D; rw [P2_add, Rat.mul_assoc]
theorem D_one (p : Int) : D 1 p = P2 p := by unfold D; simp
/-- A number at another place. -/
theorem D_base (n : Nat) {p b : Int} (h : b ≤ p) : D n p = D (n * 2 ^ (p - b).toNat) b := by
  have := D_scale n p (p - b).toNat
  rw [show p - ((p - b).toNat : Int) = b by omega] at this
  exact this.symm
theorem nearR_base (n : Nat) {p b : Int} (h : b ≤ p) : nearR n p = nearR (n * 2 ^ (p - b).toNat) b := by
  have := (near_scale true n p (p - b).toNat).2.2
  rw [show p - ((p - b).toNat : Int) = b by omega] at this
  exact this.symm
/-- Rounding keeps the order. -/
theorem near_mono {n m : Nat} {p q : Int} (h : D n p ≤ D m q) : nearR n p ≤ nearR m q := by
  rw [nearR_base n (Int.min_le_left p q), nearR_base m (Int.min_le_right p q)]
  rw [D_base n (Int.min_le_left p q), D_base m (Int.min_le_right p q), D_le] at h
  exact nearR_mono _ h
theorem near_eq {n m : Nat} {p q : Int} (h : D n p = D m q) : nearR n p = nearR m q :=
  Nat.le_antisymm (near_mono (by rw [h]; exact Rat.le_refl)) (near_mono (by rw [h]; exact Rat.le_refl))

def W (w : Nat) : Rat := D (fMag w) (fPl w)
theorem W_nonneg (w : Nat) : 0 ≤ W w := D_nonneg _ _
theorem W_mgv (w : Nat) : W w = D (mgv (w % 9223372036854775808)) (-1074) := by
  unfold W
  rw [D_base _ (fPl_bd w).1, ← mgv_val, show fPl w - -1074 = fPl w + 1074 by omega]
theorem W_le {a b : Nat} (ha : a < 9223372036854775808) (hb : b < 9223372036854775808) : W a ≤ W b ↔ a ≤ b := by
  rw [W_mgv, W_mgv, D_le, Nat.mod_eq_of_lt ha, Nat.mod_eq_of_lt hb]
  constructor
  · intro h
    rcases Nat.lt_or_ge b a with h1 | h1
    · have := mgv_mono h1; omega
    · exact h1
  · intro h
    rcases Nat.lt_or_eq_of_le h with h1 | h1
    · exact Nat.le_of_lt (mgv_mono h1)
    · rw [h1]; exact Nat.le_refl _
theorem W_abs (w : Nat) : W (absV w) = W w := by rw [W_mgv, W_mgv]; unfold absV; rw [Nat.mod_mod]
theorem near_W {w : Nat} (h : w < infR) : nearR (fMag w) (fPl w) = w := by
  have hp := fPl_bd w
  have hm := fMag_lt w
  have hk : two52 ≤ fMag w ∨ fPl w = -1074 := by
    unfold fMag fPl two52
    by_cases c : fPow w = 0
    · right; rw [if_pos c]
    · left; rw [if_neg c]; omega
  unfold nearR
  rw [rung_fits hp.1 (by unfold two52; omega) hk]
  unfold infR at h ⊢
  unfold fMag fPl two52 fPow fFrac
  split
  · rename_i c; omega
  · rename_i c; omega
theorem near_le {n w : Nat} {p : Int} (hw : w < infR) (h : D n p ≤ W w) : nearR n p ≤ w := by
  have := near_mono h
  rwa [near_W hw] at this
theorem near_ge {n w : Nat} {p : Int} (hw : w < infR) (h : W w ≤ D n p) : w ≤ nearR n p := by
  have := near_mono h
  rwa [near_W hw] at this
theorem near_fin {n : Nat} {p : Int} (h : D n p ≤ P2 1023) : nearR n p < infR := by
  have h1 := near_le (n := n) (p := p) (w := 9214364837600034816) (by decide) (by
    refine Rat.le_trans h ?_
    unfold W
    rw [show fMag 9214364837600034816 = 2 ^ 52 from by decide, show fPl 9214364837600034816 = 971 from by decide, ← D_one 1023, D_base 1 (b := 971) (by omega)]
    exact Rat.le_refl)
  exact Nat.lt_of_le_of_lt h1 (by decide)
/-- Half a place. -/
theorem near_half_ulp {n : Nat} {p : Int} (h0 : n ≠ 0) (h : nearR n p < infR) : 2 * W (nearR n p) ≤ 2 * D n p + P2 (lastP n p) ∧ 2 * D n p ≤ 2 * W (nearR n p) + P2 (lastP n p) := by
  have hL : -1074 ≤ lastP n p := by unfold lastP; omega
  -- common base
  obtain ⟨kb1, kb2⟩ := kept_bounds (n := n) (p := p) h0
  have hr : rung n p = (lastP n p + 1074).toNat * two52 + RHE (n * 2 ^ (p - lastP n p).toNat) (lastP n p - p).toNat := by unfold rung; rw [if_neg h0]
  have hR : nearR n p = rung n p := by unfold nearR at h ⊢; omega
  generalize hK : RHE (n * 2 ^ (p - lastP n p).toNat) (lastP n p - p).toNat = K at *
  -- the word's value
  have hW : W (nearR n p) = D K (lastP n p) := by
    rw [W_mgv]
    have hlt : nearR n p < 9223372036854775808 := by unfold infR at h; omega
    rw [Nat.mod_eq_of_lt hlt, D_base K hL]
    refine congrArg (D · _) ?_
    rw [hR, hr] at *
    generalize lastP n p = L at *
    rw [show L - -1074 = L + 1074 by omega]
    unfold infR at h
    unfold two52 at *
    rcases Nat.lt_or_ge K 4503599627370496 with h1 | h1
    · have hL0 : L = -1074 := by omega
      subst hL0
      unfold mgv
      rw [if_pos (by omega)]; simp
    · generalize hT : (L + 1074).toNat = T at *
      rcases Nat.lt_or_ge K 9007199254740992 with h2 | h2
      · unfold mgv
        rw [if_neg (by omega), show (T * 4503599627370496 + K) % 4503599627370496 = K - 4503599627370496 by omega, show (T * 4503599627370496 + K) / 4503599627370496 - 1 = T by omega, Nat.sub_add_cancel h1]
      · have : K = 9007199254740992 := by omega
        subst this
        unfold mgv
        rw [if_neg (by omega), show (T * 4503599627370496 + 9007199254740992) % 4503599627370496 = 0 by omega, show (T * 4503599627370496 + 9007199254740992) / 4503599627370496 - 1 = T + 1 by omega, Nat.pow_succ]
        omega
  rw [hW]
  obtain ⟨n1, n2⟩ := RHE_near (n * 2 ^ (p - lastP n p).toNat) (lastP n p - p).toNat
  rw [hK] at n1 n2
  -- at the base min p L
  have hb1 : D n p = D (n * 2 ^ (p - lastP n p).toNat) (lastP n p - (lastP n p - p).toNat) := by
    rcases Int.le_total p (lastP n p) with hle | hle
    · rw [show (p - lastP n p).toNat = 0 by omega, Nat.pow_zero, Nat.mul_one]; exact congrArg (D n) (by omega)
    · rw [D_base n hle]; exact congrArg (D _) (by omega)
  have hb2 : D K (lastP n p) = D (K * 2 ^ (lastP n p - p).toNat) (lastP n p - (lastP n p - p).toNat) := (D_scale K (lastP n p) (lastP n p - p).toNat).symm
  have hb3 : P2 (lastP n p) = D (2 ^ (lastP n p - p).toNat) (lastP n p - (lastP n p - p).toNat) := by
    have := D_scale 1 (lastP n p) (lastP n p - p).toNat
    rw [Nat.one_mul] at this
    rw [this, D_one]
  rw [hb1, hb2, hb3]
  generalize lastP n p - ((lastP n p - p).toNat : Int) = b
  have two : ∀ m, 2 * D m b = D (2 * m) b := fun m => by unfold D; rw [Rat.natCast_mul, Rat.mul_assoc]; rfl
  rw [two, two, D_add, D_add, D_le, D_le]
  exact ⟨n1, n2⟩
theorem lastP_le {n : Nat} {p : Int} (h0 : n ≠ 0) : P2 (lastP n p) ≤ D n p * P2 (-52) + P2 (-1074) := by
  unfold lastP
  rcases Int.le_total (p + n.log2 - 52) (-1074) with h | h
  · rw [Int.max_eq_right h]
    have := Rat.mul_nonneg (D_nonneg n p) (Rat.le_of_lt (P2_pos (-52)))
    grind
  · rw [Int.max_eq_left h]
    have h1 : P2 (p + n.log2) ≤ D n p := by
      unfold D
      rw [Int.add_comm, P2_add, P2_nat]
      exact Rat.mul_le_mul_of_nonneg_right (Rat.natCast_le_natCast.2 (Nat.log2_self_le h0)) (Rat.le_of_lt (P2_pos p))
    have h2 := Rat.mul_le_mul_of_nonneg_right h1 (Rat.le_of_lt (P2_pos (-52)))
    rw [← P2_add, show p + (n.log2 : Int) + -52 = p + n.log2 - 52 by omega] at h2
    have := P2_pos (-1074)
    grind
/-- Rounding is right but for a part in 2^53, and half the least number. -/
theorem near_err {n : Nat} {p : Int} (h : nearR n p < infR) : W (nearR n p) ≤ D n p + D n p * P2 (-53) + P2 (-1075) ∧ D n p ≤ W (nearR n p) + D n p * P2 (-53) + P2 (-1075) := by
  have e1 : P2 (-52) = 2 * P2 (-53) := by
    rw [show (-52 : Int) = ((1 : Nat) : Int) + -53 by omega, P2_add, P2_nat]; rfl
  have e2 : P2 (-1074) = 2 * P2 (-1075) := by
    rw [show (-1074 : Int) = ((1 : Nat) : Int) + -1075 by omega, P2_add, P2_nat]; rfl
  by_cases h0 : n = 0
  · subst h0
    rw [D_zero]
    have : nearR 0 p = 0 := by unfold nearR; rw [rung_zero]; rfl
    rw [this]
    have hW0 : W 0 = 0 := by unfold W; rw [show fMag 0 = 0 from by decide, D_zero]
    have := P2_pos (-1075)
    rw [hW0]
    grind
  · obtain ⟨a1, a2⟩ := near_half_ulp h0 h
    have a3 := lastP_le (p := p) h0
    rw [e1, e2] at a3
    grind
end Go.Proofs.Ytogcdllpjcnbkaa.Dx

namespace Go.Proofs.Ytogcdllpjcnbkaa.Dx
open Go

theorem mulV_comm (a b : Nat) : mulV a b = mulV b a := by
  unfold mulV
  have e1 : (nanB a ∨ nanB b) ↔ (nanB b ∨ nanB a) := or_comm
  have e2 : (infB a ∨ infB b) ↔ (infB b ∨ infB a) := or_comm
  have e3 : (zeroB a ∨ zeroB b) ↔ (zeroB b ∨ zeroB a) := or_comm
  have e4 : (fNeg a != fNeg b) = (fNeg b != fNeg a) := by cases fNeg a <;> cases fNeg b <;> rfl
  simp only [e1, e2, e3, e4, Nat.mul_comm (fMag a), Int.add_comm (fPl a)]
theorem word_sgn {b : Nat} (hb : b < 18446744073709551616) : b = sgn (fNeg b) (absV b) := by
  unfold sgn fNeg absV
  rcases (show b / 9223372036854775808 = 0 ∨ b / 9223372036854775808 = 1 by omega) with h3 | h3 <;> simp [h3] <;> omega
theorem fin_abs {b : Nat} (h : fPow b ≠ 2047) : absV b < infR := by
  unfold absV infR; unfold fPow at h; omega
theorem abs_fin {b : Nat} (h : absV b < infR) : fPow b ≠ 2047 := by
  unfold absV infR at h; unfold fPow; omega
theorem fields_abs (b : Nat) : fMag (absV b) = fMag b ∧ fPl (absV b) = fPl b ∧ fPow (absV b) = fPow b ∧ fNeg (absV b) = false := by
  have h1 : fPow (absV b) = fPow b := by unfold fPow absV; omega
  have h2 : fFrac (absV b) = fFrac b := by unfold fFrac absV; omega
  refine ⟨by unfold fMag; rw [h1, h2], by unfold fPl; rw [h1], h1, by unfold fNeg absV; simp⟩
theorem absV_sgn (s : Bool) {r : Nat} (h : r ≤ infR) : absV (sgn s r) = r := (sgn_fields s h).2.2.2.1
theorem absV_near (s : Bool) (n : Nat) (p : Int) : absV (nearV s n p) = nearR n p := absV_sgn s (nearR_le n p)
theorem fin_near {s : Bool} {n : Nat} {p : Int} (h : nearR n p < infR) : fPow (nearV s n p) ≠ 2047 := abs_fin (by rw [absV_near]; exact h)
theorem fin_nan {b : Nat} (h : fPow b ≠ 2047) : ¬ nanB b := by unfold nanB; omega
theorem fin_inf {b : Nat} (h : fPow b ≠ 2047) : ¬ infB b := by unfold infB; omega
theorem mulV_fin {a b : Nat} (ha : fPow a ≠ 2047) (hb : fPow b ≠ 2047) : mulV a b = nearV (fNeg a != fNeg b) (fMag a * fMag b) (fPl a + fPl b) := by
  unfold mulV
  rw [if_neg (by simp [fin_nan ha, fin_nan hb]), if_neg (by simp [fin_inf ha, fin_inf hb])]
  split
  · rename_i h
    have : fMag a * fMag b = 0 := by rcases h with h | h <;> rw [h.1] <;> simp
    rw [this, nearV_zero]
  · rfl
theorem addV_fin {a b : Nat} (ha : fPow a ≠ 2047) (hb : fPow b ≠ 2047) : addV a b = sumV (fNeg a) (fNeg b) (fMag a) (fMag b) (fPl a) (fPl b) := by
  unfold addV
  rw [if_neg (by simp [fin_nan ha, fin_nan hb]), if_neg (fin_inf ha), if_neg (fin_inf hb)]
theorem scaleV_fin {b : Nat} (hb : b < 18446744073709551616) (h : fPow b ≠ 2047) (k : Int) : scaleV b k = nearV (fNeg b) (fMag b) (fPl b + clamp k) := by
  unfold scaleV
  rw [if_neg (fin_nan h)]
  split
  · rename_i h2
    have hz : fMag b = 0 := by omega
    rw [hz, nearV_zero]
    exact zero_word hb ⟨hz, ((mag_zero b).1 hz).1⟩
  · rfl
/-- The sum of two numbers without signs. -/
theorem add_pos {a b : Nat} (ha : a < infR) (hb : b < infR) : ∃ N p, addV a b = nearR N p ∧ D N p = W a + W b := by
  have fa : fPow a ≠ 2047 := abs_fin (by unfold absV; unfold infR at ha ⊢; omega)
  have fb : fPow b ≠ 2047 := abs_fin (by unfold absV; unfold infR at hb ⊢; omega)
  have na : fNeg a = false := by unfold fNeg; unfold infR at ha; simp; omega
  have nb : fNeg b = false := by unfold fNeg; unfold infR at hb; simp; omega
  refine ⟨fMag a * 2 ^ (fPl a - min (fPl a) (fPl b)).toNat + fMag b * 2 ^ (fPl b - min (fPl a) (fPl b)).toNat, min (fPl a) (fPl b), ?_, ?_⟩
  · rw [addV_fin fa fb, na, nb]
    unfold sumV
    rw [sg_shift, sg_shift]
    unfold sg
    simp only [Bool.false_eq_true, if_false, Bool.and_self]
    rw [← Int.natCast_add, Int.natAbs_natCast]
    split
    · rfl
    · rw [decide_eq_false (by omega)]; rfl
  · rw [← D_add, ← D_base _ (Int.min_le_left _ _), ← D_base _ (Int.min_le_right _ _)]; rfl
theorem add_ge {a b : Nat} (ha : a < infR) (hb : b < infR) : a ≤ addV a b ∧ b ≤ addV a b ∧ addV a b ≤ infR := by
  obtain ⟨N, p, h1, h2⟩ := add_pos ha hb
  have h3 := W_nonneg a
  have h4 := W_nonneg b
  rw [h1]
  exact ⟨near_ge ha (by grind), near_ge hb (by grind), nearR_le _ _⟩
theorem expB_W {b : Nat} (h : fPow b ≠ 2047) (h0 : fMag b ≠ 0) : P2 (expB b) ≤ W b ∧ W b < P2 (expB b + 1) := by
  have he : expB b = (fMag b).log2 + fPl b := by
    unfold expB; rw [if_neg (by omega), log2_bl h0]; omega
  rw [he]
  unfold W D
  constructor
  · rw [P2_add, P2_nat]
    exact Rat.mul_le_mul_of_nonneg_right (Rat.natCast_le_natCast.2 (Nat.log2_self_le h0)) (Rat.le_of_lt (P2_pos _))
  · rw [show ((fMag b).log2 : Int) + fPl b + 1 = (((fMag b).log2 + 1 : Nat) : Int) + fPl b by omega, P2_add, P2_nat]
    exact Rat.mul_lt_mul_of_pos_right (Rat.natCast_lt_natCast.2 Nat.lt_log2_self) (P2_pos _)
theorem W_exact {n : Nat} {p : Int} (h0 : n ≠ 0) (hx : exq n p = true) (hf : nearR n p < infR) : W (nearR n p) = D n p := by
  obtain ⟨q, _, h2, _, h4⟩ := near_exact false h0 hx hf
  rw [show nearV false n p = nearR n p from rfl] at h2 h4
  unfold W
  rw [h2]
  have := h4 (min (fPl (nearR n p)) p) (Int.min_le_left _ _) (Int.min_le_right _ _)
  rw [D_base q (Int.min_le_left (fPl (nearR n p)) p), this, ← D_base n (Int.min_le_right (fPl (nearR n p)) p)]
theorem W_int {c : Nat} (h : c < 9007199254740992) : nearR c 0 < infR ∧ W (nearR c 0) = c := by
  have hf : nearR c 0 < infR := near_fin (by
    unfold D
    rw [P2_zero, Rat.mul_one]
    have h1 : (c : Rat) ≤ ((2 ^ 53 : Nat) : Rat) := Rat.natCast_le_natCast.2 (Nat.le_of_lt h)
    rw [← P2_nat] at h1
    exact Rat.le_trans h1 (P2_mono (by omega)))
  refine ⟨hf, ?_⟩
  by_cases h0 : c = 0
  · subst h0
    have : nearR 0 0 = 0 := by decide
    rw [this]; unfold W; rw [show fMag 0 = 0 from by decide, D_zero]; rfl
  · have hl : c.log2 < 53 := (Nat.log2_lt h0).2 h
    have hx : exq c 0 = true := by
      unfold exq lastP
      rw [show (max ((0 : Int) + c.log2 - 52) (-1074) - 0).toNat = 0 by omega]; simp [Nat.mod_one]
    rw [W_exact h0 hx hf]
    unfold D
    rw [P2_zero, Rat.mul_one]
/-- A word that is scaled within bounds: just that. -/
theorem exq_scaled {b : Nat} {e : Int} (h1 : fPow b ≠ 0) (h2 : -1074 ≤ e) : exq (fMag b) e = true := by
  have hm : two52 ≤ fMag b := by unfold fMag two52; rw [if_neg h1]; omega
  unfold exq lastP
  rw [log2_of hm (fMag_lt b), show (max (e + ((52 : Nat) : Int) - 52) (-1074) - e).toNat = 0 by omega]; simp [Nat.mod_one]
theorem expB_normal {b : Nat} (h1 : fPow b ≠ 0) (h2 : fPow b ≠ 2047) : expB b = fPl b + 52 := by
  have hm : two52 ≤ fMag b := by unfold fMag two52; rw [if_neg h1]; omega
  have h0 : fMag b ≠ 0 := by unfold two52 at hm; omega
  unfold expB
  rw [if_neg (by omega), log2_bl h0, log2_of hm (fMag_lt b)]; omega
/-- The greatest: it is one of them. -/
theorem bigR_mem {x : List Nat} : ∀ (n : Nat) {i m : Nat}, (∀ j, i ≤ j → j < i + n → ¬ nanB (el x j)) →
    m ≤ bigR x n i m ∧ (∀ j, i ≤ j → j < i + n → absV (el x j) ≤ bigR x n i m) ∧ (bigR x n i m = m ∨ ∃ j, i ≤ j ∧ j < i + n ∧ absV (el x j) = bigR x n i m)
  | 0, i, m, _ => ⟨Nat.le_refl _, fun j h1 h2 => by omega, .inl rfl⟩
  | n + 1, i, m, h => by
    unfold bigR
    rw [if_neg (h i (Nat.le_refl _) (by omega))]
    obtain ⟨h1, h2, h3⟩ := bigR_mem n (i := i + 1) (m := max m (absV (el x i))) (fun j hj hj2 => h j (by omega) (by omega))
    refine ⟨by omega, fun j hj hj2 => ?_, ?_⟩
    · rcases Nat.eq_or_lt_of_le hj with he | he
      · subst he; omega
      · exact h2 j (by omega) (by omega)
    · rcases h3 with h3 | ⟨j, j1, j2, j3⟩
      · rcases Nat.le_total m (absV (el x i)) with hc | hc
        · exact .inr ⟨i, Nat.le_refl _, by omega, by omega⟩
        · exact .inl (by omega)
      · exact .inr ⟨j, by omega, by omega, j3⟩
end Go.Proofs.Ytogcdllpjcnbkaa.Dx

namespace Go.Proofs.Ytogcdllpjcnbkaa.Dx
open Go

theorem log2_sq {m : Nat} (h1 : two52 ≤ m) (h2 : m < 9007199254740992) : ((m * m).log2 = 104 ∨ ((m * m).log2 = 105 ∧ two52 < m)) ∧ m * m ≠ 0 := by
  have hl : 4503599627370496 * 4503599627370496 ≤ m * m := Nat.mul_le_mul h1 h1
  have hu : m * m < 9007199254740992 * 9007199254740992 := Nat.mul_lt_mul'' h2 h2
  have h0 : m * m ≠ 0 := by omega
  refine ⟨?_, h0⟩
  have b1 : ¬ (m * m).log2 < 104 := fun h => by rw [Nat.log2_lt h0] at h; omega
  have b2 : (m * m).log2 < 106 := by rw [Nat.log2_lt h0]; omega
  by_cases h : (m * m).log2 = 104
  · exact .inl h
  · right
    refine ⟨by omega, ?_⟩
    by_cases he : m = two52
    · exfalso; apply h
      rw [he]; decide
    · omega
theorem z_facts {e : Int} {d : Nat} (he : -480 ≤ e) (he2 : e ≤ 330) (hd2 : d = 52 ∨ d = 53) : e + e ≤ e + e + (d : Int) ∧ (e + e + (d : Int) - (e + e)).toNat = d ∧ e + e ≤ e + e + (d : Int) + 1 ∧ (e + e + (d : Int) + 1 - (e + e)).toNat = 1 + d ∧ -1074 ≤ e + e + (d : Int) ∧ e + e + (d : Int) ≤ 900 ∧ e + e + (d : Int) + 1 ≤ 900 ∧ -1074 ≤ e + e + (d : Int) + 1 ∧ e + e + (d : Int) ≤ 971 ∧ e + e + (d : Int) + 1 ≤ 971 ∧ (e + e + (d : Int) + 1 + 1074).toNat = (e + e + d + 1074).toNat + 1 ∧ -1074 ≤ e ∧ e ≤ 900 := by
  refine ⟨?_, ?_, ?_, ?_, ?_, ?_, ?_, ?_, ?_, ?_, ?_, ?_, ?_⟩ <;> omega
theorem K_eq {K : Nat} (h : K ≤ 2 * two52) (h' : ¬ K < 9007199254740992) : K = 2 * two52 := by unfold two52 at *; omega
theorem pl_fact {e f : Int} (h : e + e ≤ f) : f - (((f - (e + e)).toNat + 120 : Nat) : Int) = 2 * (e - 60) := by omega
theorem squares_back {m : Nat} {e : Int} (h1 : two52 ≤ m) (h2 : m < 9007199254740992) (he : -480 ≤ e) (he2 : e ≤ 330) :
    ∃ q : Nat, ∃ f : Int, fMag (nearV false (m * m) (e + e)) = q ∧ fPl (nearV false (m * m) (e + e)) = f ∧ fPow (nearV false (m * m) (e + e)) ≠ 2047 ∧ q ≠ 0 ∧ nearR (sqN q f) (sqP f) = (e + 1074).toNat * two52 + m := by
  obtain ⟨hlog, h0⟩ := log2_sq h1 h2
  obtain ⟨d, hd, hd2⟩ : ∃ d : Nat, d = (m * m).log2 - 52 ∧ (d = 52 ∨ d = 53) := ⟨_, rfl, by omega⟩
  have hlast : lastP (m * m) (e + e) = e + e + d := by unfold lastP; omega
  obtain ⟨kb1, kb2⟩ := kept_bounds (n := m * m) (p := e + e) h0
  have hK : RHE (m * m * 2 ^ (e + e - lastP (m * m) (e + e)).toNat) (lastP (m * m) (e + e) - (e + e)).toNat = RHE (m * m) d := by
    rw [hlast, show (e + e - (e + e + d)).toNat = 0 by omega, Nat.pow_zero, Nat.mul_one, show (e + e + (d : Int) - (e + e)).toNat = d by omega]
  rw [hK] at kb1 kb2
  have kb2 := kb2 (by omega)
  have hrung : rung (m * m) (e + e) = (e + e + d + 1074).toNat * two52 + RHE (m * m) d := by
    unfold rung; rw [if_neg h0, hK, hlast]
  obtain ⟨n1, n2⟩ := RHE_near (m * m) d
  have hex : m = two52 → RHE (m * m) d * 2 ^ d = m * m := fun hm => by
    have : d = 52 := by omega
    rw [this, hm]; decide
  have hpd : (d = 52 → 2 ^ d = 4503599627370496) ∧ (d = 53 → 2 ^ d = 9007199254740992) := ⟨fun h => by rw [h], fun h => by rw [h]⟩
  have hlo : 4 * (m * m) + 1 < 4 * (RHE (m * m) d * 2 ^ d) + 4 * m := by
    unfold two52 at *
    rcases hd2 with h | h
    · have := hpd.1 h; omega
    · have := hpd.2 h; omega
  have hhi : 4 * (RHE (m * m) d * 2 ^ d) < 4 * (m * m) + 4 * m + 1 := by
    unfold two52 at *
    rcases hd2 with h | h
    · have := hpd.1 h; omega
    · have := hpd.2 h; omega
  clear n1 n2
  generalize RHE (m * m) d = K at *
  -- the word's parts
  obtain ⟨z1, z2, z3, z4, z5, z6, z7, z8, z9, z10, z11, z12, z13⟩ := z_facts he he2 hd2
  obtain ⟨q, f, g1, g2, g3, g4, g5⟩ : ∃ q : Nat, ∃ f : Int, fMag (nearV false (m * m) (e + e)) = q ∧ fPl (nearV false (m * m) (e + e)) = f ∧ fPow (nearV false (m * m) (e + e)) ≠ 2047 ∧ e + e ≤ f ∧ q * 2 ^ (f - (e + e)).toNat = K * 2 ^ d := by
    clear hlo hhi hex hpd hK hlast hlog
    by_cases hc : K < 9007199254740992
    · have hR : nearR (m * m) (e + e) = (e + e + d + 1074).toNat * two52 + K := by
        unfold nearR; rw [hrung]; exact min_inf z6 hc
      obtain ⟨r1, r2, r3⟩ := read_fits (q := K) (e := e + e + d) false z5 z9 hc (.inl kb2)
      have hv : nearV false (m * m) (e + e) = sgn false ((e + e + d + 1074).toNat * two52 + K) := by unfold nearV; rw [hR]
      rw [hv]
      exact ⟨_, _, r1, r2, r3, z1, by rw [z2]⟩
    · have hKe : K = 2 * two52 := K_eq kb1 hc
      have h52 : (e + e + d + 1074).toNat * two52 + K = (e + e + d + 1 + 1074).toNat * two52 + two52 := by
        rw [hKe, z11, Nat.add_mul, Nat.one_mul, Nat.two_mul, Nat.add_assoc]
      have hR : nearR (m * m) (e + e) = (e + e + d + 1 + 1074).toNat * two52 + two52 := by
        unfold nearR; rw [hrung, h52]; exact min_inf z7 (by decide)
      obtain ⟨r1, r2, r3⟩ := read_fits (q := two52) (e := e + e + d + 1) false z8 z10 (by decide) (.inl (Nat.le_refl _))
      have hv : nearV false (m * m) (e + e) = sgn false ((e + e + d + 1 + 1074).toNat * two52 + two52) := by unfold nearV; rw [hR]
      rw [hv]
      refine ⟨_, _, r1, r2, r3, z3, ?_⟩
      rw [z4, hKe, Nat.pow_add, ← Nat.mul_assoc, Nat.pow_one, Nat.mul_comm two52 2]
  have hq0 : q ≠ 0 := fun h => by
    rw [h, Nat.zero_mul] at g5
    have := Nat.mul_ne_zero (show K ≠ 0 by unfold two52 at kb2; omega) (Nat.ne_of_gt (Nat.two_pow_pos d))
    omega
  refine ⟨q, f, g1, g2, g3, hq0, ?_⟩
  have hN : q * 2 ^ ((f - (e + e)).toNat + 120) = K * 2 ^ d * 4 ^ 60 := by
    rw [Nat.pow_add, ← Nat.mul_assoc, g5]
  have hroot := isq_ok (q * 2 ^ ((f - (e + e)).toNat + 120))
  have hbig : 9007199254740992 ≤ isq (q * 2 ^ ((f - (e + e)).toNat + 120)) := root_ge hroot (by
    have a1 : 2 ^ 110 ≤ 2 ^ ((f - (e + e)).toNat + 120) := Nat.pow_le_pow_right (by decide) (Nat.le_trans (by decide : 110 ≤ 120) (Nat.le_add_left _ _))
    have a2 := Nat.mul_le_mul (show 1 ≤ q from Nat.pos_of_ne_zero hq0) a1
    have a3 : (9007199254740992 : Nat) * 9007199254740992 ≤ 2 ^ 110 := by decide
    rw [Nat.one_mul] at a2
    exact Nat.le_trans a3 a2)
  have hany := sq_any (m := q) (s := (f - (e + e)).toNat + 120) (e := f) (p := e - 60) hq0 (pl_fact g4) hroot hbig
  rw [← hany.1]
  generalize isq (q * 2 ^ ((f - (e + e)).toNat + 120)) = w at *
  rw [hN] at hroot ⊢
  exact root_about (t := 60) h1 h2 z12 z13 (.inl hlo) hhi hex (by decide) hroot
end Go.Proofs.Ytogcdllpjcnbkaa.Dx

namespace Go.Proofs.Ytogcdllpjcnbkaa.Dx
open Go

def DV (x e : Int) : Rat := (x : Rat) * P2 e
theorem P2_int (n : Nat) : P2 n = (((2 : Int) ^ n : Int) : Rat) := by
  rw [P2_nat, Rat.natCast_pow, Rat.intCast_pow]; rfl
theorem DV_at (x : Int) {e l : Int} (h : l ≤ e) : DV (x * 2 ^ (e - l).toNat) l = DV x e := by
  unfold DV
  rw [Rat.intCast_mul, ← P2_int, Rat.mul_assoc, ← P2_add]
  exact congrArg _ (congrArg P2 (by omega))
theorem DV_le {x y l : Int} : DV x l ≤ DV y l ↔ x ≤ y := by
  unfold DV
  constructor
  · intro h; exact Rat.intCast_le_intCast.1 (Rat.le_of_mul_le_mul_right h (P2_pos l))
  · intro h; exact Rat.mul_le_mul_of_nonneg_right (Rat.intCast_le_intCast.2 h) (Rat.le_of_lt (P2_pos l))
theorem DV_dadd (x e y f : Int) : DV (dadd x e y f) (min e f) = DV x e + DV y f := by
  rw [← DV_at x (Int.min_le_left e f), ← DV_at y (Int.min_le_right e f)]
  unfold dadd DV
  rw [Rat.intCast_add]; grind
theorem DV_mul (x e y f : Int) : DV (x * y) (e + f) = DV x e * DV y f := by
  unfold DV; rw [Rat.intCast_mul, P2_add]; grind
theorem DV_scale (x e k : Int) : DV x (e + k) = DV x e * P2 k := by unfold DV; rw [P2_add]; grind
theorem DV_neg (x e : Int) : DV (-x) e = -DV x e := by unfold DV; rw [Rat.intCast_neg]; grind
theorem dcmp_le (x e y f : Int) : dcmp x e y f ≤ 0 ↔ DV x e ≤ DV y f := by
  rw [← DV_at x (Int.min_le_left e f), ← DV_at y (Int.min_le_right e f), DV_le]
  unfold dcmp cmp3
  split
  · omega
  · split <;> omega
theorem DV_sx {b : Nat} (h : fNeg b = false) : DV (sx b) (fPl b) = W b := by
  unfold DV sx sg W D; rw [h]; simp only [Bool.false_eq_true, if_false]; rw [Rat.intCast_natCast]
theorem od_sign (x : Int) : od x < 0 ↔ x < 0 := by
  have h := od_mul x
  have hp : (0 : Int) < 2 ^ tz x.natAbs := Int.pow_pos (by omega)
  generalize od x = o at *
  generalize (2 : Int) ^ tz x.natAbs = z at *
  constructor
  · intro h1
    rw [← h]
    exact Int.mul_neg_of_neg_of_pos h1 hp
  · intro h1
    rcases Int.lt_or_le o 0 with h2 | h2
    · exact h2
    · have := Int.mul_nonneg h2 (Int.le_of_lt hp); omega
theorem dS_ok (x e : Int) : dS x e = Vb (decide (x < 0)) := by unfold dS bS; rw [Bo_inj, decide_eq_decide]; exact od_sign x
def TameP (x : List Nat) (K : Int) : Prop := ∀ i, i < x.length → fPow (el x i) ≠ 2047 ∧ (fMag (el x i) = 0 ∨ (-K ≤ expB (el x i) ∧ expB (el x i) < K))
section
variable {x : List Nat} (hx : Words x) (h64 : x.length < 9000000000000000000) {K : Int} (hK : 0 ≤ K ∧ K ≤ 100000)
include hx h64 hK
theorem tame_loop {x2 : PV} : ∀ (n : Nat) {i : Nat}, i + n = x.length →
    (rounds (fun vs => lo164_1.dv (Vl x :: Vi K :: vs)) [x2, Vi i] = some (.y .ret [])) ∨
    (rounds (fun vs => lo164_1.dv (Vl x :: Vi K :: vs)) [x2, Vi i] = some (.y (.ext 0) [x2]) ∧ ∀ j, i ≤ j → j < x.length → fPow (el x j) ≠ 2047 ∧ (fMag (el x j) = 0 ∨ (-K ≤ expB (el x j) ∧ expB (el x j) < K))) := by
  intro n
  induction n with
  | zero =>
    intro i hi
    refine .inr ⟨rounds_exit ?_ (by simp), fun j h1 h2 => by omega⟩
    simp [lo164_1, TT.dv, show ¬ i < x.length by omega]
  | succ n ih =>
    intro i hi
    have g1 := get_V (x := x) (i := i) (by omega)
    have f1 := finite4_ok (hx.el i)
    have k1 := kind4_ok (hx.el i)
    have e1 := exp8_ok (hx.el i)
    have hlt : i < x.length := by omega
    have s1 : (B.sub .i64).den (Vi 0) (Vi K) = Vi (-K) := by rw [sub_i (by omega) (by omega)]; exact congrArg Vi (by omega)
    have e2 : (B.add .i64).den (Vi i) (Vi 1) = Vi (i + 1) := add_i (by omega) (by omega)
    have hp := fPow_lt (el x i)
    by_cases c1 : fPow (el x i) = 2047
    · refine .inl (rounds_exit ?_ (by simp))
      simp [lo164_1, TT.dv, hlt, g1, f1, c1]
    · have c1' : fPow (el x i) < 2047 := by omega
      have goon : (fMag (el x i) = 0 ∨ (-K ≤ expB (el x i) ∧ expB (el x i) < K)) → rounds (fun vs => lo164_1.dv (Vl x :: Vi K :: vs)) [x2, Vi i] = rounds (fun vs => lo164_1.dv (Vl x :: Vi K :: vs)) [x2, Vi ((i + 1 : Nat) : Int)] := fun hg => by
        refine rounds_cont ?_
        by_cases z : fMag (el x i) = 0
        · rw [(kind_zero _).2 ((mag_zero _).1 z)] at k1
          simp [lo164_1, TT.dv, hlt, g1, f1, c1', k1, e2]
        · have z' : ¬ fKind (el x i) = 0 := fun h => z ((mag_zero _).2 ((kind_zero _).1 h))
          have h2 : -K ≤ expB (el x i) ∧ expB (el x i) < K := hg.resolve_left z
          simp [lo164_1, TT.dv, hlt, g1, f1, c1', k1, z', e1, s1, e2, show ¬ expB (el x i) < -K by omega, show ¬ K ≤ expB (el x i) by omega]
      by_cases hg : fMag (el x i) = 0 ∨ (-K ≤ expB (el x i) ∧ expB (el x i) < K)
      · rcases ih (i := i + 1) (by omega) with h | ⟨h, h'⟩
        · exact .inl ((goon hg).trans h)
        · refine .inr ⟨(goon hg).trans h, fun j h1 h2 => ?_⟩
          rcases Nat.eq_or_lt_of_le h1 with he | he
          · subst he; exact ⟨c1, hg⟩
          · exact h' j (by omega) h2
      · refine .inl (rounds_exit ?_ (by simp))
        have z : ¬ fMag (el x i) = 0 := fun h => hg (.inl h)
        have z' : ¬ fKind (el x i) = 0 := fun h => z ((mag_zero _).2 ((kind_zero _).1 h))
        by_cases c2 : expB (el x i) < -K
        · simp [lo164_1, TT.dv, hlt, g1, f1, c1', k1, z', e1, s1, c2]
        · have c3 : K ≤ expB (el x i) := by omega
          simp [lo164_1, TT.dv, hlt, g1, f1, c1', k1, z', e1, s1, c2, c3]
theorem tame_ok : ∃ b, val 164 [Vl x, Vi K] = some [Vb b] ∧ (b = true → TameP x K) := by
  have h := tame_loop hx h64 hK (x2 := Vb false) x.length (i := 0) (by omega)
  rw [show ((0 : Nat) : Int) = 0 from rfl] at h
  rcases h with h | ⟨h, h'⟩
  · refine ⟨false, val_of tab164 ?_, fun h => by cases h⟩
    simp [tr164, TT.dv, KS.dv, h]
  · refine ⟨true, val_of tab164 ?_, fun _ i hi => h' i (Nat.zero_le _) hi⟩
    simp [tr164, TT.dv, KS.dv, h]
end
end Go.Proofs.Ytogcdllpjcnbkaa.Dx

namespace Go.Proofs.Ytogcdllpjcnbkaa.Dx
open Go

theorem normal_of_exp {b : Nat} (h : fPow b ≠ 2047) (h0 : fMag b ≠ 0) (he : -1022 ≤ expB b) : fPow b ≠ 0 := by
  intro hp
  have hl : (fMag b).log2 < 52 := by
    rw [Nat.log2_lt h0]; unfold fMag; rw [if_pos hp]; exact fFrac_lt b
  unfold expB at he
  rw [if_neg (by omega), log2_bl h0] at he
  unfold fPl at he
  rw [if_pos hp] at he
  omega
/-- What the parts of a norm come to. -/
structure Parts (x : List Nat) (k : Int) : Prop where
  fin : ∀ i, i < x.length → fPow (scaleV (el x i) (-k)) ≠ 2047
  w : ∀ i, i < x.length → absV (scaleV (el x i) (-k)) = nearR (fMag (el x i)) (fPl (el x i) - k)
  le2 : ∀ i, i < x.length → W (scaleV (el x i) (-k)) ≤ 2
theorem clamp_id {k : Int} (h : -2300 ≤ k ∧ k ≤ 2300) : clamp k = k := by unfold clamp; omega
theorem W_two : W 4611686018427387904 = 2 := by
  unfold W D
  rw [show fMag 4611686018427387904 = 2 ^ 52 from by decide, show fPl 4611686018427387904 = -51 from by decide, ← P2_nat, ← P2_add, show ((52 : Nat) : Int) + -51 = ((1 : Nat) : Int) by omega, P2_nat]; rfl
theorem parts_of {x : List Nat} (hx : Words x) {k : Int} (hk : -1100 ≤ k ∧ k ≤ 1100) (hf : ∀ i, i < x.length → fPow (el x i) ≠ 2047) (hm : ∀ i, i < x.length → W (el x i) ≤ P2 (k + 1)) : Parts x k := by
  have key : ∀ i, i < x.length → scaleV (el x i) (-k) = nearV (fNeg (el x i)) (fMag (el x i)) (fPl (el x i) - k) ∧ nearR (fMag (el x i)) (fPl (el x i) - k) ≤ 4611686018427387904 := fun i hi => by
    refine ⟨by rw [scaleV_fin (hx.el i) (hf i hi), clamp_id (by omega), Int.sub_eq_add_neg], near_le (by decide) ?_⟩
    rw [W_two, Int.sub_eq_add_neg, ← D_shift]
    have h1 := Rat.mul_le_mul_of_nonneg_right (hm i hi) (Rat.le_of_lt (P2_pos (-k)))
    rw [← P2_add, show k + 1 + -k = ((1 : Nat) : Int) by omega, P2_nat] at h1
    exact h1
  refine ⟨fun i hi => ?_, fun i hi => ?_, fun i hi => ?_⟩
  · obtain ⟨h1, h2⟩ := key i hi
    rw [h1]
    exact fin_near (Nat.lt_of_le_of_lt h2 (by decide))
  · rw [(key i hi).1, absV_near]
  · obtain ⟨h1, h2⟩ := key i hi
    rw [← W_abs, h1, absV_near, ← W_two, W_le (by have := nearR_le (fMag (el x i)) (fPl (el x i) - k); unfold infR at this; omega) (by decide)]
    exact h2
/-- The square of a part. -/
theorem sq_part {t : Nat} (h : fPow t ≠ 2047) : mulV t t = nearR (fMag t * fMag t) (fPl t + fPl t) ∧ D (fMag t * fMag t) (fPl t + fPl t) = W t * W t := by
  refine ⟨?_, by unfold W; rw [D_mul]⟩
  rw [mulV_fin h h, show (fNeg t != fNeg t) = false by cases fNeg t <;> rfl]
  rfl
theorem sq_le4 {t : Nat} (h : fPow t ≠ 2047) (h2 : W t ≤ 2) : mulV t t ≤ 4616189618054758400 ∧ mulV t t < infR ∧ W (mulV t t) ≤ 4 := by
  have hW4 : W 4616189618054758400 = 4 := by
    unfold W D
    rw [show fMag 4616189618054758400 = 2 ^ 52 from by decide, show fPl 4616189618054758400 = -50 from by decide, ← P2_nat, ← P2_add, show ((52 : Nat) : Int) + -50 = ((2 : Nat) : Int) by omega, P2_nat]; rfl
  obtain ⟨h3, h4⟩ := sq_part h
  have h5 : mulV t t ≤ 4616189618054758400 := by
    rw [h3]
    refine near_le (by decide) ?_
    rw [h4, hW4]
    have h6 := W_nonneg t
    have h7 := Rat.mul_le_mul_of_nonneg_left h2 h6
    grind
  refine ⟨h5, Nat.lt_of_le_of_lt h5 (by decide), ?_⟩
  rw [← hW4, W_le (by omega) (by decide)]; exact h5
/-- Sums of squares: finite, small, no less than each square. -/
theorem sums_ge {x : List Nat} {k : Int} (hP : Parts x k) (hl : x.length ≤ 1000) : ∀ (n : Nat) {i s : Nat}, i + n = x.length → s < infR → W s ≤ ((4 * i : Nat) : Rat) →
    sqrR x k n i s < infR ∧ W (sqrR x k n i s) ≤ ((4 * x.length : Nat) : Rat) ∧ s ≤ sqrR x k n i s ∧ ∀ j, i ≤ j → j < x.length → mulV (scaleV (el x j) (-k)) (scaleV (el x j) (-k)) ≤ sqrR x k n i s := by
  intro n
  induction n with
  | zero =>
    intro i s hi hs hW
    have : i = x.length := by omega
    subst this
    exact ⟨hs, hW, Nat.le_refl _, fun j h1 h2 => by omega⟩
  | succ n ih =>
    intro i s hi hs hW
    unfold sqrR
    have hlt : i < x.length := by omega
    obtain ⟨q1, q2, q3⟩ := sq_le4 (hP.fin i hlt) (hP.le2 i hlt)
    generalize hq : mulV (scaleV (el x i) (-k)) (scaleV (el x i) (-k)) = q at *
    obtain ⟨a1, a2, _⟩ := add_ge hs q2
    obtain ⟨N, p, e1, e2⟩ := add_pos hs q2
    obtain ⟨w1, w2⟩ := W_int (c := 4 * (i + 1)) (by omega)
    have hle : addV s q ≤ nearR (4 * (i + 1)) 0 := by
      rw [e1]
      refine near_le w1 ?_
      rw [e2, w2]
      have : ((4 * (i + 1) : Nat) : Rat) = ((4 * i : Nat) : Rat) + 4 := by rw [Nat.mul_add, Rat.natCast_add]; rfl
      rw [this]
      grind
    have hs' : addV s q < infR := Nat.lt_of_le_of_lt hle w1
    have hW' : W (addV s q) ≤ ((4 * (i + 1) : Nat) : Rat) := by
      rw [← w2, W_le (by unfold infR at hs'; omega) (by unfold infR at w1; omega)]; exact hle
    obtain ⟨r1, r2, r3, r4⟩ := ih (i := i + 1) (s := addV s q) (by omega) hs' hW'
    refine ⟨r1, r2, Nat.le_trans a1 r3, fun j h1 h2 => ?_⟩
    rcases Nat.eq_or_lt_of_le h1 with he | he
    · subst he; rw [hq]; exact Nat.le_trans a2 r3
    · exact r4 j (by omega) h2
theorem sqrt_pos {s : Nat} (h : s < infR) : sqrtV s ≤ infR := by
  have hn : fNeg s = false := by unfold fNeg; unfold infR at h; simp; omega
  have hnan : ¬ nanB s := by unfold nanB fPow; unfold infR at h; omega
  unfold sqrtV
  rw [if_neg hnan, hn]
  split
  · omega
  · simp only [Bool.false_eq_true, if_false]; exact nearR_le _ _
theorem le_inf_nan {s : Nat} (h : s ≤ infR) : ¬ nanB s := by
  rcases Nat.lt_or_eq_of_le h with h1 | h1
  · unfold nanB fPow; unfold infR at h1; omega
  · subst h1; decide
theorem sqrt_mono {a b : Nat} (ha : a ≤ b) (hb : b < infR) : sqrtV a ≤ sqrtV b := by
  have h1 := sqrt_pos (s := a) (by omega)
  have h2 := sqrt_pos hb
  have hi : infR < 9223372036854775808 := by decide
  have := rise (a := a) (b := b) (by omega) (by omega) (by unfold ordOk; simp [le_inf_nan (show a ≤ infR by omega), le_inf_nan (show b ≤ infR by omega)])
    (by rw [rk_pos (by omega), rk_pos (by omega)]; omega) (by unfold ordOk; simp [le_inf_nan h1, le_inf_nan h2])
  rw [rk_pos (by omega), rk_pos (by omega)] at this
  omega
theorem mag_le2 (t : Nat) : fMag t ≤ 2 * two52 := by have := fMag_lt t; unfold two52; omega
theorem mag_normal {t : Nat} (h : fPow t ≠ 0) : two52 ≤ fMag t := by unfold fMag two52; rw [if_neg h]; omega
theorem min_id {z t : Nat} (h : min z infR = t) (h2 : t < infR) : z = t := by omega
/-- The root of the square of a number about 1. -/
theorem sqrt_sq {t : Nat} (h : t < infR) (h0 : fPow t ≠ 0) (h1 : -480 ≤ fPl t) (h2 : fPl t ≤ 330) : sqrtV (mulV t t) = t := by
  have hf : fPow t ≠ 2047 := abs_fin (by unfold absV; unfold infR at h ⊢; omega)
  have hn : fNeg t = false := by unfold fNeg; unfold infR at h; simp; omega
  have m1 := mag_normal h0
  obtain ⟨q, f, q1, q2, q3, q4, q5⟩ := squares_back m1 (fMag_lt t) h1 h2
  rw [(sq_part hf).1]
  rw [show nearV false (fMag t * fMag t) (fPl t + fPl t) = nearR (fMag t * fMag t) (fPl t + fPl t) from rfl] at q1 q2 q3
  have hneg : fNeg (nearR (fMag t * fMag t) (fPl t + fPl t)) = false := word_neg false _ _
  generalize nearR (fMag t * fMag t) (fPl t + fPl t) = Q at *
  unfold sqrtV
  rw [if_neg (fin_nan q3), hneg, q1, q2, if_neg (by
    intro hh
    rcases hh with hh | hh
    · exact q4 hh.1
    · rw [hh] at q3; exact q3 (by decide))]
  simp only [Bool.false_eq_true, if_false]
  show nearR _ _ = _
  rw [q5]
  have := near_W h
  unfold nearR at this
  rw [rung_fits (by omega) (mag_le2 t) (.inl m1)] at this
  generalize (fPl t + 1074).toNat * two52 + fMag t = z at *
  exact min_id this h
/-- The root in the norm of tame numbers that are not all 0. -/
structure Root (x : List Nat) (m : Nat) (k : Int) (r : Nat) : Prop where
  mf : m < infR
  normal : fPow m ≠ 0
  hk : -900 ≤ k ∧ k < 900
  rf : r < infR
  one : 1 ≤ W r
  le : W r ≤ 16
  ge : W m ≤ W r * P2 k
  eq : normV x = scaleV r k
  kx : k = expB m
  rx : r = sqrtV (sqrV x k)
  parts : Parts x k
  sums : sqrV x k < infR ∧ W (sqrV x k) ≤ ((4 * x.length : Nat) : Rat)
theorem norm_root {x : List Nat} (hx : Words x) (hl : x.length ≤ 64) (hT : TameP x 900) (h0 : bigV x ≠ 0) : ∃ k r, Root x (bigV x) k r := by
  have hfin : ∀ i, i < x.length → fPow (el x i) ≠ 2047 := fun i hi => (hT i hi).1
  obtain ⟨b1, b2, b3⟩ := bigR_mem (x := x) x.length (i := 0) (m := 0) (fun j _ hj => fin_nan (hfin j (by omega)))
  have eB : bigR x x.length 0 0 = bigV x := rfl
  rw [eB] at b1 b2 b3
  obtain ⟨i0, -, i1, i2⟩ := b3.resolve_left h0
  clear b3
  have i1' : i0 < x.length := by omega
  have hmf : bigV x < infR := by rw [← i2]; exact fin_abs (hfin i0 i1')
  obtain ⟨f1, f2, f3, f4⟩ := fields_abs (el x i0)
  rw [i2] at f1 f2 f3 f4
  have hpm : fPow (bigV x) ≠ 2047 := by rw [f3]; exact hfin i0 i1'
  have hm0 : fMag (bigV x) ≠ 0 := fun h => by
    have := (mag_zero (bigV x)).1 h
    unfold fPow fFrac at this; unfold infR at hmf; omega
  have heq : expB (bigV x) = expB (el x i0) := by unfold expB; rw [f1, f2, f3]
  have hexp : -900 ≤ expB (bigV x) ∧ expB (bigV x) < 900 := by
    rw [heq]; exact (hT i0 i1').2.resolve_left (by rw [← f1]; exact hm0)
  have hnorm := normal_of_exp hpm hm0 (by omega)
  obtain ⟨w1, w2⟩ := expB_W hpm hm0
  have hWle : ∀ i, i < x.length → W (el x i) ≤ W (bigV x) := fun i hi => by
    rw [← W_abs (el x i), W_le (absV_lt _) (by unfold infR at hmf; omega)]
    exact b2 i (Nat.zero_le _) (by omega)
  have hn : normV x = scaleV (sqrtV (sqrV x (expB (bigV x)))) (expB (bigV x)) := by unfold normV; rw [if_neg (by omega)]
  generalize hk : expB (bigV x) = k at *
  have hP := parts_of hx (k := k) (by omega) hfin (fun i hi => Rat.le_trans (hWle i hi) (Rat.le_of_lt w2))
  obtain ⟨s1, s2, s3, s4⟩ := sums_ge hP (by omega) x.length (i := 0) (s := 0) (by omega) (by decide) (by rw [show W 0 = 0 by unfold W; rw [show fMag 0 = 0 from by decide, D_zero]]; exact Rat.le_refl)
  rw [show sqrR x k x.length 0 0 = sqrV x k from rfl] at s1 s2 s3 s4
  have hq := s4 i0 (Nat.zero_le _) i1'
  -- the greatest part
  have ht := hP.w i0 i1'
  have htf := hP.fin i0 i1'
  generalize htt : scaleV (el x i0) (-k) = t at *
  have hpl : fPl (bigV x) = k - 52 := by have := expB_normal hnorm hpm; omega
  have hxr : exq (fMag (el x i0)) (fPl (el x i0) - k) = true := by
    rw [← f1]
    exact exq_scaled hnorm (by rw [← f2]; omega)
  have hrf : nearR (fMag (el x i0)) (fPl (el x i0) - k) < infR := by rw [← ht]; exact fin_abs htf
  have hWt : W (absV t) = W (bigV x) * P2 (-k) := by
    rw [ht, W_exact (by rw [← f1]; exact hm0) hxr hrf, ← f1, ← f2, Int.sub_eq_add_neg, ← D_shift]; rfl
  have htword : absV t = nearR (fMag (bigV x)) (-52) := by rw [ht, ← f1, ← f2, hpl]; exact congrArg _ (by omega)
  have hm1 := mag_normal hnorm
  have hwd := (near_normal hm1 (fMag_lt (bigV x)) (e := -52) (by omega) (by omega) false).1
  rw [show nearV false (fMag (bigV x)) (-52) = nearR (fMag (bigV x)) (-52) from rfl, ← htword] at hwd
  have hfl := fields_of (s := false) (P := 1022) (q := fMag (bigV x)) (by omega) hm1 (fMag_lt (bigV x))
  rw [show ((-52 : Int) + 1074).toNat = 1022 from rfl] at hwd
  rw [← hwd] at hfl
  obtain ⟨g1, g2, g3, g4⟩ := hfl
  have hplt : fPl (absV t) = -52 := by unfold fPl; rw [g1]; rfl
  have hsq : mulV t t = mulV (absV t) (absV t) := by
    have hfa : fPow (absV t) ≠ 2047 := by rw [(fields_abs t).2.2.1]; exact htf
    rw [(sq_part htf).1, (sq_part hfa).1, (fields_abs t).1, (fields_abs t).2.1]
  have hroot : sqrtV (mulV t t) = absV t := by
    rw [hsq]
    exact sqrt_sq (by rw [ht]; exact hrf) (by omega) (by omega) (by omega)
  have hge : absV t ≤ sqrtV (sqrV x k) := by rw [← hroot]; exact sqrt_mono hq s1
  -- the root is at most 16
  have hW256 : W (nearR 256 0) = ((256 : Nat) : Rat) := (W_int (by omega)).2
  have hle256 : sqrV x k ≤ nearR 256 0 := by
    rw [← W_le (by unfold infR at s1; omega) (by decide), hW256]
    refine Rat.le_trans s2 (Rat.natCast_le_natCast.2 (by omega))
  have h16 : sqrtV (nearR 256 0) = 4625196817309499392 := by
    have h1 : nearR 256 0 = 4643211215818981376 := by decide
    rw [h1]
    have h2 := sqrt_sq (t := 4625196817309499392) (by decide) (by decide) (by decide) (by decide)
    rw [← h2]
    exact congrArg sqrtV (by decide)
  have hr16 : sqrtV (sqrV x k) ≤ 4625196817309499392 := by rw [← h16]; exact sqrt_mono hle256 (by decide)
  have hx2 : ∃ r, r = sqrtV (sqrV x k) := ⟨_, rfl⟩
  obtain ⟨r, hr⟩ := hx2
  rw [← hr] at hge hr16 hn
  have hrf2 : r < infR := Nat.lt_of_le_of_lt hr16 (by decide)
  have hWr : W (absV t) ≤ W r := by rw [W_le (absV_lt _) (by unfold infR at hrf2; omega)]; exact hge
  have hWr2 : W r ≤ 16 := by
    have h1 : W 4625196817309499392 = 16 := by
      unfold W D
      rw [show fMag 4625196817309499392 = 2 ^ 52 from by decide, show fPl 4625196817309499392 = -48 from by decide, ← P2_nat, ← P2_add, show ((52 : Nat) : Int) + -48 = ((4 : Nat) : Int) by omega, P2_nat]; rfl
    rw [← h1, W_le (by unfold infR at hrf2; omega) (by decide)]; exact hr16
  have hone : 1 ≤ W (absV t) := by
    rw [hWt]
    have h1 := Rat.mul_le_mul_of_nonneg_right w1 (Rat.le_of_lt (P2_pos (-k)))
    rwa [← P2_add, show k + -k = 0 by omega, P2_zero] at h1
  refine ⟨k, r, hmf, hnorm, hexp, hrf2, Rat.le_trans hone hWr, hWr2, ?_, hn, hk.symm, hr, hP, s1, s2⟩
  have h1 := Rat.mul_le_mul_of_nonneg_right hWr (Rat.le_of_lt (P2_pos k))
  rw [hWt, Rat.mul_assoc, ← P2_add, show -k + k = 0 by omega, P2_zero, Rat.mul_one] at h1
  exact h1
theorem norm_zero {x : List Nat} (h0 : bigV x = 0) : normV x = 0 := by unfold normV; rw [if_pos (.inl h0), h0]
theorem word_pos {r : Nat} (h : r < infR) : fPow r ≠ 2047 ∧ fNeg r = false ∧ r < 18446744073709551616 ∧ absV r = r := by
  have hi : infR = 9218868437227405312 := rfl
  rw [hi] at h
  exact ⟨abs_fin (by unfold absV; rw [hi]; omega), by unfold fNeg; simp; omega, by omega, by unfold absV; omega⟩
/-- The norm of tame numbers: finite, and no less than the greatest. -/
theorem norm_ge {x : List Nat} (hx : Words x) (hl : x.length ≤ 64) (hT : TameP x 900) : normV x < infR ∧ bigV x ≤ normV x := by
  by_cases h0 : bigV x = 0
  · rw [norm_zero h0, h0]; exact ⟨by decide, Nat.le_refl _⟩
  · obtain ⟨k, r, R⟩ := norm_root hx hl hT h0
    obtain ⟨p1, p2, p3, p4⟩ := word_pos R.rf
    have hk := R.hk
    rw [R.eq, scaleV_fin p3 p1, p2, clamp_id (by omega)]
    show nearR _ _ < infR ∧ _ ≤ nearR _ _
    constructor
    · refine near_fin ?_
      rw [← D_shift]
      show W r * P2 k ≤ _
      have h1 := Rat.mul_le_mul_of_nonneg_right R.le (Rat.le_of_lt (P2_pos k))
      have h2 : (16 : Rat) * P2 k = P2 (((4 : Nat) : Int) + k) := by rw [P2_add, P2_nat]; rfl
      rw [h2] at h1
      exact Rat.le_trans h1 (P2_mono (by omega))
    · refine near_ge R.mf ?_
      rw [← D_shift]
      exact R.ge
end Go.Proofs.Ytogcdllpjcnbkaa.Dx

namespace Go.Proofs.Ytogcdllpjcnbkaa.Dx
open Go

theorem rat_sq_le {a b : Rat} (h0 : 0 ≤ a) (h : a ≤ b) : a * a ≤ b * b := by
  have h1 := Rat.mul_le_mul_of_nonneg_left h h0
  have h2 := Rat.mul_le_mul_of_nonneg_right h (Rat.le_trans h0 h)
  exact Rat.le_trans h1 h2
theorem rat_sq_nonneg (a : Rat) : 0 ≤ a * a := by
  rcases Rat.le_total (a := 0) (b := a) with h | h
  · exact Rat.mul_nonneg h h
  · have := Rat.mul_nonneg (a := -a) (b := -a) (by grind) (by grind)
    grind
theorem err_sq {a T η : Rat} (ha : 0 ≤ a) (ha2 : a ≤ 2) (hT : 0 ≤ T) (hη : 0 ≤ η) (hη1 : η ≤ 1 / 1000000) (h1 : T ≤ a + a * (1 / 9007199254740992) + η) (h2 : a ≤ T + a * (1 / 9007199254740992) + η) :
    T * T ≤ a * a + 3 * (1 / 9007199254740992) * (a * a) + 10 * η ∧ a * a ≤ T * T + 3 * (1 / 9007199254740992) * (a * a) + 10 * η := by
  have e1 : a * η ≤ 2 * η := Rat.mul_le_mul_of_nonneg_right ha2 hη
  have e0 : 0 ≤ a * η := Rat.mul_nonneg ha hη
  have e2 : η * η ≤ η := by
    have := Rat.mul_le_mul_of_nonneg_right hη1 hη
    grind
  have e3 := Rat.mul_nonneg hη hη
  have e4 := Rat.mul_nonneg ha ha
  constructor
  · have := rat_sq_le hT h1
    grind
  · -- a - a/U - η may be negative; then a is small
    have e5 : a * T ≤ a * (a + a * (1 / 9007199254740992) + η) := Rat.mul_le_mul_of_nonneg_left h1 ha
    have e6 : a * a ≤ a * (T + a * (1 / 9007199254740992) + η) := Rat.mul_le_mul_of_nonneg_left h2 ha
    have e7 : T * a ≤ T * (T + a * (1 / 9007199254740992) + η) := Rat.mul_le_mul_of_nonneg_left h2 hT
    have e8 : T * η ≤ (a + a * (1 / 9007199254740992) + η) * η := Rat.mul_le_mul_of_nonneg_right h1 hη
    grind
/-- One rounding of a number that is not negative. -/
theorem near_err' {n : Nat} {p : Int} (h : nearR n p < infR) : W (nearR n p) ≤ D n p + D n p * (1 / 9007199254740992) + P2 (-1075) ∧ D n p ≤ W (nearR n p) + D n p * (1 / 9007199254740992) + P2 (-1075) := by
  have hu : P2 (-53) = 1 / 9007199254740992 := by decide +kernel
  have := near_err h
  rwa [hu] at this
theorem eta_small : 0 ≤ P2 (-1075) ∧ P2 (-1075) ≤ 1 / 1000000000000000000000000000000 := by
  refine ⟨Rat.le_of_lt (P2_pos _), ?_⟩
  have h1 : P2 (-1075) ≤ P2 (-120) := P2_mono (by omega)
  have h2 : P2 (-120) ≤ 1 / 1000000000000000000000000000000 := by decide +kernel
  exact Rat.le_trans h1 h2
end Go.Proofs.Ytogcdllpjcnbkaa.Dx

namespace Go.Proofs.Ytogcdllpjcnbkaa.Dx
open Go

theorem err_step {s A q aa s' c d η : Rat} (hA : 0 ≤ A) (haa : 0 ≤ aa) (hη : 0 ≤ η) (hc : 5 ≤ c) (hc2 : c ≤ 200) (hd : 0 ≤ d) (hd2 : d ≤ 1000)
    (h1 : s ≤ A + c * (1 / 9007199254740992) * A + d * η) (h2 : A ≤ s + c * (1 / 9007199254740992) * A + d * η)
    (h3 : q ≤ aa + 5 * (1 / 9007199254740992) * aa + 12 * η) (h4 : aa ≤ q + 5 * (1 / 9007199254740992) * aa + 12 * η)
    (h5 : s' ≤ (s + q) + (s + q) * (1 / 9007199254740992) + η) (h6 : s + q ≤ s' + (s + q) * (1 / 9007199254740992) + η) :
    s' ≤ (A + aa) + (c + 2) * (1 / 9007199254740992) * (A + aa) + (d + 14) * η ∧ A + aa ≤ s' + (c + 2) * (1 / 9007199254740992) * (A + aa) + (d + 14) * η := by
  have e1 : 5 * aa ≤ c * aa := Rat.mul_le_mul_of_nonneg_right hc haa
  have e2 : c * A ≤ 200 * A := Rat.mul_le_mul_of_nonneg_right hc2 hA
  have e3 : c * aa ≤ 200 * aa := Rat.mul_le_mul_of_nonneg_right hc2 haa
  have e4 : d * η ≤ 1000 * η := Rat.mul_le_mul_of_nonneg_right hd2 hη
  have e5 : 0 ≤ d * η := Rat.mul_nonneg hd hη
  have e6 : 5 * A ≤ c * A := Rat.mul_le_mul_of_nonneg_right hc hA
  constructor <;> grind
def sumA (a : Nat → Rat) : Nat → Rat
  | 0 => 0
  | n + 1 => sumA a n + a n * a n
theorem sumA_nonneg (a : Nat → Rat) : ∀ n, 0 ≤ sumA a n
  | 0 => Rat.le_refl
  | n + 1 => by
    unfold sumA
    have h1 := sumA_nonneg a n
    have h2 := rat_sq_nonneg (a n)
    grind
theorem sumA_ge (a : Nat → Rat) : ∀ {n i : Nat}, i < n → a i * a i ≤ sumA a n
  | 0, _, h => by omega
  | n + 1, i, h => by
    unfold sumA
    have h2 := rat_sq_nonneg (a n)
    rcases Nat.lt_or_eq_of_le (Nat.le_of_lt_succ h) with h3 | h3
    · have h1 := sumA_ge a h3
      grind
    · subst h3
      have h1 := sumA_nonneg a i
      grind
theorem nat_rat (n : Nat) : ((n + 1 : Nat) : Rat) = (n : Rat) + 1 := by rw [Rat.natCast_add]; rfl
/-- A part, and its square. -/
theorem part_err {x : List Nat} {k : Int} (hP : Parts x k) {i : Nat} (hi : i < x.length) (ha2 : W (el x i) * P2 (-k) ≤ 2) :
    let aa := (W (el x i) * P2 (-k)) * (W (el x i) * P2 (-k))
    W (mulV (scaleV (el x i) (-k)) (scaleV (el x i) (-k))) ≤ aa + 5 * (1 / 9007199254740992) * aa + 12 * P2 (-1075) ∧ aa ≤ W (mulV (scaleV (el x i) (-k)) (scaleV (el x i) (-k))) + 5 * (1 / 9007199254740992) * aa + 12 * P2 (-1075) := by
  intro aa
  have hw := hP.w i hi
  have hf := hP.fin i hi
  obtain ⟨q1, q2, q3⟩ := sq_le4 hf (hP.le2 i hi)
  obtain ⟨s1, s2⟩ := sq_part hf
  obtain ⟨n1, n2⟩ := eta_small
  generalize scaleV (el x i) (-k) = t at *
  have hr : nearR (fMag (el x i)) (fPl (el x i) - k) < infR := by rw [← hw]; exact fin_abs hf
  have hD : D (fMag (el x i)) (fPl (el x i) - k) = W (el x i) * P2 (-k) := by rw [Int.sub_eq_add_neg, ← D_shift]; rfl
  have ha0 : 0 ≤ W (el x i) * P2 (-k) := Rat.mul_nonneg (W_nonneg _) (Rat.le_of_lt (P2_pos _))
  obtain ⟨e1, e2⟩ := near_err' hr
  rw [← hw, W_abs, hD] at e1 e2
  obtain ⟨f1, f2⟩ := err_sq ha0 ha2 (W_nonneg t) n1 (by grind) e1 e2
  rw [s1] at q2
  obtain ⟨g1, g2⟩ := near_err' q2
  rw [← s1, s2] at g1 g2
  have h0 := rat_sq_nonneg (W (el x i) * P2 (-k))
  have h1 := rat_sq_nonneg (W t)
  show W (mulV t t) ≤ aa + _ * aa + _ ∧ aa ≤ _ + _ * aa + _
  have haa : aa = (W (el x i) * P2 (-k)) * (W (el x i) * P2 (-k)) := rfl
  rw [← haa] at f1 f2 h0
  clear haa
  generalize W t * W t = TT at *
  constructor <;> grind
theorem sums_err {x : List Nat} {k : Int} (hP : Parts x k) (hl : x.length ≤ 64) (ha2 : ∀ i, i < x.length → W (el x i) * P2 (-k) ≤ 2) : ∀ (n : Nat) {i s : Nat}, i + n = x.length → s < infR → W s ≤ ((4 * i : Nat) : Rat) →
    (W s ≤ sumA (fun i => W (el x i) * P2 (-k)) i + (5 + 2 * (i : Rat)) * (1 / 9007199254740992) * sumA (fun i => W (el x i) * P2 (-k)) i + (14 * (i : Rat)) * P2 (-1075)) →
    (sumA (fun i => W (el x i) * P2 (-k)) i ≤ W s + (5 + 2 * (i : Rat)) * (1 / 9007199254740992) * sumA (fun i => W (el x i) * P2 (-k)) i + (14 * (i : Rat)) * P2 (-1075)) →
    (W (sqrR x k n i s) ≤ sumA (fun i => W (el x i) * P2 (-k)) x.length + (5 + 2 * (x.length : Rat)) * (1 / 9007199254740992) * sumA (fun i => W (el x i) * P2 (-k)) x.length + (14 * (x.length : Rat)) * P2 (-1075)) ∧
    (sumA (fun i => W (el x i) * P2 (-k)) x.length ≤ W (sqrR x k n i s) + (5 + 2 * (x.length : Rat)) * (1 / 9007199254740992) * sumA (fun i => W (el x i) * P2 (-k)) x.length + (14 * (x.length : Rat)) * P2 (-1075)) := by
  intro n
  induction n with
  | zero =>
    intro i s hi hs hW h1 h2
    have : i = x.length := by omega
    subst this
    exact ⟨h1, h2⟩
  | succ n ih =>
    intro i s hi hs hW h1 h2
    unfold sqrR
    have hlt : i < x.length := by omega
    obtain ⟨q1, q2, q3⟩ := sq_le4 (hP.fin i hlt) (hP.le2 i hlt)
    obtain ⟨p1, p2⟩ := part_err hP hlt (ha2 i hlt)
    generalize hq : mulV (scaleV (el x i) (-k)) (scaleV (el x i) (-k)) = q at *
    obtain ⟨N, p, e1, e2⟩ := add_pos hs q2
    obtain ⟨w1, w2⟩ := W_int (c := 4 * (i + 1)) (by omega)
    have hle : addV s q ≤ nearR (4 * (i + 1)) 0 := by
      rw [e1]
      refine near_le w1 ?_
      rw [e2, w2]
      have : ((4 * (i + 1) : Nat) : Rat) = ((4 * i : Nat) : Rat) + 4 := by rw [Nat.mul_add, Rat.natCast_add]; rfl
      rw [this]
      grind
    have hs' : addV s q < infR := Nat.lt_of_le_of_lt hle w1
    have hW' : W (addV s q) ≤ ((4 * (i + 1) : Nat) : Rat) := by
      rw [← w2, W_le (by unfold infR at hs'; omega) (by unfold infR at w1; omega)]; exact hle
    rw [e1] at hs'
    obtain ⟨g1, g2⟩ := near_err' hs'
    rw [← e1, e2] at g1 g2
    rw [← e1] at hs'
    have hi64 : (i : Rat) ≤ 64 := by
      have : (i : Rat) ≤ ((64 : Nat) : Rat) := Rat.natCast_le_natCast.2 (by omega)
      exact this
    have hi0 : (0 : Rat) ≤ i := Rat.natCast_nonneg
    have hst := err_step (s := W s) (A := sumA (fun i => W (el x i) * P2 (-k)) i) (q := W q) (aa := (W (el x i) * P2 (-k)) * (W (el x i) * P2 (-k))) (s' := W (addV s q)) (c := 5 + 2 * (i : Rat)) (d := 14 * (i : Rat)) (η := P2 (-1075))
      (sumA_nonneg _ i) (rat_sq_nonneg _) eta_small.1 (by grind) (by grind) (by grind) (by grind) h1 h2 p1 p2 g1 g2
    have hA : sumA (fun i => W (el x i) * P2 (-k)) i + (W (el x i) * P2 (-k)) * (W (el x i) * P2 (-k)) = sumA (fun i => W (el x i) * P2 (-k)) (i + 1) := rfl
    rw [hA, show (5 + 2 * (i : Rat) + 2) = 5 + 2 * ((i + 1 : Nat) : Rat) by rw [nat_rat]; grind, show (14 * (i : Rat) + 14) = 14 * ((i + 1 : Nat) : Rat) by rw [nat_rat]; grind] at hst
    exact ih (i := i + 1) (s := addV s q) (by omega) hs' hW' hst.1 hst.2
/-- The root, before it is rounded: its square is the number but for two parts in 2^53. -/
theorem stk_sq {N w : Nat} (h : IsRoot N w) (hw : 9007199254740992 ≤ w) : 
    ((stk N w * stk N w : Nat) : Rat) ≤ (4 * N : Nat) + (4 * N : Nat) * (2 * (1 / 9007199254740992)) ∧ ((4 * N : Nat) : Rat) ≤ (stk N w * stk N w : Nat) + (4 * N : Nat) * (2 * (1 / 9007199254740992)) := by
  obtain ⟨h1, h2⟩ := h
  have key : stk N w * stk N w ≤ 4 * N + 4 * w + 1 ∧ 4 * N ≤ stk N w * stk N w + 4 * w + 4 := by
    unfold stk
    by_cases hx : w * w = N
    · rw [decide_eq_false (by simp [hx])]
      have : (2 * w + false.toNat) * (2 * w + false.toNat) = 4 * (w * w) := by
        simp only [Bool.toNat_false, Nat.add_zero]; rw [Nat.mul_mul_mul_comm]
      rw [this, hx]; omega
    · rw [decide_eq_true hx]
      have : (2 * w + true.toNat) * (2 * w + true.toNat) = 4 * (w * w) + 4 * w + 1 := sq_exp w
      rw [this]
      have h3 : (w + 1) * (w + 1) = w * w + 2 * w + 1 := by rw [Nat.add_mul, Nat.mul_add]; omega
      omega
  have hww : 9007199254740992 * w ≤ w * w := Nat.mul_le_mul_right w hw
  have k2 : 9007199254740992 * w ≤ N := Nat.le_trans hww h1
  have r1 : ((stk N w * stk N w : Nat) : Rat) ≤ ((4 * N + 4 * w + 1 : Nat) : Rat) := Rat.natCast_le_natCast.2 key.1
  have r2 : ((4 * N : Nat) : Rat) ≤ ((stk N w * stk N w + 4 * w + 4 : Nat) : Rat) := Rat.natCast_le_natCast.2 key.2
  have r3 : ((9007199254740992 * w : Nat) : Rat) ≤ (N : Rat) := Rat.natCast_le_natCast.2 k2
  have r4 : ((9007199254740992 : Nat) : Rat) ≤ (w : Rat) := Rat.natCast_le_natCast.2 hw
  simp only [Rat.natCast_add, Rat.natCast_mul] at r1 r2 r3 ⊢
  have c1 : ((4 : Nat) : Rat) = 4 := rfl
  have c2 : ((1 : Nat) : Rat) = 1 := rfl
  have c3 : ((9007199254740992 : Nat) : Rat) = 9007199254740992 := rfl
  rw [c3] at r3 r4
  rw [c1] at r1 r2 ⊢
  rw [c2] at r1
  generalize (stk N w : Rat) * (stk N w : Rat) = z at *
  generalize (N : Rat) = n at *
  generalize (w : Rat) = y at *
  constructor <;> grind
end Go.Proofs.Ytogcdllpjcnbkaa.Dx

namespace Go.Proofs.Ytogcdllpjcnbkaa.Dx
open Go

/-- Bounds that sums bear: how low the place is, how high the top. -/
structure DBs (x e : Int) (E T : Nat) : Prop where
  lo : -(E : Int) ≤ e
  hi : e ≤ E
  top : (bl x.natAbs : Int) + e ≤ T
theorem DBs.db {x e : Int} {E T : Nat} (h : DBs x e E T) (h1 : E ≤ 40000000) (h2 : T ≤ 40000000) : DB x e := by
  obtain ⟨a, b, c⟩ := h
  exact ⟨by omega, by omega, by omega⟩
theorem DBs.word (b : Nat) : DBs (sx b) (fPl b) 1100 1100 := by
  have h1 := bl_mag b
  have h2 := fPl_bd b
  exact ⟨by omega, by omega, by omega⟩
theorem DBs.mono {x e : Int} {E T E' T' : Nat} (h : DBs x e E T) (h1 : E ≤ E') (h2 : T ≤ T') : DBs x e E' T' := by
  obtain ⟨a, b, c⟩ := h
  exact ⟨by omega, by omega, by omega⟩
theorem DBs.neg {x e : Int} {E T : Nat} (h : DBs x e E T) : DBs (-x) e E T := by
  obtain ⟨a, b, c⟩ := h
  exact ⟨a, b, by rwa [Int.natAbs_neg]⟩
theorem DBs.mul {x e y f : Int} {E T E' T' : Nat} (h : DBs x e E T) (h' : DBs y f E' T') : DBs (x * y) (e + f) (E + E') (T + T') := by
  obtain ⟨a, b, c⟩ := h
  obtain ⟨a', b', c'⟩ := h'
  have := bl_int_mul x y
  exact ⟨by omega, by omega, by omega⟩
theorem DBs.scale {x e k : Int} {E T : Nat} (h : DBs x e E T) (K : Nat) (hk : -(K : Int) ≤ k ∧ k ≤ K) : DBs x (e + k) (E + K) (T + K) := by
  obtain ⟨a, b, c⟩ := h
  exact ⟨by omega, by omega, by omega⟩
theorem DBs.add {x e y f : Int} {E T : Nat} (h : DBs x e E T) (h' : DBs y f E T) : DBs (dadd x e y f) (min e f) E (T + 1) := by
  obtain ⟨a, b, c⟩ := h
  obtain ⟨a', b', c'⟩ := h'
  have h1 := bl_int_add (x * 2 ^ (e - min e f).toNat) (y * 2 ^ (f - min e f).toNat)
  have h2 := bl_int_shl x (e - min e f).toNat
  have h3 := bl_int_shl y (f - min e f).toNat
  refine ⟨by omega, by omega, ?_⟩
  unfold dadd
  omega
end Go.Proofs.Ytogcdllpjcnbkaa.Dx

namespace Go.Proofs.Ytogcdllpjcnbkaa.Dx
open Go

theorem bigR_congr {x y : List Nat} : ∀ (n : Nat) {i m : Nat}, (∀ j, i ≤ j → j < i + n → absV (el y j) = absV (el x j)) → bigR y n i m = bigR x n i m
  | 0, _, _, _ => rfl
  | n + 1, i, m, h => by
    unfold bigR
    have h1 := h i (Nat.le_refl _) (by omega)
    have h2 : nanB (el y i) ↔ nanB (el x i) := by rw [← nanB_absV (el y i), h1, nanB_absV]
    rw [h1, bigR_congr n fun j hj hj2 => h j (by omega) (by omega)]
    by_cases c : nanB (el x i)
    · rw [if_pos c, if_pos (h2.2 c)]
    · rw [if_neg c, if_neg (fun hh => c (h2.1 hh))]
theorem sqrR_congr {x y : List Nat} {k l : Int} : ∀ (n : Nat) {i s : Nat}, (∀ j, i ≤ j → j < i + n → mulV (scaleV (el y j) (-l)) (scaleV (el y j) (-l)) = mulV (scaleV (el x j) (-k)) (scaleV (el x j) (-k))) → sqrR y l n i s = sqrR x k n i s
  | 0, _, _, _ => rfl
  | n + 1, i, s, h => by
    unfold sqrR
    rw [h i (Nat.le_refl _) (by omega)]
    exact sqrR_congr n fun j hj hj2 => h j (by omega) (by omega)
theorem sq_abs {t u : Nat} (h1 : fPow t ≠ 2047) (h2 : fPow u ≠ 2047) (h : absV t = absV u) : mulV t t = mulV u u := by
  obtain ⟨a1, a2, a3, a4⟩ := fields_abs t
  obtain ⟨b1, b2, b3, b4⟩ := fields_abs u
  rw [(sq_part h1).1, (sq_part h2).1, ← a1, ← a2, ← b1, ← b2, h]
theorem scale_near {b : Nat} (hb : b < 18446744073709551616) (h : fPow b ≠ 2047) {k : Int} (hk : -2300 ≤ k ∧ k ≤ 2300) : absV (scaleV b k) = nearR (fMag b) (fPl b + k) := by
  rw [scaleV_fin hb h, clamp_id hk, absV_near]
theorem fPl_eq {w : Nat} (h : fPow w ≠ 0) : fPl w = (fPow w : Int) - 1075 := by unfold fPl; rw [if_neg h]
/-- A word, times a power of two, that stays a normal one. -/
theorem scale_exact {b : Nat} (hb : b < 18446744073709551616) (h0 : fPow b ≠ 0) (h : fPow b ≠ 2047) {k : Int} (hk : -2300 ≤ k ∧ k ≤ 2300) (h1 : -1022 ≤ expB b + k) (h2 : expB b + k ≤ 1023) :
    fMag (scaleV b k) = fMag b ∧ fPl (scaleV b k) = fPl b + k ∧ fPow (scaleV b k) ≠ 2047 ∧ fPow (scaleV b k) ≠ 0 ∧ W (scaleV b k) = W b * P2 k ∧ absV (scaleV b k) = nearR (fMag b) (fPl b + k) := by
  have he := expB_normal h0 h
  have m1 := mag_normal h0
  have hd := (near_normal m1 (fMag_lt b) (e := fPl b + k) (by omega) (by omega) (fNeg b)).1
  have hs : scaleV b k = nearV (fNeg b) (fMag b) (fPl b + k) := by rw [scaleV_fin hb h, clamp_id hk]
  have hw := scale_near hb h hk
  rw [hs, hd]
  obtain ⟨g1, g2, g3, g4⟩ := fields_of (s := fNeg b) (P := (fPl b + k + 1074).toNat) (q := fMag b) (by omega) m1 (fMag_lt b)
  have g5 : fPl (sgn (fNeg b) ((fPl b + k + 1074).toNat * two52 + fMag b)) = fPl b + k := by
    rw [fPl_eq (by rw [g1]; omega), g1]
    omega
  refine ⟨g2, g5, ?_, by rw [g1]; omega, ?_, ?_⟩
  · rw [g1]; clear hd hs hw g1 g2 g3 g4 g5; omega
  · unfold W; rw [g2, g5, D_shift]
  · rw [← hd, absV_near]
theorem W_zero_of {b : Nat} (h : fMag b = 0) : W b = 0 := by unfold W; rw [h, D_zero]
end Go.Proofs.Ytogcdllpjcnbkaa.Dx

namespace Go.Proofs.Ytogcdllpjcnbkaa.Dx
open Go

theorem P2_le_iff {a b : Int} : P2 a ≤ P2 b ↔ a ≤ b := by
  constructor
  · intro h
    rcases Int.lt_or_le b a with h1 | h1
    · have := P2_lt h1; grind
    · exact h1
  · exact P2_mono
theorem W_eq {a b : Nat} (ha : a < 9223372036854775808) (hb : b < 9223372036854775808) (h : W a = W b) : a = b :=
  Nat.le_antisymm ((W_le ha hb).1 (by rw [h]; exact Rat.le_refl)) ((W_le hb ha).1 (by rw [h]; exact Rat.le_refl))
theorem root_exp {r : Nat} (hr : r < infR) (h1 : 1 ≤ W r) (h2 : W r ≤ 16) : fMag r ≠ 0 ∧ 0 ≤ expB r ∧ expB r ≤ 4 ∧ fPow r ≠ 0 := by
  obtain ⟨p1, p2, p3, p4⟩ := word_pos hr
  have h0 : fMag r ≠ 0 := fun h => by rw [W_zero_of h] at h1; grind
  obtain ⟨w1, w2⟩ := expB_W p1 h0
  have e1 : P2 (expB r) ≤ P2 ((4 : Nat) : Int) := by rw [P2_nat]; exact Rat.le_trans w1 h2
  rw [P2_le_iff] at e1
  have e2 : ¬ P2 (expB r + 1) ≤ P2 0 := by rw [P2_zero]; grind
  rw [P2_le_iff] at e2
  exact ⟨h0, by omega, by omega, normal_of_exp p1 h0 (by omega)⟩
theorem tame_mono {x : List Nat} {K K' : Int} (h : TameP x K) (hK : K ≤ K') : TameP x K' := fun i hi => by
  obtain ⟨h1, h2⟩ := h i hi
  refine ⟨h1, ?_⟩
  rcases h2 with h2 | ⟨h2, h3⟩
  · exact .inl h2
  · exact .inr ⟨by omega, by omega⟩
theorem norm_scaled {x z : List Nat} (hx : Words x) (hz : Words z) (hl : x.length ≤ 64) (hlz : z.length = x.length) (hT : TameP x 400) {k : Int} (hk : -400 ≤ k ∧ k ≤ 400) (he : ∀ i, i < x.length → el z i = scaleV (el x i) k) : normV z = scaleV (normV x) k := by
  have hT9 := tame_mono hT (show (400 : Int) ≤ 900 by omega)
  by_cases h0 : bigV x = 0
  · obtain ⟨b1, b2, b3⟩ := bigR_mem (x := x) x.length (i := 0) (m := 0) (fun j _ hj => fin_nan (hT j (by omega)).1)
    have hzero : ∀ i, i < x.length → absV (el x i) = 0 := fun i hi => by
      have := b2 i (Nat.zero_le _) (by omega)
      rw [show bigR x x.length 0 0 = bigV x from rfl, h0] at this
      omega
    have hb : bigV z = bigV x := by
      unfold bigV
      rw [hlz]
      refine bigR_congr _ fun j _ hj => ?_
      have hj' : j < x.length := by omega
      rw [he j hj']
      have hm : fMag (el x j) = 0 := by
        rw [mag_zero]; have := hzero j hj'; unfold absV at this; unfold fPow fFrac; omega
      unfold scaleV
      rw [if_neg (fin_nan (hT j hj').1), if_pos (.inr hm)]
    rw [norm_zero h0, norm_zero (hb.trans h0)]
    unfold scaleV
    rw [if_neg (by decide), if_pos (.inr (by decide))]
  · obtain ⟨e, r, R⟩ := norm_root hx hl hT9 h0
    have hfacts : ∀ i, i < x.length → fPow (el z i) ≠ 2047 ∧ W (el z i) = W (el x i) * P2 k ∧ (fMag (el z i) = 0 ∨ (-900 ≤ expB (el z i) ∧ expB (el z i) < 900)) := fun i hi => by
      obtain ⟨f1, f2⟩ := hT i hi
      rw [he i hi]
      rcases f2 with f2 | f2
      · have : scaleV (el x i) k = el x i := by unfold scaleV; rw [if_neg (fin_nan f1), if_pos (.inr f2)]
        rw [this, W_zero_of f2]
        exact ⟨f1, by grind, .inl f2⟩
      · by_cases hm : fMag (el x i) = 0
        · have : scaleV (el x i) k = el x i := by unfold scaleV; rw [if_neg (fin_nan f1), if_pos (.inr hm)]
          rw [this, W_zero_of hm]
          exact ⟨f1, by grind, .inl hm⟩
        · have hn := normal_of_exp f1 hm (by omega)
          obtain ⟨s1, s2, s3, s4, s5, s6⟩ := scale_exact (hx.el i) hn f1 (k := k) (by omega) (by omega) (by omega)
          refine ⟨s3, s5, .inr ?_⟩
          rw [expB_normal s4 s3, s2]
          have := expB_normal hn f1
          omega
    have hTz : TameP z 900 := fun i hi => ⟨(hfacts i (by omega)).1, (hfacts i (by omega)).2.2⟩
    -- the greatest
    obtain ⟨b1, b2, b3⟩ := bigR_mem (x := x) x.length (i := 0) (m := 0) (fun j _ hj => fin_nan (hT j (by omega)).1)
    obtain ⟨c1, c2, c3⟩ := bigR_mem (x := z) z.length (i := 0) (m := 0) (fun j _ hj => fin_nan (hfacts j (by omega)).1)
    rw [show bigR x x.length 0 0 = bigV x from rfl] at b1 b2 b3
    rw [show bigR z z.length 0 0 = bigV z from rfl] at c1 c2 c3
    obtain ⟨i0, i1, i2⟩ : ∃ i0, i0 < x.length ∧ absV (el x i0) = bigV x := by
      rcases b3 with b3 | ⟨i0, _, i1, i2⟩
      · exact absurd b3 h0
      · exact ⟨i0, by omega, i2⟩
    clear b3
    obtain ⟨m1, m2, m3, m4⟩ := word_pos R.mf
    have hmm : fMag (bigV x) ≠ 0 := by have := mag_normal R.normal; unfold two52 at this; omega
    have hex : -400 ≤ expB (bigV x) ∧ expB (bigV x) < 400 := by
      obtain ⟨f1, f2, f3, f4⟩ := fields_abs (el x i0)
      rw [i2] at f1 f2 f3
      have : expB (bigV x) = expB (el x i0) := by unfold expB; rw [f1, f2, f3]
      rw [this]
      exact (hT i0 i1).2.resolve_left (by rw [← f1]; exact hmm)
    obtain ⟨s1, s2, s3, s4, s5, s6⟩ := scale_exact m3 R.normal m1 (k := k) (by omega) (by omega) (by omega)
    have hWz : W (bigV z) = W (bigV x) * P2 k := by
      have hPk := Rat.le_of_lt (P2_pos k)
      refine Rat.le_antisymm ?_ ?_
      · rcases c3 with c3 | ⟨j, _, j2, j3⟩
        · rw [c3, W_zero_of (by decide)]
          exact Rat.mul_nonneg (W_nonneg _) hPk
        · rw [← j3, W_abs, (hfacts j (by omega)).2.1]
          refine Rat.mul_le_mul_of_nonneg_right ?_ hPk
          rw [← W_abs (el x j), W_le (absV_lt _) (bigV_lt x)]
          exact b2 j (Nat.zero_le _) (by omega)
      · rw [← i2, W_abs, ← (hfacts i0 i1).2.1, ← W_abs, W_le (absV_lt _) (bigV_lt z)]
        exact c2 i0 (Nat.zero_le _) (by omega)
    have hbz : bigV z = absV (scaleV (bigV x) k) := W_eq (bigV_lt z) (absV_lt _) (by rw [hWz, W_abs, s5])
    obtain ⟨a1, a2, a3, a4⟩ := fields_abs (scaleV (bigV x) k)
    have hez : expB (bigV z) = e + k := by
      rw [hbz, expB_normal (by rw [a3]; exact s4) (by rw [a3]; exact s3), a2, s2, R.kx]
      have := expB_normal R.normal m1
      omega
    have hz0 : bigV z ≠ 0 := fun h => by
      have h1 : fMag (bigV z) = fMag (bigV x) := by rw [hbz, a1, s1]
      rw [h] at h1
      exact hmm (by rw [← h1]; decide)
    obtain ⟨e', r', R'⟩ := norm_root hz (by omega) hTz hz0
    have he' : e' = e + k := by rw [R'.kx, hez]
    subst he'
    have hse : sqrV z (e + k) = sqrV x e := by
      unfold sqrV
      rw [hlz]
      refine sqrR_congr _ fun j _ hj => ?_
      have hj' : j < x.length := by omega
      have hj2 : j < z.length := by omega
      have hk1 := R.hk
      have hk2 := R'.hk
      refine sq_abs (R'.parts.fin j hj2) (R.parts.fin j hj') ?_
      rw [R'.parts.w j hj2, R.parts.w j hj']
      refine near_eq ?_
      rw [Int.sub_eq_add_neg, ← D_shift, Int.sub_eq_add_neg, ← D_shift]
      show W (el z j) * _ = W (el x j) * _
      rw [(hfacts j hj').2.1, Rat.mul_assoc, ← P2_add]
      exact congrArg _ (congrArg P2 (by omega))
    have hrr : r' = r := by rw [R'.rx, hse, R.rx]
    subst hrr
    rw [R'.eq, R.eq]
    obtain ⟨p1, p2, p3, p4⟩ := word_pos R.rf
    obtain ⟨q0, q1, q2, q3⟩ := root_exp R.rf R.one R.le
    have hk1 := R.hk
    obtain ⟨t1, t2, t3, t4, t5, t6⟩ := scale_exact p3 q3 p1 (k := e) (by omega) (by omega) (by omega)
    have hng : fNeg (scaleV r' e) = false := by rw [scaleV_fin p3 p1, p2]; exact word_neg _ _ _
    rw [scaleV_fin (scaleV_lt p3 e) t3, hng, t1, t2, scaleV_fin p3 p1, p2, clamp_id (by omega), clamp_id (by omega)]
    exact congrArg _ (by omega)
end Go.Proofs.Ytogcdllpjcnbkaa.Dx

namespace Go.Proofs.Ytogcdllpjcnbkaa.Dx
open Go

theorem err_sqB {a T η : Rat} (ha : 0 ≤ a) (ha2 : a ≤ 1000) (hT : 0 ≤ T) (hη : 0 ≤ η) (hη1 : η ≤ 1 / 1000000) (h1 : T ≤ a + a * (1 / 9007199254740992) + η) (h2 : a ≤ T + a * (1 / 9007199254740992) + η) :
    T * T ≤ a * a + 3 * (1 / 9007199254740992) * (a * a) + 5000 * η ∧ a * a ≤ T * T + 3 * (1 / 9007199254740992) * (a * a) + 5000 * η := by
  have e1 : a * η ≤ 1000 * η := Rat.mul_le_mul_of_nonneg_right ha2 hη
  have e0 : 0 ≤ a * η := Rat.mul_nonneg ha hη
  have e2 : η * η ≤ η := by
    have := Rat.mul_le_mul_of_nonneg_right hη1 hη
    grind
  have e3 := Rat.mul_nonneg hη hη
  have e4 := Rat.mul_nonneg ha ha
  constructor
  · have := rat_sq_le hT h1
    grind
  · have e5 : a * T ≤ a * (a + a * (1 / 9007199254740992) + η) := Rat.mul_le_mul_of_nonneg_left h1 ha
    have e6 : a * a ≤ a * (T + a * (1 / 9007199254740992) + η) := Rat.mul_le_mul_of_nonneg_left h2 ha
    have e7 : T * a ≤ T * (T + a * (1 / 9007199254740992) + η) := Rat.mul_le_mul_of_nonneg_left h2 hT
    have e8 : T * η ≤ (a + a * (1 / 9007199254740992) + η) * η := Rat.mul_le_mul_of_nonneg_right h1 hη
    grind
/-- The root of a number, rounded: its square. -/
theorem root_err {s : Nat} (hs : s < infR) (h1 : 1 / 4 ≤ W s) (h2 : W s ≤ 100000) (hr : sqrtV s < infR) :
    W (sqrtV s) * W (sqrtV s) ≤ W s + 6 * (1 / 9007199254740992) * W s ∧ W s ≤ W (sqrtV s) * W (sqrtV s) + 6 * (1 / 9007199254740992) * W s := by
  obtain ⟨p1, p2, p3, p4⟩ := word_pos hs
  have h0 : fMag s ≠ 0 := fun h => by rw [W_zero_of h] at h1; grind
  have hv : sqrtV s = nearR (sqN (fMag s) (fPl s)) (sqP (fPl s)) := by
    unfold sqrtV
    rw [if_neg (fin_nan p1), p2, if_neg (by
      intro hh
      rcases hh with hh | hh
      · exact h0 hh.1
      · rw [hh] at hs; omega)]
    rfl
  have hS : 110 ≤ sqS (fPl s) ∧ fPl s - sqS (fPl s) = 2 * ((fPl s - sqS (fPl s)) / 2) := by
    unfold sqS
    by_cases h : fPl s % 2 = 0
    · rw [if_pos h]; omega
    · rw [if_neg h]; omega
  have hroot := isq_ok (fMag s * 2 ^ sqS (fPl s))
  have hbig : 9007199254740992 ≤ isq (fMag s * 2 ^ sqS (fPl s)) := root_ge hroot (by
    have h3 : 2 ^ 110 ≤ 2 ^ sqS (fPl s) := Nat.pow_le_pow_right (by omega) hS.1
    have h4 := Nat.mul_le_mul (show 1 ≤ fMag s by omega) h3
    have h5 : (9007199254740992 : Nat) * 9007199254740992 ≤ 2 ^ 110 := by decide
    rw [Nat.one_mul] at h4
    exact Nat.le_trans h5 h4)
  obtain ⟨k1, k2⟩ := stk_sq hroot hbig
  -- its value
  have hW : ((4 * (fMag s * 2 ^ sqS (fPl s)) : Nat) : Rat) * P2 (fPl s - sqS (fPl s) - 2) = W s := by
    have e := D_scale (fMag s) (fPl s) (sqS (fPl s) + 2)
    rw [show fMag s * 2 ^ (sqS (fPl s) + 2) = 4 * (fMag s * 2 ^ sqS (fPl s)) by rw [Nat.pow_add, show (2 : Nat) ^ 2 = 4 from rfl, ← Nat.mul_assoc, Nat.mul_comm], show fPl s - ((sqS (fPl s) + 2 : Nat) : Int) = fPl s - sqS (fPl s) - 2 by omega] at e
    exact e
  have hD : D (sqN (fMag s) (fPl s)) (sqP (fPl s)) * D (sqN (fMag s) (fPl s)) (sqP (fPl s)) = ((stk (fMag s * 2 ^ sqS (fPl s)) (isq (fMag s * 2 ^ sqS (fPl s))) * stk (fMag s * 2 ^ sqS (fPl s)) (isq (fMag s * 2 ^ sqS (fPl s))) : Nat) : Rat) * P2 (fPl s - sqS (fPl s) - 2) := by
    rw [D_mul]
    unfold D
    have e : sqP (fPl s) + sqP (fPl s) = fPl s - sqS (fPl s) - 2 := by unfold sqP; omega
    rw [e]; rfl
  have hP := Rat.le_of_lt (P2_pos (fPl s - sqS (fPl s) - 2))
  have m1 := Rat.mul_le_mul_of_nonneg_right k1 hP
  have m2 := Rat.mul_le_mul_of_nonneg_right k2 hP
  rw [← hD] at m1
  have m1' : D (sqN (fMag s) (fPl s)) (sqP (fPl s)) * D (sqN (fMag s) (fPl s)) (sqP (fPl s)) ≤ W s + W s * (2 * (1 / 9007199254740992)) := by
    rw [← hW]; grind
  have m2' : W s ≤ D (sqN (fMag s) (fPl s)) (sqP (fPl s)) * D (sqN (fMag s) (fPl s)) (sqP (fPl s)) + W s * (2 * (1 / 9007199254740992)) := by
    rw [hD, ← hW]; grind
  rw [hv] at hr ⊢
  obtain ⟨g1, g2⟩ := near_err' hr
  have hv0 := D_nonneg (sqN (fMag s) (fPl s)) (sqP (fPl s))
  generalize D (sqN (fMag s) (fPl s)) (sqP (fPl s)) = v at *
  have hv2 : v ≤ 1000 := by
    rcases Rat.le_total (a := v) (b := 1000) with h | h
    · exact h
    · have := rat_sq_le (by grind) h
      grind
  obtain ⟨n1, n2⟩ := eta_small
  obtain ⟨q1, q2⟩ := err_sqB hv0 hv2 (W_nonneg (nearR (sqN (fMag s) (fPl s)) (sqP (fPl s)))) n1 (by grind) g1 g2
  clear hW hD m1 m2 k1 k2 hroot hbig g1 g2
  generalize W (nearR (sqN (fMag s) (fPl s)) (sqP (fPl s))) = T at *
  generalize W s = w at *
  generalize P2 (-1075) = η at *
  have hT := rat_sq_nonneg T
  generalize T * T = TT at *
  generalize v * v = vv at *
  constructor <;> grind
/-- The exact sum of squares. -/
theorem sumA_scale (x : List Nat) (k : Int) : ∀ n, sumA (fun i => W (el x i) * P2 (-k)) n * (P2 k * P2 k) = sumA (fun i => W (el x i)) n
  | 0 => by unfold sumA; exact Rat.zero_mul _
  | n + 1 => by
    unfold sumA
    rw [Rat.add_mul, sumA_scale x k n]
    have h : P2 (-k) * P2 k = 1 := by rw [← P2_add, show -k + k = 0 by omega, P2_zero]
    have : W (el x n) * P2 (-k) * (W (el x n) * P2 (-k)) * (P2 k * P2 k) = W (el x n) * W (el x n) := by
      have e : W (el x n) * P2 (-k) * (W (el x n) * P2 (-k)) * (P2 k * P2 k) = W (el x n) * W (el x n) * ((P2 (-k) * P2 k) * (P2 (-k) * P2 k)) := by grind
      rw [e, h]; grind
    rw [this]
/-- The norm's square is the sum of squares but for 150 parts in 2^53. -/
theorem norm_err {x : List Nat} (hx : Words x) (hl : x.length ≤ 64) (hT : TameP x 900) :
    W (normV x) * W (normV x) ≤ sumA (fun i => W (el x i)) x.length + 150 * (1 / 9007199254740992) * sumA (fun i => W (el x i)) x.length ∧
    sumA (fun i => W (el x i)) x.length ≤ W (normV x) * W (normV x) + 150 * (1 / 9007199254740992) * sumA (fun i => W (el x i)) x.length := by
  obtain ⟨b1, b2, b3⟩ := bigR_mem (x := x) x.length (i := 0) (m := 0) (fun j _ hj => fin_nan (hT j (by omega)).1)
  rw [show bigR x x.length 0 0 = bigV x from rfl] at b1 b2 b3
  by_cases h0 : bigV x = 0
  · have hz : ∀ i, i < x.length → W (el x i) = 0 := fun i hi => by
      have := b2 i (Nat.zero_le _) (by omega)
      rw [h0] at this
      rw [← W_abs, show absV (el x i) = 0 by omega]
      exact W_zero_of (by decide)
    have hs : ∀ n, n ≤ x.length → sumA (fun i => W (el x i)) n = 0 := by
      intro n
      induction n with
      | zero => intro _; rfl
      | succ n ih => intro h; unfold sumA; rw [ih (by omega), hz n (by omega)]; grind
    rw [norm_zero h0, hs _ (Nat.le_refl _), W_zero_of (by decide)]
    grind
  · obtain ⟨k, r, R⟩ := norm_root hx hl hT h0
    obtain ⟨i0, i1, i2⟩ : ∃ i0, i0 < x.length ∧ absV (el x i0) = bigV x := by
      rcases b3 with b3 | ⟨i0, _, i1, i2⟩
      · exact absurd b3 h0
      · exact ⟨i0, by omega, i2⟩
    clear b3
    obtain ⟨m1, m2, m3, m4⟩ := word_pos R.mf
    have hmm : fMag (bigV x) ≠ 0 := by have := mag_normal R.normal; unfold two52 at this; omega
    obtain ⟨w1, w2⟩ := expB_W m1 hmm
    rw [← R.kx] at w1 w2
    have hPk := Rat.le_of_lt (P2_pos (-k))
    have ha2 : ∀ i, i < x.length → W (el x i) * P2 (-k) ≤ 2 := fun i hi => by
      have hle : W (el x i) ≤ W (bigV x) := by
        rw [← W_abs (el x i), W_le (absV_lt _) (bigV_lt x)]
        exact b2 i (Nat.zero_le _) (by omega)
      have h1 := Rat.mul_le_mul_of_nonneg_right (Rat.le_trans hle (Rat.le_of_lt w2)) hPk
      rw [← P2_add, show k + 1 + -k = ((1 : Nat) : Int) by omega, P2_nat] at h1
      exact h1
    have hone : 1 ≤ W (el x i0) * P2 (-k) := by
      rw [← W_abs, i2]
      have h1 := Rat.mul_le_mul_of_nonneg_right w1 hPk
      rwa [← P2_add, show k + -k = 0 by omega, P2_zero] at h1
    have hA1 : 1 ≤ sumA (fun i => W (el x i) * P2 (-k)) x.length := by
      have h1 := sumA_ge (fun i => W (el x i) * P2 (-k)) i1
      have h2 := rat_sq_le (by grind) hone
      grind
    have z0 : W 0 = 0 := W_zero_of (by decide)
    obtain ⟨s1, s2⟩ := sums_err R.parts hl ha2 x.length (i := 0) (s := 0) (by omega) (by decide) (by rw [z0]; exact Rat.le_refl)
      (by rw [z0]; show (0 : Rat) ≤ 0 + _ * _ * 0 + 14 * ((0 : Nat) : Rat) * _; rw [show ((0 : Nat) : Rat) = 0 from rfl]; grind)
      (by rw [z0]; show (0 : Rat) ≤ 0 + _ * _ * 0 + 14 * ((0 : Nat) : Rat) * _; rw [show ((0 : Nat) : Rat) = 0 from rfl]; grind)
    rw [show sqrR x k x.length 0 0 = sqrV x k from rfl] at s1 s2
    obtain ⟨t1, t2⟩ := R.sums
    obtain ⟨n1, n2⟩ := eta_small
    have hn64 : (x.length : Rat) ≤ 64 := by
      have : (x.length : Rat) ≤ ((64 : Nat) : Rat) := Rat.natCast_le_natCast.2 hl
      exact this
    have hn0 : (0 : Rat) ≤ x.length := Rat.natCast_nonneg
    have hW256 : W (sqrV x k) ≤ 256 := by
      have : ((4 * x.length : Nat) : Rat) ≤ ((256 : Nat) : Rat) := Rat.natCast_le_natCast.2 (by omega)
      exact Rat.le_trans t2 this
    generalize hA : sumA (fun i => W (el x i) * P2 (-k)) x.length = A at *
    generalize (x.length : Rat) = n at *
    have e1 : n * A ≤ 64 * A := Rat.mul_le_mul_of_nonneg_right hn64 (by grind)
    have e2 : n * P2 (-1075) ≤ 64 * P2 (-1075) := Rat.mul_le_mul_of_nonneg_right hn64 n1
    have u1 : W (sqrV x k) ≤ A + 135 * (1 / 9007199254740992) * A := by grind
    have u2 : A ≤ W (sqrV x k) + 135 * (1 / 9007199254740992) * A := by grind
    have hr := R.rf
    rw [R.rx] at hr
    obtain ⟨v1, v2⟩ := root_err t1 (by grind) (by grind) hr
    rw [← R.rx] at v1 v2
    -- the norm itself
    obtain ⟨p1, p2, p3, p4⟩ := word_pos R.rf
    obtain ⟨q0, q1, q2, q3⟩ := root_exp R.rf R.one R.le
    have hk := R.hk
    obtain ⟨c1, c2, c3, c4, c5, c6⟩ := scale_exact p3 q3 p1 (k := k) (by omega) (by omega) (by omega)
    rw [← R.eq] at c5
    have hS := sumA_scale x k x.length
    rw [hA] at hS
    rw [c5, ← hS]
    have f1 : W r * W r ≤ A + 150 * (1 / 9007199254740992) * A := by
      generalize W r * W r = rr at *
      grind
    have f2 : A ≤ W r * W r + 150 * (1 / 9007199254740992) * A := by
      generalize W r * W r = rr at *
      grind
    have hPP := rat_sq_nonneg (P2 k)
    have g1 := Rat.mul_le_mul_of_nonneg_right f1 hPP
    have g2 := Rat.mul_le_mul_of_nonneg_right f2 hPP
    have e3 : W r * P2 k * (W r * P2 k) = W r * W r * (P2 k * P2 k) := by grind
    rw [e3]
    constructor <;> grind
theorem dz : dS 0 0 = Vb false ∧ dL 0 0 = wl [] ∧ dE 0 0 = Vi 0 := by
  refine ⟨by rw [dS_ok]; rfl, ?_, ?_⟩
  · unfold dL; rw [od_zero]; unfold bL; rw [show (0 : Int).natAbs = 0 from rfl, dig_zero]
  · unfold dE; simp [ev]
theorem W_sx (b : Nat) : DV (sx b) (fPl b) * DV (sx b) (fPl b) = W b * W b := by
  have h : (sx b : Int) * sx b = ((fMag b * fMag b : Nat) : Int) := by unfold sx sg; split <;> simp [Int.neg_mul_neg]
  rw [← DV_mul, h]
  unfold W
  rw [D_mul]
  unfold DV D
  rw [Rat.intCast_natCast]
theorem squares_loop {x : List Nat} (hx : Words x) (hl : x.length ≤ 1000) : ∀ (n : Nat) {i : Nat} {X E : Int}, i + n = x.length → DBs X E 2200 (2200 + i) → DV X E = sumA (fun i => W (el x i)) i →
    ∃ X' E', rounds (fun vs => lo162_1.dv (Vl x :: vs)) [Vi i, dS X E, dL X E, dE X E] = some (.y (.ext 0) [dS X' E', dL X' E', dE X' E']) ∧ DBs X' E' 2200 (2200 + x.length) ∧ DV X' E' = sumA (fun i => W (el x i)) x.length := by
  intro n
  induction n with
  | zero =>
    intro i X E hi hB hv
    have : i = x.length := by omega
    subst this
    refine ⟨X, E, rounds_exit ?_ (by simp), hB, hv⟩
    simp [lo162_1, TT.dv]
  | succ n ih =>
    intro i X E hi hB hv
    have hlt : i < x.length := by omega
    have e1 : (B.add .i64).den (Vi i) (Vi 1) = Vi (i + 1) := add_i (by omega) (by omega)
    have g1 := get_V (x := x) hlt
    have v1 := value_ok (hx.el i)
    have m1 := mulD_ok (DB.word (el x i)) (DB.word (el x i))
    have hm := (DBs.word (el x i)).mul (DBs.word (el x i))
    have a1 := addD_ok (hB.db (by omega) (by omega)) (hm.db (by omega) (by omega))
    have hB' := hB.add (hm.mono (E' := 2200) (T' := 2200 + i) (by omega) (by omega))
    obtain ⟨X', E', h1, h2, h3⟩ := ih (i := i + 1) (X := dadd X E (sx (el x i) * sx (el x i)) (fPl (el x i) + fPl (el x i))) (E := min E (fPl (el x i) + fPl (el x i))) (by omega) hB' (by
      rw [DV_dadd, hv, DV_mul, W_sx]; rfl)
    refine ⟨X', E', Eq.trans (rounds_cont ?_) h1, h2, h3⟩
    simp [lo162_1, TT.dv, hlt, e1, g1, v1, m1, a1]
theorem squares_ok {x : List Nat} (hx : Words x) (hl : x.length ≤ 1000) : ∃ X E, val 162 [Vl x] = some [dS X E, dL X E, dE X E] ∧ DBs X E 2200 (2200 + x.length) ∧ DV X E = sumA (fun i => W (el x i)) x.length := by
  obtain ⟨X, E, h1, h2, h3⟩ := squares_loop hx hl x.length (i := 0) (X := 0) (E := 0) (by omega) ⟨by omega, by omega, by rw [show (0 : Int).natAbs = 0 from rfl, bl_zero]; omega⟩ (by unfold DV sumA; rw [Rat.intCast_zero]; exact Rat.zero_mul _)
  refine ⟨X, E, val_of tab162 ?_, h2, h3⟩
  obtain ⟨z1, z2, z3⟩ := dz
  rw [z1, z2, z3, show ((0 : Nat) : Int) = 0 from rfl, wl_nil_V] at h1
  simp [tr162, TT.dv, KS.dv, h1]
end Go.Proofs.Ytogcdllpjcnbkaa.Dx

namespace Go.Proofs.Ytogcdllpjcnbkaa.Dx
open Go

theorem quo_q {m n : Nat} (hm : m ≠ 0) (hn : n ≠ 0) (h : 54 + n.log2 ≥ m.log2) : 2 ^ 53 ≤ m * 2 ^ quoK m n / n := by
  have hk : quoK m n = 54 + n.log2 - m.log2 := rfl
  rw [Nat.le_div_iff_mul_le (Nat.pos_of_ne_zero hn)]
  have h1 := Nat.mul_le_mul_right (2 ^ quoK m n) (Nat.log2_self_le hm)
  rw [← Nat.pow_add] at h1
  have h2 : 2 ^ 53 * n ≤ 2 ^ 53 * 2 ^ (n.log2 + 1) := Nat.mul_le_mul_left _ (Nat.le_of_lt Nat.lt_log2_self)
  rw [← Nat.pow_add] at h2
  rw [show m.log2 + quoK m n = 53 + (n.log2 + 1) by rw [hk]; omega] at h1
  exact Nat.le_trans h2 h1
/-- The quotient's digits: times the divisor they are the dividend but for a part in 2^54. -/
theorem quo_val {m n : Nat} (hm : m ≠ 0) (hn : n ≠ 0) (hm2 : m < 9007199254740992) (i j : Int) :
    D (quoN m n (quoK m n)) (i - j - quoK m n - 1) * D n j ≤ D m i + D m i * (1 / 18014398509481984) ∧ D m i ≤ D (quoN m n (quoK m n)) (i - j - quoK m n - 1) * D n j + D m i * (1 / 18014398509481984) := by
  have hlm : m.log2 ≤ 52 := by have := (Nat.log2_lt hm).2 (show m < 2 ^ 53 from hm2); omega
  have hq := quo_q hm hn (by omega)
  generalize hK : quoK m n = K at *
  have h1 := Nat.div_add_mod (m * 2 ^ K) n
  have h2 := Nat.mod_lt (m * 2 ^ K) (Nat.pos_of_ne_zero hn)
  have key : quoN m n K * n ≤ 2 * (m * 2 ^ K) + n ∧ 2 * (m * 2 ^ K) ≤ quoN m n K * n + n ∧ 18014398509481984 * n ≤ 2 * (m * 2 ^ K) := by
    unfold quoN
    have h3 : 9007199254740992 * n ≤ m * 2 ^ K / n * n := Nat.mul_le_mul_right n hq
    rw [Nat.mul_comm n] at h1
    generalize m * 2 ^ K = M at *
    have e1 : (2 * (M / n) + (decide (M % n ≠ 0)).toNat) * n = 2 * (M / n * n) + (decide (M % n ≠ 0)).toNat * n := by rw [Nat.add_mul, Nat.mul_assoc]
    rw [e1]
    generalize M / n * n = qn at *
    by_cases hr : M % n = 0
    · simp only [hr, ne_eq, not_true_eq_false, decide_false, Bool.toNat_false, Nat.zero_mul]; omega
    · simp only [hr, ne_eq, not_false_eq_true, decide_true, Bool.toNat_true, Nat.one_mul]; omega
  obtain ⟨k1, k2, k3⟩ := key
  have hM : ((2 * (m * 2 ^ K) : Nat) : Rat) * P2 (i - K - 1) = D m i := by
    have e := D_scale m i (K + 1)
    rw [show m * 2 ^ (K + 1) = 2 * (m * 2 ^ K) by rw [Nat.pow_succ, ← Nat.mul_assoc, Nat.mul_comm], show i - ((K + 1 : Nat) : Int) = i - K - 1 by omega] at e
    exact e
  have hQ : D (quoN m n K) (i - j - K - 1) * D n j = ((quoN m n K * n : Nat) : Rat) * P2 (i - K - 1) := by
    rw [D_mul]; unfold D; exact congrArg _ (congrArg P2 (by omega))
  have r1 : ((quoN m n K * n : Nat) : Rat) ≤ ((2 * (m * 2 ^ K) + n : Nat) : Rat) := Rat.natCast_le_natCast.2 k1
  have r2 : ((2 * (m * 2 ^ K) : Nat) : Rat) ≤ ((quoN m n K * n + n : Nat) : Rat) := Rat.natCast_le_natCast.2 k2
  have r3 : ((18014398509481984 * n : Nat) : Rat) ≤ ((2 * (m * 2 ^ K) : Nat) : Rat) := Rat.natCast_le_natCast.2 k3
  rw [Rat.natCast_add] at r1 r2
  rw [Rat.natCast_mul 18014398509481984 n, show ((18014398509481984 : Nat) : Rat) = 18014398509481984 from rfl] at r3
  rw [hQ, ← hM]
  generalize ((quoN m n K * n : Nat) : Rat) = z at *
  generalize ((2 * (m * 2 ^ K) : Nat) : Rat) = y at *
  generalize (n : Rat) = w at *
  have hP := Rat.le_of_lt (P2_pos (i - K - 1))
  have s1 : z ≤ y + y * (1 / 18014398509481984) := by grind
  have s2 : y ≤ z + y * (1 / 18014398509481984) := by grind
  have t1 := Rat.mul_le_mul_of_nonneg_right s1 hP
  have t2 := Rat.mul_le_mul_of_nonneg_right s2 hP
  constructor <;> grind
/-- A quotient of two numbers, rounded. -/
theorem div_err {a b : Nat} (ha : a < 18446744073709551616) (hb : b < 18446744073709551616) (fa : fPow a ≠ 2047) (fb : fPow b ≠ 2047) (h0 : fMag b ≠ 0) (h1 : W a ≤ 4 * W b) (hb1 : W b ≤ 16) :
    fPow (divV a b) ≠ 2047 ∧ (fMag a ≠ 0 → fNeg (divV a b) = (fNeg a != fNeg b)) ∧ (fMag a = 0 → W (divV a b) = 0) ∧
    W (divV a b) * W b ≤ W a + W a * (2 * (1 / 9007199254740992)) + 16 * P2 (-1075) ∧ W a ≤ W (divV a b) * W b + W a * (2 * (1 / 9007199254740992)) + 16 * P2 (-1075) := by
  obtain ⟨n1, n2⟩ := eta_small
  have hWa := W_nonneg a
  have hWb := W_nonneg b
  have zb : ¬ zeroB b := fun h => h0 h.1
  by_cases hz : fMag a = 0
  · have za : zeroB a := (zeroB_mag fa).2 hz
    have hv : divV a b = sgn (fNeg a != fNeg b) 0 := by
      unfold divV
      rw [if_neg (by simp [fin_nan fa, fin_nan fb]), if_neg (fin_inf fa), if_neg (fin_inf fb), if_neg zb, if_pos za]
    have hm : fMag (divV a b) = 0 := by rw [hv]; cases (fNeg a != fNeg b) <;> decide
    have hp : fPow (divV a b) ≠ 2047 := by rw [hv]; cases (fNeg a != fNeg b) <;> decide
    rw [W_zero_of hm, W_zero_of hz]
    exact ⟨hp, fun h => absurd hz h, fun _ => rfl, by grind, by grind⟩
  · have za : ¬ zeroB a := fun h => hz h.1
    have hv : divV a b = nearV (fNeg a != fNeg b) (quoN (fMag a) (fMag b) (quoK (fMag a) (fMag b))) (fPl a - fPl b - quoK (fMag a) (fMag b) - 1) := by
      unfold divV
      rw [if_neg (by simp [fin_nan fa, fin_nan fb]), if_neg (fin_inf fa), if_neg (fin_inf fb), if_neg zb, if_neg za]
    obtain ⟨q1, q2⟩ := quo_val hz h0 (fMag_lt a) (fPl a) (fPl b)
    rw [show D (fMag a) (fPl a) = W a from rfl, show D (fMag b) (fPl b) = W b from rfl] at q1 q2
    generalize hN : quoN (fMag a) (fMag b) (quoK (fMag a) (fMag b)) = N at *
    generalize hE : fPl a - fPl b - quoK (fMag a) (fMag b) - 1 = E at *
    have hbpos : 0 < W b := Rat.mul_pos (by have : 0 < fMag b := Nat.pos_of_ne_zero h0; exact Rat.natCast_pos.2 this) (P2_pos _)
    have hD5 : D N E ≤ 5 := by
      have : D N E * W b ≤ 5 * W b := by grind
      exact Rat.le_of_mul_le_mul_right this hbpos
    have hf : nearR N E < infR := near_fin (by
      have h8 : (8 : Rat) = P2 ((3 : Nat) : Int) := by rw [P2_nat]; rfl
      have : D N E ≤ P2 ((3 : Nat) : Int) := by rw [← h8]; grind
      exact Rat.le_trans this (P2_mono (by omega)))
    obtain ⟨g1, g2⟩ := near_err' hf
    have hWn : W (divV a b) = W (nearR N E) := by rw [hv, ← W_abs, absV_near]
    refine ⟨by rw [hv]; exact fin_near hf, fun _ => by rw [hv]; exact word_neg _ _ _, fun h => absurd h hz, ?_, ?_⟩
    · rw [hWn]
      have m1 := Rat.mul_le_mul_of_nonneg_right g1 hWb
      have m2 : P2 (-1075) * W b ≤ P2 (-1075) * 16 := Rat.mul_le_mul_of_nonneg_left hb1 n1
      grind
    · rw [hWn]
      have m1 := Rat.mul_le_mul_of_nonneg_right g2 hWb
      have m2 : P2 (-1075) * W b ≤ P2 (-1075) * 16 := Rat.mul_le_mul_of_nonneg_left hb1 n1
      grind
end Go.Proofs.Ytogcdllpjcnbkaa.Dx

namespace Go.Proofs.Ytogcdllpjcnbkaa.Dx
open Go

theorem err_sqC {a T η : Rat} (ha : 0 ≤ a) (ha2 : a ≤ 1000) (hT : 0 ≤ T) (hη : 0 ≤ η) (hη1 : η ≤ 1 / 1000000) (h1 : T ≤ a + a * (2 * (1 / 9007199254740992)) + η) (h2 : a ≤ T + a * (2 * (1 / 9007199254740992)) + η) :
    T * T ≤ a * a + 5 * (1 / 9007199254740992) * (a * a) + 5000 * η ∧ a * a ≤ T * T + 5 * (1 / 9007199254740992) * (a * a) + 5000 * η := by
  have e1 : a * η ≤ 1000 * η := Rat.mul_le_mul_of_nonneg_right ha2 hη
  have e0 : 0 ≤ a * η := Rat.mul_nonneg ha hη
  have e2 : η * η ≤ η := by
    have := Rat.mul_le_mul_of_nonneg_right hη1 hη
    grind
  have e3 := Rat.mul_nonneg hη hη
  have e4 := Rat.mul_nonneg ha ha
  constructor
  · have := rat_sq_le hT h1
    grind
  · have e5 : a * T ≤ a * (a + a * (2 * (1 / 9007199254740992)) + η) := Rat.mul_le_mul_of_nonneg_left h1 ha
    have e6 : a * a ≤ a * (T + a * (2 * (1 / 9007199254740992)) + η) := Rat.mul_le_mul_of_nonneg_left h2 ha
    have e7 : T * a ≤ T * (T + a * (2 * (1 / 9007199254740992)) + η) := Rat.mul_le_mul_of_nonneg_left h2 hT
    have e8 : T * η ≤ (a + a * (2 * (1 / 9007199254740992)) + η) * η := Rat.mul_le_mul_of_nonneg_right h1 hη
    grind
end Go.Proofs.Ytogcdllpjcnbkaa.Dx

namespace Go.Proofs.Ytogcdllpjcnbkaa.Dx
open Go

/-- A word's value, with its sign. -/
def sv (b : Nat) : Rat := DV (sx b) (fPl b)
theorem sv_pos {b : Nat} (h : fNeg b = false) : sv b = W b := DV_sx h
theorem sv_neg {b : Nat} (h : fNeg b = true) : sv b = -W b := by
  unfold sv DV sx sg W D; rw [h]; simp only [if_true]; rw [Rat.intCast_neg, Rat.intCast_natCast]; grind
theorem sv_zero {b : Nat} (h : fMag b = 0) : sv b = 0 := by
  cases hn : fNeg b
  · rw [sv_pos hn, W_zero_of h]
  · rw [sv_neg hn, W_zero_of h]; grind
theorem sv_minus {b : Nat} (hb : b < 18446744073709551616) : sv (fMinus b) = -sv b := by
  obtain ⟨m1, m2, m3, m4⟩ := minus_neg hb
  have hW : W (fMinus b) = W b := by unfold W fMag fPl; rw [m2, m3]
  cases hn : fNeg b
  · rw [hn] at m1; rw [sv_neg m1, sv_pos hn, hW]
  · rw [hn] at m1; rw [sv_pos m1, sv_neg hn, hW]; grind
def sumP (p : Nat → Rat) : Nat → Rat
  | 0 => 0
  | n + 1 => sumP p n + p n
theorem dot11_loop {x y : List Nat} (hx : Words x) (hy : Words y) (hxy : x.length ≤ y.length) (hl : x.length ≤ 1000) : ∀ (n : Nat) {i : Nat} {X E : Int}, i + n = x.length → DBs X E 2200 (2200 + i) → DV X E = sumP (fun i => sv (el x i) * sv (el y i)) i →
    ∃ X' E', rounds (fun vs => lo179_1.dv (Vl x :: Vl y :: vs)) [Vi i, dS X E, dL X E, dE X E] = some (.y (.ext 0) [dS X' E', dL X' E', dE X' E']) ∧ DBs X' E' 2200 (2200 + x.length) ∧ DV X' E' = sumP (fun i => sv (el x i) * sv (el y i)) x.length := by
  intro n
  induction n with
  | zero =>
    intro i X E hi hB hv
    have : i = x.length := by omega
    subst this
    refine ⟨X, E, rounds_exit ?_ (by simp), hB, hv⟩
    simp [lo179_1, TT.dv]
  | succ n ih =>
    intro i X E hi hB hv
    have hlt : i < x.length := by omega
    have hlt2 : i < y.length := by omega
    have e1 : (B.add .i64).den (Vi i) (Vi 1) = Vi (i + 1) := add_i (by omega) (by omega)
    have g1 := get_V (x := x) hlt
    have g2 := get_V (x := y) hlt2
    have v1 := value_ok (hx.el i)
    have v2 := value_ok (hy.el i)
    have m1 := mulD_ok (DB.word (el x i)) (DB.word (el y i))
    have hm := (DBs.word (el x i)).mul (DBs.word (el y i))
    have a1 := addD_ok (hB.db (by omega) (by omega)) (hm.db (by omega) (by omega))
    have hB' := hB.add (hm.mono (E' := 2200) (T' := 2200 + i) (by omega) (by omega))
    obtain ⟨X', E', h1, h2, h3⟩ := ih (i := i + 1) (X := dadd X E (sx (el x i) * sx (el y i)) (fPl (el x i) + fPl (el y i))) (E := min E (fPl (el x i) + fPl (el y i))) (by omega) hB' (by
      rw [DV_dadd, hv, DV_mul]; rfl)
    refine ⟨X', E', Eq.trans (rounds_cont ?_) h1, h2, h3⟩
    simp [lo179_1, TT.dv, hlt, hlt2, e1, g1, g2, v1, v2, m1, a1]
theorem dot11_ok {x y : List Nat} (hx : Words x) (hy : Words y) (hxy : x.length ≤ y.length) (hl : x.length ≤ 1000) : ∃ X E, val 179 [Vl x, Vl y] = some [dS X E, dL X E, dE X E] ∧ DBs X E 2200 (2200 + x.length) ∧ DV X E = sumP (fun i => sv (el x i) * sv (el y i)) x.length := by
  obtain ⟨X, E, h1, h2, h3⟩ := dot11_loop hx hy hxy hl x.length (i := 0) (X := 0) (E := 0) (by omega) ⟨by omega, by omega, by rw [show (0 : Int).natAbs = 0 from rfl, bl_zero]; omega⟩ (by unfold DV sumP; rw [Rat.intCast_zero]; exact Rat.zero_mul _)
  refine ⟨X, E, val_of tab179 ?_, h2, h3⟩
  obtain ⟨z1, z2, z3⟩ := dz
  rw [z1, z2, z3, show ((0 : Nat) : Int) = 0 from rfl, wl_nil_V] at h1
  simp [tr179, TT.dv, KS.dv, h1]
theorem W_one : W 4607182418800017408 = 1 := by
  unfold W D
  rw [show fMag 4607182418800017408 = 2 ^ 52 from by decide, show fPl 4607182418800017408 = -52 from by decide, ← P2_nat, ← P2_add, show ((52 : Nat) : Int) + -52 = 0 by omega, P2_zero]
theorem sv_cases (b : Nat) : (fNeg b = false ∧ sv b = W b) ∨ (fNeg b = true ∧ sv b = -W b) := by
  cases h : fNeg b
  · exact .inl ⟨rfl, sv_pos h⟩
  · exact .inr ⟨rfl, sv_neg h⟩
theorem sv_of {b : Nat} {s : Bool} (h : fNeg b = s) : sv b = if s then -W b else W b := by
  cases s
  · exact sv_pos h
  · exact sv_neg h
theorem sv_one : sv 4607182418800017408 = 1 := by rw [sv_pos (by decide), W_one]
end Go.Proofs.Ytogcdllpjcnbkaa.Dx

namespace Go.Proofs.Ytogcdllpjcnbkaa.Dx
open Go

/-- The place of row i, column k. -/
def ps (i c k : Nat) : Nat := i * c + k
theorem ps_lt {i c k r : Nat} (hi : i < r) (hk : k < c) : ps i c k < r * c := by
  unfold ps
  have h1 : (i + 1) * c ≤ r * c := Nat.mul_le_mul_right c hi
  rw [Nat.add_mul, Nat.one_mul] at h1
  omega
theorem ps_inj {i c k i' k' : Nat} (hk : k < c) (hk' : k' < c) (h : ps i c k = ps i' c k') : i = i' ∧ k = k' := by
  unfold ps at h
  have h1 : (i * c + k) / c = i := by rw [Nat.mul_comm, Nat.mul_add_div (by omega), Nat.div_eq_of_lt hk, Nat.add_zero]
  have h2 : (i' * c + k') / c = i' := by rw [Nat.mul_comm, Nat.mul_add_div (by omega), Nat.div_eq_of_lt hk', Nat.add_zero]
  have h3 : i = i' := by rw [← h1, ← h2, h]
  subst h3
  exact ⟨rfl, by omega⟩
theorem pos_i {i c k : Nat} (hi : i < 100) (hc : c ≤ 100) (hk : k ≤ 100) : (B.add .i64).den ((B.mul .i64).den (Vi i) (Vi c)) (Vi k) = Vi (ps i c k) := by
  have h1 : i * c ≤ 100 * 100 := Nat.mul_le_mul (by omega) hc
  have h2 : (i : Int) * c = ((i * c : Nat) : Int) := by rw [Int.natCast_mul]
  rw [mul_i (by rw [h2]; omega) (by rw [h2]; omega), h2, add_i (by omega) (by omega)]
  unfold ps
  exact congrArg Vi (by omega)
/-- Right matrices. -/
structure Mx (r c : Nat) (x : List Nat) : Prop where
  hr : r ≤ 6
  hc : c ≤ 6
  len : x.length = r * c
  w : Words x
theorem Mx.lt {r c : Nat} {x : List Nat} (h : Mx r c x) {i k : Nat} (hi : i < r) (hk : k < c) : ps i c k < x.length := by rw [h.len]; exact ps_lt hi hk
theorem Mx.small {r c : Nat} {x : List Nat} (h : Mx r c x) : x.length ≤ 36 := by
  rw [h.len]; exact Nat.mul_le_mul h.hr h.hc
theorem Mx.set {r c : Nat} {x : List Nat} (h : Mx r c x) {p v : Nat} (hv : v < 18446744073709551616) : Mx r c (x.set p v) := ⟨h.hr, h.hc, by rw [List.length_set, h.len], h.w.set hv⟩
def rightP (R C : Int) (x : List Nat) : Prop := 0 ≤ R ∧ R ≤ 6 ∧ 0 ≤ C ∧ C ≤ 6 ∧ (x.length : Int) = R * C
instance (R C : Int) (x : List Nat) : Decidable (rightP R C x) := by unfold rightP; exact inferInstance
theorem mx_right {r c : Nat} {x : List Nat} (h : Mx r c x) : rightP r c x :=
  ⟨by omega, by have := h.hr; omega, by omega, by have := h.hc; omega, by rw [h.len, Int.natCast_mul]⟩
theorem size_ok (n : Int) : val 259 [Vi n] = some [Vb (decide (0 ≤ n ∧ n ≤ 6))] := by
  refine val_of tab259 ?_
  simp [tr259, TT.dv]
theorem small_mul {R C : Int} (h1 : 0 ≤ R ∧ R ≤ 6) (h2 : 0 ≤ C ∧ C ≤ 6) : (B.mul .i64).den (Vi R) (Vi C) = Vi (R * C) := by
  have h3 : R * C ≤ 6 * 6 := Int.mul_le_mul h1.2 h2.2 h2.1 (by omega)
  have h4 : 0 ≤ R * C := Int.mul_nonneg h1.1 h2.1
  exact mul_i (by omega) (by omega)
theorem check_ok (R C : Int) (x : List Nat) : val 246 [Vi R, Vi C, Vl x] = some [Vi (if rightP R C x then 0 else 1)] := by
  refine val_of tab246 ?_
  have s1 := size_ok R
  have s2 := size_ok C
  by_cases h1 : 0 ≤ R ∧ R ≤ 6
  · rw [decide_eq_true h1] at s1
    by_cases h2 : 0 ≤ C ∧ C ≤ 6
    · rw [decide_eq_true h2] at s2
      have hm := small_mul h1 h2
      by_cases h3 : (x.length : Int) = R * C
      · rw [if_pos (show rightP R C x from ⟨h1.1, h1.2, h2.1, h2.2, h3⟩)]
        simp [tr246, TT.dv, s1, s2, hm, h3]
      · rw [if_neg (show ¬ rightP R C x from fun h => h3 h.2.2.2.2)]
        simp [tr246, TT.dv, s1, s2, hm, h3]
    · rw [decide_eq_false h2] at s2
      rw [if_neg (show ¬ rightP R C x from fun h => h2 ⟨h.2.2.1, h.2.2.2.1⟩)]
      simp [tr246, TT.dv, s1, s2]
  · rw [decide_eq_false h1] at s1
    rw [if_neg (show ¬ rightP R C x from fun h => h1 ⟨h.1, h.2.1⟩)]
    simp [tr246, TT.dv, s1]
theorem right_ok10 (R C : Int) (x : List Nat) : val 172 [Vi R, Vi C, Vl x] = some [Vb (decide (rightP R C x))] := by
  refine val_of tab172 ?_
  by_cases h1 : 0 ≤ R ∧ R ≤ 6
  · by_cases h2 : 0 ≤ C ∧ C ≤ 6
    · have hm := small_mul h1 h2
      by_cases h3 : (x.length : Int) = R * C
      · rw [decide_eq_true (show rightP R C x from ⟨h1.1, h1.2, h2.1, h2.2, h3⟩)]
        simp [tr172, TT.dv, hm, h1.1, h1.2, h2.1, h2.2, h3]
      · rw [decide_eq_false (show ¬ rightP R C x from fun h => h3 h.2.2.2.2)]
        simp [tr172, TT.dv, hm, h1.1, h1.2, h2.1, h2.2, h3]
    · rw [decide_eq_false (show ¬ rightP R C x from fun h => h2 ⟨h.2.2.1, h.2.2.2.1⟩)]
      by_cases h3 : 0 ≤ C
      · have h4 : ¬ C ≤ 6 := fun h => h2 ⟨h3, h⟩
        simp [tr172, TT.dv, h1.1, h1.2, h3, h4]
      · simp [tr172, TT.dv, h1.1, h1.2, h3]
  · rw [decide_eq_false (show ¬ rightP R C x from fun h => h1 ⟨h.1, h.2.1⟩)]
    by_cases h3 : 0 ≤ R
    · have h4 : ¬ R ≤ 6 := fun h => h1 ⟨h3, h⟩
      simp [tr172, TT.dv, h3, h4]
    · simp [tr172, TT.dv, h3]
section
variable {r c : Nat} {x : List Nat} (h : Mx r c x)
include h
theorem at_ok {i k : Nat} (hi : i < r) (hk : k < c) : val 166 [Vi r, Vi c, Vl x, Vi i, Vi k] = some [Vu (el x (ps i c k))] := by
  refine val_of tab166 ?_
  have h1 := h.hr
  have h2 := h.hc
  have e1 := pos_i (i := i) (c := c) (k := k) (by omega) (by omega) (by omega)
  have hl := h.lt hi hk
  simp [tr166, TT.dv, e1, hl, get_V hl]
theorem get_ok {i k : Nat} (hi : i < r) (hk : k < c) : val 257 [Vi r, Vi c, Vl x, Vi i, Vi k] = some [Vu (el x (ps i c k))] := by
  refine val_of tab257 ?_
  have h1 := h.hr
  have h2 := h.hc
  have e1 := pos_i (i := i) (c := c) (k := k) (by omega) (by omega) (by omega)
  have hl := h.lt hi hk
  simp [tr257, TT.dv, e1, hl, get_V hl]
theorem with_ok {i k b : Nat} (hi : i < r) (hk : k < c) : val 176 [Vi r, Vi c, Vl x, Vi i, Vi k, Vu b] = some [Vi r, Vi c, Vl (x.set (ps i c k) b)] := by
  refine val_of tab176 ?_
  have h1 := h.hr
  have h2 := h.hc
  have e1 := pos_i (i := i) (c := c) (k := k) (by omega) (by omega) (by omega)
  have hl := h.lt hi hk
  have hs := h.small
  simp [tr176, TT.dv, e1, hl, set_V, show (x.length : Int) ≤ 17592186044416 by omega]
end
theorem rep_V (n a : Nat) : B.rep.den (Vi n) (Vu a) = Vl (List.replicate n a) := by
  show PV.l (List.replicate (Vi n).int.toNat (Vu a)) = _
  rw [int_I, Int.toNat_natCast, Vl, List.map_replicate]
theorem zeros_ok {r c : Nat} (hr : r ≤ 6) (hc : c ≤ 6) : val 177 [Vi r, Vi c] = some [Vi r, Vi c, Vl (List.replicate (r * c) 0)] := by
  refine val_of tab177 ?_
  have h1 := small_mul (R := r) (C := c) (by omega) (by omega)
  have h2 : r * c ≤ 36 := Nat.mul_le_mul hr hc
  rw [← Int.natCast_mul] at h1
  generalize r * c = n at *
  simp [tr177, TT.dv, h1, rep_V, show (n : Int) ≤ 17592186044416 by omega]
theorem zeros_mx {r c : Nat} (hr : r ≤ 6) (hc : c ≤ 6) : Mx r c (List.replicate (r * c) 0) := ⟨hr, hc, by simp, fun a ha => by rw [(List.mem_replicate.1 ha).2]; decide⟩
def matL (g : Nat → Nat → Nat) (r c : Nat) : List Nat := (List.range r).flatMap fun i => mk (g i) c
theorem matL_succ (g : Nat → Nat → Nat) (r c : Nat) : matL g r c ++ mk (g r) c = matL g (r + 1) c := by
  unfold matL; rw [List.range_succ, List.flatMap_append]; simp
theorem matL_len (g : Nat → Nat → Nat) (r c : Nat) : (matL g r c).length = r * c := by
  induction r with
  | zero => simp [matL]
  | succ r ih => rw [← matL_succ, List.length_append, ih, mk_len, Nat.add_mul, Nat.one_mul]
theorem el_app {x y : List Nat} (i : Nat) : el (x ++ y) i = if i < x.length then el x i else el y (i - x.length) := by
  unfold el
  rw [List.getD_eq_getElem?_getD, List.getD_eq_getElem?_getD, List.getD_eq_getElem?_getD]
  by_cases h : i < x.length
  · rw [if_pos h, List.getElem?_append_left h]
  · rw [if_neg h, List.getElem?_append_right (by omega)]
theorem el_matL (g : Nat → Nat → Nat) {c : Nat} : ∀ {r i k : Nat}, i < r → k < c → el (matL g r c) (ps i c k) = g i k := by
  intro r
  induction r with
  | zero => intro i k hi; omega
  | succ r ih =>
    intro i k hi hk
    rw [← matL_succ, el_app, matL_len]
    by_cases h : i < r
    · rw [if_pos (ps_lt h hk)]; exact ih h hk
    · have : i = r := by omega
      subst this
      unfold ps
      rw [if_neg (by omega), Nat.add_sub_cancel_left]
      unfold el mk
      rw [List.getD_eq_getElem?_getD, List.getElem?_map, List.getElem?_range hk]; rfl
theorem mat_ext {x y : List Nat} {r c : Nat} (hx : x.length = r * c) (hy : y.length = r * c) (h : ∀ i k, i < r → k < c → el x (ps i c k) = el y (ps i c k)) : x = y := by
  refine List.ext_getElem (by omega) fun t h1 h2 => ?_
  have hc : 0 < c := by
    rcases Nat.eq_zero_or_pos c with h0 | h0
    · subst h0; omega
    · exact h0
  have ht : t = ps (t / c) c (t % c) := by unfold ps; rw [Nat.mul_comm]; exact (Nat.div_add_mod t c).symm
  have := h (t / c) (t % c) (by rw [Nat.div_lt_iff_lt_mul hc]; omega) (Nat.mod_lt _ hc)
  rw [← ht] at this
  unfold el at this
  rw [List.getD_eq_getElem?_getD, List.getD_eq_getElem?_getD, List.getElem?_eq_getElem h1, List.getElem?_eq_getElem h2] at this
  exact this
theorem matL_mx {g : Nat → Nat → Nat} {r c : Nat} (hr : r ≤ 6) (hc : c ≤ 6) (h : ∀ i k, i < r → k < c → g i k < 18446744073709551616) : Mx r c (matL g r c) := by
  refine ⟨hr, hc, matL_len g r c, fun a ha => ?_⟩
  unfold matL at ha
  obtain ⟨i, hi, h1⟩ := List.mem_flatMap.1 ha
  obtain ⟨k, hk, rfl⟩ := List.mem_map.1 h1
  exact h i k (by simpa using hi) (by simpa using hk)
section
variable {f r c : Nat} {caps : List PV} {g : Nat → Nat → Nat} (hr : r ≤ 6) (hc : c ≤ 6) (h : ∀ i k : Nat, i < r → k < c → val f (Vi i :: Vi k :: caps) = some [Vu (g i k)])
include hr hc h
end
theorem el_set (x : List Nat) (p v q : Nat) : el (x.set p v) q = if p = q ∧ p < x.length then v else el x q := by
  unfold el
  rw [List.getD_eq_getElem?_getD, List.getD_eq_getElem?_getD, List.getElem?_set]
  by_cases h : p = q
  · subst h
    by_cases h2 : p < x.length
    · simp [h2]
    · simp [h2, List.getElem?_eq_none (show x.length ≤ p by omega)]
  · simp [h]
def fin1 (pos v : Nat → Nat) : Nat → Nat → List Nat → List Nat
  | 0, _, m => m
  | n + 1, k, m => fin1 pos v n (k + 1) (m.set (pos k) (v k))
theorem fin1_len (pos v : Nat → Nat) : ∀ (n k : Nat) (m : List Nat), (fin1 pos v n k m).length = m.length
  | 0, _, _ => rfl
  | n + 1, k, m => by unfold fin1; rw [fin1_len pos v n, List.length_set]
theorem fin1_other {pos v : Nat → Nat} {q : Nat} : ∀ (n k : Nat) (m : List Nat), (∀ j, k ≤ j → j < k + n → pos j ≠ q) → el (fin1 pos v n k m) q = el m q
  | 0, _, _, _ => rfl
  | n + 1, k, m, h => by
    unfold fin1
    rw [fin1_other n (k + 1) _ (fun j h1 h2 => h j (by omega) (by omega)), el_set, if_neg (fun hh => h k (Nat.le_refl _) (by omega) hh.1)]
theorem fin1_at {pos v : Nat → Nat} : ∀ (n k : Nat) (m : List Nat), (∀ j, k ≤ j → j < k + n → pos j < m.length) → (∀ j j', k ≤ j → j < k + n → k ≤ j' → j' < k + n → pos j = pos j' → j = j') → ∀ j, k ≤ j → j < k + n → el (fin1 pos v n k m) (pos j) = v j
  | 0, _, _, _, _, j, h1, h2 => by omega
  | n + 1, k, m, hl, hi, j, h1, h2 => by
    unfold fin1
    rcases Nat.eq_or_lt_of_le h1 with he | he
    · subst he
      rw [fin1_other n (k + 1) _ (fun j' a b hh => by have := hi j' k (by omega) (by omega) (Nat.le_refl _) (by omega) hh; omega), el_set, if_pos ⟨rfl, hl k (Nat.le_refl _) (by omega)⟩]
    · exact fin1_at n (k + 1) _ (fun j a b => by rw [List.length_set]; exact hl j (by omega) (by omega)) (fun j j' a b a' b' => hi j j' (by omega) (by omega) (by omega) (by omega)) j (by omega) (by omega)
end Go.Proofs.Ytogcdllpjcnbkaa.Dx

namespace Go.Proofs.Ytogcdllpjcnbkaa.Dx
open Go

section
variable {r c : Nat} {x : List Nat} (h : Mx r c x)
include h
end

section
variable {r c : Nat} {x : List Nat} (h : Mx r c x) {C S : Nat} (hC : C < 18446744073709551616) (hS : S < 18446744073709551616) {i k : Nat} (hi : i < r) (hk : k < r)
include h hC hS hi hk
end
section
variable {r c : Nat} {x : List Nat} (h : Mx r c x) {C S : Nat} (hC : C < 18446744073709551616) (hS : S < 18446744073709551616) {i k : Nat} (hi : i < c) (hk : k < c)
include h hC hS hi hk
end
end Go.Proofs.Ytogcdllpjcnbkaa.Dx

namespace Go.Proofs.Ytogcdllpjcnbkaa.Dx
open Go

theorem st_call {g : Exp} {f : Nat} {xs : List Exp} {n : Nat} {t : TT Unit} {ρ rs : List PV} (hg : g.isTrue ρ = true) (hv : val f (xs.map (Exp.den ρ)) = some rs) (hl : rs.length = n) : (TT.call g f xs n t).dv ρ = t.dv (ρ ++ rs) := by
  simp only [TT.dv, hg, hv, hl, if_true]
theorem st_t {c : Exp} {a b : TT Unit} {ρ : List PV} (hc : c.isTrue ρ = true) : (TT.ite c a b).dv ρ = a.dv ρ := by simp only [TT.dv, hc, if_true]
theorem st_f {c : Exp} {a b : TT Unit} {ρ : List PV} (hc : c.isTrue ρ = false) : (TT.ite c a b).dv ρ = b.dv ρ := by simp only [TT.dv, hc, Bool.false_eq_true, if_false]
def colG (x : List Nat) (c k from_ : Nat) (j : Nat) : Nat := el x (ps (from_ + j) c k)
/-- A column from a row on. -/
def colL (r c : Nat) (x : List Nat) (k from_ : Nat) : List Nat := mk (colG x c k from_) (r - from_)
theorem colL_words {r c : Nat} {x : List Nat} (h : Mx r c x) (k from_ : Nat) : Words (colL r c x k from_) := mk_words fun _ _ => h.w.el _
@[simp] theorem colL_len (r c : Nat) (x : List Nat) (k from_ : Nat) : (colL r c x k from_).length = r - from_ := mk_len _ _
theorem el_colL {r c : Nat} {x : List Nat} {k f j : Nat} (h : j < r - f) : el (colL r c x k f) j = el x (ps (f + j) c k) := by
  unfold colL; rw [show el (mk (colG x c k f) (r - f)) j = colG x c k f j from by
    unfold el mk; rw [List.getD_eq_getElem?_getD, List.getElem?_map, List.getElem?_range h]; rfl]; rfl
section
variable {r c : Nat} {x : List Nat} (h : Mx r c x) {k f : Nat} (hk : k < c) (hf : f ≤ r)
include h hk hf
theorem column_ok : val 247 [Vi r, Vi c, Vl x, Vi k, Vi f] = some [Vl (colL r c x k f)] := by
  have hr := h.hr
  have lp : ∀ (n : Nat) {j : Nat}, j + n = r - f →
      rounds (fun vs => lo247_1.dv (Vi r :: Vi c :: Vl x :: Vi k :: Vi f :: vs)) [Vi ((f + j : Nat) : Int), Vl (mk (colG x c k f) j)] = some (.y (.ext 0) [Vl (colL r c x k f)]) := by
    intro n
    induction n with
    | zero =>
      intro j hj
      have : j = r - f := by omega
      subst this
      refine rounds_exit ?_ (by simp)
      have e : ¬ (((f + (r - f) : Nat) : Int) < (r : Int)) := by omega
      generalize ((f + (r - f) : Nat) : Int) = z at *
      simp [lo247_1, TT.dv, e, colL]
    | succ n ih =>
      intro j hj
      refine Eq.trans (rounds_cont ?_) (ih (j := j + 1) (by omega))
      have e1 : (B.add .i64).den (Vi ((f + j : Nat) : Int)) (Vi 1) = Vi ((f + (j + 1) : Nat) : Int) := by rw [add_i (by omega) (by omega)]; exact congrArg Vi (by omega)
      have g1 := get_ok h (i := f + j) (k := k) (by omega) hk
      have a1 := app_V (mk (colG x c k f) j) (colG x c k f j)
      rw [mk_succ] at a1
      have e2 : ((f + j : Nat) : Int) < (r : Int) := by omega
      have e3 : ((j : Int) + 1) ≤ 17592186044416 := by omega
      unfold colG at a1 ⊢
      generalize ((f + j : Nat) : Int) = z at *
      generalize ((f + (j + 1) : Nat) : Int) = z' at *
      simp [lo247_1, TT.dv, e1, e2, g1, a1, e3]
  refine val_of tab247 ?_
  have h0 := lp (r - f) (j := 0) (by omega)
  rw [Nat.add_zero, show mk (colG x c k f) 0 = [] from rfl] at h0
  simp [tr247, TT.dv, KS.dv, h0]
theorem column9_ok : val 167 [Vi r, Vi c, Vl x, Vi k, Vi f] = some [Vl (colL r c x k f)] := by
  have hr := h.hr
  have lp : ∀ (n : Nat) {j : Nat}, j + n = r - f →
      rounds (fun vs => lo167_1.dv (Vi r :: Vi c :: Vl x :: Vi k :: Vi f :: vs)) [Vi ((f + j : Nat) : Int), Vl (mk (colG x c k f) j)] = some (.y (.ext 0) [Vl (colL r c x k f)]) := by
    intro n
    induction n with
    | zero =>
      intro j hj
      have : j = r - f := by omega
      subst this
      refine rounds_exit ?_ (by simp)
      have e : ¬ (((f + (r - f) : Nat) : Int) < (r : Int)) := by omega
      generalize ((f + (r - f) : Nat) : Int) = z at *
      simp [lo167_1, TT.dv, e, colL]
    | succ n ih =>
      intro j hj
      refine Eq.trans (rounds_cont ?_) (ih (j := j + 1) (by omega))
      have e1 : (B.add .i64).den (Vi ((f + j : Nat) : Int)) (Vi 1) = Vi ((f + (j + 1) : Nat) : Int) := by rw [add_i (by omega) (by omega)]; exact congrArg Vi (by omega)
      have g1 := at_ok h (i := f + j) (k := k) (by omega) hk
      have a1 := app_V (mk (colG x c k f) j) (colG x c k f j)
      rw [mk_succ] at a1
      have e2 : ((f + j : Nat) : Int) < (r : Int) := by omega
      have e3 : ((j : Int) + 1) ≤ 17592186044416 := by omega
      unfold colG at a1 ⊢
      generalize ((f + j : Nat) : Int) = z at *
      generalize ((f + (j + 1) : Nat) : Int) = z' at *
      simp [lo167_1, TT.dv, e1, e2, g1, a1, e3]
  refine val_of tab167 ?_
  have h0 := lp (r - f) (j := 0) (by omega)
  rw [Nat.add_zero, show mk (colG x c k f) 0 = [] from rfl] at h0
  simp [tr167, TT.dv, KS.dv, h0]
end
theorem take_V (x : List Nat) (n : Nat) : B.take.den (Vl x) (Vi n) = Vl (x.take n) := by
  rw [Vl, take_l _ rfl, Vl, List.map_take]
theorem el_take {x : List Nat} {n j : Nat} (h : j < n) : el (x.take n) j = el x j := by
  unfold el
  rw [List.getD_eq_getElem?_getD, List.getD_eq_getElem?_getD, List.getElem?_take, if_pos h]
theorem Words.take {x : List Nat} (h : Words x) (n : Nat) : Words (x.take n) := fun a ha => h a (List.mem_of_mem_take ha)
def apI (cl v : List Nat) (t i c cc : Nat) : Nat → Nat → List Nat → List Nat
  | 0, _, m => m
  | n + 1, j, m => apI cl v t i c cc n (j + 1) (m.set (ps (i + j) c cc) (subV (el cl j) (mulV t (el v j))))
def apT (r c : Nat) (x v : List Nat) (tau i cc : Nat) : Nat := mulV tau (dotV v ((colL r c x cc i).take v.length))
def apO (r c : Nat) (x v : List Nat) (tau i : Nat) : Nat → Nat → List Nat → List Nat
  | 0, _, m => m
  | n + 1, cc, m => apO r c x v tau i n (cc + 1) (apI (colL r c x cc i) v (apT r c x v tau i cc) i c cc v.length 0 m)
def apV (r c : Nat) (x : List Nat) (i k : Nat) (v : List Nat) (tau : Nat) : List Nat := apO r c x v tau i (c - k) k x
theorem apI_mx {r c : Nat} {cl v : List Nat} {t i cc : Nat} (hc : Words cl) : ∀ (n j : Nat) {m : List Nat}, Mx r c m → Mx r c (apI cl v t i c cc n j m)
  | 0, _, _, h => h
  | n + 1, j, m, h => apI_mx hc n (j + 1) (h.set (subV_lt (hc.el j) mulV_lt))
theorem apO_mx {r c : Nat} {x v : List Nat} {tau i : Nat} (hx : Mx r c x) : ∀ (n cc : Nat) {m : List Nat}, Mx r c m → Mx r c (apO r c x v tau i n cc m)
  | 0, _, _, h => h
  | n + 1, cc, m, h => apO_mx hx n (cc + 1) (apI_mx (colL_words hx cc i) _ _ h)
section
variable {r c : Nat} {x : List Nat} (h : Mx r c x) {v : List Nat} (hv : Words v) {tau : Nat} (ht : tau < 18446744073709551616) {i : Nat} (hi : i + v.length ≤ r)
include h hv ht hi
theorem ap_inner {cc : Nat} (hcc : cc < c) {x3 x4 x7 x9 x11 x12 : PV} {t : Nat} (htt : t < 18446744073709551616) : ∀ (n : Nat) {j : Nat} {m : List Nat}, j + n = v.length → Mx r c m →
    rounds (fun vs => lo238_2.dv (Vi r :: Vi c :: Vl x :: Vi i :: x4 :: Vl v :: Vu tau :: x7 :: Vi cc :: x9 :: Vl (colL r c x cc i) :: x11 :: x12 :: Vu t :: vs)) [Vi j, Vl m] = some (.y (.ext 2) [Vl (apI (colL r c x cc i) v t i c cc n j m)]) := by
  intro n
  have hr := h.hr
  have hc := h.hc
  have htl : ((colL r c x cc i).take v.length).length = v.length := by rw [List.length_take, colL_len]; omega
  induction n with
  | zero =>
    intro j m hj hm
    have : j = v.length := by omega
    subst this
    refine rounds_exit ?_ (by simp)
    simp [lo238_2, TT.dv, take_V, htl, apI]
  | succ n ih =>
    intro j m hj hm
    have hjl : j < v.length := by omega
    refine Eq.trans (rounds_cont ?_) (ih (j := j + 1) (by omega) (hm.set (subV_lt ((colL_words h cc i).el j) (mulV_lt (a := t) (b := el v j)))))
    have e1 : (B.add .i64).den (Vi j) (Vi 1) = Vi (j + 1) := add_i (by omega) (by omega)
    have e2 : (B.add .i64).den (Vi i) (Vi j) = Vi ((i + j : Nat) : Int) := by rw [add_i (by omega) (by omega)]; exact congrArg Vi (by omega)
    have p1 := pos_i (i := i + j) (c := c) (k := cc) (by omega) (by omega) (by omega)
    have l1 := hm.lt (show i + j < r by omega) hcc
    have g1 := get_V (x := v) hjl
    have g2 := get_V (x := (colL r c x cc i).take v.length) (i := j) (by rw [htl]; exact hjl)
    rw [el_take hjl] at g2
    have m1 := vmul_ok htt (hv.el j)
    have s1 := vsub_ok ((colL_words h cc i).el j) (mulV_lt (a := t) (b := el v j))
    generalize ((i + j : Nat) : Int) = z at *
    simp [lo238_2, TT.dv, take_V, htl, hjl, e1, e2, p1, l1, g1, g2, m1, s1, set_V]
theorem ap_outer {k : Nat} {x7 : PV} : ∀ (n : Nat) {cc : Nat} {m : List Nat}, cc + n = c → Mx r c m →
    rounds (fun vs => lo238_1.dv (Vi r :: Vi c :: Vl x :: Vi i :: Vi k :: Vl v :: Vu tau :: x7 :: vs)) [Vi cc, Vl m] = some (.y (.ext 0) [Vl (apO r c x v tau i n cc m)]) := by
  intro n
  have hr := h.hr
  have hc := h.hc
  induction n with
  | zero =>
    intro cc m hcc hm
    have : cc = c := by omega
    subst this
    refine rounds_exit ?_ (by simp)
    simp [lo238_1, TT.dv, apO]
  | succ n ih =>
    intro cc m hcc hm
    have hlt : cc < c := by omega
    have hcl := colL_words h cc i
    refine Eq.trans (rounds_cont ?_) (ih (cc := cc + 1) (by omega) (apI_mx (v := v) (t := apT r c x v tau i cc) (i := i) (cc := cc) hcl v.length 0 hm))
    have e1 : (B.add .i64).den (Vi cc) (Vi 1) = Vi (cc + 1) := add_i (by omega) (by omega)
    have c1 := column_ok h hlt (show i ≤ r by omega)
    have htl : ((colL r c x cc i).take v.length).length = v.length := by rw [List.length_take, colL_len]; omega
    have d1 := dot_ok hv (hcl.take v.length)
    rw [if_pos ⟨htl.symm, by omega⟩] at d1
    have m1 := vmul_ok ht (b := dotV v ((colL r c x cc i).take v.length)) (dotR_lt _ (by decide))
    have hin := fun x4 x7 x9 x11 x12 => ap_inner h hv ht hi hlt (x3 := x4) (x4 := x4) (x7 := x7) (x9 := x9) (x11 := x11) (x12 := x12) (t := apT r c x v tau i cc) mulV_lt v.length (j := 0) (by omega) hm
    simp only [show ((0 : Nat) : Int) = 0 from rfl] at hin
    rw [show mulV tau (dotV v ((colL r c x cc i).take v.length)) = apT r c x v tau i cc from rfl] at m1
    have hle : v.length ≤ r - i := by omega
    simp [lo238_1, TT.dv, KS.dv, hlt, e1, c1, take_V, d1, m1, hin, hle]
theorem apply_ok {k : Nat} (hk : k ≤ c) : val 238 [Vi r, Vi c, Vl x, Vi i, Vi k, Vl v, Vu tau] = some [Vi r, Vi c, Vl (apV r c x i k v tau), Vi 0] := by
  refine val_of tab238 ?_
  have hr := h.hr
  have hc := h.hc
  have h1 := check_ok r c x
  rw [if_pos (mx_right h)] at h1
  have hs := h.small
  have hlp := ap_outer h hv ht hi (k := k) (x7 := Vi 0) (c - k) (cc := k) (m := x) (by omega) h
  have e1 : (B.sub .i64).den (Vi r) (Vi v.length) = Vi ((r : Int) - v.length) := sub_i (by omega) (by omega)
  simp [tr238, TT.dv, KS.dv, h1, e1, show ¬ (i : Int) < 0 by omega, show ¬ r < v.length by omega, show ¬ ((r : Int) - v.length < i) by omega, show ¬ (k : Int) < 0 by omega, show ¬ c < k by omega, show (x.length : Int) ≤ 17592186044416 by omega, hlp, apV]
theorem apV_mx {k : Nat} : Mx r c (apV r c x i k v tau) := apO_mx h _ _ h
end
end Go.Proofs.Ytogcdllpjcnbkaa.Dx

namespace Go.Proofs.Ytogcdllpjcnbkaa.Dx
open Go

theorem awake_13 : val 51 [] = some [Vb true] := val_iff.2 ⟨400, by kernel_rfl⟩
end Go.Proofs.Ytogcdllpjcnbkaa.Dx

namespace Go.Proofs.Ytogcdllpjcnbkaa.Dx
open Go

theorem el_mk' {g : Nat → Nat} {n i : Nat} (h : i < n) : el (mk g n) i = g i := by
  unfold el mk
  rw [List.getD_eq_getElem?_getD, List.getElem?_map, List.getElem?_range h]; rfl
theorem normV_lt (x : List Nat) (hx : Words x) : normV x < 18446744073709551616 := by
  unfold normV
  split
  · have := bigV_lt x; omega
  · exact scaleV_lt (sqrtV_lt (sqrR_lt _ (by decide))) _
def nou (x : List Nat) : Nat → Nat → Bool
  | 0, _ => true
  | n + 1, i => decide (fKind (el x i) = 0) && nou x n (i + 1)
theorem el_drop (x : List Nat) (n i : Nat) : el (x.drop n) i = el x (n + i) := by
  unfold el; rw [List.getD_eq_getElem?_getD, List.getD_eq_getElem?_getD, List.getElem?_drop]
theorem nou_drop (x : List Nat) : ∀ (n i : Nat), nou (x.drop 1) n i = nou x n (i + 1)
  | 0, _ => rfl
  | n + 1, i => by unfold nou; rw [el_drop, Nat.add_comm 1 i, nou_drop x n (i + 1)]
theorem nou_loop {x : List Nat} {x1 : PV} (h64 : x.length < 9000000000000000000) : ∀ (n : Nat) {i : Nat}, i + n = x.length →
    rounds (fun vs => lo243_1.dv (Vl x :: vs)) [x1, Vi i] = some (if nou x n i then .y (.ext 0) [x1] else .y .ret []) := by
  intro n
  induction n with
  | zero =>
    intro i hi
    refine rounds_exit ?_ (by simp [nou])
    simp [lo243_1, TT.dv, show ¬ i < x.length by omega, nou]
  | succ n ih =>
    intro i hi
    have g1 := get_V (x := x) (i := i) (by omega)
    have k1 := kind_ok (el x i)
    unfold nou
    by_cases c : fKind (el x i) = 0
    · rw [decide_eq_true c, Bool.true_and]
      have e1 : (B.add .i64).den (Vi i) (Vi 1) = Vi (i + 1) := add_i (by omega) (by omega)
      refine Eq.trans (rounds_cont ?_) (ih (i := i + 1) (by omega))
      simp [lo243_1, TT.dv, show i < x.length by omega, g1, k1, c, e1]
    · rw [decide_eq_false c, Bool.false_and]
      refine rounds_exit ?_ (by simp)
      simp [lo243_1, TT.dv, show i < x.length by omega, g1, k1, c]
def nouV (x : List Nat) : Bool := nou x (x.length - 1) 1
theorem drop_V (x : List Nat) (n : Nat) : B.drop.den (Vl x) (Vi n) = Vl (x.drop n) := by
  rw [Vl, drop_l _ rfl, Vl, List.map_drop]
theorem drop_V1 (x : List Nat) : B.drop.den (Vl x) (Vi 1) = Vl x.tail := by have := drop_V x 1; rwa [List.drop_one] at this
theorem noughts_ok {x : List Nat} (h1 : 1 ≤ x.length) (h64 : x.length < 9000000000000000000) : val 243 [Vl (x.drop 1)] = some [Vb (nouV x)] := by
  refine val_of tab243 ?_
  have h := nou_loop (x := x.drop 1) (x1 := Vb false) (by simp; omega) (x.length - 1) (i := 0) (by simp)
  rw [nou_drop, show ((0 : Nat) : Int) = 0 from rfl] at h
  unfold nouV
  rw [Nat.zero_add] at h
  cases hc : nou x (x.length - 1) 1 <;> rw [hc] at h <;> simp [tr243, TT.dv, KS.dv] <;> simp at h <;> simp [h, KS.dv]
/-- The place of the first number that is no nought. -/
def leadI (x : List Nat) : Nat → Nat → Option Nat
  | 0, _ => none
  | n + 1, i => if fKind (el x i) ≠ 0 then some i else leadI x n (i + 1)
theorem leadI_lt {x : List Nat} : ∀ {n i j : Nat}, leadI x n i = some j → j < i + n
  | 0, _, _, h => by simp [leadI] at h
  | n + 1, i, j, h => by
    unfold leadI at h
    split at h
    · simp at h; omega
    · have := leadI_lt h; omega
theorem nou_lead {x : List Nat} : ∀ {n i : Nat}, nou x n i = false → ∃ j, leadI x n i = some j
  | 0, _, h => by simp [nou] at h
  | n + 1, i, h => by
    unfold nou at h
    unfold leadI
    by_cases c : fKind (el x i) = 0
    · rw [decide_eq_true c, Bool.true_and] at h
      rw [if_neg (by simp [c])]
      exact nou_lead h
    · rw [if_pos c]; exact ⟨i, rfl⟩
theorem lead_some {x : List Nat} (h1 : 1 ≤ x.length) (h : nouV x = false) : ∃ j, leadI x x.length 0 = some j ∧ j < x.length := by
  unfold nouV at h
  obtain ⟨n, hn⟩ : ∃ n, x.length = n + 1 := ⟨x.length - 1, by omega⟩
  rw [hn] at h ⊢
  unfold leadI
  by_cases c : fKind (el x 0) ≠ 0
  · rw [if_pos c]; exact ⟨0, rfl, by omega⟩
  · rw [if_neg c]
    obtain ⟨j, hj⟩ := nou_lead h
    have := leadI_lt hj
    exact ⟨j, hj, by omega⟩
theorem lead_loop {x : List Nat} {x1 : PV} (h64 : x.length < 9000000000000000000) : ∀ (n : Nat) {i j : Nat}, i + n = x.length → leadI x n i = some j →
    rounds (fun vs => lo242_1.dv (Vl x :: vs)) [x1, Vi i] = some (.y .ret [Vu (el x j)]) := by
  intro n
  induction n with
  | zero => intro i j _ h; simp [leadI] at h
  | succ n ih =>
    intro i j hi hj
    have g1 := get_V (x := x) (i := i) (by omega)
    have k1 := kind_ok (el x i)
    unfold leadI at hj
    by_cases c : fKind (el x i) = 0
    · rw [if_neg (by simp [c])] at hj
      have e1 : (B.add .i64).den (Vi i) (Vi 1) = Vi (i + 1) := add_i (by omega) (by omega)
      refine Eq.trans (rounds_cont ?_) (ih (i := i + 1) (by omega) hj)
      simp [lo242_1, TT.dv, show i < x.length by omega, g1, k1, c, e1]
    · rw [if_pos c] at hj
      simp at hj; subst hj
      refine rounds_exit ?_ (by simp)
      simp [lo242_1, TT.dv, show i < x.length by omega, g1, k1, c]
theorem vlead_ok {x : List Nat} {j : Nat} (h64 : x.length < 9000000000000000000) (hj : leadI x x.length 0 = some j) : val 242 [Vl x] = some [Vu (el x j)] := by
  refine val_of tab242 ?_
  have h := lead_loop (x1 := Vu 0) h64 x.length (i := 0) (by omega) hj
  rw [show ((0 : Nat) : Int) = 0 from rfl] at h
  simp [tr242, TT.dv, KS.dv, h]
def rowG (g : Nat → Nat) (i : Nat) : Nat := if i = 0 then 4607182418800017408 else g i
theorem mk_one (g : Nat → Nat) : mk (rowG g) 1 = [4607182418800017408] := rfl
theorem row_ok {f n : Nat} {caps : List PV} (g : Nat → Nat) (h1 : 1 ≤ n) (hn : n ≤ 1000) (h : ∀ i : Nat, 1 ≤ i → i < n → val f (Vi i :: caps) = some [Vu (g i)]) : val 244 [Vi n, fnP f caps] = some [Vl (mk (rowG g) n)] := by
  have lp : ∀ (k : Nat) {i : Nat}, 1 ≤ i → i + k = n → rounds (fun vs => lo244_1.dv (Vi n :: fnP f caps :: vs)) [Vi i, Vl (mk (rowG g) i)] = some (.y (.ext 0) [Vl (mk (rowG g) n)]) := by
    intro k
    induction k with
    | zero =>
      intro i hi1 hi
      have : i = n := by omega
      subst this
      refine rounds_exit ?_ (by simp)
      simp [lo244_1, TT.dv]
    | succ k ih =>
      intro i hi1 hi
      refine Eq.trans (rounds_cont ?_) (ih (i := i + 1) (by omega) (by omega))
      have e1 : (B.add .i64).den (Vi i) (Vi 1) = Vi (i + 1) := add_i (by omega) (by omega)
      have h1 := h i hi1 (by omega)
      have a1 := app_V (mk (rowG g) i) (g i)
      have hg : rowG g i = g i := by unfold rowG; rw [if_neg (by omega)]
      have a2 := mk_succ (rowG g) i
      rw [hg] at a2
      rw [a2] at a1
      have e2 : (i : Int) + 1 ≤ 17592186044416 := by omega
      simp [lo244_1, TT.dv, show i < n by omega, e1, fnP, h1, a1, e2]
  refine val_of tab244 ?_
  have h0 := lp (n - 1) (i := 1) (Nat.le_refl _) (by omega)
  rw [show ((1 : Nat) : Int) = 1 from rfl, mk_one] at h0
  have d1 := drop_V (mk (rowG g) n) 0
  rw [show ((0 : Nat) : Int) = 0 from rfl, List.drop_zero] at d1
  have t1 := take_V (mk (rowG g) n) n
  rw [show (mk (rowG g) n).take n = mk (rowG g) n from List.take_of_length_le (by simp)] at t1
  simp [tr244, TT.dv, KS.dv, cons_V, h0, d1, t1]
def shG (x : List Nat) (k : Int) (i : Nat) : Nat := scaleV (el x i) k
def shV (x : List Nat) (k : Int) : List Nat := mk (shG x k) x.length
theorem shV_words {x : List Nat} (hx : Words x) (k : Int) : Words (shV x k) := mk_words fun i _ => scaleV_lt (hx.el i) k
@[simp] theorem shV_len (x : List Nat) (k : Int) : (shV x k).length = x.length := mk_len _ _
theorem shifted_ok {x : List Nat} (k : Int) (hl : x.length ≤ 1000) : val 245 [Vl x, Vi k] = some [Vl (shV x k)] := by
  have lp : ∀ (n : Nat) {i : Nat}, i + n = x.length → rounds (fun vs => lo245_1.dv (Vl x :: Vi k :: vs)) [Vi i, Vl (mk (shG x k) i)] = some (.y (.ext 0) [Vl (shV x k)]) := by
    intro n
    induction n with
    | zero =>
      intro i hi
      have : i = x.length := by omega
      subst this
      refine rounds_exit ?_ (by simp)
      simp [lo245_1, TT.dv, shV]
    | succ n ih =>
      intro i hi
      refine Eq.trans (rounds_cont ?_) (ih (i := i + 1) (by omega))
      have e1 : (B.add .i64).den (Vi i) (Vi 1) = Vi (i + 1) := add_i (by omega) (by omega)
      have g1 := get_V (x := x) (i := i) (by omega)
      have s1 := vshift_ok (el x i) k
      have a1 := app_V (mk (shG x k) i) (shG x k i)
      rw [mk_succ] at a1
      unfold shG at a1 ⊢
      have e2 : (i : Int) + 1 ≤ 17592186044416 := by omega
      simp [lo245_1, TT.dv, show i < x.length by omega, e1, g1, s1, a1, e2]
  refine val_of tab245 ?_
  have h0 := lp x.length (i := 0) (by omega)
  rw [show ((0 : Nat) : Int) = 0 from rfl, show mk (shG x k) 0 = [] from rfl] at h0
  simp [tr245, TT.dv, KS.dv, h0]
def hK (x : List Nat) : Int := expB (bigV x)
def hY (x : List Nat) : List Nat := shV x (-hK x)
def hMu (x : List Nat) : Nat := if fNeg (el x ((leadI x x.length 0).getD 0)) then normV (hY x) else fMinus (normV (hY x))
def hBeta (x : List Nat) : Nat := scaleV (hMu x) (hK x)
def hD (x : List Nat) : Nat := subV (el (hY x) 0) (hMu x)
def hVG (x : List Nat) (i : Nat) : Nat := divV (el (hY x) i) (hD x)
def hTau (x : List Nat) : Nat := divV (subV (hMu x) (el (hY x) 0)) (hMu x)
/-- The mirror's vector, tau, beta; whether there is one. -/
def mkOk (x : List Nat) : Bool := nouV x || decide (fPow (hBeta x) ≠ 2047)
def mkV (x : List Nat) : List Nat := if nouV x then mk (rowG fun _ => 0) x.length else mk (rowG (hVG x)) x.length
def mkTau (x : List Nat) : Nat := if nouV x then 0 else hTau x
def mkBeta (x : List Nat) : Nat := if nouV x then el x 0 else hBeta x
section
variable {x : List Nat} (hx : Words x) (h1 : 1 ≤ x.length) (h64 : x.length ≤ 64)
include hx h1 h64
theorem hY_words : Words (hY x) := shV_words hx _
theorem hMu_lt : hMu x < 18446744073709551616 := by
  unfold hMu
  have h := normV_lt (hY x) (hY_words hx h1 h64)
  split
  · exact h
  · exact (minus_neg h).2.2.2
theorem hBeta_lt : hBeta x < 18446744073709551616 := scaleV_lt (hMu_lt hx h1 h64) _
theorem hD_lt : hD x < 18446744073709551616 := subV_lt ((hY_words hx h1 h64).el 0) (hMu_lt hx h1 h64)
theorem mkV_words : Words (mkV x) := by
  unfold mkV
  split
  · exact mk_words fun i _ => by unfold rowG; split; decide; simp
  · exact mk_words fun i _ => by unfold rowG; split; decide; exact divV_lt
theorem mkV_len : (mkV x).length = x.length := by unfold mkV; split <;> simp
theorem mkTau_lt : mkTau x < 18446744073709551616 := by unfold mkTau; split; decide; exact divV_lt
theorem mkBeta_lt : mkBeta x < 18446744073709551616 := by unfold mkBeta; split; exact hx.el 0; exact hBeta_lt hx h1 h64
theorem make_ok (hf : finV x = true) : val 239 [Vl x] = some (if mkOk x then [Vl (mkV x), Vu (mkTau x), Vu (mkBeta x), Vi 0] else [Vl [], Vu 0, Vu 0, Vi 2]) := by
  refine val_of tab239 ?_
  have f1 := finite_v_ok hx (by omega)
  rw [hf] at f1
  have n1 := noughts_ok (x := x) h1 (by omega)
  rw [List.drop_one] at n1
  have l0 : ¬ x.length = 0 := by omega
  have l64 : ¬ (64 : Int) < x.length := by omega
  have l1 : (1 : Int) ≤ x.length := by omega
  have l2 : 0 < x.length := by omega
  have g0 := get_V (x := x) l2
  rw [show ((0 : Nat) : Int) = 0 from rfl] at g0
  unfold mkOk mkV mkTau mkBeta
  cases hn : nouV x
  · rw [hn] at n1
    have b1 := biggest_ok hx (by omega)
    have e1 := exp_ok (b := bigV x)
    have hk := expB_bd (bigV x)
    rw [show expB (bigV x) = hK x from rfl] at e1 hk
    have ng : (U.neg .i64).den (Vi (hK x)) = Vi (-hK x) := neg_i (by omega) (by omega)
    have s1 := shifted_ok (x := x) (-hK x) (by omega)
    rw [show shV x (-hK x) = hY x from rfl] at s1
    have hyl : (hY x).length = x.length := shV_len _ _
    have hyw := hY_words hx h1 h64
    have nm := norm_v_ok hyw (by omega)
    rw [if_pos (by omega)] at nm
    obtain ⟨j, hj, hjl⟩ := lead_some h1 hn
    have ld := vlead_ok (x := x) (by omega) hj
    have sg := sign_ok (el x j)
    have mn := minus_ok (normV_lt (hY x) hyw)
    have hmu : hMu x = if fNeg (el x j) then normV (hY x) else fMinus (normV (hY x)) := by unfold hMu; rw [hj]; rfl
    have sh2 := vshift_ok (hMu x) (hK x)
    rw [show scaleV (hMu x) (hK x) = hBeta x from rfl] at sh2
    have fb := finite_ok (hBeta x)
    have gy := get_V (x := hY x) (i := 0) (by omega)
    rw [show ((0 : Nat) : Int) = 0 from rfl] at gy
    have ly : 0 < (hY x).length := by omega
    have sb := vsub_ok (hyw.el 0) (hMu_lt hx h1 h64)
    rw [show subV (el (hY x) 0) (hMu x) = hD x from rfl] at sb
    have rw1 := row_ok (f := 241) (n := (hY x).length) (caps := [.a [Vl (hY x)], .a [Vu (hD x)]]) (hVG x) (by omega) (by omega) fun i i1 i2 => by
      refine val_of tab241 ?_
      have g1 := get_V (x := hY x) i2
      have d1 := vdiv_ok (hyw.el i) (hD_lt hx h1 h64)
      simp [tr241, TT.dv, i2, g1, d1, hVG]
    have ec : B.cons.den (U.toA.den (B.cons.den (Vl (hY x)) (Vl []))) (B.cons.den (U.toA.den (B.cons.den (Vu (hD x)) (Vl []))) (Vl [])) = .l [.a [Vl (hY x)], .a [Vu (hD x)]] := rfl
    have sb2 := vsub_ok (hMu_lt hx h1 h64) (hyw.el 0)
    have dv2 := vdiv_ok (subV_lt (hMu_lt hx h1 h64) (hyw.el 0)) (hMu_lt hx h1 h64)
    rw [show divV (subV (hMu x) (el (hY x) 0)) (hMu x) = hTau x from rfl] at dv2
    rw [hyl] at rw1
    by_cases hb : fPow (hBeta x) = 2047
    · rw [decide_eq_false (by simp [hb])] 
      cases hs : fNeg (el x j)
      · rw [hs] at sg hmu
        rw [if_neg (by simp)] at hmu
        rw [← hmu] at mn
        simp [tr239, TT.dv, KS.dv, l0, l64, l1, f1, drop_V1, n1, b1, e1, ng, s1, nm, ld, sg, mn, sh2, fb, hb]
      · rw [hs] at sg hmu
        rw [if_pos rfl] at hmu
        rw [← hmu] at nm
        simp [tr239, TT.dv, KS.dv, l0, l64, l1, f1, drop_V1, n1, b1, e1, ng, s1, nm, ld, sg, sh2, fb, hb]
    · rw [decide_eq_true (show fPow (hBeta x) ≠ 2047 from hb)]
      cases hs : fNeg (el x j)
      · rw [hs] at sg hmu
        rw [if_neg (by simp)] at hmu
        rw [← hmu] at mn
        simp [tr239, TT.dv, KS.dv, l0, l64, l1, l2, ly, hyl, f1, drop_V1, n1, b1, e1, ng, s1, nm, ld, sg, mn, sh2, fb, hb, gy, sb, ec, mkfn_l, rw1, sb2, dv2]
      · rw [hs] at sg hmu
        rw [if_pos rfl] at hmu
        rw [← hmu] at nm
        simp [tr239, TT.dv, KS.dv, l0, l64, l1, l2, ly, hyl, f1, drop_V1, n1, b1, e1, ng, s1, nm, ld, sg, sh2, fb, hb, gy, sb, ec, mkfn_l, rw1, sb2, dv2]
  · rw [hn] at n1
    have rw1 := row_ok (f := 240) (n := x.length) (caps := []) (fun _ => 0) h1 (by omega) fun i _ _ => val_of tab240 (by simp [tr240, TT.dv])
    have ec : (U.mkfn 240).den (Vl []) = fnP 240 [] := rfl
    simp [tr239, TT.dv, l0, l64, l1, l2, f1, drop_V1, n1, ec, rw1, g0]
end
end Go.Proofs.Ytogcdllpjcnbkaa.Dx

namespace Go.Proofs.Ytogcdllpjcnbkaa.Dx
open Go

end Go.Proofs.Ytogcdllpjcnbkaa.Dx

namespace Go.Proofs.Ytogcdllpjcnbkaa.Dx
open Go

/-- x is y, but for e. -/
def Er (x y e : Rat) : Prop := x ≤ y + e ∧ y ≤ x + e
/-- x without its sign is at most a. -/
def Ab (x a : Rat) : Prop := -a ≤ x ∧ x ≤ a
theorem Ab.mono {x a b : Rat} (h : Ab x a) (hab : a ≤ b) : Ab x b := by obtain ⟨h1, h2⟩ := h; exact ⟨by grind, by grind⟩
theorem Ab.neg {x a : Rat} (h : Ab x a) : Ab (-x) a := by obtain ⟨h1, h2⟩ := h; exact ⟨by grind, by grind⟩
theorem Ab.add {x y a b : Rat} (h : Ab x a) (h' : Ab y b) : Ab (x + y) (a + b) := by
  obtain ⟨h1, h2⟩ := h; obtain ⟨h3, h4⟩ := h'; exact ⟨by grind, by grind⟩
theorem Ab.sub {x y a b : Rat} (h : Ab x a) (h' : Ab y b) : Ab (x - y) (a + b) := by
  obtain ⟨h1, h2⟩ := h; obtain ⟨h3, h4⟩ := h'; exact ⟨by grind, by grind⟩
theorem Ab.mul {x y a b : Rat} (h : Ab x a) (h' : Ab y b) : Ab (x * y) (a * b) := by
  obtain ⟨h1, h2⟩ := h
  obtain ⟨h3, h4⟩ := h'
  have p1 : 0 ≤ (a - x) * (b + y) := Rat.mul_nonneg (by grind) (by grind)
  have p2 : 0 ≤ (a + x) * (b - y) := Rat.mul_nonneg (by grind) (by grind)
  have p3 : 0 ≤ (a - x) * (b - y) := Rat.mul_nonneg (by grind) (by grind)
  have p4 : 0 ≤ (a + x) * (b + y) := Rat.mul_nonneg (by grind) (by grind)
  exact ⟨by grind, by grind⟩
theorem Ab.of_sq {x a : Rat} (ha : 0 ≤ a) (h : x * x ≤ a * a) : Ab x a := by
  constructor
  · rcases Rat.le_total (a := -a) (b := x) with h1 | h1
    · exact h1
    · rcases Rat.le_total (a := a) (b := -x) with h2 | h2
      · have := rat_sq_le ha h2
        have e : -x * -x = x * x := by grind
        rw [e] at this
        have e2 : x * x = a * a := by grind
        have p : 0 ≤ (-x - a) * (-x + a) := Rat.mul_nonneg (by grind) (by grind)
        rcases Rat.le_total (a := -x) (b := a) with h3 | h3
        · grind
        · have p1 : 0 ≤ (-x - a) * (-x - a) := rat_sq_nonneg _
          have p2 : 0 ≤ (-x - a) * a := Rat.mul_nonneg (by grind) ha
          have p3 : (-x - a) * (-x + a) = 0 := by grind
          have p4 : (-x - a) * (-x - a) + 2 * ((-x - a) * a) = (-x - a) * (-x + a) := by grind
          have p5 : (-x - a) * (-x - a) = 0 := by grind
          have p6 : -x - a = 0 := by
            rcases Rat.mul_eq_zero.1 p5 with h | h <;> exact h
          grind
      · grind
  · rcases Rat.le_total (a := x) (b := a) with h1 | h1
    · exact h1
    · have p1 : 0 ≤ (x - a) * (x - a) := rat_sq_nonneg _
      have p2 : 0 ≤ (x - a) * a := Rat.mul_nonneg (by grind) ha
      have p4 : (x - a) * (x - a) + 2 * ((x - a) * a) = x * x - a * a := by grind
      have p5 : (x - a) * (x - a) = 0 := by grind
      have p6 : x - a = 0 := by
        rcases Rat.mul_eq_zero.1 p5 with h | h <;> exact h
      grind
theorem Er.refl (x : Rat) : Er x x 0 := ⟨by grind, by grind⟩
theorem Er.symm {x y e : Rat} (h : Er x y e) : Er y x e := ⟨h.2, h.1⟩
theorem Er.mono {x y e f : Rat} (h : Er x y e) (hf : e ≤ f) : Er x y f := by obtain ⟨h1, h2⟩ := h; exact ⟨by grind, by grind⟩
theorem Er.trans {x y z e f : Rat} (h : Er x y e) (h' : Er y z f) : Er x z (e + f) := by
  obtain ⟨h1, h2⟩ := h; obtain ⟨h3, h4⟩ := h'; exact ⟨by grind, by grind⟩
theorem Er.add {x y e x' y' e' : Rat} (h : Er x y e) (h' : Er x' y' e') : Er (x + x') (y + y') (e + e') := by
  obtain ⟨h1, h2⟩ := h; obtain ⟨h3, h4⟩ := h'; exact ⟨by grind, by grind⟩
theorem Er.sub {x y e x' y' e' : Rat} (h : Er x y e) (h' : Er x' y' e') : Er (x - x') (y - y') (e + e') := by
  obtain ⟨h1, h2⟩ := h; obtain ⟨h3, h4⟩ := h'; exact ⟨by grind, by grind⟩
theorem Er.neg {x y e : Rat} (h : Er x y e) : Er (-x) (-y) e := by obtain ⟨h1, h2⟩ := h; exact ⟨by grind, by grind⟩
theorem Er.ab {x y e : Rat} (h : Er x y e) : Ab (x - y) e := by obtain ⟨h1, h2⟩ := h; exact ⟨by grind, by grind⟩
theorem Er.of_ab {x y e : Rat} (h : Ab (x - y) e) : Er x y e := by obtain ⟨h1, h2⟩ := h; exact ⟨by grind, by grind⟩
theorem Er.bound {x y e a : Rat} (h : Er x y e) (h' : Ab y a) : Ab x (a + e) := by
  obtain ⟨h1, h2⟩ := h; obtain ⟨h3, h4⟩ := h'; exact ⟨by grind, by grind⟩
/-- A product's error. -/
theorem Er.mul {x y e x' y' e' a a' : Rat} (h : Er x y e) (h' : Er x' y' e') (ha : Ab y a) (ha' : Ab x' a') : Er (x * x') (y * y') (e * a' + a * e') := by
  have p1 := h.ab.mul ha'
  have p2 := ha.mul h'.ab
  obtain ⟨q1, q2⟩ := p1.add p2
  exact ⟨by grind, by grind⟩
theorem Er.sq {x y e a : Rat} (h : Er x y e) (ha : Ab y a) : Er (x * x) (y * y) (e * (2 * a + e)) := by
  have := h.mul h ha (h.bound ha)
  exact this.mono (by grind)
theorem sumA_sumP (a : Nat → Rat) : ∀ n, sumA a n = sumP (fun i => a i * a i) n
  | 0 => rfl
  | n + 1 => by unfold sumA sumP; rw [sumA_sumP a n]
theorem sumP_congr {p q : Nat → Rat} : ∀ {n : Nat}, (∀ i, i < n → p i = q i) → sumP p n = sumP q n
  | 0, _ => rfl
  | n + 1, h => by unfold sumP; rw [sumP_congr (fun i hi => h i (by omega)), h n (by omega)]
theorem sumP_split (p : Nat → Rat) (m : Nat) : ∀ n, sumP p (m + n) = sumP p m + sumP (fun i => p (m + i)) n
  | 0 => by simp only [sumP]; rw [Nat.add_zero]; grind
  | n + 1 => by
    rw [← Nat.add_assoc]
    simp only [sumP]
    rw [sumP_split p m n]; grind
theorem sumP_add (p q : Nat → Rat) : ∀ n, sumP (fun i => p i + q i) n = sumP p n + sumP q n
  | 0 => by simp only [sumP]; grind
  | n + 1 => by simp only [sumP]; rw [sumP_add p q n]; grind
theorem sumP_mul (p : Nat → Rat) (k : Rat) : ∀ n, sumP (fun i => k * p i) n = k * sumP p n
  | 0 => by simp only [sumP]; grind
  | n + 1 => by simp only [sumP]; rw [sumP_mul p k n]; grind
theorem sumP_mulr (p : Nat → Rat) (k : Rat) : ∀ n, sumP (fun i => p i * k) n = sumP p n * k
  | 0 => by simp only [sumP]; grind
  | n + 1 => by simp only [sumP]; rw [sumP_mulr p k n]; grind
theorem sumP_nonneg {p : Nat → Rat} : ∀ {n : Nat}, (∀ i, i < n → 0 ≤ p i) → 0 ≤ sumP p n
  | 0, _ => by unfold sumP; exact Rat.le_refl
  | n + 1, h => by
    have h1 := sumP_nonneg (p := p) (n := n) (fun i hi => h i (by omega))
    have h2 := h n (by omega)
    unfold sumP; grind
theorem sumP_le {p q : Nat → Rat} : ∀ {n : Nat}, (∀ i, i < n → p i ≤ q i) → sumP p n ≤ sumP q n
  | 0, _ => by unfold sumP; exact Rat.le_refl
  | n + 1, h => by
    have h1 := sumP_le (p := p) (q := q) (n := n) (fun i hi => h i (by omega))
    have h2 := h n (by omega)
    unfold sumP; grind
theorem sumP_er {p q e : Nat → Rat} : ∀ {n : Nat}, (∀ i, i < n → Er (p i) (q i) (e i)) → Er (sumP p n) (sumP q n) (sumP e n)
  | 0, _ => Er.refl 0
  | n + 1, h => (sumP_er (fun i hi => h i (by omega))).add (h n (by omega))
theorem sumP_const (k : Rat) : ∀ n : Nat, sumP (fun _ => k) n = (n : Rat) * k
  | 0 => by unfold sumP; simp
  | n + 1 => by unfold sumP; rw [sumP_const k n, nat_rat]; grind
abbrev uu : Rat := 1 / 9007199254740992
abbrev ee : Rat := P2 (-1075)
/-- A word that is a number, but for an error. -/
structure Fl (w : Nat) (v e : Rat) : Prop where
  lt : w < 18446744073709551616
  fin : fPow w ≠ 2047
  er : Er (sv w) v e
theorem Fl.exact {w : Nat} (h : w < 18446744073709551616) (hf : fPow w ≠ 2047) : Fl w (sv w) 0 := ⟨h, hf, Er.refl _⟩
theorem Fl.mono {w : Nat} {v e f : Rat} (h : Fl w v e) (hf : e ≤ f) : Fl w v f := ⟨h.lt, h.fin, h.er.mono hf⟩
theorem Fl.of {w : Nat} {v e v' e' : Rat} (h : Fl w v e) (h' : Er v v' e') : Fl w v' (e + e') := ⟨h.lt, h.fin, h.er.trans h'⟩
theorem sv_W (w : Nat) : sv w * sv w = W w * W w := W_sx w
theorem sv_ab (w : Nat) : Ab (sv w) (W w) := by
  have h := W_nonneg w
  rcases sv_cases w with ⟨_, h1⟩ | ⟨_, h1⟩ <;> rw [h1]
  · exact ⟨by grind, by grind⟩
  · exact ⟨by grind, by grind⟩
/-- A number rounded. -/
theorem fl_near {s : Bool} {n : Nat} {p : Int} {v : Rat} {A : Rat} (hv : v = if s then -D n p else D n p) (hA : Ab v A) (h : A ≤ P2 1023) : Fl (nearV s n p) v (A * uu + ee) := by
  have hn := D_nonneg n p
  have hD : D n p ≤ A := by
    obtain ⟨h1, h2⟩ := hA
    cases s <;> simp only [if_true, if_false, Bool.false_eq_true] at hv <;> grind
  have hf := near_fin (Rat.le_trans hD h)
  have hfin := fin_near (s := s) hf
  obtain ⟨e1, e2⟩ := near_err' hf
  obtain ⟨_, _, f3, f4, f5⟩ := sgn_fields s (nearR_le n p)
  have hW : W (nearV s n p) = W (nearR n p) := by
    rw [← W_abs, absV_near]
  refine ⟨f5, hfin, ?_⟩
  have hs := sv_of (b := nearV s n p) (s := s) f3
  rw [hs, hv, hW]
  have e3 : D n p * (1 / 9007199254740992) ≤ A * (1 / 9007199254740992) := Rat.mul_le_mul_of_nonneg_right hD (by decide +kernel)
  generalize D n p = d at *
  generalize W (nearR n p) = w at *
  show Er _ _ (A * (1 / 9007199254740992) + P2 (-1075))
  generalize P2 (-1075) = η at *
  cases s <;> simp only [if_true, if_false, Bool.false_eq_true] <;> exact ⟨by grind, by grind⟩
theorem sv_D (w : Nat) : sv w = if fNeg w then -D (fMag w) (fPl w) else D (fMag w) (fPl w) := sv_of rfl
theorem fl_mul {a b : Nat} (ha : fPow a ≠ 2047) (hb : fPow b ≠ 2047) {A : Rat} (h : Ab (sv a * sv b) A) (hA : A ≤ P2 1023) : Fl (mulV a b) (sv a * sv b) (A * uu + ee) := by
  rw [mulV_fin ha hb]
  refine fl_near ?_ h hA
  rw [sv_D a, sv_D b, ← D_mul]
  generalize D (fMag a) (fPl a) = x
  generalize D (fMag b) (fPl b) = y
  cases fNeg a <;> cases fNeg b <;> simp <;> grind
theorem DV_sg (s : Bool) (m : Nat) (p : Int) : DV (sg s m) p = if s then -D m p else D m p := by
  unfold DV sg D
  cases s
  · simp only [Bool.false_eq_true, if_false]; rw [Rat.intCast_natCast]
  · simp only [if_true]; rw [Rat.intCast_neg, Rat.intCast_natCast]; grind
theorem D_abs (x p : Int) : DV x p = if decide (x < 0) then -D x.natAbs p else D x.natAbs p := by
  by_cases h : x < 0
  · rw [decide_eq_true h, if_pos rfl, show x = sg true x.natAbs by unfold sg; simp; omega, DV_sg]
    simp [sg]
  · rw [decide_eq_false h, if_neg (by decide)]
    unfold DV D
    rw [show x = ((x.natAbs : Nat) : Int) by omega, Rat.intCast_natCast]
    simp
theorem fl_add {a b : Nat} (ha : fPow a ≠ 2047) (hb : fPow b ≠ 2047) {A : Rat} (h : Ab (sv a + sv b) A) (hA : A ≤ P2 1023) : Fl (addV a b) (sv a + sv b) (A * uu + ee) := by
  rw [addV_fin ha hb]
  unfold sumV
  have key : sv a + sv b = DV (sg (fNeg a) (fMag a) * 2 ^ (fPl a - min (fPl a) (fPl b)).toNat + sg (fNeg b) (fMag b) * 2 ^ (fPl b - min (fPl a) (fPl b)).toNat) (min (fPl a) (fPl b)) := by
    have := DV_dadd (sg (fNeg a) (fMag a)) (fPl a) (sg (fNeg b) (fMag b)) (fPl b)
    exact this.symm
  generalize sg (fNeg a) (fMag a) * 2 ^ (fPl a - min (fPl a) (fPl b)).toNat + sg (fNeg b) (fMag b) * 2 ^ (fPl b - min (fPl a) (fPl b)).toNat = X at *
  refine fl_near ?_ h hA
  rw [key]
  by_cases h0 : X = 0
  · rw [if_pos h0, h0, show (0 : Int).natAbs = 0 from rfl, D_zero]
    unfold DV; rw [Rat.intCast_zero, Rat.zero_mul]
    split <;> grind
  · rw [if_neg h0]; exact D_abs X _
theorem fl_sub {a b : Nat} (ha : fPow a ≠ 2047) (hb : fPow b ≠ 2047) (hbl : b < 18446744073709551616) {A : Rat} (h : Ab (sv a - sv b) A) (hA : A ≤ P2 1023) : Fl (subV a b) (sv a - sv b) (A * uu + ee) := by
  unfold subV
  have hm := sv_minus hbl
  have e : sv a - sv b = sv a + sv (fMinus b) := by rw [hm]; grind
  obtain ⟨m1, m2, m3, m4⟩ := minus_neg hbl
  have hp : fPow (fMinus b) ≠ 2047 := by rw [m2]; exact hb
  rw [e] at h ⊢
  exact fl_add ha hp h hA
/-- A product, of numbers with errors. -/
theorem Fl.mul {a b : Nat} {v e A v' e' B C : Rat} (h : Fl a v e) (h' : Fl b v' e') (hA : Ab v A) (hB : Ab (sv b) B) (hC : Ab (sv a * sv b) C) (hC2 : C ≤ P2 1023) : Fl (mulV a b) (v * v') (C * uu + ee + (e * B + A * e')) :=
  (fl_mul h.fin h'.fin hC hC2).of (h.er.mul h'.er hA hB)
theorem Fl.add {a b : Nat} {v e v' e' C : Rat} (h : Fl a v e) (h' : Fl b v' e') (hC : Ab (sv a + sv b) C) (hC2 : C ≤ P2 1023) : Fl (addV a b) (v + v') (C * uu + ee + (e + e')) :=
  (fl_add h.fin h'.fin hC hC2).of (h.er.add h'.er)
theorem Fl.sub {a b : Nat} {v e v' e' C : Rat} (h : Fl a v e) (h' : Fl b v' e') (hC : Ab (sv a - sv b) C) (hC2 : C ≤ P2 1023) : Fl (subV a b) (v - v') (C * uu + ee + (e + e')) :=
  (fl_sub h.fin h'.fin h'.lt hC hC2).of (h.er.sub h'.er)
theorem Fl.bound {a : Nat} {v e A : Rat} (h : Fl a v e) (hA : Ab v A) : Ab (sv a) (A + e) := h.er.bound hA
end Go.Proofs.Ytogcdllpjcnbkaa.Dx

namespace Go.Proofs.Ytogcdllpjcnbkaa.Dx
open Go

def rowL (c : Nat) (x : List Nat) (i : Nat) : List Nat := (x.take ((i + 1) * c)).drop (i * c)
section
variable {r c : Nat} {x : List Nat} (h : Mx r c x) {i : Nat} (hi : i < r)
include h hi
theorem row_end : (i + 1) * c ≤ x.length := by rw [h.len]; exact Nat.mul_le_mul_right c hi
theorem rowL_len : (rowL c x i).length = c := by
  have := row_end h hi
  unfold rowL
  rw [List.length_drop, List.length_take, Nat.min_eq_left this, Nat.add_mul, Nat.one_mul]; omega
theorem rowL_words : Words (rowL c x i) := fun a ha => h.w a (List.mem_of_mem_take (List.mem_of_mem_drop ha))
theorem row_ints : (B.mul .i64).den (Vi i) (Vi c) = Vi ((i * c : Nat) : Int) ∧ (B.mul .i64).den ((B.add .i64).den (Vi i) (Vi 1)) (Vi c) = Vi (((i + 1) * c : Nat) : Int) := by
  have h1 := h.hr
  have h2 := h.hc
  have h3 : i * c ≤ 6 * 6 := Nat.mul_le_mul (by omega) h2
  have h4 : (i + 1) * c ≤ 6 * 6 := Nat.mul_le_mul (by omega) h2
  have e1 : (i : Int) * c = ((i * c : Nat) : Int) := by rw [Int.natCast_mul]
  have e2 : ((i : Int) + 1) * c = (((i + 1) * c : Nat) : Int) := by rw [Int.natCast_mul]; rfl
  rw [add_i (by omega) (by omega), mul_i (by rw [e1]; omega) (by rw [e1]; omega), mul_i (by rw [e2]; omega) (by rw [e2]; omega), e1, e2]
  exact ⟨rfl, rfl⟩
theorem mrow9_ok : val 173 [Vi r, Vi c, Vl x, Vi i] = some [Vl (rowL c x i)] := by
  refine val_of tab173 ?_
  obtain ⟨e1, e2⟩ := row_ints h hi
  have hend := row_end h hi
  have hic : i * c ≤ (i + 1) * c := Nat.mul_le_mul_right c (by omega)
  unfold rowL
  have t1 := take_V x ((i + 1) * c)
  have d1 := drop_V (x.take ((i + 1) * c)) (i * c)
  generalize (i + 1) * c = z at *
  generalize i * c = y at *
  simp [tr173, TT.dv, e1, e2, t1, d1, show y ≤ z from hic, show z ≤ x.length from hend]
end
section
variable {ra ca rb cb : Nat} {x y : List Nat} (h : Mx ra ca x) (h' : Mx rb cb y) (hcr : ca = rb)
include h h' hcr
end
section
variable {r c : Nat} {x : List Nat} (h : Mx r c x) {i k m n : Nat} (hi : i + m ≤ r) (hk : k + n ≤ c)
include h hi hk
end
def eyG (i k : Nat) : Nat := if i = k then 4607182418800017408 else 0
def eyV (n : Nat) : List Nat := matL eyG n n
theorem eyV_mx {n : Nat} (hn : n ≤ 6) : Mx n n (eyV n) := matL_mx hn hn fun i k _ _ => by unfold eyG; split <;> decide
theorem eye9_ok {n : Nat} (hn : n ≤ 6) : val 169 [Vi n] = some [Vi n, Vi n, Vl (eyV n)] := by
  refine val_of tab169 ?_
  have hz := zeros_ok hn hn
  have lp : ∀ (x1 x2 x3 : PV) (t : Nat) {i : Nat} {m : List Nat}, i + t = n → Mx n n m → rounds (fun vs => lo169_1.dv (Vi n :: x1 :: x2 :: x3 :: vs)) [Vi i, Vi n, Vi n, Vl m] = some (.y (.ext 0) [Vi n, Vi n, Vl (fin1 (fun i => ps i n i) (fun _ => 4607182418800017408) t i m)]) := by
    intro x1 x2 x3 t
    induction t with
    | zero =>
      intro i m hi hm
      have : i = n := by omega
      subst this
      refine rounds_exit ?_ (by simp)
      simp [lo169_1, TT.dv, fin1]
    | succ t ih =>
      intro i m hi hm
      have hin : i < n := by omega
      refine Eq.trans (rounds_cont ?_) (ih (i := i + 1) (by omega) (hm.set (p := ps i n i) (v := 4607182418800017408) (by decide)))
      have e1 : (B.add .i64).den (Vi i) (Vi 1) = Vi (i + 1) := add_i (by omega) (by omega)
      have w1 := with_ok hm (i := i) (k := i) (b := 4607182418800017408) hin hin
      simp [lo169_1, TT.dv, hin, e1, w1]
  have hlp := lp (Vi n) (Vi n) (Vl (List.replicate (n * n) 0)) n (i := 0) (by omega) (zeros_mx hn hn)
  rw [show ((0 : Nat) : Int) = 0 from rfl] at hlp
  have he : fin1 (fun i => ps i n i) (fun _ => 4607182418800017408) n 0 (List.replicate (n * n) 0) = eyV n := by
    refine mat_ext (r := n) (c := n) (by rw [fin1_len]; simp) (matL_len _ _ _) fun i k hi hk => ?_
    unfold eyV
    rw [el_matL _ hi hk]
    unfold eyG
    by_cases h : i = k
    · subst h
      rw [if_pos rfl]
      exact fin1_at (pos := fun i => ps i n i) (v := fun _ => 4607182418800017408) n 0 _ (fun j _ h2 => by rw [List.length_replicate]; exact ps_lt (by omega) (by omega))
        (fun j j' _ a _ a' hh => (ps_inj (by omega) (by omega) hh).1) i (Nat.zero_le _) (by omega)
    · rw [if_neg h, fin1_other n 0 _ (fun j _ h2 hh => by have := ps_inj (by omega) hk hh; omega)]
      unfold el
      rw [List.getD_eq_getElem?_getD, List.getElem?_replicate]
      split <;> rfl
  rw [he] at hlp
  simp [tr169, TT.dv, KS.dv, hz, hlp]
end Go.Proofs.Ytogcdllpjcnbkaa.Dx

namespace Go.Proofs.Ytogcdllpjcnbkaa.Dx
open Go

def chk (R C : Int) (x : List Nat) : Int := if rightP R C x then (if finV x then 0 else 4) else 1
theorem ccheck9_ok (R C : Int) {x : List Nat} (hw : Words x) (h : x.length ≤ 17592186043904) : val 178 [Vi R, Vi C, Vl x] = some [Vi (chk R C x)] := by
  refine val_of tab178 ?_
  have h1 := right_ok10 R C x
  have h2 := finite_9_ok hw (by omega)
  unfold chk
  by_cases c : rightP R C x
  · rw [decide_eq_true c] at h1
    rw [if_pos c]
    cases hc : finV x <;> rw [hc] at h2 <;> simp [tr178, TT.dv, h1, h2]
  · rw [decide_eq_false c] at h1
    rw [if_neg c]
    simp [tr178, TT.dv, h1]
section
variable {r c j : Nat} (hjr : j < r) (hjc : j < c)
include hjr hjc
end
abbrev Mir := List Nat × Nat × Nat
structure MirOK (r j : Nat) (m : Mir) : Prop where
  len : m.1.length = r - j
  w : Words m.1
  t : m.2.1 < 18446744073709551616
  b : m.2.2 < 18446744073709551616
section
variable {r c j : Nat} {x : List Nat} (h : Mx r c x) (hj : j < c) (hjr : j < r)
include h hj hjr
end
def MsOK (r : Nat) (ms : List Mir) : Prop := ∀ j m, ms[j]? = some m → MirOK r j m
theorem MsOK.app {r : Nat} {ms : List Mir} (h : MsOK r ms) {m : Mir} (hm : MirOK r ms.length m) : MsOK r (ms ++ [m]) := by
  intro j m' hj
  rcases Nat.lt_or_ge j ms.length with h1 | h1
  · rw [List.getElem?_append_left h1] at hj; exact h j m' hj
  · rw [List.getElem?_append_right h1] at hj
    have : j = ms.length := by
      rcases Nat.eq_or_lt_of_le h1 with h2 | h2
      · exact h2.symm
      · rw [List.getElem?_eq_none (by simp; omega)] at hj; cases hj
    subst this
    simp at hj; subst hj; exact hm
end Go.Proofs.Ytogcdllpjcnbkaa.Dx

namespace Go.Proofs.Ytogcdllpjcnbkaa.Dx
open Go

section
variable {r : Nat} {ms : List Mir} (hms : MsOK r ms) (hml : ms.length ≤ r)
include hms hml
end
end Go.Proofs.Ytogcdllpjcnbkaa.Dx

namespace Go.Proofs.Ytogcdllpjcnbkaa.Dx
open Go

end Go.Proofs.Ytogcdllpjcnbkaa.Dx

namespace Go.Proofs.Ytogcdllpjcnbkaa.Dx
open Go

theorem apI_other {cl v : List Nat} {t i c cc q : Nat} : ∀ (n j : Nat) {m : List Nat}, (∀ j', ps (i + j') c cc ≠ q) → el (apI cl v t i c cc n j m) q = el m q
  | 0, _, _, _ => rfl
  | n + 1, j, m, h => by
    unfold apI
    rw [apI_other n (j + 1) h, el_set, if_neg (fun hh => h j hh.1)]
theorem apO_other {r c : Nat} {x v : List Nat} {tau i q : Nat} : ∀ (n cc : Nat) {m : List Nat}, (∀ j' cc', cc ≤ cc' → cc' < cc + n → ps (i + j') c cc' ≠ q) → el (apO r c x v tau i n cc m) q = el m q
  | 0, _, _, _ => rfl
  | n + 1, cc, m, h => by
    unfold apO
    rw [apO_other n (cc + 1) (fun j' cc' h1 h2 => h j' cc' (by omega) (by omega)), apI_other _ _ (fun j' => h j' cc (Nat.le_refl _) (by omega))]
section
variable {r c : Nat} {y : List Nat} (h : Mx r c y) (hu : ∀ a b, b < a → a < r → b < c → el y (ps a c b) = 0)
include h hu
end
end Go.Proofs.Ytogcdllpjcnbkaa.Dx

namespace Go.Proofs.Ytogcdllpjcnbkaa.Dx
open Go

theorem finR_iff {x : List Nat} : ∀ (n i : Nat), finR x n i = true ↔ ∀ k, i ≤ k → k < i + n → fPow (el x k) ≠ 2047
  | 0, i => ⟨fun _ k h1 h2 => by omega, fun _ => rfl⟩
  | n + 1, i => by
    unfold finR
    by_cases c : fPow (el x i) = 2047
    · rw [if_pos c]
      exact ⟨fun h => (by cases h), fun h => absurd c (h i (Nat.le_refl _) (by omega))⟩
    · rw [if_neg c, finR_iff n (i + 1)]
      refine ⟨fun h k h1 h2 => ?_, fun h k h1 h2 => h k (by omega) (by omega)⟩
      rcases Nat.eq_or_lt_of_le h1 with h3 | h3
      · subst h3; exact c
      · exact h k (by omega) (by omega)
theorem finV_iff {x : List Nat} : finV x = true ↔ ∀ k, k < x.length → fPow (el x k) ≠ 2047 := by
  unfold finV
  rw [finR_iff]
  exact ⟨fun h k hk => h k (Nat.zero_le _) (by omega), fun h k _ hk => h k (by omega)⟩
theorem finV_mx {r c : Nat} {x : List Nat} (h : Mx r c x) : finV x = true ↔ ∀ i k, i < r → k < c → fPow (el x (ps i c k)) ≠ 2047 := by
  rw [finV_iff]
  refine ⟨fun hh i k hi hk => hh _ (h.lt hi hk), fun hh t ht => ?_⟩
  have hc : 0 < c := by
    rcases Nat.eq_zero_or_pos c with h0 | h0
    · subst h0; rw [h.len] at ht; omega
    · exact h0
  have e : t = ps (t / c) c (t % c) := by unfold ps; rw [Nat.mul_comm]; exact (Nat.div_add_mod t c).symm
  have := hh (t / c) (t % c) (by rw [Nat.div_lt_iff_lt_mul hc, ← h.len]; exact ht) (Nat.mod_lt _ hc)
  rwa [← e] at this
theorem el_mkx {g : Nat → Nat} {n i : Nat} (h : i < n) : el (mk g n) i = g i := by
  unfold el mk
  rw [List.getD_eq_getElem?_getD, List.getElem?_map, List.getElem?_range h]; rfl
section
variable {r c : Nat} {x : List Nat} (h : Mx r c x) {up over : Bool}
include h
theorem rowL_mk {i : Nat} (hi : i < r) : rowL c x i = mk (fun k => el x (ps i c k)) c := by
  have hl := rowL_len h hi
  refine List.ext_getElem (by rw [hl, mk_len]) fun t h1 h2 => ?_
  have e1 : (rowL c x i)[t]? = x[i * c + t]? := by
    have := row_end h hi
    unfold rowL
    rw [List.getElem?_drop, List.getElem?_take, if_pos (by rw [Nat.add_mul, Nat.one_mul]; rw [hl] at h1; omega)]
  rw [List.getElem?_eq_getElem h1] at e1
  have e2 : (mk (fun k => el x (ps i c k)) c)[t] = el x (ps i c t) := by simp [mk]
  rw [e2]
  unfold el ps
  rw [List.getD_eq_getElem?_getD, ← e1]; rfl
end
section
variable {r c : Nat} {y : List Nat} (h : Mx r c y)
include h
end
end Go.Proofs.Ytogcdllpjcnbkaa.Dx

namespace Go.Proofs.Ytogcdllpjcnbkaa.Dx
open Go

section
variable {r c : Nat} {x : List Nat} {i k C S : Nat} (hi : i < r) (hk : k < r) (hne : i ≠ k)
include hi hk hne
end
theorem near_nought (s : Bool) (p : Int) : sv (nearV s 0 p) = 0 ∧ fPow (nearV s 0 p) ≠ 2047 ∧ fMag (nearV s 0 p) = 0 := by
  have h : nearR 0 p = 0 := by
    have := @near_W 0 (by decide)
    rw [show fMag 0 = 0 from rfl] at this
    rw [near_eq (n := 0) (p := p) (m := 0) (q := fPl 0) (by rw [D_zero, D_zero])]; exact this
  unfold nearV
  rw [h]
  cases s
  · exact ⟨sv_zero (by decide), by decide, by decide⟩
  · exact ⟨sv_zero (by decide), by decide, by decide⟩
theorem mul_nought {a b : Nat} (ha : fPow a ≠ 2047) (hb : fPow b ≠ 2047) (h : fMag b = 0) : sv (mulV a b) = 0 ∧ fPow (mulV a b) ≠ 2047 ∧ fMag (mulV a b) = 0 := by
  rw [mulV_fin ha hb, h, Nat.mul_zero]; exact near_nought _ _
theorem add_nought {a b : Nat} (ha : fPow a ≠ 2047) (hb : fPow b ≠ 2047) (h : fMag a = 0) (h' : fMag b = 0) : sv (addV a b) = 0 ∧ fPow (addV a b) ≠ 2047 ∧ fMag (addV a b) = 0 := by
  rw [addV_fin ha hb]
  unfold sumV
  rw [h, h', show ∀ s, sg s 0 = 0 from fun s => by cases s <;> rfl, show ∀ s, sg s 0 = 0 from fun s => by cases s <;> rfl, Int.zero_mul, Int.zero_mul]
  exact near_nought _ _
theorem minus_fields {b : Nat} (hb : b < 18446744073709551616) : fPow (fMinus b) = fPow b ∧ fMag (fMinus b) = fMag b := by
  obtain ⟨m1, m2, m3, m4⟩ := minus_neg hb
  exact ⟨m2, by unfold fMag; rw [m2, m3]⟩
/-- What tame numbers are. -/
theorem tame_W {b : Nat} {K : Int} (hf : fPow b ≠ 2047) (h : fMag b = 0 ∨ (-K ≤ expB b ∧ expB b < K)) : W b = 0 ∨ (P2 (-K) ≤ W b ∧ W b ≤ P2 K) := by
  rcases h with h | ⟨h1, h2⟩
  · exact .inl (W_zero_of h)
  · by_cases hm : fMag b = 0
    · exact .inl (W_zero_of hm)
    · obtain ⟨w1, w2⟩ := expB_W hf hm
      exact .inr ⟨Rat.le_trans (P2_mono h1) w1, Rat.le_trans (Rat.le_of_lt w2) (P2_mono (by omega))⟩
theorem mag_of_W {b : Nat} (h : W b = 0) : fMag b = 0 := by
  unfold W D at h
  rcases Rat.mul_eq_zero.1 h with h | h
  · have h2 : ((fMag b : Nat) : Rat) = ((0 : Nat) : Rat) := h
    exact Rat.natCast_inj.1 h2
  · have := P2_pos (fPl b); rw [h] at this; exact absurd this Rat.lt_irrefl
theorem ee_small {m : Rat} (h : P2 (-400) ≤ m) : 0 ≤ ee ∧ ee ≤ m * uu * (1 / 1000000) := by
  refine ⟨Rat.le_of_lt (P2_pos _), ?_⟩
  have e1 : ee = P2 (-400) * P2 (-675) := by rw [← P2_add]; rfl
  have e2 : P2 (-675) ≤ uu * (1 / 1000000) := by decide +kernel
  have e3 : 0 ≤ P2 (-400) := Rat.le_of_lt (P2_pos _)
  rw [e1]
  have h1 : P2 (-400) * P2 (-675) ≤ P2 (-400) * (uu * (1 / 1000000)) := Rat.mul_le_mul_of_nonneg_left e2 e3
  have h2 : P2 (-400) * (uu * (1 / 1000000)) ≤ m * (uu * (1 / 1000000)) := Rat.mul_le_mul_of_nonneg_right h (by decide +kernel)
  rw [Rat.mul_assoc]
  exact Rat.le_trans h1 h2
end Go.Proofs.Ytogcdllpjcnbkaa.Dx

namespace Go.Proofs.Ytogcdllpjcnbkaa.Dx
open Go

def Re (x y k : Rat) : Prop := Er x y (k * uu * y)
theorem uu_pos : (0 : Rat) ≤ uu := by decide +kernel
theorem Re.mono {x y k k' : Rat} (h : Re x y k) (hk : k ≤ k') (hy : 0 ≤ y) : Re x y k' := by
  refine Er.mono h ?_
  exact Rat.mul_le_mul_of_nonneg_right (Rat.mul_le_mul_of_nonneg_right hk uu_pos) hy
theorem kk_small {k k' : Rat} (hk : 0 ≤ k) (hk1 : k ≤ 1000) (hk1' : k' ≤ 1000) : k * k' * uu ≤ 1 / 1000 := by
  have h1 : k * k' ≤ k * 1000 := Rat.mul_le_mul_of_nonneg_left hk1' hk
  have h2 : k * k' * uu ≤ 1000000 * uu := Rat.mul_le_mul_of_nonneg_right (by grind) uu_pos
  exact Rat.le_trans h2 (by decide +kernel)
theorem Re.mul {x y k x' y' k' : Rat} (h : Re x y k) (h' : Re x' y' k') (hy : 0 ≤ y) (hy' : 0 ≤ y') (hk : 0 ≤ k) (hk' : 0 ≤ k') (hk1 : k ≤ 1000) (hk1' : k' ≤ 1000) : Re (x * x') (y * y') (k + k' + 1) := by
  have a1 : Ab y y := ⟨by grind, Rat.le_refl⟩
  have a2 := Er.bound h' (a := y') ⟨by grind, Rat.le_refl⟩
  have h1 := Er.mul h h' a1 a2
  refine h1.mono ?_
  have hz : 0 ≤ uu * (y * y') := Rat.mul_nonneg uu_pos (Rat.mul_nonneg hy hy')
  have h3 := Rat.mul_le_mul_of_nonneg_right (kk_small hk hk1 hk1') hz
  generalize uu = u at *
  grind
theorem Re.trans {x y z k k' : Rat} (h : Re x y k) (h' : Re y z k') (hz : 0 ≤ z) (hk : 0 ≤ k) (hk1 : k ≤ 1000) (hk1' : k' ≤ 1000) : Re x z (k + k' + 1) := by
  refine Er.mono (Er.trans h h') ?_
  obtain ⟨h1, h2⟩ := h'
  have hkk := Rat.mul_le_mul_of_nonneg_right (kk_small hk hk1 hk1') (Rat.mul_nonneg uu_pos hz)
  have h3 : k * uu * y ≤ k * uu * (z + k' * uu * z) := Rat.mul_le_mul_of_nonneg_left h1 (Rat.mul_nonneg hk uu_pos)
  have h0 : 0 ≤ uu * z := Rat.mul_nonneg uu_pos hz
  generalize uu = u at *
  grind
theorem Re.symm {x y k : Rat} (h : Re x y k) (hy : 0 ≤ y) (hk : 0 ≤ k) (hk1 : k ≤ 900) : Re y x (k + 1) := by
  obtain ⟨h1, h2⟩ := h
  have h0 : 0 ≤ uu * y := Rat.mul_nonneg uu_pos hy
  have hkk := Rat.mul_le_mul_of_nonneg_right (kk_small (k := k) (k' := k + 1) hk (by grind) (by grind)) h0
  have h3 : (k + 1) * uu * y ≤ (k + 1) * uu * (x + k * uu * y) := Rat.mul_le_mul_of_nonneg_left h2 (Rat.mul_nonneg (by grind) uu_pos)
  have h4 : k * uu * y ≤ (k + 1) * uu * x := by
    generalize uu = u at *
    grind
  exact ⟨by grind, by grind⟩
theorem Re.cancel {x y z k : Rat} (h : Re (x * z) (y * z) k) (hz : 0 < z) : Re x y k := by
  obtain ⟨h1, h2⟩ := h
  constructor
  · refine Rat.le_of_mul_le_mul_right (c := z) ?_ hz
    have : (y + k * uu * y) * z = y * z + k * uu * (y * z) := by grind
    rw [this]; exact h1
  · refine Rat.le_of_mul_le_mul_right (c := z) ?_ hz
    have : (x + k * uu * y) * z = x * z + k * uu * (y * z) := by grind
    rw [this]; exact h2
theorem Re.refl (x : Rat) : Re x x 0 := by unfold Re; rw [Rat.zero_mul, Rat.zero_mul]; exact Er.refl x
/-- A number with a known sign. -/
theorem Fl.sign {w : Nat} {v e : Rat} {s : Bool} (h : Fl w (if s then -v else v) e) (he : e < v) : fNeg w = s ∧ Er (W w) v e := by
  obtain ⟨h1, h2⟩ := h.er
  have hw := W_nonneg w
  rcases sv_cases w with ⟨n, hs⟩ | ⟨n, hs⟩ <;> rw [hs] at h1 h2 <;> cases s <;> simp only [if_true, if_false, Bool.false_eq_true] at h1 h2
  · exact ⟨n, h1, h2⟩
  · exact absurd he (by grind)
  · exact absurd he (by grind)
  · exact ⟨n, by grind, by grind⟩
theorem leadI_kind {x : List Nat} : ∀ {n i j : Nat}, leadI x n i = some j → fKind (el x j) ≠ 0 ∧ (fKind (el x i) ≠ 0 → j = i)
  | 0, i, j, h => by simp [leadI] at h
  | n + 1, i, j, h => by
    unfold leadI at h
    by_cases c : fKind (el x i) ≠ 0
    · rw [if_pos c] at h
      simp at h; subst h
      exact ⟨c, fun _ => rfl⟩
    · rw [if_neg c] at h
      exact ⟨(leadI_kind h).1, fun hh => absurd hh c⟩
theorem kind_mag (b : Nat) : fKind b ≠ 0 ↔ fMag b ≠ 0 := by rw [Ne, kind_zero, ← mag_zero]
def hσ (x : List Nat) : Bool := fNeg (el x ((leadI x x.length 0).getD 0))
def hR (x : List Nat) : Nat := normV (hY x)
structure HSet (x : List Nat) : Prop where
  k : -200 ≤ hK x ∧ hK x < 200
  rf : hR x < infR
  one : 1 ≤ W (hR x)
  le : W (hR x) ≤ 16
  yf : ∀ i, i < x.length → fPow (el (hY x) i) ≠ 2047
  yW : ∀ i, i < x.length → W (el (hY x) i) = W (el x i) * P2 (-hK x)
  ysv : ∀ i, i < x.length → sv (el (hY x) i) = sv (el x i) * P2 (-hK x)
  yle : ∀ i, i < x.length → W (el (hY x) i) ≤ W (hR x)
  y2 : ∀ i, i < x.length → W (el (hY x) i) ≤ 2
  sq : Re (W (hR x) * W (hR x)) (sumA (fun i => W (el (hY x) i)) x.length) 150
  nrm : scaleV (hR x) (hK x) = normV x
  s0 : sv (el (hY x) 0) = if hσ x then -W (el (hY x) 0) else W (el (hY x) 0)
theorem scaleV_nought {b : Nat} (h : fPow b ≠ 2047) (hm : fMag b = 0) (k : Int) : scaleV b k = b := by
  unfold scaleV; rw [if_neg (fin_nan h), if_pos (.inr hm)]
theorem hset {x : List Nat} (hx : Words x) (h1 : 1 ≤ x.length) (hl : x.length ≤ 64) (hT : TameP x 200) (hn : nouV x = false) : HSet x := by
  obtain ⟨j, hj, hjl⟩ := lead_some h1 hn
  obtain ⟨kj, kj0⟩ := leadI_kind hj
  have hT4 := tame_mono hT (show (200 : Int) ≤ 400 by omega)
  have hT9 := tame_mono hT (show (200 : Int) ≤ 900 by omega)
  obtain ⟨b1, b2, b3⟩ := bigR_mem (x := x) x.length (i := 0) (m := 0) (fun j _ hj => fin_nan (hT j (by omega)).1)
  rw [show bigR x x.length 0 0 = bigV x from rfl] at b1 b2 b3
  have mj : fMag (el x j) ≠ 0 := (kind_mag _).1 kj
  have h0 : bigV x ≠ 0 := fun h => by
    have := b2 j (Nat.zero_le _) (by omega)
    rw [h] at this
    have h2 : absV (el x j) = 0 := by omega
    have := W_abs (el x j)
    rw [h2, W_zero_of (by decide)] at this
    exact mj (mag_of_W this.symm)
  obtain ⟨k, r, R⟩ := norm_root hx hl hT9 h0
  have hk : hK x = k := R.kx.symm
  -- the greatest one's power
  obtain ⟨i0, -, i1, i2⟩ := b3.resolve_left h0
  have i1' : i0 < x.length := by omega
  obtain ⟨f1, f2, f3, f4⟩ := fields_abs (el x i0)
  rw [i2] at f1 f2 f3 f4
  have hkb : -200 ≤ k ∧ k < 200 := by
    obtain ⟨t1, t2⟩ := hT i0 i1'
    have m0 : fMag (el x i0) ≠ 0 := fun h => by
      have h2 := W_abs (el x i0)
      rw [i2, W_zero_of h] at h2
      exact h0 (W_eq (by have := R.mf; unfold infR at this; omega) (by decide) (h2.trans (W_zero_of (by decide)).symm))
    have e := t2.resolve_left m0
    have : expB (bigV x) = expB (el x i0) := by unfold expB; rw [f1, f2, f3]
    rw [R.kx, this]; exact e
  have hPP : P2 k * P2 (-k) = 1 := by rw [← P2_add, show k + -k = 0 by omega, P2_zero]
  have hPk := Rat.le_of_lt (P2_pos (-k))
  have yel : ∀ i, i < x.length → el (hY x) i = scaleV (el x i) (-k) := fun i hi => by
    unfold hY shV
    rw [el_mk' hi, hk]; rfl
  have hfacts : ∀ i, i < x.length → fPow (el (hY x) i) ≠ 2047 ∧ W (el (hY x) i) = W (el x i) * P2 (-k) ∧ fNeg (el (hY x) i) = fNeg (el x i) ∧ (fMag (el (hY x) i) = 0 ∨ (-900 ≤ expB (el (hY x) i) ∧ expB (el (hY x) i) < 900)) := fun i hi => by
    obtain ⟨t1, t2⟩ := hT i hi
    rw [yel i hi]
    by_cases hm : fMag (el x i) = 0
    · rw [scaleV_nought t1 hm, W_zero_of hm]
      exact ⟨t1, by grind, rfl, .inl hm⟩
    · obtain ⟨e1, e2⟩ := t2.resolve_left hm
      have nn := normal_of_exp t1 hm (by omega)
      obtain ⟨g1, g2, g3, g4, g5, g6⟩ := scale_exact (hx.el i) nn t1 (k := -k) (by omega) (by omega) (by omega)
      refine ⟨g3, g5, by rw [scaleV_fin (hx.el i) t1]; exact word_neg _ _ _, .inr ?_⟩
      have e3 := expB_normal g4 g3
      have e4 := expB_normal nn t1
      omega
  have hTy : TameP (hY x) 900 := fun i hi => by
    have hi' : i < x.length := by unfold hY at hi; simpa using hi
    exact ⟨(hfacts i hi').1, (hfacts i hi').2.2.2⟩
  have hyw : Words (hY x) := shV_words hx _
  have hyl : (hY x).length = x.length := by unfold hY; simp
  have e1 : normV (hY x) = scaleV (normV x) (-k) := norm_scaled hx hyw hl hyl hT4 (k := -k) (by omega) yel
  obtain ⟨q1, q2, q3, q4⟩ := root_exp R.rf R.one R.le
  obtain ⟨p1, p2, p3, p4⟩ := word_pos R.rf
  obtain ⟨g1, g2, g3, g4, g5, g6⟩ := scale_exact p3 q4 p1 (k := k) (by omega) (by omega) (by omega)
  have gn : fNeg (scaleV r k) = false := by rw [scaleV_fin p3 p1, p2]; exact word_neg _ _ _
  have glt := scaleV_lt p3 k
  have ge := expB_normal g4 g3
  have re := expB_normal q4 p1
  obtain ⟨j1, j2, j3, j4, j5, j6⟩ := scale_exact glt g4 g3 (k := -k) (by omega) (by omega) (by omega)
  have jn : fNeg (scaleV (scaleV r k) (-k)) = false := by rw [scaleV_fin glt g3, gn]; exact word_neg _ _ _
  have hback : scaleV (scaleV r k) (-k) = r := by
    have hlt := scaleV_lt glt (-k)
    have a1 : absV (scaleV (scaleV r k) (-k)) = scaleV (scaleV r k) (-k) := by
      have := word_sgn hlt
      rw [jn] at this; exact this.symm
    have hb := absV_lt (scaleV (scaleV r k) (-k))
    rw [a1] at hb
    refine W_eq hb (by have := R.rf; unfold infR at this; omega) ?_
    rw [j5, g5, Rat.mul_assoc, hPP, Rat.mul_one]
  have hR' : hR x = r := by unfold hR; rw [e1, R.eq, hback]
  obtain ⟨n1, n2⟩ := norm_ge hyw (by rw [hyl]; exact hl) hTy
  obtain ⟨c1, c2, c3⟩ := bigR_mem (x := hY x) (hY x).length (i := 0) (m := 0) (fun j _ hj => fin_nan (hTy j (by omega)).1)
  rw [show bigR (hY x) (hY x).length 0 0 = bigV (hY x) from rfl] at c1 c2 c3
  have hsq := norm_err hyw (by rw [hyl]; exact hl) hTy
  rw [hyl] at hsq
  have two : P2 (k + 1) * P2 (-k) = 2 := by rw [← P2_add, show k + 1 + -k = ((1 : Nat) : Int) by omega, P2_nat]; rfl
  refine ⟨by rw [hk]; exact hkb, by rw [hR']; exact R.rf, by rw [hR']; exact R.one, by rw [hR']; exact R.le, fun i hi => (hfacts i hi).1, fun i hi => by rw [hk]; exact (hfacts i hi).2.1, fun i hi => ?_, fun i hi => ?_, fun i hi => ?_, ?_, ?_, ?_⟩
  · rw [hk, sv_of (b := el (hY x) i) rfl, sv_of (b := el x i) rfl, (hfacts i hi).2.1, (hfacts i hi).2.2.1]
    cases fNeg (el x i) <;> simp <;> grind
  · have h3 := c2 i (Nat.zero_le _) (by rw [hyl]; omega)
    unfold hR
    rw [← W_abs (el (hY x) i)]
    exact (W_le (absV_lt _) (by unfold infR at n1; omega)).2 (Nat.le_trans h3 n2)
  · rw [(hfacts i hi).2.1, ← two]
    refine Rat.mul_le_mul_of_nonneg_right ?_ hPk
    have h3 := b2 i (Nat.zero_le _) (by omega)
    have h4 : W (el x i) ≤ W (bigV x) := by
      rw [← W_abs (el x i)]
      exact (W_le (absV_lt _) (by have := R.mf; unfold infR at this; omega)).2 h3
    have hmp : fPow (bigV x) ≠ 2047 := abs_fin (by rw [show absV (bigV x) = bigV x from Nat.mod_eq_of_lt (by have := R.mf; unfold infR at this; omega)]; exact R.mf)
    have hm0 : fMag (bigV x) ≠ 0 := fun h => h0 (W_eq (by have := R.mf; unfold infR at this; omega) (by decide) ((W_zero_of h).trans (W_zero_of (by decide)).symm))
    have h5 := (expB_W hmp hm0).2
    rw [← R.kx] at h5
    exact Rat.le_trans h4 (Rat.le_of_lt h5)
  · exact hsq
  · rw [hR', hk]; exact R.eq.symm
  · by_cases h : fMag (el x 0) = 0
    · have hz : W (el (hY x) 0) = 0 := by rw [(hfacts 0 h1).2.1, W_zero_of h]; grind
      have hz2 : sv (el (hY x) 0) = 0 := sv_zero (mag_of_W hz)
      rw [hz, hz2]; split <;> grind
    · have hj0 := kj0 ((kind_mag _).2 h)
      have : hσ x = fNeg (el (hY x) 0) := by
        unfold hσ
        rw [hj, (hfacts 0 h1).2.2.1]
        show fNeg (el x j) = _
        rw [hj0]
      rw [this]
      exact sv_of rfl
end Go.Proofs.Ytogcdllpjcnbkaa.Dx

namespace Go.Proofs.Ytogcdllpjcnbkaa.Dx
open Go

theorem Re.scale {x y k z : Rat} (h : Re x y k) (hz : 0 ≤ z) : Re (x * z) (y * z) k := by
  obtain ⟨h1, h2⟩ := h
  have p1 := Rat.mul_le_mul_of_nonneg_right h1 hz
  have p2 := Rat.mul_le_mul_of_nonneg_right h2 hz
  exact ⟨by grind, by grind⟩
theorem mag_pos {b : Nat} (h : 0 < W b) : fMag b ≠ 0 := fun hh => by rw [W_zero_of hh] at h; exact absurd h Rat.lt_irrefl
theorem ee1 : 0 ≤ ee ∧ ee ≤ uu * (1 / 1000000000) := ⟨Rat.le_of_lt (P2_pos _), by decide +kernel⟩
/-- A quotient. -/
theorem fl_div {a b : Nat} (ha : a < 18446744073709551616) (hb : b < 18446744073709551616) (fa : fPow a ≠ 2047) (fb : fPow b ≠ 2047) (h0 : fMag b ≠ 0) (h1 : W a ≤ 4 * W b) (hb1 : W b ≤ 16) :
    fPow (divV a b) ≠ 2047 ∧ Er (sv (divV a b) * sv b) (sv a) (W a * (2 * uu) + 16 * ee) ∧ Er (W (divV a b) * W b) (W a) (W a * (2 * uu) + 16 * ee) := by
  obtain ⟨d1, d2, d3, d4, d5⟩ := div_err ha hb fa fb h0 h1 hb1
  have h2 : Er (W (divV a b) * W b) (W a) (W a * (2 * uu) + 16 * ee) := ⟨by grind, by grind⟩
  refine ⟨d1, ?_, h2⟩
  by_cases hz : fMag a = 0
  · rw [sv_zero hz, sv_zero (mag_of_W (d3 hz)), W_zero_of hz]
    have := ee1.1
    exact ⟨by grind, by grind⟩
  · have hs := d2 hz
    rw [sv_of hs, sv_of (b := a) rfl, sv_of (b := b) rfl]
    obtain ⟨h3, h4⟩ := h2
    generalize W (divV a b) = q at *
    generalize W a = p at *
    generalize W b = s at *
    cases fNeg a <;> cases fNeg b <;> simp only [bne_self_eq_false, Bool.false_eq_true, if_true, if_false, Bool.true_bne, Bool.false_bne, Bool.not_false, Bool.not_true] <;> exact ⟨by grind, by grind⟩
section
variable {x : List Nat} (hx : Words x) (h1 : 1 ≤ x.length) (h64 : x.length ≤ 64) (H : HSet x)
include hx h1 h64 H
theorem mu_ok : sv (hMu x) = (if hσ x then W (hR x) else -W (hR x)) ∧ fPow (hMu x) ≠ 2047 ∧ W (hMu x) = W (hR x) ∧ fNeg (hMu x) = !hσ x := by
  obtain ⟨p1, p2, p3, p4⟩ := word_pos H.rf
  obtain ⟨m1, m2, m3, m4⟩ := minus_neg p3
  have hW : W (fMinus (hR x)) = W (hR x) := by unfold W fMag fPl; rw [m2, m3]
  have hdef : hMu x = if hσ x then hR x else fMinus (hR x) := rfl
  rw [hdef]
  cases hσ x
  · simp only [Bool.false_eq_true, if_false]
    exact ⟨by rw [sv_minus p3, sv_pos p2], by rw [m2]; exact p1, hW, by rw [m1, p2]⟩
  · simp only [if_true]
    exact ⟨sv_pos p2, p1, trivial, p2⟩
theorem dd_small : W (el (hY x) 0) + W (hR x) ≤ 32 ∧ 1 ≤ W (el (hY x) 0) + W (hR x) ∧ W (el (hY x) 0) ≤ W (hR x) := by
  have a := H.yle 0 h1
  have b := H.le
  have c := H.one
  have d := W_nonneg (el (hY x) 0)
  exact ⟨by grind, by grind, a⟩
theorem big32 : (32 : Rat) ≤ P2 1023 := by decide +kernel
theorem hD_ok : Fl (hD x) (if hσ x then -(W (el (hY x) 0) + W (hR x)) else W (el (hY x) 0) + W (hR x)) (2 * uu * (W (el (hY x) 0) + W (hR x))) := by
  obtain ⟨m1, m2, m3, m4⟩ := mu_ok hx h1 h64 H
  obtain ⟨d1, d2, d3⟩ := dd_small hx h1 h64 H
  have e : sv (el (hY x) 0) - sv (hMu x) = if hσ x then -(W (el (hY x) 0) + W (hR x)) else W (el (hY x) 0) + W (hR x) := by
    rw [H.s0, m1]; cases hσ x <;> simp <;> grind
  have hAb : Ab (sv (el (hY x) 0) - sv (hMu x)) (W (el (hY x) 0) + W (hR x)) := by
    rw [e]; cases hσ x <;> simp only [Bool.false_eq_true, if_true, if_false] <;> exact ⟨by grind, by grind⟩
  have f := fl_sub (H.yf 0 h1) m2 (hMu_lt hx h1 h64) hAb (Rat.le_trans d1 (big32 hx h1 h64 H))
  rw [e] at f
  refine f.mono ?_
  obtain ⟨n1, n2⟩ := ee1
  have h3 : 1 * uu ≤ (W (el (hY x) 0) + W (hR x)) * uu := Rat.mul_le_mul_of_nonneg_right d2 uu_pos
  generalize W (el (hY x) 0) + W (hR x) = dd at *
  have := uu_pos
  grind
theorem hE_ok : Fl (subV (hMu x) (el (hY x) 0)) (if !hσ x then -(W (el (hY x) 0) + W (hR x)) else W (el (hY x) 0) + W (hR x)) (2 * uu * (W (el (hY x) 0) + W (hR x))) := by
  obtain ⟨m1, m2, m3, m4⟩ := mu_ok hx h1 h64 H
  obtain ⟨d1, d2, d3⟩ := dd_small hx h1 h64 H
  have e : sv (hMu x) - sv (el (hY x) 0) = if !hσ x then -(W (el (hY x) 0) + W (hR x)) else W (el (hY x) 0) + W (hR x) := by
    rw [H.s0, m1]; cases hσ x <;> simp <;> grind
  have hAb : Ab (sv (hMu x) - sv (el (hY x) 0)) (W (el (hY x) 0) + W (hR x)) := by
    rw [e]; cases hσ x <;> simp only [Bool.not_true, Bool.not_false, Bool.false_eq_true, if_true, if_false] <;> exact ⟨by grind, by grind⟩
  have f := fl_sub m2 (H.yf 0 h1) ((hY_words hx h1 h64).el 0) hAb (Rat.le_trans d1 (big32 hx h1 h64 H))
  rw [e] at f
  refine f.mono ?_
  obtain ⟨n1, n2⟩ := ee1
  have h3 : 1 * uu ≤ (W (el (hY x) 0) + W (hR x)) * uu := Rat.mul_le_mul_of_nonneg_right d2 uu_pos
  generalize W (el (hY x) 0) + W (hR x) = dd at *
  have := uu_pos
  grind
theorem hD_W : fNeg (hD x) = hσ x ∧ Re (W (hD x)) (W (el (hY x) 0) + W (hR x)) 2 := by
  have f := hD_ok hx h1 h64 H
  obtain ⟨d1, d2, d3⟩ := dd_small hx h1 h64 H
  refine f.sign ?_
  have h3 : (W (el (hY x) 0) + W (hR x)) * (2 * uu) ≤ (W (el (hY x) 0) + W (hR x)) * (1 / 1000) := Rat.mul_le_mul_of_nonneg_left (by decide +kernel) (by grind)
  generalize W (el (hY x) 0) + W (hR x) = dd at *
  generalize uu = u at *
  grind
theorem hTau_ok : fPow (hTau x) ≠ 2047 ∧ fNeg (hTau x) = false ∧ Re (W (hTau x) * W (hR x)) (W (el (hY x) 0) + W (hR x)) 6 := by
  obtain ⟨m1, m2, m3, m4⟩ := mu_ok hx h1 h64 H
  obtain ⟨d1, d2, d3⟩ := dd_small hx h1 h64 H
  have f := hE_ok hx h1 h64 H
  have h3 : (W (el (hY x) 0) + W (hR x)) * (2 * uu) ≤ (W (el (hY x) 0) + W (hR x)) * (1 / 1000) := Rat.mul_le_mul_of_nonneg_left (by decide +kernel) (by grind)
  obtain ⟨s1, s2⟩ := f.sign (by
    generalize W (el (hY x) 0) + W (hR x) = dd at *
    generalize uu = u at *
    grind)
  have o := H.one
  have hE1 : 1 / 2 ≤ W (subV (hMu x) (el (hY x) 0)) ∧ W (subV (hMu x) (el (hY x) 0)) ≤ 4 * W (hR x) := by
    obtain ⟨a, b⟩ := s2
    generalize W (subV (hMu x) (el (hY x) 0)) = E at *
    generalize W (hR x) = M at *
    generalize W (el (hY x) 0) = Y at *
    generalize uu = u at *
    exact ⟨by grind, by grind⟩
  have hm : fMag (hMu x) ≠ 0 := mag_pos (by rw [m3]; grind)
  have hE0 : fMag (subV (hMu x) (el (hY x) 0)) ≠ 0 := mag_pos (by have := hE1.1; grind)
  obtain ⟨t1, t2, t3, t4, t5⟩ := div_err f.lt (hMu_lt hx h1 h64) f.fin m2 hm (by rw [m3]; exact hE1.2) (by rw [m3]; exact H.le)
  rw [m3] at t4 t5
  refine ⟨t1, by unfold hTau; rw [t2 hE0, s1, m4]; cases hσ x <;> rfl, ?_⟩
  have r1 : Re (W (hTau x) * W (hR x)) (W (subV (hMu x) (el (hY x) 0))) 3 := by
    obtain ⟨n1, n2⟩ := ee1
    have h4 : (1 / 2) * uu ≤ W (subV (hMu x) (el (hY x) 0)) * uu := Rat.mul_le_mul_of_nonneg_right hE1.1 uu_pos
    unfold hTau
    generalize W (divV (subV (hMu x) (el (hY x) 0)) (hMu x)) * W (hR x) = q at *
    generalize W (subV (hMu x) (el (hY x) 0)) = E at *
    have t4' : q ≤ E + E * (2 * uu) + 16 * ee := t4
    have t5' : E ≤ q + E * (2 * uu) + 16 * ee := t5
    have := uu_pos
    exact ⟨by grind, by grind⟩
  have s3 : Re (W (subV (hMu x) (el (hY x) 0))) (W (el (hY x) 0) + W (hR x)) 2 := s2
  exact (r1.trans s3 (by grind) (by decide +kernel) (by decide +kernel) (by decide +kernel)).mono (by decide +kernel) (by grind)
theorem hTau_range : 1 ≤ W (hTau x) + 6 * uu ∧ W (hTau x) ≤ 2 + 12 * uu := by
  obtain ⟨t1, t2, t3, t4⟩ := hTau_ok hx h1 h64 H
  obtain ⟨d1, d2, d3⟩ := dd_small hx h1 h64 H
  have o := H.one
  have y0 := W_nonneg (el (hY x) 0)
  have hM : 0 < W (hR x) := by grind
  constructor
  · refine Rat.le_of_mul_le_mul_right (c := W (hR x)) ?_ hM
    have h6 : W (hR x) * (6 * uu) ≤ (W (el (hY x) 0) + W (hR x)) * (6 * uu) := Rat.mul_le_mul_of_nonneg_right (by grind) (by decide +kernel)
    have h7 : (W (el (hY x) 0)) * (6 * uu) ≤ W (el (hY x) 0) * 1 := Rat.mul_le_mul_of_nonneg_left (by decide +kernel) y0
    have : (W (hTau x) + 6 * uu) * W (hR x) = W (hTau x) * W (hR x) + 6 * uu * W (hR x) := by grind
    rw [this]
    generalize W (hTau x) * W (hR x) = q at *
    generalize W (hR x) = M at *
    generalize W (el (hY x) 0) = Y at *
    generalize uu = u at *
    grind
  · refine Rat.le_of_mul_le_mul_right (c := W (hR x)) ?_ hM
    have h6 : (W (el (hY x) 0) + W (hR x)) * (6 * uu) ≤ (2 * W (hR x)) * (6 * uu) := Rat.mul_le_mul_of_nonneg_right (by grind) (by decide +kernel)
    have : (2 + 12 * uu) * W (hR x) = 2 * W (hR x) + 12 * uu * W (hR x) := by grind
    rw [this]
    generalize W (hTau x) * W (hR x) = q at *
    generalize W (hR x) = M at *
    generalize W (el (hY x) 0) = Y at *
    generalize uu = u at *
    grind
end
end Go.Proofs.Ytogcdllpjcnbkaa.Dx

namespace Go.Proofs.Ytogcdllpjcnbkaa.Dx
open Go

theorem sum_first (p : Nat → Rat) {n : Nat} (h : 1 ≤ n) : sumP p n = p 0 + sumP (fun i => p (1 + i)) (n - 1) := by
  have h1 := sumP_split p 1 (n - 1)
  rw [show 1 + (n - 1) = n by omega] at h1
  rw [h1]
  show 0 + p 0 + _ = _
  grind
section
variable {x : List Nat} (hx : Words x) (h1 : 1 ≤ x.length) (h6 : x.length ≤ 6) (H : HSet x)
include hx h1 h6 H
theorem r_small : W (hR x) ≤ 5 := by
  have hs := H.sq
  have hN : sumA (fun i => W (el (hY x) i)) x.length ≤ 24 := by
    rw [sumA_sumP]
    refine Rat.le_trans (sumP_le (q := fun _ => 4) fun i hi => ?_) ?_
    · have := rat_sq_le (W_nonneg (el (hY x) i)) (H.y2 i hi)
      grind
    · rw [sumP_const]
      have : ((x.length : Nat) : Rat) ≤ ((6 : Nat) : Rat) := Rat.natCast_le_natCast.2 h6
      have e : ((6 : Nat) : Rat) = 6 := rfl
      rw [e] at this
      grind
  obtain ⟨a, b⟩ := hs
  have h3 : 150 * uu * sumA (fun i => W (el (hY x) i)) x.length ≤ 150 * uu * 24 := Rat.mul_le_mul_of_nonneg_left hN (by decide +kernel)
  have h4 : 150 * uu * 24 ≤ 1 := by decide +kernel
  have := Ab.of_sq (x := W (hR x)) (a := 5) (by decide +kernel) (by
    generalize W (hR x) * W (hR x) = z at *
    generalize sumA (fun i => W (el (hY x) i)) x.length = N at *
    generalize uu = u at *
    grind)
  exact this.2
theorem hD_small : W (hD x) ≤ 16 ∧ 1 / 2 ≤ W (hD x) ∧ fMag (hD x) ≠ 0 ∧ fPow (hD x) ≠ 2047 ∧ hD x < 18446744073709551616 := by
  have h64 : x.length ≤ 64 := by omega
  have f := hD_ok hx h1 h64 H
  obtain ⟨n, a, b⟩ := hD_W hx h1 h64 H
  obtain ⟨d1, d2, d3⟩ := dd_small hx h1 h64 H
  have r5 := r_small hx h1 h6 H
  have h3 : 2 * uu * (W (el (hY x) 0) + W (hR x)) ≤ 2 * uu * 32 := Rat.mul_le_mul_of_nonneg_left d1 (by decide +kernel)
  have h4 : 2 * uu * 32 ≤ 1 / 4 := by decide +kernel
  have k1 : 1 / 2 ≤ W (hD x) := by
    generalize W (hD x) = D at *
    generalize W (el (hY x) 0) = Y at *
    generalize W (hR x) = M at *
    generalize uu = u at *
    grind
  refine ⟨?_, k1, mag_pos (by grind), f.fin, f.lt⟩
  generalize W (hD x) = D at *
  generalize W (el (hY x) 0) = Y at *
  generalize W (hR x) = M at *
  generalize uu = u at *
  grind
/-- The mirror's vector, place by place. -/
theorem hV_ok {i : Nat} (hi : i < x.length) : fPow (hVG x i) ≠ 2047 ∧ Er (sv (hVG x i) * sv (hD x)) (sv (el (hY x) i)) (W (el (hY x) i) * (2 * uu) + 16 * ee) ∧ Er (W (hVG x i) * W (hD x)) (W (el (hY x) i)) (W (el (hY x) i) * (2 * uu) + 16 * ee) ∧ W (hVG x i) ≤ 101 / 100 := by
  have h64 : x.length ≤ 64 := by omega
  obtain ⟨s1, s2, s3, s4, s5⟩ := hD_small hx h1 h6 H
  obtain ⟨n, a, b⟩ := hD_W hx h1 h64 H
  obtain ⟨d1, d2, d3⟩ := dd_small hx h1 h64 H
  have hyi := H.yle i hi
  have hy0 := W_nonneg (el (hY x) i)
  have h00 := W_nonneg (el (hY x) 0)
  have o := H.one
  obtain ⟨n1, n2⟩ := ee1
  have h3 : 2 * uu * (W (el (hY x) 0) + W (hR x)) ≤ 1 / 1000 * (W (el (hY x) 0) + W (hR x)) := Rat.mul_le_mul_of_nonneg_right (by decide +kernel) (by grind)
  have hyD : W (el (hY x) i) ≤ 1001 / 1000 * W (hD x) + 1 / 1000 * W (hD x) := by
    generalize W (hD x) = D at *
    generalize W (el (hY x) 0) = Y at *
    generalize W (hR x) = M at *
    generalize uu = u at *
    grind
  obtain ⟨q1, q2, q3⟩ := fl_div ((hY_words hx h1 h64).el i) s5 (H.yf i hi) s4 s3 (by grind) s1
  refine ⟨q1, q2, q3, ?_⟩
  obtain ⟨q4, q5⟩ := q3
  have h4 : W (el (hY x) i) * (2 * uu) ≤ W (el (hY x) i) * (1 / 1000) := Rat.mul_le_mul_of_nonneg_left (by decide +kernel) hy0
  have h5 : 16 * ee ≤ 1 / 10000 := by decide +kernel
  refine Rat.le_of_mul_le_mul_right (c := W (hD x)) ?_ (by grind)
  unfold hVG
  generalize W (divV (el (hY x) i) (hD x)) * W (hD x) = q at *
  generalize W (hD x) = D at *
  generalize W (el (hY x) i) = y at *
  have q4' : q ≤ y + (y * (2 * uu) + 16 * ee) := q4
  generalize uu = u at *
  generalize ee = e at *
  grind
theorem hvv_ok : Re (W (hTau x) * (1 + sumP (fun i => W (hVG x (1 + i)) * W (hVG x (1 + i))) (x.length - 1))) 2 172 := by
  have h64 : x.length ≤ 64 := by omega
  obtain ⟨s1, s2, s3, s4, s5⟩ := hD_small hx h1 h6 H
  obtain ⟨n, hD2⟩ := hD_W hx h1 h64 H
  obtain ⟨d1, d2, d3⟩ := dd_small hx h1 h64 H
  obtain ⟨t1, t2, t3⟩ := hTau_ok hx h1 h64 H
  have o := H.one
  have hsq := H.sq
  have hY0 := W_nonneg (el (hY x) 0)
  obtain ⟨n1, n2⟩ := ee1
  -- squares of the places
  have hA : Er (sumP (fun i => W (hVG x (1 + i)) * W (hVG x (1 + i))) (x.length - 1) * (W (hD x) * W (hD x))) (sumP (fun i => W (el (hY x) (1 + i)) * W (el (hY x) (1 + i))) (x.length - 1)) (5 * uu * sumP (fun i => W (el (hY x) (1 + i)) * W (el (hY x) (1 + i))) (x.length - 1) + ((x.length - 1 : Nat) : Rat) * (80000 * ee)) := by
    rw [← sumP_mulr, ← sumP_mul, ← sumP_const, ← sumP_add]
    refine sumP_er fun i hi => ?_
    obtain ⟨v1, v2, v3, v4⟩ := hV_ok hx h1 h6 H (i := 1 + i) (by omega)
    obtain ⟨e1, e2⟩ := err_sqC (a := W (el (hY x) (1 + i))) (T := W (hVG x (1 + i)) * W (hD x)) (η := 16 * ee) (W_nonneg _) (Rat.le_trans (H.y2 _ (by omega)) (by decide +kernel)) (Rat.mul_nonneg (W_nonneg _) (W_nonneg _)) (by grind) (by
      have : (16 : Rat) * (uu * (1 / 1000000000)) ≤ 1 / 1000000 := by decide +kernel
      grind) (by have := v3.1; grind) (by have := v3.2; grind)
    have e3 : W (hVG x (1 + i)) * W (hD x) * (W (hVG x (1 + i)) * W (hD x)) = W (hVG x (1 + i)) * W (hVG x (1 + i)) * (W (hD x) * W (hD x)) := by grind
    rw [e3] at e1 e2
    generalize W (hVG x (1 + i)) * W (hVG x (1 + i)) * (W (hD x) * W (hD x)) = q at *
    generalize W (el (hY x) (1 + i)) * W (el (hY x) (1 + i)) = y at *
    exact ⟨by grind, by grind⟩
  have hN : sumA (fun i => W (el (hY x) i)) x.length = W (el (hY x) 0) * W (el (hY x) 0) + sumP (fun i => W (el (hY x) (1 + i)) * W (el (hY x) (1 + i))) (x.length - 1) := by
    rw [sumA_sumP, sum_first _ h1]
  have hB0 : 0 ≤ sumP (fun i => W (el (hY x) (1 + i)) * W (el (hY x) (1 + i))) (x.length - 1) := sumP_nonneg fun i _ => Rat.mul_nonneg (W_nonneg _) (W_nonneg _)
  have hV0 : 0 ≤ sumP (fun i => W (hVG x (1 + i)) * W (hVG x (1 + i))) (x.length - 1) := sumP_nonneg fun i _ => Rat.mul_nonneg (W_nonneg _) (W_nonneg _)
  rw [hN] at hsq
  have hnn : ((x.length - 1 : Nat) : Rat) * (80000 * ee) ≤ uu := by
    have a1 : ((x.length - 1 : Nat) : Rat) ≤ ((6 : Nat) : Rat) := Rat.natCast_le_natCast.2 (by omega)
    have a2 : ((6 : Nat) : Rat) = 6 := rfl
    rw [a2] at a1
    have a3 := Rat.mul_le_mul_of_nonneg_right a1 (c := 80000 * ee) (by grind)
    have a4 : (6 : Rat) * (80000 * ee) ≤ uu := by decide +kernel
    exact Rat.le_trans a3 a4
  have hT0 := W_nonneg (hTau x)
  generalize ((x.length - 1 : Nat) : Rat) * (80000 * ee) = tiny at *
  generalize sumP (fun i => W (hVG x (1 + i)) * W (hVG x (1 + i))) (x.length - 1) = V at *
  generalize sumP (fun i => W (el (hY x) (1 + i)) * W (el (hY x) (1 + i))) (x.length - 1) = B at *
  generalize W (hTau x) = T at *
  generalize W (hD x) = Dh at *
  generalize W (el (hY x) 0) = Y at *
  generalize W (hR x) = M at *
  clear hN H hx n s3 s4 s5 t1 t2 n1 n2
  have hdd0 : 0 ≤ Y + M := by grind
  have hd2 := hD2.mul hD2 hdd0 hdd0 (by decide +kernel) (by decide +kernel) (by decide +kernel) (by decide +kernel)
  have hd5 : Re (Dh * Dh) ((Y + M) * (Y + M)) 5 := hd2.mono (by decide +kernel) (Rat.mul_nonneg hdd0 hdd0)
  have hdd1 : 1 ≤ (Y + M) * (Y + M) := by have := rat_sq_le (by decide +kernel) d2; grind
  have R2 : Re ((1 + V) * (Dh * Dh)) ((Y + M) * (Y + M) + B) 6 := by
    obtain ⟨a1, a2⟩ := hd5
    obtain ⟨b1, b2⟩ := hA
    have hu : uu * 1 ≤ uu * ((Y + M) * (Y + M)) := Rat.mul_le_mul_of_nonneg_left hdd1 uu_pos
    have huB : 0 ≤ uu * B := Rat.mul_nonneg uu_pos hB0
    have e : (1 + V) * (Dh * Dh) = Dh * Dh + V * (Dh * Dh) := by grind
    show Er _ _ _
    rw [e]
    generalize V * (Dh * Dh) = q at *
    generalize Dh * Dh = p at *
    generalize (Y + M) * (Y + M) = d at *
    generalize uu = u at *
    exact ⟨by grind, by grind⟩
  have hMM : 0 ≤ M * M := Rat.mul_nonneg (by grind) (by grind)
  have hYM : 0 ≤ Y * M := Rat.mul_nonneg hY0 (by grind)
  have hYY : 0 ≤ Y * Y := Rat.mul_nonneg hY0 hY0
  have R3 : Re ((Y + M) * (Y + M) + B) (2 * M * (Y + M)) 151 := by
    obtain ⟨a1, a2⟩ := (Re.symm hsq (by grind) (by decide +kernel) (by decide +kernel))
    have hu : 0 ≤ uu * (M * M) := Rat.mul_nonneg uu_pos hMM
    have hu2 : 0 ≤ uu * (Y * M) := Rat.mul_nonneg uu_pos hYM
    have e1 : (Y + M) * (Y + M) + B = 2 * (Y * M) + M * M + (Y * Y + B) := by grind
    have e2 : 2 * M * (Y + M) = 2 * (Y * M) + 2 * (M * M) := by grind
    show Er _ _ _
    rw [e1, e2]
    generalize Y * Y + B = N at *
    generalize M * M = m at *
    generalize Y * M = ym at *
    generalize uu = u at *
    exact ⟨by grind, by grind⟩
  have h2Md : 0 ≤ 2 * M * (Y + M) := by
    have e2 : 2 * M * (Y + M) = 2 * (Y * M) + 2 * (M * M) := by grind
    rw [e2]; grind
  have R4 : Re ((1 + V) * (Dh * Dh)) (2 * M * (Y + M)) 158 := (R2.trans R3 h2Md (by decide +kernel) (by decide +kernel) (by decide +kernel)).mono (by decide +kernel) h2Md
  have R5 : Re (T * M * ((1 + V) * (Dh * Dh))) ((Y + M) * (2 * M * (Y + M))) 165 := (t3.mul R4 hdd0 h2Md (by decide +kernel) (by decide +kernel) (by decide +kernel) (by decide +kernel)).mono (by decide +kernel) (Rat.mul_nonneg hdd0 h2Md)
  have R6 : Re ((Y + M) * (Y + M)) (Dh * Dh) 6 := (hd5.symm (by grind) (by decide +kernel) (by decide +kernel)).mono (by decide +kernel) (Rat.mul_nonneg (by grind) (by grind))
  have R7 := R6.scale (z := 2 * M) (by grind)
  have hDD : 0 ≤ Dh * Dh * (2 * M) := Rat.mul_nonneg (Rat.mul_nonneg (by grind) (by grind)) (by grind)
  have e3 : (Y + M) * (2 * M * (Y + M)) = (Y + M) * (Y + M) * (2 * M) := by grind
  rw [e3] at R5
  have R8 := (R5.trans R7 hDD (by decide +kernel) (by decide +kernel) (by decide +kernel)).mono (k' := 172) (by decide +kernel) hDD
  have e4 : T * M * ((1 + V) * (Dh * Dh)) = T * (1 + V) * (M * (Dh * Dh)) := by grind
  have e5 : Dh * Dh * (2 * M) = 2 * (M * (Dh * Dh)) := by grind
  rw [e4, e5] at R8
  exact R8.cancel (Rat.mul_pos (by grind) (Rat.mul_pos (by grind) (by grind)))
end
/-- What a mirror's numbers are. -/
structure MirE (x : List Nat) : Prop where
  ok : mkOk x = true
  tf : fPow (mkTau x) ≠ 2047
  tn : sv (mkTau x) = W (mkTau x)
  t2 : W (mkTau x) ≤ 201 / 100
  vf : ∀ j, j < x.length → fPow (el (mkV x) j) ≠ 2047
  v1 : ∀ j, j < x.length → W (el (mkV x) j) ≤ 101 / 100
  bal : W (mkTau x) = 0 ∨ Re (W (mkTau x) * sumA (fun i => W (el (mkV x) i)) x.length) 2 172
  bf : fPow (mkBeta x) ≠ 2047
theorem hset_ok {x : List Nat} (hx : Words x) (h1 : 1 ≤ x.length) (h64 : x.length ≤ 64) (hT : TameP x 200) (H : HSet x) : W (hBeta x) = W (normV x) ∧ fPow (hBeta x) ≠ 2047 ∧ sv (hBeta x) = sv (hMu x) * P2 (hK x) ∧ absV (hBeta x) = normV x ∧ normV x < infR ∧ fNeg (hBeta x) = fNeg (hMu x) := by
  obtain ⟨m1, m2, m3, m4⟩ := mu_ok hx h1 h64 H
  obtain ⟨q1, q2, q3, q4⟩ := root_exp H.rf H.one H.le
  obtain ⟨p1, p2, p3, p4⟩ := word_pos H.rf
  have hk := H.k
  have mlt := hMu_lt hx h1 h64
  have mf : fMag (hMu x) = fMag (hR x) ∧ fPl (hMu x) = fPl (hR x) ∧ fPow (hMu x) = fPow (hR x) := by
    have hdef : hMu x = if hσ x then hR x else fMinus (hR x) := rfl
    obtain ⟨n1, n2, n3, n4⟩ := minus_neg p3
    rw [hdef]
    split
    · exact ⟨rfl, rfl, rfl⟩
    · exact ⟨by unfold fMag; rw [n2, n3], by unfold fPl; rw [n2], n2⟩
  have me : expB (hMu x) = expB (hR x) := by unfold expB; rw [mf.1, mf.2.1, mf.2.2]
  obtain ⟨g1, g2, g3, g4, g5, g6⟩ := scale_exact mlt (by rw [mf.2.2]; exact q4) m2 (k := hK x) (by omega) (by rw [me]; omega) (by rw [me]; omega)
  obtain ⟨j1, j2, j3, j4, j5, j6⟩ := scale_exact p3 q4 p1 (k := hK x) (by omega) (by omega) (by omega)
  have gn : fNeg (hBeta x) = fNeg (hMu x) := by unfold hBeta; rw [scaleV_fin mlt m2]; exact word_neg _ _ _
  obtain ⟨nf, _⟩ := norm_ge hx h64 (tame_mono hT (by omega))
  have habs : absV (hBeta x) = normV x := by
    unfold hBeta
    rw [g6, mf.1, mf.2.1, ← j6, H.nrm]
    exact Nat.mod_eq_of_lt (by unfold infR at nf; omega)
  have hW : W (hBeta x) = W (normV x) := by rw [← W_abs, habs]
  refine ⟨hW, g3, ?_, habs, nf, gn⟩
  rw [sv_of (b := hBeta x) rfl, sv_of (b := hMu x) rfl, gn]
  unfold hBeta
  rw [g5]
  cases fNeg (hMu x) <;> simp <;> grind
theorem mirE {x : List Nat} (hx : Words x) (h1 : 1 ≤ x.length) (h6 : x.length ≤ 6) (hT : TameP x 200) : MirE x := by
  have h64 : x.length ≤ 64 := by omega
  have one : W 4607182418800017408 = 1 := W_one
  by_cases hn : nouV x = true
  · have e1 : mkTau x = 0 := by unfold mkTau; rw [if_pos hn]
    have e2 : mkBeta x = el x 0 := by unfold mkBeta; rw [if_pos hn]
    have e3 : ∀ j, j < x.length → el (mkV x) j = if j = 0 then 4607182418800017408 else 0 := fun j hj => by
      unfold mkV; rw [if_pos hn, el_mk' hj]; rfl
    refine ⟨by unfold mkOk; rw [hn]; rfl, by rw [e1]; decide, by rw [e1]; exact sv_pos (by decide), by rw [e1, W_zero_of (by decide)]; decide +kernel, fun j hj => ?_, fun j hj => ?_, .inl (by rw [e1]; exact W_zero_of (by decide)), by rw [e2]; exact (hT 0 h1).1⟩
    · rw [e3 j hj]; split <;> decide
    · rw [e3 j hj]; split
      · rw [one]; decide +kernel
      · rw [W_zero_of (by decide)]; decide +kernel
  · have hn' : nouV x = false := by simpa using hn
    have H := hset hx h1 h64 hT hn'
    obtain ⟨b1, b2, b3, b4, b5⟩ := hset_ok hx h1 h64 hT H
    obtain ⟨t1, t2, t3⟩ := hTau_ok hx h1 h64 H
    obtain ⟨t4, t5⟩ := hTau_range hx h1 h64 H
    have e1 : mkTau x = hTau x := by unfold mkTau; rw [if_neg hn]
    have e2 : mkBeta x = hBeta x := by unfold mkBeta; rw [if_neg hn]
    have e3 : ∀ j, j < x.length → el (mkV x) j = if j = 0 then 4607182418800017408 else hVG x j := fun j hj => by
      unfold mkV; rw [if_neg hn, el_mk' hj]; rfl
    refine ⟨?_, by rw [e1]; exact t1, by rw [e1]; exact sv_pos t2, by rw [e1]; exact Rat.le_trans t5 (by decide +kernel), fun j hj => ?_, fun j hj => ?_, .inr ?_, by rw [e2]; exact b2⟩
    · unfold mkOk
      rw [decide_eq_true b2]; simp
    · rw [e3 j hj]; split
      · decide
      · exact (hV_ok hx h1 h6 H hj).1
    · rw [e3 j hj]; split
      · rw [one]; decide +kernel
      · exact (hV_ok hx h1 h6 H hj).2.2.2
    · rw [e1, sumA_sumP, sum_first _ h1, e3 0 h1, if_pos rfl, one, sumP_congr (q := fun i => W (hVG x (1 + i)) * W (hVG x (1 + i))) fun i hi => by rw [e3 (1 + i) (by omega), if_neg (by omega)]]
      have := hvv_ok hx h1 h6 H
      rwa [Rat.one_mul]
end Go.Proofs.Ytogcdllpjcnbkaa.Dx

namespace Go.Proofs.Ytogcdllpjcnbkaa.Dx
open Go

theorem sumP_ab {p : Nat → Rat} {a : Rat} : ∀ {n : Nat}, (∀ i, i < n → Ab (p i) a) → Ab (sumP p n) ((n : Rat) * a)
  | 0, _ => by unfold sumP; simp; exact ⟨by grind, by grind⟩
  | n + 1, h => by
    have h1 := sumP_ab (p := p) (a := a) (n := n) (fun i hi => h i (by omega))
    have h2 := h1.add (h n (by omega))
    unfold sumP
    rw [nat_rat]
    exact h2.mono (by grind)
/-- The exact sum of products. -/
def dotX (v z : List Nat) (n : Nat) : Rat := sumP (fun i => sv (el v i) * sv (el z i)) n
/-- The exact column mirrored. -/
def mirX (v z : List Nat) (tau : Nat) (j : Nat) : Rat := sv (el z j) - sv tau * dotX v z v.length * sv (el v j)
def mirF (v z : List Nat) (tau : Nat) (j : Nat) : Nat := subV (el z j) (mulV (mulV tau (dotV v z)) (el v j))
structure ColOK (v z : List Nat) (tau : Nat) (Z : Rat) : Prop where
  l6 : v.length ≤ 6
  vf : ∀ j, j < v.length → fPow (el v j) ≠ 2047 ∧ W (el v j) ≤ 101 / 100
  zf : ∀ j, j < v.length → fPow (el z j) ≠ 2047 ∧ W (el z j) ≤ Z
  Z1 : P2 (-400) ≤ Z
  Z2 : Z ≤ P2 400
  tf : fPow tau ≠ 2047
  tl : tau < 18446744073709551616
  t2 : W tau ≤ 201 / 100
theorem P2_big2 : P2 400 * 30 ≤ P2 1023 := by decide +kernel
section
variable {v z : List Nat} {tau : Nat} {Z : Rat} (h : ColOK v z tau Z)
include h
theorem col_Z : 0 ≤ Z ∧ 0 ≤ uu * Z ∧ uu * Z ≤ Z * (1 / 1000000) ∧ 0 ≤ ee ∧ ee ≤ uu * Z * (1 / 1000000) ∧ Z * 30 ≤ P2 1023 := by
  have hZ : 0 ≤ Z := Rat.le_trans (Rat.le_of_lt (P2_pos _)) h.Z1
  obtain ⟨n1, n2⟩ := ee_small h.Z1
  refine ⟨hZ, Rat.mul_nonneg uu_pos hZ, ?_, n1, by rw [Rat.mul_comm uu Z]; exact n2, ?_⟩
  · rw [Rat.mul_comm uu Z]
    exact Rat.mul_le_mul_of_nonneg_left (by decide +kernel) hZ
  · have := h.Z2
    have := P2_big2
    grind
theorem nat6 {i : Nat} (hi : i < v.length) : ((i : Nat) : Rat) ≤ 5 ∧ 0 ≤ ((i : Nat) : Rat) := by
  have h6 := h.l6
  have h1 : ((i : Nat) : Rat) ≤ ((5 : Nat) : Rat) := Rat.natCast_le_natCast.2 (by omega)
  exact ⟨h1, Rat.natCast_nonneg⟩
theorem dot_fl : ∀ (m : Nat) {i s : Nat}, i + m = v.length → Fl s (dotX v z i) (8 * (i : Rat) * (uu * Z)) → Fl (dotR v z m i s) (dotX v z v.length) (8 * (v.length : Rat) * (uu * Z))
  | 0, i, s, hi, hs => by
    have : i = v.length := by omega
    subst this; exact hs
  | m + 1, i, s, hi, hs => by
    have hlt : i < v.length := by omega
    refine dot_fl m (i := i + 1) (by omega) ?_
    obtain ⟨z0, z1, z2, n1, n2, z3⟩ := col_Z h
    obtain ⟨i5, i0⟩ := nat6 h hlt
    obtain ⟨v1, v2⟩ := h.vf i hlt
    obtain ⟨w1, w2⟩ := h.zf i hlt
    have av := (sv_ab (el v i)).mono v2
    have az := (sv_ab (el z i)).mono w2
    have ap := av.mul az
    have e1 : 101 / 100 * Z * uu = 101 / 100 * (uu * Z) := by grind
    have p := (fl_mul v1 w1 ap (by grind)).mono (f := 102 / 100 * (uu * Z)) (by rw [e1]; grind)
    have hdx : Ab (dotX v z i) ((i : Rat) * (101 / 100 * Z)) := sumP_ab fun j hj => ((sv_ab (el v j)).mono (h.vf j (by omega)).2).mul ((sv_ab (el z j)).mono (h.zf j (by omega)).2)
    have bs := hs.bound hdx
    have bp := p.bound ap
    have hiZ : (i : Rat) * Z ≤ 5 * Z := Rat.mul_le_mul_of_nonneg_right i5 z0
    have hiu : (i : Rat) * (uu * Z) ≤ 5 * (uu * Z) := Rat.mul_le_mul_of_nonneg_right i5 z1
    have hiu0 : 0 ≤ (i : Rat) * (uu * Z) := Rat.mul_nonneg i0 z1
    have hC : Ab (sv s + sv (mulV (el v i) (el z i))) (62 / 10 * Z) := (bs.add bp).mono (by
      generalize uu = u at *
      grind)
    have e2 : 62 / 10 * Z * uu = 62 / 10 * (uu * Z) := by grind
    have r := hs.add p hC (by grind)
    have hd : dotX v z (i + 1) = dotX v z i + sv (el v i) * sv (el z i) := rfl
    rw [hd]
    refine r.mono ?_
    rw [e2, nat_rat]
    generalize uu * Z = q at *
    grind
theorem col_ok {j : Nat} (hj : j < v.length) : Fl (mirF v z tau j) (mirX v z tau j) (140 * (uu * Z)) ∧ Ab (mirX v z tau j) (135 / 10 * Z) ∧ Ab (dotX v z v.length) (607 / 100 * Z) := by
  obtain ⟨z0, z1, z2, n1, n2, z3⟩ := col_Z h
  have hw := dot_fl h v.length (i := 0) (s := 0) (by omega) ⟨by decide, by decide, by
    rw [sv_zero (by decide)]
    refine Er.mono (Er.refl 0) ?_
    have : ((0 : Nat) : Rat) = 0 := rfl
    rw [this]; grind⟩
  rw [show dotR v z v.length 0 0 = dotV v z from rfl] at hw
  have n6 : ((v.length : Nat) : Rat) ≤ 6 := by
    have : ((v.length : Nat) : Rat) ≤ ((6 : Nat) : Rat) := Rat.natCast_le_natCast.2 h.l6
    exact this
  have n0 : 0 ≤ ((v.length : Nat) : Rat) := Rat.natCast_nonneg
  have hnZ : (v.length : Rat) * Z ≤ 6 * Z := Rat.mul_le_mul_of_nonneg_right n6 z0
  have hnu : (v.length : Rat) * (uu * Z) ≤ 6 * (uu * Z) := Rat.mul_le_mul_of_nonneg_right n6 z1
  have hdx0 : Ab (dotX v z v.length) ((v.length : Rat) * (101 / 100 * Z)) := sumP_ab fun j hj => ((sv_ab (el v j)).mono (h.vf j (by omega)).2).mul ((sv_ab (el z j)).mono (h.zf j (by omega)).2)
  have hdx : Ab (dotX v z v.length) (606 / 100 * Z) := hdx0.mono (by grind)
  have hw : Fl (dotV v z) (dotX v z v.length) (48 * (uu * Z)) := hw.mono (by grind)
  have bw := (hw.bound hdx).mono (b := 607 / 100 * Z) (by
    generalize uu * Z = q at *
    grind)
  have at2 := (sv_ab tau).mono h.t2
  have aC := (at2.mul bw).mono (b := 1221 / 100 * Z) (by grind)
  have e1 : 1221 / 100 * Z * uu = 1221 / 100 * (uu * Z) := by grind
  have t1 := ((Fl.exact h.tl h.tf).mul hw at2 bw aC (by grind)).mono (f := 110 * (uu * Z)) (by rw [e1]; generalize uu * Z = q at *; grind)
  have at1 := (at2.mul hdx).mono (b := 1219 / 100 * Z) (by grind)
  have bt1 := (t1.bound at1).mono (b := 123 / 10 * Z) (by generalize uu * Z = q at *; grind)
  obtain ⟨v1, v2⟩ := h.vf j hj
  have av := (sv_ab (el v j)).mono v2
  have aD := (bt1.mul av).mono (b := 1243 / 100 * Z) (by grind)
  have e2 : 1243 / 100 * Z * uu = 1243 / 100 * (uu * Z) := by grind
  have m1 := fl_mul t1.fin v1 aD (by grind)
  have m2 := t1.er.mul (Er.refl (sv (el v j))) at1 av
  have m3 := (m1.of m2).mono (f := 124 * (uu * Z)) (by rw [e2]; generalize uu * Z = q at *; grind)
  have am := (at1.mul av).mono (b := 1232 / 100 * Z) (by grind)
  have bm := (m3.bound am).mono (b := 124 / 10 * Z) (by generalize uu * Z = q at *; grind)
  obtain ⟨w1, w2⟩ := h.zf j hj
  have az := (sv_ab (el z j)).mono w2
  have aE := (az.sub bm).mono (b := 134 / 10 * Z) (by grind)
  have e3 : 134 / 10 * Z * uu = 134 / 10 * (uu * Z) := by grind
  have s1 := fl_sub w1 m3.fin m3.lt aE (by grind)
  have s2 := (Er.refl (sv (el z j))).sub m3.er
  refine ⟨(s1.of s2).mono (by rw [e3]; generalize uu * Z = q at *; grind), (az.sub am).mono (by grind), hdx.mono (by grind)⟩
end
theorem dot_nought {v z : List Nat} (hv : ∀ j, j < v.length → fPow (el v j) ≠ 2047) (hz : ∀ j, j < v.length → fPow (el z j) ≠ 2047 ∧ W (el z j) = 0) : ∀ (m : Nat) {i s : Nat}, i + m = v.length → fPow s ≠ 2047 → fMag s = 0 → fPow (dotR v z m i s) ≠ 2047 ∧ fMag (dotR v z m i s) = 0
  | 0, _, _, _, h1, h2 => ⟨h1, h2⟩
  | m + 1, i, s, hi, h1, h2 => by
    obtain ⟨a, b⟩ := hz i (by omega)
    obtain ⟨c1, c2, c3⟩ := mul_nought (hv i (by omega)) a (mag_of_W b)
    obtain ⟨d1, d2, d3⟩ := add_nought h1 c2 h2 c3
    exact dot_nought hv hz m (i := i + 1) (by omega) d2 d3
theorem col_nought {v z : List Nat} {tau : Nat} (ht : fPow tau ≠ 2047) (hv : ∀ j, j < v.length → fPow (el v j) ≠ 2047) (hz : ∀ j, j < v.length → fPow (el z j) ≠ 2047 ∧ W (el z j) = 0) {j : Nat} (hj : j < v.length) : fPow (mirF v z tau j) ≠ 2047 ∧ W (mirF v z tau j) = 0 := by
  obtain ⟨a1, a2⟩ := dot_nought hv hz v.length (i := 0) (s := 0) (by omega) (by decide) (by decide)
  rw [show dotR v z v.length 0 0 = dotV v z from rfl] at a1 a2
  obtain ⟨b1, b2, b3⟩ := mul_nought ht a1 a2
  obtain ⟨c1, c2, c3⟩ := mul_nought (hv j hj) b2 b3
  rw [mulV_comm] at c1 c2 c3
  obtain ⟨m1, m2⟩ := minus_fields (b := mulV (mulV tau (dotV v z)) (el v j)) mulV_lt
  obtain ⟨z1, z2⟩ := hz j hj
  obtain ⟨d1, d2, d3⟩ := add_nought (a := el z j) (b := fMinus (mulV (mulV tau (dotV v z)) (el v j))) z1 (by rw [m1]; exact c2) (mag_of_W z2) (by rw [m2]; exact c3)
  exact ⟨d2, W_zero_of d3⟩
theorem apI_at {cl v : List Nat} {r t i c cc : Nat} (hcc : cc < c) : ∀ (n j : Nat) {m : List Nat}, m.length = r * c → i + j + n ≤ r → ∀ a, j ≤ a → a < j + n → el (apI cl v t i c cc n j m) (ps (i + a) c cc) = subV (el cl a) (mulV t (el v a))
  | 0, j, m, _, _, a, h1, h2 => by omega
  | n + 1, j, m, hl, hr, a, h1, h2 => by
    unfold apI
    rcases Nat.eq_or_lt_of_le h1 with h3 | h3
    · subst h3
      have key : ∀ (n' j' : Nat) (m' : List Nat), j < j' → el (apI cl v t i c cc n' j' m') (ps (i + j) c cc) = el m' (ps (i + j) c cc) := by
        intro n'
        induction n' with
        | zero => intro j' m' _; rfl
        | succ n' ih =>
          intro j' m' hj'
          unfold apI
          rw [ih (j' + 1) _ (by omega), el_set, if_neg (fun hh => by have := (ps_inj hcc hcc hh.1).1; omega)]
      rw [key n (j + 1) _ (by omega), el_set, if_pos ⟨rfl, by rw [hl]; exact ps_lt (by omega) hcc⟩]
    · exact apI_at hcc n (j + 1) (by rw [List.length_set, hl]) (by omega) a (by omega) (by omega)
theorem apI_len {cl v : List Nat} {t i c cc : Nat} : ∀ (n j : Nat) (m : List Nat), (apI cl v t i c cc n j m).length = m.length
  | 0, _, _ => rfl
  | n + 1, j, m => by unfold apI; rw [apI_len n, List.length_set]
theorem apO_at {r c : Nat} {x v : List Nat} {tau i : Nat} (hi : i + v.length ≤ r) : ∀ (n cc : Nat) {m : List Nat}, cc + n = c → m.length = r * c → ∀ b, cc ≤ b → b < c → ∀ a, a < v.length → el (apO r c x v tau i n cc m) (ps (i + a) c b) = subV (el (colL r c x b i) a) (mulV (apT r c x v tau i b) (el v a))
  | 0, cc, m, h1, _, b, h2, h3, a, h4 => by omega
  | n + 1, cc, m, h1, hl, b, h2, h3, a, h4 => by
    unfold apO
    rcases Nat.eq_or_lt_of_le h2 with h5 | h5
    · subst h5
      rw [apO_other n (cc + 1) (fun j' cc' h6 h7 hh => by have := (ps_inj (show cc' < c by omega) h3 hh).2; omega)]
      exact apI_at (r := r) h3 v.length 0 hl (by omega) a (by omega) (by omega)
    · exact apO_at hi n (cc + 1) (by omega) (by rw [apI_len, hl]) b (by omega) h3 a h4
theorem apV_at {r c : Nat} {x v : List Nat} {tau i k : Nat} (h : Mx r c x) (hi : i + v.length ≤ r) (hk : k ≤ c) {b : Nat} (hb1 : k ≤ b) (hb : b < c) {a : Nat} (ha : a < v.length) :
    el (apV r c x i k v tau) (ps (i + a) c b) = mirF v ((colL r c x b i).take v.length) tau a := by
  unfold apV
  rw [apO_at hi (c - k) k (by omega) h.len b hb1 hb a ha]
  unfold mirF apT
  rw [el_take ha]
end Go.Proofs.Ytogcdllpjcnbkaa.Dx

namespace Go.Proofs.Ytogcdllpjcnbkaa.Dx
open Go

theorem tame_finV {x : List Nat} {K : Int} (hT : TameP x K) : finV x = true := finV_iff.2 fun k hk => (hT k hk).1
theorem P2_tame {w : Rat} (h : P2 (-200) ≤ w ∧ w ≤ P2 200) : P2 (-400) ≤ w ∧ w ≤ P2 400 := ⟨Rat.le_trans (P2_mono (by omega)) h.1, Rat.le_trans h.2 (P2_mono (by omega))⟩
theorem take_all {z : List Nat} {n : Nat} (h : z.length = n) : z.take n = z := List.take_of_length_le (by omega)
end Go.Proofs.Ytogcdllpjcnbkaa.Dx

namespace Go.Proofs.Ytogcdllpjcnbkaa.Dx
open Go

theorem within_ok {X E Y F : Int} {e T : Nat} (hX : DBs X E e T) (hY : DBs Y F e T) (he : e ≤ 10000000) (hT : T ≤ 10000000) {k : Int} (hk : 0 ≤ k ∧ k ≤ 1000) (h : DV X E ≤ DV Y F * P2 (-(2 * k))) :
    val 186 [dS X E, dL X E, dE X E, dS Y F, dL Y F, dE Y F, Vi k] = some [Vb true] := by
  refine val_of tab186 ?_
  have m1 : (B.mul .i64).den (Vi 2) (Vi k) = Vi (2 * k) := mul_i (by omega) (by omega)
  have s1 : (B.sub .i64).den (Vi 0) (Vi (2 * k)) = Vi (-(2 * k)) := by rw [sub_i (by omega) (by omega)]; exact congrArg Vi (by omega)
  have sc := scaleD_ok (hY.db (by omega) (by omega)) (k := -(2 * k)) (by omega)
  have bsc := hY.scale (k := -(2 * k)) 4000 (by omega)
  have o1 : val 96 [Vi 1] = some [bS 1, bL 1] := of_ok (by omega) (by omega)
  have o2 : val 110 [bS 1, bL 1, Vi (-4000)] = some [dS 1 (-4000), dL 1 (-4000), dE 1 (-4000)] := ofD_ok (by decide) (by omega) (by omega)
  have b1 : DBs 1 (-4000) (e + 4000) (T + 4000) := ⟨by omega, by omega, by rw [show (1 : Int).natAbs = 1 from rfl, show bl 1 = 1 from by decide]; omega⟩
  have ad := addD_ok (bsc.db (by omega) (by omega)) (b1.db (by omega) (by omega))
  have bad := bsc.add b1
  have vad := DV_dadd Y (F + -(2 * k)) 1 (-4000)
  rw [DV_scale] at vad
  have cm := compareD_ok (hX.db (by omega) (by omega)) (bad.db (by omega) (by omega))
  have hc : dcmp X E (dadd Y (F + -(2 * k)) 1 (-4000)) (min (F + -(2 * k)) (-4000)) ≤ 0 := by
    rw [dcmp_le, vad]
    have : 0 ≤ DV 1 (-4000) := by
      unfold DV
      exact Rat.mul_nonneg (by decide) (Rat.le_of_lt (P2_pos _))
    grind
  clear vad bad b1 bsc h hX hY
  generalize dcmp X E (dadd Y (F + -(2 * k)) 1 (-4000)) (min (F + -(2 * k)) (-4000)) = z at *
  generalize dS (dadd Y (F + -(2 * k)) 1 (-4000)) (min (F + -(2 * k)) (-4000)) = a1 at *
  generalize dL (dadd Y (F + -(2 * k)) 1 (-4000)) (min (F + -(2 * k)) (-4000)) = a2 at *
  generalize dE (dadd Y (F + -(2 * k)) 1 (-4000)) (min (F + -(2 * k)) (-4000)) = a3 at *
  generalize dS Y (F + -(2 * k)) = a4 at *
  generalize dL Y (F + -(2 * k)) = a5 at *
  generalize dE Y (F + -(2 * k)) = a6 at *
  generalize dS 1 (-4000) = c1 at *
  generalize dL 1 (-4000) = c2 at *
  generalize dE 1 (-4000) = c3 at *
  generalize bS 1 = c4 at *
  generalize bL 1 = c5 at *
  generalize dS X E = d1 at *
  generalize dL X E = d2 at *
  generalize dE X E = d3 at *
  generalize dS Y F = f1 at *
  generalize dL Y F = f2 at *
  generalize dE Y F = f3 at *
  generalize -(2 * k) = kk at *
  generalize 2 * k = k2 at *
  simp [tr186, TT.dv, m1, s1, sc, o1, o2, ad, cm, hc]
/-- A place of a matrix less a product. -/
def resX (ca : Nat) (a : List Nat) (cb : Nat) (b : List Nat) (rc cc : Nat) (c : List Nat) (i k : Nat) : Rat :=
  sv (el a (ps i ca k)) - sumP (fun j => sv (el b (ps i cb j)) * sv (el c (ps j cc k))) cb
section
variable {ra ca rb cb rc cc : Nat} {a b c : List Nat} (ha : Mx ra ca a) (hb : Mx rb cb b) (hc : Mx rc cc c) (h1 : ra = rb) (h2 : cb = rc) (h3 : ca = cc)
include ha hb hc h1 h2 h3
theorem res_inner {i : Nat} (hi : i < ra) {x10 x11 x12 : PV} : ∀ (n : Nat) {k cnt : Nat} {X E : Int}, k + n = ca → cnt + n ≤ 100 → DBs X E 4400 (4500 + cnt) →
    ∃ X' E', rounds (fun vs => lo182_2.dv (Vi ra :: Vi ca :: Vl a :: Vi rb :: Vi cb :: Vl b :: Vi rc :: Vi cc :: Vl c :: Vi i :: x10 :: x11 :: x12 :: vs)) [Vi k, dS X E, dL X E, dE X E] = some (.y (.ext 2) [dS X' E', dL X' E', dE X' E']) ∧
      DBs X' E' 4400 (4500 + (cnt + n)) ∧ DV X' E' = DV X E + sumP (fun t => resX ca a cb b rc cc c i (k + t) * resX ca a cb b rc cc c i (k + t)) n := by
  intro n
  have hra := ha.hr
  have hca := ha.hc
  have hcb := hb.hc
  induction n with
  | zero =>
    intro k cnt X E hk hcnt hB
    have : k = ca := by omega
    subst this
    refine ⟨X, E, rounds_exit ?_ (by simp), hB, by show _ = _ + (0 : Rat); grind⟩
    simp [lo182_2, TT.dv]
  | succ n ih =>
    intro k cnt X E hk hcnt hB
    have hkc : k < ca := by omega
    have at1 := at_ok ha hi hkc
    have v1 := value_ok (ha.w.el (ps i ca k))
    have rw1 := mrow9_ok hb (i := i) (by omega)
    have cl1 := column9_ok hc (k := k) (f := 0) (by omega) (by omega)
    rw [show ((0 : Nat) : Int) = 0 from rfl] at cl1
    have lr := rowL_len hb (i := i) (by omega)
    have lc : (colL rc cc c k 0).length = rc := by rw [colL_len]; omega
    obtain ⟨D, F, d1, d2, d3⟩ := dot11_ok (rowL_words hb (i := i) (by omega)) (colL_words hc k 0) (by rw [lr, lc]; omega) (by rw [lr]; omega)
    rw [lr] at d2 d3
    have hsum : sumP (fun j => sv (el (rowL cb b i) j) * sv (el (colL rc cc c k 0) j)) cb = sumP (fun j => sv (el b (ps i cb j)) * sv (el c (ps j cc k))) cb := sumP_congr fun j hj => by
      rw [rowL_mk hb (i := i) (by omega), el_mkx hj, el_colL (by omega), Nat.zero_add]
    rw [hsum] at d3
    have sb := subD_ok (DB.word (el a (ps i ca k))) (d2.db (by omega) (by omega))
    have hd := ((DBs.word (el a (ps i ca k))).mono (E' := 2200) (T' := 2200 + 6) (by omega) (by omega)).add (d2.neg.mono (E' := 2200) (T' := 2200 + 6) (by omega) (by omega))
    have vd := DV_dadd (sx (el a (ps i ca k))) (fPl (el a (ps i ca k))) (-D) F
    rw [DV_neg, d3] at vd
    have vd : DV (dadd (sx (el a (ps i ca k))) (fPl (el a (ps i ca k))) (-D) F) (min (fPl (el a (ps i ca k))) F) = resX ca a cb b rc cc c i k := by
      rw [vd]; unfold resX; show sv _ + _ = _; grind
    generalize dadd (sx (el a (ps i ca k))) (fPl (el a (ps i ca k))) (-D) F = G at *
    generalize min (fPl (el a (ps i ca k))) F = g at *
    have mu := mulD_ok (hd.db (by omega) (by omega)) (hd.db (by omega) (by omega))
    have hm := hd.mul hd
    have ad := addD_ok (hB.db (by omega) (by omega)) (hm.db (by omega) (by omega))
    have hB' := hB.add (hm.mono (E' := 4400) (T' := 4500 + cnt) (by omega) (by omega))
    have vad := DV_dadd X E (G * G) (g + g)
    rw [DV_mul, vd] at vad
    generalize dadd X E (G * G) (g + g) = X2 at *
    generalize min E (g + g) = E2 at *
    obtain ⟨X', E', r1, r2, r3⟩ := ih (k := k + 1) (cnt := cnt + 1) (X := X2) (E := E2) (by omega) (by omega) (hB'.mono (by omega) (by omega))
    refine ⟨X', E', Eq.trans (rounds_cont ?_) r1, r2.mono (by omega) (by omega), ?_⟩
    · have e1 : (B.add .i64).den (Vi k) (Vi 1) = Vi (k + 1) := add_i (by omega) (by omega)
      clear r1 r2 r3 ih hB' hm hd hB d2 d3 vad vd hsum
      generalize dS X2 E2 = q1 at *
      generalize dL X2 E2 = q2 at *
      generalize dE X2 E2 = q3 at *
      generalize dS (G * G) (g + g) = q4 at *
      generalize dL (G * G) (g + g) = q5 at *
      generalize dE (G * G) (g + g) = q6 at *
      generalize dS G g = q7 at *
      generalize dL G g = q8 at *
      generalize dE G g = q9 at *
      generalize dS D F = q10 at *
      generalize dL D F = q11 at *
      generalize dE D F = q12 at *
      generalize dS (sx (el a (ps i ca k))) (fPl (el a (ps i ca k))) = q13 at *
      generalize dL (sx (el a (ps i ca k))) (fPl (el a (ps i ca k))) = q14 at *
      generalize dE (sx (el a (ps i ca k))) (fPl (el a (ps i ca k))) = q15 at *
      generalize dS X E = q16 at *
      generalize dL X E = q17 at *
      generalize dE X E = q18 at *
      generalize rowL cb b i = row at *
      generalize colL rc cc c k 0 = col at *
      refine Eq.trans (st_t (by simp [hkc])) ?_
      refine Eq.trans (st_call rfl at1 rfl) ?_
      refine Eq.trans (st_call rfl v1 rfl) ?_
      simp only [List.cons_append, List.nil_append]
      refine Eq.trans (st_call rfl rw1 rfl) ?_
      refine Eq.trans (st_call rfl cl1 rfl) ?_
      simp only [List.cons_append, List.nil_append]
      refine Eq.trans (st_call rfl d1 rfl) ?_
      refine Eq.trans (st_call rfl sb rfl) ?_
      simp only [List.cons_append, List.nil_append]
      refine Eq.trans (st_call rfl mu rfl) ?_
      refine Eq.trans (st_call rfl ad rfl) ?_
      simp only [List.cons_append, List.nil_append]
      simp [TT.dv, e1]
    · rw [r3, vad]
      have hs := sum_first (fun t => resX ca a cb b rc cc c i (k + t) * resX ca a cb b rc cc c i (k + t)) (n := n + 1) (by omega)
      rw [hs, Nat.add_sub_cancel, sumP_congr (p := fun t => resX ca a cb b rc cc c i (k + (1 + t)) * resX ca a cb b rc cc c i (k + (1 + t))) (q := fun t => resX ca a cb b rc cc c i (k + 1 + t) * resX ca a cb b rc cc c i (k + 1 + t)) fun t _ => by rw [Nat.add_assoc]]
      rw [Nat.add_zero]; grind
theorem res_outer : ∀ (n : Nat) {i : Nat} {X E : Int}, i + n = ra → DBs X E 4400 (4500 + i * 6) →
    ∃ X' E', rounds (fun vs => lo182_1.dv (Vi ra :: Vi ca :: Vl a :: Vi rb :: Vi cb :: Vl b :: Vi rc :: Vi cc :: Vl c :: vs)) [Vi i, dS X E, dL X E, dE X E] = some (.y (.ext 0) [dS X' E', dL X' E', dE X' E']) ∧
      DBs X' E' 4400 4600 ∧ DV X' E' = DV X E + sumP (fun t => sumP (fun k => resX ca a cb b rc cc c (i + t) k * resX ca a cb b rc cc c (i + t) k) ca) n := by
  intro n
  have hra := ha.hr
  have hca := ha.hc
  induction n with
  | zero =>
    intro i X E hi hB
    have : i = ra := by omega
    subst this
    refine ⟨X, E, rounds_exit ?_ (by simp), hB.mono (by omega) (by omega), by show _ = _ + (0 : Rat); grind⟩
    simp [lo182_1, TT.dv]
  | succ n ih =>
    intro i X E hi hB
    have hir : i < ra := by omega
    obtain ⟨X2, E2, p1, p2, p3⟩ := res_inner ha hb hc h1 h2 h3 hir (x10 := dS X E) (x11 := dL X E) (x12 := dE X E) ca (k := 0) (cnt := i * 6) (X := X) (E := E) (by omega) (by omega) hB
    rw [show ((0 : Nat) : Int) = 0 from rfl] at p1
    obtain ⟨X', E', r1, r2, r3⟩ := ih (i := i + 1) (X := X2) (E := E2) (by omega) (p2.mono (by omega) (by omega))
    refine ⟨X', E', Eq.trans (rounds_cont ?_) r1, r2, ?_⟩
    · have e1 : (B.add .i64).den (Vi i) (Vi 1) = Vi (i + 1) := add_i (by omega) (by omega)
      clear r1 r2 r3 ih p2 p3 hB
      generalize dS X2 E2 = q1 at *
      generalize dL X2 E2 = q2 at *
      generalize dE X2 E2 = q3 at *
      generalize dS X E = q16 at *
      generalize dL X E = q17 at *
      generalize dE X E = q18 at *
      simp [lo182_1, TT.dv, KS.dv, hir, p1, e1]
    · rw [r3, p3]
      have hs := sum_first (fun t => sumP (fun k => resX ca a cb b rc cc c (i + t) k * resX ca a cb b rc cc c (i + t) k) ca) (n := n + 1) (by omega)
      rw [hs, Nat.add_sub_cancel, sumP_congr (p := fun t => sumP (fun k => resX ca a cb b rc cc c (i + (1 + t)) k * resX ca a cb b rc cc c (i + (1 + t)) k) ca) (q := fun t => sumP (fun k => resX ca a cb b rc cc c (i + 1 + t) k * resX ca a cb b rc cc c (i + 1 + t) k) ca) fun t _ => by rw [Nat.add_assoc],
        sumP_congr (p := fun t => resX ca a cb b rc cc c i (0 + t) * resX ca a cb b rc cc c i (0 + t)) (q := fun k => resX ca a cb b rc cc c (i + 0) k * resX ca a cb b rc cc c (i + 0) k) fun t _ => by rw [Nat.zero_add, Nat.add_zero]]
      grind
theorem res_ok : ∃ X E, val 182 [Vi ra, Vi ca, Vl a, Vi rb, Vi cb, Vl b, Vi rc, Vi cc, Vl c] = some [dS X E, dL X E, dE X E] ∧ DBs X E 4400 4600 ∧ DV X E = sumP (fun i => sumP (fun k => resX ca a cb b rc cc c i k * resX ca a cb b rc cc c i k) ca) ra := by
  obtain ⟨X, E, p1, p2, p3⟩ := res_outer ha hb hc h1 h2 h3 ra (i := 0) (X := 0) (E := 0) (by omega) ⟨by omega, by omega, by rw [show (0 : Int).natAbs = 0 from rfl, bl_zero]; omega⟩
  refine ⟨X, E, val_of tab182 ?_, p2, ?_⟩
  · obtain ⟨z1, z2, z3⟩ := dz
    rw [z1, z2, z3, show ((0 : Nat) : Int) = 0 from rfl, wl_nil_V] at p1
    simp [tr182, TT.dv, KS.dv, p1]
  · rw [p3, show DV 0 0 = 0 from by unfold DV; rw [Rat.intCast_zero]; exact Rat.zero_mul _, sumP_congr (p := fun t => sumP (fun k => resX ca a cb b rc cc c (0 + t) k * resX ca a cb b rc cc c (0 + t) k) ca) (q := fun i => sumP (fun k => resX ca a cb b rc cc c i k * resX ca a cb b rc cc c i k) ca) fun t _ => by rw [Nat.zero_add]]
    grind
end
end Go.Proofs.Ytogcdllpjcnbkaa.Dx
