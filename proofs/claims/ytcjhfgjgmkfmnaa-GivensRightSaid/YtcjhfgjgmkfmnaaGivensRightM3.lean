/- The pure meaning of the functions that the law reaches, and that the law is true of it. No conditions. -/
import Derived.Test.YtcjhfgjgmkfmnaaGivensRightM2
set_option linter.all false
/- The norm's error. -/
namespace Go.Proofs.Ytcjhfgjgmkfmnaa.Dx
open Go

theorem err_step {s A q aa s' c d η : Rat} (hA : 0 ≤ A) (haa : 0 ≤ aa) (hη : 0 ≤ η) (hc : 5 ≤ c) (hc2 : c ≤ 200) (hd : 0 ≤ d) (hd2 : d ≤ 1000)
    (h1 : s ≤ A + c * (1 / 9007199254740992) * A + d * η) (h2 : A ≤ s + c * (1 / 9007199254740992) * A + d * η)
    (h3 : q ≤ aa + 5 * (1 / 9007199254740992) * aa + 12 * η) (h4 : aa ≤ q + 5 * (1 / 9007199254740992) * aa + 12 * η)
    (h5 : s' ≤ (s + q) + (s + q) * (1 / 9007199254740992) + η) (h6 : s + q ≤ s' + (s + q) * (1 / 9007199254740992) + η) :
    s' ≤ (A + aa) + (c + 2) * (1 / 9007199254740992) * (A + aa) + (d + 14) * η ∧ A + aa ≤ s' + (c + 2) * (1 / 9007199254740992) * (A + aa) + (d + 14) * η := by
  have e1 : 5 * aa ≤ c * aa := Rat.mul_le_mul_of_nonneg_right hc haa
  have e2 : c * A ≤ 200 * A := Rat.mul_le_mul_of_nonneg_right hc2 hA
  have e3 : c * aa ≤ 200 * aa := Rat.mul_le_mul_of_nonneg_right hc2 haa
  have e4 : d * η ≤ 1000 * η := Rat.mul_le_mul_of_nonneg_right hd2 hη
  have e5 : 0 ≤ d * η := Rat.mul_nonneg hd hη
  have e6 : 5 * A ≤ c * A := Rat.mul_le_mul_of_nonneg_right hc hA
  constructor <;> grind
def sumA (a : Nat → Rat) : Nat → Rat
  | 0 => 0
  | n + 1 => sumA a n + a n * a n
theorem sumA_nonneg (a : Nat → Rat) : ∀ n, 0 ≤ sumA a n
  | 0 => Rat.le_refl
  | n + 1 => by
    unfold sumA
    have h1 := sumA_nonneg a n
    have h2 := rat_sq_nonneg (a n)
    grind
theorem sumA_ge (a : Nat → Rat) : ∀ {n i : Nat}, i < n → a i * a i ≤ sumA a n
  | 0, _, h => by omega
  | n + 1, i, h => by
    unfold sumA
    have h2 := rat_sq_nonneg (a n)
    rcases Nat.lt_or_eq_of_le (Nat.le_of_lt_succ h) with h3 | h3
    · have h1 := sumA_ge a h3
      grind
    · subst h3
      have h1 := sumA_nonneg a i
      grind
theorem nat_rat (n : Nat) : ((n + 1 : Nat) : Rat) = (n : Rat) + 1 := by rw [Rat.natCast_add]; rfl
/-- A part, and its square. -/
theorem part_err {x : List Nat} {k : Int} (hP : Parts x k) {i : Nat} (hi : i < x.length) (ha2 : W (el x i) * P2 (-k) ≤ 2) :
    let aa := (W (el x i) * P2 (-k)) * (W (el x i) * P2 (-k))
    W (mulV (scaleV (el x i) (-k)) (scaleV (el x i) (-k))) ≤ aa + 5 * (1 / 9007199254740992) * aa + 12 * P2 (-1075) ∧ aa ≤ W (mulV (scaleV (el x i) (-k)) (scaleV (el x i) (-k))) + 5 * (1 / 9007199254740992) * aa + 12 * P2 (-1075) := by
  intro aa
  have hw := hP.w i hi
  have hf := hP.fin i hi
  obtain ⟨q1, q2, q3⟩ := sq_le4 hf (hP.le2 i hi)
  obtain ⟨s1, s2⟩ := sq_part hf
  obtain ⟨n1, n2⟩ := eta_small
  generalize scaleV (el x i) (-k) = t at *
  have hr : nearR (fMag (el x i)) (fPl (el x i) - k) < infR := by rw [← hw]; exact fin_abs hf
  have hD : D (fMag (el x i)) (fPl (el x i) - k) = W (el x i) * P2 (-k) := by rw [Int.sub_eq_add_neg, ← D_shift]; rfl
  have ha0 : 0 ≤ W (el x i) * P2 (-k) := Rat.mul_nonneg (W_nonneg _) (Rat.le_of_lt (P2_pos _))
  obtain ⟨e1, e2⟩ := near_err' hr
  rw [← hw, W_abs, hD] at e1 e2
  obtain ⟨f1, f2⟩ := err_sq ha0 ha2 (W_nonneg t) n1 (by grind) e1 e2
  rw [s1] at q2
  obtain ⟨g1, g2⟩ := near_err' q2
  rw [← s1, s2] at g1 g2
  have h0 := rat_sq_nonneg (W (el x i) * P2 (-k))
  have h1 := rat_sq_nonneg (W t)
  show W (mulV t t) ≤ aa + _ * aa + _ ∧ aa ≤ _ + _ * aa + _
  have haa : aa = (W (el x i) * P2 (-k)) * (W (el x i) * P2 (-k)) := rfl
  rw [← haa] at f1 f2 h0
  clear haa
  generalize W t * W t = TT at *
  constructor <;> grind
theorem sums_err {x : List Nat} {k : Int} (hP : Parts x k) (hl : x.length ≤ 64) (ha2 : ∀ i, i < x.length → W (el x i) * P2 (-k) ≤ 2) : ∀ (n : Nat) {i s : Nat}, i + n = x.length → s < infR → W s ≤ ((4 * i : Nat) : Rat) →
    (W s ≤ sumA (fun i => W (el x i) * P2 (-k)) i + (5 + 2 * (i : Rat)) * (1 / 9007199254740992) * sumA (fun i => W (el x i) * P2 (-k)) i + (14 * (i : Rat)) * P2 (-1075)) →
    (sumA (fun i => W (el x i) * P2 (-k)) i ≤ W s + (5 + 2 * (i : Rat)) * (1 / 9007199254740992) * sumA (fun i => W (el x i) * P2 (-k)) i + (14 * (i : Rat)) * P2 (-1075)) →
    (W (sqrR x k n i s) ≤ sumA (fun i => W (el x i) * P2 (-k)) x.length + (5 + 2 * (x.length : Rat)) * (1 / 9007199254740992) * sumA (fun i => W (el x i) * P2 (-k)) x.length + (14 * (x.length : Rat)) * P2 (-1075)) ∧
    (sumA (fun i => W (el x i) * P2 (-k)) x.length ≤ W (sqrR x k n i s) + (5 + 2 * (x.length : Rat)) * (1 / 9007199254740992) * sumA (fun i => W (el x i) * P2 (-k)) x.length + (14 * (x.length : Rat)) * P2 (-1075)) := by
  intro n
  induction n with
  | zero =>
    intro i s hi hs hW h1 h2
    have : i = x.length := by omega
    subst this
    exact ⟨h1, h2⟩
  | succ n ih =>
    intro i s hi hs hW h1 h2
    unfold sqrR
    have hlt : i < x.length := by omega
    obtain ⟨q1, q2, q3⟩ := sq_le4 (hP.fin i hlt) (hP.le2 i hlt)
    obtain ⟨p1, p2⟩ := part_err hP hlt (ha2 i hlt)
    generalize hq : mulV (scaleV (el x i) (-k)) (scaleV (el x i) (-k)) = q at *
    obtain ⟨N, p, e1, e2⟩ := add_pos hs q2
    obtain ⟨w1, w2⟩ := W_int (c := 4 * (i + 1)) (by omega)
    have hle : addV s q ≤ nearR (4 * (i + 1)) 0 := by
      rw [e1]
      refine near_le w1 ?_
      rw [e2, w2]
      have : ((4 * (i + 1) : Nat) : Rat) = ((4 * i : Nat) : Rat) + 4 := by rw [Nat.mul_add, Rat.natCast_add]; rfl
      rw [this]
      grind
    have hs' : addV s q < infR := Nat.lt_of_le_of_lt hle w1
    have hW' : W (addV s q) ≤ ((4 * (i + 1) : Nat) : Rat) := by
      rw [← w2, W_le (by unfold infR at hs'; omega) (by unfold infR at w1; omega)]; exact hle
    rw [e1] at hs'
    obtain ⟨g1, g2⟩ := near_err' hs'
    rw [← e1, e2] at g1 g2
    rw [← e1] at hs'
    have hi64 : (i : Rat) ≤ 64 := by
      have : (i : Rat) ≤ ((64 : Nat) : Rat) := Rat.natCast_le_natCast.2 (by omega)
      exact this
    have hi0 : (0 : Rat) ≤ i := Rat.natCast_nonneg
    have hst := err_step (s := W s) (A := sumA (fun i => W (el x i) * P2 (-k)) i) (q := W q) (aa := (W (el x i) * P2 (-k)) * (W (el x i) * P2 (-k))) (s' := W (addV s q)) (c := 5 + 2 * (i : Rat)) (d := 14 * (i : Rat)) (η := P2 (-1075))
      (sumA_nonneg _ i) (rat_sq_nonneg _) eta_small.1 (by grind) (by grind) (by grind) (by grind) h1 h2 p1 p2 g1 g2
    have hA : sumA (fun i => W (el x i) * P2 (-k)) i + (W (el x i) * P2 (-k)) * (W (el x i) * P2 (-k)) = sumA (fun i => W (el x i) * P2 (-k)) (i + 1) := rfl
    rw [hA, show (5 + 2 * (i : Rat) + 2) = 5 + 2 * ((i + 1 : Nat) : Rat) by rw [nat_rat]; grind, show (14 * (i : Rat) + 14) = 14 * ((i + 1 : Nat) : Rat) by rw [nat_rat]; grind] at hst
    exact ih (i := i + 1) (s := addV s q) (by omega) hs' hW' hst.1 hst.2
/-! ### a root's error -/
/-- The root, before it is rounded: its square is the number but for two parts in 2^53. -/
theorem stk_sq {N w : Nat} (h : IsRoot N w) (hw : 9007199254740992 ≤ w) : 
    ((stk N w * stk N w : Nat) : Rat) ≤ (4 * N : Nat) + (4 * N : Nat) * (2 * (1 / 9007199254740992)) ∧ ((4 * N : Nat) : Rat) ≤ (stk N w * stk N w : Nat) + (4 * N : Nat) * (2 * (1 / 9007199254740992)) := by
  obtain ⟨h1, h2⟩ := h
  have key : stk N w * stk N w ≤ 4 * N + 4 * w + 1 ∧ 4 * N ≤ stk N w * stk N w + 4 * w + 4 := by
    unfold stk
    by_cases hx : w * w = N
    · rw [decide_eq_false (by simp [hx])]
      have : (2 * w + false.toNat) * (2 * w + false.toNat) = 4 * (w * w) := by
        simp only [Bool.toNat_false, Nat.add_zero]; rw [Nat.mul_mul_mul_comm]
      rw [this, hx]; omega
    · rw [decide_eq_true hx]
      have : (2 * w + true.toNat) * (2 * w + true.toNat) = 4 * (w * w) + 4 * w + 1 := sq_exp w
      rw [this]
      have h3 : (w + 1) * (w + 1) = w * w + 2 * w + 1 := by rw [Nat.add_mul, Nat.mul_add]; omega
      omega
  have hww : 9007199254740992 * w ≤ w * w := Nat.mul_le_mul_right w hw
  have k2 : 9007199254740992 * w ≤ N := Nat.le_trans hww h1
  have r1 : ((stk N w * stk N w : Nat) : Rat) ≤ ((4 * N + 4 * w + 1 : Nat) : Rat) := Rat.natCast_le_natCast.2 key.1
  have r2 : ((4 * N : Nat) : Rat) ≤ ((stk N w * stk N w + 4 * w + 4 : Nat) : Rat) := Rat.natCast_le_natCast.2 key.2
  have r3 : ((9007199254740992 * w : Nat) : Rat) ≤ (N : Rat) := Rat.natCast_le_natCast.2 k2
  have r4 : ((9007199254740992 : Nat) : Rat) ≤ (w : Rat) := Rat.natCast_le_natCast.2 hw
  simp only [Rat.natCast_add, Rat.natCast_mul] at r1 r2 r3 ⊢
  have c1 : ((4 : Nat) : Rat) = 4 := rfl
  have c2 : ((1 : Nat) : Rat) = 1 := rfl
  have c3 : ((9007199254740992 : Nat) : Rat) = 9007199254740992 := rfl
  rw [c3] at r3 r4
  rw [c1] at r1 r2 ⊢
  rw [c2] at r1
  generalize (stk N w : Rat) * (stk N w : Rat) = z at *
  generalize (N : Rat) = n at *
  generalize (w : Rat) = y at *
  constructor <;> grind
end Go.Proofs.Ytcjhfgjgmkfmnaa.Dx

/- Law VectorOrder. -/
namespace Go.Proofs.Ytcjhfgjgmkfmnaa.Dx
open Go

/-- Bounds that sums bear: how low the place is, how high the top. -/
structure DBs (x e : Int) (E T : Nat) : Prop where
  lo : -(E : Int) ≤ e
  hi : e ≤ E
  top : (bl x.natAbs : Int) + e ≤ T
theorem DBs.db {x e : Int} {E T : Nat} (h : DBs x e E T) (h1 : E ≤ 40000000) (h2 : T ≤ 40000000) : DB x e := by
  obtain ⟨a, b, c⟩ := h
  exact ⟨by omega, by omega, by omega⟩
theorem DBs.word (b : Nat) : DBs (sx b) (fPl b) 1100 1100 := by
  have h1 := bl_mag b
  have h2 := fPl_bd b
  exact ⟨by omega, by omega, by omega⟩
theorem DBs.mono {x e : Int} {E T E' T' : Nat} (h : DBs x e E T) (h1 : E ≤ E') (h2 : T ≤ T') : DBs x e E' T' := by
  obtain ⟨a, b, c⟩ := h
  exact ⟨by omega, by omega, by omega⟩
theorem DBs.neg {x e : Int} {E T : Nat} (h : DBs x e E T) : DBs (-x) e E T := by
  obtain ⟨a, b, c⟩ := h
  exact ⟨a, b, by rwa [Int.natAbs_neg]⟩
theorem DBs.mul {x e y f : Int} {E T E' T' : Nat} (h : DBs x e E T) (h' : DBs y f E' T') : DBs (x * y) (e + f) (E + E') (T + T') := by
  obtain ⟨a, b, c⟩ := h
  obtain ⟨a', b', c'⟩ := h'
  have := bl_int_mul x y
  exact ⟨by omega, by omega, by omega⟩
theorem DBs.scale {x e k : Int} {E T : Nat} (h : DBs x e E T) (K : Nat) (hk : -(K : Int) ≤ k ∧ k ≤ K) : DBs x (e + k) (E + K) (T + K) := by
  obtain ⟨a, b, c⟩ := h
  exact ⟨by omega, by omega, by omega⟩
theorem DBs.add {x e y f : Int} {E T : Nat} (h : DBs x e E T) (h' : DBs y f E T) : DBs (dadd x e y f) (min e f) E (T + 1) := by
  obtain ⟨a, b, c⟩ := h
  obtain ⟨a', b', c'⟩ := h'
  have h1 := bl_int_add (x * 2 ^ (e - min e f).toNat) (y * 2 ^ (f - min e f).toNat)
  have h2 := bl_int_shl x (e - min e f).toNat
  have h3 := bl_int_shl y (f - min e f).toNat
  refine ⟨by omega, by omega, ?_⟩
  unfold dadd
  omega
/-- One call of a tree. -/
theorem dv_call {g : Exp} {f : Nat} {xs : List Exp} {n : Nat} {t : TT Unit} {ρ rs : List PV} (hg : g.isTrue ρ = true) (hv : val f (xs.map (Exp.den ρ)) = some rs) (hl : rs.length = n) : (TT.call g f xs n t).dv ρ = t.dv (ρ ++ rs) := by
  simp only [TT.dv, hg, hv, hl, if_true]
theorem dv_skip {g : Exp} {f : Nat} {xs : List Exp} {n : Nat} {t : TT Unit} {ρ : List PV} (hg : g.isTrue ρ = false) : (TT.call g f xs n t).dv ρ = t.dv (ρ ++ List.replicate n default) := by
  simp only [TT.dv, hg, Bool.false_eq_true, if_false]
theorem dv_ite_t {c : Exp} {a b : TT Unit} {ρ : List PV} (hc : c.isTrue ρ = true) : (TT.ite c a b).dv ρ = a.dv ρ := by simp only [TT.dv, hc, if_true]
theorem dv_ite_f {c : Exp} {a b : TT Unit} {ρ : List PV} (hc : c.isTrue ρ = false) : (TT.ite c a b).dv ρ = b.dv ρ := by simp only [TT.dv, hc, Bool.false_eq_true, if_false]
theorem dadd_neg_le {x e y f : Int} (h : DV x e ≤ DV y f) : dadd x e (-y) f ≤ 0 := by
  have h1 := DV_dadd x e (-y) f
  rw [DV_neg] at h1
  have h2 : DV (dadd x e (-y) f) (min e f) ≤ DV 0 (min e f) := by
    rw [h1, show DV 0 (min e f) = 0 by unfold DV; rw [Rat.intCast_zero]; exact Rat.zero_mul _]
    grind
  exact DV_le.1 h2
theorem law_VectorOrder {x y : List Nat} (hx : Words x) (lx : x.length ≤ 17592186043904) (hy : Words y) (ly : y.length ≤ 17592186043904) : val 33 [Vl x, Vl y] = some [Vb true] := by
  refine val_of tab33 ?_
  have d1 := dot_ok hx hy
  have d2 := dot_ok hy hx
  have hc : (if x.length = y.length ∧ x.length ≤ 64 then [Vu (dotV x y), Vi 0] else [Vu 0, Vi 3]) = (if y.length = x.length ∧ y.length ≤ 64 then [Vu (dotV y x), Vi 0] else [Vu 0, Vi 3]) := by
    by_cases h : x.length = y.length ∧ x.length ≤ 64
    · rw [if_pos h, if_pos (by omega)]
      have : dotV x y = dotV y x := by unfold dotV; rw [dotR_comm, h.1]
      rw [this]
    · rw [if_neg h, if_neg (by omega)]
  rw [hc] at d1
  obtain ⟨s, e, hse⟩ : ∃ s : Nat, ∃ e : Int, (if y.length = x.length ∧ y.length ≤ 64 then [Vu (dotV y x), Vi 0] else [Vu 0, Vi 3]) = [Vu s, Vi e] := by split <;> exact ⟨_, _, rfl⟩
  rw [hse] at d1 d2
  have f1 := fits_ok x x
  by_cases hl : x.length ≤ 64
  · rw [if_pos ⟨rfl, hl⟩] at f1
    obtain ⟨b, t1, t2⟩ := tame_ok hx (by omega) (K := 900) (by omega)
    cases b
    · simp [tr33, TT.dv, d1, d2, f1, t1, awake_09]
    · have hT := t2 rfl
      obtain ⟨n1, n2⟩ := norm_ge hx hl hT
      have hn := norm_v_ok hx (by omega)
      rw [if_pos hl] at hn
      have hb := biggest_ok hx (by omega)
      have hmf : bigV x < infR := Nat.lt_of_le_of_lt n2 n1
      generalize normV x = n at *
      generalize bigV x = m at *
      have hi : infR < 9223372036854775808 := by decide
      have lm : m < 18446744073709551616 := by omega
      have ln : n < 18446744073709551616 := by omega
      have ngm : fNeg m = false := by unfold fNeg; simp; omega
      have ngn : fNeg n = false := by unfold fNeg; simp; omega
      have v1 := value_ok lm
      have v2 := value_ok ln
      have hW : W m ≤ W n := (W_le (by omega) (by omega)).2 n2
      have hD : DV (sx m) (fPl m) ≤ DV (sx n) (fPl n) := by rw [DV_sx ngm, DV_sx ngn]; exact hW
      have s1 := subD_ok (DB.word m) (DB.word n)
      have a1 := abs8_ok ln
      rw [show n % 9223372036854775808 = n by omega] at a1
      have c1 := compareD_ok (DB.word n) (DB.word m)
      have c1' : ¬ dcmp (sx n) (fPl n) (sx m) (fPl m) < 0 := by rw [dcmp_lt]; exact fun h => h hD
      have sc := scaleD_ok (DB.word m) (k := -50) (by omega)
      have hd := dadd_neg_le hD
      have dbd := ((DBs.word m).add (DBs.word n).neg).db (by omega) (by omega)
      have dbs := ((DBs.word m).scale (k := -50) 50 (by omega)).db (by omega) (by omega)
      have c2 := compareD_ok dbd dbs
      have c2' : dcmp (dadd (sx m) (fPl m) (-sx n) (fPl n)) (min (fPl m) (fPl n)) (sx m) (fPl m + -50) ≤ 0 := by
        rw [dcmp_le, DV_scale]
        have e1 : DV (dadd (sx m) (fPl m) (-sx n) (fPl n)) (min (fPl m) (fPl n)) ≤ 0 := by
          have := (DV_le (l := min (fPl m) (fPl n))).2 hd
          rwa [show DV 0 (min (fPl m) (fPl n)) = 0 by unfold DV; rw [Rat.intCast_zero]; exact Rat.zero_mul _] at this
        have e2 : 0 ≤ DV (sx m) (fPl m) * P2 (-50) := by
          rw [DV_sx ngm]; exact Rat.mul_nonneg (W_nonneg m) (Rat.le_of_lt (P2_pos _))
        exact Rat.le_trans e1 e2
      generalize dadd (sx m) (fPl m) (-sx n) (fPl n) = d at *
      have es := dS_ok d (min (fPl m) (fPl n))
      obtain ⟨k, ek, ek2⟩ := dL_len d (min (fPl m) (fPl n))
      have hb2 : (!decide (d < 0) && decide (0 < k)) = false := by
        by_cases h : d < 0
        · simp [h]
        · have : k = 0 := ek2.2 (by omega)
          simp [this]
      simp only [es] at s1 c2
      have hb3 : (!decide (d < 0) && decide ((0 : Int) < k)) = false := by
        rw [← hb2]; exact congrArg _ (decide_eq_decide.2 (by omega))
      generalize dcmp (sx n) (fPl n) (sx m) (fPl m) = z1 at *
      generalize dcmp d (min (fPl m) (fPl n)) (sx m) (fPl m + -50) = z2 at *
      generalize dL d (min (fPl m) (fPl n)) = D2 at *
      generalize dE d (min (fPl m) (fPl n)) = D3 at *
      generalize dS (sx m) (fPl m + -50) = S1 at *
      generalize dL (sx m) (fPl m + -50) = S2 at *
      generalize dE (sx m) (fPl m + -50) = S3 at *
      generalize dS (sx m) (fPl m) = M1 at *
      generalize dL (sx m) (fPl m) = M2 at *
      generalize dE (sx m) (fPl m) = M3 at *
      generalize dS (sx n) (fPl n) = N1 at *
      generalize dL (sx n) (fPl n) = N2 at *
      generalize dE (sx n) (fPl n) = N3 at *
      clear hD hd hT hW dbd dbs
      have eg : B.gt.den (U.len.den D2) (Vi 0) = Vb (decide ((k : Int) > 0)) := by rw [ek, gt_i]
      have eg1 : B.lt.den (Vi z1) (Vi 0) = Vb false := by rw [lt_i, decide_eq_false c1']
      have eg2 : B.le.den (Vi z2) (Vi 0) = Vb true := by rw [le_i, decide_eq_true c2']
      have hb4 : (!decide (d < 0) && decide ((k : Int) > 0)) = false := hb3
      clear hb2 hb3 c1' c2' ek ek2 es
      generalize decide (d < 0) = q1 at *
      generalize decide ((k : Int) > 0) = q2 at *
      have eq1 : T3.ite.den (U.not.den (Vb q1)) (Vb q2) (Vb false) = Vb false := by rw [not_b, ite_and, hb4]
      have eq2 : T3.ite.den (T3.ite.den (Vb true) (U.not.den (Vb q1)) (Vb false)) (Vb q2) (Vb false) = Vb false := by rw [ite_true]; exact eq1
      refine Eq.trans (dv_call rfl d1 rfl) ?_
      refine Eq.trans (dv_call rfl d2 rfl) ?_
      refine Eq.trans (dv_ite_f (by simp)) ?_
      refine Eq.trans (dv_call rfl f1 rfl) ?_
      refine Eq.trans (dv_call rfl t1 rfl) ?_
      refine Eq.trans (dv_ite_f rfl) ?_
      refine Eq.trans (dv_call rfl hn rfl) ?_
      refine Eq.trans (dv_call rfl hb rfl) ?_
      refine Eq.trans (dv_call rfl v1 rfl) ?_
      refine Eq.trans (dv_call rfl v2 rfl) ?_
      refine Eq.trans (dv_call rfl s1 rfl) ?_
      refine Eq.trans (dv_call rfl a1 rfl) ?_
      refine Eq.trans (dv_call rfl v2 rfl) ?_
      refine Eq.trans (dv_call rfl v1 rfl) ?_
      refine Eq.trans (dv_call rfl c1 rfl) ?_
      simp only [List.cons_append, List.nil_append]
      refine Eq.trans (dv_call (by simp [-not_b, -lt_i, -gt_i, eg1, eg, eq1]) v1 rfl) ?_
      refine Eq.trans (dv_call (by simp [-not_b, -lt_i, -gt_i, eg1, eg, eq1]) sc rfl) ?_
      refine Eq.trans (dv_call (by simp [-not_b, -lt_i, -gt_i, eg1, eg, eq1]) c2 rfl) ?_
      simp only [List.cons_append, List.nil_append]
      refine Eq.trans (dv_call (by simp [-not_b, -lt_i, -gt_i, -le_i, eg1, eg, eg2, eq1]) awake_09 rfl) ?_
      simp [-not_b, -lt_i, -le_i, -gt_i, TT.dv, eg1, eg2, eg, eq1]
  · rw [if_neg (by simp [hl])] at f1
    simp [tr33, TT.dv, d1, d2, f1, awake_09]
end Go.Proofs.Ytcjhfgjgmkfmnaa.Dx

/- Law VectorSigns. -/
namespace Go.Proofs.Ytcjhfgjgmkfmnaa.Dx
open Go

/-! ### a norm hangs on the numbers without signs -/
theorem bigR_congr {x y : List Nat} : ∀ (n : Nat) {i m : Nat}, (∀ j, i ≤ j → j < i + n → absV (el y j) = absV (el x j)) → bigR y n i m = bigR x n i m
  | 0, _, _, _ => rfl
  | n + 1, i, m, h => by
    unfold bigR
    have h1 := h i (Nat.le_refl _) (by omega)
    have h2 : nanB (el y i) ↔ nanB (el x i) := by rw [← nanB_absV (el y i), h1, nanB_absV]
    rw [h1, bigR_congr n fun j hj hj2 => h j (by omega) (by omega)]
    by_cases c : nanB (el x i)
    · rw [if_pos c, if_pos (h2.2 c)]
    · rw [if_neg c, if_neg (fun hh => c (h2.1 hh))]
theorem sqrR_congr {x y : List Nat} {k l : Int} : ∀ (n : Nat) {i s : Nat}, (∀ j, i ≤ j → j < i + n → mulV (scaleV (el y j) (-l)) (scaleV (el y j) (-l)) = mulV (scaleV (el x j) (-k)) (scaleV (el x j) (-k))) → sqrR y l n i s = sqrR x k n i s
  | 0, _, _, _ => rfl
  | n + 1, i, s, h => by
    unfold sqrR
    rw [h i (Nat.le_refl _) (by omega)]
    exact sqrR_congr n fun j hj hj2 => h j (by omega) (by omega)
theorem sq_abs {t u : Nat} (h1 : fPow t ≠ 2047) (h2 : fPow u ≠ 2047) (h : absV t = absV u) : mulV t t = mulV u u := by
  obtain ⟨a1, a2, a3, a4⟩ := fields_abs t
  obtain ⟨b1, b2, b3, b4⟩ := fields_abs u
  rw [(sq_part h1).1, (sq_part h2).1, ← a1, ← a2, ← b1, ← b2, h]
theorem scale_near {b : Nat} (hb : b < 18446744073709551616) (h : fPow b ≠ 2047) {k : Int} (hk : -2300 ≤ k ∧ k ≤ 2300) : absV (scaleV b k) = nearR (fMag b) (fPl b + k) := by
  rw [scaleV_fin hb h, clamp_id hk, absV_near]
theorem norm_signs {x y : List Nat} (hx : Words x) (hy : Words y) (hl : y.length = x.length) (hT : TameP x 900) (ha : ∀ i, i < x.length → absV (el y i) = absV (el x i)) : normV y = normV x := by
  have hb : bigV y = bigV x := by unfold bigV; rw [hl]; exact bigR_congr _ fun j _ hj => ha j (by omega)
  unfold normV
  rw [hb]
  split
  · rfl
  · rename_i hc
    have hm0 : bigV x ≠ 0 := fun h => hc (.inl h)
    have hmf : fPow (bigV x) ≠ 2047 := fun h => hc (.inr h)
    have hk := expB_bd (bigV x)
    have : sqrV y (expB (bigV x)) = sqrV x (expB (bigV x)) := by
      unfold sqrV
      rw [hl]
      refine sqrR_congr _ fun j _ hj => ?_
      have hj' : j < x.length := by omega
      have f1 := (hT j hj').1
      have f2 : fPow (el y j) ≠ 2047 := by rw [← (fields_abs (el y j)).2.2.1, ha j hj', (fields_abs (el x j)).2.2.1]; exact f1
      have e1 := scale_near (hx.el j) f1 (k := -expB (bigV x)) (by omega)
      have e2 := scale_near (hy.el j) f2 (k := -expB (bigV x)) (by omega)
      rw [← (fields_abs (el y j)).1, ← (fields_abs (el y j)).2.1, ha j hj', (fields_abs (el x j)).1, (fields_abs (el x j)).2.1, ← e1] at e2
      -- finite: the parts
      obtain ⟨b1, b2, b3⟩ := bigR_mem (x := x) x.length (i := 0) (m := 0) (fun j _ hj => fin_nan (hT j (by omega)).1)
      have hw := W_abs (el x j)
      have hle : W (el x j) ≤ W (bigV x) := by
        rw [← W_abs (el x j), W_le (absV_lt _) (bigV_lt x)]
        exact b2 j (Nat.zero_le _) (by omega)
      have hmag : fMag (bigV x) ≠ 0 := fun h => by
        have h1 := (mag_zero (bigV x)).1 h
        have h2 := bigV_lt x
        unfold fPow fFrac at h1; omega
      obtain ⟨w1, w2⟩ := expB_W hmf hmag
      have hR : nearR (fMag (el x j)) (fPl (el x j) + -expB (bigV x)) < infR := by
        have := near_le (n := fMag (el x j)) (p := fPl (el x j) + -expB (bigV x)) (w := 4611686018427387904) (by decide) (by
          rw [W_two, ← D_shift]
          have h1 := Rat.mul_le_mul_of_nonneg_right (Rat.le_trans hle (Rat.le_of_lt w2)) (Rat.le_of_lt (P2_pos (-expB (bigV x))))
          rw [← P2_add, show expB (bigV x) + 1 + -expB (bigV x) = ((1 : Nat) : Int) by omega, P2_nat] at h1
          exact h1)
        exact Nat.lt_of_le_of_lt this (by decide)
      exact sq_abs (abs_fin (by rw [e2, e1]; exact hR)) (abs_fin (by rw [e1]; exact hR)) e2
    rw [this]
/-! ### a norm of numbers times a power of two -/
theorem fPl_eq {w : Nat} (h : fPow w ≠ 0) : fPl w = (fPow w : Int) - 1075 := by unfold fPl; rw [if_neg h]
/-- A word, times a power of two, that stays a normal one. -/
theorem scale_exact {b : Nat} (hb : b < 18446744073709551616) (h0 : fPow b ≠ 0) (h : fPow b ≠ 2047) {k : Int} (hk : -2300 ≤ k ∧ k ≤ 2300) (h1 : -1022 ≤ expB b + k) (h2 : expB b + k ≤ 1023) :
    fMag (scaleV b k) = fMag b ∧ fPl (scaleV b k) = fPl b + k ∧ fPow (scaleV b k) ≠ 2047 ∧ fPow (scaleV b k) ≠ 0 ∧ W (scaleV b k) = W b * P2 k ∧ absV (scaleV b k) = nearR (fMag b) (fPl b + k) := by
  have he := expB_normal h0 h
  have m1 := mag_normal h0
  have hd := (near_normal m1 (fMag_lt b) (e := fPl b + k) (by omega) (by omega) (fNeg b)).1
  have hs : scaleV b k = nearV (fNeg b) (fMag b) (fPl b + k) := by rw [scaleV_fin hb h, clamp_id hk]
  have hw := scale_near hb h hk
  rw [hs, hd]
  obtain ⟨g1, g2, g3, g4⟩ := fields_of (s := fNeg b) (P := (fPl b + k + 1074).toNat) (q := fMag b) (by omega) m1 (fMag_lt b)
  have g5 : fPl (sgn (fNeg b) ((fPl b + k + 1074).toNat * two52 + fMag b)) = fPl b + k := by
    rw [fPl_eq (by rw [g1]; omega), g1]
    omega
  refine ⟨g2, g5, ?_, by rw [g1]; omega, ?_, ?_⟩
  · rw [g1]; clear hd hs hw g1 g2 g3 g4 g5; omega
  · unfold W; rw [g2, g5, D_shift]
  · rw [← hd, absV_near]
theorem absV_zero_of {b : Nat} (h : fMag b = 0) : absV b = 0 := by
  have h1 := (mag_zero b).1 h
  unfold fPow fFrac at h1; unfold absV; omega
theorem W_zero_of {b : Nat} (h : fMag b = 0) : W b = 0 := by unfold W; rw [h, D_zero]
end Go.Proofs.Ytcjhfgjgmkfmnaa.Dx

/- A norm of numbers times a power of two; law VectorSigns. -/
namespace Go.Proofs.Ytcjhfgjgmkfmnaa.Dx
open Go

theorem P2_le_iff {a b : Int} : P2 a ≤ P2 b ↔ a ≤ b := by
  constructor
  · intro h
    rcases Int.lt_or_le b a with h1 | h1
    · have := P2_lt h1; grind
    · exact h1
  · exact P2_mono
theorem W_eq {a b : Nat} (ha : a < 9223372036854775808) (hb : b < 9223372036854775808) (h : W a = W b) : a = b :=
  Nat.le_antisymm ((W_le ha hb).1 (by rw [h]; exact Rat.le_refl)) ((W_le hb ha).1 (by rw [h]; exact Rat.le_refl))
theorem root_exp {r : Nat} (hr : r < infR) (h1 : 1 ≤ W r) (h2 : W r ≤ 16) : fMag r ≠ 0 ∧ 0 ≤ expB r ∧ expB r ≤ 4 ∧ fPow r ≠ 0 := by
  obtain ⟨p1, p2, p3, p4⟩ := word_pos hr
  have h0 : fMag r ≠ 0 := fun h => by rw [W_zero_of h] at h1; grind
  obtain ⟨w1, w2⟩ := expB_W p1 h0
  have e1 : P2 (expB r) ≤ P2 ((4 : Nat) : Int) := by rw [P2_nat]; exact Rat.le_trans w1 h2
  rw [P2_le_iff] at e1
  have e2 : ¬ P2 (expB r + 1) ≤ P2 0 := by rw [P2_zero]; grind
  rw [P2_le_iff] at e2
  exact ⟨h0, by omega, by omega, normal_of_exp p1 h0 (by omega)⟩
theorem tame_mono {x : List Nat} {K K' : Int} (h : TameP x K) (hK : K ≤ K') : TameP x K' := fun i hi => by
  obtain ⟨h1, h2⟩ := h i hi
  refine ⟨h1, ?_⟩
  rcases h2 with h2 | ⟨h2, h3⟩
  · exact .inl h2
  · exact .inr ⟨by omega, by omega⟩
theorem norm_scaled {x z : List Nat} (hx : Words x) (hz : Words z) (hl : x.length ≤ 64) (hlz : z.length = x.length) (hT : TameP x 400) {k : Int} (hk : -400 ≤ k ∧ k ≤ 400) (he : ∀ i, i < x.length → el z i = scaleV (el x i) k) : normV z = scaleV (normV x) k := by
  have hT9 := tame_mono hT (show (400 : Int) ≤ 900 by omega)
  by_cases h0 : bigV x = 0
  · obtain ⟨b1, b2, b3⟩ := bigR_mem (x := x) x.length (i := 0) (m := 0) (fun j _ hj => fin_nan (hT j (by omega)).1)
    have hzero : ∀ i, i < x.length → absV (el x i) = 0 := fun i hi => by
      have := b2 i (Nat.zero_le _) (by omega)
      rw [show bigR x x.length 0 0 = bigV x from rfl, h0] at this
      omega
    have hb : bigV z = bigV x := by
      unfold bigV
      rw [hlz]
      refine bigR_congr _ fun j _ hj => ?_
      have hj' : j < x.length := by omega
      rw [he j hj']
      have hm : fMag (el x j) = 0 := by
        rw [mag_zero]; have := hzero j hj'; unfold absV at this; unfold fPow fFrac; omega
      unfold scaleV
      rw [if_neg (fin_nan (hT j hj').1), if_pos (.inr hm)]
    rw [norm_zero h0, norm_zero (hb.trans h0)]
    unfold scaleV
    rw [if_neg (by decide), if_pos (.inr (by decide))]
  · obtain ⟨e, r, R⟩ := norm_root hx hl hT9 h0
    have hfacts : ∀ i, i < x.length → fPow (el z i) ≠ 2047 ∧ W (el z i) = W (el x i) * P2 k ∧ (fMag (el z i) = 0 ∨ (-900 ≤ expB (el z i) ∧ expB (el z i) < 900)) := fun i hi => by
      obtain ⟨f1, f2⟩ := hT i hi
      rw [he i hi]
      rcases f2 with f2 | f2
      · have : scaleV (el x i) k = el x i := by unfold scaleV; rw [if_neg (fin_nan f1), if_pos (.inr f2)]
        rw [this, W_zero_of f2]
        exact ⟨f1, by grind, .inl f2⟩
      · by_cases hm : fMag (el x i) = 0
        · have : scaleV (el x i) k = el x i := by unfold scaleV; rw [if_neg (fin_nan f1), if_pos (.inr hm)]
          rw [this, W_zero_of hm]
          exact ⟨f1, by grind, .inl hm⟩
        · have hn := normal_of_exp f1 hm (by omega)
          obtain ⟨s1, s2, s3, s4, s5, s6⟩ := scale_exact (hx.el i) hn f1 (k := k) (by omega) (by omega) (by omega)
          refine ⟨s3, s5, .inr ?_⟩
          rw [expB_normal s4 s3, s2]
          have := expB_normal hn f1
          omega
    have hTz : TameP z 900 := fun i hi => ⟨(hfacts i (by omega)).1, (hfacts i (by omega)).2.2⟩
    -- the greatest
    obtain ⟨b1, b2, b3⟩ := bigR_mem (x := x) x.length (i := 0) (m := 0) (fun j _ hj => fin_nan (hT j (by omega)).1)
    obtain ⟨c1, c2, c3⟩ := bigR_mem (x := z) z.length (i := 0) (m := 0) (fun j _ hj => fin_nan (hfacts j (by omega)).1)
    rw [show bigR x x.length 0 0 = bigV x from rfl] at b1 b2 b3
    rw [show bigR z z.length 0 0 = bigV z from rfl] at c1 c2 c3
    obtain ⟨i0, i1, i2⟩ : ∃ i0, i0 < x.length ∧ absV (el x i0) = bigV x := by
      rcases b3 with b3 | ⟨i0, _, i1, i2⟩
      · exact absurd b3 h0
      · exact ⟨i0, by omega, i2⟩
    clear b3
    obtain ⟨m1, m2, m3, m4⟩ := word_pos R.mf
    have hmm : fMag (bigV x) ≠ 0 := by have := mag_normal R.normal; unfold two52 at this; omega
    have hex : -400 ≤ expB (bigV x) ∧ expB (bigV x) < 400 := by
      obtain ⟨f1, f2, f3, f4⟩ := fields_abs (el x i0)
      rw [i2] at f1 f2 f3
      have : expB (bigV x) = expB (el x i0) := by unfold expB; rw [f1, f2, f3]
      rw [this]
      exact (hT i0 i1).2.resolve_left (by rw [← f1]; exact hmm)
    obtain ⟨s1, s2, s3, s4, s5, s6⟩ := scale_exact m3 R.normal m1 (k := k) (by omega) (by omega) (by omega)
    have hWz : W (bigV z) = W (bigV x) * P2 k := by
      have hPk := Rat.le_of_lt (P2_pos k)
      refine Rat.le_antisymm ?_ ?_
      · rcases c3 with c3 | ⟨j, _, j2, j3⟩
        · rw [c3, W_zero_of (by decide)]
          exact Rat.mul_nonneg (W_nonneg _) hPk
        · rw [← j3, W_abs, (hfacts j (by omega)).2.1]
          refine Rat.mul_le_mul_of_nonneg_right ?_ hPk
          rw [← W_abs (el x j), W_le (absV_lt _) (bigV_lt x)]
          exact b2 j (Nat.zero_le _) (by omega)
      · rw [← i2, W_abs, ← (hfacts i0 i1).2.1, ← W_abs, W_le (absV_lt _) (bigV_lt z)]
        exact c2 i0 (Nat.zero_le _) (by omega)
    have hbz : bigV z = absV (scaleV (bigV x) k) := W_eq (bigV_lt z) (absV_lt _) (by rw [hWz, W_abs, s5])
    obtain ⟨a1, a2, a3, a4⟩ := fields_abs (scaleV (bigV x) k)
    have hez : expB (bigV z) = e + k := by
      rw [hbz, expB_normal (by rw [a3]; exact s4) (by rw [a3]; exact s3), a2, s2, R.kx]
      have := expB_normal R.normal m1
      omega
    have hz0 : bigV z ≠ 0 := fun h => by
      have h1 : fMag (bigV z) = fMag (bigV x) := by rw [hbz, a1, s1]
      rw [h] at h1
      exact hmm (by rw [← h1]; decide)
    obtain ⟨e', r', R'⟩ := norm_root hz (by omega) hTz hz0
    have he' : e' = e + k := by rw [R'.kx, hez]
    subst he'
    have hse : sqrV z (e + k) = sqrV x e := by
      unfold sqrV
      rw [hlz]
      refine sqrR_congr _ fun j _ hj => ?_
      have hj' : j < x.length := by omega
      have hj2 : j < z.length := by omega
      have hk1 := R.hk
      have hk2 := R'.hk
      refine sq_abs (R'.parts.fin j hj2) (R.parts.fin j hj') ?_
      rw [R'.parts.w j hj2, R.parts.w j hj']
      refine near_eq ?_
      rw [Int.sub_eq_add_neg, ← D_shift, Int.sub_eq_add_neg, ← D_shift]
      show W (el z j) * _ = W (el x j) * _
      rw [(hfacts j hj').2.1, Rat.mul_assoc, ← P2_add]
      exact congrArg _ (congrArg P2 (by omega))
    have hrr : r' = r := by rw [R'.rx, hse, R.rx]
    subst hrr
    rw [R'.eq, R.eq]
    obtain ⟨p1, p2, p3, p4⟩ := word_pos R.rf
    obtain ⟨q0, q1, q2, q3⟩ := root_exp R.rf R.one R.le
    have hk1 := R.hk
    obtain ⟨t1, t2, t3, t4, t5, t6⟩ := scale_exact p3 q3 p1 (k := e) (by omega) (by omega) (by omega)
    have hng : fNeg (scaleV r' e) = false := by rw [scaleV_fin p3 p1, p2]; exact word_neg _ _ _
    rw [scaleV_fin (scaleV_lt p3 e) t3, hng, t1, t2, scaleV_fin p3 p1, p2, clamp_id (by omega), clamp_id (by omega)]
    exact congrArg _ (by omega)
/-! ### the law -/
def sgnG (x : List Nat) (s : Nat) (i : Nat) : Nat := if s / 2 ^ i % 2 = 1 then fMinus (el x i) else el x i
def scG (x : List Nat) (k : Int) (i : Nat) : Nat := scaleV (el x i) k
theorem signs_loop {x : List Nat} {s : Nat} {kk : Int} {K : Int} {x3 x4 : PV} (hx : Words x) (hl : x.length ≤ 64) (hK : -400 ≤ K ∧ K ≤ 400) (hkk : (B.sub .i64).den ((U.conv .i64).den ((B.rem .u64).den ((U.conv .u64).den (Vi kk)) (Vu 801))) (Vi 400) = Vi K) : ∀ (n : Nat) {i : Nat}, i + n = x.length →
    rounds (fun vs => lo35_1.dv (Vl x :: Vu s :: Vi kk :: x3 :: x4 :: vs)) [Vi i, Vl (mk (scG x K) i), Vl (mk (sgnG x s) i)] = some (.y (.ext 0) [Vl (mk (scG x K) x.length), Vl (mk (sgnG x s) x.length)]) := by
  intro n
  induction n with
  | zero =>
    intro i hi
    have : i = x.length := by omega
    subst this
    refine rounds_exit ?_ (by simp)
    simp [lo35_1, TT.dv]
  | succ n ih =>
    intro i hi
    refine Eq.trans (rounds_cont ?_) (ih (i := i + 1) (by omega))
    have hlt : i < x.length := by omega
    have e1 : (B.add .i64).den (Vi i) (Vi 1) = Vi (i + 1) := add_i (by omega) (by omega)
    have g1 := get_V (x := x) hlt
    have c1 : (U.conv .u64).den (Vi i) = Vu i := by rw [conv_iu (by omega) (by omega)]; rfl
    have c2 : (B.shr .u64).den (Vu s) (Vu i) = Vu (s / 2 ^ i) := by rw [shr_uU, Nat.min_eq_left (by omega)]
    have m1 := minus4_ok (hx.el i)
    have s1 := shift9_ok (hx.el i) (k := K) (by omega) (by omega)
    have a1 := app_V (mk (scG x K) i) (scG x K i)
    rw [mk_succ] at a1
    have a2 := app_V (mk (sgnG x s) i) (sgnG x s i)
    rw [mk_succ] at a2
    have l2 : (i : Int) + 1 ≤ 17592186044416 := by omega
    unfold scG at a1 ⊢
    by_cases c : s / 2 ^ i % 2 = 1
    · have hg : sgnG x s i = fMinus (el x i) := by unfold sgnG; rw [if_pos c]
      rw [hg] at a2
      simp [-shr_u_lit, lo35_1, TT.dv, KS.dv, hlt, e1, g1, c1, c2, c, m1, hkk, s1, a1, a2, l2]
    · have hg : sgnG x s i = el x i := by unfold sgnG; rw [if_neg c]
      rw [hg] at a2
      simp [-shr_u_lit, lo35_1, TT.dv, KS.dv, hlt, e1, g1, c1, c2, c, hkk, s1, a1, a2, l2]
theorem el_mk {g : Nat → Nat} {n i : Nat} (h : i < n) : el (mk g n) i = g i := by
  unfold el mk
  rw [List.getD_eq_getElem?_getD, List.getElem?_map, List.getElem?_range h]; rfl
theorem abs_minus (b : Nat) : absV (fMinus b) = absV b := by
  unfold absV fMinus; split <;> omega
theorem law_VectorSigns {x : List Nat} (hx : Words x) (lx : x.length ≤ 17592186043904) {s : Nat} (hs : s < 18446744073709551616) {kk : Int} (k1 : -9223372036854775808 ≤ kk) (k2 : kk < 9223372036854775808) : val 35 [Vl x, Vu s, Vi kk] = some [Vb true] := by
  refine val_of tab35 ?_
  have f1 := fits_ok x x
  by_cases hl : x.length ≤ 64
  · rw [if_pos ⟨rfl, hl⟩] at f1
    obtain ⟨b, t1, t2⟩ := tame_ok hx (by omega) (K := 400) (by omega)
    cases b
    · simp [tr35, TT.dv, f1, t1, awake_09]
    · have hT := t2 rfl
      obtain ⟨K, hK, hK1⟩ : ∃ K : Int, (B.sub .i64).den ((U.conv .i64).den ((B.rem .u64).den ((U.conv .u64).den (Vi kk)) (Vu 801))) (Vi 400) = Vi K ∧ (-400 ≤ K ∧ K ≤ 400) := by
        have e1 : (U.conv .u64).den (Vi kk) = Vu (kk % 18446744073709551616).toNat := by
          simp only [U.den, PV.int, Vi, Vu, wrap_u64, PV.v.injEq, Value.int.injEq, true_and]; omega
        rw [e1, rem_u, conv_ui (by omega), sub_i (by omega) (by omega)]
        exact ⟨_, rfl, by omega, by omega⟩
      have hlp := fun x3 x4 => signs_loop (s := s) (kk := kk) (x3 := x3) (x4 := x4) hx hl hK1 hK x.length (i := 0) (by omega)
      simp only [show ((0 : Nat) : Int) = 0 from rfl, show ∀ g, mk g 0 = [] from fun _ => rfl] at hlp
      have wz : Words (mk (scG x K) x.length) := mk_words fun i _ => scaleV_lt (hx.el i) K
      have wy : Words (mk (sgnG x s) x.length) := mk_words fun i _ => by
        unfold sgnG; split
        · exact (minus_neg (hx.el i)).2.2.2
        · exact hx.el i
      have n1 := norm_v_ok hx (by omega)
      rw [if_pos hl] at n1
      have n2 := norm_v_ok wy (by simp only [mk_len]; omega)
      rw [if_pos (by simp only [mk_len]; exact hl), norm_signs hx wy (by simp) (tame_mono hT (by omega)) (fun i hi => by
        rw [el_mk hi]; unfold sgnG; split
        · exact abs_minus _
        · rfl)] at n2
      have n3 := norm_v_ok wz (by simp only [mk_len]; omega)
      rw [if_pos (by simp only [mk_len]; exact hl), norm_scaled hx wz hl (by simp) hT hK1 (fun i hi => el_mk hi)] at n3
      have ng := norm_ge hx hl (tame_mono hT (by omega))
      have sf := shift9_ok (b := normV x) (word_pos ng.1).2.2.1 (k := K) (by omega) (by omega)
      generalize mk (scG x K) x.length = Z at *
      generalize mk (sgnG x s) x.length = Y at *
      simp [tr35, TT.dv, KS.dv, f1, t1, hlp, n1, n2, n3, hK, sf, awake_09]
  · rw [if_neg (by simp [hl])] at f1
    simp [tr35, TT.dv, f1, awake_09]
end Go.Proofs.Ytcjhfgjgmkfmnaa.Dx

/- The norm is right but for a part in 2^44; law VectorRight. -/
namespace Go.Proofs.Ytcjhfgjgmkfmnaa.Dx
open Go

theorem err_sqB {a T η : Rat} (ha : 0 ≤ a) (ha2 : a ≤ 1000) (hT : 0 ≤ T) (hη : 0 ≤ η) (hη1 : η ≤ 1 / 1000000) (h1 : T ≤ a + a * (1 / 9007199254740992) + η) (h2 : a ≤ T + a * (1 / 9007199254740992) + η) :
    T * T ≤ a * a + 3 * (1 / 9007199254740992) * (a * a) + 5000 * η ∧ a * a ≤ T * T + 3 * (1 / 9007199254740992) * (a * a) + 5000 * η := by
  have e1 : a * η ≤ 1000 * η := Rat.mul_le_mul_of_nonneg_right ha2 hη
  have e0 : 0 ≤ a * η := Rat.mul_nonneg ha hη
  have e2 : η * η ≤ η := by
    have := Rat.mul_le_mul_of_nonneg_right hη1 hη
    grind
  have e3 := Rat.mul_nonneg hη hη
  have e4 := Rat.mul_nonneg ha ha
  constructor
  · have := rat_sq_le hT h1
    grind
  · have e5 : a * T ≤ a * (a + a * (1 / 9007199254740992) + η) := Rat.mul_le_mul_of_nonneg_left h1 ha
    have e6 : a * a ≤ a * (T + a * (1 / 9007199254740992) + η) := Rat.mul_le_mul_of_nonneg_left h2 ha
    have e7 : T * a ≤ T * (T + a * (1 / 9007199254740992) + η) := Rat.mul_le_mul_of_nonneg_left h2 hT
    have e8 : T * η ≤ (a + a * (1 / 9007199254740992) + η) * η := Rat.mul_le_mul_of_nonneg_right h1 hη
    grind
/-- The root of a number, rounded: its square. -/
theorem root_err {s : Nat} (hs : s < infR) (h1 : 1 / 4 ≤ W s) (h2 : W s ≤ 100000) (hr : sqrtV s < infR) :
    W (sqrtV s) * W (sqrtV s) ≤ W s + 6 * (1 / 9007199254740992) * W s ∧ W s ≤ W (sqrtV s) * W (sqrtV s) + 6 * (1 / 9007199254740992) * W s := by
  obtain ⟨p1, p2, p3, p4⟩ := word_pos hs
  have h0 : fMag s ≠ 0 := fun h => by rw [W_zero_of h] at h1; grind
  have hv : sqrtV s = nearR (sqN (fMag s) (fPl s)) (sqP (fPl s)) := by
    unfold sqrtV
    rw [if_neg (fin_nan p1), p2, if_neg (by
      intro hh
      rcases hh with hh | hh
      · exact h0 hh.1
      · rw [hh] at hs; omega)]
    rfl
  have hS : 110 ≤ sqS (fPl s) ∧ fPl s - sqS (fPl s) = 2 * ((fPl s - sqS (fPl s)) / 2) := by
    unfold sqS
    by_cases h : fPl s % 2 = 0
    · rw [if_pos h]; omega
    · rw [if_neg h]; omega
  have hroot := isq_ok (fMag s * 2 ^ sqS (fPl s))
  have hbig : 9007199254740992 ≤ isq (fMag s * 2 ^ sqS (fPl s)) := root_ge hroot (by
    have h3 : 2 ^ 110 ≤ 2 ^ sqS (fPl s) := Nat.pow_le_pow_right (by omega) hS.1
    have h4 := Nat.mul_le_mul (show 1 ≤ fMag s by omega) h3
    have h5 : (9007199254740992 : Nat) * 9007199254740992 ≤ 2 ^ 110 := by decide
    rw [Nat.one_mul] at h4
    exact Nat.le_trans h5 h4)
  obtain ⟨k1, k2⟩ := stk_sq hroot hbig
  -- its value
  have hW : ((4 * (fMag s * 2 ^ sqS (fPl s)) : Nat) : Rat) * P2 (fPl s - sqS (fPl s) - 2) = W s := by
    have e := D_scale (fMag s) (fPl s) (sqS (fPl s) + 2)
    rw [show fMag s * 2 ^ (sqS (fPl s) + 2) = 4 * (fMag s * 2 ^ sqS (fPl s)) by rw [Nat.pow_add, show (2 : Nat) ^ 2 = 4 from rfl, ← Nat.mul_assoc, Nat.mul_comm], show fPl s - ((sqS (fPl s) + 2 : Nat) : Int) = fPl s - sqS (fPl s) - 2 by omega] at e
    exact e
  have hD : D (sqN (fMag s) (fPl s)) (sqP (fPl s)) * D (sqN (fMag s) (fPl s)) (sqP (fPl s)) = ((stk (fMag s * 2 ^ sqS (fPl s)) (isq (fMag s * 2 ^ sqS (fPl s))) * stk (fMag s * 2 ^ sqS (fPl s)) (isq (fMag s * 2 ^ sqS (fPl s))) : Nat) : Rat) * P2 (fPl s - sqS (fPl s) - 2) := by
    rw [D_mul]
    unfold D
    have e : sqP (fPl s) + sqP (fPl s) = fPl s - sqS (fPl s) - 2 := by unfold sqP; omega
    rw [e]; rfl
  have hP := Rat.le_of_lt (P2_pos (fPl s - sqS (fPl s) - 2))
  have m1 := Rat.mul_le_mul_of_nonneg_right k1 hP
  have m2 := Rat.mul_le_mul_of_nonneg_right k2 hP
  rw [← hD] at m1
  have m1' : D (sqN (fMag s) (fPl s)) (sqP (fPl s)) * D (sqN (fMag s) (fPl s)) (sqP (fPl s)) ≤ W s + W s * (2 * (1 / 9007199254740992)) := by
    rw [← hW]; grind
  have m2' : W s ≤ D (sqN (fMag s) (fPl s)) (sqP (fPl s)) * D (sqN (fMag s) (fPl s)) (sqP (fPl s)) + W s * (2 * (1 / 9007199254740992)) := by
    rw [hD, ← hW]; grind
  rw [hv] at hr ⊢
  obtain ⟨g1, g2⟩ := near_err' hr
  have hv0 := D_nonneg (sqN (fMag s) (fPl s)) (sqP (fPl s))
  generalize D (sqN (fMag s) (fPl s)) (sqP (fPl s)) = v at *
  have hv2 : v ≤ 1000 := by
    rcases Rat.le_total (a := v) (b := 1000) with h | h
    · exact h
    · have := rat_sq_le (by grind) h
      grind
  obtain ⟨n1, n2⟩ := eta_small
  obtain ⟨q1, q2⟩ := err_sqB hv0 hv2 (W_nonneg (nearR (sqN (fMag s) (fPl s)) (sqP (fPl s)))) n1 (by grind) g1 g2
  clear hW hD m1 m2 k1 k2 hroot hbig g1 g2
  generalize W (nearR (sqN (fMag s) (fPl s)) (sqP (fPl s))) = T at *
  generalize W s = w at *
  generalize P2 (-1075) = η at *
  have hT := rat_sq_nonneg T
  generalize T * T = TT at *
  generalize v * v = vv at *
  constructor <;> grind
/-- The exact sum of squares. -/
theorem sumA_scale (x : List Nat) (k : Int) : ∀ n, sumA (fun i => W (el x i) * P2 (-k)) n * (P2 k * P2 k) = sumA (fun i => W (el x i)) n
  | 0 => by unfold sumA; exact Rat.zero_mul _
  | n + 1 => by
    unfold sumA
    rw [Rat.add_mul, sumA_scale x k n]
    have h : P2 (-k) * P2 k = 1 := by rw [← P2_add, show -k + k = 0 by omega, P2_zero]
    have : W (el x n) * P2 (-k) * (W (el x n) * P2 (-k)) * (P2 k * P2 k) = W (el x n) * W (el x n) := by
      have e : W (el x n) * P2 (-k) * (W (el x n) * P2 (-k)) * (P2 k * P2 k) = W (el x n) * W (el x n) * ((P2 (-k) * P2 k) * (P2 (-k) * P2 k)) := by grind
      rw [e, h]; grind
    rw [this]
/-- The norm's square is the sum of squares but for 150 parts in 2^53. -/
theorem norm_err {x : List Nat} (hx : Words x) (hl : x.length ≤ 64) (hT : TameP x 900) :
    W (normV x) * W (normV x) ≤ sumA (fun i => W (el x i)) x.length + 150 * (1 / 9007199254740992) * sumA (fun i => W (el x i)) x.length ∧
    sumA (fun i => W (el x i)) x.length ≤ W (normV x) * W (normV x) + 150 * (1 / 9007199254740992) * sumA (fun i => W (el x i)) x.length := by
  obtain ⟨b1, b2, b3⟩ := bigR_mem (x := x) x.length (i := 0) (m := 0) (fun j _ hj => fin_nan (hT j (by omega)).1)
  rw [show bigR x x.length 0 0 = bigV x from rfl] at b1 b2 b3
  by_cases h0 : bigV x = 0
  · have hz : ∀ i, i < x.length → W (el x i) = 0 := fun i hi => by
      have := b2 i (Nat.zero_le _) (by omega)
      rw [h0] at this
      rw [← W_abs, show absV (el x i) = 0 by omega]
      exact W_zero_of (by decide)
    have hs : ∀ n, n ≤ x.length → sumA (fun i => W (el x i)) n = 0 := by
      intro n
      induction n with
      | zero => intro _; rfl
      | succ n ih => intro h; unfold sumA; rw [ih (by omega), hz n (by omega)]; grind
    rw [norm_zero h0, hs _ (Nat.le_refl _), W_zero_of (by decide)]
    grind
  · obtain ⟨k, r, R⟩ := norm_root hx hl hT h0
    obtain ⟨i0, i1, i2⟩ : ∃ i0, i0 < x.length ∧ absV (el x i0) = bigV x := by
      rcases b3 with b3 | ⟨i0, _, i1, i2⟩
      · exact absurd b3 h0
      · exact ⟨i0, by omega, i2⟩
    clear b3
    obtain ⟨m1, m2, m3, m4⟩ := word_pos R.mf
    have hmm : fMag (bigV x) ≠ 0 := by have := mag_normal R.normal; unfold two52 at this; omega
    obtain ⟨w1, w2⟩ := expB_W m1 hmm
    rw [← R.kx] at w1 w2
    have hPk := Rat.le_of_lt (P2_pos (-k))
    have ha2 : ∀ i, i < x.length → W (el x i) * P2 (-k) ≤ 2 := fun i hi => by
      have hle : W (el x i) ≤ W (bigV x) := by
        rw [← W_abs (el x i), W_le (absV_lt _) (bigV_lt x)]
        exact b2 i (Nat.zero_le _) (by omega)
      have h1 := Rat.mul_le_mul_of_nonneg_right (Rat.le_trans hle (Rat.le_of_lt w2)) hPk
      rw [← P2_add, show k + 1 + -k = ((1 : Nat) : Int) by omega, P2_nat] at h1
      exact h1
    have hone : 1 ≤ W (el x i0) * P2 (-k) := by
      rw [← W_abs, i2]
      have h1 := Rat.mul_le_mul_of_nonneg_right w1 hPk
      rwa [← P2_add, show k + -k = 0 by omega, P2_zero] at h1
    have hA1 : 1 ≤ sumA (fun i => W (el x i) * P2 (-k)) x.length := by
      have h1 := sumA_ge (fun i => W (el x i) * P2 (-k)) i1
      have h2 := rat_sq_le (by grind) hone
      grind
    have z0 : W 0 = 0 := W_zero_of (by decide)
    obtain ⟨s1, s2⟩ := sums_err R.parts hl ha2 x.length (i := 0) (s := 0) (by omega) (by decide) (by rw [z0]; exact Rat.le_refl)
      (by rw [z0]; show (0 : Rat) ≤ 0 + _ * _ * 0 + 14 * ((0 : Nat) : Rat) * _; rw [show ((0 : Nat) : Rat) = 0 from rfl]; grind)
      (by rw [z0]; show (0 : Rat) ≤ 0 + _ * _ * 0 + 14 * ((0 : Nat) : Rat) * _; rw [show ((0 : Nat) : Rat) = 0 from rfl]; grind)
    rw [show sqrR x k x.length 0 0 = sqrV x k from rfl] at s1 s2
    obtain ⟨t1, t2⟩ := R.sums
    obtain ⟨n1, n2⟩ := eta_small
    have hn64 : (x.length : Rat) ≤ 64 := by
      have : (x.length : Rat) ≤ ((64 : Nat) : Rat) := Rat.natCast_le_natCast.2 hl
      exact this
    have hn0 : (0 : Rat) ≤ x.length := Rat.natCast_nonneg
    have hW256 : W (sqrV x k) ≤ 256 := by
      have : ((4 * x.length : Nat) : Rat) ≤ ((256 : Nat) : Rat) := Rat.natCast_le_natCast.2 (by omega)
      exact Rat.le_trans t2 this
    generalize hA : sumA (fun i => W (el x i) * P2 (-k)) x.length = A at *
    generalize (x.length : Rat) = n at *
    have e1 : n * A ≤ 64 * A := Rat.mul_le_mul_of_nonneg_right hn64 (by grind)
    have e2 : n * P2 (-1075) ≤ 64 * P2 (-1075) := Rat.mul_le_mul_of_nonneg_right hn64 n1
    have u1 : W (sqrV x k) ≤ A + 135 * (1 / 9007199254740992) * A := by grind
    have u2 : A ≤ W (sqrV x k) + 135 * (1 / 9007199254740992) * A := by grind
    have hr := R.rf
    rw [R.rx] at hr
    obtain ⟨v1, v2⟩ := root_err t1 (by grind) (by grind) hr
    rw [← R.rx] at v1 v2
    -- the norm itself
    obtain ⟨p1, p2, p3, p4⟩ := word_pos R.rf
    obtain ⟨q0, q1, q2, q3⟩ := root_exp R.rf R.one R.le
    have hk := R.hk
    obtain ⟨c1, c2, c3, c4, c5, c6⟩ := scale_exact p3 q3 p1 (k := k) (by omega) (by omega) (by omega)
    rw [← R.eq] at c5
    have hS := sumA_scale x k x.length
    rw [hA] at hS
    rw [c5, ← hS]
    have f1 : W r * W r ≤ A + 150 * (1 / 9007199254740992) * A := by
      generalize W r * W r = rr at *
      grind
    have f2 : A ≤ W r * W r + 150 * (1 / 9007199254740992) * A := by
      generalize W r * W r = rr at *
      grind
    have hPP := rat_sq_nonneg (P2 k)
    have g1 := Rat.mul_le_mul_of_nonneg_right f1 hPP
    have g2 := Rat.mul_le_mul_of_nonneg_right f2 hPP
    have e3 : W r * P2 k * (W r * P2 k) = W r * W r * (P2 k * P2 k) := by grind
    rw [e3]
    constructor <;> grind
/-! ### the exact sum of squares, as the reference reckons it -/
theorem dz : dS 0 0 = Vb false ∧ dL 0 0 = wl [] ∧ dE 0 0 = Vi 0 := by
  refine ⟨by rw [dS_ok]; rfl, ?_, ?_⟩
  · unfold dL; rw [od_zero]; unfold bL; rw [show (0 : Int).natAbs = 0 from rfl, dig_zero]
  · unfold dE; simp [ev]
theorem W_sx (b : Nat) : DV (sx b) (fPl b) * DV (sx b) (fPl b) = W b * W b := by
  have h : (sx b : Int) * sx b = ((fMag b * fMag b : Nat) : Int) := by unfold sx sg; split <;> simp [Int.neg_mul_neg]
  rw [← DV_mul, h]
  unfold W
  rw [D_mul]
  unfold DV D
  rw [Rat.intCast_natCast]
theorem squares_loop {x : List Nat} (hx : Words x) (hl : x.length ≤ 1000) : ∀ (n : Nat) {i : Nat} {X E : Int}, i + n = x.length → DBs X E 2200 (2200 + i) → DV X E = sumA (fun i => W (el x i)) i →
    ∃ X' E', rounds (fun vs => lo162_1.dv (Vl x :: vs)) [Vi i, dS X E, dL X E, dE X E] = some (.y (.ext 0) [dS X' E', dL X' E', dE X' E']) ∧ DBs X' E' 2200 (2200 + x.length) ∧ DV X' E' = sumA (fun i => W (el x i)) x.length := by
  intro n
  induction n with
  | zero =>
    intro i X E hi hB hv
    have : i = x.length := by omega
    subst this
    refine ⟨X, E, rounds_exit ?_ (by simp), hB, hv⟩
    simp [lo162_1, TT.dv]
  | succ n ih =>
    intro i X E hi hB hv
    have hlt : i < x.length := by omega
    have e1 : (B.add .i64).den (Vi i) (Vi 1) = Vi (i + 1) := add_i (by omega) (by omega)
    have g1 := get_V (x := x) hlt
    have v1 := value_ok (hx.el i)
    have m1 := mulD_ok (DB.word (el x i)) (DB.word (el x i))
    have hm := (DBs.word (el x i)).mul (DBs.word (el x i))
    have a1 := addD_ok (hB.db (by omega) (by omega)) (hm.db (by omega) (by omega))
    have hB' := hB.add (hm.mono (E' := 2200) (T' := 2200 + i) (by omega) (by omega))
    obtain ⟨X', E', h1, h2, h3⟩ := ih (i := i + 1) (X := dadd X E (sx (el x i) * sx (el x i)) (fPl (el x i) + fPl (el x i))) (E := min E (fPl (el x i) + fPl (el x i))) (by omega) hB' (by
      rw [DV_dadd, hv, DV_mul, W_sx]; rfl)
    refine ⟨X', E', Eq.trans (rounds_cont ?_) h1, h2, h3⟩
    simp [lo162_1, TT.dv, hlt, e1, g1, v1, m1, a1]
theorem squares_ok {x : List Nat} (hx : Words x) (hl : x.length ≤ 1000) : ∃ X E, val 162 [Vl x] = some [dS X E, dL X E, dE X E] ∧ DBs X E 2200 (2200 + x.length) ∧ DV X E = sumA (fun i => W (el x i)) x.length := by
  obtain ⟨X, E, h1, h2, h3⟩ := squares_loop hx hl x.length (i := 0) (X := 0) (E := 0) (by omega) ⟨by omega, by omega, by rw [show (0 : Int).natAbs = 0 from rfl, bl_zero]; omega⟩ (by unfold DV sumA; rw [Rat.intCast_zero]; exact Rat.zero_mul _)
  refine ⟨X, E, val_of tab162 ?_, h2, h3⟩
  obtain ⟨z1, z2, z3⟩ := dz
  rw [z1, z2, z3, show ((0 : Nat) : Int) = 0 from rfl, wl_nil_V] at h1
  simp [tr162, TT.dv, KS.dv, h1]
/-- Near: two exact numbers that differ by at most a part in 2^k of the second. -/
theorem near_d_ok {X E Y F : Int} {e T : Nat} (hX : DBs X E e T) (hY : DBs Y F e T) (he : e ≤ 10000000) (hT : T ≤ 10000000) {k : Int} (hk : 0 ≤ k ∧ k ≤ 1000) (h1 : DV X E ≤ DV Y F + DV Y F * P2 (-k)) (h2 : DV Y F ≤ DV X E + DV Y F * P2 (-k)) :
    val 157 [dS X E, dL X E, dE X E, dS Y F, dL Y F, dE Y F, Vi k] = some [Vb true] := by
  refine val_of tab157 ?_
  have s1 := subD_ok (hX.db (by omega) (by omega)) (hY.db (by omega) (by omega))
  have hd := hX.add hY.neg
  have hv := DV_dadd X E (-Y) F
  rw [DV_neg] at hv
  have e1 : (B.sub .i64).den (Vi 0) (Vi k) = Vi (-k) := by rw [sub_i (by omega) (by omega)]; exact congrArg Vi (by omega)
  have sc := scaleD_ok (hY.db (by omega) (by omega)) (k := -k) (by omega)
  have hsc := hY.scale (k := -k) 1000 (by omega)
  have hscd := hsc.db (by omega) (by omega)
  have hvs := DV_scale Y F (-k)
  generalize dadd X E (-Y) F = d at *
  generalize min E F = f at *
  have hng := negD_ok (hd.db (by omega) (by omega))
  have c1 := compareD_ok (hd.db (by omega) (by omega)) hscd
  have c2 := compareD_ok (hd.neg.db (by omega) (by omega)) hscd
  have hs := dS_ok d f
  by_cases hneg : d < 0
  · have hc : dcmp (-d) f Y (F + -k) ≤ 0 := by
      rw [dcmp_le, DV_neg, hv, hvs]; grind
    generalize dcmp (-d) f Y (F + -k) = z at *
    generalize dL d f = d2 at *
    generalize dE d f = d3 at *
    generalize dS (-d) f = n1 at *
    generalize dL (-d) f = n2 at *
    generalize dE (-d) f = n3 at *
    rw [hs, decide_eq_true hneg] at s1 hng
    clear c1 hv hvs hsc hscd hd hs
    simp [tr157, TT.dv, KS.dv, s1, hng, e1, sc, c2, hc]
  · have hc : dcmp d f Y (F + -k) ≤ 0 := by
      rw [dcmp_le, hv, hvs]; grind
    generalize dcmp d f Y (F + -k) = z at *
    generalize dL d f = d2 at *
    generalize dE d f = d3 at *
    rw [hs, decide_eq_false hneg] at s1 c1
    clear c2 hv hvs hsc hscd hd hs hng
    simp [tr157, TT.dv, KS.dv, s1, e1, sc, c1, hc]
theorem law_VectorRight {x : List Nat} (hx : Words x) (lx : x.length ≤ 17592186043904) : val 34 [Vl x] = some [Vb true] := by
  refine val_of tab34 ?_
  have f1 := fits_ok x x
  by_cases hl : x.length ≤ 64
  · rw [if_pos ⟨rfl, hl⟩] at f1
    obtain ⟨b, t1, t2⟩ := tame_ok hx (by omega) (K := 900) (by omega)
    cases b
    · simp [tr34, TT.dv, f1, t1, awake_09]
    · have hT := t2 rfl
      obtain ⟨n1, n2⟩ := norm_ge hx hl hT
      obtain ⟨r1, r2⟩ := norm_err hx hl hT
      have hn := norm_v_ok hx (by omega)
      rw [if_pos hl] at hn
      obtain ⟨X, E, s1, s2, s3⟩ := squares_ok hx (by omega)
      obtain ⟨p1, p2, p3, p4⟩ := word_pos n1
      have p0 := fPow_lt (normV x)
      have g1 := finite4_ok p3
      have g2 := neg4_ok p3
      have v1 := value_ok p3
      have m1 := mulD_ok (DB.word (normV x)) (DB.word (normV x))
      have hS := sumA_nonneg (fun i => W (el x i)) x.length
      have hm := (DBs.word (normV x)).mul (DBs.word (normV x))
      have hu : P2 (-44) = 1 / 17592186044416 := by decide +kernel
      have hne := near_d_ok (k := 44) (hm.mono (E' := 2200) (T' := 2200 + x.length) (by omega) (by omega)) s2 (by omega) (by omega) (by omega)
        (by rw [DV_mul, W_sx, s3, hu]; generalize W (normV x) * W (normV x) = z at *; grind)
        (by rw [DV_mul, W_sx, s3, hu]; generalize W (normV x) * W (normV x) = z at *; grind)
      generalize normV x = n at *
      rw [p2] at g2
      simp [tr34, TT.dv, f1, t1, hn, g1, show fPow n < 2047 by omega, g2, v1, m1, s1, hne, awake_09]
  · rw [if_neg (by simp [hl])] at f1
    simp [tr34, TT.dv, f1, awake_09]
end Go.Proofs.Ytcjhfgjgmkfmnaa.Dx

/- Errors of quotients; a turn's values. -/
namespace Go.Proofs.Ytcjhfgjgmkfmnaa.Dx
open Go

theorem quo_q {m n : Nat} (hm : m ≠ 0) (hn : n ≠ 0) (h : 54 + n.log2 ≥ m.log2) : 2 ^ 53 ≤ m * 2 ^ quoK m n / n := by
  have hk : quoK m n = 54 + n.log2 - m.log2 := rfl
  rw [Nat.le_div_iff_mul_le (Nat.pos_of_ne_zero hn)]
  have h1 := Nat.mul_le_mul_right (2 ^ quoK m n) (Nat.log2_self_le hm)
  rw [← Nat.pow_add] at h1
  have h2 : 2 ^ 53 * n ≤ 2 ^ 53 * 2 ^ (n.log2 + 1) := Nat.mul_le_mul_left _ (Nat.le_of_lt Nat.lt_log2_self)
  rw [← Nat.pow_add] at h2
  rw [show m.log2 + quoK m n = 53 + (n.log2 + 1) by rw [hk]; omega] at h1
  exact Nat.le_trans h2 h1
/-- The quotient's digits: times the divisor they are the dividend but for a part in 2^54. -/
theorem quo_val {m n : Nat} (hm : m ≠ 0) (hn : n ≠ 0) (hm2 : m < 9007199254740992) (i j : Int) :
    D (quoN m n (quoK m n)) (i - j - quoK m n - 1) * D n j ≤ D m i + D m i * (1 / 18014398509481984) ∧ D m i ≤ D (quoN m n (quoK m n)) (i - j - quoK m n - 1) * D n j + D m i * (1 / 18014398509481984) := by
  have hlm : m.log2 ≤ 52 := by have := (Nat.log2_lt hm).2 (show m < 2 ^ 53 from hm2); omega
  have hq := quo_q hm hn (by omega)
  generalize hK : quoK m n = K at *
  have h1 := Nat.div_add_mod (m * 2 ^ K) n
  have h2 := Nat.mod_lt (m * 2 ^ K) (Nat.pos_of_ne_zero hn)
  have key : quoN m n K * n ≤ 2 * (m * 2 ^ K) + n ∧ 2 * (m * 2 ^ K) ≤ quoN m n K * n + n ∧ 18014398509481984 * n ≤ 2 * (m * 2 ^ K) := by
    unfold quoN
    have h3 : 9007199254740992 * n ≤ m * 2 ^ K / n * n := Nat.mul_le_mul_right n hq
    rw [Nat.mul_comm n] at h1
    generalize m * 2 ^ K = M at *
    have e1 : (2 * (M / n) + (decide (M % n ≠ 0)).toNat) * n = 2 * (M / n * n) + (decide (M % n ≠ 0)).toNat * n := by rw [Nat.add_mul, Nat.mul_assoc]
    rw [e1]
    generalize M / n * n = qn at *
    by_cases hr : M % n = 0
    · simp only [hr, ne_eq, not_true_eq_false, decide_false, Bool.toNat_false, Nat.zero_mul]; omega
    · simp only [hr, ne_eq, not_false_eq_true, decide_true, Bool.toNat_true, Nat.one_mul]; omega
  obtain ⟨k1, k2, k3⟩ := key
  have hM : ((2 * (m * 2 ^ K) : Nat) : Rat) * P2 (i - K - 1) = D m i := by
    have e := D_scale m i (K + 1)
    rw [show m * 2 ^ (K + 1) = 2 * (m * 2 ^ K) by rw [Nat.pow_succ, ← Nat.mul_assoc, Nat.mul_comm], show i - ((K + 1 : Nat) : Int) = i - K - 1 by omega] at e
    exact e
  have hQ : D (quoN m n K) (i - j - K - 1) * D n j = ((quoN m n K * n : Nat) : Rat) * P2 (i - K - 1) := by
    rw [D_mul]; unfold D; exact congrArg _ (congrArg P2 (by omega))
  have r1 : ((quoN m n K * n : Nat) : Rat) ≤ ((2 * (m * 2 ^ K) + n : Nat) : Rat) := Rat.natCast_le_natCast.2 k1
  have r2 : ((2 * (m * 2 ^ K) : Nat) : Rat) ≤ ((quoN m n K * n + n : Nat) : Rat) := Rat.natCast_le_natCast.2 k2
  have r3 : ((18014398509481984 * n : Nat) : Rat) ≤ ((2 * (m * 2 ^ K) : Nat) : Rat) := Rat.natCast_le_natCast.2 k3
  rw [Rat.natCast_add] at r1 r2
  rw [Rat.natCast_mul 18014398509481984 n, show ((18014398509481984 : Nat) : Rat) = 18014398509481984 from rfl] at r3
  rw [hQ, ← hM]
  generalize ((quoN m n K * n : Nat) : Rat) = z at *
  generalize ((2 * (m * 2 ^ K) : Nat) : Rat) = y at *
  generalize (n : Rat) = w at *
  have hP := Rat.le_of_lt (P2_pos (i - K - 1))
  have s1 : z ≤ y + y * (1 / 18014398509481984) := by grind
  have s2 : y ≤ z + y * (1 / 18014398509481984) := by grind
  have t1 := Rat.mul_le_mul_of_nonneg_right s1 hP
  have t2 := Rat.mul_le_mul_of_nonneg_right s2 hP
  constructor <;> grind
/-- A quotient of two numbers, rounded. -/
theorem div_err {a b : Nat} (ha : a < 18446744073709551616) (hb : b < 18446744073709551616) (fa : fPow a ≠ 2047) (fb : fPow b ≠ 2047) (h0 : fMag b ≠ 0) (h1 : W a ≤ 4 * W b) (hb1 : W b ≤ 16) :
    fPow (divV a b) ≠ 2047 ∧ (fMag a ≠ 0 → fNeg (divV a b) = (fNeg a != fNeg b)) ∧ (fMag a = 0 → W (divV a b) = 0) ∧
    W (divV a b) * W b ≤ W a + W a * (2 * (1 / 9007199254740992)) + 16 * P2 (-1075) ∧ W a ≤ W (divV a b) * W b + W a * (2 * (1 / 9007199254740992)) + 16 * P2 (-1075) := by
  obtain ⟨n1, n2⟩ := eta_small
  have hWa := W_nonneg a
  have hWb := W_nonneg b
  have zb : ¬ zeroB b := fun h => h0 h.1
  by_cases hz : fMag a = 0
  · have za : zeroB a := (zeroB_mag fa).2 hz
    have hv : divV a b = sgn (fNeg a != fNeg b) 0 := by
      unfold divV
      rw [if_neg (by simp [fin_nan fa, fin_nan fb]), if_neg (fin_inf fa), if_neg (fin_inf fb), if_neg zb, if_pos za]
    have hm : fMag (divV a b) = 0 := by rw [hv]; cases (fNeg a != fNeg b) <;> decide
    have hp : fPow (divV a b) ≠ 2047 := by rw [hv]; cases (fNeg a != fNeg b) <;> decide
    rw [W_zero_of hm, W_zero_of hz]
    exact ⟨hp, fun h => absurd hz h, fun _ => rfl, by grind, by grind⟩
  · have za : ¬ zeroB a := fun h => hz h.1
    have hv : divV a b = nearV (fNeg a != fNeg b) (quoN (fMag a) (fMag b) (quoK (fMag a) (fMag b))) (fPl a - fPl b - quoK (fMag a) (fMag b) - 1) := by
      unfold divV
      rw [if_neg (by simp [fin_nan fa, fin_nan fb]), if_neg (fin_inf fa), if_neg (fin_inf fb), if_neg zb, if_neg za]
    obtain ⟨q1, q2⟩ := quo_val hz h0 (fMag_lt a) (fPl a) (fPl b)
    rw [show D (fMag a) (fPl a) = W a from rfl, show D (fMag b) (fPl b) = W b from rfl] at q1 q2
    generalize hN : quoN (fMag a) (fMag b) (quoK (fMag a) (fMag b)) = N at *
    generalize hE : fPl a - fPl b - quoK (fMag a) (fMag b) - 1 = E at *
    have hbpos : 0 < W b := Rat.mul_pos (by have : 0 < fMag b := Nat.pos_of_ne_zero h0; exact Rat.natCast_pos.2 this) (P2_pos _)
    have hD5 : D N E ≤ 5 := by
      have : D N E * W b ≤ 5 * W b := by grind
      exact Rat.le_of_mul_le_mul_right this hbpos
    have hf : nearR N E < infR := near_fin (by
      have h8 : (8 : Rat) = P2 ((3 : Nat) : Int) := by rw [P2_nat]; rfl
      have : D N E ≤ P2 ((3 : Nat) : Int) := by rw [← h8]; grind
      exact Rat.le_trans this (P2_mono (by omega)))
    obtain ⟨g1, g2⟩ := near_err' hf
    have hWn : W (divV a b) = W (nearR N E) := by rw [hv, ← W_abs, absV_near]
    refine ⟨by rw [hv]; exact fin_near hf, fun _ => by rw [hv]; exact word_neg _ _ _, fun h => absurd h hz, ?_, ?_⟩
    · rw [hWn]
      have m1 := Rat.mul_le_mul_of_nonneg_right g1 hWb
      have m2 : P2 (-1075) * W b ≤ P2 (-1075) * 16 := Rat.mul_le_mul_of_nonneg_left hb1 n1
      grind
    · rw [hWn]
      have m1 := Rat.mul_le_mul_of_nonneg_right g2 hWb
      have m2 : P2 (-1075) * W b ≤ P2 (-1075) * 16 := Rat.mul_le_mul_of_nonneg_left hb1 n1
      grind
end Go.Proofs.Ytcjhfgjgmkfmnaa.Dx

/- A turn's numbers: what they are, but for rounding. -/
namespace Go.Proofs.Ytcjhfgjgmkfmnaa.Dx
open Go

theorem err_sqC {a T η : Rat} (ha : 0 ≤ a) (ha2 : a ≤ 1000) (hT : 0 ≤ T) (hη : 0 ≤ η) (hη1 : η ≤ 1 / 1000000) (h1 : T ≤ a + a * (2 * (1 / 9007199254740992)) + η) (h2 : a ≤ T + a * (2 * (1 / 9007199254740992)) + η) :
    T * T ≤ a * a + 5 * (1 / 9007199254740992) * (a * a) + 5000 * η ∧ a * a ≤ T * T + 5 * (1 / 9007199254740992) * (a * a) + 5000 * η := by
  have e1 : a * η ≤ 1000 * η := Rat.mul_le_mul_of_nonneg_right ha2 hη
  have e0 : 0 ≤ a * η := Rat.mul_nonneg ha hη
  have e2 : η * η ≤ η := by
    have := Rat.mul_le_mul_of_nonneg_right hη1 hη
    grind
  have e3 := Rat.mul_nonneg hη hη
  have e4 := Rat.mul_nonneg ha ha
  constructor
  · have := rat_sq_le hT h1
    grind
  · have e5 : a * T ≤ a * (a + a * (2 * (1 / 9007199254740992)) + η) := Rat.mul_le_mul_of_nonneg_left h1 ha
    have e6 : a * a ≤ a * (T + a * (2 * (1 / 9007199254740992)) + η) := Rat.mul_le_mul_of_nonneg_left h2 ha
    have e7 : T * a ≤ T * (T + a * (2 * (1 / 9007199254740992)) + η) := Rat.mul_le_mul_of_nonneg_left h2 hT
    have e8 : T * η ≤ (a + a * (2 * (1 / 9007199254740992)) + η) * η := Rat.mul_le_mul_of_nonneg_right h1 hη
    grind
/-- The values a, b of what is turned, n of the root, C, S of the turn. -/
structure TurnE (f g : Nat) (k : Int) (a b : Rat) : Prop where
  hk : -400 ≤ k ∧ k < 400
  ea : W f = a * P2 k
  eb : W g = b * P2 k
  a0 : 0 ≤ a
  b0 : 0 ≤ b
  a2 : a ≤ 2
  b2 : b ≤ 2
  A1 : 1 ≤ a * a + b * b
  nf : tN f g < infR
  n1 : 1 / 2 ≤ W (tN f g)
  n16 : W (tN f g) ≤ 16
  up : W (tN f g) * W (tN f g) ≤ (a * a + b * b) + 10 * (1 / 9007199254740992) * (a * a + b * b)
  lo : a * a + b * b ≤ W (tN f g) * W (tN f g) + 10 * (1 / 9007199254740992) * (a * a + b * b)
  cf : fPow (turnC f g) ≠ 2047
  sf : fPow (turnS f g) ≠ 2047
  cn : fNeg (turnC f g) = fNeg f
  sn : fNeg (turnS f g) = fNeg g
  cu : W (turnC f g) * W (tN f g) ≤ a + a * (2 * (1 / 9007199254740992)) + 16 * P2 (-1075)
  cl : a ≤ W (turnC f g) * W (tN f g) + a * (2 * (1 / 9007199254740992)) + 16 * P2 (-1075)
  su : W (turnS f g) * W (tN f g) ≤ b + b * (2 * (1 / 9007199254740992)) + 16 * P2 (-1075)
  sl : b ≤ W (turnS f g) * W (tN f g) + b * (2 * (1 / 9007199254740992)) + 16 * P2 (-1075)
  rf : fPow (turnR f g) ≠ 2047
  rn : fNeg (turnR f g) = false
  er : W (turnR f g) = W (tN f g) * P2 k
theorem sq_err {t : Nat} (h : fPow t ≠ 2047) (h2 : W t ≤ 2) : W (mulV t t) ≤ W t * W t + W t * W t * (1 / 9007199254740992) + P2 (-1075) ∧ W t * W t ≤ W (mulV t t) + W t * W t * (1 / 9007199254740992) + P2 (-1075) := by
  obtain ⟨q1, q2, q3⟩ := sq_le4 h h2
  obtain ⟨s1, s2⟩ := sq_part h
  rw [s1] at q2 ⊢
  have := near_err' q2
  rwa [s2] at this
theorem turnE {f g : Nat} (hf : f < 18446744073709551616) (hg : g < 18446744073709551616) (pf : fPow f ≠ 2047) (pg : fPow g ≠ 2047) (mf : fMag f ≠ 0) (mg : fMag g ≠ 0)
    (ef : -400 ≤ expB f ∧ expB f < 400) (eg : -400 ≤ expB g ∧ expB g < 400) : ∃ k a b, TurnE f g k a b := by
  have nf := normal_of_exp pf mf (by omega)
  have ng := normal_of_exp pg mg (by omega)
  -- the greater one
  obtain ⟨M, hM, hMf, hMg⟩ : ∃ M, M = max (absV f) (absV g) ∧ W f ≤ W M ∧ W g ≤ W M := by
    refine ⟨_, rfl, ?_, ?_⟩
    · rw [← W_abs f, W_le (absV_lt _) (by have := absV_lt f; have := absV_lt g; omega)]; omega
    · rw [← W_abs g, W_le (absV_lt _) (by have := absV_lt f; have := absV_lt g; omega)]; omega
  have hkk : tK f g = expB M := by rw [hM]; rfl
  have hMor : M = absV f ∨ M = absV g := by omega
  obtain ⟨hMp, hM0, hMe, hMone⟩ : fPow M ≠ 2047 ∧ fMag M ≠ 0 ∧ (-400 ≤ expB M ∧ expB M < 400) ∧ (W M = W f ∨ W M = W g) := by
    rcases hMor with h | h
    · obtain ⟨f1, f2, f3, f4⟩ := fields_abs f
      rw [← h] at f1 f2 f3
      refine ⟨by rw [f3]; exact pf, by rw [f1]; exact mf, ?_, .inl (by rw [h, W_abs])⟩
      have : expB M = expB f := by unfold expB; rw [f1, f2, f3]
      rw [this]; exact ef
    · obtain ⟨f1, f2, f3, f4⟩ := fields_abs g
      rw [← h] at f1 f2 f3
      refine ⟨by rw [f3]; exact pg, by rw [f1]; exact mg, ?_, .inr (by rw [h, W_abs])⟩
      have : expB M = expB g := by unfold expB; rw [f1, f2, f3]
      rw [this]; exact eg
  obtain ⟨w1, w2⟩ := expB_W hMp hM0
  rw [← hkk] at w1 w2 hMe
  clear hM hMor
  have hcS : turnC f g = divV (scaleV f (-tK f g)) (tN f g) ∧ turnS f g = divV (scaleV g (-tK f g)) (tN f g) ∧ turnR f g = scaleV (tN f g) (tK f g) := by
    unfold turnC turnS turnR
    have z1 : ¬ zeroB g := fun h => mg h.1
    have z2 : ¬ zeroB f := fun h => mf h.1
    simp only [if_neg z1, if_neg z2]
    exact ⟨trivial, trivial, trivial⟩
  have hNdef : tN f g = sqrtV (addV (mulV (scaleV f (-tK f g)) (scaleV f (-tK f g))) (mulV (scaleV g (-tK f g)) (scaleV g (-tK f g)))) := rfl
  generalize tK f g = k at *
  have hPk := Rat.le_of_lt (P2_pos (-k))
  have hPP : P2 (-k) * P2 k = 1 := by rw [← P2_add, show -k + k = 0 by omega, P2_zero]
  obtain ⟨x1, x2, x3, x4, x5, x6⟩ := scale_exact hf nf pf (k := -k) (by omega) (by omega) (by omega)
  obtain ⟨y1, y2, y3, y4, y5, y6⟩ := scale_exact hg ng pg (k := -k) (by omega) (by omega) (by omega)
  have sa : fNeg (scaleV f (-k)) = fNeg f := by rw [scaleV_fin hf pf]; exact word_neg _ _ _
  have sb : fNeg (scaleV g (-k)) = fNeg g := by rw [scaleV_fin hg pg]; exact word_neg _ _ _
  have ltA := scaleV_lt hf (-k)
  have ltB := scaleV_lt hg (-k)
  generalize scaleV f (-k) = t at *
  generalize scaleV g (-k) = u at *
  have two : P2 (k + 1) * P2 (-k) = 2 := by rw [← P2_add, show k + 1 + -k = ((1 : Nat) : Int) by omega, P2_nat]; rfl
  have hone : P2 k * P2 (-k) = 1 := by rw [Rat.mul_comm]; exact hPP
  have ta2 : W t ≤ 2 := by
    rw [x5, ← two]; exact Rat.mul_le_mul_of_nonneg_right (Rat.le_trans hMf (Rat.le_of_lt w2)) hPk
  have ub2 : W u ≤ 2 := by
    rw [y5, ← two]; exact Rat.mul_le_mul_of_nonneg_right (Rat.le_trans hMg (Rat.le_of_lt w2)) hPk
  have hA1 : 1 ≤ W t * W t + W u * W u := by
    have h1 := Rat.mul_le_mul_of_nonneg_right w1 hPk
    rw [hone] at h1
    have p1 := rat_sq_nonneg (W t)
    have p2 := rat_sq_nonneg (W u)
    rcases hMone with h | h
    · rw [h, ← x5] at h1
      have := rat_sq_le (by grind) h1
      grind
    · rw [h, ← y5] at h1
      have := rat_sq_le (by grind) h1
      grind
  -- the sum of squares
  obtain ⟨q1, q2, q3⟩ := sq_le4 x3 ta2
  obtain ⟨r1, r2, r3⟩ := sq_le4 y3 ub2
  obtain ⟨eq1, eq2⟩ := sq_err x3 ta2
  obtain ⟨er1, er2⟩ := sq_err y3 ub2
  obtain ⟨N, p, hs1, hs2⟩ := add_pos q2 r2
  obtain ⟨w81, w82⟩ := W_int (c := 8) (by omega)
  have hle8 : addV (mulV t t) (mulV u u) ≤ nearR 8 0 := by
    rw [hs1]
    refine near_le w81 ?_
    rw [hs2, w82]
    show _ ≤ (8 : Rat)
    grind
  have hsf : addV (mulV t t) (mulV u u) < infR := Nat.lt_of_le_of_lt hle8 w81
  rw [hs1] at hsf
  obtain ⟨es1, es2⟩ := near_err' hsf
  rw [← hs1] at hsf es1 es2
  rw [hs2] at es1 es2
  obtain ⟨n1, n2⟩ := eta_small
  have hWs8 : W (addV (mulV t t) (mulV u u)) ≤ 8 := by
    have : W (addV (mulV t t) (mulV u u)) ≤ W (nearR 8 0) := by rw [W_le (by unfold infR at hsf; omega) (by decide)]; exact hle8
    rw [w82] at this; exact this
  generalize hss : addV (mulV t t) (mulV u u) = s at *
  have pA := rat_sq_nonneg (W t)
  have pB := rat_sq_nonneg (W u)
  have hWsl : 1 / 4 ≤ W s := by grind
  have hle256 : s ≤ nearR 256 0 := Nat.le_trans hle8 (by decide)
  have h16 : sqrtV (nearR 256 0) = 4625196817309499392 := by
    have h1 : nearR 256 0 = 4643211215818981376 := by decide
    rw [h1]
    have h2 := sqrt_sq (t := 4625196817309499392) (by decide) (by decide) (by decide) (by decide)
    rw [← h2]
    exact congrArg sqrtV (by decide)
  have hr16 : sqrtV s ≤ 4625196817309499392 := by rw [← h16]; exact sqrt_mono hle256 (by decide)
  have hrf : sqrtV s < infR := Nat.lt_of_le_of_lt hr16 (by decide)
  obtain ⟨v1, v2⟩ := root_err hsf hWsl (by grind) hrf
  rw [← hNdef] at hrf v1 v2 hr16
  have hn16 : W (tN f g) ≤ 16 := by
    have h1 : W 4625196817309499392 = 16 := by
      unfold W D
      rw [show fMag 4625196817309499392 = 2 ^ 52 from by decide, show fPl 4625196817309499392 = -48 from by decide, ← P2_nat, ← P2_add, show ((52 : Nat) : Int) + -48 = ((4 : Nat) : Int) by omega, P2_nat]; rfl
    rw [← h1, W_le (by unfold infR at hrf; omega) (by decide)]; exact hr16
  have hN0 := W_nonneg (tN f g)
  have hup : W (tN f g) * W (tN f g) ≤ (W t * W t + W u * W u) + 10 * (1 / 9007199254740992) * (W t * W t + W u * W u) := by
    generalize W (tN f g) * W (tN f g) = z at *
    generalize W t * W t = aa at *
    generalize W u * W u = bb at *
    grind
  have hlo : W t * W t + W u * W u ≤ W (tN f g) * W (tN f g) + 10 * (1 / 9007199254740992) * (W t * W t + W u * W u) := by
    generalize W (tN f g) * W (tN f g) = z at *
    generalize W t * W t = aa at *
    generalize W u * W u = bb at *
    grind
  have hNN : 1 / 2 ≤ W (tN f g) * W (tN f g) := by
    generalize W (tN f g) * W (tN f g) = z at *
    generalize W t * W t = aa at *
    generalize W u * W u = bb at *
    grind
  have hn1 : 1 / 2 ≤ W (tN f g) := by
    rcases Rat.le_total (a := 1 / 2) (b := W (tN f g)) with h | h
    · exact h
    · have := rat_sq_le hN0 h
      grind
  have hNge : ∀ z : Rat, 0 ≤ z → z * z ≤ W t * W t + W u * W u → z ≤ 4 * W (tN f g) := fun z hz hzz => by
    rcases Rat.le_total (a := z) (b := 4 * W (tN f g)) with h | h
    · exact h
    · have := rat_sq_le (by grind) h
      have e : 4 * W (tN f g) * (4 * W (tN f g)) = 16 * (W (tN f g) * W (tN f g)) := by grind
      rw [e] at this
      generalize W (tN f g) * W (tN f g) = y at *
      generalize W t * W t = aa at *
      generalize W u * W u = bb at *
      generalize z * z = zz at *
      grind
  obtain ⟨p1, p2, p3, p4⟩ := word_pos hrf
  have hNm : fMag (tN f g) ≠ 0 := fun h => by rw [W_zero_of h] at hn1; grind
  obtain ⟨d1, d2, d3, d4, d5⟩ := div_err ltA p3 x3 p1 hNm (hNge _ (W_nonneg t) (by grind)) hn16
  obtain ⟨e1, e2, e3, e4, e5⟩ := div_err ltB p3 y3 p1 hNm (hNge _ (W_nonneg u) (by grind)) hn16
  rw [← hcS.1] at d1 d2 d3 d4 d5
  rw [← hcS.2.1] at e1 e2 e3 e4 e5
  have hexpN : -2 ≤ expB (tN f g) ∧ expB (tN f g) ≤ 4 := by
    obtain ⟨z1, z2⟩ := expB_W p1 hNm
    have a1 : P2 (expB (tN f g)) ≤ P2 ((4 : Nat) : Int) := by rw [P2_nat]; exact Rat.le_trans z1 hn16
    rw [P2_le_iff] at a1
    have a2 : ¬ P2 (expB (tN f g) + 1) ≤ P2 (-2) := by
      rw [show P2 (-2) = 1 / 4 by decide +kernel]; grind
    rw [P2_le_iff] at a2
    omega
  obtain ⟨g1, g2, g3, g4, g5, g6⟩ := scale_exact p3 (normal_of_exp p1 hNm (by omega)) p1 (k := k) (by omega) (by omega) (by omega)
  rw [← hcS.2.2] at g1 g2 g3 g4 g5 g6
  refine ⟨k, W t, W u, ⟨by omega, ?_, ?_, W_nonneg t, W_nonneg u, ta2, ub2, hA1, hrf, hn1, hn16, hup, hlo, d1, e1, ?_, ?_, ?_, ?_, ?_, ?_, g3, ?_, g5⟩⟩
  · rw [x5, Rat.mul_assoc, hPP, Rat.mul_one]
  · rw [y5, Rat.mul_assoc, hPP, Rat.mul_one]
  · rw [d2 (by rw [x1]; exact mf), sa, p2]; cases fNeg f <;> rfl
  · rw [e2 (by rw [y1]; exact mg), sb, p2]; cases fNeg g <;> rfl
  · exact d4
  · exact d5
  · exact e4
  · exact e5
  · rw [hcS.2.2, scaleV_fin p3 p1, p2]; exact word_neg _ _ _
end Go.Proofs.Ytcjhfgjgmkfmnaa.Dx

/- Laws GivensOne, GivensRight. -/
namespace Go.Proofs.Ytcjhfgjgmkfmnaa.Dx
open Go

/-- A word's value, with its sign. -/
def sv (b : Nat) : Rat := DV (sx b) (fPl b)
theorem sv_pos {b : Nat} (h : fNeg b = false) : sv b = W b := DV_sx h
theorem sv_neg {b : Nat} (h : fNeg b = true) : sv b = -W b := by
  unfold sv DV sx sg W D; rw [h]; simp only [if_true]; rw [Rat.intCast_neg, Rat.intCast_natCast]; grind
theorem sv_zero {b : Nat} (h : fMag b = 0) : sv b = 0 := by
  cases hn : fNeg b
  · rw [sv_pos hn, W_zero_of h]
  · rw [sv_neg hn, W_zero_of h]; grind
theorem sv_minus {b : Nat} (hb : b < 18446744073709551616) : sv (fMinus b) = -sv b := by
  obtain ⟨m1, m2, m3, m4⟩ := minus_neg hb
  have hW : W (fMinus b) = W b := by unfold W fMag fPl; rw [m2, m3]
  cases hn : fNeg b
  · rw [hn] at m1; rw [sv_neg m1, sv_pos hn, hW]
  · rw [hn] at m1; rw [sv_pos m1, sv_neg hn, hW]; grind
def sumP (p : Nat → Rat) : Nat → Rat
  | 0 => 0
  | n + 1 => sumP p n + p n
theorem dot11_loop {x y : List Nat} (hx : Words x) (hy : Words y) (hxy : x.length ≤ y.length) (hl : x.length ≤ 1000) : ∀ (n : Nat) {i : Nat} {X E : Int}, i + n = x.length → DBs X E 2200 (2200 + i) → DV X E = sumP (fun i => sv (el x i) * sv (el y i)) i →
    ∃ X' E', rounds (fun vs => lo179_1.dv (Vl x :: Vl y :: vs)) [Vi i, dS X E, dL X E, dE X E] = some (.y (.ext 0) [dS X' E', dL X' E', dE X' E']) ∧ DBs X' E' 2200 (2200 + x.length) ∧ DV X' E' = sumP (fun i => sv (el x i) * sv (el y i)) x.length := by
  intro n
  induction n with
  | zero =>
    intro i X E hi hB hv
    have : i = x.length := by omega
    subst this
    refine ⟨X, E, rounds_exit ?_ (by simp), hB, hv⟩
    simp [lo179_1, TT.dv]
  | succ n ih =>
    intro i X E hi hB hv
    have hlt : i < x.length := by omega
    have hlt2 : i < y.length := by omega
    have e1 : (B.add .i64).den (Vi i) (Vi 1) = Vi (i + 1) := add_i (by omega) (by omega)
    have g1 := get_V (x := x) hlt
    have g2 := get_V (x := y) hlt2
    have v1 := value_ok (hx.el i)
    have v2 := value_ok (hy.el i)
    have m1 := mulD_ok (DB.word (el x i)) (DB.word (el y i))
    have hm := (DBs.word (el x i)).mul (DBs.word (el y i))
    have a1 := addD_ok (hB.db (by omega) (by omega)) (hm.db (by omega) (by omega))
    have hB' := hB.add (hm.mono (E' := 2200) (T' := 2200 + i) (by omega) (by omega))
    obtain ⟨X', E', h1, h2, h3⟩ := ih (i := i + 1) (X := dadd X E (sx (el x i) * sx (el y i)) (fPl (el x i) + fPl (el y i))) (E := min E (fPl (el x i) + fPl (el y i))) (by omega) hB' (by
      rw [DV_dadd, hv, DV_mul]; rfl)
    refine ⟨X', E', Eq.trans (rounds_cont ?_) h1, h2, h3⟩
    simp [lo179_1, TT.dv, hlt, hlt2, e1, g1, g2, v1, v2, m1, a1]
theorem dot11_ok {x y : List Nat} (hx : Words x) (hy : Words y) (hxy : x.length ≤ y.length) (hl : x.length ≤ 1000) : ∃ X E, val 179 [Vl x, Vl y] = some [dS X E, dL X E, dE X E] ∧ DBs X E 2200 (2200 + x.length) ∧ DV X E = sumP (fun i => sv (el x i) * sv (el y i)) x.length := by
  obtain ⟨X, E, h1, h2, h3⟩ := dot11_loop hx hy hxy hl x.length (i := 0) (X := 0) (E := 0) (by omega) ⟨by omega, by omega, by rw [show (0 : Int).natAbs = 0 from rfl, bl_zero]; omega⟩ (by unfold DV sumP; rw [Rat.intCast_zero]; exact Rat.zero_mul _)
  refine ⟨X, E, val_of tab179 ?_, h2, h3⟩
  obtain ⟨z1, z2, z3⟩ := dz
  rw [z1, z2, z3, show ((0 : Nat) : Int) = 0 from rfl, wl_nil_V] at h1
  simp [tr179, TT.dv, KS.dv, h1]
/-- An exact number without its sign. -/
theorem abs12_ok {X E : Int} (h : DB X E) : val 43 [dS X E, dL X E, dE X E] = some [dS (X.natAbs : Int) E, dL (X.natAbs : Int) E, dE (X.natAbs : Int) E] := by
  refine val_of tab43 ?_
  have hn := negD_ok h
  have hs := dS_ok X E
  by_cases hneg : X < 0
  · rw [show (X.natAbs : Int) = -X by omega]
    generalize dS (-X) E = n1 at *
    generalize dL (-X) E = n2 at *
    generalize dE (-X) E = n3 at *
    generalize dL X E = d2 at *
    generalize dE X E = d3 at *
    rw [hs, decide_eq_true hneg] at hn ⊢
    simp [tr43, TT.dv, hn]
  · rw [show (X.natAbs : Int) = X by omega]
    generalize dL X E = d2 at *
    generalize dE X E = d3 at *
    rw [hs, decide_eq_false hneg]
    simp [tr43, TT.dv]
theorem DV_abs_le {X E : Int} {L : Rat} (h1 : DV X E ≤ L) (h2 : -L ≤ DV X E) : DV (X.natAbs : Int) E ≤ L := by
  rcases (show (X.natAbs : Int) = X ∨ (X.natAbs : Int) = -X by omega) with h | h
  · rw [h]; exact h1
  · rw [h, DV_neg]; grind
theorem DBs.abs {x e : Int} {E T : Nat} (h : DBs x e E T) : DBs (x.natAbs : Int) e E T := by
  obtain ⟨a, b, c⟩ := h
  exact ⟨a, b, by rw [Int.natAbs_natCast]; exact c⟩
theorem DV_abs_sx (b : Nat) : DV ((sx b).natAbs : Int) (fPl b) = W b := by
  have : (sx b).natAbs = fMag b := by unfold sx sg; split <;> omega
  rw [this]; unfold DV W D; rw [Rat.intCast_natCast]

/-! ### the turn of tame numbers -/
theorem W_one : W 4607182418800017408 = 1 := by
  unfold W D
  rw [show fMag 4607182418800017408 = 2 ^ 52 from by decide, show fPl 4607182418800017408 = -52 from by decide, ← P2_nat, ← P2_add, show ((52 : Nat) : Int) + -52 = 0 by omega, P2_zero]
theorem p48 : P2 (-48) = 1 / 281474976710656 := by decide +kernel
structure TurnL (f g c s r : Nat) : Prop where
  cl : c < 18446744073709551616
  sl : s < 18446744073709551616
  rl : r < 18446744073709551616
  cf : fPow c ≠ 2047
  sf : fPow s ≠ 2047
  rf : fPow r ≠ 2047
  one1 : W c * W c + W s * W s ≤ 1 + 1 * P2 (-48)
  one2 : 1 ≤ W c * W c + W s * W s + 1 * P2 (-48)
  r1 : sv c * sv f + sv s * sv g - sv r ≤ W r * P2 (-48)
  r2 : -(W r * P2 (-48)) ≤ sv c * sv f + sv s * sv g - sv r
  z1 : sv c * sv g + -sv s * sv f ≤ W r * P2 (-48)
  z2 : -(W r * P2 (-48)) ≤ sv c * sv g + -sv s * sv f
theorem turn_real {f g : Nat} {k : Int} {a b : Rat} (T : TurnE f g k a b) :
    let C := W (turnC f g); let S := W (turnS f g); let N := W (tN f g)
    (C * C + S * S ≤ 1 + 1 * P2 (-48) ∧ 1 ≤ C * C + S * S + 1 * P2 (-48)) ∧ (C * a + S * b ≤ N + N * P2 (-48) ∧ N ≤ C * a + S * b + N * P2 (-48)) ∧ (C * b ≤ S * a + N * P2 (-48) ∧ S * a ≤ C * b + N * P2 (-48)) := by
  intro C S N
  rw [p48]
  obtain ⟨n1, n2⟩ := eta_small
  have hC : 0 ≤ C := W_nonneg _
  have hS : 0 ≤ S := W_nonneg _
  have a0 := T.a0
  have b0 := T.b0
  have a2 := T.a2
  have b2 := T.b2
  have A1 := T.A1
  have hn1 : 1 / 2 ≤ N := T.n1
  have hup : N * N ≤ (a * a + b * b) + 10 * (1 / 9007199254740992) * (a * a + b * b) := T.up
  have hlo : a * a + b * b ≤ N * N + 10 * (1 / 9007199254740992) * (a * a + b * b) := T.lo
  have cu : C * N ≤ a + a * (2 * (1 / 9007199254740992)) + 16 * P2 (-1075) := T.cu
  have cl : a ≤ C * N + a * (2 * (1 / 9007199254740992)) + 16 * P2 (-1075) := T.cl
  have su : S * N ≤ b + b * (2 * (1 / 9007199254740992)) + 16 * P2 (-1075) := T.su
  have sl : b ≤ S * N + b * (2 * (1 / 9007199254740992)) + 16 * P2 (-1075) := T.sl
  clear_value C S N
  clear T
  generalize P2 (-1075) = η at *
  have hN0 : 0 < N := by grind
  have hNN : 0 < N * N := Rat.mul_pos hN0 hN0
  have hCN : 0 ≤ C * N := Rat.mul_nonneg hC (by grind)
  have hSN : 0 ≤ S * N := Rat.mul_nonneg hS (by grind)
  have haa := Rat.mul_nonneg a0 a0
  have hbb := Rat.mul_nonneg b0 b0
  refine ⟨?_, ?_, ?_⟩
  · obtain ⟨e1, e2⟩ := err_sqC a0 (by grind) hCN (η := 16 * η) (by grind) (by grind) cu cl
    obtain ⟨f1, f2⟩ := err_sqC b0 (by grind) hSN (η := 16 * η) (by grind) (by grind) su sl
    have g1 : C * N * (C * N) = C * C * (N * N) := by grind
    have g2 : S * N * (S * N) = S * S * (N * N) := by grind
    rw [g1] at e1 e2
    rw [g2] at f1 f2
    generalize N * N = M at *
    generalize a * a = aa at *
    generalize b * b = bb at *
    constructor
    · refine Rat.le_of_mul_le_mul_right (c := M) ?_ hNN
      have : (C * C + S * S) * M = C * C * M + S * S * M := by grind
      rw [this]
      generalize C * C * M = x at *
      generalize S * S * M = y at *
      grind
    · refine Rat.le_of_mul_le_mul_right (c := M) ?_ hNN
      have : (C * C + S * S + 1 * (1 / 281474976710656)) * M = C * C * M + S * S * M + M * (1 / 281474976710656) := by grind
      rw [this]
      generalize C * C * M = x at *
      generalize S * S * M = y at *
      grind
  · have e1 := Rat.mul_le_mul_of_nonneg_right cu a0
    have e2 := Rat.mul_le_mul_of_nonneg_right cl a0
    have f1 := Rat.mul_le_mul_of_nonneg_right su b0
    have f2 := Rat.mul_le_mul_of_nonneg_right sl b0
    have ha : a * η ≤ 2 * η := Rat.mul_le_mul_of_nonneg_right a2 n1
    have hb : b * η ≤ 2 * η := Rat.mul_le_mul_of_nonneg_right b2 n1
    constructor
    · refine Rat.le_of_mul_le_mul_right (c := N) ?_ hN0
      have : (C * a + S * b) * N = C * N * a + S * N * b := by grind
      rw [this]
      have : (N + N * (1 / 281474976710656)) * N = N * N + N * N * (1 / 281474976710656) := by grind
      rw [this]
      generalize N * N = M at *
      grind
    · refine Rat.le_of_mul_le_mul_right (c := N) ?_ hN0
      have : (C * a + S * b + N * (1 / 281474976710656)) * N = C * N * a + S * N * b + N * N * (1 / 281474976710656) := by grind
      rw [this]
      generalize N * N = M at *
      grind
  · have e1 := Rat.mul_le_mul_of_nonneg_right cu b0
    have e2 := Rat.mul_le_mul_of_nonneg_right cl b0
    have f1 := Rat.mul_le_mul_of_nonneg_right su a0
    have f2 := Rat.mul_le_mul_of_nonneg_right sl a0
    have ha : a * η ≤ 2 * η := Rat.mul_le_mul_of_nonneg_right a2 n1
    have hb : b * η ≤ 2 * η := Rat.mul_le_mul_of_nonneg_right b2 n1
    have hab := rat_sq_nonneg (a - b)
    have hab2 : 2 * (a * b) ≤ a * a + b * b := by grind
    have hab0 := Rat.mul_nonneg a0 b0
    constructor
    · refine Rat.le_of_mul_le_mul_right (c := N) ?_ hN0
      have : C * b * N = C * N * b := by grind
      rw [this]
      have : (S * a + N * (1 / 281474976710656)) * N = S * N * a + N * N * (1 / 281474976710656) := by grind
      rw [this]
      generalize N * N = M at *
      grind
    · refine Rat.le_of_mul_le_mul_right (c := N) ?_ hN0
      have : S * a * N = S * N * a := by grind
      rw [this]
      have : (C * b + N * (1 / 281474976710656)) * N = C * N * b + N * N * (1 / 281474976710656) := by grind
      rw [this]
      generalize N * N = M at *
      grind
theorem sv_cases (b : Nat) : (fNeg b = false ∧ sv b = W b) ∨ (fNeg b = true ∧ sv b = -W b) := by
  cases h : fNeg b
  · exact .inl ⟨rfl, sv_pos h⟩
  · exact .inr ⟨rfl, sv_neg h⟩
theorem sv_of {b : Nat} {s : Bool} (h : fNeg b = s) : sv b = if s then -W b else W b := by
  cases s
  · exact sv_pos h
  · exact sv_neg h
theorem sv_one : sv 4607182418800017408 = 1 := by rw [sv_pos (by decide), W_one]
theorem turnL {f g : Nat} (hf : f < 18446744073709551616) (hg : g < 18446744073709551616) (hT : TameP [f, g] 400) : TurnL f g (turnC f g) (turnS f g) (turnR f g) := by
  obtain ⟨pf, ef⟩ := hT 0 (by simp)
  obtain ⟨pg, eg⟩ := hT 1 (by simp)
  rw [show el [f, g] 0 = f from rfl] at pf ef
  rw [show el [f, g] 1 = g from rfl] at pg eg
  have hp := Rat.le_of_lt (P2_pos (-48))
  have w0 : W 0 = 0 := W_zero_of (by decide)
  have s0 : sv 0 = 0 := sv_zero (by decide)
  by_cases zg : zeroB g
  · have e1 : turnC f g = 4607182418800017408 := by unfold turnC; rw [if_pos zg]
    have e2 : turnS f g = 0 := by unfold turnS; rw [if_pos zg]
    have e3 : turnR f g = f := by unfold turnR; rw [if_pos zg]
    have hm := Rat.mul_nonneg (W_nonneg f) hp
    rw [e1, e2, e3]
    refine ⟨by decide, by decide, hf, by decide, by decide, pf, ?_, ?_, ?_, ?_, ?_, ?_⟩
    · rw [W_one, w0]; grind
    · rw [W_one, w0]; grind
    · rw [sv_one, s0]; grind
    · rw [sv_one, s0]; grind
    · rw [sv_one, s0, sv_zero zg.1]; grind
    · rw [sv_one, s0, sv_zero zg.1]; grind
  by_cases zf : zeroB f
  · have e1 : turnC f g = 0 := by unfold turnC; rw [if_neg zg, if_pos zf]
    have e2 : turnS f g = 4607182418800017408 := by unfold turnS; rw [if_neg zg, if_pos zf]
    have e3 : turnR f g = g := by unfold turnR; rw [if_neg zg, if_pos zf]
    have hm := Rat.mul_nonneg (W_nonneg g) hp
    rw [e1, e2, e3]
    refine ⟨by decide, by decide, hg, by decide, by decide, pg, ?_, ?_, ?_, ?_, ?_, ?_⟩
    · rw [W_one, w0]; grind
    · rw [W_one, w0]; grind
    · rw [sv_one, s0]; grind
    · rw [sv_one, s0]; grind
    · rw [sv_one, s0, sv_zero zf.1]; grind
    · rw [sv_one, s0, sv_zero zf.1]; grind
  have mf : fMag f ≠ 0 := fun h => zf ((zeroB_mag pf).2 h)
  have mg : fMag g ≠ 0 := fun h => zg ((zeroB_mag pg).2 h)
  obtain ⟨k, a, b, T⟩ := turnE hf hg pf pg mf mg (ef.resolve_left mf) (eg.resolve_left mg)
  obtain ⟨⟨o1, o2⟩, ⟨u1, u2⟩, v1, v2⟩ := turn_real T
  have lc : turnC f g < 18446744073709551616 := by unfold turnC; rw [if_neg zg, if_neg zf]; exact divV_lt
  have ls : turnS f g < 18446744073709551616 := by unfold turnS; rw [if_neg zg, if_neg zf]; exact divV_lt
  have lr : turnR f g < 18446744073709551616 := by unfold turnR; rw [if_neg zg, if_neg zf]; exact scaleV_lt (tN_lt hf hg) _
  have hc := sv_of T.cn
  have hs := sv_of T.sn
  have hr := sv_pos T.rn
  have hf' := sv_of (b := f) rfl
  have hg' := sv_of (b := g) rfl
  rw [T.ea] at hf'
  rw [T.eb] at hg'
  have hP := Rat.le_of_lt (P2_pos k)
  have m1 := Rat.mul_le_mul_of_nonneg_right u1 hP
  have m2 := Rat.mul_le_mul_of_nonneg_right u2 hP
  have m3 := Rat.mul_le_mul_of_nonneg_right v1 hP
  have m4 := Rat.mul_le_mul_of_nonneg_right v2 hP
  refine ⟨lc, ls, lr, T.cf, T.sf, T.rf, o1, o2, ?_, ?_, ?_, ?_⟩
  all_goals
    rw [hc, hs, hf', hg', T.er]
    try rw [hr, T.er]
    generalize W (turnC f g) = C at *
    generalize W (turnS f g) = S at *
    generalize W (tN f g) = N at *
    generalize P2 k = P at *
    generalize P2 (-48) = e at *
    clear hc hs hr hf' hg' T o1 o2 u1 u2 v1 v2
    cases fNeg f <;> cases fNeg g <;> simp only [if_true, if_false, Bool.false_eq_true] <;> grind
theorem pair_V (a b : Nat) : B.cons.den (Vu a) (B.cons.den (Vu b) (Vl [])) = Vl [a, b] := rfl
theorem words2 {a b : Nat} (ha : a < 18446744073709551616) (hb : b < 18446744073709551616) : Words [a, b] := by
  intro x hx; simp at hx; rcases hx with rfl | rfl <;> assumption
theorem one_d : val 96 [Vi 1] = some [bS 1, bL 1] ∧ val 110 [bS 1, bL 1, Vi 0] = some [dS 1 0, dL 1 0, dE 1 0] := ⟨of_ok (by omega) (by omega), ofD_ok (by decide) (by omega) (by omega)⟩
theorem one_b (E T : Nat) (hT : 1 ≤ T) : DBs 1 0 E T := ⟨by omega, by omega, by rw [show (1 : Int).natAbs = 1 from rfl, show bl 1 = 1 from by decide]; omega⟩
theorem one_v : DV 1 0 = 1 := by unfold DV; rw [P2_zero, Rat.mul_one]; rfl
theorem law_GivensOne {f g : Nat} (hf : f < 18446744073709551616) (hg : g < 18446744073709551616) : val 39 [Vu f, Vu g] = some [Vb true] := by
  refine val_of tab39 ?_
  obtain ⟨b, t1, t2⟩ := tame_ok (words2 hf hg) (by simp) (K := 400) (by omega)
  cases b
  · simp [tr39, TT.dv, pair_V, t1, awake_12]
  · have hT := t2 rfl
    have L := turnL hf hg hT
    have h1 := turn_ok hf hg
    rw [if_neg (by have h1 := (hT 0 (by simp)).1; have h2 := (hT 1 (by simp)).1; rw [show el [f, g] 0 = f from rfl] at h1; rw [show el [f, g] 1 = g from rfl] at h2; omega)] at h1
    generalize turnC f g = c at *
    generalize turnS f g = s at *
    generalize turnR f g = r at *
    have p1 := fPow_lt c
    have p2 := fPow_lt s
    have q1 := L.cf
    have q2 := L.sf
    have f1 := finite4_ok L.cl
    have f2 := finite4_ok L.sl
    obtain ⟨X, E, s1, s2, s3⟩ := squares_ok (words2 L.cl L.sl) (by simp)
    rw [show sumA (fun i => W (el [c, s] i)) [c, s].length = 0 + W c * W c + W s * W s from rfl] at s3
    obtain ⟨o1, o2⟩ := one_d
    have a1 := L.one1
    have a2 := L.one2
    have hne := near_d_ok (k := 48) s2 (one_b 2200 _ (by simp)) (by omega) (by simp) (by omega) (by rw [s3, one_v]; grind) (by rw [s3, one_v]; grind)
    generalize dS 1 0 = O1 at *
    generalize dL 1 0 = O2 at *
    generalize dE 1 0 = O3 at *
    generalize bS 1 = O4 at *
    generalize bL 1 = O5 at *
    simp [tr39, TT.dv, pair_V, t1, h1, f1, f2, show fPow c < 2047 by omega, show fPow s < 2047 by omega, s1, o1, o2, hne, awake_12]
theorem law_GivensRight {f g : Nat} (hf : f < 18446744073709551616) (hg : g < 18446744073709551616) : val 40 [Vu f, Vu g] = some [Vb true] := by
  refine val_of tab40 ?_
  obtain ⟨b, t1, t2⟩ := tame_ok (words2 hf hg) (by simp) (K := 400) (by omega)
  cases b
  · simp [tr40, TT.dv, pair_V, t1, awake_12]
  · have hT := t2 rfl
    have L := turnL hf hg hT
    have h1 := turn_ok hf hg
    rw [if_neg (by have h1 := (hT 0 (by simp)).1; have h2 := (hT 1 (by simp)).1; rw [show el [f, g] 0 = f from rfl] at h1; rw [show el [f, g] 1 = g from rfl] at h2; omega)] at h1
    generalize turnC f g = c at *
    generalize turnS f g = s at *
    generalize turnR f g = r at *
    have p1 := fPow_lt c
    have p2 := fPow_lt s
    have p3 := fPow_lt r
    have q1 := L.cf
    have q2 := L.sf
    have q3 := L.rf
    have f1 := finite4_ok L.cl
    rw [decide_eq_true (show fPow c < 2047 by omega)] at f1
    have f2 := finite4_ok L.sl
    rw [decide_eq_true (show fPow s < 2047 by omega)] at f2
    have f3 := finite4_ok L.rl
    rw [decide_eq_true (show fPow r < 2047 by omega)] at f3
    have v1 := value_ok L.rl
    have ab1 := abs12_ok (DB.word r)
    have mn := minus4_ok L.sl
    have lm := (minus_neg L.sl).2.2.2
    obtain ⟨X, E, s1, s2, s3⟩ := dot11_ok (words2 L.cl L.sl) (words2 hf hg) (by simp) (by simp)
    rw [show sumP (fun i => sv (el [c, s] i) * sv (el [f, g] i)) [c, s].length = 0 + sv c * sv f + sv s * sv g from rfl] at s3
    obtain ⟨Y, F, u1, u2, u3⟩ := dot11_ok (words2 L.cl lm) (words2 hg hf) (by simp) (by simp)
    rw [show sumP (fun i => sv (el [c, fMinus s] i) * sv (el [g, f] i)) [c, fMinus s].length = 0 + sv c * sv g + sv (fMinus s) * sv f from rfl, sv_minus L.sl] at u3
    rw [show [c, s].length = 2 from rfl] at s2
    rw [show [c, fMinus s].length = 2 from rfl] at u2
    have hlim := scaleD_ok ((DBs.word r).abs.db (by omega) (by omega)) (k := -48) (by omega)
    have blim := ((DBs.word r).abs.scale (k := -48) 100 (by omega)).db (by omega) (by omega)
    have vlim := DV_scale ((sx r).natAbs : Int) (fPl r) (-48)
    rw [DV_abs_sx] at vlim
    have hsub := subD_ok (s2.db (by omega) (by omega)) (DB.word r)
    have bsub := s2.add ((DBs.word r).neg.mono (E' := 2200) (T' := 2202) (by omega) (by omega))
    have vsub := DV_dadd X E (-sx r) (fPl r)
    rw [DV_neg, s3] at vsub
    have ab2 := abs12_ok (bsub.db (by omega) (by omega))
    have cm1 := compareD_ok (bsub.abs.db (by omega) (by omega)) blim
    have ab3 := abs12_ok (u2.db (by omega) (by omega))
    have cm2 := compareD_ok (u2.abs.db (by omega) (by omega)) blim
    have l1 := L.r1
    have l2 := L.r2
    have l3 := L.z1
    have l4 := L.z2
    have c1 : dcmp ((dadd X E (-sx r) (fPl r)).natAbs : Int) (min E (fPl r)) ((sx r).natAbs : Int) (fPl r + -48) ≤ 0 := by
      rw [dcmp_le, vlim]
      refine DV_abs_le ?_ ?_
      · rw [vsub]; show 0 + sv c * sv f + sv s * sv g + -sv r ≤ _; grind
      · rw [vsub]; show _ ≤ 0 + sv c * sv f + sv s * sv g + -sv r; grind
    have c2 : dcmp (Y.natAbs : Int) F ((sx r).natAbs : Int) (fPl r + -48) ≤ 0 := by
      rw [dcmp_le, vlim]
      refine DV_abs_le ?_ ?_
      · rw [u3]; grind
      · rw [u3]; grind
    clear vsub vlim bsub blim s3 u3 s2 u2 l1 l2 l3 l4
    have eg1 : B.le.den (Vi (dcmp ((dadd X E (-sx r) (fPl r)).natAbs : Int) (min E (fPl r)) ((sx r).natAbs : Int) (fPl r + -48))) (Vi 0) = Vb true := by rw [le_i, decide_eq_true c1]
    have eg2 : B.le.den (Vi (dcmp (Y.natAbs : Int) F ((sx r).natAbs : Int) (fPl r + -48))) (Vi 0) = Vb true := by rw [le_i, decide_eq_true c2]
    clear c1 c2
    generalize dcmp ((dadd X E (-sx r) (fPl r)).natAbs : Int) (min E (fPl r)) ((sx r).natAbs : Int) (fPl r + -48) = Z1 at *
    generalize dcmp (Y.natAbs : Int) F ((sx r).natAbs : Int) (fPl r + -48) = Z2 at *
    generalize dS ((dadd X E (-sx r) (fPl r)).natAbs : Int) (min E (fPl r)) = g1 at *
    generalize dL ((dadd X E (-sx r) (fPl r)).natAbs : Int) (min E (fPl r)) = g2 at *
    generalize dE ((dadd X E (-sx r) (fPl r)).natAbs : Int) (min E (fPl r)) = g3 at *
    generalize dS (dadd X E (-sx r) (fPl r)) (min E (fPl r)) = g4 at *
    generalize dL (dadd X E (-sx r) (fPl r)) (min E (fPl r)) = g5 at *
    generalize dE (dadd X E (-sx r) (fPl r)) (min E (fPl r)) = g6 at *
    generalize dS ((sx r).natAbs : Int) (fPl r + -48) = g7 at *
    generalize dL ((sx r).natAbs : Int) (fPl r + -48) = g8 at *
    generalize dE ((sx r).natAbs : Int) (fPl r + -48) = g9 at *
    generalize dS ((sx r).natAbs : Int) (fPl r) = j1 at *
    generalize dL ((sx r).natAbs : Int) (fPl r) = j2 at *
    generalize dE ((sx r).natAbs : Int) (fPl r) = j3 at *
    generalize dS (sx r) (fPl r) = j4 at *
    generalize dL (sx r) (fPl r) = j5 at *
    generalize dE (sx r) (fPl r) = j6 at *
    generalize dS (Y.natAbs : Int) F = k1 at *
    generalize dL (Y.natAbs : Int) F = k2 at *
    generalize dE (Y.natAbs : Int) F = k3 at *
    generalize dS Y F = k4 at *
    generalize dL Y F = k5 at *
    generalize dE Y F = k6 at *
    generalize dS X E = m1 at *
    generalize dL X E = m2 at *
    generalize dE X E = m3 at *
    generalize fMinus s = ms at *
    clear L hT
    refine Eq.trans (dv_call rfl t1 rfl) ?_
    refine Eq.trans (dv_ite_f rfl) ?_
    refine Eq.trans (dv_call rfl h1 rfl) ?_
    refine Eq.trans (dv_call rfl f1 rfl) ?_
    refine Eq.trans (dv_call rfl f2 rfl) ?_
    refine Eq.trans (dv_call rfl f3 rfl) ?_
    refine Eq.trans (dv_ite_f rfl) ?_
    refine Eq.trans (dv_call rfl v1 rfl) ?_
    simp only [List.cons_append, List.nil_append]
    refine Eq.trans (dv_call rfl ab1 rfl) ?_
    refine Eq.trans (dv_call rfl s1 rfl) ?_
    simp only [List.cons_append, List.nil_append]
    refine Eq.trans (dv_call rfl mn rfl) ?_
    refine Eq.trans (dv_call rfl u1 rfl) ?_
    simp only [List.cons_append, List.nil_append]
    refine Eq.trans (dv_call rfl hlim rfl) ?_
    refine Eq.trans (dv_call rfl v1 rfl) ?_
    simp only [List.cons_append, List.nil_append]
    refine Eq.trans (dv_call rfl hsub rfl) ?_
    refine Eq.trans (dv_call rfl ab2 rfl) ?_
    simp only [List.cons_append, List.nil_append]
    refine Eq.trans (dv_call rfl cm1 rfl) ?_
    simp only [List.cons_append, List.nil_append]
    refine Eq.trans (dv_call (by simp [-le_i, eg1]) ab3 rfl) ?_
    refine Eq.trans (dv_call (by simp [-le_i, eg1]) cm2 rfl) ?_
    simp only [List.cons_append, List.nil_append]
    refine Eq.trans (dv_call (by simp [-le_i, eg1, eg2]) awake_12 rfl) ?_
    simp [-le_i, TT.dv, eg1, eg2]
end Go.Proofs.Ytcjhfgjgmkfmnaa.Dx
