/- The pure meaning of the functions that the law reaches, and that the law is true of it. No conditions. -/
import Derived.Test.YtcjhfgjgmkfmnaaVectorOrderM2
set_option linter.all false
/- Law VectorOrder. -/
namespace Go.Proofs.Ytcjhfgjgmkfmnaa.Dx
open Go

/-- Bounds that sums bear: how low the place is, how high the top. -/
structure DBs (x e : Int) (E T : Nat) : Prop where
  lo : -(E : Int) ≤ e
  hi : e ≤ E
  top : (bl x.natAbs : Int) + e ≤ T
theorem DBs.db {x e : Int} {E T : Nat} (h : DBs x e E T) (h1 : E ≤ 40000000) (h2 : T ≤ 40000000) : DB x e := by
  obtain ⟨a, b, c⟩ := h
  exact ⟨by omega, by omega, by omega⟩
theorem DBs.word (b : Nat) : DBs (sx b) (fPl b) 1100 1100 := by
  have h1 := bl_mag b
  have h2 := fPl_bd b
  exact ⟨by omega, by omega, by omega⟩
theorem DBs.mono {x e : Int} {E T E' T' : Nat} (h : DBs x e E T) (h1 : E ≤ E') (h2 : T ≤ T') : DBs x e E' T' := by
  obtain ⟨a, b, c⟩ := h
  exact ⟨by omega, by omega, by omega⟩
theorem DBs.neg {x e : Int} {E T : Nat} (h : DBs x e E T) : DBs (-x) e E T := by
  obtain ⟨a, b, c⟩ := h
  exact ⟨a, b, by rwa [Int.natAbs_neg]⟩
theorem DBs.mul {x e y f : Int} {E T E' T' : Nat} (h : DBs x e E T) (h' : DBs y f E' T') : DBs (x * y) (e + f) (E + E') (T + T') := by
  obtain ⟨a, b, c⟩ := h
  obtain ⟨a', b', c'⟩ := h'
  have := bl_int_mul x y
  exact ⟨by omega, by omega, by omega⟩
theorem DBs.scale {x e k : Int} {E T : Nat} (h : DBs x e E T) (K : Nat) (hk : -(K : Int) ≤ k ∧ k ≤ K) : DBs x (e + k) (E + K) (T + K) := by
  obtain ⟨a, b, c⟩ := h
  exact ⟨by omega, by omega, by omega⟩
theorem DBs.add {x e y f : Int} {E T : Nat} (h : DBs x e E T) (h' : DBs y f E T) : DBs (dadd x e y f) (min e f) E (T + 1) := by
  obtain ⟨a, b, c⟩ := h
  obtain ⟨a', b', c'⟩ := h'
  have h1 := bl_int_add (x * 2 ^ (e - min e f).toNat) (y * 2 ^ (f - min e f).toNat)
  have h2 := bl_int_shl x (e - min e f).toNat
  have h3 := bl_int_shl y (f - min e f).toNat
  refine ⟨by omega, by omega, ?_⟩
  unfold dadd
  omega
/-- One call of a tree. -/
theorem dv_call {g : Exp} {f : Nat} {xs : List Exp} {n : Nat} {t : TT Unit} {ρ rs : List PV} (hg : g.isTrue ρ = true) (hv : val f (xs.map (Exp.den ρ)) = some rs) (hl : rs.length = n) : (TT.call g f xs n t).dv ρ = t.dv (ρ ++ rs) := by
  simp only [TT.dv, hg, hv, hl, if_true]
theorem dv_skip {g : Exp} {f : Nat} {xs : List Exp} {n : Nat} {t : TT Unit} {ρ : List PV} (hg : g.isTrue ρ = false) : (TT.call g f xs n t).dv ρ = t.dv (ρ ++ List.replicate n default) := by
  simp only [TT.dv, hg, Bool.false_eq_true, if_false]
theorem dv_ite_t {c : Exp} {a b : TT Unit} {ρ : List PV} (hc : c.isTrue ρ = true) : (TT.ite c a b).dv ρ = a.dv ρ := by simp only [TT.dv, hc, if_true]
theorem dv_ite_f {c : Exp} {a b : TT Unit} {ρ : List PV} (hc : c.isTrue ρ = false) : (TT.ite c a b).dv ρ = b.dv ρ := by simp only [TT.dv, hc, Bool.false_eq_true, if_false]
theorem dadd_neg_le {x e y f : Int} (h : DV x e ≤ DV y f) : dadd x e (-y) f ≤ 0 := by
  have h1 := DV_dadd x e (-y) f
  rw [DV_neg] at h1
  have h2 : DV (dadd x e (-y) f) (min e f) ≤ DV 0 (min e f) := by
    rw [h1, show DV 0 (min e f) = 0 by unfold DV; rw [Rat.intCast_zero]; exact Rat.zero_mul _]
    grind
  exact DV_le.1 h2
theorem law_VectorOrder {x y : List Nat} (hx : Words x) (lx : x.length ≤ 17592186043904) (hy : Words y) (ly : y.length ≤ 17592186043904) : val 33 [Vl x, Vl y] = some [Vb true] := by
  refine val_of tab33 ?_
  have d1 := dot_ok hx hy
  have d2 := dot_ok hy hx
  have hc : (if x.length = y.length ∧ x.length ≤ 64 then [Vu (dotV x y), Vi 0] else [Vu 0, Vi 3]) = (if y.length = x.length ∧ y.length ≤ 64 then [Vu (dotV y x), Vi 0] else [Vu 0, Vi 3]) := by
    by_cases h : x.length = y.length ∧ x.length ≤ 64
    · rw [if_pos h, if_pos (by omega)]
      have : dotV x y = dotV y x := by unfold dotV; rw [dotR_comm, h.1]
      rw [this]
    · rw [if_neg h, if_neg (by omega)]
  rw [hc] at d1
  obtain ⟨s, e, hse⟩ : ∃ s : Nat, ∃ e : Int, (if y.length = x.length ∧ y.length ≤ 64 then [Vu (dotV y x), Vi 0] else [Vu 0, Vi 3]) = [Vu s, Vi e] := by split <;> exact ⟨_, _, rfl⟩
  rw [hse] at d1 d2
  have f1 := fits_ok x x
  by_cases hl : x.length ≤ 64
  · rw [if_pos ⟨rfl, hl⟩] at f1
    obtain ⟨b, t1, t2⟩ := tame_ok hx (by omega) (K := 900) (by omega)
    cases b
    · simp [tr33, TT.dv, d1, d2, f1, t1, awake_09]
    · have hT := t2 rfl
      obtain ⟨n1, n2⟩ := norm_ge hx hl hT
      have hn := norm_v_ok hx (by omega)
      rw [if_pos hl] at hn
      have hb := biggest_ok hx (by omega)
      have hmf : bigV x < infR := Nat.lt_of_le_of_lt n2 n1
      generalize normV x = n at *
      generalize bigV x = m at *
      have hi : infR < 9223372036854775808 := by decide
      have lm : m < 18446744073709551616 := by omega
      have ln : n < 18446744073709551616 := by omega
      have ngm : fNeg m = false := by unfold fNeg; simp; omega
      have ngn : fNeg n = false := by unfold fNeg; simp; omega
      have v1 := value_ok lm
      have v2 := value_ok ln
      have hW : W m ≤ W n := (W_le (by omega) (by omega)).2 n2
      have hD : DV (sx m) (fPl m) ≤ DV (sx n) (fPl n) := by rw [DV_sx ngm, DV_sx ngn]; exact hW
      have s1 := subD_ok (DB.word m) (DB.word n)
      have a1 := abs8_ok ln
      rw [show n % 9223372036854775808 = n by omega] at a1
      have c1 := compareD_ok (DB.word n) (DB.word m)
      have c1' : ¬ dcmp (sx n) (fPl n) (sx m) (fPl m) < 0 := by rw [dcmp_lt]; exact fun h => h hD
      have sc := scaleD_ok (DB.word m) (k := -50) (by omega)
      have hd := dadd_neg_le hD
      have dbd := ((DBs.word m).add (DBs.word n).neg).db (by omega) (by omega)
      have dbs := ((DBs.word m).scale (k := -50) 50 (by omega)).db (by omega) (by omega)
      have c2 := compareD_ok dbd dbs
      have c2' : dcmp (dadd (sx m) (fPl m) (-sx n) (fPl n)) (min (fPl m) (fPl n)) (sx m) (fPl m + -50) ≤ 0 := by
        rw [dcmp_le, DV_scale]
        have e1 : DV (dadd (sx m) (fPl m) (-sx n) (fPl n)) (min (fPl m) (fPl n)) ≤ 0 := by
          have := (DV_le (l := min (fPl m) (fPl n))).2 hd
          rwa [show DV 0 (min (fPl m) (fPl n)) = 0 by unfold DV; rw [Rat.intCast_zero]; exact Rat.zero_mul _] at this
        have e2 : 0 ≤ DV (sx m) (fPl m) * P2 (-50) := by
          rw [DV_sx ngm]; exact Rat.mul_nonneg (W_nonneg m) (Rat.le_of_lt (P2_pos _))
        exact Rat.le_trans e1 e2
      generalize dadd (sx m) (fPl m) (-sx n) (fPl n) = d at *
      have es := dS_ok d (min (fPl m) (fPl n))
      obtain ⟨k, ek, ek2⟩ := dL_len d (min (fPl m) (fPl n))
      have hb2 : (!decide (d < 0) && decide (0 < k)) = false := by
        by_cases h : d < 0
        · simp [h]
        · have : k = 0 := ek2.2 (by omega)
          simp [this]
      simp only [es] at s1 c2
      have hb3 : (!decide (d < 0) && decide ((0 : Int) < k)) = false := by
        rw [← hb2]; exact congrArg _ (decide_eq_decide.2 (by omega))
      generalize dcmp (sx n) (fPl n) (sx m) (fPl m) = z1 at *
      generalize dcmp d (min (fPl m) (fPl n)) (sx m) (fPl m + -50) = z2 at *
      generalize dL d (min (fPl m) (fPl n)) = D2 at *
      generalize dE d (min (fPl m) (fPl n)) = D3 at *
      generalize dS (sx m) (fPl m + -50) = S1 at *
      generalize dL (sx m) (fPl m + -50) = S2 at *
      generalize dE (sx m) (fPl m + -50) = S3 at *
      generalize dS (sx m) (fPl m) = M1 at *
      generalize dL (sx m) (fPl m) = M2 at *
      generalize dE (sx m) (fPl m) = M3 at *
      generalize dS (sx n) (fPl n) = N1 at *
      generalize dL (sx n) (fPl n) = N2 at *
      generalize dE (sx n) (fPl n) = N3 at *
      clear hD hd hT hW dbd dbs
      have eg : B.gt.den (U.len.den D2) (Vi 0) = Vb (decide ((k : Int) > 0)) := by rw [ek, gt_i]
      have eg1 : B.lt.den (Vi z1) (Vi 0) = Vb false := by rw [lt_i, decide_eq_false c1']
      have eg2 : B.le.den (Vi z2) (Vi 0) = Vb true := by rw [le_i, decide_eq_true c2']
      have hb4 : (!decide (d < 0) && decide ((k : Int) > 0)) = false := hb3
      clear hb2 hb3 c1' c2' ek ek2 es
      generalize decide (d < 0) = q1 at *
      generalize decide ((k : Int) > 0) = q2 at *
      have eq1 : T3.ite.den (U.not.den (Vb q1)) (Vb q2) (Vb false) = Vb false := by rw [not_b, ite_and, hb4]
      have eq2 : T3.ite.den (T3.ite.den (Vb true) (U.not.den (Vb q1)) (Vb false)) (Vb q2) (Vb false) = Vb false := by rw [ite_true]; exact eq1
      refine Eq.trans (dv_call rfl d1 rfl) ?_
      refine Eq.trans (dv_call rfl d2 rfl) ?_
      refine Eq.trans (dv_ite_f (by simp)) ?_
      refine Eq.trans (dv_call rfl f1 rfl) ?_
      refine Eq.trans (dv_call rfl t1 rfl) ?_
      refine Eq.trans (dv_ite_f rfl) ?_
      refine Eq.trans (dv_call rfl hn rfl) ?_
      refine Eq.trans (dv_call rfl hb rfl) ?_
      refine Eq.trans (dv_call rfl v1 rfl) ?_
      refine Eq.trans (dv_call rfl v2 rfl) ?_
      refine Eq.trans (dv_call rfl s1 rfl) ?_
      refine Eq.trans (dv_call rfl a1 rfl) ?_
      refine Eq.trans (dv_call rfl v2 rfl) ?_
      refine Eq.trans (dv_call rfl v1 rfl) ?_
      refine Eq.trans (dv_call rfl c1 rfl) ?_
      simp only [List.cons_append, List.nil_append]
      refine Eq.trans (dv_call (by simp [-not_b, -lt_i, -gt_i, eg1, eg, eq1]) v1 rfl) ?_
      refine Eq.trans (dv_call (by simp [-not_b, -lt_i, -gt_i, eg1, eg, eq1]) sc rfl) ?_
      refine Eq.trans (dv_call (by simp [-not_b, -lt_i, -gt_i, eg1, eg, eq1]) c2 rfl) ?_
      simp only [List.cons_append, List.nil_append]
      refine Eq.trans (dv_call (by simp [-not_b, -lt_i, -gt_i, -le_i, eg1, eg, eg2, eq1]) awake_09 rfl) ?_
      simp [-not_b, -lt_i, -le_i, -gt_i, TT.dv, eg1, eg2, eg, eq1]
  · rw [if_neg (by simp [hl])] at f1
    simp [tr33, TT.dv, d1, d2, f1, awake_09]
end Go.Proofs.Ytcjhfgjgmkfmnaa.Dx
