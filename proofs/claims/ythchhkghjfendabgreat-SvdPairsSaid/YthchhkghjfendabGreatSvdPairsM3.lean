/- The pure meaning of the functions that the law reaches, and that the law is true of it. No conditions. -/
import Derived.Test.YthchhkghjfendabGreatSvdPairsM2
set_option linter.all false
namespace Go.Proofs.YthchhkghjfendabGreat.Dx
open Go
theorem shifted19_ok (R C : Int) {x : List Nat} (k : Int) (hl : x.length ≤ 1000) : val 298 [Vi R, Vi C, Vl x, Vi k] = some [Vi R, Vi C, Vl (shV x k)] := by
 have lp : ∀ (n : Nat) {i : Nat}, i + n = x.length → rounds (fun vs => lo298_1.dv (Vi R :: Vi C :: Vl x :: Vi k :: vs)) [Vi i, Vl (mk (shG x k) i)] = some (.y (.ext 0) [Vl (shV x k)]) := by
  intro n
  induction n with
  | zero =>
   intro i hi
   have : i = x.length := by omega
   subst this
   refine rounds_exit ?_ (by simp)
   simp [lo298_1, TT.dv, shV]
  | succ n ih =>
   intro i hi
   refine Eq.trans (rounds_cont ?_) (ih (i := i + 1) (by omega))
   have e1 : (B.add .i64).den (Vi i) (Vi 1) = Vi (i + 1) := add_i (by omega) (by omega)
   have g1 := get_V (x := x) (i := i) (by omega)
   have s1 := vshift_ok (el x i) k
   have a1 := app_V (mk (shG x k) i) (shG x k i)
   rw [mk_succ] at a1
   unfold shG at a1 ⊢
   have e2 : (i : Int) + 1 ≤ 17592186044416 := by omega
   simp [lo298_1, TT.dv, show i < x.length by omega, e1, g1, s1, a1, e2]
 refine val_of tab298 ?_
 have h0 := lp x.length (i := 0) (by omega)
 rw [show ((0 : Nat) : Int) = 0 from rfl, show mk (shG x k) 0 = [] from rfl] at h0
 simp [tr298, TT.dv, KS.dv, h0]
theorem shV_mx {r c : Nat} {x : List Nat} (h : Mx r c x) (k : Int) : Mx r c (shV x k) := ⟨h.hr, h.hc, by rw [shV_len, h.len], shV_words h.w k⟩
def nmL (r c : Nat) (w : List Nat) : List Nat := mk (fun cc => normV (colL r c w cc 0)) c
section
variable {r c : Nat} {w : List Nat} (h : Mx r c w)
include h
theorem nmL_words : Words (nmL r c w) := mk_words fun i _ => normV_lt _ (colL_words h i 0)
theorem norms_ok : val 296 [Vi r, Vi c, Vl w] = some [Vl (nmL r c w)] ∧ val 221 [Vi r, Vi c, Vl w] = some [Vl (nmL r c w)] := by
 have hr := h.hr
 have hc := h.hc
 have step : ∀ i, i < c → val 247 [Vi r, Vi c, Vl w, Vi i, Vi 0] = some [Vl (colL r c w i 0)] ∧ val 167 [Vi r, Vi c, Vl w, Vi i, Vi 0] = some [Vl (colL r c w i 0)] ∧ val 314 [Vl (colL r c w i 0)] = some [Vu (normV (colL r c w i 0)), Vi 0] ∧ val 158 [Vl (colL r c w i 0)] = some [Vu (normV (colL r c w i 0))] := fun i hi => by
  have c1 := column_ok h hi (f := 0) (by omega)
  have c2 := column9_ok h hi (f := 0) (by omega)
  rw [show ((0 : Nat) : Int) = 0 from rfl] at c1 c2
  have hl : (colL r c w i 0).length = r := by rw [colL_len]; omega
  have n1 := norm_v_ok (colL_words h i 0) (by omega)
  rw [if_pos (by omega)] at n1
  exact ⟨c1, c2, n1, norm_9_ok (colL_words h i 0) (by omega)⟩
 constructor
 ·have lp : ∀ (n : Nat) {i : Nat}, i + n = c → rounds (fun vs => lo296_1.dv (Vi r :: Vi c :: Vl w :: vs)) [Vi i, Vl (mk (fun cc => normV (colL r c w cc 0)) i)] = some (.y (.ext 0) [Vl (nmL r c w)]) := by
   intro n
   induction n with
   | zero =>
    intro i hi
    have : i = c := by omega
    subst this
    refine rounds_exit ?_ (by simp)
    simp [lo296_1, TT.dv, nmL]
   | succ n ih =>
    intro i hi
    refine Eq.trans (rounds_cont ?_) (ih (i := i + 1) (by omega))
    obtain ⟨s1, s2, s3, s4⟩ := step i (by omega)
    have e1 : (B.add .i64).den (Vi i) (Vi 1) = Vi (i + 1) := add_i (by omega) (by omega)
    have a1 := app_V (mk (fun cc => normV (colL r c w cc 0)) i) (normV (colL r c w i 0))
    rw [show mk (fun cc => normV (colL r c w cc 0)) i ++ [normV (colL r c w i 0)] = _ from mk_succ (fun cc => normV (colL r c w cc 0)) i] at a1
    simp [lo296_1, TT.dv, show i < c by omega, e1, s1, s3, a1, show (i : Int) + 1 ≤ 17592186044416 by omega]
  refine val_of tab296 ?_
  have h0 := lp c (i := 0) (by omega)
  rw [show ((0 : Nat) : Int) = 0 from rfl, show mk (fun cc => normV (colL r c w cc 0)) 0 = [] from rfl] at h0
  simp [tr296, TT.dv, KS.dv, h0]
 ·have lp : ∀ (n : Nat) {i : Nat}, i + n = c → rounds (fun vs => lo221_1.dv (Vi r :: Vi c :: Vl w :: vs)) [Vi i, Vl (mk (fun cc => normV (colL r c w cc 0)) i)] = some (.y (.ext 0) [Vl (nmL r c w)]) := by
   intro n
   induction n with
   | zero =>
    intro i hi
    have : i = c := by omega
    subst this
    refine rounds_exit ?_ (by simp)
    simp [lo221_1, TT.dv, nmL]
   | succ n ih =>
    intro i hi
    refine Eq.trans (rounds_cont ?_) (ih (i := i + 1) (by omega))
    obtain ⟨s1, s2, s3, s4⟩ := step i (by omega)
    have e1 : (B.add .i64).den (Vi i) (Vi 1) = Vi (i + 1) := add_i (by omega) (by omega)
    have a1 := app_V (mk (fun cc => normV (colL r c w cc 0)) i) (normV (colL r c w i 0))
    rw [show mk (fun cc => normV (colL r c w cc 0)) i ++ [normV (colL r c w i 0)] = _ from mk_succ (fun cc => normV (colL r c w cc 0)) i] at a1
    simp [lo221_1, TT.dv, show i < c by omega, e1, s2, s4, a1, show (i : Int) + 1 ≤ 17592186044416 by omega]
  refine val_of tab221 ?_
  have h0 := lp c (i := 0) (by omega)
  rw [show ((0 : Nat) : Int) = 0 from rfl, show mk (fun cc => normV (colL r c w cc 0)) 0 = [] from rfl] at h0
  simp [tr221, TT.dv, KS.dv, h0]
end
section
variable {r c : Nat} {x : List Nat} (h : Mx r c x) {pl : List Int} (hl : pl.length = c) (hp : ∀ k, k < pl.length → 0 ≤ ei pl k ∧ ei pl k < c)
include h hl hp
theorem at_inner {i : Nat} (hi : i < r) {x5 : PV} {acc : List Nat} (ha : acc.length ≤ 1000) : ∀ (n : Nat) {k : Nat}, k + n = pl.length →
  rounds (fun vs => lo295_2.dv (Vi r :: Vi c :: Vl x :: Jl pl :: Vi i :: x5 :: vs)) [Vi k, Vl (acc ++ mk (coG c x pl i) k)] = some (.y (.ext 2) [Vl (acc ++ mk (coG c x pl i) pl.length)]) := by
 intro n
 have hr := h.hr
 have hc := h.hc
 induction n with
 | zero =>
  intro k hk
  have : k = pl.length := by omega
  subst this
  refine rounds_exit ?_ (by simp)
  simp [lo295_2, TT.dv]
 | succ n ih =>
  intro k hk
  have hkc : k < pl.length := by omega
  refine Eq.trans (rounds_cont ?_) (ih (k := k + 1) (by omega))
  have e1 : (B.add .i64).den (Vi k) (Vi 1) = Vi (k + 1) := add_i (by omega) (by omega)
  have g1 := get_J hkc
  obtain ⟨p1, p2⟩ := hp k hkc
  have q1 := pos_i (i := i) (c := c) (k := (ei pl k).toNat) (by omega) (by omega) (by omega)
  rw [show (((ei pl k).toNat : Nat) : Int) = ei pl k by omega] at q1
  have l1 := h.lt hi (k := (ei pl k).toNat) (by omega)
  have g2 := get_V l1
  have a1 := app_V (acc ++ mk (coG c x pl i) k) (coG c x pl i k)
  rw [List.append_assoc, mk_succ] at a1
  have l2 : ((acc.length : Int) + (k + 1)) ≤ 17592186044416 := by omega
  unfold coG at a1 ⊢
  simp [lo295_2, TT.dv, hkc, e1, g1, q1, l1, g2, a1, l2]
theorem at_outer : ∀ (n : Nat) {i : Nat}, i + n = r →
  rounds (fun vs => lo295_1.dv (Vi r :: Vi c :: Vl x :: Jl pl :: vs)) [Vi i, Vl (matL (coG c x pl) i pl.length)] = some (.y (.ext 0) [Vl (coV r c x pl)]) := by
 intro n
 have hr := h.hr
 have hc := h.hc
 induction n with
 | zero =>
  intro i hi
  have : i = r := by omega
  subst this
  refine rounds_exit ?_ (by simp)
  simp [lo295_1, TT.dv, coV]
 | succ n ih =>
  intro i hi
  refine Eq.trans (rounds_cont ?_) (ih (i := i + 1) (by omega))
  have e1 : (B.add .i64).den (Vi i) (Vi 1) = Vi (i + 1) := add_i (by omega) (by omega)
  have hlen : (matL (coG c x pl) i pl.length).length ≤ 1000 := by
   rw [matL_len]
   have : i * pl.length ≤ 6 * 6 := Nat.mul_le_mul (by omega) (by omega)
   omega
  have hin := at_inner h hl hp (i := i) (by omega) (x5 := Vl (matL (coG c x pl) i pl.length)) hlen pl.length (k := 0) (by omega)
  rw [show ((0 : Nat) : Int) = 0 from rfl, show mk (coG c x pl i) 0 = [] from rfl, List.append_nil, matL_succ] at hin
  simp [lo295_1, TT.dv, KS.dv, show i < r by omega, hin, e1]
theorem sat_ok : val 295 [Vi r, Vi c, Vl x, Jl pl] = some [Vi r, Vi c, Vl (coV r c x pl)] := by
 refine val_of tab295 ?_
 have lp := at_outer h hl hp r (i := 0) (by omega)
 rw [show ((0 : Nat) : Int) = 0 from rfl, show matL (coG c x pl) 0 pl.length = [] from rfl] at lp
 simp [tr295, TT.dv, KS.dv, lp]
theorem coV_mx' : Mx r c (coV r c x pl) := by
 have := coV_mx (r := r) (c := c) h (pl := pl) (by have := h.hc; omega)
 rwa [hl] at this
end
structure Cov (c : Nat) (pl : List Int) : Prop where
 len : pl.length = c
 rng : ∀ k, k < pl.length → 0 ≤ ei pl k ∧ ei pl k < c
 sur : ∀ p : Nat, p < c → ∃ k, k < c ∧ ei pl k = p
theorem AllOnce.cov {c : Nat} {pl : List Int} (h : AllOnce c pl) : Cov c pl := ⟨h.len, fun k hk => h.rng k (by have := h.len; omega), h.sur⟩
theorem el_shV {x : List Nat} {k : Int} {i : Nat} (h : i < x.length) : el (shV x k) i = scaleV (el x i) k := by unfold shV; rw [el_mk' h]; rfl
theorem up_first {c : Nat} (hc : c ≤ 6) {x0 x2 x3 x4 x5 x6 x7 x8 x9 x10 x11 x12 x13 x14 x15 x16 x17 x18 x19 x20 x21 x22 x23 : PV} : ∀ (n : Nat) {i : Nat}, i + n = c →
  rounds (fun vs => lo293_1.dv (x0 :: Vi c :: x2 :: x3 :: x4 :: x5 :: x6 :: x7 :: x8 :: x9 :: x10 :: x11 :: x12 :: x13 :: x14 :: x15 :: x16 :: x17 :: x18 :: x19 :: x20 :: x21 :: x22 :: x23 :: vs)) [Vi i, Jl (firL i)] = some (.y (.ext 0) [Jl (firL c)]) := by
 intro n
 induction n with
 | zero =>
  intro i hi
  have : i = c := by omega
  subst this
  refine rounds_exit ?_ (by simp)
  simp [lo293_1, TT.dv]
 | succ n ih =>
  intro i hi
  have hic : i < c := by omega
  refine Eq.trans (rounds_cont ?_) (ih (i := i + 1) (by omega))
  have e1 : (B.add .i64).den (Vi i) (Vi 1) = Vi ((i + 1 : Nat) : Int) := by rw [add_i (by omega) (by omega)]; rfl
  have a1 := app_J (firL i) i
  rw [firL_succ] at a1
  simp [lo293_1, TT.dv, hic, e1, a1, show ((i : Int) + 1) ≤ 17592186044416 by omega]
def upK (a : List Nat) : Int := expB (bigV a)
def upW (a : List Nat) : List Nat := shV a (-upK a)
def upLow (a : List Nat) : Nat := scaleV (normV (upW a)) (-44)
def upS (r c : Nat) (a : List Nat) : Option UP := svAll r c (upLow a) 60 ⟨upW a, eyV c⟩
def upFW (r c : Nat) (a : List Nat) (s : UP) (pl : List Int) : List Nat := shV (coV r c s.W pl) (upK a)
def upFV (c : Nat) (s : UP) (pl : List Int) : List Nat := coV c c s.V pl
def upA (r c : Nat) (a : List Nat) (s : UP) (pl : List Int) : List PV :=
 if finV (upFW r c a s pl) && finV (upFV c s pl) then [Vi r, Vi c, Vl (upFW r c a s pl), Vi c, Vi c, Vl (upFV c s pl), Vl (nmL r c (upFW r c a s pl)), Vi 0] else [Vi 0, Vi 0, Vl [], Vi 0, Vi 0, Vl [], Vl [], Vi 2]
def up0 (e : Int) : List PV := [Vi 0, Vi 0, Vl [], Vi 0, Vi 0, Vl [], Vl [], Vi e]
section
variable {r c : Nat} {a : List Nat} (h : Mx r c a)
include h
theorem up_start : MxU r c ⟨upW a, eyV c⟩ := ⟨shV_mx h _, eyV_mx h.hc⟩
theorem upLow_lt : upLow a < 18446744073709551616 := scaleV_lt (normV_lt _ (shV_words h.w _)) _
theorem upright_ok (hf : finV a = true) : val 293 [Vi r, Vi c, Vl a] = some (match upS r c a with | none => up0 6 | some s => upA r c a s (srtP (nmL r c s.W) (c - 1) 1 (firL c))) := by
 refine val_of tab293 ?_
 have hr := h.hr
 have hc := h.hc
 have hs := h.small
 have h1 := ccheck_ok r c (x := a) (by omega)
 unfold chk at h1
 rw [if_pos (mx_right h), if_pos hf] at h1
 have b1 := biggest_ok h.w (by omega)
 have x1 : val 5 [Vu (bigV a)] = some [Vi (upK a)] := exp_ok
 have hb := expB_bd (bigV a)
 have ng : (U.neg .i64).den (Vi (upK a)) = Vi (-upK a) := neg_i (by unfold upK; omega) (by unfold upK; omega)
 have s1 := shifted19_ok r c (x := a) (-upK a) (by omega)
 have e1 := eye_ok hc
 have hw := shV_words h.w (-upK a)
 have n1 := norm_v_ok hw (by rw [shV_len]; omega)
 rw [if_pos (by rw [shV_len]; omega)] at n1
 have l1 := vshift_ok (normV (upW a)) (-44)
 have lowlt := upLow_lt h
 have rd := srounds_ok lowlt (up_start h)
 rw [show svAll r c (upLow a) 60 ⟨upW a, eyV c⟩ = upS r c a from rfl] at rd
 rw [show shV a (-upK a) = upW a from rfl] at s1 n1
 rw [show scaleV (normV (upW a)) (-44) = upLow a from rfl] at l1
 refine Eq.trans (st_call rfl h1 rfl) ?_
 refine Eq.trans (st_f rfl) ?_
 simp only [List.cons_append, List.nil_append]
 refine Eq.trans (st_call rfl b1 rfl) ?_
 refine Eq.trans (st_call rfl x1 rfl) ?_
 simp only [List.cons_append, List.nil_append]
 refine Eq.trans (st_call rfl (show val 298 [Vi r, Vi c, Vl a, (U.neg .i64).den (Vi (upK a))] = _ from by rw [ng]; exact s1) rfl) ?_
 refine Eq.trans (st_call rfl e1 rfl) ?_
 simp only [List.cons_append, List.nil_append]
 refine Eq.trans (st_call rfl n1 rfl) ?_
 refine Eq.trans (st_call rfl l1 rfl) ?_
 simp only [List.cons_append, List.nil_append]
 cases hS : upS r c a with
 | none =>
  rw [hS] at rd
  obtain ⟨s', rd⟩ := rd
  refine Eq.trans (st_call rfl rd rfl) ?_
  refine Eq.trans (st_t rfl) ?_
  rfl
 | some s =>
  rw [hS] at rd
  have hm := svAll_mx 60 (up_start h) (show svAll r c (upLow a) 60 ⟨upW a, eyV c⟩ = some s from hS)
  have nm := (norms_ok hm.W).1
  have nl : (nmL r c s.W).length = c := by unfold nmL; simp
  have srt := sort_ok hc nl (nmL_words hm.W) (allOnce_first c)
  have hall : AllOnce c (srtP (nmL r c s.W) (c - 1) 1 (firL c)) := by
   rcases Nat.eq_zero_or_pos c with h0 | h0
   ·subst h0; exact allOnce_first 0
   ·exact srtP_all (c - 1) 1 (by omega) (allOnce_first c)
  simp only
  generalize srtP (nmL r c s.W) (c - 1) 1 (firL c) = pl at *
  have cv := hall.cov
  have a1 := sat_ok hm.W (pl := pl) cv.len cv.rng
  have a2 := sat_ok hm.V (pl := pl) cv.len cv.rng
  have m1 := coV_mx' hm.W (pl := pl) cv.len cv.rng
  have m2 := coV_mx' hm.V (pl := pl) cv.len cv.rng
  have s2 := shifted19_ok r c (x := coV r c s.W pl) (upK a) (by have := m1.small; omega)
  have m3 := shV_mx m1 (upK a)
  have f1 := finite_v_ok m3.w (by have := m3.small; omega)
  have f2 := finite_v_ok m2.w (by have := m2.small; omega)
  have n2 := (norms_ok m3).1
  have lp := fun x0 x2 x3 x4 x5 x6 x7 x8 x9 x10 x11 x12 x13 x14 x15 x16 x17 x18 x19 x20 x21 x22 x23 => up_first hc (x0 := x0) (x2 := x2) (x3 := x3) (x4 := x4) (x5 := x5) (x6 := x6) (x7 := x7) (x8 := x8) (x9 := x9) (x10 := x10) (x11 := x11) (x12 := x12) (x13 := x13) (x14 := x14) (x15 := x15) (x16 := x16) (x17 := x17) (x18 := x18) (x19 := x19) (x20 := x20) (x21 := x21) (x22 := x22) (x23 := x23) c (i := 0) (by omega)
  rw [show ((0 : Nat) : Int) = 0 from rfl, show Jl (firL 0) = Vl [] from rfl] at lp
  refine Eq.trans (st_call rfl rd rfl) ?_
  refine Eq.trans (st_f rfl) ?_
  simp only [List.cons_append, List.nil_append]
  refine Eq.trans (st_call rfl nm rfl) ?_
  simp only [List.cons_append, List.nil_append]
  refine Eq.trans (st_loop (lp _ _ _ _ _ _ _ _ _ _ _ _ _ _ _ _ _ _ _ _ _ _ _)) ?_
  refine Eq.trans st_hit ?_
  simp only [List.cons_append, List.nil_append]
  refine Eq.trans (st_call rfl srt rfl) ?_
  refine Eq.trans (st_call rfl a1 rfl) ?_
  simp only [List.cons_append, List.nil_append]
  refine Eq.trans (st_call rfl s2 rfl) ?_
  refine Eq.trans (st_call rfl a2 rfl) ?_
  simp only [List.cons_append, List.nil_append]
  refine Eq.trans (st_call rfl f1 rfl) ?_
  unfold upA upFW upFV
  cases hf1 : finV (shV (coV r c s.W pl) (upK a))
  ·refine Eq.trans (st_skip rfl) ?_
   refine Eq.trans (st_t rfl) ?_
   rfl
  ·refine Eq.trans (st_call rfl f2 rfl) ?_
   cases hf2 : finV (coV c c s.V pl)
   ·refine Eq.trans (st_t rfl) ?_
    rfl
   ·refine Eq.trans (st_f rfl) ?_
    simp only [List.cons_append, List.nil_append]
    refine Eq.trans (st_call rfl n2 rfl) ?_
    rfl
end
theorem svAll_mxU {r c : Nat} {a : List Nat} (h : Mx r c a) {s : UP} (hs : upS r c a = some s) : MxU r c s := svAll_mx 60 (up_start h) hs
section
variable {r c : Nat} {a : List Nat} (h : Mx r c a)
include h
end
theorem W_one8 : W one8 = 1 := W_one
theorem one8_inf : one8 < infR := by decide
theorem sq_word {t : Nat} (h : fPow t ≠ 2047) (hW : W t ≤ P2 300) : mulV t t < infR ∧ Er (W (mulV t t)) (W t * W t) (W t * W t * uu + ee) := by
 obtain ⟨s1, s2⟩ := sq_part h
 have hf : nearR (fMag t * fMag t) (fPl t + fPl t) < infR := near_fin (by
  rw [s2]
  refine Rat.le_trans (rat_sq_le (W_nonneg t) hW) ?_
  rw [← P2_add]; exact P2_mono (by omega))
 obtain ⟨e1, e2⟩ := near_err' hf
 rw [s1]
 rw [s2] at e1 e2
 refine ⟨hf, ?_⟩
 show Er _ _ (W t * W t * (1 / 9007199254740992) + P2 (-1075))
 exact ⟨by grind, by grind⟩
theorem sqrt_one : sqrtV one8 = one8 := by
 have h := sqrt_sq (t := one8) (by decide) (by decide) (by decide) (by decide)
 have e : mulV one8 one8 = one8 := by decide +kernel
 rwa [e] at h
theorem one_sq {t : Nat} (h : fPow t ≠ 2047) (hW : W t ≤ P2 300) : addV one8 (mulV t t) < infR ∧ one8 ≤ addV one8 (mulV t t) ∧ Er (W (addV one8 (mulV t t))) (1 + W (mulV t t)) ((1 + W (mulV t t)) * uu + ee) := by
 obtain ⟨m1, m2⟩ := sq_word h hW
 obtain ⟨N, p, h1, h2⟩ := add_pos one8_inf m1
 obtain ⟨g1, -, -⟩ := add_ge one8_inf m1
 rw [W_one8] at h2
 have hf : nearR N p < infR := near_fin (by
  rw [h2]
  have a1 := rat_sq_le (W_nonneg t) hW
  rw [← P2_add] at a1
  have a2 : (2 : Rat) * P2 (300 + 300) + 2 ≤ P2 1023 := by decide +kernel
  have a3 : uu ≤ 1 := by decide +kernel
  have a4 : ee ≤ 1 := by decide +kernel
  have a5 := Rat.mul_le_mul_of_nonneg_left a3 (rat_sq_nonneg (W t))
  obtain ⟨b1, b2⟩ := m2
  generalize W (mulV t t) = m at *
  generalize W t * W t = y at *
  generalize P2 (300 + 300) = z at *
  generalize P2 1023 = z2 at *
  grind)
 obtain ⟨e1, e2⟩ := near_err' hf
 rw [h2] at e1 e2
 rw [h1]
 refine ⟨hf, by rw [← h1]; exact g1, ?_⟩
 show Er _ _ ((1 + W (mulV t t)) * (1 / 9007199254740992) + P2 (-1075))
 exact ⟨by grind, by grind⟩
theorem w201 : mulV 5512405943901487104 5512405943901487104 = 6417629469002956800 ∧ W 5512405943901487104 = P2 201 ∧ W 6417629469002956800 = P2 402 := by
 refine ⟨by decide +kernel, ?_, ?_⟩
 ·unfold W
  rw [show fMag 5512405943901487104 = 1 * 2 ^ 52 by decide, show fPl 5512405943901487104 = 201 - ((52 : Nat) : Int) by decide, D_scale, D_one]
 ·unfold W
  rw [show fMag 6417629469002956800 = 1 * 2 ^ 52 by decide, show fPl 6417629469002956800 = 402 - ((52 : Nat) : Int) by decide, D_scale, D_one]
theorem svT0_ok {z : Nat} (h : fPow z ≠ 2047) (hW : W z ≤ P2 200) : fPow (svT0 z) ≠ 2047 ∧ W (svT0 z) ≤ 1001 / 1000 := by
 obtain ⟨q1, q2, q3⟩ := one_sq h (Rat.le_trans hW (P2_mono (by omega)))
 obtain ⟨m1, m2⟩ := sq_word h (Rat.le_trans hW (P2_mono (by omega)))
 have hq : addV one8 (mulV z z) ≤ 6417629469002956800 := by
  rw [← W_le (by unfold infR at q1; omega) (by decide), w201.2.2]
  have a1 := rat_sq_le (W_nonneg z) hW
  rw [← P2_add] at a1
  have a2 : (3 : Rat) * P2 (200 + 200) + 1 ≤ P2 402 := by decide +kernel
  have a3 : uu ≤ 1 / 1000 := by decide +kernel
  have a4 : ee ≤ 1 / 1000 := by decide +kernel
  have a5 := Rat.mul_le_mul_of_nonneg_left a3 (rat_sq_nonneg (W z))
  have a6 : (1 : Rat) ≤ P2 (200 + 200) := by decide +kernel
  obtain ⟨b1, b2⟩ := m2
  obtain ⟨c1, c2⟩ := q3
  have a7 := Rat.mul_le_mul_of_nonneg_left a3 (show 0 ≤ 1 + W (mulV z z) by have := W_nonneg (mulV z z); grind)
  generalize W (addV one8 (mulV z z)) = s at *
  generalize W (mulV z z) = m at *
  generalize W z * W z = y at *
  generalize P2 (200 + 200) = w at *
  generalize P2 402 = w2 at *
  grind
 have r1 : sqrtV (addV one8 (mulV z z)) ≤ 5512405943901487104 := by
  have h2 := sqrt_sq (t := 5512405943901487104) (by decide) (by decide) (by decide) (by decide)
  rw [w201.1] at h2
  rw [← h2]
  exact sqrt_mono hq (by decide)
 have r2 : one8 ≤ sqrtV (addV one8 (mulV z z)) := by
  have := sqrt_mono q2 q1
  rwa [sqrt_one] at this
 have r3 : sqrtV (addV one8 (mulV z z)) < infR := Nat.lt_of_le_of_lt r1 (by decide)
 have hz := fin_abs h
 obtain ⟨N, p, h1, h2⟩ := add_pos hz r3
 obtain ⟨-, g2, -⟩ := add_ge hz r3
 have hr : W (sqrtV (addV one8 (mulV z z))) ≤ P2 201 := by
  rw [← w201.2.1, W_le (by unfold infR at r3; omega) (by decide)]; exact r1
 have hf : addV (absV z) (sqrtV (addV one8 (mulV z z))) < infR := by
  rw [h1]
  refine near_fin ?_
  rw [h2, W_abs]
  have a2 : P2 200 + P2 201 ≤ P2 1023 := by decide +kernel
  generalize P2 200 = w0 at *
  generalize P2 201 = w1 at *
  generalize P2 1023 = w2 at *
  grind
 have hge : one8 ≤ addV (absV z) (sqrtV (addV one8 (mulV z z))) := Nat.le_trans r2 g2
 unfold svT0
 generalize addV (absV z) (sqrtV (addV one8 (mulV z z))) = b at *
 obtain ⟨p1, p2, p3, p4⟩ := word_pos hf
 have hb1 : 1 ≤ W b := by rw [← W_one8, W_le (by decide) (by unfold infR at hf; omega)]; exact hge
 obtain ⟨d1, d2, d3⟩ := div_any (a := one8) (b := b) (Q := 1) (by decide) p1 (mag_pos (by grind)) (by rw [W_one8]; grind) (by decide +kernel)
 refine ⟨d1, ?_⟩
 rw [W_one8] at d2
 refine Rat.le_of_mul_le_mul_right (c := W b) ?_ (by grind)
 have a3 : uu ≤ 1 / 10000 := by decide +kernel
 have a4 : ee ≤ 1 / 10000 := by decide +kernel
 have a5 := Rat.mul_le_mul_of_nonneg_right a4 (W_nonneg b)
 obtain ⟨x1, x2⟩ := d2
 generalize W (divV one8 b) * W b = y at *
 grind
theorem svT_ok {z : Nat} (h : fPow z ≠ 2047) (hW : W z ≤ P2 200) : fPow (svT z) ≠ 2047 ∧ W (svT z) ≤ 1001 / 1000 := by
 obtain ⟨h1, h2⟩ := svT0_ok h hW
 unfold svT
 split
 ·obtain ⟨m1, m2⟩ := minus_fields (b := svT0 z) divV_lt
  refine ⟨by rw [m1]; exact h1, ?_⟩
  have : W (fMinus (svT0 z)) = W (svT0 z) := by unfold W fPl; rw [m2, m1]
  rw [this]; exact h2
 ·exact ⟨h1, h2⟩
theorem cs_lin {c2 n2 s Q G u tiny : Rat} (hc : 0 ≤ c2) (hc1 : c2 ≤ 103 / 100) (hs0 : 1 ≤ s) (hu : u ≤ 1 / 1000000) (hu0 : 0 ≤ u) (ht0 : 0 ≤ tiny) (ht : tiny ≤ u * (1 / 1000000))
  (h1 : Er (c2 * n2) 1 (43 / 10 * u)) (h2 : Er n2 s (6 * u * s)) (h3 : Er s (1 + Q) (32 / 10 * u)) (h4 : Er G (c2 * Q) (22 / 10 * u)) : Ab (c2 + G - 1) (20 * u) := by
 obtain ⟨a1, a2⟩ := h1
 obtain ⟨b1, b2⟩ := h2
 obtain ⟨d1, d2⟩ := h3
 obtain ⟨f1, f2⟩ := h4
 have m1 := Rat.mul_le_mul_of_nonneg_left b1 hc
 have m2 := Rat.mul_le_mul_of_nonneg_left b2 hc
 have m3 := Rat.mul_le_mul_of_nonneg_left d1 hc
 have m4 := Rat.mul_le_mul_of_nonneg_left d2 hc
 have k1 := Rat.mul_le_mul_of_nonneg_right hc1 hu0
 have hcs : 0 ≤ c2 * s := Rat.mul_nonneg hc (by grind)
 have k2 := Rat.mul_le_mul_of_nonneg_right hu hcs
 have hx : c2 * s ≤ 101 / 100 := by grind
 have k3 := Rat.mul_le_mul_of_nonneg_left hx hu0
 constructor <;> grind
theorem svC_ok {t : Nat} (hf : fPow t ≠ 2047) (hT : W t ≤ 1001 / 1000) : TurnCS (svC t) (mulV (svC t) t) (20 * uu) := by
 have h300 : (1001 / 1000 : Rat) ≤ P2 300 := by decide +kernel
 obtain ⟨q1, q2, q3⟩ := one_sq hf (Rat.le_trans hT h300)
 obtain ⟨m1, m2⟩ := sq_word hf (Rat.le_trans hT h300)
 have u0 := uu_pos
 have u1 : uu ≤ 1 / 1000000 := by decide +kernel
 obtain ⟨n1, n2⟩ := ee1
 have T0 := W_nonneg t
 have hTT : W t * W t ≤ 1003 / 1000 := by have := rat_sq_le T0 hT; grind
 have hTT0 := rat_sq_nonneg (W t)
 have hTTu : W t * W t * uu ≤ 1003 / 1000 * uu := Rat.mul_le_mul_of_nonneg_right hTT u0
 have hm : W (mulV t t) ≤ 1004 / 1000 := by obtain ⟨a, b⟩ := m2; generalize W (mulV t t) = m at *; generalize W t * W t = y at *; generalize uu = u at *; generalize ee = e at *; grind
 have hm0 := W_nonneg (mulV t t)
 have hs3 : Er (W (addV one8 (mulV t t))) (1 + W t * W t) (32 / 10 * uu) := by
  obtain ⟨a, b⟩ := m2
  obtain ⟨c, d⟩ := q3
  have k1 : (1 + W (mulV t t)) * uu ≤ 2004 / 1000 * uu := Rat.mul_le_mul_of_nonneg_right (by grind) u0
  generalize W (addV one8 (mulV t t)) = s at *
  generalize W (mulV t t) = m at *
  generalize W t * W t = y at *
  generalize uu = u at *
  generalize ee = e at *
  exact ⟨by grind, by grind⟩
 have hsW1 : 1 ≤ W (addV one8 (mulV t t)) := by rw [← W_one8, W_le (by decide) (by unfold infR at q1; omega)]; exact q2
 have hsW2 : W (addV one8 (mulV t t)) ≤ 3 := by obtain ⟨a, b⟩ := hs3; generalize W t * W t = y at *; generalize uu = u at *; grind
 have hle256 : addV one8 (mulV t t) ≤ nearR 256 0 := by
  rw [← W_le (by unfold infR at q1; omega) (by decide), (W_int (c := 256) (by omega)).2]
  have : ((256 : Nat) : Rat) = 256 := rfl
  rw [this]; grind
 have h16 : sqrtV (nearR 256 0) = 4625196817309499392 := by
  have h1 : nearR 256 0 = 4643211215818981376 := by decide
  rw [h1]
  have h2 := sqrt_sq (t := 4625196817309499392) (by decide) (by decide) (by decide) (by decide)
  rw [← h2]
  exact congrArg sqrtV (by decide)
 have hr16 : sqrtV (addV one8 (mulV t t)) ≤ 4625196817309499392 := by rw [← h16]; exact sqrt_mono hle256 (by decide)
 have hrf : sqrtV (addV one8 (mulV t t)) < infR := Nat.lt_of_le_of_lt hr16 (by decide)
 obtain ⟨v1, v2⟩ := root_err q1 (by grind) (by grind) hrf
 have hr1 : one8 ≤ sqrtV (addV one8 (mulV t t)) := by
  have := sqrt_mono q2 q1
  rwa [sqrt_one] at this
 have hn16 : W (sqrtV (addV one8 (mulV t t))) ≤ 16 := by
  have h1 : W 4625196817309499392 = 16 := by
   unfold W D
   rw [show fMag 4625196817309499392 = 2 ^ 52 from by decide, show fPl 4625196817309499392 = -48 from by decide, ← P2_nat, ← P2_add, show ((52 : Nat) : Int) + -48 = ((4 : Nat) : Int) by omega, P2_nat]; rfl
  rw [← h1, W_le (by unfold infR at hrf; omega) (by decide)]; exact hr16
 have hCdef : svC t = divV one8 (sqrtV (addV one8 (mulV t t))) := rfl
 have hC64 : svC t < 18446744073709551616 := divV_lt
 generalize addV one8 (mulV t t) = s at *
 generalize sqrtV s = n at *
 obtain ⟨p1, p2, p3, p4⟩ := word_pos hrf
 have hn1 : 1 ≤ W n := by rw [← W_one8, W_le (by decide) (by unfold infR at hrf; omega)]; exact hr1
 have hn0 : fMag n ≠ 0 := mag_pos (by grind)
 obtain ⟨d1, d2, d3⟩ := div_any (a := one8) (b := n) (Q := 1) (by decide) p1 hn0 (by rw [W_one8]; grind) (by decide +kernel)
 have ds := div_sign (a := one8) (b := n) (by decide) p1 hn0
 rw [p2, show fNeg one8 = false from by decide] at ds
 rw [W_one8] at d2
 rw [← hCdef] at d1 d2 d3 ds
 have hsC := sv_pos ds
 have hcn : Er (W (svC t) * W n) 1 (21 / 10 * uu) := d2.mono (by
  have := Rat.mul_le_mul_of_nonneg_left hn16 n1
  generalize ee = e at *; generalize uu = u at *
  grind)
 have C0 := W_nonneg (svC t)
 have hC1 : W (svC t) ≤ 1001 / 1000 := by
  refine Rat.le_of_mul_le_mul_right (c := W n) ?_ (by grind)
  obtain ⟨a, b⟩ := hcn
  grind
 have hA : Ab (sv (svC t) * sv t) (1003 / 1000) := by
  have := ((sv_ab (svC t)).mono hC1).mul ((sv_ab t).mono hT)
  exact this.mono (by grind)
 have hS := fl_mul d1 hf hA (by decide +kernel)
 have hSe : Er (sv (mulV (svC t) t)) (sv (svC t) * sv t) (1004 / 1000 * uu) := hS.er.mono (by generalize ee = e at *; generalize uu = u at *; grind)
 have hS2 : Er (sv (mulV (svC t) t) * sv (mulV (svC t) t)) (W (svC t) * W (svC t) * (W t * W t)) (22 / 10 * uu) := by
  have := (hSe.sq hA).mono (f := 22 / 10 * uu) (by
   have k1 := Rat.mul_le_mul_of_nonneg_left u1 u0
   generalize uu = u at *; grind)
  have e : sv (svC t) * sv t * (sv (svC t) * sv t) = W (svC t) * W (svC t) * (W t * W t) := by
   rw [← sv_W t, ← sv_W (svC t)]; grind
  rwa [e] at this
 have hc2 : W (svC t) * W (svC t) ≤ 1003 / 1000 := by have := rat_sq_le C0 hC1; grind
 have hcn2 : Er (W (svC t) * W (svC t) * (W n * W n)) 1 (43 / 10 * uu) := by
  have := (hcn.sq (a := 1) ⟨by grind, by grind⟩).mono (f := 43 / 10 * uu) (by
   have k1 := Rat.mul_le_mul_of_nonneg_left u1 u0
   generalize uu = u at *; grind)
  have e : W (svC t) * W n * (W (svC t) * W n) = W (svC t) * W (svC t) * (W n * W n) := by grind
  rwa [e, show (1 : Rat) * 1 = 1 by grind] at this
 have hnn : Er (W n * W n) (W s) (6 * uu * W s) := ⟨v1, v2⟩
 have hone : Ab (W (svC t) * W (svC t) + sv (mulV (svC t) t) * sv (mulV (svC t) t) - 1) (20 * uu) :=
  cs_lin (rat_sq_nonneg _) (by grind) hsW1 u1 u0 (Rat.le_refl) (by grind) hcn2 hnn hs3 hS2
 refine ⟨hC64, hS.lt, d1, hS.fin, by grind, ?_, by rw [sv_W]; exact hone⟩
 refine W_of_sv (hS.bound hA |>.mono ?_)
 generalize ee = e at *; generalize uu = u at *
 grind
theorem fl_scale {b : Nat} (hb : b < 18446744073709551616) (h : fPow b ≠ 2047) {k : Int} (hk : -2300 ≤ k ∧ k ≤ 2300) {A : Rat} (hA : W b * P2 k ≤ A) (hA2 : A ≤ P2 1023) : Fl (scaleV b k) (sv b * P2 k) (A * uu + ee) := by
 rw [scaleV_fin hb h, clamp_id hk]
 refine fl_near ?_ ?_ hA2
 ·rw [sv_D b, ← D_shift]
  cases fNeg b <;> simp <;> grind
 ·have hP := Rat.le_of_lt (P2_pos k)
  have := (sv_ab b).mul (y := P2 k) (b := P2 k) ⟨by grind, Rat.le_refl⟩
  exact this.mono hA
theorem norm_up {x : List Nat} (hx : Words x) (hl : x.length ≤ 64) (hfin : ∀ i, i < x.length → fPow (el x i) ≠ 2047) (h0 : bigV x ≠ 0) (hk : expB (bigV x) ≤ 850) :
  normV x < infR ∧ W (normV x) ≤ 17 * P2 (expB (bigV x)) + ee ∧ (∀ i, i < x.length → W (el x i) ≤ 2 * P2 (expB (bigV x))) ∧ ∃ i, i < x.length ∧ P2 (expB (bigV x)) ≤ W (el x i) := by
 obtain ⟨b1, b2, b3⟩ := bigR_mem (x := x) x.length (i := 0) (m := 0) (fun j _ hj => fin_nan (hfin j (by omega)))
 rw [show bigR x x.length 0 0 = bigV x from rfl] at b1 b2 b3
 obtain ⟨i0, -, i1, i2⟩ := b3.resolve_left h0
 clear b3
 have i1' : i0 < x.length := by omega
 have hmf : bigV x < infR := by rw [← i2]; exact fin_abs (hfin i0 i1')
 obtain ⟨f1, f2, f3, f4⟩ := fields_abs (el x i0)
 rw [i2] at f1 f2 f3 f4
 have hpm : fPow (bigV x) ≠ 2047 := by rw [f3]; exact hfin i0 i1'
 have hm0 : fMag (bigV x) ≠ 0 := fun h => by
  have := (mag_zero (bigV x)).1 h
  unfold fPow fFrac at this; unfold infR at hmf; omega
 obtain ⟨w1, w2⟩ := expB_W hpm hm0
 have hbd := expB_bd (bigV x)
 have hWle : ∀ i, i < x.length → W (el x i) ≤ W (bigV x) := fun i hi => by
  rw [← W_abs (el x i), W_le (absV_lt _) (by unfold infR at hmf; omega)]
  exact b2 i (Nat.zero_le _) (by omega)
 have hn : normV x = scaleV (sqrtV (sqrV x (expB (bigV x)))) (expB (bigV x)) := by unfold normV; rw [if_neg (by omega)]
 have two : P2 (expB (bigV x) + 1) = 2 * P2 (expB (bigV x)) := by
  rw [P2_add, show (1 : Int) = ((1 : Nat) : Int) from rfl, P2_nat]
  have : ((2 ^ 1 : Nat) : Rat) = 2 := rfl
  rw [this]; grind
 rw [two] at w2
 refine ⟨?_, ?_, fun i hi => Rat.le_trans (hWle i hi) (Rat.le_of_lt w2), i0, i1', by rw [← W_abs, i2]; exact w1⟩
 all_goals
  generalize hk2 : expB (bigV x) = k at *
  have hP := parts_of hx (k := k) (by omega) hfin (fun i hi => Rat.le_trans (hWle i hi) (by rw [two]; exact Rat.le_of_lt w2))
  obtain ⟨s1, s2, s3, s4⟩ := sums_ge hP (by omega) x.length (i := 0) (s := 0) (by omega) (by decide) (by rw [show W 0 = 0 by unfold W; rw [show fMag 0 = 0 from by decide, D_zero]]; exact Rat.le_refl)
  rw [show sqrR x k x.length 0 0 = sqrV x k from rfl] at s1 s2
  have hW256 : W (nearR 256 0) = ((256 : Nat) : Rat) := (W_int (by omega)).2
  have hle256 : sqrV x k ≤ nearR 256 0 := by
   rw [← W_le (by unfold infR at s1; omega) (by decide), hW256]
   refine Rat.le_trans s2 (Rat.natCast_le_natCast.2 (by omega))
  have h16 : sqrtV (nearR 256 0) = 4625196817309499392 := by
   have h1 : nearR 256 0 = 4643211215818981376 := by decide
   rw [h1]
   have h2 := sqrt_sq (t := 4625196817309499392) (by decide) (by decide) (by decide) (by decide)
   rw [← h2]
   exact congrArg sqrtV (by decide)
  have hr16 : sqrtV (sqrV x k) ≤ 4625196817309499392 := by rw [← h16]; exact sqrt_mono hle256 (by decide)
  have hrf : sqrtV (sqrV x k) < infR := Nat.lt_of_le_of_lt hr16 (by decide)
  have hWr2 : W (sqrtV (sqrV x k)) ≤ 16 := by
   have h1 : W 4625196817309499392 = 16 := by
    unfold W D
    rw [show fMag 4625196817309499392 = 2 ^ 52 from by decide, show fPl 4625196817309499392 = -48 from by decide, ← P2_nat, ← P2_add, show ((52 : Nat) : Int) + -48 = ((4 : Nat) : Int) by omega, P2_nat]; rfl
   rw [← h1, W_le (by unfold infR at hrf; omega) (by decide)]; exact hr16
  rw [hn]
  generalize sqrtV (sqrV x k) = r at *
  obtain ⟨p1, p2, p3, p4⟩ := word_pos hrf
  have hPk := Rat.le_of_lt (P2_pos k)
  have hm := Rat.mul_le_mul_of_nonneg_right hWr2 hPk
  have hD : D (fMag r) (fPl r + k) = W r * P2 k := by rw [← D_shift]; rfl
  have hb : nearR (fMag r) (fPl r + k) < infR := near_fin (by
   rw [hD]
   have a1 : P2 k ≤ P2 850 := P2_mono hk
   have a2 : 16 * P2 850 ≤ P2 1023 := by decide +kernel
   generalize P2 850 = z at *
   generalize P2 1023 = z2 at *
   grind)
  obtain ⟨e1, e2⟩ := near_err' hb
  rw [scaleV_fin p3 p1, p2, clamp_id (by omega)]
  rw [hD] at e1
 ·exact hb
 ·show W (nearR _ _) ≤ 17 * P2 k + P2 (-1075)
  have := Rat.mul_nonneg (W_nonneg r) hPk
  grind
theorem norm_any {x : List Nat} (hx : Words x) (hl : x.length ≤ 64) (hfin : ∀ i, i < x.length → fPow (el x i) ≠ 2047) (hb : ∀ i, i < x.length → W (el x i) ≤ P2 800) :
  normV x < infR ∧ (∀ M, (∀ i, i < x.length → W (el x i) ≤ M) → 0 ≤ M → W (normV x) ≤ 17 * M + ee) ∧
  ((P2 (-800) ≤ W (normV x) ∨ P2 (-1600) ≤ sumA (fun i => W (el x i)) x.length) → Er (W (normV x) * W (normV x)) (sumA (fun i => W (el x i)) x.length) (150 * uu * sumA (fun i => W (el x i)) x.length)) := by
 by_cases h0 : bigV x = 0
 ·have hn := norm_zero h0
  have := norm_err_g hx hl hfin (fun h => absurd h0 h)
  rw [hn]
  refine ⟨by decide, fun M _ hM => by rw [W_zero_of (by decide)]; have := ee0.1; grind, fun _ => ?_⟩
  rw [hn] at this
  exact this
 ·have hk : expB (bigV x) ≤ 850 := by
   obtain ⟨b1, b2, b3⟩ := bigR_mem (x := x) x.length (i := 0) (m := 0) (fun j _ hj => fin_nan (hfin j (by omega)))
   rw [show bigR x x.length 0 0 = bigV x from rfl] at b1 b2 b3
   obtain ⟨i0, -, i1, i2⟩ := b3.resolve_left h0
   clear b3
   have i1' : i0 < x.length := by omega
   have hmf : bigV x < infR := by rw [← i2]; exact fin_abs (hfin i0 i1')
   obtain ⟨f1, f2, f3, f4⟩ := fields_abs (el x i0)
   rw [i2] at f1 f2 f3 f4
   have hpm : fPow (bigV x) ≠ 2047 := by rw [f3]; exact hfin i0 i1'
   have hm0 : fMag (bigV x) ≠ 0 := fun h => by
    have := (mag_zero (bigV x)).1 h
    unfold fPow fFrac at this; unfold infR at hmf; omega
   obtain ⟨w1, w2⟩ := expB_W hpm hm0
   have h2 := hb i0 i1'
   rw [← W_abs, i2] at h2
   have := P2_le_iff.1 (Rat.le_trans w1 h2)
   omega
  obtain ⟨c1, c2, c3, i, hi, c4⟩ := norm_up hx hl hfin h0 hk
  refine ⟨c1, fun M hM hM0 => ?_, fun hor => ?_⟩
  ·have := Rat.le_trans c4 (hM i hi)
   grind
  ·by_cases hk2 : -900 ≤ expB (bigV x)
   ·exact norm_err_g hx hl hfin (fun _ => ⟨hk2, by omega⟩)
   ·exfalso
    have a1 : P2 (expB (bigV x)) ≤ P2 (-901) := P2_mono (by omega)
    rcases hor with hor | hor
    ·have a2 : 17 * P2 (-901) + ee < P2 (-800) := by decide +kernel
     grind
    ·have a3 : sumA (fun i => W (el x i)) x.length ≤ (x.length : Rat) * (4 * (P2 (-901) * P2 (-901))) := by
      rw [sumA_sumP, ← sumP_const]
      refine sumP_le fun i hi => ?_
      have a4 := rat_sq_le (W_nonneg (el x i)) (Rat.le_trans (c3 i hi) (Rat.mul_le_mul_of_nonneg_left a1 (by decide)))
      grind
     have a5 : ((x.length : Nat) : Rat) ≤ ((64 : Nat) : Rat) := Rat.natCast_le_natCast.2 hl
     have a6 : 0 ≤ 4 * (P2 (-901) * P2 (-901)) := by decide +kernel
     have a7 := Rat.mul_le_mul_of_nonneg_right a5 a6
     have a8 : ((64 : Nat) : Rat) * (4 * (P2 (-901) * P2 (-901))) < P2 (-1600) := by decide +kernel
     have a9 := Rat.le_trans hor (Rat.le_trans a3 a7)
     generalize P2 (-1600) = z at *
     generalize ((64 : Nat) : Rat) * (4 * (P2 (-901) * P2 (-901))) = z2 at *
     grind
theorem ord_lt {a b : Nat} (ha : a < 9223372036854775808) (hb : b < 9223372036854775808) (h : ordI a b < 0) : a < b := by
 unfold ordI at h
 split at h
 ·rw [rk_pos ha, rk_pos hb] at h
  unfold cmp3 at h
  split at h
  ·omega
  ·split at h <;> omega
 ·omega
theorem ord_ge {a b : Nat} (ha : a ≤ infR) (hb : b ≤ infR) (h : ¬ ordI a b < 0) : b ≤ a := by
 unfold ordI at h
 rw [show ordOk a b = true by unfold ordOk; simp [le_inf_nan ha, le_inf_nan hb], if_pos rfl, rk_pos (by unfold infR at ha; omega), rk_pos (by unfold infR at hb; omega)] at h
 unfold cmp3 at h
 split at h
 ·omega
 ·omega
theorem W_mono {a b : Nat} (hb : b < 9223372036854775808) (h : a ≤ b) : W a ≤ W b := (W_le (by omega) hb).2 h
structure Col6 (r : Nat) (x : List Nat) : Prop where
 w : Words x
 len : x.length = r
 r6 : r ≤ 6
 fin : ∀ i, i < x.length → fPow (el x i) ≠ 2047
 b : ∀ i, i < x.length → W (el x i) ≤ 16
theorem Col6.dotQ {r : Nat} {x y : List Nat} (hx : Col6 r x) (hy : Col6 r y) : dotQ x y x.length ≤ 1536 := by
 have h1 : Dx.dotQ x y x.length ≤ sumP (fun _ => 256) x.length := sumP_le fun i hi => by
  have a := hx.b i hi
  have b := hy.b i (by rw [hy.len, ← hx.len]; exact hi)
  have c := Rat.mul_le_mul_of_nonneg_right a (W_nonneg (el y i))
  grind
 rw [sumP_const] at h1
 have a1 : ((x.length : Nat) : Rat) ≤ ((6 : Nat) : Rat) := Rat.natCast_le_natCast.2 (by rw [hx.len]; exact hx.r6)
 have a2 : ((6 : Nat) : Rat) = 6 := rfl
 rw [a2] at a1
 grind
theorem Col6.dot {r : Nat} {x y : List Nat} (hx : Col6 r x) (hy : Col6 r y) : Fl (dotV x y) (dotX x y x.length) (13 * uu * Dx.dotQ x y x.length + 24 * ee) ∧ W (dotV x y) ≤ 1537 := by
 have hq := hx.dotQ hy
 have h0 := dotQ_nonneg x y x.length
 have f := dotV_any hx.fin (fun i hi => hy.fin i (by rw [hy.len, ← hx.len]; exact hi)) (by rw [hx.len]; exact hx.r6) (Rat.le_trans hq (by decide +kernel))
 refine ⟨f, W_of_sv ((f.bound (dotX_ab x y x.length)).mono ?_)⟩
 have h1 := Rat.mul_le_mul_of_nonneg_left hq uu_pos
 have h2 : uu ≤ 1 / 1000000 := by decide +kernel
 have h3 : ee ≤ 1 / 1000000 := by decide +kernel
 generalize Dx.dotQ x y x.length = q at *
 generalize uu = u at *
 generalize ee = e at *
 grind
theorem Col6.norm {r : Nat} {x : List Nat} (hx : Col6 r x) : normV x < infR ∧ W (normV x) ≤ 273 := by
 obtain ⟨h1, h2, -⟩ := norm_any hx.w (by rw [hx.len]; have := hx.r6; omega) hx.fin (fun i hi => Rat.le_trans (hx.b i hi) (by decide +kernel))
 refine ⟨h1, ?_⟩
 have := h2 16 hx.b (by decide)
 have h3 : ee ≤ 1 := by decide +kernel
 grind
theorem svBe_parts {x y : List Nat} {low : Nat} (h : svBe x y low = false) : ordI low (normV x) < 0 ∧ ordI low (normV y) < 0 ∧ ordI (scaleV (mulV (normV x) (normV y)) (-44)) (absV (dotV x y)) < 0 := by
 unfold svBe at h
 simp only [Bool.or_eq_false_iff, Bool.not_eq_false', decide_eq_true_eq] at h
 exact ⟨h.1.1, h.1.2, h.2⟩
theorem be_small {x y : List Nat} {r low : Nat} (hx : Col6 r x) (hy : Col6 r y) : Fl (scaleV (mulV (normV x) (normV y)) (-44)) (W (normV x) * W (normV y) * P2 (-44)) (W (normV x) * W (normV y) * P2 (-44) * (3 * uu) + 2 * ee) ∧ scaleV (mulV (normV x) (normV y)) (-44) < infR := by
 obtain ⟨n1, n2⟩ := hx.norm
 obtain ⟨m1, m2⟩ := hy.norm
 obtain ⟨p1, p2, p3, p4⟩ := word_pos n1
 obtain ⟨q1, q2, q3, q4⟩ := word_pos m1
 have hA : Ab (sv (normV x) * sv (normV y)) (W (normV x) * W (normV y)) := (sv_ab _).mul (sv_ab _)
 have w1 := W_nonneg (normV x)
 have w2 := W_nonneg (normV y)
 have hA2 : W (normV x) * W (normV y) ≤ 273 * 273 := Rat.le_trans (Rat.mul_le_mul_of_nonneg_right n2 w2) (Rat.mul_le_mul_of_nonneg_left m2 (by decide))
 have f1 := fl_mul p1 q1 hA (Rat.le_trans hA2 (by decide +kernel))
 rw [sv_pos p2, sv_pos q2] at f1
 have hprod := Rat.mul_nonneg w1 w2
 have u1 : uu ≤ 1 / 1000000 := by decide +kernel
 have u0 := uu_pos
 obtain ⟨n3, n4⟩ := ee0
 have hWm : W (mulV (normV x) (normV y)) ≤ W (normV x) * W (normV y) * (1 + uu) + ee := W_of_sv ((f1.bound (A := W (normV x) * W (normV y)) ⟨by grind, Rat.le_refl⟩).mono (by grind))
 have h44 : P2 (-44) ≤ 1 / 1000000 ∧ 0 ≤ P2 (-44) := by decide +kernel
 have hm := Rat.mul_le_mul_of_nonneg_right hWm h44.2
 have f2 := fl_scale f1.lt f1.fin (k := -44) (by omega) (A := (W (normV x) * W (normV y) * (1 + uu) + ee) * P2 (-44)) hm (by
  have a1 : (273 * 273 * (1 + 1) + 1) * (1 / 1000000) ≤ P2 1023 := by decide +kernel
  refine Rat.le_trans ?_ a1
  have a2 : W (normV x) * W (normV y) * (1 + uu) + ee ≤ 273 * 273 * (1 + 1) + 1 := by
   have := Rat.mul_le_mul_of_nonneg_left u1 hprod
   grind
  refine Rat.le_trans (Rat.mul_le_mul_of_nonneg_right a2 h44.2) (Rat.mul_le_mul_of_nonneg_left h44.1 (by decide +kernel)))
 have f3 := f2.of (f1.er.mul (Er.refl (P2 (-44))) (a := W (normV x) * W (normV y)) (a' := P2 (-44)) ⟨by grind, Rat.le_refl⟩ ⟨by grind, Rat.le_refl⟩)
 have hs0 : fNeg (mulV (normV x) (normV y)) = false := by
  rw [mulV_fin p1 q1, p2, q2]; exact word_neg _ _ _
 have hsn : fNeg (scaleV (mulV (normV x) (normV y)) (-44)) = false := by
  rw [scaleV_fin f1.lt f1.fin, hs0]; exact word_neg _ _ _
 refine ⟨f3.mono ?_, ?_⟩
 ·have k1 := Rat.mul_nonneg hprod h44.2
  have k2 := Rat.mul_nonneg u0 k1
  have k3 := Rat.mul_le_mul_of_nonneg_left u1 k2
  have k4 := Rat.mul_le_mul_of_nonneg_left h44.1 n3
  have k5 := Rat.mul_le_mul_of_nonneg_right u1 (Rat.mul_nonneg n3 h44.2)
  generalize P2 (-44) = p at *
  generalize W (normV x) * W (normV y) = q at *
  generalize uu = u at *
  generalize ee = e at *
  grind
 ·have ha := fin_abs f2.fin
  have hlt := f2.lt
  have : absV (scaleV (mulV (normV x) (normV y)) (-44)) = scaleV (mulV (normV x) (normV y)) (-44) := by
   have := word_sgn hlt
   rw [hsn] at this; exact this.symm
  rwa [this] at ha
theorem svTurn_ok {x y : List Nat} {r low : Nat} (hx : Col6 r x) (hy : Col6 r y) (hl : low < infR) (hlow : P2 (-45) ≤ W low) (h : svBe x y low = false) : TurnCS (svCC x y) (svSS x y) (20 * uu) := by
 obtain ⟨b1, b2, b3⟩ := svBe_parts h
 obtain ⟨n1, n2⟩ := hx.norm
 obtain ⟨m1, m2⟩ := hy.norm
 obtain ⟨s1, s2⟩ := be_small (low := low) hx hy
 have l1 := ord_lt (by unfold infR at hl; omega) (by unfold infR at n1; omega) b1
 have l2 := ord_lt (by unfold infR at hl; omega) (by unfold infR at m1; omega) b2
 have l3 := ord_lt (by unfold infR at s2; omega) (absV_lt _) b3
 have w1 := Rat.le_trans hlow (W_mono (by unfold infR at n1; omega) (Nat.le_of_lt l1))
 have w2 := Rat.le_trans hlow (W_mono (by unfold infR at m1; omega) (Nat.le_of_lt l2))
 have w3 := W_mono (absV_lt _) (Nat.le_of_lt l3)
 rw [W_abs] at w3
 obtain ⟨dg, dgW⟩ := hx.dot hy
 have hg : P2 (-136) ≤ W (dotV x y) := by
  refine Rat.le_trans ?_ w3
  have a0 : 0 ≤ P2 (-45) := by decide +kernel
  have a1 := Rat.mul_le_mul_of_nonneg_right w1 a0
  have a2 := Rat.mul_le_mul_of_nonneg_left w2 (W_nonneg (normV x))
  have a3 := Rat.le_trans a1 a2
  have a4 : 0 ≤ P2 (-44) := by decide +kernel
  have a5 := Rat.mul_le_mul_of_nonneg_right a3 a4
  obtain ⟨-, hsv⟩ := s1.er
  have hab := (sv_ab (scaleV (mulV (normV x) (normV y)) (-44))).2
  have a6 : P2 (-136) ≤ P2 (-45) * P2 (-45) * P2 (-44) * (1 - 3 * uu) - 2 * ee := by decide +kernel
  have a7 : (0 : Rat) ≤ 1 - 3 * uu := by decide +kernel
  have a8 := Rat.mul_le_mul_of_nonneg_right a5 a7
  generalize W (normV x) * W (normV y) * P2 (-44) = z at *
  generalize P2 (-45) * P2 (-45) * P2 (-44) = z2 at *
  grind
 obtain ⟨dx, dxW⟩ := hx.dot hx
 obtain ⟨dy, dyW⟩ := hy.dot hy
 have hnum := fl_sub dy.fin dx.fin dx.lt ((sv_ab (dotV y y)).sub (sv_ab (dotV x x)) |>.mono (b := 3074) (by grind)) (by decide +kernel)
 have hnumW : W (subV (dotV y y) (dotV x x)) ≤ 3075 := W_of_sv ((hnum.bound ((sv_ab (dotV y y)).sub (sv_ab (dotV x x)) |>.mono (b := 3074) (by grind))).mono (by decide +kernel))
 have hden := fl_add dg.fin dg.fin ((sv_ab (dotV x y)).add (sv_ab (dotV x y))) (by
  have a1 : (1537 : Rat) + 1537 ≤ P2 1023 := by decide +kernel
  generalize P2 1023 = z at *
  grind)
 have hdenW : P2 (-136) ≤ W (addV (dotV x y) (dotV x y)) := by
  have a1 : ee ≤ P2 (-136) * (1 / 1000) := by decide +kernel
  have a2 : uu ≤ 1 / 1000 := by decide +kernel
  have a3 := Rat.mul_le_mul_of_nonneg_left a2 (W_nonneg (dotV x y))
  have a4 := sv_ab (addV (dotV x y) (dotV x y))
  obtain ⟨e1, e2⟩ := hden.er
  obtain ⟨f1, f2⟩ := a4
  rcases sv_cases (dotV x y) with ⟨_, hs⟩ | ⟨_, hs⟩
  ·rw [hs] at e1 e2; grind
  ·rw [hs] at e1 e2; grind
 have hden0 : fMag (addV (dotV x y) (dotV x y)) ≠ 0 := mag_pos (by have : 0 < P2 (-136) := P2_pos _; grind)
 obtain ⟨d1, d2, d3⟩ := div_any (a := subV (dotV y y) (dotV x x)) (b := addV (dotV x y) (dotV x y)) (Q := P2 150) hnum.fin hden.fin hden0 (by
  have a1 : (3075 : Rat) ≤ P2 150 * P2 (-136) := by decide +kernel
  have a2 := Rat.mul_le_mul_of_nonneg_left hdenW (show 0 ≤ P2 150 by decide +kernel)
  grind) (by decide +kernel)
 obtain ⟨t1, t2⟩ := svT_ok (z := svZ x y) d1 (by
  unfold svZ
  have : 2 * P2 150 + ee ≤ P2 200 := by decide +kernel
  exact Rat.le_trans d3 this)
 exact svC_ok t1 t2
def one2 : Nat → Nat → Rat := fun i k => if i = k then 1 else 0
theorem mm_one {n : Nat} (X : Nat → Nat → Rat) {i k : Nat} (hk : k < n) : mm n X one2 i k = X i k := by
 unfold mm one2
 rw [sum_pick hk (fun j _ h => by rw [if_neg h]; grind), if_pos rfl]; grind
theorem fn_one {n : Nat} (h : n ≤ 6) : FN n n one2 (5 / 2) := by
 refine FN.of (by decide +kernel) ?_
 have e : sum2 n n (fun i k => one2 i k * one2 i k) = (n : Rat) := by
  unfold sum2
  rw [sumP_congr (q := fun _ => 1) fun i hi => by
   rw [sum_pick hi (fun k _ hk => by dsimp only; unfold one2; rw [if_neg (fun hh => hk hh.symm)]; grind)]
   dsimp only
   unfold one2
   rw [if_pos rfl]
   grind, sumP_const]
  grind
 rw [e]
 have a1 : ((n : Nat) : Rat) ≤ ((6 : Nat) : Rat) := Rat.natCast_le_natCast.2 h
 have a2 : ((6 : Nat) : Rat) = 6 := rfl
 rw [a2] at a1
 grind
theorem mvl_eye {n i k : Nat} (hi : i < n) (hk : k < n) : mvl n (eyV n) i k = one2 i k := by
 unfold mvl eyV one2
 rw [el_matL _ hi hk]
 unfold eyG
 split
 ·exact sv_one
 ·exact sv_zero (by decide)
theorem one_turned {p q : Nat} (hpq : p ≠ q) (C S : Rat) (i k : Nat) : rop (cop one2 p q C S) p q C S i k = (C * C + S * S - 1) * (if i = k ∧ (i = p ∨ i = q) then 1 else 0) + one2 i k := by
 unfold rop cop one2
 by_cases h1 : i = p
 ·by_cases h3 : k = p
  ·subst h1; subst h3; simp [hpq, hpq.symm]; grind
  ·by_cases h4 : k = q
   ·subst h1; subst h4; simp [hpq, hpq.symm]; grind
   ·have : ¬ i = k := by omega
    have a1 : ¬ p = k := by omega
    have a2 : ¬ q = k := by omega
    simp [h1, h3, h4, a1, a2, hpq, hpq.symm]
 ·by_cases h2 : i = q
  ·by_cases h3 : k = p
   ·subst h2; subst h3; simp [h1, hpq, hpq.symm]; grind
   ·by_cases h4 : k = q
    ·subst h2; subst h4; simp [h1, hpq, hpq.symm]; grind
    ·have a1 : ¬ p = k := by omega
     have a2 : ¬ q = k := by omega
     simp [h2, h3, h4, a1, a2, hpq, hpq.symm]
     grind
  ·by_cases h3 : k = p
   ·simp [h1, h2, h3]
   ·by_cases h4 : k = q
    ·simp [h1, h2, h4, hpq.symm]; grind
    ·simp [h1, h2, h3, h4]; grind
theorem gram_turned {n p q : Nat} (hp : p < n) (hq : q < n) (hpq : p ≠ q) (hn : n ≤ 6) {C S g : Rat} (hg : Ab (C * C + S * S - 1) g) {V F : Nat → Nat → Rat} {v f e : Rat} (hv : FN n n V v) (hf : FN n n F f) (he : FN n n (fun i k => mm n (trp V) V i k - one2 i k) e) :
  FN n n (fun i k => mm n (trp fun i k => cop V p q C S i k + F i k) (fun i k => cop V p q C S i k + F i k) i k - one2 i k) ((1 + g) * ((1 + g) * e) + (g * (3 / 2) + ((1 + g) * v * f + (f * ((1 + g) * v) + f * f)))) := by
 have hc := FN.cop hpq C S hp hq hv hg
 have k1 := FN.rop hpq C S hp hq (FN.cop hpq C S hp hq he hg) hg
 have k2 : FN n n (fun i k => (C * C + S * S - 1) * (if i = k ∧ (i = p ∨ i = q) then 1 else 0)) (g * (3 / 2)) := FN.smul _ hg (FN.of (by decide +kernel) (by
  have e1 : sum2 n n (fun i k => (if i = k ∧ (i = p ∨ i = q) then (1 : Rat) else 0) * (if i = k ∧ (i = p ∨ i = q) then 1 else 0)) = 2 := by
   unfold sum2
   rw [sumP_congr (q := fun i => if i = p ∨ i = q then 1 else 0) fun i hi => by
    rw [sum_pick hi (fun k _ hk => by dsimp only; rw [if_neg (fun hh => hk hh.1.symm)]; grind)]
    dsimp only
    by_cases h : i = p ∨ i = q
    ·have h2 : i = i ∧ (i = p ∨ i = q) := ⟨rfl, h⟩
     rw [if_pos h2, if_pos h]; grind
    ·have h2 : ¬ (i = i ∧ (i = p ∨ i = q)) := fun hh => h hh.2
     rw [if_neg h2, if_neg h]; grind]
   rw [sum_pq (g := fun _ => 0) hp hq hpq (fun k _ h1 h2 => by simp [h1, h2]), sumP_zero]
   simp
   grind
  rw [e1]; grind))
 have k3 := hc.tr.mul hf
 have k4 := hf.tr.mul hc
 have k5 := hf.tr.mul hf
 refine (k1.add (k2.add (k3.add (k4.add k5)))).congr fun i k hi hk => ?_
 have e1 : mm n (trp fun i k => cop V p q C S i k + F i k) (fun i k => cop V p q C S i k + F i k) i k = mm n (trp (cop V p q C S)) (cop V p q C S) i k + mm n (trp (cop V p q C S)) F i k + (mm n (trp F) (cop V p q C S) i k + mm n (trp F) F i k) := by
  rw [mm_addr]
  show mm n (fun i k => trp (cop V p q C S) i k + trp F i k) _ i k + mm n (fun i k => trp (cop V p q C S) i k + trp F i k) _ i k = _
  rw [mm_addl, mm_addl]
  grind
 have e2 : mm n (trp (cop V p q C S)) (cop V p q C S) i k = rop (cop (mm n (trp V) V) p q C S) p q C S i k := by
  rw [cop_tr, mm_rop hpq]
  unfold rop
  rw [mm_cop hpq, mm_cop hpq, mm_cop hpq]
 have e3 : rop (cop (mm n (trp V) V) p q C S) p q C S i k = rop (cop (fun i k => mm n (trp V) V i k - one2 i k) p q C S) p q C S i k + rop (cop one2 p q C S) p q C S i k := by
  unfold rop cop
  generalize mm n (trp V) V = M
  by_cases h1 : i = p <;> by_cases h2 : i = q <;> by_cases h3 : k = p <;> by_cases h4 : k = q <;> simp only [h1, h2, h3, h4, if_true, if_false] <;> grind
 have e4 := one_turned hpq C S i k
 show rop (cop (fun i k => mm n (trp V) V i k - one2 i k) p q C S) p q C S i k + _ = _
 rw [e1, e2, e3, e4]
 grind
theorem TurnCS.neg {C S : Nat} {g : Rat} (h : TurnCS C S g) : TurnCS C (fMinus S) g := by
 obtain ⟨m1, m2⟩ := minus_fields h.sl
 have hW : W (fMinus S) = W S := by unfold W fPl; rw [m2, m1]
 refine ⟨h.cl, (minus_neg h.sl).2.2.2, h.cf, by rw [m1]; exact h.sf, h.c1, by rw [hW]; exact h.s1, ?_⟩
 have := h.one
 rw [sv_minus h.sl]
 have e : -sv S * -sv S = sv S * sv S := by grind
 rw [e]; exact this
structure UI (r c : Nat) (A0 : Nat → Nat → Rat) (B : Rat) (m : Nat) (s : UP) : Prop where
 mx : MxU r c s
 fw : Fin2 r c s.W
 fv : Fin2 c c s.V
 nw : FN r c (mvl c s.W) (B * (1 + 40 * uu * m))
 nv : FN c c (mvl c s.V) (5 / 2 * (1 + 40 * uu * m))
 er : FN r c (fun i k => mvl c s.W i k - mm c A0 (mvl c s.V) i k) (B * (40 * uu * m))
 og : FN c c (fun i k => mm c (trp (mvl c s.V)) (mvl c s.V) i k - one2 i k) (170 * uu * m)
theorem um_small {m : Nat} (hm : m ≤ 900) : 0 ≤ uu * (m : Rat) ∧ uu * (m : Rat) ≤ 1 / 1000000000 ∧ (0 : Rat) ≤ m := by
 have h0 : (0 : Rat) ≤ m := Rat.natCast_nonneg
 have h1 : (m : Rat) ≤ ((900 : Nat) : Rat) := Rat.natCast_le_natCast.2 hm
 have h2 := Rat.mul_le_mul_of_nonneg_left h1 uu_pos
 have h3 : uu * ((900 : Nat) : Rat) ≤ 1 / 1000000000 := by decide +kernel
 exact ⟨Rat.mul_nonneg uu_pos h0, Rat.le_trans h2 h3, h0⟩
theorem UI.mono {r c : Nat} {A0 : Nat → Nat → Rat} {B : Rat} {m m' : Nat} {s : UP} (hB : 0 ≤ B) (h : UI r c A0 B m s) (hm : m ≤ m') : UI r c A0 B m' s := by
 have h1 : (m : Rat) ≤ (m' : Rat) := Rat.natCast_le_natCast.2 hm
 have h2 := Rat.mul_le_mul_of_nonneg_left h1 uu_pos
 have h3 := Rat.mul_le_mul_of_nonneg_left h2 hB
 refine ⟨h.mx, h.fw, h.fv, h.nw.mono ?_, h.nv.mono ?_, h.er.mono ?_, h.og.mono ?_⟩ <;> grind
theorem ui_turn {r c : Nat} {A0 : Nat → Nat → Rat} {B : Rat} {m : Nat} {s : UP} (hm : m ≤ 900) (hB1 : 1 ≤ B) (hB : B ≤ 15) (hA : FN r c A0 B) (h : UI r c A0 B m s) {p q : Nat} (hp : p < c) (hq : q < c) (hpq : p ≠ q) {C S : Nat} (hcs : TurnCS C S (20 * uu)) :
  UI r c A0 B (m + 1) ⟨colV r c s.W p q C S, colV c c s.V p q C S⟩ := by
 obtain ⟨t0, t1, m0⟩ := um_small hm
 have u0 := uu_pos
 obtain ⟨n1, n2⟩ := ee1
 have hB0 : 0 ≤ B := by grind
 have uB := Rat.mul_nonneg u0 hB0
 have uB1 := Rat.mul_le_mul_of_nonneg_left hB1 u0
 have tB := Rat.mul_le_mul_of_nonneg_left t1 uB
 have tB0 := Rat.mul_le_mul_of_nonneg_right t1 hB0
 have big : (100 : Rat) ≤ P2 900 := by decide +kernel
 have hu : uu ≤ 1 / 1000000000 := by decide +kernel
 obtain ⟨w1, w2⟩ := col_err h.mx.W h.fw hcs hp hq hpq h.nw (by generalize P2 900 = z at *; grind)
 obtain ⟨v1, v2⟩ := col_err h.mx.V h.fv hcs hp hq hpq h.nv (by generalize P2 900 = z at *; grind)
 have cw := FN.cop hpq (sv C) (sv S) hp hq h.nw hcs.one
 have cv := FN.cop hpq (sv C) (sv S) hp hq h.nv hcs.one
 have ce := FN.cop hpq (sv C) (sv S) hp hq h.er hcs.one
 have hgr := gram_turned hp hq hpq h.mx.V.hc hcs.one h.nv v2 h.og
 have eW : ∀ i k, mvl c (colV r c s.W p q C S) i k = cop (mvl c s.W) p q (sv C) (sv S) i k + (mvl c (colV r c s.W p q C S) i k - cop (mvl c s.W) p q (sv C) (sv S) i k) := fun i k => by grind
 have eV : ∀ i k, mvl c (colV c c s.V p q C S) i k = cop (mvl c s.V) p q (sv C) (sv S) i k + (mvl c (colV c c s.V p q C S) i k - cop (mvl c s.V) p q (sv C) (sv S) i k) := fun i k => by grind
 have hcast : ((m + 1 : Nat) : Rat) = (m : Rat) + 1 := nat_rat m
 refine ⟨⟨colV_mx h.mx.W hcs.cl hcs.sl hp hq, colV_mx h.mx.V hcs.cl hcs.sl hp hq⟩, w1, v1, ?_, ?_, ?_, ?_⟩
 ·refine ((cw.add w2).mono ?_).congr fun i k _ _ => (eW i k).symm
  rw [hcast]
  generalize (m : Rat) = M at *
  generalize ee = e at *
  have k1 : uu * (uu * M * B) ≤ uu * (1 / 1000000000 * B) := Rat.mul_le_mul_of_nonneg_left tB0 u0
  generalize uu = u at *
  grind
 ·refine ((cv.add v2).mono ?_).congr fun i k _ _ => (eV i k).symm
  rw [hcast]
  generalize (m : Rat) = M at *
  generalize ee = e at *
  have k1 : uu * (uu * M) ≤ uu * (1 / 1000000000) := Rat.mul_le_mul_of_nonneg_left t1 u0
  generalize uu = u at *
  grind
 ·have kA := hA.mul v2
  refine ((ce.add (w2.sub kA)).mono ?_).congr fun i k _ _ => ?_
  ·rw [hcast]
   generalize (m : Rat) = M at *
   have k1 : uu * (uu * M * B) ≤ uu * (1 / 1000000000 * B) := Rat.mul_le_mul_of_nonneg_left tB0 u0
   have k2 : B * ee ≤ B * (uu * (1 / 1000000000)) := Rat.mul_le_mul_of_nonneg_left n2 hB0
   generalize ee = e at *
   generalize uu = u at *
   grind
  ·have e1 : mm c A0 (mvl c (colV c c s.V p q C S)) i k = cop (mm c A0 (mvl c s.V)) p q (sv C) (sv S) i k + mm c A0 (fun i k => mvl c (colV c c s.V p q C S) i k - cop (mvl c s.V) p q (sv C) (sv S) i k) i k := by
    rw [← mm_cop hpq, ← mm_addr]
    exact mm_congr (fun _ _ => rfl) (fun j _ => eV j k)
   have e2 : cop (fun i k => mvl c s.W i k - mm c A0 (mvl c s.V) i k) p q (sv C) (sv S) i k = cop (mvl c s.W) p q (sv C) (sv S) i k - cop (mm c A0 (mvl c s.V)) p q (sv C) (sv S) i k := by
    unfold cop
    by_cases h1 : k = p
    ·simp only [if_pos h1]; grind
    ·by_cases h2 : k = q
     ·simp only [if_neg h1, if_pos h2]; grind
     ·simp only [if_neg h1, if_neg h2]
   rw [e1, e2]
   grind
 ·refine (hgr.mono ?_).congr fun i k _ _ => ?_
  ·rw [hcast]
   generalize (m : Rat) = M at *
   have k1 : uu * (uu * M) ≤ uu * (1 / 1000000000) := Rat.mul_le_mul_of_nonneg_left t1 u0
   have hf0 : 0 ≤ 9 * uu * (5 / 2 * (1 + 40 * uu * M)) + 20 * ee := v2.1
   have hf : 9 * uu * (5 / 2 * (1 + 40 * uu * M)) + 20 * ee ≤ 226 / 10 * uu := by
    generalize ee = e at *
    generalize uu = u at *
    grind
   have hv0 := cv.1
   have hv : (1 + 20 * uu) * (5 / 2 * (1 + 40 * uu * M)) ≤ 251 / 100 := by
    generalize ee = e at *
    generalize uu = u at *
    grind
   have p1 := Rat.mul_le_mul_of_nonneg_right hv hf0
   have p2 := Rat.mul_le_mul_of_nonneg_left hf (show (0 : Rat) ≤ 251 / 100 by decide +kernel)
   have p3 := Rat.mul_le_mul_of_nonneg_right hf hf0
   have p4 := Rat.mul_le_mul_of_nonneg_left hf (show (0 : Rat) ≤ 226 / 10 * uu by grind)
   have p5 := Rat.mul_le_mul_of_nonneg_left hu u0
   generalize 9 * uu * (5 / 2 * (1 + 40 * uu * M)) + 20 * ee = f at *
   generalize (1 + 20 * uu) * (5 / 2 * (1 + 40 * uu * M)) = v at *
   generalize ee = e at *
   have k3 : uu * (uu * (uu * M)) ≤ uu * (uu * (1 / 1000000000)) := Rat.mul_le_mul_of_nonneg_left k1 u0
   generalize uu = u at *
   grind
  ·have e1 : mm c (trp (mvl c (colV c c s.V p q C S))) (mvl c (colV c c s.V p q C S)) i k = mm c (trp fun i k => cop (mvl c s.V) p q (sv C) (sv S) i k + (mvl c (colV c c s.V p q C S) i k - cop (mvl c s.V) p q (sv C) (sv S) i k)) (fun i k => cop (mvl c s.V) p q (sv C) (sv S) i k + (mvl c (colV c c s.V p q C S) i k - cop (mvl c s.V) p q (sv C) (sv S) i k)) i k :=
    mm_congr (fun j _ => eV j i) (fun j _ => eV j k)
   rw [e1]
theorem um_B {B : Rat} {m : Nat} (hm : m ≤ 900) (hB1 : 1 ≤ B) (hB : B ≤ 15) : B * (1 + 40 * uu * m) ≤ 16 := by
 obtain ⟨t0, t1, m0⟩ := um_small hm
 have := Rat.mul_le_mul_of_nonneg_left t1 (show 0 ≤ B by grind)
 generalize (m : Rat) = M at *
 generalize uu = u at *
 grind
theorem ui_col {r c : Nat} {A0 : Nat → Nat → Rat} {B : Rat} {m : Nat} {s : UP} (hm : m ≤ 900) (hB1 : 1 ≤ B) (hB : B ≤ 15) (h : UI r c A0 B m s) {p : Nat} (hp : p < c) : Col6 r (colL r c s.W p 0) := by
 have hl : (colL r c s.W p 0).length = r := by rw [colL_len]; omega
 have e : ∀ i, i < r → el (colL r c s.W p 0) i = el s.W (ps i c p) := fun i hi => by rw [el_colL (by omega)]; rw [Nat.zero_add]
 refine ⟨colL_words h.mx.W _ _, hl, h.mx.W.hr, fun i hi => ?_, fun i hi => ?_⟩
 ·rw [hl] at hi; rw [e i hi]; exact h.fw i p hi hp
 ·rw [hl] at hi; rw [e i hi]
  exact W_of_sv ((h.nw.at hi hp).mono (um_B hm hB1 hB))
def tri : Nat → Nat
 | 0 => 0
 | n + 1 => n + tri n
theorem tri15 {n : Nat} (h : n ≤ 6) : tri n ≤ 15 := by
 match n, h with
 | 0, _ => decide
 | 1, _ => decide
 | 2, _ => decide
 | 3, _ => decide
 | 4, _ => decide
 | 5, _ => decide
 | 6, _ => decide
section
variable {r c low : Nat} {A0 : Nat → Nat → Rat} {B : Rat} (hB1 : 1 ≤ B) (hB : B ≤ 15) (hA : FN r c A0 B) (hl : low < infR) (hlow : P2 (-45) ≤ W low)
include hB1 hB hA hl hlow
theorem ui_S {m : Nat} (hm : m ≤ 900) {p q : Nat} (hq : q < c) (hpq : p < q) {s : UP × Bool} (h : UI r c A0 B m s.1) : UI r c A0 B (m + 1) (svS r c low p q s).1 := by
 unfold svS
 cases hb : svBe (colL r c s.1.W p 0) (colL r c s.1.W q 0) low
 ·simp only [Bool.false_eq_true, if_false]
  exact ui_turn hm hB1 hB hA h (show p < c by omega) hq (by omega) (svTurn_ok (ui_col hm hB1 hB h (by omega)) (ui_col hm hB1 hB h hq) hl hlow hb).neg
 ·simp only [if_true]
  exact h.mono (by grind) (by omega)
theorem ui_In {p : Nat} : ∀ (n q m : Nat) {s : UP × Bool}, q + n ≤ c → p < q → m + n ≤ 900 → UI r c A0 B m s.1 → UI r c A0 B (m + n) (svIn r c low p n q s).1
 | 0, _, _, _, _, _, _, h => h
 | n + 1, q, m, s, hq, hpq, hm, h => by
  have := ui_In (p := p) n (q + 1) (m + 1) (by omega) (by omega) (by omega) (ui_S hB1 hB hA hl hlow (m := m) (by omega) (show q < c by omega) hpq h)
  rw [show m + (n + 1) = m + 1 + n by omega]
  exact this
theorem ui_Out : ∀ (n p m : Nat) {s : UP × Bool}, p + n = c → m + tri n ≤ 900 → UI r c A0 B m s.1 → UI r c A0 B (m + tri n) (svOut r c low n p s).1
 | 0, _, _, _, _, _, h => h
 | n + 1, p, m, s, hp, hm, h => by
  unfold svOut
  have ht : tri (n + 1) = n + tri n := rfl
  rw [ht] at hm
  have h1 := ui_In hB1 hB hA hl hlow (p := p) n (p + 1) m (s := s) (by omega) (by omega) (by omega) h
  have := ui_Out n (p + 1) (m + n) (by omega) (by omega) h1
  rw [show c - (p + 1) = n by omega, ht, ← Nat.add_assoc]
  exact this
theorem ui_Rd (hc : c ≤ 6) {m : Nat} (hm : m + 15 ≤ 900) {s : UP} (h : UI r c A0 B m s) : UI r c A0 B (m + 15) (svRd r c low s).1 := by
 have ht := tri15 hc
 have := ui_Out hB1 hB hA hl hlow c 0 m (s := (s, true)) (by omega) (by omega) h
 exact this.mono (by grind) (by omega)
end
theorem svS_still {r c low p q : Nat} {s : UP × Bool} (h : (svS r c low p q s).2 = true) : svBe (colL r c s.1.W p 0) (colL r c s.1.W q 0) low = true ∧ svS r c low p q s = s := by
 unfold svS at h ⊢
 cases hb : svBe (colL r c s.1.W p 0) (colL r c s.1.W q 0) low
 ·rw [hb] at h; simp at h
 ·simp
theorem svIn_still {r c low p : Nat} : ∀ (n q : Nat) {s : UP × Bool}, (svIn r c low p n q s).2 = true → svIn r c low p n q s = s ∧ ∀ k, q ≤ k → k < q + n → svBe (colL r c s.1.W p 0) (colL r c s.1.W k 0) low = true
 | 0, q, s, _ => ⟨rfl, fun k h1 h2 => by omega⟩
 | n + 1, q, s, h => by
  unfold svIn at h ⊢
  obtain ⟨a1, a2⟩ := svIn_still n (q + 1) h
  rw [a1] at h
  obtain ⟨b1, b2⟩ := svS_still h
  rw [b2] at a1 a2
  rw [b2]
  refine ⟨a1, fun k h1 h2 => ?_⟩
  rcases Nat.eq_or_lt_of_le h1 with h3 | h3
  ·subst h3; exact b1
  ·exact a2 k (by omega) (by omega)
theorem svOut_still {r c low : Nat} : ∀ (n p : Nat) {s : UP × Bool}, p + n = c → (svOut r c low n p s).2 = true → svOut r c low n p s = s ∧ ∀ i k, p ≤ i → i < k → k < c → svBe (colL r c s.1.W i 0) (colL r c s.1.W k 0) low = true
 | 0, p, s, hp, _ => ⟨rfl, fun i k h1 h2 h3 => by omega⟩
 | n + 1, p, s, hp, h => by
  unfold svOut at h ⊢
  obtain ⟨a1, a2⟩ := svOut_still n (p + 1) (by omega) h
  rw [a1] at h
  obtain ⟨b1, b2⟩ := svIn_still _ _ h
  rw [b1] at a1 a2
  rw [b1]
  refine ⟨a1, fun i k h1 h2 h3 => ?_⟩
  rcases Nat.eq_or_lt_of_le h1 with h4 | h4
  ·subst h4; exact b2 k (by omega) (by omega)
  ·exact a2 i k (by omega) h2 h3
theorem svRd_still {r c low : Nat} {s : UP} (h : (svRd r c low s).2 = true) : (svRd r c low s).1 = s ∧ ∀ i k, i < k → k < c → svBe (colL r c s.W i 0) (colL r c s.W k 0) low = true := by
 unfold svRd at h ⊢
 obtain ⟨a1, a2⟩ := svOut_still c 0 (s := (s, true)) (by omega) h
 rw [a1]
 exact ⟨rfl, fun i k h1 h2 => a2 i k (by omega) h1 h2⟩
theorem svAll_still {r c low : Nat} : ∀ (n : Nat) {s s' : UP}, svAll r c low n s = some s' → ∀ i k, i < k → k < c → svBe (colL r c s'.W i 0) (colL r c s'.W k 0) low = true
 | 0, _, _, h => by cases h
 | n + 1, s, s', h => by
  unfold svAll at h
  cases hb : (svRd r c low s).2
  ·rw [hb] at h
   exact svAll_still n h
  ·rw [hb] at h
   simp only [if_true] at h
   obtain ⟨a1, a2⟩ := svRd_still hb
   rw [a1] at h
   cases h
   exact a2
theorem ui_All {r c low : Nat} {A0 : Nat → Nat → Rat} {B : Rat} (hB1 : 1 ≤ B) (hB : B ≤ 15) (hA : FN r c A0 B) (hl : low < infR) (hlow : P2 (-45) ≤ W low) (hc : c ≤ 6) : ∀ (n m : Nat) {s s' : UP}, m + n * 15 ≤ 900 → UI r c A0 B m s → svAll r c low n s = some s' → UI r c A0 B (m + n * 15) s'
 | 0, _, _, _, _, _, h => by cases h
 | n + 1, m, s, s', hm, hi, h => by
  unfold svAll at h
  have h1 := ui_Rd hB1 hB hA hl hlow hc (m := m) (by omega) hi
  cases hb : (svRd r c low s).2
  ·rw [hb] at h
   have := ui_All hB1 hB hA hl hlow hc n (m + 15) (by omega) h1 h
   rw [show m + (n + 1) * 15 = m + 15 + n * 15 by omega]
   exact this
  ·rw [hb] at h
   simp only [if_true] at h
   cases h
   exact h1.mono (by grind) (by omega)
theorem ui_start {r c : Nat} {a : List Nat} (h : Mx r c a) (hf : Fin2 r c (upW a)) {B : Rat} (hB : FN r c (mvl c (upW a)) B) : UI r c (mvl c (upW a)) B 0 ⟨upW a, eyV c⟩ := by
 have z : ((0 : Nat) : Rat) = 0 := rfl
 have hfe : Fin2 c c (eyV c) := fun i k hi hk => by
  unfold eyV
  rw [el_matL _ hi hk]
  unfold eyG
  split <;> decide
 have hone : FN c c (mvl c (eyV c)) (5 / 2) := (fn_one h.hc).congr fun i k hi hk => (mvl_eye hi hk).symm
 refine ⟨up_start h, hf, hfe, hB.mono ?_, hone.mono ?_, ?_, ?_⟩
 ·rw [z]; grind
 ·rw [z]; grind
 ·rw [z]
  refine ((FN.zero r c).mono ?_).congr fun i k hi hk => ?_
  ·grind
  ·have e : mm c (mvl c (upW a)) (mvl c (eyV c)) i k = mvl c (upW a) i k := by
    rw [← mm_one (n := c) (mvl c (upW a)) (i := i) hk]
    exact mm_congr (fun _ _ => rfl) fun j hj => mvl_eye hj hk
   show (0 : Rat) = mvl c (upW a) i k - mm c (mvl c (upW a)) (mvl c (eyV c)) i k
   rw [e]; grind
 ·rw [z]
  refine ((FN.zero c c).mono ?_).congr fun i k hi hk => ?_
  ·grind
  ·have e : mm c (trp (mvl c (eyV c))) (mvl c (eyV c)) i k = one2 i k := by
    rw [← mm_one (n := c) one2 (i := i) hk]
    refine mm_congr (fun j hj => ?_) fun j hj => mvl_eye hj hk
    show mvl c (eyV c) j i = one2 i j
    rw [mvl_eye hj hi]
    unfold one2
    by_cases hh : j = i
    ·rw [if_pos hh, if_pos hh.symm]
    ·rw [if_neg hh, if_neg (fun h => hh h.symm)]
   show (0 : Rat) = mm c (trp (mvl c (eyV c))) (mvl c (eyV c)) i k - one2 i k
   rw [e]; grind
def ortX (r c : Nat) (q : List Nat) (i k : Nat) : Rat := mm r (trp (mvl c q)) (mvl c q) i k - one2 i k
section
variable {r c : Nat} {q : List Nat} (h : Mx r c q)
include h
end
theorem tame_scaled {b : Nat} (hb : b < 18446744073709551616) {K k : Int} (hf : fPow b ≠ 2047) (h : fMag b = 0 ∨ (-K ≤ expB b ∧ expB b < K)) (hk : -400 ≤ k ∧ k ≤ 400) (hK : K ≤ 400) :
  fPow (scaleV b (-k)) ≠ 2047 ∧ sv b = sv (scaleV b (-k)) * P2 k ∧ W (scaleV b (-k)) = W b * P2 (-k) ∧ (fMag b = 0 → scaleV b (-k) = b) := by
 have hPP : P2 (-k) * P2 k = 1 := by rw [← P2_add, show -k + k = 0 by omega, P2_zero]
 by_cases hm : fMag b = 0
 ·rw [scaleV_nought hf hm, sv_zero hm, W_zero_of hm]
  exact ⟨hf, by grind, by grind, fun _ => rfl⟩
 ·obtain ⟨e1, e2⟩ := h.resolve_left hm
  have nn := normal_of_exp hf hm (by omega)
  obtain ⟨g1, g2, g3, g4, g5, g6⟩ := scale_exact hb nn hf (k := -k) (by omega) (by omega) (by omega)
  have hs : fNeg (scaleV b (-k)) = fNeg b := by rw [scaleV_fin hb hf]; exact word_neg _ _ _
  refine ⟨g3, ?_, g5, fun h => absurd h hm⟩
  rw [sv_of (b := scaleV b (-k)) rfl, sv_of (b := b) rfl, hs, g5]
  cases fNeg b <;> simp <;> grind
structure UpT (r c : Nat) (a : List Nat) : Prop where
 k : -102 ≤ upK a ∧ upK a ≤ 102
 fin : Fin2 r c (upW a)
 val : ∀ i k, i < r → k < c → mvl c a i k = mvl c (upW a) i k * P2 (upK a)
 le2 : ∀ t, t < a.length → W (el (upW a) t) ≤ 2
 one : bigV a ≠ 0 → ∃ t, t < a.length ∧ 1 ≤ W (el (upW a) t)
 zero : bigV a = 0 → ∀ t, t < a.length → W (el (upW a) t) = 0 ∧ W (el a t) = 0
theorem upT {r c : Nat} {a : List Nat} (h : Mx r c a) (hT : TameP a 100) : UpT r c a := by
 have hfin : ∀ i, i < a.length → fPow (el a i) ≠ 2047 := fun i hi => (hT i hi).1
 have hl : a.length ≤ 64 := by have := h.small; omega
 have hel : ∀ t, t < a.length → el (upW a) t = scaleV (el a t) (-upK a) := fun t ht => el_shV ht
 have key : -102 ≤ upK a ∧ upK a ≤ 102 := by
  by_cases h0 : bigV a = 0
  ·have : upK a = 0 := by unfold upK; rw [h0]; rfl
   omega
  ·have hb := tame_big hT h0
   rw [show expB (bigV a) = upK a from rfl] at hb
   omega
 have sc : ∀ t, t < a.length → fPow (el (upW a) t) ≠ 2047 ∧ sv (el a t) = sv (el (upW a) t) * P2 (upK a) ∧ W (el (upW a) t) = W (el a t) * P2 (-upK a) ∧ (fMag (el a t) = 0 → el (upW a) t = el a t) := fun t ht => by
  rw [hel t ht]
  exact tame_scaled (h.w.el t) (hT t ht).1 (hT t ht).2 (by omega) (by omega)
 have hP := P2_pos (-upK a)
 have hPP : P2 (upK a) * P2 (-upK a) = 1 := by rw [← P2_add, show upK a + -upK a = 0 by omega, P2_zero]
 have hz : bigV a = 0 → ∀ t, t < a.length → W (el a t) = 0 := fun h0 t ht => by
  obtain ⟨b1, b2, b3⟩ := bigR_mem (x := a) a.length (i := 0) (m := 0) (fun j _ hj => fin_nan (hfin j (by omega)))
  rw [show bigR a a.length 0 0 = bigV a from rfl] at b1 b2 b3
  have := b2 t (Nat.zero_le _) (by omega)
  rw [h0] at this
  rw [← W_abs, show absV (el a t) = 0 by omega]
  exact W_zero_of (by decide)
 refine ⟨key, fun i k hi hk => (sc _ (h.lt hi hk)).1, fun i k hi hk => (sc _ (h.lt hi hk)).2.1, fun t ht => ?_, fun h0 => ?_, fun h0 t ht => ⟨?_, hz h0 t ht⟩⟩
 ·rw [(sc t ht).2.2.1]
  by_cases h0 : bigV a = 0
  ·rw [hz h0 t ht]; grind
  ·obtain ⟨-, -, n3, -⟩ := norm_up h.w hl hfin h0 (by rw [show expB (bigV a) = upK a from rfl]; omega)
   rw [show expB (bigV a) = upK a from rfl] at n3
   have := Rat.mul_le_mul_of_nonneg_right (n3 t ht) (Rat.le_of_lt hP)
   grind
 ·obtain ⟨-, -, -, i0, hi0, n4⟩ := norm_up h.w hl hfin h0 (by rw [show expB (bigV a) = upK a from rfl]; omega)
  rw [show expB (bigV a) = upK a from rfl] at n4
  refine ⟨i0, hi0, ?_⟩
  rw [(sc i0 hi0).2.2.1]
  have := Rat.mul_le_mul_of_nonneg_right n4 (Rat.le_of_lt hP)
  grind
 ·rw [(sc t ht).2.2.1, hz h0 t ht]; grind
theorem sum2_W {r c : Nat} {x : List Nat} (h : Mx r c x) : sum2 r c (fun i k => mvl c x i k * mvl c x i k) = sumA (fun i => W (el x i)) x.length := by
 rw [sumA_sumP, h.len, sumP_grid (fun t => W (el x t) * W (el x t)) c r]
 exact sum2_congr fun i k _ _ => sv_W _
structure UpB (r c : Nat) (a : List Nat) (B : Rat) : Prop where
 b1 : 1 ≤ B
 b15 : B ≤ 15
 fn : FN r c (mvl c (upW a)) B
 le : B * B ≤ 1001 / 1000 * sumA (fun i => W (el (upW a) i)) a.length
 lowf : upLow a < infR
 low1 : P2 (-45) ≤ W (upLow a)
 low2 : W (upLow a) ≤ 1001 / 1000 * B * P2 (-44)
theorem upB {r c : Nat} {a : List Nat} (h : Mx r c a) (T : UpT r c a) (h0 : bigV a ≠ 0) : ∃ B, UpB r c a B := by
 have hm : Mx r c (upW a) := shV_mx h _
 have hlen : (upW a).length = a.length := by unfold upW; rw [shV_len]
 have hsm := h.small
 have hfin : ∀ i, i < (upW a).length → fPow (el (upW a) i) ≠ 2047 := finV_iff.1 ((fin2_iff hm).2 T.fin)
 obtain ⟨n1, -, n3⟩ := norm_any hm.w (by omega) hfin (fun i hi => Rat.le_trans (T.le2 i (by omega)) (by decide +kernel))
 have hS1 : 1 ≤ sumA (fun i => W (el (upW a) i)) (upW a).length := by
  obtain ⟨t, ht, hw⟩ := T.one h0
  have := sumA_ge (fun i => W (el (upW a) i)) (show t < (upW a).length by omega)
  have h2 := rat_sq_le (by decide) hw
  grind
 have hS2 : sumA (fun i => W (el (upW a) i)) (upW a).length ≤ 144 := by
  rw [sumA_sumP]
  refine Rat.le_trans (sumP_le (q := fun _ => 4) fun i hi => ?_) ?_
  ·have := rat_sq_le (W_nonneg (el (upW a) i)) (T.le2 i (by omega))
   grind
  ·rw [sumP_const]
   have : (((upW a).length : Nat) : Rat) ≤ ((36 : Nat) : Rat) := Rat.natCast_le_natCast.2 (by omega)
   have e : ((36 : Nat) : Rat) = 36 := rfl
   rw [e] at this
   grind
 have hn := n3 (.inr (Rat.le_trans (by decide +kernel) hS1))
 have hfn : sum2 r c (fun i k => mvl c (upW a) i k * mvl c (upW a) i k) = sumA (fun i => W (el (upW a) i)) (upW a).length := sum2_W hm
 obtain ⟨p1, p2, p3, p4⟩ := word_pos n1
 have w0 := W_nonneg (normV (upW a))
 have u1 : uu ≤ 1 / 1000000000 := by decide +kernel
 have u0 := uu_pos
 rw [hlen] at hfn hn hS1 hS2
 generalize hN : sumA (fun i => W (el (upW a) i)) a.length = N at *
 have huN := Rat.mul_le_mul_of_nonneg_right u1 (show 0 ≤ N by grind)
 obtain ⟨q1, q2⟩ := hn
 have hnn1 : 999 / 1000 ≤ W (normV (upW a)) := by
  rcases Rat.le_total (a := 999 / 1000) (b := W (normV (upW a))) with hh | hh
  ·exact hh
  ·have := rat_sq_le w0 hh
   generalize W (normV (upW a)) * W (normV (upW a)) = nn at *
   grind
 have hn13 : W (normV (upW a)) ≤ 13 := by
  refine (Ab.of_sq (a := 13) (by decide +kernel) ?_).2
  generalize W (normV (upW a)) * W (normV (upW a)) = nn at *
  grind
 have hB1 : (1 : Rat) ≤ 10001 / 10000 * W (normV (upW a)) + 0 ∨ True := .inr trivial
 clear hB1
 have h1001 : 1 ≤ W (normV (upW a)) * (1 + 1 / 1000000) := by
  have h3 : (1 - 150 * uu) ≤ W (normV (upW a)) * W (normV (upW a)) := by
   have k1 : 1 - 150 * uu ≤ N - 150 * uu * N := by
    have := Rat.mul_le_mul_of_nonneg_right (show 0 ≤ 1 - 150 * uu by decide +kernel) (show 0 ≤ N - 1 by grind)
    have := Rat.mul_nonneg (show 0 ≤ 1 - 150 * uu by decide +kernel) (show 0 ≤ N - 1 by grind)
    grind
   grind
  rcases Rat.le_total (a := 1) (b := W (normV (upW a)) * (1 + 1 / 1000000)) with hh | hh
  ·exact hh
  ·have h4 := rat_sq_le (Rat.mul_nonneg w0 (by decide +kernel)) hh
   have h5 : (1 : Rat) < (1 - 150 * uu) * ((1 + 1 / 1000000) * (1 + 1 / 1000000)) := by decide +kernel
   have h6 := Rat.mul_le_mul_of_nonneg_right h3 (show (0 : Rat) ≤ (1 + 1 / 1000000) * (1 + 1 / 1000000) by decide +kernel)
   have e : W (normV (upW a)) * (1 + 1 / 1000000) * (W (normV (upW a)) * (1 + 1 / 1000000)) = W (normV (upW a)) * W (normV (upW a)) * ((1 + 1 / 1000000) * (1 + 1 / 1000000)) := by grind
   rw [e] at h4
   generalize W (normV (upW a)) * W (normV (upW a)) * ((1 + 1 / 1000000) * (1 + 1 / 1000000)) = z at *
   generalize (1 - 150 * uu) * ((1 + 1 / 1000000) * (1 + 1 / 1000000)) = z2 at *
   grind
 have hlowA : W (normV (upW a)) * P2 (-44) ≤ 1 := by
  have := Rat.mul_le_mul_of_nonneg_right hn13 (show 0 ≤ P2 (-44) by decide +kernel)
  have h2 : 13 * P2 (-44) ≤ 1 := by decide +kernel
  grind
 have fl := fl_scale p3 p1 (k := -44) (by omega) (A := W (normV (upW a)) * P2 (-44)) Rat.le_refl (Rat.le_trans hlowA (by decide +kernel))
 rw [sv_pos p2, show scaleV (normV (upW a)) (-44) = upLow a from rfl] at fl
 have hln : fNeg (upLow a) = false := by
  show fNeg (scaleV (normV (upW a)) (-44)) = false
  rw [scaleV_fin p3 p1, p2]; exact word_neg _ _ _
 have hlW := sv_pos hln
 have hlowf : upLow a < infR := by
  have ha := fin_abs fl.fin
  have : absV (upLow a) = upLow a := by
   have := word_sgn fl.lt
   rw [hln] at this; exact this.symm
  rwa [this] at ha
 have e44 : 0 ≤ P2 (-44) := by decide +kernel
 have hnp := Rat.mul_nonneg w0 e44
 have hup := Rat.mul_le_mul_of_nonneg_right u1 hnp
 obtain ⟨g1, g2⟩ := fl.er
 rw [hlW] at g1 g2
 refine ⟨W (normV (upW a)) * (1 + 1 / 1000000), ⟨h1001, by grind, ?_, ?_, hlowf, ?_, ?_⟩⟩
 ·refine FN.of (Rat.mul_nonneg w0 (by decide +kernel)) ?_
  rw [hfn]
  have e : W (normV (upW a)) * (1 + 1 / 1000000) * (W (normV (upW a)) * (1 + 1 / 1000000)) = W (normV (upW a)) * W (normV (upW a)) * ((1 + 1 / 1000000) * (1 + 1 / 1000000)) := by grind
  rw [e]
  generalize W (normV (upW a)) * W (normV (upW a)) = nn at *
  grind
 ·have e : W (normV (upW a)) * (1 + 1 / 1000000) * (W (normV (upW a)) * (1 + 1 / 1000000)) = W (normV (upW a)) * W (normV (upW a)) * ((1 + 1 / 1000000) * (1 + 1 / 1000000)) := by grind
  rw [e]
  generalize W (normV (upW a)) * W (normV (upW a)) = nn at *
  grind
 ·have a1 : P2 (-45) ≤ 999 / 1000 * P2 (-44) * (1 - uu) - ee := by decide +kernel
  have a2 := Rat.mul_le_mul_of_nonneg_right hnn1 e44
  have a3 := Rat.mul_le_mul_of_nonneg_right a2 (show 0 ≤ 1 - uu by decide +kernel)
  generalize W (normV (upW a)) * P2 (-44) = z at *
  generalize 999 / 1000 * P2 (-44) = z2 at *
  grind
 ·have a1 : ee ≤ 1 / 1000000 * (999 / 1000 * P2 (-44)) := by decide +kernel
  have a2 := Rat.mul_le_mul_of_nonneg_right hnn1 e44
  generalize W (normV (upW a)) = n at *
  generalize P2 (-44) = p at *
  grind
theorem sum_perm {c : Nat} {f : Nat → Rat} {π : Nat → Nat} (hπ : ∀ j, j < c → π j < c) (hi : ∀ j j', j < c → j' < c → π j = π j' → j = j') (hf : ∀ j, j < c → 0 ≤ f j) : sumP (fun j => f (π j)) c ≤ sumP f c := by
 have e1 : sumP (fun j => f (π j)) c = sumP (fun j => sumP (fun l => if π j = l then f l else 0) c) c := sumP_congr fun j hj => by
  rw [sum_pick (hπ j hj) (fun k _ hk => by rw [if_neg (fun hh => hk hh.symm)])]
  simp
 rw [e1, sumP_swap (fun j l => if π j = l then f l else 0) c c]
 refine sumP_le fun l hl => ?_
 by_cases hh : ∃ j, j < c ∧ π j = l
 ·obtain ⟨j, hj, rfl⟩ := hh
  rw [sum_pick hj (fun k hk hk2 => by rw [if_neg (fun hh => hk2 (hi k j hk hj hh))])]
  simp
 ·rw [sumP_congr (q := fun _ => 0) fun j hj => by rw [if_neg (fun hh2 => hh ⟨j, hj, hh2⟩)], sumP_zero]
  exact hf l hl
theorem FN.perm {r c : Nat} {X : Nat → Nat → Rat} {b : Rat} {π : Nat → Nat} (hπ : ∀ j, j < c → π j < c) (hi : ∀ j j', j < c → j' < c → π j = π j' → j = j') (h : FN r c X b) : FN r c (fun i k => X i (π k)) b :=
 FN.of h.1 (Rat.le_trans (sumP_le fun i _ => sum_perm (f := fun k => X i k * X i k) hπ hi fun j _ => rat_sq_nonneg _) h.sq)
theorem FN.cells {r c : Nat} (hr : r ≤ 6) (hc : c ≤ 6) {X Y : Nat → Nat → Rat} {α β b : Rat} (hα : 0 ≤ α) (hβ : 0 ≤ β) (hY : FN r c Y b) (h : ∀ i k, i < r → k < c → ∃ y, y * y = Y i k * Y i k ∧ Ab (X i k) (α * y + β)) : FN r c X (3 / 2 * α * b + 9 * β) := by
 have h0 := Rat.mul_nonneg hα hY.1
 refine FN.of (by grind) ?_
 have h1 : sum2 r c (fun i k => X i k * X i k) ≤ sum2 r c (fun i k => 2 * (α * α) * (Y i k * Y i k) + 2 * (β * β)) := sum2_le fun i k hi hk => by
  obtain ⟨y, hy, ha⟩ := h i k hi hk
  have h2 := (ha.mul ha).2
  have h3 := rat_sq_nonneg (α * y - β)
  rw [← hy]
  grind
 have h2 : sum2 r c (fun i k => 2 * (α * α) * (Y i k * Y i k) + 2 * (β * β)) = 2 * (α * α) * sum2 r c (fun i k => Y i k * Y i k) + (r : Rat) * ((c : Rat) * (2 * (β * β))) := by
  unfold sum2
  rw [← sumP_mul, ← sumP_const, ← sumP_add]
  exact sumP_congr fun i _ => by rw [sumP_add, sumP_mul, sumP_const]
 rw [h2] at h1
 have hr6 : ((r : Nat) : Rat) ≤ ((6 : Nat) : Rat) := Rat.natCast_le_natCast.2 hr
 have hc6 : ((c : Nat) : Rat) ≤ ((6 : Nat) : Rat) := Rat.natCast_le_natCast.2 hc
 have e6 : ((6 : Nat) : Rat) = 6 := rfl
 rw [e6] at hr6 hc6
 have hbb := Rat.mul_nonneg hβ hβ
 have hr0 : (0 : Rat) ≤ r := Rat.natCast_nonneg
 have a1 := Rat.mul_le_mul_of_nonneg_right hc6 (show 0 ≤ 2 * (β * β) by grind)
 have a2 := Rat.mul_le_mul_of_nonneg_left a1 hr0
 have a3 := Rat.mul_le_mul_of_nonneg_right hr6 (show 0 ≤ 6 * (2 * (β * β)) by grind)
 have a4 := Rat.mul_le_mul_of_nonneg_left hY.sq (show 0 ≤ 2 * (α * α) by have := Rat.mul_nonneg hα hα; grind)
 have a5 := Rat.mul_nonneg h0 hβ
 have a6 := Rat.mul_nonneg h0 h0
 generalize sum2 r c (fun i k => Y i k * Y i k) = z at *
 generalize (r : Rat) * ((c : Rat) * (2 * (β * β))) = z2 at *
 grind
theorem big_zero {x : List Nat} (h : ∀ i, i < x.length → fPow (el x i) ≠ 2047 ∧ W (el x i) = 0) : bigV x = 0 := by
 obtain ⟨b1, b2, b3⟩ := bigR_mem (x := x) x.length (i := 0) (m := 0) (fun j _ hj => fin_nan (h j (by omega)).1)
 rw [show bigR x x.length 0 0 = bigV x from rfl] at b1 b2 b3
 rcases b3 with h0 | ⟨i0, -, i1, i2⟩
 ·exact h0
 ·rw [← i2]
  refine W_eq (absV_lt _) (by decide) ?_
  rw [W_abs, (h i0 (by omega)).2, W_zero_of (by decide)]
theorem be_zero {x y : List Nat} (h : normV x = 0) : svBe x y 0 = true := by
 unfold svBe
 rw [h, show decide (ordI 0 0 < 0) = false by decide]
 rfl
theorem svIn_be {r c low p : Nat} {s : UP × Bool} : ∀ (n q : Nat), (∀ k, q ≤ k → k < q + n → svBe (colL r c s.1.W p 0) (colL r c s.1.W k 0) low = true) → svIn r c low p n q s = s
 | 0, _, _ => rfl
 | n + 1, q, h => by
  have h1 : svS r c low p q s = s := by unfold svS; rw [h q (Nat.le_refl _) (by omega)]; rfl
  unfold svIn
  rw [h1]
  exact svIn_be n (q + 1) fun k h2 h3 => h k (by omega) (by omega)
theorem svOut_be {r c low : Nat} {s : UP × Bool} : ∀ (n p : Nat), p + n = c → (∀ i k, i < k → k < c → svBe (colL r c s.1.W i 0) (colL r c s.1.W k 0) low = true) → svOut r c low n p s = s
 | 0, _, _, _ => rfl
 | n + 1, p, hp, h => by
  unfold svOut
  rw [svIn_be _ _ fun k h2 h3 => h p k (by omega) (by omega)]
  exact svOut_be n (p + 1) (by omega) h
theorem up_inv {r c : Nat} {a : List Nat} (h : Mx r c a) (hT : TameP a 100) {s : UP} (hS : upS r c a = some s) :
  (bigV a ≠ 0 → ∃ B, UpB r c a B ∧ UI r c (mvl c (upW a)) B 900 s) ∧ (bigV a = 0 → s = ⟨upW a, eyV c⟩) := by
 have T := upT h hT
 refine ⟨fun h0 => ?_, fun h0 => ?_⟩
 ·obtain ⟨B, hB⟩ := upB h T h0
  refine ⟨B, hB, ?_⟩
  exact ui_All hB.b1 hB.b15 hB.fn hB.lowf hB.low1 h.hc 60 0 (by omega) (ui_start h T.fin hB.fn) hS
 ·have hm : Mx r c (upW a) := shV_mx h _
  have hlen : (upW a).length = a.length := by unfold upW; rw [shV_len]
  have hz : normV (upW a) = 0 := norm_zero (big_zero fun i hi => ⟨finV_iff.1 ((fin2_iff hm).2 T.fin) i hi, (T.zero h0 i (by omega)).1⟩)
  have hlow : upLow a = 0 := by unfold upLow; rw [hz]; exact scaleV_nought (by decide) (by decide) _
  have hbe : ∀ i k, i < k → k < c → svBe (colL r c (upW a) i 0) (colL r c (upW a) k 0) (upLow a) = true := fun i k h1 h2 => by
   rw [hlow]
   refine be_zero (norm_zero (big_zero fun j hj => ?_))
   have hl : (colL r c (upW a) i 0).length = r := by rw [colL_len]; omega
   rw [hl] at hj
   rw [el_colL (by omega), Nat.zero_add]
   exact ⟨T.fin j i hj (by omega), (T.zero h0 _ (h.lt hj (by omega))).1⟩
  have hrd : svRd r c (upLow a) ⟨upW a, eyV c⟩ = (⟨upW a, eyV c⟩, true) := svOut_be c 0 (by omega) hbe
  unfold upS at hS
  unfold svAll at hS
  rw [hrd] at hS
  simp only [if_true] at hS
  exact (Option.some.inj hS).symm
def pi (pl : List Int) (j : Nat) : Nat := (ei pl j).toNat
theorem pi_lt {c : Nat} {pl : List Int} (h : AllOnce c pl) {j : Nat} (hj : j < c) : pi pl j < c := by have := h.rng j hj; unfold pi; omega
theorem pi_inj {c : Nat} {pl : List Int} (h : AllOnce c pl) (j j' : Nat) (hj : j < c) (hj' : j' < c) (e : pi pl j = pi pl j') : j = j' := by
 have h1 := h.rng j hj
 have h2 := h.rng j' hj'
 unfold pi at e
 exact h.inj j j' hj hj' (by omega)
section
variable {r c : Nat} {a : List Nat} {s : UP} (h : Mx r c a) (hs : MxU r c s) {pl : List Int} (hp : AllOnce c pl)
include h hs hp
theorem el_fw {i j : Nat} (hi : i < r) (hj : j < c) : el (upFW r c a s pl) (ps i c j) = scaleV (el s.W (ps i c (pi pl j))) (upK a) := by
 have hl := hp.len
 have m1 := coV_mx' hs.W (pl := pl) hp.len (fun k hk => hp.rng k (by omega))
 unfold upFW
 rw [el_shV (by rw [m1.len]; exact ps_lt hi hj)]
 unfold coV
 rw [hl, el_matL _ hi hj]
 rfl
theorem el_fv {i j : Nat} (hi : i < c) (hj : j < c) : el (upFV c s pl) (ps i c j) = el s.V (ps i c (pi pl j)) := by
 have hl := hp.len
 unfold upFV coV
 rw [hl, el_matL _ hi hj]
 rfl
theorem fw_mx : Mx r c (upFW r c a s pl) := shV_mx (coV_mx' hs.W (pl := pl) hp.len (fun k hk => hp.rng k (by have := hp.len; omega))) _
theorem fv_mx : Mx c c (upFV c s pl) := coV_mx' hs.V (pl := pl) hp.len (fun k hk => hp.rng k (by have := hp.len; omega))
end
theorem up_upright {r c : Nat} {a : List Nat} {s : UP} (h : Mx r c a) (hs : MxU r c s) {pl : List Int} (hp : AllOnce c pl) {e : Rat} (og : FN c c (fun i k => mm c (trp (mvl c s.V)) (mvl c s.V) i k - one2 i k) e) : FN c c (fun i k => ortX c c (upFV c s pl) i k) e := by
 have k1 := (og.perm (fun j hj => pi_lt hp hj) (pi_inj hp)).tr.perm (fun j hj => pi_lt hp hj) (pi_inj hp)
 refine k1.tr.congr fun i k hi hk => ?_
 show mm c (trp (mvl c s.V)) (mvl c s.V) (pi pl i) (pi pl k) - one2 (pi pl i) (pi pl k) = _
 unfold ortX
 have e1 : mm c (trp (mvl c s.V)) (mvl c s.V) (pi pl i) (pi pl k) = mm c (trp (mvl c (upFV c s pl))) (mvl c (upFV c s pl)) i k := by
  unfold mm trp
  refine sumP_congr fun j hj => ?_
  unfold mvl
  rw [el_fv h hs hp hj hi, el_fv h hs hp hj hk]
 have e2 : one2 (pi pl i) (pi pl k) = one2 i k := by
  unfold one2
  by_cases hik : i = k
  ·rw [hik, if_pos rfl, if_pos rfl]
  ·rw [if_neg hik, if_neg fun hh => hik (pi_inj hp i k hi hk hh)]
 rw [e1, e2]
theorem pk_big {K : Int} (h : K ≤ 102) : 16 * P2 K ≤ P2 1023 := by
 have a1 : P2 K ≤ P2 102 := P2_mono h
 have a2 : 16 * P2 102 ≤ P2 1023 := by decide +kernel
 generalize P2 1023 = z at *
 generalize P2 102 = z2 at *
 grind
theorem pk_ee {K : Int} (h : -102 ≤ K) : 1000 * ee ≤ uu * (1 / 1000000000) * P2 K := by
 have a1 : P2 (-102) ≤ P2 K := P2_mono h
 have a2 : 1000 * ee ≤ uu * (1 / 1000000000) * P2 (-102) := by decide +kernel
 have a3 := Rat.mul_le_mul_of_nonneg_left a1 (show 0 ≤ uu * (1 / 1000000000) by decide +kernel)
 grind
section
variable {r c : Nat} {a : List Nat} {s : UP} {B : Rat} (h : Mx r c a) (T : UpT r c a) (hB : UpB r c a B) (U : UI r c (mvl c (upW a)) B 900 s) {pl : List Int} (hp : AllOnce c pl)
include h T hB U hp
theorem fw_cell {i j : Nat} (hi : i < r) (hj : j < c) : Fl (el (upFW r c a s pl) (ps i c j)) (sv (el s.W (ps i c (pi pl j))) * P2 (upK a)) (uu * P2 (upK a) * W (el s.W (ps i c (pi pl j))) + ee) := by
 have hπ := pi_lt hp hj
 have hW := W_of_sv ((U.nw.at hi hπ).mono (um_B (Nat.le_refl _) hB.b1 hB.b15))
 rw [el_fw h U.mx hp hi hj]
 have hK := T.k
 have f := fl_scale (U.mx.W.w.el (ps i c (pi pl j))) (U.fw i _ hi hπ) (k := upK a) (by omega) (A := W (el s.W (ps i c (pi pl j))) * P2 (upK a)) Rat.le_refl (by
  have := Rat.mul_le_mul_of_nonneg_right hW (Rat.le_of_lt (P2_pos (upK a)))
  exact Rat.le_trans this (pk_big (by omega)))
 refine f.mono ?_
 grind
theorem up_fins : Fin2 r c (upFW r c a s pl) ∧ Fin2 c c (upFV c s pl) :=
 ⟨fun _ _ hi hj => (fw_cell h T hB U hp hi hj).fin, fun i j hi hj => by rw [el_fv h U.mx hp hi hj]; exact U.fv i _ hi (pi_lt hp hj)⟩
theorem up_right : FN r c (fun i j => mvl c (upFW r c a s pl) i j - mm c (mvl c a) (mvl c (upFV c s pl)) i j) (P2 (upK a) * B * (36004 * uu)) := by
 have hK := T.k
 have hP := Rat.le_of_lt (P2_pos (upK a))
 have u0 := uu_pos
 have hB1 := hB.b1
 have k1 : FN r c (fun i j => mvl c (upFW r c a s pl) i j - P2 (upK a) * mvl c s.W i (pi pl j)) (3 / 2 * (uu * P2 (upK a)) * (B * (1 + 40 * uu * (900 : Nat))) + 9 * ee) :=
  FN.cells h.hr h.hc (Y := fun i j => mvl c s.W i (pi pl j)) (Rat.mul_nonneg u0 hP) ee0.1 (U.nw.perm (fun j hj => pi_lt hp hj) (pi_inj hp)) fun i j hi hj => by
   refine ⟨W (el s.W (ps i c (pi pl j))), (sv_W _).symm, ?_⟩
   have := (fw_cell h T hB U hp hi hj).er.ab
   rw [Rat.mul_comm (sv _)] at this
   exact this
 have k2 := FN.smul (P2 (upK a)) (k' := P2 (upK a)) ⟨by grind, Rat.le_refl⟩ (U.er.perm (fun j hj => pi_lt hp hj) (pi_inj hp))
 have hcast : ((900 : Nat) : Rat) = 900 := rfl
 refine ((k1.add k2).mono ?_).congr fun i j hi hj => ?_
 ·rw [hcast]
  have e1 := pk_ee (K := upK a) (by omega)
  have hBP := Rat.mul_le_mul_of_nonneg_right hB1 hP
  have hBP0 : 0 ≤ uu * (P2 (upK a) * B) := Rat.mul_nonneg u0 (Rat.mul_nonneg hP (by grind))
  have hu := Rat.mul_le_mul_of_nonneg_right (show uu ≤ 1 / 1000000000 by decide +kernel) hBP0
  have e2 := Rat.mul_le_mul_of_nonneg_left hBP (show 0 ≤ uu * (1 / 1000000000) by decide +kernel)
  generalize P2 (upK a) = P at *
  generalize ee = e at *
  generalize uu = u at *
  grind
 ·have e1 : mm c (mvl c a) (mvl c (upFV c s pl)) i j = P2 (upK a) * mm c (mvl c (upW a)) (mvl c s.V) i (pi pl j) := by
   unfold mm
   rw [← sumP_mul]
   refine sumP_congr fun l hl => ?_
   have e2 : mvl c (upFV c s pl) l j = mvl c s.V l (pi pl j) := by unfold mvl; rw [el_fv h U.mx hp hl hj]
   rw [T.val i l hi hl, e2]
   grind
  rw [e1]
  grind
theorem up_square : sum2 r c (fun i k => mvl c a i k * mvl c a i k) = P2 (upK a) * P2 (upK a) * sumA (fun i => W (el (upW a) i)) a.length := by
 have hm : Mx r c (upW a) := shV_mx h _
 have hlen : (upW a).length = a.length := by unfold upW; rw [shV_len]
 rw [← hlen, ← sum2_W hm]
 unfold sum2
 rw [← sumP_mul]
 refine sumP_congr fun i hi => ?_
 rw [← sumP_mul]
 refine sumP_congr fun k hk => ?_
 dsimp only
 rw [T.val i k hi hk]
 grind
end
theorem fit19_ok {r c : Nat} {a w v : List Nat} (hw : Mx r c w) (hv : Mx c c v) (fw : finV w = true) (fv : finV v = true) : val 85 [Vi r, Vi c, Vl a, Vi r, Vi c, Vl w, Vi c, Vi c, Vl v] = some [Vb true] := by
 refine val_of tab85 ?_
 have c1 := ccheck9_ok (R := r) (C := c) hw.w (by have := hw.small; omega)
 have c2 := ccheck9_ok (R := c) (C := c) hv.w (by have := hv.small; omega)
 unfold chk at c1 c2
 rw [if_pos (mx_right hw), if_pos fw] at c1
 rw [if_pos (mx_right hv), if_pos fv] at c2
 simp [tr85, TT.dv, c1, c2]
structure UpR (r c : Nat) (a : List Nat) (w' v' : List Nat) : Prop where
 w : Mx r c w'
 v : Mx c c v'
 fw : finV w' = true
 fv : finV v' = true
 res : sum2 r c (fun i k => (mvl c w' i k - mm c (mvl c a) (mvl c v') i k) * (mvl c w' i k - mm c (mvl c a) (mvl c v') i k)) ≤ sum2 r c (fun i k => mvl c a i k * mvl c a i k) * P2 (-70)
 ort : FN c c (fun i k => ortX c c v' i k) (153000 * uu)
theorem zero_sv {b : Nat} (h : W b = 0) : sv b = 0 := sv_zero (mag_of_W h)
theorem upR {r c : Nat} {a : List Nat} (h : Mx r c a) (hT : TameP a 100) {s : UP} (hS : upS r c a = some s) {pl : List Int} (hp : AllOnce c pl) : UpR r c a (upFW r c a s pl) (upFV c s pl) := by
 have T := upT h hT
 have hs := svAll_mxU h hS
 obtain ⟨i1, i2⟩ := up_inv h hT hS
 have m1 := fw_mx h hs hp
 have m2 := fv_mx h hs hp
 by_cases h0 : bigV a = 0
 ·have e := i2 h0
  have hm : Mx r c (upW a) := shV_mx h _
  have hz : ∀ i k, i < r → k < c → W (el (upW a) (ps i c k)) = 0 ∧ W (el a (ps i c k)) = 0 := fun i k hi hk => T.zero h0 _ (h.lt hi hk)
  have hB : FN r c (mvl c (upW a)) 0 := (FN.zero r c).congr fun i k hi hk => (zero_sv (hz i k hi hk).1).symm
  have U := ui_start h T.fin hB
  rw [← e] at U
  have hw : ∀ i k, i < r → k < c → el (upFW r c a s pl) (ps i c k) = el (upW a) (ps i c (pi pl k)) := fun i k hi hk => by
   rw [el_fw h hs hp hi hk, e]
   exact scaleV_nought (T.fin i _ hi (pi_lt hp hk)) (mag_of_W (hz i _ hi (pi_lt hp hk)).1) _
  refine ⟨m1, m2, (fin2_iff m1).2 fun i k hi hk => by rw [hw i k hi hk]; exact T.fin i _ hi (pi_lt hp hk), (fin2_iff m2).2 fun i k hi hk => by rw [el_fv h hs hp hi hk]; exact U.fv i _ hi (pi_lt hp hk), ?_, FN.mono (b' := 153000 * uu) (up_upright h hs hp U.og) (by
   have : ((0 : Nat) : Rat) = 0 := rfl
   rw [this]; decide +kernel)⟩
  have e1 : sum2 r c (fun i k => (mvl c (upFW r c a s pl) i k - mm c (mvl c a) (mvl c (upFV c s pl)) i k) * (mvl c (upFW r c a s pl) i k - mm c (mvl c a) (mvl c (upFV c s pl)) i k)) = sum2 r c (fun _ _ => 0) := sum2_congr fun i k hi hk => by
   have a1 : mvl c (upFW r c a s pl) i k = 0 := by unfold mvl; rw [hw i k hi hk]; exact zero_sv (hz i _ hi (pi_lt hp hk)).1
   have a2 : mm c (mvl c a) (mvl c (upFV c s pl)) i k = 0 := by
    unfold mm
    rw [sumP_congr (q := fun _ => 0) fun j hj => by
     have : mvl c a i j = 0 := zero_sv (hz i j hi hj).2
     rw [this]; grind, sumP_zero]
   rw [a1, a2]; grind
  have e2 : sum2 r c (fun _ _ => (0 : Rat)) = 0 := by unfold sum2; simp [sumP_zero]
  rw [e1, e2]
  exact Rat.mul_nonneg (sum2_nonneg fun i k _ _ => rat_sq_nonneg _) (Rat.le_of_lt (P2_pos _))
 ·obtain ⟨B, hB, U⟩ := i1 h0
  obtain ⟨f1, f2⟩ := up_fins h T hB U hp
  refine ⟨m1, m2, (fin2_iff m1).2 f1, (fin2_iff m2).2 f2, ?_, FN.mono (b' := 153000 * uu) (up_upright h hs hp U.og) (by
   have hcast : ((900 : Nat) : Rat) = 900 := rfl
   rw [hcast]; decide +kernel)⟩
  have k1 := (up_right h T hB U hp).sq
  refine Rat.le_trans k1 ?_
  rw [up_square h T hB U hp]
  have k2 := hB.le
  have hP := Rat.mul_nonneg (Rat.le_of_lt (P2_pos (upK a))) (Rat.le_of_lt (P2_pos (upK a)))
  have k3 := Rat.mul_le_mul_of_nonneg_left k2 hP
  have k4 : 1001 / 1000 * (36004 * uu * (36004 * uu)) ≤ P2 (-70) := by decide +kernel
  have hN : 0 ≤ P2 (upK a) * P2 (upK a) * sumA (fun i => W (el (upW a) i)) a.length := Rat.mul_nonneg hP (sumA_nonneg _ _)
  have k5 := Rat.mul_le_mul_of_nonneg_left k4 hN
  have k6 := Rat.mul_le_mul_of_nonneg_right k3 (show 0 ≤ 36004 * uu * (36004 * uu) by decide +kernel)
  have e1 : P2 (upK a) * B * (36004 * uu) * (P2 (upK a) * B * (36004 * uu)) = P2 (upK a) * P2 (upK a) * (B * B) * (36004 * uu * (36004 * uu)) := by grind
  rw [e1]
  refine Rat.le_trans k6 ?_
  have e2 : P2 (upK a) * P2 (upK a) * (1001 / 1000 * sumA (fun i => W (el (upW a) i)) a.length) * (36004 * uu * (36004 * uu)) = P2 (upK a) * P2 (upK a) * sumA (fun i => W (el (upW a) i)) a.length * (1001 / 1000 * (36004 * uu * (36004 * uu))) := by grind
  rw [e2]
  exact k5
theorem upright_tame {r c : Nat} {a : List Nat} (h : Mx r c a) (hT : TameP a 100) : val 293 [Vi r, Vi c, Vl a] = some (up0 6) ∨
  ∃ s pl, upS r c a = some s ∧ AllOnce c pl ∧ val 293 [Vi r, Vi c, Vl a] = some [Vi r, Vi c, Vl (upFW r c a s pl), Vi c, Vi c, Vl (upFV c s pl), Vl (nmL r c (upFW r c a s pl)), Vi 0] := by
 have u1 := upright_ok h (tame_finV hT)
 cases hS : upS r c a with
 | none => rw [hS] at u1; exact .inl u1
 | some s =>
  rw [hS] at u1
  simp only at u1
  have hall : AllOnce c (srtP (nmL r c s.W) (c - 1) 1 (firL c)) := by
   rcases Nat.eq_zero_or_pos c with h0 | h0
   ·subst h0; exact allOnce_first 0
   ·exact srtP_all (c - 1) 1 (by omega) (allOnce_first c)
  have R := upR h hT hS hall
  unfold upA at u1
  rw [R.fw, R.fv] at u1
  exact .inr ⟨s, _, rfl, hall, u1⟩
theorem sq_sum2 {r c : Nat} {a : List Nat} : sumP (fun k => sumP (fun i => gsq c a i k) r) c = sum2 r c (fun i k => mvl c a i k * mvl c a i k) := by
 rw [sum2_swap]
 exact sumP_congr fun k _ => sumP_congr fun i _ => (sv_W _).symm
structure Lng (r : Nat) (x : List Nat) (XX a : Rat) : Prop where
 a0 : 0 ≤ a
 nm : Nm r (fun i => sv (el x i)) a
 le : a * a ≤ 100001 / 100000 * XX
 wn : W (normV x) ≤ a
 sq : XX ≤ 100001 / 100000 * (W (normV x) * W (normV x))
theorem lng {r : Nat} {x : List Nat} (hx : Col6 r x) {XX : Rat} (hX : XX = sumP (fun i => sv (el x i) * sv (el x i)) r) (h : P2 (-200) ≤ XX) : ∃ a, Lng r x XX a := by
 obtain ⟨n1, -, n3⟩ := norm_any hx.w (by rw [hx.len]; have := hx.r6; omega) hx.fin (fun i hi => Rat.le_trans (hx.b i hi) (by decide +kernel))
 have hs : sumA (fun i => W (el x i)) x.length = XX := by
  rw [sumA_sumP, hX, hx.len]
  exact sumP_congr fun i _ => (sv_W _).symm
 rw [hs] at n3
 obtain ⟨q1, q2⟩ := n3 (.inr (Rat.le_trans (P2_mono (by omega)) h))
 have w0 := W_nonneg (normV x)
 have hX0 : 0 ≤ XX := Rat.le_trans (Rat.le_of_lt (P2_pos _)) h
 have u1 := Rat.mul_le_mul_of_nonneg_right (show uu ≤ 1 / 1000000000 by decide +kernel) hX0
 have e : W (normV x) * (1 + 1 / 1000000) * (W (normV x) * (1 + 1 / 1000000)) = W (normV x) * W (normV x) * ((1 + 1 / 1000000) * (1 + 1 / 1000000)) := by grind
 refine ⟨W (normV x) * (1 + 1 / 1000000), Rat.mul_nonneg w0 (by decide +kernel), ⟨Rat.mul_nonneg w0 (by decide +kernel), ?_⟩, ?_, by grind, ?_⟩
 ·show sumP (fun i => sv (el x i) * sv (el x i)) r ≤ _
  rw [← hX, e]
  generalize W (normV x) * W (normV x) = nn at *
  grind
 ·rw [e]
  generalize W (normV x) * W (normV x) = nn at *
  grind
 ·generalize W (normV x) * W (normV x) = nn at *
  grind
theorem dotX_comm (x y : List Nat) (n : Nat) : dotX x y n = dotX y x n := sumP_congr fun i _ => by grind
theorem be_ip {r low : Nat} {x y : List Nat} (hx : Col6 r x) (hy : Col6 r y) {XX YY a b L : Rat} (hX : Lng r x XX a) (hY : Lng r y YY b) (hXL : 2 * (L * L) < XX) (hYL : 2 * (L * L) < YY) (hlf : low < infR) (hlow : W low ≤ L) (hab : P2 (-200) ≤ a * b) (h : svBe x y low = true) :
  Ab (dotX x y r) (a * b * P2 (-43)) := by
 obtain ⟨n1, n2⟩ := hx.norm
 obtain ⟨m1, m2⟩ := hy.norm
 have no : ∀ z ZZ c, Col6 r z → Lng r z ZZ c → 2 * (L * L) < ZZ → normV z < infR → (decide (ordI low (normV z) < 0)) = true := fun z ZZ c hz hZ hZL hn => by
  rw [decide_eq_true_eq]
  refine Classical.byContradiction fun hh => ?_
  have h1 := ord_ge (Nat.le_of_lt hlf) (Nat.le_of_lt hn) hh
  have h2 := Rat.le_trans (W_mono (by unfold infR at hlf; omega) h1) hlow
  have h3 := rat_sq_le (W_nonneg _) h2
  have h4 := hZ.sq
  have h5 := rat_sq_nonneg L
  generalize W (normV z) * W (normV z) = nn at *
  generalize L * L = ll at *
  grind
 have h1 := no x XX a hx hX hXL n1
 have h2 := no y YY b hy hY hYL m1
 have h3 : ¬ ordI (scaleV (mulV (normV x) (normV y)) (-44)) (absV (dotV x y)) < 0 := by
  unfold svBe at h
  rw [h1, h2] at h
  simpa using h
 obtain ⟨s1, s2⟩ := be_small (low := low) hx hy
 obtain ⟨dg, dgW⟩ := hx.dot hy
 have h4 := ord_ge (Nat.le_of_lt s2) (Nat.le_of_lt (fin_abs dg.fin)) h3
 have h5 := W_mono (by unfold infR at s2; omega) h4
 rw [W_abs] at h5
 have hsm := W_of_sv (s1.bound (A := W (normV x) * W (normV y) * P2 (-44)) ⟨by
  have := Rat.mul_nonneg (Rat.mul_nonneg (W_nonneg (normV x)) (W_nonneg (normV y))) (show 0 ≤ P2 (-44) by decide +kernel)
  grind, Rat.le_refl⟩)
 have hnn : W (normV x) * W (normV y) ≤ a * b := Rat.le_trans (Rat.mul_le_mul_of_nonneg_right hX.wn (W_nonneg _)) (Rat.mul_le_mul_of_nonneg_left hY.wn hX.a0)
 have hQ : dotQ x y x.length ≤ a * b := by
  rw [hx.len]
  have k1 : NS (fun f => sumP f r) (fun i => W (el x i)) a := ⟨hX.a0, by
   have e : sumP (fun i => W (el x i) * W (el x i)) r = sumP (fun i => sv (el x i) * sv (el x i)) r := sumP_congr fun i _ => (sv_W _).symm
   show sumP (fun i => W (el x i) * W (el x i)) r ≤ _
   rw [e]; exact hX.nm.2⟩
  have k2 : NS (fun f => sumP f r) (fun i => W (el y i)) b := ⟨hY.a0, by
   have e : sumP (fun i => W (el y i) * W (el y i)) r = sumP (fun i => sv (el y i) * sv (el y i)) r := sumP_congr fun i _ => (sv_W _).symm
   show sumP (fun i => W (el y i) * W (el y i)) r ≤ _
   rw [e]; exact hY.nm.2⟩
  exact (NS.ip (pf_sum r) k1 k2).2
 have hd := (dg.er.symm.bound (sv_ab (dotV x y)))
 rw [hx.len] at hd
 rw [hx.len] at hQ
 refine hd.mono ?_
 have hab0 : 0 ≤ a * b := Rat.mul_nonneg hX.a0 hY.a0
 have e44 : 0 ≤ P2 (-44) := by decide +kernel
 have c1 := Rat.mul_le_mul_of_nonneg_right hnn e44
 have c2 : 100 * ee ≤ P2 (-200) * (P2 (-44) * (1 / 1000)) := by decide +kernel
 have c3 := Rat.mul_le_mul_of_nonneg_right hab (show 0 ≤ P2 (-44) * (1 / 1000) by decide +kernel)
 have c4 : 13 * uu ≤ P2 (-44) * (1 / 10) := by decide +kernel
 have c5 := Rat.mul_le_mul_of_nonneg_left c4 hab0
 have c6 := Rat.mul_le_mul_of_nonneg_left hQ uu_pos
 have c7 : 3 * uu ≤ 1 / 1000 := by decide +kernel
 have c8 := Rat.mul_nonneg (Rat.mul_nonneg (W_nonneg (normV x)) (W_nonneg (normV y))) e44
 have c9 := Rat.mul_le_mul_of_nonneg_left c7 c8
 have c10 : P2 (-43) = 2 * P2 (-44) := by decide +kernel
 have e0 := ee0.1
 rw [c10]
 generalize W (normV x) * W (normV y) * P2 (-44) = z at *
 generalize dotQ x y r = Q at *
 generalize a * b = ab at *
 generalize P2 (-44) = p at *
 generalize P2 (-200) = p2 at *
 generalize uu = u at *
 generalize ee = e at *
 generalize W (dotV x y) = wd at *
 generalize W (scaleV (mulV (normV x) (normV y)) (-44)) = ws at *
 grind
theorem scaled_ip {r : Nat} {X Y x y : Nat → Rat} {P XX YY a b : Rat} (hP : P2 (-102) ≤ P) (hX : Nm r X a) (hY : Nm r Y b) (hXe : sumP (fun i => X i * X i) r = XX) (hYe : sumP (fun i => Y i * Y i) r = YY) (ha : a * a ≤ 100001 / 100000 * XX) (hb : b * b ≤ 100001 / 100000 * YY)
  (h6 : r ≤ 6) (ha1 : P2 (-60) ≤ a) (hb1 : P2 (-60) ≤ b) (hx : ∀ i, i < r → ∃ w, w * w = X i * X i ∧ Ab (x i - P * X i) (uu * P * w + ee)) (hy : ∀ i, i < r → ∃ w, w * w = Y i * Y i ∧ Ab (y i - P * Y i) (uu * P * w + ee))
  (hip : Ab (sumP (fun i => X i * Y i) r) (a * b * P2 (-43))) :
  sumP (fun i => x i * y i) r * sumP (fun i => x i * y i) r ≤ sumP (fun i => x i * x i) r * sumP (fun i => y i * y i) r * P2 (-76) := by
 have P0 : 0 ≤ P := Rat.le_trans (Rat.le_of_lt (P2_pos _)) hP
 have u0 := uu_pos
 obtain ⟨e0, e1⟩ := ee0
 have dn : ∀ (Z z : Nat → Rat) (c : Rat), Nm r Z c → P2 (-60) ≤ c → (∀ i, i < r → ∃ w, w * w = Z i * Z i ∧ Ab (z i - P * Z i) (uu * P * w + ee)) → Nm r (fun i => z i - P * Z i) (2 * uu * (P * c)) := fun Z z c hZ hc hz => by
  have hPc : P2 (-102) * P2 (-60) ≤ P * c := Rat.le_trans (Rat.mul_le_mul_of_nonneg_right hP (Rat.le_of_lt (P2_pos _))) (Rat.mul_le_mul_of_nonneg_left hc P0)
  have hPc0 : 0 ≤ P * c := Rat.mul_nonneg P0 hZ.1
  refine ⟨by have := Rat.mul_nonneg u0 hPc0; grind, ?_⟩
  have k1 : sumP (fun i => (z i - P * Z i) * (z i - P * Z i)) r ≤ sumP (fun i => 2 * (uu * uu * (P * P)) * (Z i * Z i) + 2 * (ee * ee)) r := sumP_le fun i hi => by
   obtain ⟨w, hw, hab⟩ := hz i hi
   have h2 := (hab.mul hab).2
   have h3 := rat_sq_nonneg (uu * P * w - ee)
   rw [← hw]
   grind
  rw [sumP_add, sumP_mul, sumP_const] at k1
  refine Rat.le_trans k1 ?_
  have k2 : sumP (fun i => Z i * Z i) r ≤ c * c := hZ.2
  have k3 : ((r : Nat) : Rat) ≤ ((6 : Nat) : Rat) := Rat.natCast_le_natCast.2 h6
  have k4 : ((6 : Nat) : Rat) = 6 := rfl
  rw [k4] at k3
  have k5 := Rat.mul_le_mul_of_nonneg_right k3 (show 0 ≤ 2 * (ee * ee) by have := Rat.mul_nonneg e0 e0; grind)
  have k6 : 10 * ee ≤ uu * (P2 (-102) * P2 (-60)) := by decide +kernel
  have k7 := Rat.mul_le_mul_of_nonneg_left hPc u0
  have k8 := rat_sq_le (show 0 ≤ 10 * ee by grind) (Rat.le_trans k6 k7)
  have k9 := Rat.mul_le_mul_of_nonneg_left k2 (show 0 ≤ uu * uu * (P * P) from Rat.mul_nonneg (Rat.mul_nonneg u0 u0) (Rat.mul_nonneg P0 P0))
  have k10 := rat_sq_nonneg (uu * (P * c))
  have k11 := rat_sq_nonneg ee
  generalize sumP (fun i => Z i * Z i) r = ZZ at *
  generalize (r : Rat) * (2 * (ee * ee)) = t at *
  generalize ee = e at *
  generalize uu = u at *
  grind
 have hdx := dn X x a hX ha1 hx
 have hdy := dn Y y b hY hb1 hy
 have ha0 := hX.1
 have hb0 := hY.1
 have hPa : 0 ≤ P * a := Rat.mul_nonneg P0 ha0
 have hPb : 0 ≤ P * b := Rat.mul_nonneg P0 hb0
 have hPX : Nm r (fun i => P * X i) (P * a) := NS.smul (pf_sum r) P ⟨by grind, Rat.le_refl⟩ hX
 have hPY : Nm r (fun i => P * Y i) (P * b) := NS.smul (pf_sum r) P ⟨by grind, Rat.le_refl⟩ hY
 have i1 := NS.ip (pf_sum r) hPX hdy
 have i2 := NS.ip (pf_sum r) hdx hPY
 have i3 := NS.ip (pf_sum r) hdx hdy
 have hsum : sumP (fun i => x i * y i) r = P * P * sumP (fun i => X i * Y i) r + (sumP (fun i => P * X i * (y i - P * Y i)) r + (sumP (fun i => (x i - P * X i) * (P * Y i)) r + sumP (fun i => (x i - P * X i) * (y i - P * Y i)) r)) := by
  rw [← sumP_mul, ← sumP_add, ← sumP_add, ← sumP_add]
  exact sumP_congr fun i _ => by grind
 have i0 : Ab (P * P * sumP (fun i => X i * Y i) r) (P * P * (a * b * P2 (-43))) := by
  have := (show Ab (P * P) (P * P) from ⟨by have := Rat.mul_nonneg P0 P0; grind, Rat.le_refl⟩).mul hip
  exact this
 have hg := i0.add (i1.add (i2.add i3))
 rw [← hsum] at hg
 have hq : 0 ≤ P * a * (P * b) := Rat.mul_nonneg hPa hPb
 have hg2 : Ab (sumP (fun i => x i * y i) r) (P * a * (P * b) * P2 (-42)) := hg.mono (by
  have c1 : 4 * uu + 4 * uu * uu ≤ P2 (-43) := by decide +kernel
  have c2 : P2 (-42) = 2 * P2 (-43) := by decide +kernel
  have c3 := Rat.mul_le_mul_of_nonneg_left c1 hq
  rw [c2]
  generalize P2 (-43) = p at *
  generalize uu = u at *
  grind)
 have lw : ∀ (Z z : Nat → Rat) (c ZZ : Rat), sumP (fun i => Z i * Z i) r = ZZ → c * c ≤ 100001 / 100000 * ZZ → 0 ≤ c → Nm r (fun i => z i - P * Z i) (2 * uu * (P * c)) → P * c * (P * c) ≤ 21 / 10 * sumP (fun i => z i * z i) r := fun Z z c ZZ hZZ hc hc0 hz => by
  have k1 : sumP (fun i => P * P * (Z i * Z i)) r ≤ sumP (fun i => 2 * (z i * z i) + 2 * ((z i - P * Z i) * (z i - P * Z i))) r := sumP_le fun i _ => by
   have := rat_sq_nonneg (z i + (z i - P * Z i))
   grind
  rw [sumP_mul, sumP_add, sumP_mul, sumP_mul, hZZ] at k1
  have k2 : sumP (fun i => (z i - P * Z i) * (z i - P * Z i)) r ≤ 2 * uu * (P * c) * (2 * uu * (P * c)) := hz.2
  have k3 := Rat.mul_le_mul_of_nonneg_left hc (Rat.mul_nonneg P0 P0)
  have k4 := rat_sq_nonneg (P * c)
  have k5 := Rat.mul_le_mul_of_nonneg_right (show 4 * (uu * uu) ≤ 1 / 1000000 by decide +kernel) k4
  have k6 : 0 ≤ sumP (fun i => z i * z i) r := sumP_nonneg fun i _ => rat_sq_nonneg _
  generalize sumP (fun i => z i * z i) r = zz at *
  generalize sumP (fun i => (z i - P * Z i) * (z i - P * Z i)) r = dd at *
  generalize uu = u at *
  grind
 have l1 := lw X x a XX hXe ha ha0 hdx
 have l2 := lw Y y b YY hYe hb hb0 hdy
 have hgg := (hg2.mul hg2).2
 have m1 := Rat.mul_le_mul_of_nonneg_right l1 (rat_sq_nonneg (P * b))
 have hxx : 0 ≤ sumP (fun i => x i * x i) r := sumP_nonneg fun i _ => rat_sq_nonneg _
 have m2 := Rat.mul_le_mul_of_nonneg_left l2 (show 0 ≤ 21 / 10 * sumP (fun i => x i * x i) r by grind)
 have m3 := Rat.le_trans m1 m2
 have p1 : (21 / 10 * (21 / 10) * (P2 (-42) * P2 (-42)) : Rat) ≤ P2 (-76) := by decide +kernel
 have m4 := Rat.mul_le_mul_of_nonneg_right m3 (show 0 ≤ P2 (-42) * P2 (-42) by decide +kernel)
 have hyy : 0 ≤ sumP (fun i => y i * y i) r := sumP_nonneg fun i _ => rat_sq_nonneg _
 have m5 := Rat.mul_le_mul_of_nonneg_left p1 (Rat.mul_nonneg hxx hyy)
 refine Rat.le_trans hgg ?_
 generalize sumP (fun i => x i * x i) r = xx at *
 generalize sumP (fun i => y i * y i) r = yy at *
 generalize P2 (-42) = p at *
 generalize P2 (-76) = p2 at *
 grind
theorem cell3 {x PX u2 e2 : Rat} (h9 : (x - PX) * (x - PX) ≤ 2 * (u2 * (PX * PX)) + 2 * e2) (hu : 10 * u2 ≤ 1) (he : 0 ≤ e2) : x * x ≤ 3 * (PX * PX) + 6 * e2 := by
 have h4 := rat_sq_nonneg (x - 2 * PX)
 have h5 := Rat.mul_le_mul_of_nonneg_right hu (rat_sq_nonneg PX)
 have hp := rat_sq_nonneg PX
 have h6 : (x - 2 * PX) * (x - 2 * PX) = 2 * ((x - PX) * (x - PX)) + 2 * (PX * PX) - x * x := by grind
 rw [h6] at h4
 generalize (x - PX) * (x - PX) = d at *
 generalize PX * PX = p at *
 generalize x * x = xx at *
 grind
def PairOK (r c : Nat) (w : List Nat) (low : Rat) (p q : Nat) : Prop :=
 sumP (fun i => mvl c w i p * mvl c w i p) r ≤ low ∨ sumP (fun i => mvl c w i q * mvl c w i q) r ≤ low ∨
  sumP (fun i => mvl c w i p * mvl c w i q) r * sumP (fun i => mvl c w i p * mvl c w i q) r ≤ sumP (fun i => mvl c w i p * mvl c w i p) r * sumP (fun i => mvl c w i q * mvl c w i q) r * P2 (-76)
theorem pair_ok {r c : Nat} {a : List Nat} (h : Mx r c a) (hT : TameP a 100) {s : UP} (hS : upS r c a = some s) {pl : List Int} (hp : AllOnce c pl) {p q : Nat} (hpq : p < q) (hq : q < c) :
  PairOK r c (upFW r c a s pl) (sum2 r c (fun i k => mvl c a i k * mvl c a i k) * P2 (-80)) p q := by
 have T := upT h hT
 have hs := svAll_mxU h hS
 have hpc : p < c := by omega
 obtain ⟨i1, i2⟩ := up_inv h hT hS
 by_cases h0 : bigV a = 0
 ·refine .inl ?_
  have e := i2 h0
  have hz : ∀ i k, i < r → k < c → W (el (upW a) (ps i c k)) = 0 := fun i k hi hk => (T.zero h0 _ (h.lt hi hk)).1
  rw [sumP_congr (q := fun _ => 0) fun i hi => by
   have : mvl c (upFW r c a s pl) i p = 0 := by
    unfold mvl
    rw [el_fw h hs hp hi hpc, e]
    show sv (scaleV (el (upW a) _) _) = 0
    rw [scaleV_nought (T.fin i _ hi (pi_lt hp hpc)) (mag_of_W (hz i _ hi (pi_lt hp hpc)))]
    exact zero_sv (hz i _ hi (pi_lt hp hpc))
   rw [this]; grind, sumP_zero]
  exact Rat.mul_nonneg (sum2_nonneg fun i k _ _ => rat_sq_nonneg _) (Rat.le_of_lt (P2_pos _))
 ·obtain ⟨B, hB, U⟩ := i1 h0
  have hK := T.k
  have P0 := Rat.le_of_lt (P2_pos (upK a))
  have hP : P2 (-102) ≤ P2 (upK a) := P2_mono hK.1
  obtain ⟨e0, e1⟩ := ee0
  have u0 := uu_pos
  have hN1 : 1 ≤ sumA (fun i => W (el (upW a) i)) a.length := by
   obtain ⟨t, ht, hw⟩ := T.one h0
   have := sumA_ge (fun i => W (el (upW a) i)) ht
   have h2 := rat_sq_le (by decide) hw
   grind
  unfold PairOK
  rw [up_square h T hB U hp]
  generalize hNd : sumA (fun i => W (el (upW a) i)) a.length = N at *
  have cell : ∀ j, j < c → ∀ i, i < r → ∃ w, w * w = mvl c s.W i (pi pl j) * mvl c s.W i (pi pl j) ∧ Ab (mvl c (upFW r c a s pl) i j - P2 (upK a) * mvl c s.W i (pi pl j)) (uu * P2 (upK a) * w + ee) := fun j hj i hi => by
   refine ⟨W (el s.W (ps i c (pi pl j))), (sv_W _).symm, ?_⟩
   have := (fw_cell h T hB U hp hi hj).er.ab
   rw [Rat.mul_comm (sv _)] at this
   exact this
  have big : ∀ j, j < c → ¬ sumP (fun i => mvl c (upFW r c a s pl) i j * mvl c (upFW r c a s pl) i j) r ≤ P2 (upK a) * P2 (upK a) * N * P2 (-80) → N * P2 (-82) ≤ sumP (fun i => mvl c s.W i (pi pl j) * mvl c s.W i (pi pl j)) r := fun j hj hn => by
   have k1 : sumP (fun i => mvl c (upFW r c a s pl) i j * mvl c (upFW r c a s pl) i j) r ≤ sumP (fun i => 3 * (P2 (upK a) * P2 (upK a)) * (mvl c s.W i (pi pl j) * mvl c s.W i (pi pl j)) + 6 * (ee * ee)) r := sumP_le fun i hi => by
    obtain ⟨w, hw, hab⟩ := cell j hj i hi
    have h2 := (hab.mul hab).2
    have h3 := rat_sq_nonneg (uu * P2 (upK a) * w - ee)
    have h7 : uu * P2 (upK a) * w * (uu * P2 (upK a) * w) = uu * uu * (P2 (upK a) * mvl c s.W i (pi pl j) * (P2 (upK a) * mvl c s.W i (pi pl j))) := by
     have e : P2 (upK a) * mvl c s.W i (pi pl j) * (P2 (upK a) * mvl c s.W i (pi pl j)) = P2 (upK a) * P2 (upK a) * (w * w) := by rw [hw]; grind
     rw [e]; grind
    have h8 := cell3 (x := mvl c (upFW r c a s pl) i j) (PX := P2 (upK a) * mvl c s.W i (pi pl j)) (u2 := uu * uu) (e2 := ee * ee) (by
     rw [← h7]
     generalize uu * P2 (upK a) * w = z at *
     generalize mvl c (upFW r c a s pl) i j - P2 (upK a) * mvl c s.W i (pi pl j) = d at *
     generalize ee = e at *
     clear h7 cell hab
     grind) (by decide +kernel) (Rat.mul_nonneg e0 e0)
    have h9 : 3 * (P2 (upK a) * P2 (upK a)) * (mvl c s.W i (pi pl j) * mvl c s.W i (pi pl j)) = 3 * (P2 (upK a) * mvl c s.W i (pi pl j) * (P2 (upK a) * mvl c s.W i (pi pl j))) := by grind
    rw [h9]
    exact h8
   rw [sumP_add, sumP_mul, sumP_const] at k1
   have k3 : ((r : Nat) : Rat) ≤ ((6 : Nat) : Rat) := Rat.natCast_le_natCast.2 h.hr
   have k4 : ((6 : Nat) : Rat) = 6 := rfl
   rw [k4] at k3
   have k5 := Rat.mul_le_mul_of_nonneg_right k3 (show 0 ≤ 6 * (ee * ee) by have := Rat.mul_nonneg e0 e0; grind)
   have hPP := Rat.mul_nonneg P0 P0
   have k6 : 10000 * (ee * ee) ≤ P2 (-102) * P2 (-102) * P2 (-80) := by decide +kernel
   have k7 := Rat.mul_le_mul_of_nonneg_right (rat_sq_le (Rat.le_of_lt (P2_pos (-102))) hP) (Rat.le_of_lt (P2_pos (-80)))
   have k8 := Rat.mul_le_mul_of_nonneg_left hN1 (show 0 ≤ P2 (upK a) * P2 (upK a) * P2 (-80) from Rat.mul_nonneg hPP (Rat.le_of_lt (P2_pos _)))
   have hPp : 0 < P2 (upK a) * P2 (upK a) := Rat.mul_pos (P2_pos _) (P2_pos _)
   refine Rat.le_of_mul_le_mul_right (c := P2 (upK a) * P2 (upK a)) ?_ hPp
   have k9 : P2 (-80) = 4 * P2 (-82) := by decide +kernel
   have k10 : 0 ≤ N * (P2 (upK a) * P2 (upK a)) * P2 (-82) := Rat.mul_nonneg (Rat.mul_nonneg (by grind) hPP) (Rat.le_of_lt (P2_pos _))
   rw [k9] at k6 k7 k8 hn
   generalize sumP (fun i => mvl c (upFW r c a s pl) i j * mvl c (upFW r c a s pl) i j) r = xx at *
   generalize sumP (fun i => mvl c s.W i (pi pl j) * mvl c s.W i (pi pl j)) r = XX at *
   generalize P2 (upK a) * P2 (upK a) = PP at *
   generalize (r : Rat) * (6 * (ee * ee)) = t at *
   generalize P2 (-102) * P2 (-102) = p2 at *
   generalize P2 (-82) = p at *
   generalize ee * ee = e2 at *
   clear cell
   grind
  by_cases c1 : sumP (fun i => mvl c (upFW r c a s pl) i p * mvl c (upFW r c a s pl) i p) r ≤ P2 (upK a) * P2 (upK a) * N * P2 (-80)
  ·exact .inl c1
  by_cases c2 : sumP (fun i => mvl c (upFW r c a s pl) i q * mvl c (upFW r c a s pl) i q) r ≤ P2 (upK a) * P2 (upK a) * N * P2 (-80)
  ·exact .inr (.inl c2)
  refine .inr (.inr ?_)
  have g1 := big p hpc c1
  have g2 := big q hq c2
  have X6 : ∀ j, j < c → Col6 r (colL r c s.W (pi pl j) 0) := fun j hj => ui_col (Nat.le_refl _) hB.b1 hB.b15 U (pi_lt hp hj)
  have eX : ∀ j, j < c → ∀ i, i < r → sv (el (colL r c s.W (pi pl j) 0) i) = mvl c s.W i (pi pl j) := fun j hj i hi => by rw [el_colL (by omega), Nat.zero_add]; rfl
  have sX : ∀ j, j < c → sumP (fun i => sv (el (colL r c s.W (pi pl j) 0) i) * sv (el (colL r c s.W (pi pl j) 0) i)) r = sumP (fun i => mvl c s.W i (pi pl j) * mvl c s.W i (pi pl j)) r := fun j hj => sumP_congr fun i hi => by rw [eX j hj i hi]
  have hN82 : P2 (-82) ≤ N * P2 (-82) := by
   have := Rat.mul_le_mul_of_nonneg_right hN1 (Rat.le_of_lt (P2_pos (-82)))
   grind
  have p200 : P2 (-200) ≤ P2 (-82) := P2_mono (by omega)
  obtain ⟨x, hx⟩ := lng (X6 p hpc) (sX p hpc).symm (Rat.le_trans p200 (Rat.le_trans hN82 g1))
  obtain ⟨y, hy⟩ := lng (X6 q hq) (sX q hq).symm (Rat.le_trans p200 (Rat.le_trans hN82 g2))
  have ge41 : ∀ z ZZ : Rat, 0 ≤ z → ZZ ≤ z * z → N * P2 (-82) ≤ ZZ → P2 (-41) ≤ z := fun z ZZ hz hzz hg => by
   have e : P2 (-41) * P2 (-41) = P2 (-82) := by rw [← P2_add]; rfl
   refine (Ab.of_sq (x := P2 (-41)) hz ?_).2
   rw [e]
   exact Rat.le_trans hN82 (Rat.le_trans hg hzz)
  have hxx : sumP (fun i => mvl c s.W i (pi pl p) * mvl c s.W i (pi pl p)) r ≤ x * x := by have := hx.nm.2; rw [← sX p hpc]; exact this
  have hyy : sumP (fun i => mvl c s.W i (pi pl q) * mvl c s.W i (pi pl q)) r ≤ y * y := by have := hy.nm.2; rw [← sX q hq]; exact this
  have x41 := ge41 x _ hx.a0 hxx g1
  have y41 := ge41 y _ hy.a0 hyy g2
  have p41 : 0 ≤ P2 (-41) := Rat.le_of_lt (P2_pos _)
  have hLL : 2 * (1001 / 1000 * B * P2 (-44) * (1001 / 1000 * B * P2 (-44))) < N * P2 (-82) := by
   have b1 := hB.le
   rw [hNd] at b1
   have b2 := Rat.mul_le_mul_of_nonneg_right b1 (show 0 ≤ 2 * (1001 / 1000 * P2 (-44) * (1001 / 1000 * P2 (-44))) by decide +kernel)
   have b3 : 1001 / 1000 * (2 * (1001 / 1000 * P2 (-44) * (1001 / 1000 * P2 (-44)))) < P2 (-82) := by decide +kernel
   have b4 := Rat.mul_lt_mul_of_pos_left b3 (show 0 < N by grind)
   generalize P2 (-44) = p at *
   generalize P2 (-82) = p2 at *
   clear cell big
   grind
  have hab : P2 (-200) ≤ x * y := by
   have e : P2 (-41) * P2 (-41) = P2 (-82) := by rw [← P2_add]; rfl
   have := Rat.le_trans (Rat.mul_le_mul_of_nonneg_right x41 p41) (Rat.mul_le_mul_of_nonneg_left y41 hx.a0)
   rw [e] at this
   exact Rat.le_trans p200 this
  have lt1 : 2 * (1001 / 1000 * B * P2 (-44) * (1001 / 1000 * B * P2 (-44))) < sumP (fun i => mvl c s.W i (pi pl p) * mvl c s.W i (pi pl p)) r := by
   generalize 2 * (1001 / 1000 * B * P2 (-44) * (1001 / 1000 * B * P2 (-44))) = l at *
   grind
  have lt2 : 2 * (1001 / 1000 * B * P2 (-44) * (1001 / 1000 * B * P2 (-44))) < sumP (fun i => mvl c s.W i (pi pl q) * mvl c s.W i (pi pl q)) r := by
   generalize 2 * (1001 / 1000 * B * P2 (-44) * (1001 / 1000 * B * P2 (-44))) = l at *
   grind
  have hne : pi pl p ≠ pi pl q := fun hh => by have := pi_inj hp p q hpc hq hh; omega
  have still := svAll_still 60 hS
  have hip : Ab (dotX (colL r c s.W (pi pl p) 0) (colL r c s.W (pi pl q) 0) r) (x * y * P2 (-43)) := by
   rcases Nat.lt_or_gt_of_ne hne with hl | hl
   ·exact be_ip (X6 p hpc) (X6 q hq) hx hy lt1 lt2 hB.lowf hB.low2 hab (still _ _ hl (pi_lt hp hq))
   ·have := be_ip (X6 q hq) (X6 p hpc) hy hx lt2 lt1 hB.lowf hB.low2 (by rw [Rat.mul_comm]; exact hab) (still _ _ hl (pi_lt hp hpc))
    rw [dotX_comm, Rat.mul_comm x y]
    exact this
  have p60 : P2 (-60) ≤ P2 (-41) := P2_mono (by omega)
  have nX : Nm r (fun i => mvl c s.W i (pi pl p)) x := hx.nm.congr fun i hi => eX p hpc i hi
  have nY : Nm r (fun i => mvl c s.W i (pi pl q)) y := hy.nm.congr fun i hi => eX q hq i hi
  have hip2 : Ab (sumP (fun i => mvl c s.W i (pi pl p) * mvl c s.W i (pi pl q)) r) (x * y * P2 (-43)) := by
   have e : dotX (colL r c s.W (pi pl p) 0) (colL r c s.W (pi pl q) 0) r = sumP (fun i => mvl c s.W i (pi pl p) * mvl c s.W i (pi pl q)) r := sumP_congr fun i hi => by rw [eX p hpc i hi, eX q hq i hi]
   rwa [e] at hip
  exact scaled_ip hP nX nY rfl rfl hx.le hy.le h.hr (Rat.le_trans p60 x41) (Rat.le_trans p60 y41) (cell p hpc) (cell q hq) hip2
section
variable {r c : Nat} {a w : List Nat} (h : Mx r c w) {Y F : Int} (hY : DBs Y F 4400 4600)
include h hY
theorem pr_inner {p : Nat} (hp : p < c) (hall : ∀ q, p < q → q < c → PairOK r c w (DV Y F) p q) {x3 x7 x8 x9 x10 x11 x12 x13 x14 x15 : PV} : ∀ (n : Nat) {q : Nat}, q + n = c → p < q →
  rounds (fun vs => lo79_2.dv (Vi r :: Vi c :: Vl a :: x3 :: Vi r :: Vi c :: Vl w :: x7 :: x8 :: x9 :: x10 :: x11 :: x12 :: x13 :: x14 :: x15 :: dS Y F :: dL Y F :: dE Y F :: Vb false :: Vi p :: vs)) [Vb false, Vi q] = some (.y (.ext 2) [Vb false]) := by
 intro n
 have hr := h.hr
 have hc := h.hc
 induction n with
 | zero =>
  intro q hq hpq
  have : q = c := by omega
  subst this
  refine rounds_exit ?_ (by simp)
  exact Eq.trans (st_f (by simp)) rfl
 | succ n ih =>
  intro q hq hpq
  have hqc : q < c := by omega
  refine Eq.trans (rounds_cont ?_) (ih (q := q + 1) (by omega) (by omega))
  have e1 : (B.add .i64).den (Vi q) (Vi 1) = Vi ((q + 1 : Nat) : Int) := by rw [add_i (by omega) (by omega)]; rfl
  have cl1 := column9_ok h (k := p) (f := 0) (by omega) (by omega)
  have cl2 := column9_ok h (k := q) (f := 0) (by omega) (by omega)
  rw [show ((0 : Nat) : Int) = 0 from rfl] at cl1 cl2
  have lc1 : (colL r c w p 0).length = r := by rw [colL_len]; omega
  have lc2 : (colL r c w q 0).length = r := by rw [colL_len]; omega
  obtain ⟨D, E, d1, d2, d3⟩ := dot11_ok (colL_words h p 0) (colL_words h q 0) (by rw [lc1, lc2]; omega) (by rw [lc1]; omega)
  obtain ⟨X1, E1, x1, x2, x3⟩ := squares_ok (colL_words h p 0) (by rw [lc1]; omega)
  obtain ⟨X2, E2, y1, y2, y3⟩ := squares_ok (colL_words h q 0) (by rw [lc2]; omega)
  rw [lc1] at d2 d3 x2 x3
  rw [lc2] at y2 y3
  have eX : ∀ j, j < c → ∀ i, i < r → sv (el (colL r c w j 0) i) = mvl c w i j := fun j hj i hi => by rw [el_colL (by omega), Nat.zero_add]; rfl
  have v1 : DV D E = sumP (fun i => mvl c w i p * mvl c w i q) r := by rw [d3]; exact sumP_congr fun i hi => by rw [eX p hp i hi, eX q hqc i hi]
  have v2 : DV X1 E1 = sumP (fun i => mvl c w i p * mvl c w i p) r := by rw [x3, sumA_sumP]; exact sumP_congr fun i hi => by rw [← sv_W, eX p hp i hi]
  have v3 : DV X2 E2 = sumP (fun i => mvl c w i q * mvl c w i q) r := by rw [y3, sumA_sumP]; exact sumP_congr fun i hi => by rw [← sv_W, eX q hqc i hi]
  have hok := hall q hpq hqc
  unfold PairOK at hok
  rw [← v1, ← v2, ← v3] at hok
  have cm1 := compareD_ok (x2.db (by omega) (by omega)) (hY.db (by omega) (by omega))
  have cm2 := compareD_ok (y2.db (by omega) (by omega)) (hY.db (by omega) (by omega))
  have hle1 := dcmp_le (x := X1) (e := E1) (y := Y) (f := F)
  have hle2 := dcmp_le (x := X2) (e := E2) (y := Y) (f := F)
  have mu1 := mulD_ok (d2.db (by omega) (by omega)) (d2.db (by omega) (by omega))
  have mu2 := mulD_ok (x2.db (by omega) (by omega)) (y2.db (by omega) (by omega))
  have bm1 := d2.mul d2
  have bm2 := x2.mul y2
  have wi : ¬ dcmp X1 E1 Y F ≤ 0 → ¬ dcmp X2 E2 Y F ≤ 0 → val 186 [dS (D * D) (E + E), dL (D * D) (E + E), dE (D * D) (E + E), dS (X1 * X2) (E1 + E2), dL (X1 * X2) (E1 + E2), dE (X1 * X2) (E1 + E2), Vi 38] = some [Vb true] := fun n1 n2 => by
   refine within_ok (bm1.mono (E' := 4400) (T' := 4600) (by omega) (by omega)) (bm2.mono (E' := 4400) (T' := 4600) (by omega) (by omega)) (by omega) (by omega) (k := 38) (by omega) ?_
   rw [DV_mul, DV_mul]
   rcases hok with hh | hh | hh
   ·exact absurd (hle1.2 hh) n1
   ·exact absurd (hle2.2 hh) n2
   ·exact hh
  clear hok v1 v2 v3 hle1 hle2 bm1 bm2 d2 d3 x2 x3 y2 y3 hY ih hall
  generalize dcmp X1 E1 Y F = z1 at *
  generalize dcmp X2 E2 Y F = z2 at *
  generalize dS (D * D) (E + E) = q1 at *
  generalize dL (D * D) (E + E) = q2 at *
  generalize dE (D * D) (E + E) = q3 at *
  generalize dS (X1 * X2) (E1 + E2) = q4 at *
  generalize dL (X1 * X2) (E1 + E2) = q5 at *
  generalize dE (X1 * X2) (E1 + E2) = q6 at *
  generalize dS D E = q7 at *
  generalize dL D E = q8 at *
  generalize dE D E = q9 at *
  generalize dS X1 E1 = q10 at *
  generalize dL X1 E1 = q11 at *
  generalize dE X1 E1 = q12 at *
  generalize dS X2 E2 = q13 at *
  generalize dL X2 E2 = q14 at *
  generalize dE X2 E2 = q15 at *
  generalize dS Y F = q16 at *
  generalize dL Y F = q17 at *
  generalize dE Y F = q18 at *
  generalize colL r c w p 0 = col1 at *
  generalize colL r c w q 0 = col2 at *
  refine Eq.trans (st_t (by simp [hqc])) ?_
  refine Eq.trans (st_call rfl cl1 rfl) ?_
  refine Eq.trans (st_call rfl cl2 rfl) ?_
  simp only [List.cons_append, List.nil_append]
  refine Eq.trans (st_call rfl d1 rfl) ?_
  refine Eq.trans (st_call rfl x1 rfl) ?_
  simp only [List.cons_append, List.nil_append]
  refine Eq.trans (st_call rfl y1 rfl) ?_
  simp only [List.cons_append, List.nil_append]
  refine Eq.trans (st_call rfl cm1 rfl) ?_
  simp only [List.cons_append, List.nil_append]
  by_cases c1 : z1 ≤ 0
  ·have b1 : ¬ 0 < z1 := by omega
   refine Eq.trans (st_skip (by simp [b1])) ?_
   refine Eq.trans (st_skip (by simp [b1])) ?_
   refine Eq.trans (st_skip (by simp [b1])) ?_
   refine Eq.trans (st_skip (by simp [b1])) ?_
   refine Eq.trans (st_f (by simp [b1])) ?_
   simp [TT.dv, e1]
  ·have b1 : 0 < z1 := by omega
   refine Eq.trans (st_call (by simp [b1]) cm2 rfl) ?_
   simp only [List.cons_append, List.nil_append]
   by_cases c2 : z2 ≤ 0
   ·have b2 : ¬ 0 < z2 := by omega
    refine Eq.trans (st_skip (by simp [b1, b2])) ?_
    refine Eq.trans (st_skip (by simp [b1, b2])) ?_
    refine Eq.trans (st_skip (by simp [b1, b2])) ?_
    refine Eq.trans (st_f (by simp [b1, b2])) ?_
    simp [TT.dv, e1]
   ·have b2 : 0 < z2 := by omega
    refine Eq.trans (st_call (by simp [b1, b2]) mu1 rfl) ?_
    refine Eq.trans (st_call (by simp [b1, b2]) mu2 rfl) ?_
    simp only [List.cons_append, List.nil_append]
    refine Eq.trans (st_call (by simp [b1, b2]) (wi c1 c2) rfl) ?_
    refine Eq.trans (st_f (by simp [b1, b2])) ?_
    simp [TT.dv, e1]
theorem pr_outer (hall : ∀ p q, p < q → q < c → PairOK r c w (DV Y F) p q) {x3 x7 x8 x9 x10 x11 x12 x13 x14 x15 : PV} : ∀ (n : Nat) {p : Nat}, p + n = c →
  rounds (fun vs => lo79_1.dv (Vi r :: Vi c :: Vl a :: x3 :: Vi r :: Vi c :: Vl w :: x7 :: x8 :: x9 :: x10 :: x11 :: x12 :: x13 :: x14 :: x15 :: dS Y F :: dL Y F :: dE Y F :: vs)) [Vb false, Vi p] = some (.y (.ext 0) [Vb false]) := by
 intro n
 have hr := h.hr
 have hc := h.hc
 induction n with
 | zero =>
  intro p hp
  have : p = c := by omega
  subst this
  refine rounds_exit ?_ (by simp)
  exact Eq.trans (st_f (by simp)) rfl
 | succ n ih =>
  intro p hp
  have hpc : p < c := by omega
  refine Eq.trans (rounds_cont ?_) (ih (p := p + 1) (by omega))
  have e1 : (B.add .i64).den (Vi p) (Vi 1) = Vi ((p + 1 : Nat) : Int) := by rw [add_i (by omega) (by omega)]; rfl
  have inn := pr_inner h hY hpc (hall p) (a := a) (x3 := x3) (x7 := x7) (x8 := x8) (x9 := x9) (x10 := x10) (x11 := x11) (x12 := x12) (x13 := x13) (x14 := x14) (x15 := x15) (c - (p + 1)) (q := p + 1) (by omega) (by omega)
  rw [← e1] at inn
  refine Eq.trans (st_t (by simp [hpc])) ?_
  refine Eq.trans (st_loop inn) ?_
  refine Eq.trans (st_miss (by simp)) ?_
  refine Eq.trans st_hit ?_
  simp [TT.dv, e1]
end
theorem law_SvdPairs {R C : Int} (_ : -9223372036854775808 ≤ R) (_ : R < 9223372036854775808) (_ : -9223372036854775808 ≤ C) (_ : C < 9223372036854775808) {x : List Nat} (hw : Words x) (hl : x.length ≤ 17592186043904) :
  val 79 [Vi R, Vi C, Vl x] = some [Vb true] := by
 refine val_of tab79 ?_
 obtain ⟨b, t1, t2⟩ := tame11_ok R C hw hl (K := 100) (by omega)
 cases b
 ·simp [tr79, TT.dv, t1, awake_19]
 obtain ⟨hr, hT⟩ := t2 rfl
 obtain ⟨r, c, rfl, rfl, h⟩ := right_mx hr hw
 rcases upright_tame h hT with u | ⟨s, pl, hS, hp, u⟩
 ·unfold up0 at u
  simp [tr79, TT.dv, t1, u, awake_19]
 ·have R := upR h hT hS hp
  have ft := fit19_ok (a := x) R.w R.v R.fw R.fv
  obtain ⟨Y, F, q1, q2, q3⟩ := square11_ok h
  have sc := scaleD_ok (q2.db (by omega) (by omega)) (k := -80) (by omega)
  have bsc := q2.scale (k := -80) 80 (by omega)
  have vs := DV_scale Y F (-80)
  have hall : ∀ p q, p < q → q < c → PairOK r c (upFW r c x s pl) (DV Y (F + -80)) p q := fun p q h1 h2 => by
   rw [vs, q3, sq_sum2]
   exact pair_ok h hT hS hp h1 h2
  have lp := fun x3 x7 x8 x9 x10 x11 x12 x13 x14 x15 => pr_outer R.w (bsc.mono (E' := 4400) (T' := 4600) (by omega) (by omega)) hall (a := x) (x3 := x3) (x7 := x7) (x8 := x8) (x9 := x9) (x10 := x10) (x11 := x11) (x12 := x12) (x13 := x13) (x14 := x14) (x15 := x15) c (p := 0) (by omega)
  rw [show ((0 : Nat) : Int) = 0 from rfl] at lp
  clear hall q2 q3 bsc vs R
  generalize upFW r c x s pl = w at *
  generalize upFV c s pl = v at *
  generalize nmL r c w = z at *
  generalize dS Y (F + -80) = g1 at *
  generalize dL Y (F + -80) = g2 at *
  generalize dE Y (F + -80) = g3 at *
  generalize dS Y F = g4 at *
  generalize dL Y F = g5 at *
  generalize dE Y F = g6 at *
  refine Eq.trans (st_call rfl t1 rfl) ?_
  refine Eq.trans (st_f rfl) ?_
  simp only [List.cons_append, List.nil_append]
  refine Eq.trans (st_call rfl u rfl) ?_
  refine Eq.trans (st_f rfl) ?_
  simp only [List.cons_append, List.nil_append]
  refine Eq.trans (st_call rfl ft rfl) ?_
  refine Eq.trans (st_f rfl) ?_
  simp only [List.cons_append, List.nil_append]
  refine Eq.trans (st_call rfl q1 rfl) ?_
  simp only [List.cons_append, List.nil_append]
  refine Eq.trans (st_call rfl sc rfl) ?_
  simp only [List.cons_append, List.nil_append]
  refine Eq.trans (st_loop (lp _ _ _ _ _ _ _ _ _ _)) ?_
  refine Eq.trans (st_miss (by simp)) ?_
  refine Eq.trans st_hit ?_
  simp only [List.cons_append, List.nil_append]
  refine Eq.trans (st_call rfl awake_19 rfl) ?_
  rfl
end Go.Proofs.YthchhkghjfendabGreat.Dx
