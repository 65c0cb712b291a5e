/- The pure meaning of the functions that the law reaches, and that the law is true of it. No conditions. -/
import Derived.Test.YthchhkghjfendaaHessZerosM1
set_option linter.all false
namespace Go.Proofs.Ythchhkghjfendaa.Dx
open Go

def dnA (r c : Nat) (x : List Nat) : Option (List Nat × List Mir) := dnR r c (min c (r - 1)) 0 x []
theorem down_ok {r c : Nat} {x : List Nat} (h : Mx r c x) : val 271 [Vi r, Vi c, Vl x] = some (match dnA r c x with | some (y, ms) => [Vi r, Vi c, Vl y, ML ms, Vi 0] | none => [Vi 0, Vi 0, Vl [], Vl [], Vi 2]) := by
  refine val_of tab271 ?_
  have lp := fun x2 x3 => down_loop (x0 := x2) (x1 := x2) (x2 := x2) (x3 := x3) (min c (r - 1)) (j := 0) (ms := []) (by omega) h rfl
  unfold dnA
  cases hd : dnR r c (min c (r - 1)) 0 x [] with
  | none =>
    rw [hd] at lp
    obtain ⟨q1, q2, q3, q4, lp⟩ := lp (Vl x) (Vi 0)
    rw [show ((0 : Nat) : Int) = 0 from rfl, ← ML_nil] at lp
    simp [tr271, TT.dv, KS.dv, lp]
  | some p =>
    obtain ⟨y, ms⟩ := p
    rw [hd] at lp
    have lp := lp (Vl x) (Vi 0)
    simp only [show ((0 : Nat) : Int) = 0 from rfl, ← ML_nil] at lp
    simp [tr271, TT.dv, KS.dv, lp]
theorem dnA_mx {r c : Nat} {x y : List Nat} {ms : List Mir} (h : Mx r c x) (he : dnA r c x = some (y, ms)) : Mx r c y ∧ MsOK r ms ∧ ms.length = min c (r - 1) := by
  obtain ⟨a, b, d⟩ := dnR_mx (min c (r - 1)) (j := 0) (by omega) (by omega) h (fun j m hj => by simp at hj) rfl he
  exact ⟨a, b, by omega⟩
def mir (ms : List Mir) (n : Nat) : Mir := ms.getD n ([], 0, 0)
theorem mir_some {ms : List Mir} {n : Nat} (h : n < ms.length) : ms[n]? = some (mir ms n) := by
  unfold mir; rw [List.getD_eq_getElem?_getD, List.getElem?_eq_getElem h]; rfl
theorem get_ML {ms : List Mir} {n : Nat} (h : n < ms.length) : B.get.den (ML ms) (Vi n) = .a [Vl (mir ms n).1, Vu (mir ms n).2.1] := by
  show (PV.l (ms.map mrP)).list.getD (Vi n).int.toNat default = _
  rw [int_I, Int.toNat_natCast, PV.list, List.getD_eq_getElem?_getD, List.getElem?_map, mir_some h]; rfl
def backR (r : Nat) (ms : List Mir) : Nat → List Nat → List Nat
  | 0, q => q
  | n + 1, q => backR r ms n (apV r r q n 0 (mir ms n).1 (mir ms n).2.1)
section
variable {r : Nat} {ms : List Mir} (hms : MsOK r ms) (hml : ms.length ≤ r)
include hms hml
theorem mir_ok {n : Nat} (h : n < ms.length) : MirOK r n (mir ms n) := hms n _ (mir_some h)
theorem back_step_mx {q : List Nat} (hq : Mx r r q) {n : Nat} (h : n < ms.length) : Mx r r (apV r r q n 0 (mir ms n).1 (mir ms n).2.1) := by
  have hm := mir_ok hms hml h
  exact apV_mx hq hm.w hm.t (i := n) (by rw [hm.len]; omega)
theorem backR_mx : ∀ (n : Nat) {q : List Nat}, n ≤ ms.length → Mx r r q → Mx r r (backR r ms n q)
  | 0, _, _, hq => hq
  | n + 1, q, h, hq => backR_mx n (by omega) (back_step_mx hms hml hq (show n < ms.length by omega))
theorem back_ap {q : List Nat} (hq : Mx r r q) {n : Nat} (h : n < ms.length) : val 238 [Vi r, Vi r, Vl q, Vi n, Vi 0, Vl (mir ms n).1, Vu (mir ms n).2.1] = some [Vi r, Vi r, Vl (apV r r q n 0 (mir ms n).1 (mir ms n).2.1), Vi 0] := by
  have hm := mir_ok hms hml h
  have := apply_ok hq hm.w hm.t (i := n) (by rw [hm.len]; omega) (k := 0) (by omega)
  exact this
theorem back_loop {x0 x1 x2 x3 x4 x5 x6 x8 x9 x10 x11 x12 : PV} : ∀ (n : Nat) {q : List Nat}, n ≤ ms.length → Mx r r q →
    rounds (fun vs => lo268_1.dv (x0 :: x1 :: x2 :: x3 :: x4 :: x5 :: x6 :: ML ms :: x8 :: x9 :: x10 :: x11 :: x12 :: vs)) [Vi 0, Vi ((n : Int) - 1), Vi r, Vi r, Vl q] = some (.y (.ext 0) [Vi 0, Vi r, Vi r, Vl (backR r ms n q)]) := by
  intro n
  induction n with
  | zero =>
    intro q hn hq
    refine rounds_exit ?_ (by simp)
    simp [lo268_1, TT.dv, backR]
  | succ n ih =>
    intro q hn hq
    have hlt : n < ms.length := by omega
    refine Eq.trans (rounds_cont ?_) (ih (by omega) (back_step_mx hms hml hq hlt))
    have hr := hq.hr
    have e0 : ((n + 1 : Nat) : Int) - 1 = (n : Int) := by omega
    have e1 : (B.sub .i64).den (Vi n) (Vi 1) = Vi ((n : Int) - 1) := sub_i (by omega) (by omega)
    have a1 := back_ap hms hml hq hlt
    have g1 := get_ML hlt
    have l1 := len_ML ms
    have f0 : ∀ a b : PV, (U.fld 0).den (PV.a [a, b]) = a := fun _ _ => rfl
    have f1 : ∀ a b : PV, (U.fld 1).den (PV.a [a, b]) = b := fun _ _ => rfl
    rw [e0]
    simp [lo268_1, TT.dv, hlt, e1, a1, g1, l1, f0, f1, show ¬ (n : Int) < 0 by omega]
end
def qrQ (r : Nat) (ms : List Mir) : List Nat := backR r ms ms.length (eyV r)
/-- Both factors, where there are any. -/
def qrR (r c : Nat) (x : List Nat) : Option (List Nat × List Nat) :=
  match dnA r c x with
  | none => none
  | some (y, ms) => if finV (qrQ r ms) && finV y then some (qrQ r ms, y) else none
theorem qrR_mx {r c : Nat} {x q y : List Nat} (h : Mx r c x) (he : qrR r c x = some (q, y)) : Mx r r q ∧ Mx r c y := by
  unfold qrR at he
  split at he
  · cases he
  · rename_i y' ms hd
    obtain ⟨hy, hms, hml⟩ := dnA_mx h hd
    split at he
    · simp at he; obtain ⟨rfl, rfl⟩ := he
      exact ⟨backR_mx hms (by omega) _ (Nat.le_refl _) (eyV_mx h.hr), hy⟩
    · cases he
theorem factor_ok {r c : Nat} {x : List Nat} (h : Mx r c x) (hf : finV x = true) : val 268 [Vi r, Vi c, Vl x] = some (match qrR r c x with | some (q, y) => [Vi r, Vi r, Vl q, Vi r, Vi c, Vl y, Vi 0] | none => [Vi 0, Vi 0, Vl [], Vi 0, Vi 0, Vl [], Vi 2]) := by
  refine val_of tab268 ?_
  have hr := h.hr
  have hs := h.small
  have h1 := ccheck_ok r c (x := x) (by omega)
  unfold chk at h1
  rw [if_pos (mx_right h), if_pos hf] at h1
  have h2 := down_ok h
  unfold qrR
  cases hd : dnA r c x with
  | none =>
    rw [hd] at h2
    simp only at h2
    simp [tr268, TT.dv, KS.dv, h1, h2, show (x.length : Int) ≤ 17592186044416 by omega]
  | some p =>
    obtain ⟨y, ms⟩ := p
    rw [hd] at h2
    simp only at h2
    obtain ⟨hy, hms, hml⟩ := dnA_mx h hd
    have hle : ms.length ≤ r := by omega
    have h3 := eye_ok hr
    have hq : Mx r r (qrQ r ms) := backR_mx hms hle _ (Nat.le_refl _) (eyV_mx h.hr)
    have lp := fun x0 x1 x2 x3 x4 x5 x6 x8 x9 x10 x11 x12 => back_loop hms hle (x0 := x0) (x1 := x1) (x2 := x2) (x3 := x3) (x4 := x4) (x5 := x5) (x6 := x6) (x8 := x8) (x9 := x9) (x10 := x10) (x11 := x11) (x12 := x12) ms.length (Nat.le_refl _) (eyV_mx hr)
    rw [show backR r ms ms.length (eyV r) = qrQ r ms from rfl] at lp
    have f1 := finite_v_ok hq.w (by have := hq.small; omega)
    have f2 := finite_v_ok hy.w (by have := hy.small; omega)
    have l1 := len_ML ms
    have s1 : (B.sub .i64).den (Vi ms.length) (Vi 1) = Vi ((ms.length : Int) - 1) := sub_i (by omega) (by omega)
    cases c1 : finV (qrQ r ms)
    · rw [c1] at f1
      simp [tr268, TT.dv, KS.dv, h1, h2, h3, show (x.length : Int) ≤ 17592186044416 by omega, lp, l1, s1, f1, c1]
    · cases c2 : finV y <;> rw [c1] at f1 <;> rw [c2] at f2 <;>
      simp [tr268, TT.dv, KS.dv, h1, h2, h3, show (x.length : Int) ≤ 17592186044416 by omega, lp, l1, s1, f1, f2, c1, c2]
end Go.Proofs.Ythchhkghjfendaa.Dx

namespace Go.Proofs.Ythchhkghjfendaa.Dx
open Go

theorem chk_cases (R C : Int) (x : List Nat) : chk R C x ≠ 0 ∨ (chk R C x = 0 ∧ rightP R C x ∧ finV x = true) := by
  unfold chk
  by_cases h : rightP R C x
  · rw [if_pos h]
    cases hf : finV x
    · left; simp
    · right; exact ⟨by simp, h, rfl⟩
  · rw [if_neg h]; left; decide
end Go.Proofs.Ythchhkghjfendaa.Dx

namespace Go.Proofs.Ythchhkghjfendaa.Dx
open Go

section
variable {r c : Nat} {y : List Nat} (h : Mx r c y) (hu : ∀ a b, b < a → a < r → b < c → el y (ps a c b) = 0)
include h hu
end
end Go.Proofs.Ythchhkghjfendaa.Dx

namespace Go.Proofs.Ythchhkghjfendaa.Dx
open Go

section
variable {r c : Nat} {x : List Nat} (h : Mx r c x) {up over : Bool}
include h
end
section
variable {r c : Nat} {y : List Nat} (h : Mx r c y)
include h
end
end Go.Proofs.Ythchhkghjfendaa.Dx

namespace Go.Proofs.Ythchhkghjfendaa.Dx
open Go

theorem awake_18 : val 76 [] = some [Vb true] := val_iff.2 ⟨20000, by kernel_rfl⟩
end Go.Proofs.Ythchhkghjfendaa.Dx

namespace Go.Proofs.Ythchhkghjfendaa.Dx
open Go

theorem hat_ok {r c : Nat} {x : List Nat} (h : Mx r c x) {i k : Nat} (hi : i < r) (hk : k < c) : val 235 [Vi r, Vi c, Vl x, Vi i, Vi k] = some [Vu (el x (ps i c k))] := by
  refine val_of tab235 ?_
  have h1 := h.hr
  have h2 := h.hc
  have e1 := pos_i (i := i) (c := c) (k := k) (by omega) (by omega) (by omega)
  have hl := h.lt hi hk
  simp [tr235, TT.dv, e1, hl, get_V hl]
section
variable {n : Nat} {x : List Nat} (h : Mx n n x)
include h
end
def chI (c b : Nat) : Nat → Nat → List Nat → List Nat
  | 0, _, m => m
  | n + 1, i, m => chI c b n (i + 1) (fin1 (fun k => ps i c k) (fun _ => 0) (i - b) 0 m)
theorem fin0_mx {r c : Nat} {pos : Nat → Nat} : ∀ (n k : Nat) {m : List Nat}, Mx r c m → Mx r c (fin1 pos (fun _ => 0) n k m)
  | 0, _, _, h => h
  | n + 1, k, m, h => fin0_mx n (k + 1) (h.set (p := pos k) (v := 0) (by decide))
theorem chI_mx {r c b : Nat} : ∀ (n i : Nat) {m : List Nat}, Mx r c m → Mx r c (chI c b n i m)
  | 0, _, _, h => h
  | n + 1, i, m, h => chI_mx n (i + 1) (fin0_mx _ _ h)
theorem chI_at {n b : Nat} : ∀ (t i : Nat) {m : List Nat}, m.length = n * n → i + t = n → ∀ i' k, i' < n → k < n → el (chI n b t i m) (ps i' n k) = if i ≤ i' ∧ k + b < i' then 0 else el m (ps i' n k)
  | 0, i, m, _, he, i', k, hi, hk => by unfold chI; rw [if_neg (by omega)]
  | t + 1, i, m, hl, he, i', k, hi, hk => by
    unfold chI
    rw [chI_at t (i + 1) (by rw [fin1_len, hl]) (by omega) i' k hi hk]
    by_cases h1 : i + 1 ≤ i' ∧ k + b < i'
    · rw [if_pos h1, if_pos ⟨by omega, h1.2⟩]
    · rw [if_neg h1]
      by_cases h2 : i = i' ∧ k + b < i'
      · rw [if_pos ⟨by omega, h2.2⟩]
        obtain ⟨rfl, h3⟩ := h2
        exact fin1_at (pos := fun k => ps i n k) (v := fun _ => 0) (i - b) 0 m (fun j _ h4 => by rw [hl]; exact ps_lt hi (by omega)) (fun j j' _ a _ a' hh => (ps_inj (by omega) (by omega) hh).2) k (Nat.zero_le _) (by omega)
      · rw [if_neg (by omega)]
        refine fin1_other (i - b) 0 m fun j _ h4 hh => ?_
        have := ps_inj (show j < n by omega) hk hh
        omega
def clH (n b : Nat) (m : List Nat) : List Nat := chI n b n 0 m
theorem clH_at {n b : Nat} {m : List Nat} (h : Mx n n m) {i k : Nat} (hi : i < n) (hk : k + b < i) : el (clH n b m) (ps i n k) = 0 := by
  unfold clH; rw [chI_at n 0 h.len (by omega) i k hi (by omega), if_pos ⟨Nat.zero_le _, hk⟩]
theorem clH_mx {n b : Nat} {m : List Nat} (h : Mx n n m) : Mx n n (clH n b m) := chI_mx _ _ h
section
variable {n b : Nat} (hb : b ≤ 1)
include hb
theorem ch_in {i : Nat} (hi : i < n) {x2 x5 : PV} : ∀ (t : Nat) {k : Nat} {m : List Nat}, k + t = i - b → Mx n n m →
    rounds (fun vs => lo236_2.dv (Vi n :: Vi n :: x2 :: Vi b :: Vi i :: x5 :: vs)) [Vi k, Vl m] = some (.y (.ext 2) [Vl (fin1 (fun k => ps i n k) (fun _ => 0) t k m)]) := by
  intro t
  induction t with
  | zero =>
    intro k m hk h
    have hn := h.hr
    have e2 : (B.add .i64).den (Vi k) (Vi b) = Vi ((k + b : Nat) : Int) := by rw [add_i (by omega) (by omega)]; exact congrArg Vi (by omega)
    refine rounds_exit ?_ (by simp)
    have e3 : ¬ ((k + b : Nat) : Int) < i := by omega
    generalize ((k + b : Nat) : Int) = z at *
    simp [lo236_2, TT.dv, e2, e3, fin1]
  | succ t ih =>
    intro k m hk h
    have hn := h.hr
    have hkn : k < n := by omega
    refine Eq.trans (rounds_cont ?_) (ih (k := k + 1) (by omega) (h.set (p := ps i n k) (v := 0) (by decide)))
    have e1 : (B.add .i64).den (Vi k) (Vi 1) = Vi (k + 1) := add_i (by omega) (by omega)
    have e2 : (B.add .i64).den (Vi k) (Vi b) = Vi ((k + b : Nat) : Int) := by rw [add_i (by omega) (by omega)]; exact congrArg Vi (by omega)
    have p1 := pos_i (i := i) (c := n) (k := k) (by omega) (by omega) (by omega)
    have l1 := h.lt hi hkn
    have e3 : ((k + b : Nat) : Int) < i := by omega
    generalize ((k + b : Nat) : Int) = z at *
    simp [lo236_2, TT.dv, e1, e2, e3, p1, l1, set_V]
theorem ch_out {x2 : PV} : ∀ (t : Nat) {i : Nat} {m : List Nat}, i + t = n → Mx n n m →
    rounds (fun vs => lo236_1.dv (Vi n :: Vi n :: x2 :: Vi b :: vs)) [Vi i, Vl m] = some (.y (.ext 0) [Vl (chI n b t i m)]) := by
  intro t
  induction t with
  | zero =>
    intro i m hi h
    have : i = n := by omega
    subst this
    refine rounds_exit ?_ (by simp)
    simp [lo236_1, TT.dv, chI]
  | succ t ih =>
    intro i m hi h
    have hn := h.hr
    have hin : i < n := by omega
    refine Eq.trans (rounds_cont ?_) (ih (i := i + 1) (by omega) (fin0_mx (i - b) 0 h))
    have e1 : (B.add .i64).den (Vi i) (Vi 1) = Vi (i + 1) := add_i (by omega) (by omega)
    have lp := fun x5 => ch_in hb hin (x2 := x2) (x5 := x5) (i - b) (k := 0) (m := m) (by omega) h
    simp only [show ((0 : Nat) : Int) = 0 from rfl] at lp
    simp [lo236_1, TT.dv, KS.dv, hin, e1, lp]
theorem clh_ok {m : List Nat} (h : Mx n n m) : val 236 [Vi n, Vi n, Vl m, Vi b] = some [Vl (clH n b m)] := by
  refine val_of tab236 ?_
  have lp := fun x2 => ch_out hb (x2 := x2) n (i := 0) (m := m) (by omega) h
  simp only [show ((0 : Nat) : Int) = 0 from rfl] at lp
  simp [tr236, TT.dv, KS.dv, lp, clH]
end
end Go.Proofs.Ythchhkghjfendaa.Dx

namespace Go.Proofs.Ythchhkghjfendaa.Dx
open Go

/-- What two matrices are brought to: H, T, Q, Z. -/
structure Q4 where
  H : List Nat
  T : List Nat
  Q : List Nat
  Z : List Nat
structure Mx4 (n : Nat) (s : Q4) : Prop where
  H : Mx n n s.H
  T : Mx n n s.T
  Q : Mx n n s.Q
  Z : Mx n n s.Z
def hrF (n i j : Nat) (s : Q4) : Nat := el s.H (ps (i - 1) n j)
def hrG (n i j : Nat) (s : Q4) : Nat := el s.H (ps i n j)
def hrV (n i j : Nat) (s : Q4) (C S r : Nat) : Q4 :=
  ⟨((rowV s.H n (i - 1) i C S).set (ps (i - 1) n j) r).set (ps i n j) 0, rowV s.T n (i - 1) i C S, colV n n s.Q (i - 1) i C S, s.Z⟩
def hsR (n i j : Nat) (s : Q4) : Q4 := hrV n i j s (turnC (hrF n i j s) (hrG n i j s)) (turnS (hrF n i j s) (hrG n i j s)) (turnR (hrF n i j s) (hrG n i j s))
def hcF (n i : Nat) (s : Q4) : Nat := el s.T (ps i n i)
def hcG (n i : Nat) (s : Q4) : Nat := el s.T (ps i n (i - 1))
def hcV (n i : Nat) (s : Q4) (C S r : Nat) : Q4 :=
  ⟨colV n n s.H i (i - 1) C S, ((colV n n s.T i (i - 1) C S).set (ps i n i) r).set (ps i n (i - 1)) 0, s.Q, colV n n s.Z i (i - 1) C S⟩
def hsC (n i : Nat) (s : Q4) : Q4 := hcV n i s (turnC (hcF n i s) (hcG n i s)) (turnS (hcF n i s) (hcG n i s)) (turnR (hcF n i s) (hcG n i s))
def finP (a b : Nat) : Bool := decide (¬ (fPow a = 2047 ∨ fPow b = 2047))
def hsS (n i j : Nat) (s : Q4) : Option Q4 :=
  if finP (hrF n i j s) (hrG n i j s) then (if finP (hcF n i (hsR n i j s)) (hcG n i (hsR n i j s)) then some (hsC n i (hsR n i j s)) else none) else none
theorem turn_lt {f g : Nat} (hf : f < 18446744073709551616) (hg : g < 18446744073709551616) : turnC f g < 18446744073709551616 ∧ turnS f g < 18446744073709551616 ∧ turnR f g < 18446744073709551616 := by
  refine ⟨?_, ?_, ?_⟩
  · unfold turnC; split; decide; split; decide; exact divV_lt
  · unfold turnS; split; decide; split; decide; exact divV_lt
  · unfold turnR; split; exact hf; split; exact hg; exact scaleV_lt (tN_lt hf hg) _
section
variable {n i : Nat} (hi : 1 ≤ i) (hin : i < n)
include hi hin
theorem hrV_mx {j : Nat} {s : Q4} (h : Mx4 n s) {C S r : Nat} (hC : C < 18446744073709551616) (hS : S < 18446744073709551616) (hr : r < 18446744073709551616) : Mx4 n (hrV n i j s C S r) :=
  ⟨((rowV_mx h.H hC hS (i := i - 1) (k := i) (by omega) hin).set hr).set (by decide), rowV_mx h.T hC hS (i := i - 1) (k := i) (by omega) hin, colV_mx h.Q hC hS (i := i - 1) (k := i) (by omega) hin, h.Z⟩
theorem hcV_mx {s : Q4} (h : Mx4 n s) {C S r : Nat} (hC : C < 18446744073709551616) (hS : S < 18446744073709551616) (hr : r < 18446744073709551616) : Mx4 n (hcV n i s C S r) :=
  ⟨colV_mx h.H hC hS (i := i) (k := i - 1) hin (by omega), ((colV_mx h.T hC hS (i := i) (k := i - 1) hin (by omega)).set hr).set (by decide), h.Q, colV_mx h.Z hC hS (i := i) (k := i - 1) hin (by omega)⟩
theorem hsR_mx {j : Nat} {s : Q4} (h : Mx4 n s) : Mx4 n (hsR n i j s) := by
  obtain ⟨a, b, c⟩ := turn_lt (f := hrF n i j s) (g := hrG n i j s) (h.H.w.el _) (h.H.w.el _)
  exact hrV_mx hi hin h a b c
theorem hsC_mx {s : Q4} (h : Mx4 n s) : Mx4 n (hsC n i s) := by
  obtain ⟨a, b, c⟩ := turn_lt (f := hcF n i s) (g := hcG n i s) (h.T.w.el _) (h.T.w.el _)
  exact hcV_mx hi hin h a b c
theorem hsS_mx {j : Nat} {s s' : Q4} (h : Mx4 n s) (he : hsS n i j s = some s') : Mx4 n s' := by
  unfold hsS at he
  split at he
  · split at he
    · cases he; exact hsC_mx hi hin (hsR_mx hi hin h)
    · cases he
  · cases he
theorem hrows_ok {j : Nat} (hj : j < n) {s : Q4} (h : Mx4 n s) : val 1 [Vi n, Vi n, Vl s.H, Vi n, Vi n, Vl s.T, Vi n, Vi n, Vl s.Q, Vi n, Vi n, Vl s.Z, Vi i, Vi j] =
    some (if finP (hrF n i j s) (hrG n i j s) then [Vi n, Vi n, Vl (hsR n i j s).H, Vi n, Vi n, Vl (hsR n i j s).T, Vi n, Vi n, Vl (hsR n i j s).Q, Vi n, Vi n, Vl (hsR n i j s).Z, Vi 0]
      else [Vi 0, Vi 0, Vl [], Vi 0, Vi 0, Vl [], Vi 0, Vi 0, Vl [], Vi 0, Vi 0, Vl [], Vi 2]) := by
  refine val_of tab1 ?_
  have hn := h.H.hr
  have e1 : (B.sub .i64).den (Vi i) (Vi 1) = Vi ((i - 1 : Nat) : Int) := by rw [sub_i (by omega) (by omega)]; exact congrArg Vi (by omega)
  have a1 : val 235 [Vi n, Vi n, Vl s.H, (B.sub .i64).den (Vi i) (Vi 1), Vi j] = some [Vu (hrF n i j s)] := by rw [e1]; exact hat_ok h.H (i := i - 1) (by omega) hj
  have a2 : val 235 [Vi n, Vi n, Vl s.H, Vi i, Vi j] = some [Vu (hrG n i j s)] := hat_ok h.H hin hj
  have t1 := turn_ok (f := hrF n i j s) (g := hrG n i j s) (h.H.w.el _) (h.H.w.el _)
  obtain ⟨l1, l2, l3⟩ := turn_lt (f := hrF n i j s) (g := hrG n i j s) (h.H.w.el _) (h.H.w.el _)
  unfold finP hsR
  generalize hrF n i j s = f at *
  generalize hrG n i j s = g at *
  by_cases c : fPow f = 2047 ∨ fPow g = 2047
  · rw [if_pos c] at t1
    rw [decide_eq_false (fun hh => hh c), if_neg (by decide)]
    refine Eq.trans (st_call rfl a1 rfl) ?_
    refine Eq.trans (st_call rfl a2 rfl) ?_
    refine Eq.trans (st_call rfl t1 rfl) ?_
    simp only [List.cons_append, List.nil_append]
    refine Eq.trans (st_t (by simp)) ?_
    rfl
  · rw [if_neg c] at t1
    rw [decide_eq_true c, if_pos rfl]
    generalize turnC f g = C at *
    generalize turnS f g = S at *
    generalize turnR f g = r at *
    have r1 : val 231 [Vi n, Vi n, Vl s.H, (B.sub .i64).den (Vi i) (Vi 1), Vi i, Vu C, Vu S] = some [Vi n, Vi n, Vl (rowV s.H n (i - 1) i C S), Vi 0] := by rw [e1]; exact rows_ok h.H l1 l2 (by omega) hin (by omega)
    have r2 : val 231 [Vi n, Vi n, Vl s.T, (B.sub .i64).den (Vi i) (Vi 1), Vi i, Vu C, Vu S] = some [Vi n, Vi n, Vl (rowV s.T n (i - 1) i C S), Vi 0] := by rw [e1]; exact rows_ok h.T l1 l2 (by omega) hin (by omega)
    have r3 : val 230 [Vi n, Vi n, Vl s.Q, (B.sub .i64).den (Vi i) (Vi 1), Vi i, Vu C, Vu S] = some [Vi n, Vi n, Vl (colV n n s.Q (i - 1) i C S), Vi 0] := by rw [e1]; exact cols_ok h.Q l1 l2 (by omega) hin (by omega)
    have m1 := rowV_mx h.H l1 l2 (i := i - 1) (k := i) (by omega) hin
    have p1 : (B.add .i64).den ((B.mul .i64).den ((B.sub .i64).den (Vi i) (Vi 1)) (Vi n)) (Vi j) = Vi (ps (i - 1) n j) := by rw [e1]; exact pos_i (i := i - 1) (c := n) (k := j) (by omega) (by omega) (by omega)
    have p2 := pos_i (i := i) (c := n) (k := j) (by omega) (by omega) (by omega)
    have q1 := m1.lt (show i - 1 < n by omega) hj
    have q2 := m1.lt hin hj
    unfold hrV
    simp only
    generalize rowV s.H n (i - 1) i C S = H' at *
    generalize rowV s.T n (i - 1) i C S = T' at *
    generalize colV n n s.Q (i - 1) i C S = Q' at *
    refine Eq.trans (st_call rfl a1 rfl) ?_
    refine Eq.trans (st_call rfl a2 rfl) ?_
    refine Eq.trans (st_call rfl t1 rfl) ?_
    simp only [List.cons_append, List.nil_append]
    refine Eq.trans (st_f (by simp)) ?_
    refine Eq.trans (st_call rfl r1 rfl) ?_
    refine Eq.trans (st_call rfl r2 rfl) ?_
    refine Eq.trans (st_call rfl r3 rfl) ?_
    simp only [List.cons_append, List.nil_append]
    simp [TT.dv, p1, p2, q1, q2, set_V]
theorem hcols_ok {s : Q4} (h : Mx4 n s) : val 0 [Vi n, Vi n, Vl s.H, Vi n, Vi n, Vl s.T, Vi n, Vi n, Vl s.Q, Vi n, Vi n, Vl s.Z, Vi i] =
    some (if finP (hcF n i s) (hcG n i s) then [Vi n, Vi n, Vl (hsC n i s).H, Vi n, Vi n, Vl (hsC n i s).T, Vi n, Vi n, Vl (hsC n i s).Q, Vi n, Vi n, Vl (hsC n i s).Z, Vi 0]
      else [Vi 0, Vi 0, Vl [], Vi 0, Vi 0, Vl [], Vi 0, Vi 0, Vl [], Vi 0, Vi 0, Vl [], Vi 2]) := by
  refine val_of tab0 ?_
  have hn := h.H.hr
  have e1 : (B.sub .i64).den (Vi i) (Vi 1) = Vi ((i - 1 : Nat) : Int) := by rw [sub_i (by omega) (by omega)]; exact congrArg Vi (by omega)
  have a1 : val 235 [Vi n, Vi n, Vl s.T, Vi i, Vi i] = some [Vu (hcF n i s)] := hat_ok h.T hin hin
  have a2 : val 235 [Vi n, Vi n, Vl s.T, Vi i, (B.sub .i64).den (Vi i) (Vi 1)] = some [Vu (hcG n i s)] := by rw [e1]; exact hat_ok h.T hin (k := i - 1) (by omega)
  have t1 := turn_ok (f := hcF n i s) (g := hcG n i s) (h.T.w.el _) (h.T.w.el _)
  obtain ⟨l1, l2, l3⟩ := turn_lt (f := hcF n i s) (g := hcG n i s) (h.T.w.el _) (h.T.w.el _)
  unfold finP hsC
  generalize hcF n i s = f at *
  generalize hcG n i s = g at *
  by_cases c : fPow f = 2047 ∨ fPow g = 2047
  · rw [if_pos c] at t1
    rw [decide_eq_false (fun hh => hh c), if_neg (by decide)]
    refine Eq.trans (st_call rfl a1 rfl) ?_
    refine Eq.trans (st_call rfl a2 rfl) ?_
    refine Eq.trans (st_call rfl t1 rfl) ?_
    simp only [List.cons_append, List.nil_append]
    refine Eq.trans (st_t (by simp)) ?_
    rfl
  · rw [if_neg c] at t1
    rw [decide_eq_true c, if_pos rfl]
    generalize turnC f g = C at *
    generalize turnS f g = S at *
    generalize turnR f g = r at *
    have r1 : val 230 [Vi n, Vi n, Vl s.T, Vi i, (B.sub .i64).den (Vi i) (Vi 1), Vu C, Vu S] = some [Vi n, Vi n, Vl (colV n n s.T i (i - 1) C S), Vi 0] := by rw [e1]; exact cols_ok h.T l1 l2 hin (by omega) (by omega)
    have r2 : val 230 [Vi n, Vi n, Vl s.H, Vi i, (B.sub .i64).den (Vi i) (Vi 1), Vu C, Vu S] = some [Vi n, Vi n, Vl (colV n n s.H i (i - 1) C S), Vi 0] := by rw [e1]; exact cols_ok h.H l1 l2 hin (by omega) (by omega)
    have r3 : val 230 [Vi n, Vi n, Vl s.Z, Vi i, (B.sub .i64).den (Vi i) (Vi 1), Vu C, Vu S] = some [Vi n, Vi n, Vl (colV n n s.Z i (i - 1) C S), Vi 0] := by rw [e1]; exact cols_ok h.Z l1 l2 hin (by omega) (by omega)
    have m1 := colV_mx h.T l1 l2 (i := i) (k := i - 1) hin (by omega)
    have p1 := pos_i (i := i) (c := n) (k := i) (by omega) (by omega) (by omega)
    have hps : ps i n i ≤ 100000 := ps_small (by omega) (by omega) (by omega)
    have p2 : (B.sub .i64).den (Vi (ps i n i)) (Vi 1) = Vi (ps i n (i - 1)) := by
      rw [sub_i (by omega) (by omega)]; unfold ps; exact congrArg Vi (by omega)
    have q1 := m1.lt hin hin
    have q2 := m1.lt hin (show i - 1 < n by omega)
    unfold hcV
    simp only
    generalize colV n n s.T i (i - 1) C S = T' at *
    generalize colV n n s.H i (i - 1) C S = H' at *
    generalize colV n n s.Z i (i - 1) C S = Z' at *
    refine Eq.trans (st_call rfl a1 rfl) ?_
    refine Eq.trans (st_call rfl a2 rfl) ?_
    refine Eq.trans (st_call rfl t1 rfl) ?_
    simp only [List.cons_append, List.nil_append]
    refine Eq.trans (st_f (by simp)) ?_
    refine Eq.trans (st_call rfl r1 rfl) ?_
    refine Eq.trans (st_call rfl r2 rfl) ?_
    refine Eq.trans (st_call rfl r3 rfl) ?_
    simp only [List.cons_append, List.nil_append]
    simp [TT.dv, p1, p2, q1, q2, set_V]
end
end Go.Proofs.Ythchhkghjfendaa.Dx

namespace Go.Proofs.Ythchhkghjfendaa.Dx
open Go

def hsIn (n j : Nat) : Nat → Q4 → Option Q4
  | 0, s => some s
  | m + 1, s => match hsS n (j + 2 + m) j s with
    | some s' => hsIn n j m s'
    | none => none
def hsOut (n : Nat) : Nat → Nat → Q4 → Option Q4
  | 0, _, s => some s
  | m + 1, j, s => match hsIn n j (n - (j + 2)) s with
    | some s' => hsOut n m (j + 1) s'
    | none => none
theorem hsIn_mx {n j : Nat} : ∀ (m : Nat) {s s' : Q4}, j + 2 + m ≤ n → Mx4 n s → hsIn n j m s = some s' → Mx4 n s'
  | 0, s, s', _, h, he => by simp [hsIn] at he; subst he; exact h
  | m + 1, s, s', hm, h, he => by
    unfold hsIn at he
    split at he
    · rename_i s2 hs
      exact hsIn_mx m (by omega) (hsS_mx (i := j + 2 + m) (by omega) (by omega) h hs) he
    · cases he
theorem hsOut_mx {n : Nat} : ∀ (m j : Nat) {s s' : Q4}, j + m = n - 2 → Mx4 n s → hsOut n m j s = some s' → Mx4 n s'
  | 0, _, s, s', _, h, he => by simp [hsOut] at he; subst he; exact h
  | m + 1, j, s, s', hm, h, he => by
    unfold hsOut at he
    split at he
    · rename_i s2 hs
      exact hsOut_mx m (j + 1) (by omega) (hsIn_mx _ (by omega) h hs) he
    · cases he
def brR (n : Nat) (a b : List Nat) : Option Q4 :=
  match qrR n n b with
  | none => none
  | some (q, y) =>
    match hsOut n (n - 2) 0 ⟨muV n n (tpV n n q) n n a, y, q, eyV n⟩ with
    | none => none
    | some s => if finV (clH n 1 s.H) && finV (clH n 0 s.T) && finV s.Q && finV s.Z then some ⟨clH n 1 s.H, clH n 0 s.T, s.Q, s.Z⟩ else none

theorem hin_loop {n j : Nat} (hn6 : n ≤ 6) {x1 x2 x3 x4 x5 x6 x7 x8 x9 x10 x11 x12 x13 x14 x15 x16 x17 x18 x19 x20 x21 x23 x24 x25 x26 x27 x28 x29 x30 x31 x32 x33 x34 : PV} : ∀ (m : Nat) {s : Q4}, j + 2 + m ≤ n → Mx4 n s →
    match hsIn n j m s with
    | some s' => rounds (fun vs => lo233_2.dv (Vi n :: x1 :: x2 :: x3 :: x4 :: x5 :: x6 :: x7 :: x8 :: x9 :: x10 :: x11 :: x12 :: x13 :: x14 :: x15 :: x16 :: x17 :: x18 :: x19 :: x20 :: x21 :: Vi j :: x23 :: x24 :: x25 :: x26 :: x27 :: x28 :: x29 :: x30 :: x31 :: x32 :: x33 :: x34 :: vs)) [Vi 0, Vi ((j + 1 + m : Nat) : Int), Vi n, Vi n, Vi n, Vi n, Vi n, Vi n, Vi n, Vi n, Vl s.Z, Vl s.Q, Vl s.T, Vl s.H] = some (.y (.ext 4) [Vi 0, Vi n, Vi n, Vi n, Vi n, Vi n, Vi n, Vi n, Vi n, Vl s'.Z, Vl s'.Q, Vl s'.T, Vl s'.H])
    | none => ∃ a1 a2 a3 a4 a5 a6 a7 a8 a9 a10 a11 a12, rounds (fun vs => lo233_2.dv (Vi n :: x1 :: x2 :: x3 :: x4 :: x5 :: x6 :: x7 :: x8 :: x9 :: x10 :: x11 :: x12 :: x13 :: x14 :: x15 :: x16 :: x17 :: x18 :: x19 :: x20 :: x21 :: Vi j :: x23 :: x24 :: x25 :: x26 :: x27 :: x28 :: x29 :: x30 :: x31 :: x32 :: x33 :: x34 :: vs)) [Vi 0, Vi ((j + 1 + m : Nat) : Int), Vi n, Vi n, Vi n, Vi n, Vi n, Vi n, Vi n, Vi n, Vl s.Z, Vl s.Q, Vl s.T, Vl s.H] = some (.y (.ext 2) [Vi 2, a1, a2, a3, a4, a5, a6, a7, a8, a9, a10, a11, a12]) := by
  intro m
  induction m with
  | zero =>
    intro s hm h
    simp only [hsIn]
    refine rounds_exit ?_ (by simp)
    have e2 : (B.add .i64).den (Vi j) (Vi 2) = Vi ((j + 2 : Nat) : Int) := by rw [add_i (by omega) (by omega)]; rfl
    have hc : (B.ge.den (Vi ((j + 1 + 0 : Nat) : Int)) ((B.add .i64).den (Vi j) (Vi 2))).bool = true ↔ False := by
      rw [e2]; simp; try omega
    have hc' : (B.ge.den (Vi ((j + 1 + 0 : Nat) : Int)) ((B.add .i64).den (Vi j) (Vi 2))).bool = false := by
      cases hb : (B.ge.den (Vi ((j + 1 + 0 : Nat) : Int)) ((B.add .i64).den (Vi j) (Vi 2))).bool
      · rfl
      · exact absurd (hc.1 hb) id
    exact Eq.trans (st_f hc') rfl
  | succ m ih =>
    intro s hm h
    have hi : 1 ≤ j + 2 + m := by omega
    have hin : j + 2 + m < n := by omega
    have r1 := hrows_ok hi hin (j := j) (by omega) h
    have hm1 := hsR_mx hi hin (j := j) h
    have r2 := hcols_ok hi hin hm1
    have e2 : (B.add .i64).den (Vi j) (Vi 2) = Vi ((j + 2 : Nat) : Int) := by rw [add_i (by omega) (by omega)]; rfl
    have e1 : (B.sub .i64).den (Vi ((j + 2 + m : Nat) : Int)) (Vi 1) = Vi ((j + 1 + m : Nat) : Int) := by rw [sub_i (by omega) (by omega)]; exact congrArg Vi (by omega)
    have hc' : (B.ge.den (Vi ((j + 2 + m : Nat) : Int)) ((B.add .i64).den (Vi j) (Vi 2))).bool = true := by
      rw [e2]; simp; try omega
    rw [show j + 1 + (m + 1) = j + 2 + m by omega]
    unfold hsIn
    unfold hsS
    cases c1 : finP (hrF n (j + 2 + m) j s) (hrG n (j + 2 + m) j s)
    · rw [c1, if_neg (by decide)] at r1
      simp only [Bool.false_eq_true, if_false]
      refine ⟨Vi 0, Vi 0, Vi 0, Vi 0, Vi 0, Vi 0, Vi 0, Vi 0, Vl [], Vl [], Vl [], Vl [], rounds_exit (us := [Vi 2, Vi 0, Vi 0, Vi 0, Vi 0, Vi 0, Vi 0, Vi 0, Vi 0, Vl [], Vl [], Vl [], Vl []]) ?_ (by simp)⟩
      refine Eq.trans (st_t hc') ?_
      refine Eq.trans (st_call rfl r1 rfl) ?_
      refine Eq.trans (st_t rfl) ?_
      rfl
    · rw [c1, if_pos rfl] at r1
      rw [if_pos rfl]
      cases c2 : finP (hcF n (j + 2 + m) (hsR n (j + 2 + m) j s)) (hcG n (j + 2 + m) (hsR n (j + 2 + m) j s))
      · rw [c2, if_neg (by decide)] at r2
        simp only [Bool.false_eq_true, if_false]
        refine ⟨Vi 0, Vi 0, Vi 0, Vi 0, Vi 0, Vi 0, Vi 0, Vi 0, Vl [], Vl [], Vl [], Vl [], rounds_exit (us := [Vi 2, Vi 0, Vi 0, Vi 0, Vi 0, Vi 0, Vi 0, Vi 0, Vi 0, Vl [], Vl [], Vl [], Vl []]) ?_ (by simp)⟩
        refine Eq.trans (st_t hc') ?_
        refine Eq.trans (st_call rfl r1 rfl) ?_
        refine Eq.trans (st_f rfl) ?_
        simp only [List.cons_append, List.nil_append]
        refine Eq.trans (st_call rfl r2 rfl) ?_
        refine Eq.trans (st_t rfl) ?_
        rfl
      · rw [c2, if_pos rfl] at r2
        rw [if_pos rfl]
        have hm2 := hsC_mx hi hin hm1
        have hih := ih (s := hsC n (j + 2 + m) (hsR n (j + 2 + m) j s)) (by omega) hm2
        have key : rounds (fun vs => lo233_2.dv (Vi n :: x1 :: x2 :: x3 :: x4 :: x5 :: x6 :: x7 :: x8 :: x9 :: x10 :: x11 :: x12 :: x13 :: x14 :: x15 :: x16 :: x17 :: x18 :: x19 :: x20 :: x21 :: Vi j :: x23 :: x24 :: x25 :: x26 :: x27 :: x28 :: x29 :: x30 :: x31 :: x32 :: x33 :: x34 :: vs)) [Vi 0, Vi ((j + 2 + m : Nat) : Int), Vi n, Vi n, Vi n, Vi n, Vi n, Vi n, Vi n, Vi n, Vl s.Z, Vl s.Q, Vl s.T, Vl s.H] = rounds (fun vs => lo233_2.dv (Vi n :: x1 :: x2 :: x3 :: x4 :: x5 :: x6 :: x7 :: x8 :: x9 :: x10 :: x11 :: x12 :: x13 :: x14 :: x15 :: x16 :: x17 :: x18 :: x19 :: x20 :: x21 :: Vi j :: x23 :: x24 :: x25 :: x26 :: x27 :: x28 :: x29 :: x30 :: x31 :: x32 :: x33 :: x34 :: vs)) [Vi 0, Vi ((j + 1 + m : Nat) : Int), Vi n, Vi n, Vi n, Vi n, Vi n, Vi n, Vi n, Vi n, Vl (hsC n (j + 2 + m) (hsR n (j + 2 + m) j s)).Z, Vl (hsC n (j + 2 + m) (hsR n (j + 2 + m) j s)).Q, Vl (hsC n (j + 2 + m) (hsR n (j + 2 + m) j s)).T, Vl (hsC n (j + 2 + m) (hsR n (j + 2 + m) j s)).H] := by
          rw [← e1]
          refine rounds_cont ?_
          refine Eq.trans (st_t hc') ?_
          refine Eq.trans (st_call rfl r1 rfl) ?_
          refine Eq.trans (st_f rfl) ?_
          simp only [List.cons_append, List.nil_append]
          refine Eq.trans (st_call rfl r2 rfl) ?_
          refine Eq.trans (st_f rfl) ?_
          rfl
        simp only
        rw [key]
        exact hih

theorem hout_loop {n : Nat} (hn6 : n ≤ 6) {x1 x2 x3 x4 x5 x6 x7 x8 x9 x10 x11 x12 x13 x14 x15 x16 x17 x18 x19 x20 : PV} : ∀ (m : Nat) {j : Nat} {s : Q4}, j + m = n - 2 → Mx4 n s →
    match hsOut n m j s with
    | some s' => rounds (fun vs => lo233_1.dv (Vi n :: x1 :: x2 :: x3 :: x4 :: x5 :: x6 :: x7 :: x8 :: x9 :: x10 :: x11 :: x12 :: x13 :: x14 :: x15 :: x16 :: x17 :: x18 :: x19 :: x20 :: vs)) [Vi 0, Vi j, Vi n, Vi n, Vi n, Vi n, Vi n, Vi n, Vi n, Vi n, Vl s.Z, Vl s.Q, Vl s.T, Vl s.H] = some (.y (.ext 2) [Vi 0, Vi n, Vi n, Vi n, Vi n, Vi n, Vi n, Vi n, Vi n, Vl s'.Z, Vl s'.Q, Vl s'.T, Vl s'.H])
    | none => ∃ a1 a2 a3 a4 a5 a6 a7 a8 a9 a10 a11 a12, rounds (fun vs => lo233_1.dv (Vi n :: x1 :: x2 :: x3 :: x4 :: x5 :: x6 :: x7 :: x8 :: x9 :: x10 :: x11 :: x12 :: x13 :: x14 :: x15 :: x16 :: x17 :: x18 :: x19 :: x20 :: vs)) [Vi 0, Vi j, Vi n, Vi n, Vi n, Vi n, Vi n, Vi n, Vi n, Vi n, Vl s.Z, Vl s.Q, Vl s.T, Vl s.H] = some (.y (.ext 2) [Vi 2, a1, a2, a3, a4, a5, a6, a7, a8, a9, a10, a11, a12]) := by
  intro m
  induction m with
  | zero =>
    intro j s hm h
    simp only [hsOut]
    refine rounds_exit ?_ (by simp)
    have e2 : (B.sub .i64).den (Vi n) (Vi 2) = Vi ((n : Int) - 2) := sub_i (by omega) (by omega)
    have hc' : (B.lt.den (Vi j) ((B.sub .i64).den (Vi n) (Vi 2))).bool = false := by
      rw [e2]; simp; try omega
    exact Eq.trans (st_f hc') rfl
  | succ m ih =>
    intro j s hm h
    have e2 : (B.sub .i64).den (Vi n) (Vi 2) = Vi ((n : Int) - 2) := sub_i (by omega) (by omega)
    have hc' : (B.lt.den (Vi j) ((B.sub .i64).den (Vi n) (Vi 2))).bool = true := by
      rw [e2]; simp; try omega
    have e1 : (B.add .i64).den (Vi j) (Vi 1) = Vi ((j + 1 : Nat) : Int) := by rw [add_i (by omega) (by omega)]; rfl
    have e3 : (B.sub .i64).den (Vi n) (Vi 1) = Vi ((j + 1 + (n - (j + 2)) : Nat) : Int) := by rw [sub_i (by omega) (by omega)]; exact congrArg Vi (by omega)
    have hl := hin_loop (n := n) (j := j) hn6 (x1 := x1) (x2 := x2) (x3 := x3) (x4 := x4) (x5 := x5) (x6 := x6) (x7 := x7) (x8 := x8) (x9 := x9) (x10 := x10) (x11 := x11) (x12 := x12) (x13 := x13) (x14 := x14) (x15 := x15) (x16 := x16) (x17 := x17) (x18 := x18) (x19 := x19) (x20 := x20) (x21 := Vi 0) (x23 := Vi n) (x24 := Vi n) (x25 := Vi n) (x26 := Vi n) (x27 := Vi n) (x28 := Vi n) (x29 := Vi n) (x30 := Vi n) (x31 := Vl s.Z) (x32 := Vl s.Q) (x33 := Vl s.T) (x34 := Vl s.H) (n - (j + 2)) (s := s) (by omega) h
    rw [← e3] at hl
    unfold hsOut
    cases hs : hsIn n j (n - (j + 2)) s with
    | none =>
      rw [hs] at hl
      obtain ⟨a1, a2, a3, a4, a5, a6, a7, a8, a9, a10, a11, a12, hl⟩ := hl
      refine ⟨a1, a2, a3, a4, a5, a6, a7, a8, a9, a10, a11, a12, rounds_exit ?_ (by simp)⟩
      refine Eq.trans (st_t hc') ?_
      refine Eq.trans (st_loop hl) ?_
      refine Eq.trans st_hit ?_
      rfl
    | some s2 =>
      rw [hs] at hl
      have hm2 := hsIn_mx _ (by omega) h hs
      have hih := ih (j := j + 1) (s := s2) (by omega) hm2
      have key : rounds (fun vs => lo233_1.dv (Vi n :: x1 :: x2 :: x3 :: x4 :: x5 :: x6 :: x7 :: x8 :: x9 :: x10 :: x11 :: x12 :: x13 :: x14 :: x15 :: x16 :: x17 :: x18 :: x19 :: x20 :: vs)) [Vi 0, Vi j, Vi n, Vi n, Vi n, Vi n, Vi n, Vi n, Vi n, Vi n, Vl s.Z, Vl s.Q, Vl s.T, Vl s.H] = rounds (fun vs => lo233_1.dv (Vi n :: x1 :: x2 :: x3 :: x4 :: x5 :: x6 :: x7 :: x8 :: x9 :: x10 :: x11 :: x12 :: x13 :: x14 :: x15 :: x16 :: x17 :: x18 :: x19 :: x20 :: vs)) [Vi 0, Vi ((j + 1 : Nat) : Int), Vi n, Vi n, Vi n, Vi n, Vi n, Vi n, Vi n, Vi n, Vl s2.Z, Vl s2.Q, Vl s2.T, Vl s2.H] := by
        rw [← e1]
        refine rounds_cont ?_
        refine Eq.trans (st_t hc') ?_
        refine Eq.trans (st_loop hl) ?_
        refine Eq.trans (st_miss (by simp)) ?_
        refine Eq.trans st_hit ?_
        rfl
      simp only
      rw [key]
      exact hih

theorem first18_ok {n : Nat} {a b : List Nat} (ha : Mx n n a) (hb : Mx n n b) (hf : finV b = true) : val 237 [Vi n, Vi n, Vl a, Vi n, Vi n, Vl b] = some (match qrR n n b with
    | some (q, y) => [Vi n, Vi n, Vl (muV n n (tpV n n q) n n a), Vi n, Vi n, Vl y, Vi n, Vi n, Vl q, Vi n, Vi n, Vl (eyV n), Vi 0]
    | none => [Vi 0, Vi 0, Vl [], Vi 0, Vi 0, Vl [], Vi 0, Vi 0, Vl [], Vi 0, Vi 0, Vl [], Vi 2]) := by
  refine val_of tab237 ?_
  have f1 := factor_ok hb hf
  have hn := ha.hr
  cases hq : qrR n n b with
  | none =>
    rw [hq] at f1
    simp only at f1
    simp [tr237, TT.dv, f1]
  | some p =>
    obtain ⟨q, y⟩ := p
    rw [hq] at f1
    simp only at f1
    obtain ⟨mq, my⟩ := qrR_mx hb hq
    have ht := tp_ok mq
    have hm := mul_ok10 (tpV_mx mq) ha rfl
    have t1 : val 270 [Vi n, Vi n, Vl q, Vi n, Vi n, Vl a] = some [Vi n, Vi n, Vl (muV n n (tpV n n q) n n a), Vi 0] := by
      refine val_of tab270 ?_
      simp [tr270, TT.dv, ht, hm]
    have e1 := eye_ok hn
    simp [tr237, TT.dv, f1, t1, e1]
theorem br_start {n : Nat} {a b q y : List Nat} (ha : Mx n n a) (hb : Mx n n b) (hq : qrR n n b = some (q, y)) : Mx4 n ⟨muV n n (tpV n n q) n n a, y, q, eyV n⟩ := by
  obtain ⟨mq, my⟩ := qrR_mx hb hq
  exact ⟨muV_mx (tpV_mx mq) ha rfl, my, mq, eyV_mx ha.hr⟩
theorem brR_mx {n : Nat} {a b : List Nat} {s : Q4} (ha : Mx n n a) (hb : Mx n n b) (he : brR n a b = some s) : Mx4 n s := by
  unfold brR at he
  split at he
  · cases he
  · rename_i q y hq
    split at he
    · cases he
    · rename_i s2 hs
      have hm := hsOut_mx _ 0 (by omega) (br_start ha hb hq) hs
      split at he
      · simp at he; subst he
        exact ⟨clH_mx hm.H, clH_mx hm.T, hm.Q, hm.Z⟩
      · cases he
theorem brR_zero {n : Nat} {a b : List Nat} {s : Q4} (ha : Mx n n a) (hb : Mx n n b) (he : brR n a b = some s) : (∀ i k, k < i → i < n → el s.T (ps i n k) = 0) ∧ (∀ i k, k + 1 < i → i < n → el s.H (ps i n k) = 0) := by
  unfold brR at he
  split at he
  · cases he
  · rename_i q y hq
    split at he
    · cases he
    · rename_i s2 hs
      have hm := hsOut_mx _ 0 (by omega) (br_start ha hb hq) hs
      split at he
      · simp at he; subst he
        exact ⟨fun i k h1 h2 => clH_at hm.T h2 (by omega), fun i k h1 h2 => clH_at hm.H h2 h1⟩
      · cases he
def brE (R C : Int) (a : List Nat) (R' C' : Int) (b : List Nat) : Int := if chk R C a ≠ 0 then chk R C a else if chk R' C' b ≠ 0 then chk R' C' b else if R ≠ C ∨ R' ≠ R ∨ C' ≠ R then 3 else 0
theorem bring_ok {n : Nat} {a b : List Nat} (ha : Mx n n a) (hb : Mx n n b) (fa : finV a = true) (fb : finV b = true) : val 233 [Vi n, Vi n, Vl a, Vi n, Vi n, Vl b] = some (match brR n a b with
    | some s => [Vi n, Vi n, Vl s.H, Vi n, Vi n, Vl s.T, Vi n, Vi n, Vl s.Q, Vi n, Vi n, Vl s.Z, Vi 0]
    | none => [Vi 0, Vi 0, Vl [], Vi 0, Vi 0, Vl [], Vi 0, Vi 0, Vl [], Vi 0, Vi 0, Vl [], Vi 2]) := by
  refine val_of tab233 ?_
  have hn := ha.hr
  have c1 := ccheck_ok n n (x := a) (by have := ha.small; omega)
  have c2 := ccheck_ok n n (x := b) (by have := hb.small; omega)
  unfold chk at c1 c2
  rw [if_pos (mx_right ha), if_pos fa] at c1
  rw [if_pos (mx_right hb), if_pos fb] at c2
  have f1 := first18_ok ha hb fb
  unfold brR
  refine Eq.trans (st_call rfl c1 rfl) ?_
  refine Eq.trans (st_f rfl) ?_
  refine Eq.trans (st_call rfl c2 rfl) ?_
  refine Eq.trans (st_f rfl) ?_
  simp only [List.cons_append, List.nil_append]
  refine Eq.trans (st_f (by simp)) ?_
  cases hq : qrR n n b with
  | none =>
    rw [hq] at f1
    refine Eq.trans (st_call rfl f1 rfl) ?_
    refine Eq.trans (st_t rfl) ?_
    rfl
  | some p =>
    obtain ⟨q, y⟩ := p
    rw [hq] at f1
    have hst := br_start ha hb hq
    refine Eq.trans (st_call rfl f1 rfl) ?_
    refine Eq.trans (st_f rfl) ?_
    simp only [List.cons_append, List.nil_append]
    have lp := hout_loop (n := n) hn (x1 := Vi n) (x2 := Vl a) (x3 := Vi n) (x4 := Vi n) (x5 := Vl b) (x6 := Vi 0) (x7 := Vi 0) (x8 := Vi n) (x9 := Vi n) (x10 := Vl (muV n n (tpV n n q) n n a)) (x11 := Vi n) (x12 := Vi n) (x13 := Vl y) (x14 := Vi n) (x15 := Vi n) (x16 := Vl q) (x17 := Vi n) (x18 := Vi n) (x19 := Vl (eyV n)) (x20 := Vi 0) (n - 2) (j := 0) (s := ⟨muV n n (tpV n n q) n n a, y, q, eyV n⟩) (by omega) hst
    rw [show ((0 : Nat) : Int) = 0 from rfl] at lp
    cases hs : hsOut n (n - 2) 0 ⟨muV n n (tpV n n q) n n a, y, q, eyV n⟩ with
    | none =>
      rw [hs] at lp
      obtain ⟨a1, a2, a3, a4, a5, a6, a7, a8, a9, a10, a11, a12, lp⟩ := lp
      refine Eq.trans (st_loop lp) ?_
      refine Eq.trans st_hit ?_
      refine Eq.trans (st_t rfl) ?_
      rfl
    | some s =>
      rw [hs] at lp
      have hm := hsOut_mx _ 0 (by omega) hst hs
      have cH := clh_ok (b := 1) (by omega) hm.H
      have cT := clh_ok (b := 0) (by omega) hm.T
      have mH := clH_mx (b := 1) hm.H
      have mT := clH_mx (b := 0) hm.T
      have f1 := finite_v_ok mH.w (by have := mH.small; omega)
      have f2 := finite_v_ok mT.w (by have := mT.small; omega)
      have f3 := finite_v_ok hm.Q.w (by have := hm.Q.small; omega)
      have f4 := finite_v_ok hm.Z.w (by have := hm.Z.small; omega)
      refine Eq.trans (st_loop lp) ?_
      refine Eq.trans st_hit ?_
      simp only [List.cons_append, List.nil_append]
      refine Eq.trans (st_f rfl) ?_
      refine Eq.trans (st_call rfl cH rfl) ?_
      refine Eq.trans (st_call rfl cT rfl) ?_
      simp only [List.cons_append, List.nil_append]
      refine Eq.trans (st_call rfl f1 rfl) ?_
      cases d1 : finV (clH n 1 s.H)
      · refine Eq.trans (st_t rfl) ?_
        rfl
      refine Eq.trans (st_f rfl) ?_
      simp only [List.cons_append, List.nil_append]
      refine Eq.trans (st_call rfl f2 rfl) ?_
      cases d2 : finV (clH n 0 s.T)
      · refine Eq.trans (st_t rfl) ?_
        rfl
      refine Eq.trans (st_f rfl) ?_
      simp only [List.cons_append, List.nil_append]
      refine Eq.trans (st_call rfl f3 rfl) ?_
      cases d3 : finV s.Q
      · refine Eq.trans (st_t rfl) ?_
        rfl
      refine Eq.trans (st_f rfl) ?_
      simp only [List.cons_append, List.nil_append]
      refine Eq.trans (st_call rfl f4 rfl) ?_
      cases d4 : finV s.Z
      · refine Eq.trans (st_t rfl) ?_
        rfl
      refine Eq.trans (st_f rfl) ?_
      rfl

end Go.Proofs.Ythchhkghjfendaa.Dx

namespace Go.Proofs.Ythchhkghjfendaa.Dx
open Go


theorem bring_no {R C R' C' : Int} {a b : List Nat} (la : a.length ≤ 17592186043904) (lb : b.length ≤ 17592186043904) (h : brE R C a R' C' b ≠ 0) : val 233 [Vi R, Vi C, Vl a, Vi R', Vi C', Vl b] = some [Vi 0, Vi 0, Vl [], Vi 0, Vi 0, Vl [], Vi 0, Vi 0, Vl [], Vi 0, Vi 0, Vl [], Vi (brE R C a R' C' b)] := by
  refine val_of tab233 ?_
  have c1 := ccheck_ok R C la
  have c2 := ccheck_ok R' C' lb
  unfold brE at h ⊢
  generalize chk R C a = e1 at *
  generalize chk R' C' b = e2 at *
  by_cases h1 : e1 = 0
  · by_cases h2 : e2 = 0
    · rw [if_neg (by simpa using h1), if_neg (by simpa using h2)] at h ⊢
      subst h1 h2
      by_cases h6 : R ≠ C ∨ R' ≠ R ∨ C' ≠ R
      · rw [if_pos h6]
        refine Eq.trans (st_call rfl c1 rfl) ?_
        refine Eq.trans (st_f rfl) ?_
        refine Eq.trans (st_call rfl c2 rfl) ?_
        refine Eq.trans (st_f rfl) ?_
        simp only [List.cons_append, List.nil_append]
        refine Eq.trans (st_t ?_) rfl
        by_cases h3 : R = C
        · by_cases h4 : R' = R
          · have h5 : C' ≠ R := by omega
            simp [← h3, h4, h5]
          · simp [← h3, h4]
        · have h3' : ¬ C = R := fun hh => h3 hh.symm
          simp [h3, h3']
      · rw [if_neg h6] at h; exact absurd rfl h
    · rw [if_neg (by simpa using h1), if_pos h2] at h ⊢
      subst h1
      refine Eq.trans (st_call rfl c1 rfl) ?_
      refine Eq.trans (st_f rfl) ?_
      refine Eq.trans (st_call rfl c2 rfl) ?_
      refine Eq.trans (st_t (by simp [h2])) rfl
  · rw [if_pos h1]
    refine Eq.trans (st_call rfl c1 rfl) ?_
    refine Eq.trans (st_t (by simp [h1])) rfl
theorem br_cases {R C R' C' : Int} {a b : List Nat} (ha : Words a) (hb : Words b) : brE R C a R' C' b ≠ 0 ∨ (brE R C a R' C' b = 0 ∧ ∃ n : Nat, R = n ∧ C = n ∧ R' = n ∧ C' = n ∧ Mx n n a ∧ Mx n n b ∧ finV a = true ∧ finV b = true) := by
  by_cases h : brE R C a R' C' b = 0
  · right
    refine ⟨h, ?_⟩
    unfold brE at h
    rcases chk_cases R C a with h1 | ⟨h1, r1, f1⟩
    · rw [if_pos h1] at h; exact absurd h h1
    · rw [if_neg (by simpa using h1)] at h
      rcases chk_cases R' C' b with h2 | ⟨h2, r2, f2⟩
      · rw [if_pos h2] at h; exact absurd h h2
      · rw [if_neg (by simpa using h2)] at h
        by_cases h6 : R ≠ C ∨ R' ≠ R ∨ C' ≠ R
        · rw [if_pos h6] at h; exact absurd h (by decide)
        · obtain ⟨m, n, e1, e2, hm⟩ := right_mx r1 ha
          obtain ⟨m', n', e3, e4, hm'⟩ := right_mx r2 hb
          obtain rfl : m = n := by omega
          obtain rfl : m' = m := by omega
          obtain rfl : n' = m' := by omega
          exact ⟨_, e1, e2, e3, e4, hm, hm', f1, f2⟩
  · exact .inl h
section
variable {n : Nat} {s : Q4} (h : Mx4 n s) (hT : ∀ i k, k < i → i < n → el s.T (ps i n k) = 0) (hH : ∀ i k, k + 1 < i → i < n → el s.H (ps i n k) = 0)
include h hT hH
theorem hz_in {i : Nat} (hi : i < n) {x0 x1 x2 x3 x4 x5 x12 x13 x14 x15 x16 x17 x18 x19 x21 : PV} : ∀ (m : Nat) {k : Nat}, k + m = i →
    rounds (fun vs => lo75_2.dv (x0 :: x1 :: x2 :: x3 :: x4 :: x5 :: Vi n :: Vi n :: Vl s.H :: Vi n :: Vi n :: Vl s.T :: x12 :: x13 :: x14 :: x15 :: x16 :: x17 :: x18 :: x19 :: Vi i :: vs)) [x21, Vi k] = some (.y (.ext 2) [x21]) := by
  intro m
  have hn := h.H.hr
  induction m with
  | zero =>
    intro k hk
    have : k = i := by omega
    subst this
    refine rounds_exit ?_ (by simp)
    simp [lo75_2, TT.dv]
  | succ m ih =>
    intro k hk
    have hki : k < i := by omega
    have a1 := at_ok h.T hi (k := k) (by omega)
    have a2 := at_ok h.H hi (k := k) (by omega)
    rw [hT i k hki hi] at a1
    have e1 : (B.add .i64).den (Vi k) (Vi 1) = Vi (k + 1) := add_i (by omega) (by omega)
    have e2 : (B.sub .i64).den (Vi i) (Vi 1) = Vi ((i : Int) - 1) := sub_i (by omega) (by omega)
    refine Eq.trans (rounds_cont ?_) (ih (k := k + 1) (by omega))
    by_cases c : k + 1 < i
    · rw [hH i k c hi] at a2
      simp [lo75_2, TT.dv, hki, a1, a2, e1, e2, show (k : Int) < i - 1 by omega]
    · simp [lo75_2, TT.dv, hki, a1, e1, e2, show ¬ (k : Int) < i - 1 by omega]
theorem hz_out {x1 x2 x3 x4 x5 x12 x13 x14 x15 x16 x17 x18 x19 : PV} : ∀ (m : Nat) {i : Nat}, i + m = n →
    rounds (fun vs => lo75_1.dv (Vi n :: x1 :: x2 :: x3 :: x4 :: x5 :: Vi n :: Vi n :: Vl s.H :: Vi n :: Vi n :: Vl s.T :: x12 :: x13 :: x14 :: x15 :: x16 :: x17 :: x18 :: vs)) [x19, Vi i] = some (.y (.ext 0) [x19]) := by
  intro m
  have hn := h.H.hr
  induction m with
  | zero =>
    intro i hi
    have : i = n := by omega
    subst this
    refine rounds_exit ?_ (by simp)
    simp [lo75_1, TT.dv]
  | succ m ih =>
    intro i hi
    have hin : i < n := by omega
    have lp := fun x19 x21 => hz_in h hT hH hin (x0 := Vi n) (x1 := x1) (x2 := x2) (x3 := x3) (x4 := x4) (x5 := x5) (x12 := x12) (x13 := x13) (x14 := x14) (x15 := x15) (x16 := x16) (x17 := x17) (x18 := x18) (x19 := x19) (x21 := x21) i (k := 0) (by omega)
    simp only [show ((0 : Nat) : Int) = 0 from rfl] at lp
    have e1 : (B.add .i64).den (Vi i) (Vi 1) = Vi (i + 1) := add_i (by omega) (by omega)
    refine Eq.trans (rounds_cont ?_) (ih (i := i + 1) (by omega))
    simp [lo75_1, TT.dv, KS.dv, hin, lp, e1]
end
theorem law_HessZeros {R C : Int} (_ : -9223372036854775808 ≤ R) (_ : R < 9223372036854775808) (_ : -9223372036854775808 ≤ C) (_ : C < 9223372036854775808) {a : List Nat} (ha : Words a) (la : a.length ≤ 17592186043904)
    {R' C' : Int} (_ : -9223372036854775808 ≤ R') (_ : R' < 9223372036854775808) (_ : -9223372036854775808 ≤ C') (_ : C' < 9223372036854775808) {b : List Nat} (hb : Words b) (lb : b.length ≤ 17592186043904) :
    val 75 [Vi R, Vi C, Vl a, Vi R', Vi C', Vl b] = some [Vb true] := by
  refine val_of tab75 ?_
  rcases br_cases (R := R) (C := C) (R' := R') (C' := C') ha hb with h | ⟨h0, n, rfl, rfl, rfl, rfl, ma, mb, fa, fb⟩
  · have f1 := bring_no la lb h
    generalize brE R C a R' C' b = e at *
    refine Eq.trans (st_call rfl f1 rfl) ?_
    refine Eq.trans (st_t (by simp [h])) ?_
    refine Eq.trans (st_call rfl awake_18 rfl) ?_
    rfl
  · have f1 := bring_ok ma mb fa fb
    cases hs : brR n a b with
    | none =>
      rw [hs] at f1
      refine Eq.trans (st_call rfl f1 rfl) ?_
      refine Eq.trans (st_t rfl) ?_
      refine Eq.trans (st_call rfl awake_18 rfl) ?_
      rfl
    | some s =>
      rw [hs] at f1
      have hm := brR_mx ma mb hs
      obtain ⟨hT, hH⟩ := brR_zero ma mb hs
      refine Eq.trans (st_call rfl f1 rfl) ?_
      refine Eq.trans (st_f rfl) ?_
      simp only [List.cons_append, List.nil_append]
      refine Eq.trans (st_f (by simp)) ?_
      have lp := fun x1 x2 x3 x4 x5 x12 x13 x14 x15 x16 x17 x18 x19 => hz_out hm hT hH (x1 := x1) (x2 := x2) (x3 := x3) (x4 := x4) (x5 := x5) (x12 := x12) (x13 := x13) (x14 := x14) (x15 := x15) (x16 := x16) (x17 := x17) (x18 := x18) (x19 := x19) n (i := 0) (by omega)
      refine Eq.trans (st_loop (lp _ _ _ _ _ _ _ _ _ _ _ _ _)) ?_
      refine Eq.trans (st_miss (by simp)) ?_
      refine Eq.trans st_hit ?_
      simp only [List.cons_append, List.nil_append]
      refine Eq.trans (st_call rfl awake_18 rfl) ?_
      rfl
end Go.Proofs.Ythchhkghjfendaa.Dx

