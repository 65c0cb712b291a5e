/- The pure meaning of the functions that the law reaches, and that the law is true of it. No conditions. -/
import Derived.Test.YtogcdllpjcnbkaaRqZerosM1
set_option linter.all false
namespace Go.Proofs.Ytogcdllpjcnbkaa.Dx
open Go

theorem awake_15 : val 62 [] = some [Vb true] := val_iff.2 ⟨4000, by kernel_rfl⟩
theorem finR_iff {x : List Nat} : ∀ (n i : Nat), finR x n i = true ↔ ∀ k, i ≤ k → k < i + n → fPow (el x k) ≠ 2047
  | 0, i => ⟨fun _ k h1 h2 => by omega, fun _ => rfl⟩
  | n + 1, i => by
    unfold finR
    by_cases c : fPow (el x i) = 2047
    · rw [if_pos c]
      exact ⟨fun h => (by cases h), fun h => absurd c (h i (Nat.le_refl _) (by omega))⟩
    · rw [if_neg c, finR_iff n (i + 1)]
      refine ⟨fun h k h1 h2 => ?_, fun h k h1 h2 => h k (by omega) (by omega)⟩
      rcases Nat.eq_or_lt_of_le h1 with h3 | h3
      · subst h3; exact c
      · exact h k (by omega) (by omega)
theorem finV_iff {x : List Nat} : finV x = true ↔ ∀ k, k < x.length → fPow (el x k) ≠ 2047 := by
  unfold finV
  rw [finR_iff]
  exact ⟨fun h k hk => h k (Nat.zero_le _) (by omega), fun h k _ hk => h k (by omega)⟩
theorem finV_mx {r c : Nat} {x : List Nat} (h : Mx r c x) : finV x = true ↔ ∀ i k, i < r → k < c → fPow (el x (ps i c k)) ≠ 2047 := by
  rw [finV_iff]
  refine ⟨fun hh i k hi hk => hh _ (h.lt hi hk), fun hh t ht => ?_⟩
  have hc : 0 < c := by
    rcases Nat.eq_zero_or_pos c with h0 | h0
    · subst h0; rw [h.len] at ht; omega
    · exact h0
  have e : t = ps (t / c) c (t % c) := by unfold ps; rw [Nat.mul_comm]; exact (Nat.div_add_mod t c).symm
  have := hh (t / c) (t % c) (by rw [Nat.div_lt_iff_lt_mul hc, ← h.len]; exact ht) (Nat.mod_lt _ hc)
  rwa [← e] at this
theorem bool_ext {a b : Bool} (h : a = true ↔ b = true) : a = b := by cases a <;> cases b <;> simp_all
theorem el_tpV {r c : Nat} {x : List Nat} {i k : Nat} (hi : i < r) (hk : k < c) : el (tpV r c x) (ps k r i) = el x (ps i c k) := by
  unfold tpV; rw [el_matL _ hk hi]; rfl
theorem finV_tp {r c : Nat} {x : List Nat} (h : Mx r c x) : finV (tpV r c x) = finV x := by
  refine bool_ext ?_
  rw [finV_mx (tpV_mx h), finV_mx h]
  refine ⟨fun hh i k hi hk => ?_, fun hh k i hk hi => ?_⟩
  · have := hh k i hk hi; rwa [el_tpV hi hk] at this
  · rw [el_tpV hi hk]; exact hh i k hi hk
def flN (b : Bool) (n i : Nat) : Nat := if b then n - 1 - i else i
theorem flN_lt {b : Bool} {n i : Nat} (h : i < n) : flN b n i < n := by unfold flN; split <;> omega
theorem flN_flN {b : Bool} {n i : Nat} (h : i < n) : flN b n (flN b n i) = i := by unfold flN; split <;> omega
def flG (r c : Nat) (x : List Nat) (up over : Bool) (i k : Nat) : Nat := el x (ps (flN up r i) c (flN over c k))
def flV (r c : Nat) (x : List Nat) (up over : Bool) : List Nat := matL (flG r c x up over) r c
theorem el_flV {r c : Nat} {x : List Nat} {up over : Bool} {i k : Nat} (hi : i < r) (hk : k < c) : el (flV r c x up over) (ps i c k) = el x (ps (flN up r i) c (flN over c k)) := by
  unfold flV; rw [el_matL _ hi hk]; rfl
theorem flV_mx {r c : Nat} {x : List Nat} (h : Mx r c x) (up over : Bool) : Mx r c (flV r c x up over) := matL_mx h.hr h.hc fun _ _ _ _ => h.w.el _
theorem finV_fl {r c : Nat} {x : List Nat} (h : Mx r c x) (up over : Bool) : finV (flV r c x up over) = finV x := by
  refine bool_ext ?_
  rw [finV_mx (flV_mx h up over), finV_mx h]
  refine ⟨fun hh i k hi hk => ?_, fun hh i k hi hk => ?_⟩
  · have := hh (flN up r i) (flN over c k) (flN_lt hi) (flN_lt hk)
    rwa [el_flV (flN_lt hi) (flN_lt hk), flN_flN hi, flN_flN hk] at this
  · rw [el_flV hi hk]; exact hh _ _ (flN_lt hi) (flN_lt hk)
theorem fli_ok {n i : Nat} (hi : i < n) (hn : n ≤ 6) (b : Bool) : val 276 [Vi i, Vi n, Vb b] = some [Vi (flN b n i)] := by
  refine val_of tab276 ?_
  have s1 : (B.sub .i64).den (Vi n) (Vi 1) = Vi ((n : Int) - 1) := sub_i (by omega) (by omega)
  have s2 : (B.sub .i64).den (Vi ((n : Int) - 1)) (Vi i) = Vi ((n - 1 - i : Nat) : Int) := by rw [sub_i (by omega) (by omega)]; exact congrArg Vi (by omega)
  cases b
  · simp [tr276, TT.dv, flN]
  · rw [show flN true n i = n - 1 - i from rfl]
    generalize ((n - 1 - i : Nat) : Int) = z at *
    simp [tr276, TT.dv, s1, s2]
section
variable {r c : Nat} {x : List Nat} (h : Mx r c x) {up over : Bool}
include h
theorem fl_inner {x5 x7 : PV} {acc : List Nat} (ha : acc.length ≤ 1000) {i : Nat} (hi : i < r) : ∀ (n : Nat) {k : Nat}, k + n = c →
    rounds (fun vs => lo275_2.dv (Vi r :: Vi c :: Vl x :: Vb up :: Vb over :: x5 :: Vi i :: x7 :: vs)) [Vi k, Vl (acc ++ mk (flG r c x up over i) k)] = some (.y (.ext 2) [Vl (acc ++ mk (flG r c x up over i) c)]) := by
  intro n
  have hr := h.hr
  have hc := h.hc
  induction n with
  | zero =>
    intro k hk
    have : k = c := by omega
    subst this
    refine rounds_exit ?_ (by simp)
    simp [lo275_2, TT.dv]
  | succ n ih =>
    intro k hk
    have hkc : k < c := by omega
    refine Eq.trans (rounds_cont ?_) (ih (k := k + 1) (by omega))
    have e1 : (B.add .i64).den (Vi k) (Vi 1) = Vi (k + 1) := add_i (by omega) (by omega)
    have h1 := fli_ok hi hr up
    have h2 := fli_ok hkc hc over
    have f1 := flN_lt (b := up) hi
    have f2 := flN_lt (b := over) hkc
    have p1 := pos_i (i := flN up r i) (c := c) (k := flN over c k) (by omega) (by omega) (by omega)
    have l1 := h.lt f1 f2
    have g1 := get_V l1
    have a1 := app_V (acc ++ mk (flG r c x up over i) k) (flG r c x up over i k)
    rw [List.append_assoc, mk_succ] at a1
    have l2 : ((acc.length : Int) + (k + 1)) ≤ 17592186044416 := by omega
    unfold flG at a1 ⊢
    simp [lo275_2, TT.dv, hkc, h1, h2, e1, p1, l1, g1, a1, l2]
theorem fl_outer {x5 : PV} : ∀ (n : Nat) {i : Nat}, i + n = r →
    rounds (fun vs => lo275_1.dv (Vi r :: Vi c :: Vl x :: Vb up :: Vb over :: x5 :: vs)) [Vi i, Vl (matL (flG r c x up over) i c)] = some (.y (.ext 0) [Vl (matL (flG r c x up over) r c)]) := by
  intro n
  have hr := h.hr
  have hc := h.hc
  induction n with
  | zero =>
    intro i hi
    have : i = r := by omega
    subst this
    refine rounds_exit ?_ (by simp)
    simp [lo275_1, TT.dv]
  | succ n ih =>
    intro i hi
    refine Eq.trans (rounds_cont ?_) (ih (i := i + 1) (by omega))
    have e1 : (B.add .i64).den (Vi i) (Vi 1) = Vi (i + 1) := add_i (by omega) (by omega)
    have hl : (matL (flG r c x up over) i c).length ≤ 1000 := by
      rw [matL_len]
      have : i * c ≤ 6 * 6 := Nat.mul_le_mul (by omega) hc
      omega
    have hin := fl_inner h (up := up) (over := over) (x5 := x5) (x7 := Vl (matL (flG r c x up over) i c)) hl (i := i) (by omega) c (k := 0) (by omega)
    rw [show ((0 : Nat) : Int) = 0 from rfl, show mk (flG r c x up over i) 0 = [] from rfl, List.append_nil, matL_succ] at hin
    simp [lo275_1, TT.dv, KS.dv, show i < r by omega, hin, e1]
theorem fl_ok (up over : Bool) : val 275 [Vi r, Vi c, Vl x, Vb up, Vb over] = some [Vi r, Vi c, Vl (flV r c x up over), Vi 0] := by
  refine val_of tab275 ?_
  have h1 := check_ok r c x
  rw [if_pos (mx_right h)] at h1
  have hlp := fl_outer h (up := up) (over := over) (x5 := Vi 0) r (i := 0) (by omega)
  rw [show ((0 : Nat) : Int) = 0 from rfl, show matL (flG r c x up over) 0 c = [] from rfl] at hlp
  simp [tr275, TT.dv, KS.dv, h1, hlp, flV]
end
theorem fl_no {R C : Int} {x : List Nat} (hn : ¬ rightP R C x) (p q : PV) : val 275 [Vi R, Vi C, Vl x, p, q] = some [Vi 0, Vi 0, Vl [], Vi 1] := by
  refine val_of tab275 ?_
  have h1 := check_ok R C x
  rw [if_neg hn] at h1
  simp [tr275, TT.dv, h1]
def lqR (r c : Nat) (x : List Nat) : Option (List Nat × List Nat) := match qrR c r (tpV r c x) with | some (q, y) => some (tpV c r y, tpV c c q) | none => none
theorem lqR_mx {r c : Nat} {x l q : List Nat} (h : Mx r c x) (he : lqR r c x = some (l, q)) : Mx r c l ∧ Mx c c q := by
  unfold lqR at he
  split at he
  · rename_i q' y' hq
    simp at he; obtain ⟨rfl, rfl⟩ := he
    obtain ⟨a, b⟩ := qrR_mx (tpV_mx h) hq
    exact ⟨tpV_mx b, tpV_mx a⟩
  · cases he
theorem lqR_up {r c : Nat} {x l q : List Nat} (h : Mx r c x) (he : lqR r c x = some (l, q)) : ∀ a b, a < b → a < r → b < c → el l (ps a c b) = 0 := by
  unfold lqR at he
  split at he
  · rename_i q' y' hq
    simp at he; obtain ⟨rfl, rfl⟩ := he
    intro a b h1 h2 h3
    rw [el_tpV h3 h2]
    exact qrR_up (tpV_mx h) hq b a h1 h3 h2
  · cases he
theorem lq_ok {r c : Nat} {x : List Nat} (h : Mx r c x) (hf : finV x = true) : val 277 [Vi r, Vi c, Vl x] = some (match lqR r c x with | some (l, q) => [Vi r, Vi c, Vl l, Vi c, Vi c, Vl q, Vi 0] | none => [Vi 0, Vi 0, Vl [], Vi 0, Vi 0, Vl [], Vi 2]) := by
  refine val_of tab277 ?_
  have h1 := tp_ok h
  have m1 := tpV_mx h
  have h2 := factor_ok m1 ((finV_tp h).trans hf)
  unfold lqR
  cases hq : qrR c r (tpV r c x) with
  | none =>
    rw [hq] at h2
    simp only at h2
    simp [tr277, TT.dv, h1, h2]
  | some p =>
    obtain ⟨q, y⟩ := p
    rw [hq] at h2
    simp only at h2
    obtain ⟨mq, my⟩ := qrR_mx m1 hq
    have h3 : val 279 [Vi c, Vi c, Vl q, Vi c, Vi r, Vl y] = some [Vi r, Vi c, Vl (tpV c r y), Vi c, Vi c, Vl (tpV c c q)] := by
      refine val_of tab279 ?_
      have a := tp_ok mq
      have b := tp_ok my
      simp [tr279, TT.dv, a, b]
    simp [tr277, TT.dv, h1, h2, h3]
theorem lq_no {R C : Int} {x : List Nat} (hw : Words x) (hc : chk R C x ≠ 0) : val 277 [Vi R, Vi C, Vl x] = some [Vi 0, Vi 0, Vl [], Vi 0, Vi 0, Vl [], Vi (chk R C x)] := by
  refine val_of tab277 ?_
  unfold chk at hc ⊢
  by_cases hr : rightP R C x
  · rw [if_pos hr] at hc ⊢
    obtain ⟨r, c, rfl, rfl, h⟩ := right_mx hr hw
    have h1 := tp_ok h
    have m1 := tpV_mx h
    cases hf : finV x
    · have h2 := factor_no (R := c) (C := r) (x := tpV r c x) (by have := m1.small; omega) (e := 4) (by unfold chk; rw [if_pos (mx_right m1), finV_tp h, hf]; rfl) (by decide)
      simp [tr277, TT.dv, h1, h2]
    · rw [hf] at hc; exact absurd rfl hc
  · rw [if_neg hr]
    have h1 := tp_no hr
    simp [tr277, TT.dv, h1]
def rqR (r c : Nat) (x : List Nat) : Option (List Nat × List Nat) := match lqR r c (flV r c x true false) with | some (l, q) => some (flV r c l true true, flV c c q true false) | none => none
theorem rqR_mx {r c : Nat} {x l q : List Nat} (h : Mx r c x) (he : rqR r c x = some (l, q)) : Mx r c l ∧ Mx c c q := by
  unfold rqR at he
  split at he
  · rename_i q' y' hq
    simp at he; obtain ⟨rfl, rfl⟩ := he
    obtain ⟨a, b⟩ := lqR_mx (flV_mx h true false) hq
    exact ⟨flV_mx a _ _, flV_mx b _ _⟩
  · cases he
theorem rqR_up {r c : Nat} (hrc : r ≤ c) {x l q : List Nat} (h : Mx r c x) (he : rqR r c x = some (l, q)) : ∀ a b, b < c - r + a → a < r → el l (ps a c b) = 0 := by
  unfold rqR at he
  split at he
  · rename_i q' y' hq
    simp at he; obtain ⟨rfl, rfl⟩ := he
    intro a b h1 h2
    rw [el_flV h2 (by omega)]
    refine lqR_up (flV_mx h true false) hq _ _ ?_ (flN_lt h2) (flN_lt (by omega))
    unfold flN
    rw [if_pos rfl, if_pos rfl]
    omega
  · cases he
def chk15 (R C : Int) (x : List Nat) : Int := if rightP R C x ∧ C < R then 3 else chk R C x
theorem rq_ok {r c : Nat} (hrc : r ≤ c) {x : List Nat} (h : Mx r c x) (hf : finV x = true) : val 278 [Vi r, Vi c, Vl x] = some (match rqR r c x with | some (l, q) => [Vi r, Vi c, Vl l, Vi c, Vi c, Vl q, Vi 0] | none => [Vi 0, Vi 0, Vl [], Vi 0, Vi 0, Vl [], Vi 2]) := by
  refine val_of tab278 ?_
  have h1 := fl_ok h true false
  have m1 := flV_mx h true false
  have h2 := lq_ok m1 ((finV_fl h _ _).trans hf)
  unfold rqR
  cases hq : lqR r c (flV r c x true false) with
  | none =>
    rw [hq] at h2
    simp only at h2
    simp [tr278, TT.dv, h1, h2, show ¬ c < r by omega]
  | some p =>
    obtain ⟨q, y⟩ := p
    rw [hq] at h2
    simp only at h2
    obtain ⟨mq, my⟩ := lqR_mx m1 hq
    have a := fl_ok mq true true
    have b := fl_ok my true false
    simp [tr278, TT.dv, h1, h2, a, b, show ¬ c < r by omega]
theorem rq_no {R C : Int} {x : List Nat} (hw : Words x) (hc : chk15 R C x ≠ 0) : val 278 [Vi R, Vi C, Vl x] = some [Vi 0, Vi 0, Vl [], Vi 0, Vi 0, Vl [], Vi (chk15 R C x)] := by
  refine val_of tab278 ?_
  unfold chk15 at hc ⊢
  by_cases hr : rightP R C x
  · by_cases h3 : C < R
    · rw [if_pos ⟨hr, h3⟩]
      obtain ⟨r, c, rfl, rfl, h⟩ := right_mx hr hw
      have h1 := fl_ok h true false
      simp [tr278, TT.dv, h1, show c < r by omega]
    · rw [if_neg (fun hh => h3 hh.2)] at hc ⊢
      obtain ⟨r, c, rfl, rfl, h⟩ := right_mx hr hw
      have h1 := fl_ok h true false
      have m1 := flV_mx h true false
      have e : chk r c (flV r c x true false) = chk r c x := by unfold chk; rw [if_pos hr, if_pos (mx_right m1), finV_fl h]
      have h2 := lq_no m1.w (e ▸ hc)
      rw [e] at h2
      generalize chk r c x = e' at *
      simp [tr278, TT.dv, h1, h2, hc, show ¬ c < r by omega]
  · have e : chk R C x = 1 := by unfold chk; rw [if_neg hr]
    rw [if_neg (fun hh => hr hh.1), e]
    have h1 := fl_no hr (Vb true) (Vb false)
    simp [tr278, TT.dv, h1]
section
variable {r c : Nat} {y : List Nat} (h : Mx r c y)
include h
theorem lz_in (hu : ∀ a b, a < b → a < r → b < c → el y (ps a c b) = 0) {x0 x1 x2 x6 x7 x8 x9 x10 x11 x12 x13 x14 x15 x16 x17 x19 : PV} {i : Nat} (hi : i < r) : ∀ (n : Nat) {k : Nat}, i < k → k + n = max c (i + 1) →
    rounds (fun vs => lo61_2.dv (x0 :: x1 :: x2 :: Vi r :: Vi c :: Vl y :: x6 :: x7 :: x8 :: x9 :: x10 :: x11 :: x12 :: x13 :: x14 :: x15 :: x16 :: x17 :: Vi i :: vs)) [x19, Vi k] = some (.y (.ext 2) [x19]) := by
  intro n
  have hr := h.hr
  have hc := h.hc
  induction n with
  | zero =>
    intro k hk1 hk
    refine rounds_exit ?_ (by simp)
    simp [lo61_2, TT.dv, show ¬ k < c by omega]
  | succ n ih =>
    intro k hk1 hk
    have c2 : k < c := by omega
    have g1 := at_ok h (i := i) (k := k) hi c2
    rw [hu i k hk1 hi c2] at g1
    have e1 : (B.add .i64).den (Vi k) (Vi 1) = Vi (k + 1) := add_i (by omega) (by omega)
    refine Eq.trans (rounds_cont ?_) (ih (k := k + 1) (by omega) (by omega))
    simp [lo61_2, TT.dv, c2, g1, e1]
theorem lz_out (hu : ∀ a b, a < b → a < r → b < c → el y (ps a c b) = 0) {x0 x1 x2 x6 x7 x8 x10 x11 x12 x13 x14 x15 x16 x17 : PV} : ∀ (n : Nat) {i : Nat}, i + n = r →
    rounds (fun vs => lo61_1.dv (x0 :: x1 :: x2 :: Vi r :: Vi c :: Vl y :: x6 :: x7 :: x8 :: Vi 0 :: x10 :: x11 :: x12 :: x13 :: x14 :: x15 :: x16 :: vs)) [x17, Vi i] = some (.y (.ext 0) [x17]) := by
  intro n
  have hr := h.hr
  induction n with
  | zero =>
    intro i hi
    have : i = r := by omega
    subst this
    refine rounds_exit ?_ (by simp)
    simp [lo61_1, TT.dv]
  | succ n ih =>
    intro i hi
    have hir : i < r := by omega
    have lp := fun x19 => lz_in h hu (x0 := x0) (x1 := x1) (x2 := x2) (x6 := x6) (x7 := x7) (x8 := x8) (x9 := Vi 0) (x10 := x10) (x11 := x11) (x12 := x12) (x13 := x13) (x14 := x14) (x15 := x15) (x16 := x16) (x17 := x17) (x19 := x19) hir (max c (i + 1) - (i + 1)) (k := i + 1) (by omega) (by omega)
    have e1 : (B.add .i64).den (Vi i) (Vi 1) = Vi ((i + 1 : Nat) : Int) := by rw [add_i (by omega) (by omega)]; rfl
    refine Eq.trans (rounds_cont ?_) (ih (i := i + 1) (by omega))
    generalize ((i + 1 : Nat) : Int) = z at *
    simp [lo61_1, TT.dv, KS.dv, hir, lp, e1]
theorem rz_in (hrc : r ≤ c) (hu : ∀ a b, b < c - r + a → a < r → el y (ps a c b) = 0) {x0 x1 x2 x3 x4 x5 x6 x7 x8 x9 x13 x14 x15 x16 x17 x18 x20 : PV} {i : Nat} (hi : i < r) : ∀ (n : Nat) {k : Nat}, k + n = c - r + i →
    rounds (fun vs => lo61_4.dv (x0 :: x1 :: x2 :: x3 :: x4 :: x5 :: x6 :: x7 :: x8 :: x9 :: Vi r :: Vi c :: Vl y :: x13 :: x14 :: x15 :: x16 :: x17 :: x18 :: Vi i :: vs)) [x20, Vi k] = some (.y (.ext 6) [x20]) := by
  intro n
  have hr := h.hr
  have hc := h.hc
  have s1 : (B.sub .i64).den (Vi c) (Vi r) = Vi ((c : Int) - r) := sub_i (by omega) (by omega)
  have s2 : (B.add .i64).den (Vi ((c : Int) - r)) (Vi i) = Vi ((c - r + i : Nat) : Int) := by rw [add_i (by omega) (by omega)]; exact congrArg Vi (by omega)
  induction n with
  | zero =>
    intro k hk
    refine rounds_exit ?_ (by simp)
    have e : ¬ (k : Int) < ((c - r + i : Nat) : Int) := by omega
    generalize ((c - r + i : Nat) : Int) = z at *
    simp [lo61_4, TT.dv, s1, s2, e]
  | succ n ih =>
    intro k hk
    have c2 : k < c := by omega
    have g1 := at_ok h (i := i) (k := k) hi c2
    rw [hu i k (by omega) hi] at g1
    have e1 : (B.add .i64).den (Vi k) (Vi 1) = Vi (k + 1) := add_i (by omega) (by omega)
    refine Eq.trans (rounds_cont ?_) (ih (k := k + 1) (by omega))
    have e : (k : Int) < ((c - r + i : Nat) : Int) := by omega
    generalize ((c - r + i : Nat) : Int) = z at *
    simp [lo61_4, TT.dv, s1, s2, e, g1, e1]
theorem rz_out (hrc : r ≤ c) (hu : ∀ a b, b < c - r + a → a < r → el y (ps a c b) = 0) {x0 x1 x2 x3 x4 x5 x6 x7 x8 x9 x13 x14 x15 x17 x18 : PV} : ∀ (n : Nat) {i : Nat}, i + n = r →
    rounds (fun vs => lo61_3.dv (x0 :: x1 :: x2 :: x3 :: x4 :: x5 :: x6 :: x7 :: x8 :: x9 :: Vi r :: Vi c :: Vl y :: x13 :: x14 :: x15 :: Vi 0 :: x17 :: vs)) [x18, Vi i] = some (.y (.ext 4) [x18]) := by
  intro n
  have hr := h.hr
  induction n with
  | zero =>
    intro i hi
    have : i = r := by omega
    subst this
    refine rounds_exit ?_ (by simp)
    simp [lo61_3, TT.dv]
  | succ n ih =>
    intro i hi
    have hir : i < r := by omega
    have lp := fun x20 => rz_in h hrc hu (x0 := x0) (x1 := x1) (x2 := x2) (x3 := x3) (x4 := x4) (x5 := x5) (x6 := x6) (x7 := x7) (x8 := x8) (x9 := x9) (x13 := x13) (x14 := x14) (x15 := x15) (x16 := Vi 0) (x17 := x17) (x18 := x18) (x20 := x20) hir (c - r + i) (k := 0) (by omega)
    simp only [show ((0 : Nat) : Int) = 0 from rfl] at lp
    have e1 : (B.add .i64).den (Vi i) (Vi 1) = Vi (i + 1) := add_i (by omega) (by omega)
    refine Eq.trans (rounds_cont ?_) (ih (i := i + 1) (by omega))
    simp [lo61_3, TT.dv, KS.dv, hir, lp, e1]
end
theorem lz_none {x0 x1 x2 x4 x5 x6 x7 x8 x9 x10 x11 x12 x13 x14 x15 x16 x17 : PV} : rounds (fun vs => lo61_1.dv (x0 :: x1 :: x2 :: Vi 0 :: x4 :: x5 :: x6 :: x7 :: x8 :: x9 :: x10 :: x11 :: x12 :: x13 :: x14 :: x15 :: x16 :: vs)) [x17, Vi 0] = some (.y (.ext 0) [x17]) := by
  refine rounds_exit ?_ (by simp)
  simp [lo61_1, TT.dv]
theorem rz_none {x0 x1 x2 x3 x4 x5 x6 x7 x8 x9 x11 x12 x13 x14 x15 x16 x17 x18 : PV} : rounds (fun vs => lo61_3.dv (x0 :: x1 :: x2 :: x3 :: x4 :: x5 :: x6 :: x7 :: x8 :: x9 :: Vi 0 :: x11 :: x12 :: x13 :: x14 :: x15 :: x16 :: x17 :: vs)) [x18, Vi 0] = some (.y (.ext 4) [x18]) := by
  refine rounds_exit ?_ (by simp)
  simp [lo61_3, TT.dv]
/-- Noughts one way round. -/
theorem lz_both (R C : Int) {x : List Nat} (hw : Words x) : ∃ a1 a2 a3 a4 a5 a6 a7, val 277 [Vi R, Vi C, Vl x] = some [a1, a2, a3, a4, a5, a6, a7] ∧
    ∀ x0 x1 x2 x10 x11 x12 x13 x14 x15 x16 x17, rounds (fun vs => lo61_1.dv (x0 :: x1 :: x2 :: a1 :: a2 :: a3 :: a4 :: a5 :: a6 :: a7 :: x10 :: x11 :: x12 :: x13 :: x14 :: x15 :: x16 :: vs)) [x17, Vi 0] = some (.y (.ext 0) [x17]) := by
  rcases chk_cases R C x with hc | ⟨hc, hr, hf⟩
  · exact ⟨_, _, _, _, _, _, _, lq_no hw hc, fun _ _ _ _ _ _ _ _ _ _ _ => lz_none⟩
  · obtain ⟨r, c, rfl, rfl, h⟩ := right_mx hr hw
    have f1 := lq_ok h hf
    cases hq : lqR r c x with
    | none =>
      rw [hq] at f1
      exact ⟨_, _, _, _, _, _, _, f1, fun _ _ _ _ _ _ _ _ _ _ _ => lz_none⟩
    | some p =>
      obtain ⟨l, q⟩ := p
      rw [hq] at f1
      obtain ⟨ml, mq⟩ := lqR_mx h hq
      exact ⟨_, _, _, _, _, _, _, f1, fun _ _ _ _ _ _ _ _ _ _ _ => lz_out ml (lqR_up h hq) r (i := 0) (by omega)⟩
theorem rz_both (R C : Int) {x : List Nat} (hw : Words x) : ∃ a1 a2 a3 a4 a5 a6 a7, val 278 [Vi R, Vi C, Vl x] = some [a1, a2, a3, a4, a5, a6, a7] ∧
    ∀ x0 x1 x2 x3 x4 x5 x6 x7 x8 x9 x17 x18, rounds (fun vs => lo61_3.dv (x0 :: x1 :: x2 :: x3 :: x4 :: x5 :: x6 :: x7 :: x8 :: x9 :: a1 :: a2 :: a3 :: a4 :: a5 :: a6 :: a7 :: x17 :: vs)) [x18, Vi 0] = some (.y (.ext 4) [x18]) := by
  by_cases hc : chk15 R C x = 0
  · have hcc := hc
    unfold chk15 at hcc
    have h3 : ¬ (rightP R C x ∧ C < R) := fun hh => by rw [if_pos hh] at hcc; cases hcc
    rw [if_neg h3] at hcc
    rcases chk_cases R C x with h0 | ⟨_, hr, hf⟩
    · exact absurd hcc h0
    obtain ⟨r, c, rfl, rfl, h⟩ := right_mx hr hw
    have hrc : r ≤ c := by
      rcases Nat.lt_or_ge c r with h4 | h4
      · exact absurd ⟨hr, by omega⟩ h3
      · exact h4
    have f1 := rq_ok hrc h hf
    cases hq : rqR r c x with
    | none =>
      rw [hq] at f1
      exact ⟨_, _, _, _, _, _, _, f1, fun _ _ _ _ _ _ _ _ _ _ _ _ => rz_none⟩
    | some p =>
      obtain ⟨l, q⟩ := p
      rw [hq] at f1
      obtain ⟨ml, mq⟩ := rqR_mx h hq
      exact ⟨_, _, _, _, _, _, _, f1, fun _ _ _ _ _ _ _ _ _ _ _ _ => rz_out ml hrc (rqR_up hrc h hq) r (i := 0) (by omega)⟩
  · exact ⟨_, _, _, _, _, _, _, rq_no hw hc, fun _ _ _ _ _ _ _ _ _ _ _ _ => rz_none⟩
theorem law_RqZeros {R C : Int} (_ : -9223372036854775808 ≤ R) (_ : R < 9223372036854775808) (_ : -9223372036854775808 ≤ C) (_ : C < 9223372036854775808) {x : List Nat} (hw : Words x) (_ : x.length ≤ 17592186043904) :
    val 61 [Vi R, Vi C, Vl x] = some [Vb true] := by
  refine val_of tab61 ?_
  obtain ⟨a1, a2, a3, a4, a5, a6, a7, h1, h2⟩ := lz_both R C hw
  obtain ⟨d1, d2, d3, d4, d5, d6, d7, k1, k2⟩ := rz_both R C hw
  refine Eq.trans (st_call rfl h1 rfl) ?_
  refine Eq.trans (st_call rfl k1 rfl) ?_
  simp only [List.cons_append, List.nil_append, List.append_nil]
  refine Eq.trans (st_loop (h2 _ _ _ _ _ _ _ _ _ _ _)) ?_
  refine Eq.trans (st_miss (by simp)) ?_
  refine Eq.trans st_hit ?_
  simp only [List.cons_append, List.nil_append, List.append_nil]
  refine Eq.trans (st_loop (k2 _ _ _ _ _ _ _ _ _ _ _ _)) ?_
  refine Eq.trans (st_miss (by simp)) ?_
  refine Eq.trans st_hit ?_
  simp only [List.cons_append, List.nil_append, List.append_nil]
  simp [TT.dv, KS.dv, awake_15]
end Go.Proofs.Ytogcdllpjcnbkaa.Dx
