/- The pure meaning of the functions that the law reaches, and that the law is true of it. No conditions. -/
import Derived.Test.YthchhkghjfendaaPivotPlacesM1
set_option linter.all false
namespace Go.Proofs.Ythchhkghjfendaa.Dx
open Go

def swI (c a b : Nat) : Nat → Nat → List Nat → List Nat
  | 0, _, m => m
  | n + 1, i, m => swI c a b n (i + 1) ((m.set (ps i c a) (el m (ps i c b))).set (ps i c b) (el m (ps i c a)))
theorem swI_len (c a b : Nat) : ∀ (n i : Nat) (m : List Nat), (swI c a b n i m).length = m.length
  | 0, _, _ => rfl
  | n + 1, i, m => by unfold swI; rw [swI_len c a b n, List.length_set, List.length_set]
theorem swI_at {r c a b : Nat} (ha : a < c) (hb : b < c) : ∀ (n i : Nat) {m : List Nat}, m.length = r * c → i + n = r → ∀ i' k, i' < r → k < c → el (swI c a b n i m) (ps i' c k) = if i ≤ i' then el m (ps i' c (swN a b k)) else el m (ps i' c k)
  | 0, i, m, _, he, i', k, hi, hk => by unfold swI; rw [if_neg (by omega)]
  | n + 1, i, m, hl, he, i', k, hi, hk => by
    have hir : i < r := by omega
    have step : ∀ i' k, i' < r → k < c → el ((m.set (ps i c a) (el m (ps i c b))).set (ps i c b) (el m (ps i c a))) (ps i' c k) = if i = i' then el m (ps i' c (swN a b k)) else el m (ps i' c k) := fun i' k hi hk => by
      rw [el_set, el_set, List.length_set]
      by_cases h1 : i = i'
      · subst h1
        rw [if_pos rfl]
        unfold swN
        by_cases h2 : k = b
        · subst h2
          rw [if_pos ⟨rfl, by rw [hl]; exact ps_lt hir hk⟩, if_pos rfl]
        · rw [if_neg (fun hh => h2 (ps_inj hb hk hh.1).2.symm), if_neg h2]
          by_cases h3 : k = a
          · subst h3
            rw [if_pos ⟨rfl, by rw [hl]; exact ps_lt hir hk⟩, if_pos rfl]
          · rw [if_neg (fun hh => h3 (ps_inj ha hk hh.1).2.symm), if_neg h3]
      · rw [if_neg h1, if_neg (fun hh => h1 (ps_inj hb hk hh.1).1), if_neg (fun hh => h1 (ps_inj ha hk hh.1).1)]
    unfold swI
    rw [swI_at ha hb n (i + 1) (by rw [List.length_set, List.length_set, hl]) (by omega) i' k hi hk, step _ _ hi (swN_lt ha hb hk), step _ _ hi hk]
    by_cases h1 : i + 1 ≤ i'
    · rw [if_pos h1, if_neg (by omega), if_pos (by omega)]
    · rw [if_neg h1]
      by_cases h2 : i = i'
      · rw [if_pos h2, if_pos (by omega)]
      · rw [if_neg h2, if_neg (by omega)]
theorem swI_swV {r c a b : Nat} {x : List Nat} (h : Mx r c x) (ha : a < c) (hb : b < c) : swI c a b r 0 x = swV r c x a b := by
  refine mat_ext (r := r) (c := c) (by rw [swI_len, h.len]) (matL_len _ _ _) fun i k hi hk => ?_
  rw [swI_at ha hb r 0 h.len (by omega) i k hi hk, if_pos (Nat.zero_le _), el_swV hi hk]
theorem copy_V (x : List Nat) : B.copy.den (Vl (List.replicate x.length 0)) (Vl x) = Vl x := by
  show PV.l ((x.map Vu).take ((List.replicate x.length 0).map Vu).length ++ ((List.replicate x.length 0).map Vu).drop (x.map Vu).length) = _
  rw [List.length_map, List.length_replicate, List.length_map, List.take_of_length_le (by simp), List.drop_of_length_le (by simp), List.append_nil]
  rfl
section
variable {r c : Nat} {a b : Nat} (ha : a < c) (hb : b < c)
include ha hb
theorem sw_loop {x2 : PV} : ∀ (n : Nat) {i : Nat} {m : List Nat}, i + n = r → Mx r c m →
    rounds (fun vs => lo267_1.dv (Vi r :: Vi c :: x2 :: Vi a :: Vi b :: vs)) [Vi i, Vl m] = some (.y (.ext 0) [Vl (swI c a b n i m)]) := by
  intro n
  induction n with
  | zero =>
    intro i m hi h
    have : i = r := by omega
    subst this
    refine rounds_exit ?_ (by simp)
    simp [lo267_1, TT.dv, swI]
  | succ n ih =>
    intro i m hi h
    have hir : i < r := by omega
    have hr := h.hr
    have hc := h.hc
    obtain ⟨m1, m2⟩ := row_ints h hir
    have hend := row_end h hir
    refine Eq.trans (rounds_cont ?_) (ih (i := i + 1) (by omega) ((h.set (h.w.el _)).set (h.w.el _)))
    have hz : (i + 1) * c = i * c + c := by rw [Nat.add_mul, Nat.one_mul]
    unfold ps
    have e1 : (B.add .i64).den (Vi i) (Vi 1) = Vi (i + 1) := add_i (by omega) (by omega)
    rw [e1] at m2
    rw [hz] at m2 hend
    have hy : i * c ≤ 6 * 6 := Nat.mul_le_mul (by omega) hc
    generalize i * c = y at *
    have g1 : B.get.den (Vl m) (Vi ((y : Int) + a)) = Vu (el m (y + a)) := by have := get_V (x := m) (i := y + a) (by omega); rwa [show ((y + a : Nat) : Int) = (y : Int) + a by omega] at this
    have g2 : B.get.den (Vl m) (Vi ((y : Int) + b)) = Vu (el m (y + b)) := by have := get_V (x := m) (i := y + b) (by omega); rwa [show ((y + b : Nat) : Int) = (y : Int) + b by omega] at this
    have st : ∀ (z : List Nat) (v d : Nat), T3.set.den (Vl z) (Vi ((y : Int) + d)) (Vu v) = Vl (z.set (y + d) v) := fun z v d => by have := set_V z (y + d) v; rwa [show ((y + d : Nat) : Int) = (y : Int) + d by omega] at this
    have e2 : ((y + c : Nat) : Int) - (y : Int) = (c : Int) := by omega
    have e3 : ((y + c : Nat) : Int) ≤ (m.length : Int) := by omega
    have e4 : (y : Int) ≤ ((y + c : Nat) : Int) := by omega
    have e5 : (0 : Int) ≤ ((y + c : Nat) : Int) := by omega
    have t1 : ∀ z : List Nat, B.take.den (Vl z) (Vi c) = Vl (z.take c) := fun z => take_V z c
    have d1 : ∀ z : List Nat, B.drop.den (Vl z) (Vi y) = Vl (z.drop y) := fun z => drop_V z y
    have l1 : a < min c (m.length - y) := by omega
    have l2 : b < min c (m.length - y) := by omega
    generalize ((y + c : Nat) : Int) = w at *
    simp [lo267_1, TT.dv, hir, e1, m1, m2, e2, e3, e4, e5, d1, t1, g1, g2, st]
    omega
theorem swap_ok {x : List Nat} (h : Mx r c x) : val 267 [Vi r, Vi c, Vl x, Vi a, Vi b] = some [Vi r, Vi c, Vl (swV r c x a b)] := by
  refine val_of tab267 ?_
  have hs := h.small
  have lp := fun x2 => sw_loop ha hb (x2 := x2) r (i := 0) (m := x) (by omega) h
  simp only [show ((0 : Nat) : Int) = 0 from rfl, swI_swV h ha hb] at lp
  simp [tr267, TT.dv, KS.dv, rep_V, copy_V, lp, show (x.length : Int) ≤ 17592186044416 by omega]
end
section
variable {r c j : Nat} (hjr : j < r) (hjc : j < c)
include hjr hjc
theorem cl266_loop {x2 x4 x5 x6 x7 x8 x9 x10 x11 x12 : PV} : ∀ (n : Nat) {i : Nat} {m : List Nat}, i + n = r → Mx r c m →
    rounds (fun vs => lo266_1.dv (Vi r :: Vi c :: x2 :: Vi j :: x4 :: x5 :: x6 :: x7 :: x8 :: x9 :: x10 :: x11 :: x12 :: vs)) [Vi i, Vl m] = some (.y (.ext 0) [Vl (clI c j n i m)]) := by
  intro n
  induction n with
  | zero =>
    intro i m hi hm
    have : i = r := by omega
    subst this
    refine rounds_exit ?_ (by simp)
    simp [lo266_1, TT.dv, clI]
  | succ n ih =>
    intro i m hi hm
    have hir : i < r := by omega
    have h1 := hm.hr
    have h2 := hm.hc
    refine Eq.trans (rounds_cont ?_) (ih (i := i + 1) (by omega) (hm.set (p := ps i c j) (v := 0) (by decide)))
    have e1 : (B.add .i64).den (Vi i) (Vi 1) = Vi (i + 1) := add_i (by omega) (by omega)
    have p1 := pos_i (i := i) (c := c) (k := j) (by omega) (by omega) (by omega)
    have l1 := hm.lt hir hjc
    simp [lo266_1, TT.dv, hir, e1, p1, l1, set_V]
theorem step_ok {x : List Nat} (h : Mx r c x) : val 266 [Vi r, Vi c, Vl x, Vi j] = some (if dnOk r c j x then [Vi r, Vi c, Vl (dnX r c j x), Vl (dnM r c j x).1, Vu (dnM r c j x).2.1, Vb true] else [Vi 0, Vi 0, Vl [], Vl [], Vu 0, Vb false]) := by
  refine val_of tab266 ?_
  have hr := h.hr
  have hc := h.hc
  have cl := column_ok h hjc (show j ≤ r by omega)
  have mk1 := dmake_ok h hjc hjr
  cases hok : dnOk r c j x
  · rw [hok] at mk1
    simp only [Bool.false_eq_true, if_false] at mk1 ⊢
    by_cases hf : finV (colL r c x j j) = true
    · rw [if_pos hf] at mk1
      simp [tr266, TT.dv, cl, mk1]
    · rw [if_neg hf] at mk1
      simp [tr266, TT.dv, cl, mk1]
  · rw [hok] at mk1
    simp only [if_true] at mk1 ⊢
    have ap := dapply_ok h hjc hjr
    have am := dapply_mx h hjc hjr
    have dm := dnM_ok h hjc hjr
    have p1 := pos_i (i := j) (c := c) (k := j) (by omega) (by omega) (by omega)
    have l1 := am.lt hjr hjc
    have e1 : (B.add .i64).den (Vi j) (Vi 1) = Vi ((j + 1 : Nat) : Int) := by rw [add_i (by omega) (by omega)]; rfl
    have lp := fun x2 x4 x5 x6 x7 x8 x9 x10 x11 x12 => cl266_loop hjr hjc (x2 := x2) (x4 := x4) (x5 := x5) (x6 := x6) (x7 := x7) (x8 := x8) (x9 := x9) (x10 := x10) (x11 := x11) (x12 := x12) (r - (j + 1)) (i := j + 1) (by omega) (am.set (p := ps j c j) dm.b)
    unfold dnX clV
    generalize ((j + 1 : Nat) : Int) = z at *
    simp [tr266, TT.dv, KS.dv, cl, mk1, ap, p1, l1, e1, set_V, lp]
end
def pvR (r c : Nat) : Nat → Nat → List Int → List Nat → List Mir → Option (List Int × List Nat × List Mir)
  | 0, _, pl, x, ms => some (pl, x, ms)
  | n + 1, j, pl, x, ms =>
    if (grR r c x j).2 then
      (if j = r - 1 then some (swL pl j (grR r c x j).1, swV r c x j (grR r c x j).1, ms) else
        if dnOk r c j (swV r c x j (grR r c x j).1) then pvR r c n (j + 1) (swL pl j (grR r c x j).1) (dnX r c j (swV r c x j (grR r c x j).1)) (ms ++ [dnM r c j (swV r c x j (grR r c x j).1)]) else none)
    else none
theorem pvR_mx {r c : Nat} : ∀ (n : Nat) {j : Nat} {pl pl' : List Int} {x y : List Nat} {ms ms' : List Mir}, j + n ≤ c → j + n ≤ r → Mx r c x → MsOK r ms → ms.length = j → pvR r c n j pl x ms = some (pl', y, ms') → Mx r c y ∧ MsOK r ms' ∧ ms'.length ≤ r ∧ pl'.length = pl.length
  | 0, j, pl, pl', x, y, ms, ms', _, h2, h, hm, hl, he => by
    simp [pvR] at he; obtain ⟨rfl, rfl, rfl⟩ := he
    exact ⟨h, hm, by omega, rfl⟩
  | n + 1, j, pl, pl', x, y, ms, ms', h1, h2, h, hm, hl, he => by
    unfold pvR at he
    split at he
    · have hs := swV_mx h j (grR r c x j).1
      split at he
      · simp at he; obtain ⟨rfl, rfl, rfl⟩ := he
        exact ⟨hs, hm, by omega, by simp⟩
      · split at he
        · have hd := dnM_ok hs (show j < c by omega) (show j < r by omega)
          obtain ⟨a, b, d, e⟩ := pvR_mx n (j := j + 1) (by omega) (by omega) (dnX_mx hs (by omega) (by omega)) (hm.app (by rw [hl]; exact hd)) (by simp [hl]) he
          exact ⟨a, b, d, by rw [e, swL_len]⟩
        · cases he
    · cases he
theorem pv_loop {r c : Nat} {x0 x2 x3 x4 : PV} : ∀ (n : Nat) {j : Nat} {pl : List Int} {x : List Nat} {ms : List Mir}, j + n = min c r → Mx r c x → ms.length = j → pl.length = c →
    match pvR r c n j pl x ms with
    | some (pl', y, ms') => rounds (fun vs => lo262_2.dv (Vi r :: Vi c :: x2 :: x3 :: x4 :: vs)) [x0, Vi j, ML ms, Jl pl, Vi r, Vi c, Vl x] = some (.y (.ext 2) [x0, ML ms', Jl pl', Vi r, Vi c, Vl y])
    | none => ∃ q, rounds (fun vs => lo262_2.dv (Vi r :: Vi c :: x2 :: x3 :: x4 :: vs)) [x0, Vi j, ML ms, Jl pl, Vi r, Vi c, Vl x] = some (.y .ret [q]) := by
  intro n
  induction n with
  | zero =>
    intro j pl x ms hj h hl hp
    have hr := h.hr
    have hc := h.hc
    simp only [pvR]
    refine rounds_exit ?_ (by simp)
    by_cases c1 : j < c
    · simp [lo262_2, TT.dv, c1, show ¬ j < r by omega]
    · simp [lo262_2, TT.dv, c1]
  | succ n ih =>
    intro j pl x ms hj h hl hp
    have hr := h.hr
    have hc := h.hc
    have hjc : j < c := by omega
    have hjr : j < r := by omega
    have gr := greatest_ok h (j := j) (by omega) hjc
    obtain ⟨ga, gb⟩ := grR_lt (r := r) (x := x) hjc
    unfold pvR
    generalize grR r c x j = g at *
    obtain ⟨a, ok⟩ := g
    simp only at gr ga gb ⊢
    cases ok
    · simp only [Bool.false_eq_true, if_false]
      exact ⟨ML ms, rounds_exit (by simp [lo262_2, TT.dv, hjc, hjr, gr]) (by simp)⟩
    · simp only [if_true]
      have sw := swap_ok (a := j) (b := a) hjc ga h
      have hs := swV_mx h j a
      have s1 : (B.sub .i64).den (Vi r) (Vi 1) = Vi ((r : Int) - 1) := sub_i (by omega) (by omega)
      have g1 := get_J (l := pl) (i := a) (by omega)
      have g2 := get_J (l := pl) (i := j) (by omega)
      have hla : a < pl.length := by omega
      have hlj : j < pl.length := by omega
      have hswL : (pl.set j (ei pl a)).set a (ei pl j) = swL pl j a := rfl
      by_cases hlast : j = r - 1
      · rw [if_pos hlast]
        have hlast' : (j : Int) = r - 1 := by omega
        refine rounds_exit ?_ (by simp)
        rw [← hlast'] at s1
        simp [lo262_2, TT.dv, hjc, hjr, gr, sw, hla, hlj, g1, g2, set_J, s1, hswL]
      · rw [if_neg hlast]
        have hlast' : ¬ (j : Int) = r - 1 := by omega
        have st := step_ok hjr hjc hs
        cases hok : dnOk r c j (swV r c x j a)
        · rw [hok] at st
          simp only [Bool.false_eq_true, if_false] at st ⊢
          exact ⟨ML ms, rounds_exit (by simp [lo262_2, TT.dv, hjc, hjr, gr, sw, hla, hlj, g1, g2, set_J, s1, hlast', st]) (by simp)⟩
        · rw [hok] at st
          simp only [if_true] at st ⊢
          have e1 : (B.add .i64).den (Vi j) (Vi 1) = Vi ((j + 1 : Nat) : Int) := by rw [add_i (by omega) (by omega)]; rfl
          have hap := app_ML ms (dnM r c j (swV r c x j a))
          have l2 : ((ms.length + 1 : Nat) : Int) ≤ 4398046511104 := by omega
          have hlen := len_ML (ms ++ [dnM r c j (swV r c x j a)])
          rw [List.length_append, show [dnM r c j (swV r c x j a)].length = 1 from rfl] at hlen
          have key : rounds (fun vs => lo262_2.dv (Vi r :: Vi c :: x2 :: x3 :: x4 :: vs)) [x0, Vi j, ML ms, Jl pl, Vi r, Vi c, Vl x] = rounds (fun vs => lo262_2.dv (Vi r :: Vi c :: x2 :: x3 :: x4 :: vs)) [x0, Vi ((j + 1 : Nat) : Int), ML (ms ++ [dnM r c j (swV r c x j a)]), Jl (swL pl j a), Vi r, Vi c, Vl (dnX r c j (swV r c x j a))] := by
            refine rounds_cont ?_
            generalize ((j + 1 : Nat) : Int) = z at *
            generalize ((ms.length + 1 : Nat) : Int) = w at *
            generalize dnX r c j (swV r c x j a) = y at *
            generalize dnM r c j (swV r c x j a) = mm at *
            generalize swV r c x j a = xx at *
            simp [lo262_2, TT.dv, hjc, hjr, gr, sw, hla, hlj, g1, g2, set_J, s1, hlast', st, e1, hap, hlen, l2, hswL]
          rw [key]
          exact ih (j := j + 1) (by omega) (dnX_mx hs hjc hjr) (by simp [hl]) (by simpa using hp)
end Go.Proofs.Ythchhkghjfendaa.Dx

namespace Go.Proofs.Ythchhkghjfendaa.Dx
open Go

theorem awake_16 : val 69 [] = some [Vb true] := val_iff.2 ⟨4000, by kernel_rfl⟩
def pfR (r c : Nat) (x : List Nat) : Option (List Nat × List Nat × List Int) :=
  match pvR r c (min c r) 0 (firL c) x [] with
  | none => none
  | some (pl, y, ms) => if finV (qrQ r ms) && finV y then some (qrQ r ms, y, pl) else none
theorem pv_mx {r c : Nat} {x y : List Nat} {pl : List Int} {ms : List Mir} (h : Mx r c x) (he : pvR r c (min c r) 0 (firL c) x [] = some (pl, y, ms)) : Mx r c y ∧ MsOK r ms ∧ ms.length ≤ r ∧ pl.length = c := by
  obtain ⟨a, b, d, e⟩ := pvR_mx (min c r) (j := 0) (by omega) (by omega) h (fun j m hj => by simp at hj) rfl he
  exact ⟨a, b, d, by simpa using e⟩
theorem pfR_mx {r c : Nat} {x q y : List Nat} {pl : List Int} (h : Mx r c x) (he : pfR r c x = some (q, y, pl)) : Mx r r q ∧ Mx r c y ∧ pl.length = c := by
  unfold pfR at he
  split at he
  · cases he
  · rename_i pl' y' ms hd
    obtain ⟨hy, hms, hml, hpl⟩ := pv_mx h hd
    split at he
    · simp at he; obtain ⟨rfl, rfl, rfl⟩ := he
      exact ⟨backR_mx hms hml _ (Nat.le_refl _) (eyV_mx h.hr), hy, hpl⟩
    · cases he
theorem pl_loop {c : Nat} (hc : c ≤ 6) {x0 x2 x3 : PV} : ∀ (n : Nat) {i : Nat}, i + n = c → rounds (fun vs => lo262_1.dv (x0 :: Vi c :: x2 :: x3 :: vs)) [Vi i, Jl (firL i)] = some (.y (.ext 0) [Jl (firL c)]) := by
  intro n
  induction n with
  | zero =>
    intro i hi
    have : i = c := by omega
    subst this
    refine rounds_exit ?_ (by simp)
    simp [lo262_1, TT.dv]
  | succ n ih =>
    intro i hi
    refine Eq.trans (rounds_cont ?_) (ih (i := i + 1) (by omega))
    have e1 : (B.add .i64).den (Vi i) (Vi 1) = Vi (i + 1) := add_i (by omega) (by omega)
    have a1 := app_J (firL i) i
    rw [firL_succ] at a1
    simp [lo262_1, TT.dv, show i < c by omega, e1, a1, show (i : Int) + 1 ≤ 17592186044416 by omega]
section
variable {r : Nat} {ms : List Mir} (hms : MsOK r ms) (hml : ms.length ≤ r)
include hms hml
theorem back262_loop {x0 x1 x2 x3 x4 x5 x7 x8 x9 x10 x11 x12 x13 x14 : PV} : ∀ (n : Nat) {q : List Nat}, n ≤ ms.length → Mx r r q →
    rounds (fun vs => lo262_3.dv (x0 :: x1 :: x2 :: x3 :: x4 :: x5 :: ML ms :: x7 :: x8 :: x9 :: x10 :: x11 :: x12 :: x13 :: x14 :: vs)) [Vi ((n : Int) - 1), Vi r, Vi r, Vl q] = some (.y (.ext 4) [Vi r, Vi r, Vl (backR r ms n q)]) := by
  intro n
  induction n with
  | zero =>
    intro q hn hq
    refine rounds_exit ?_ (by simp)
    simp [lo262_3, TT.dv, backR]
  | succ n ih =>
    intro q hn hq
    have hlt : n < ms.length := by omega
    refine Eq.trans (rounds_cont ?_) (ih (by omega) (back_step_mx hms hml hq hlt))
    have hr := hq.hr
    have e0 : ((n + 1 : Nat) : Int) - 1 = (n : Int) := by omega
    have e1 : (B.sub .i64).den (Vi n) (Vi 1) = Vi ((n : Int) - 1) := sub_i (by omega) (by omega)
    have a1 := back_ap hms hml hq hlt
    have g1 := get_ML hlt
    have l1 := len_ML ms
    have f0 : ∀ a b : PV, (U.fld 0).den (PV.a [a, b]) = a := fun _ _ => rfl
    have f1 : ∀ a b : PV, (U.fld 1).den (PV.a [a, b]) = b := fun _ _ => rfl
    rw [e0]
    simp [lo262_3, TT.dv, hlt, e1, a1, g1, l1, f0, f1]
end
theorem pfactor_ok {r c : Nat} {x : List Nat} (h : Mx r c x) (hf : finV x = true) : val 262 [Vi r, Vi c, Vl x] = some (match pfR r c x with | some (q, y, pl) => [Vi r, Vi r, Vl q, Vi r, Vi c, Vl y, Jl pl, Vi 0] | none => [Vi 0, Vi 0, Vl [], Vi 0, Vi 0, Vl [], Jl [], Vi 2]) := by
  refine val_of tab262 ?_
  have hr := h.hr
  have hs := h.small
  have h1 := ccheck_ok r c (x := x) (by omega)
  unfold chk at h1
  rw [if_pos (mx_right h), if_pos hf] at h1
  have lp1 := fun x0 x2 x3 => pl_loop h.hc (x0 := x0) (x2 := x2) (x3 := x3) c (i := 0) (by omega)
  simp only [show ((0 : Nat) : Int) = 0 from rfl, show Jl (firL 0) = Vl [] from rfl] at lp1
  have lp2 := fun x0 x2 x3 x4 => pv_loop (x0 := x0) (x2 := x2) (x3 := x3) (x4 := x4) (min c r) (j := 0) (pl := firL c) (x := x) (ms := []) (by omega) h rfl (by simp)
  unfold pfR
  cases hd : pvR r c (min c r) 0 (firL c) x [] with
  | none =>
    rw [hd] at lp2
    obtain ⟨q, lp2⟩ := lp2 (Vi 0) (Vl x) (Vi 0) (Jl (firL c))
    rw [show ((0 : Nat) : Int) = 0 from rfl, ← ML_nil] at lp2
    simp [tr262, TT.dv, KS.dv, h1, lp1, lp2, show (x.length : Int) ≤ 17592186044416 by omega, ← Jl_nil]
  | some p =>
    obtain ⟨pl, y, ms⟩ := p
    rw [hd] at lp2
    have lp2 := lp2 (Vi 0) (Vl x) (Vi 0) (Jl (firL c))
    simp only [show ((0 : Nat) : Int) = 0 from rfl, ← ML_nil] at lp2
    obtain ⟨hy, hms, hml, hpl⟩ := pv_mx h hd
    have h3 := eye_ok hr
    have hq : Mx r r (qrQ r ms) := backR_mx hms hml _ (Nat.le_refl _) (eyV_mx h.hr)
    have lp3 := fun x0 x1 x2 x3 x4 x5 x7 x8 x9 x10 x11 x12 x13 x14 => back262_loop hms hml (x0 := x0) (x1 := x1) (x2 := x2) (x3 := x3) (x4 := x4) (x5 := x5) (x7 := x7) (x8 := x8) (x9 := x9) (x10 := x10) (x11 := x11) (x12 := x12) (x13 := x13) (x14 := x14) ms.length (Nat.le_refl _) (eyV_mx hr)
    rw [show backR r ms ms.length (eyV r) = qrQ r ms from rfl] at lp3
    have f1 := finite_v_ok hq.w (by have := hq.small; omega)
    have f2 := finite_v_ok hy.w (by have := hy.small; omega)
    have l1 := len_ML ms
    have s1 : (B.sub .i64).den (Vi ms.length) (Vi 1) = Vi ((ms.length : Int) - 1) := sub_i (by omega) (by omega)
    cases c1 : finV (qrQ r ms)
    · rw [c1] at f1
      simp [tr262, TT.dv, KS.dv, h1, lp1, lp2, h3, show (x.length : Int) ≤ 17592186044416 by omega, lp3, l1, s1, f1, c1, ← Jl_nil]
    · cases c2 : finV y <;> rw [c1] at f1 <;> rw [c2] at f2 <;>
      simp [tr262, TT.dv, KS.dv, h1, lp1, lp2, h3, show (x.length : Int) ≤ 17592186044416 by omega, lp3, l1, s1, f1, f2, c1, c2, ← Jl_nil]
theorem pfactor_no {R C : Int} {x : List Nat} (hl : x.length ≤ 17592186043904) {e : Int} (he : chk R C x = e) (h0 : e ≠ 0) : val 262 [Vi R, Vi C, Vl x] = some [Vi 0, Vi 0, Vl [], Vi 0, Vi 0, Vl [], Jl [], Vi e] := by
  refine val_of tab262 ?_
  have h1 := ccheck_ok R C hl
  rw [he] at h1
  simp [tr262, TT.dv, KS.dv, h1, h0, ← Jl_nil]
end Go.Proofs.Ythchhkghjfendaa.Dx

namespace Go.Proofs.Ythchhkghjfendaa.Dx
open Go

def Ints (l : List Int) : Prop := ∀ a ∈ l, -9223372036854775808 ≤ a ∧ a < 9223372036854775808
theorem pv_li {p : PV} (h : PvT (.sl .i64) p) : ∃ l : List Int, p = Jl l ∧ Ints l ∧ l.length ≤ 17592186043904 := by
  obtain ⟨zs, rfl, hw, hl⟩ := h
  refine ⟨zs, rfl, fun a ha => wf_i64 (hw a ha), ?_⟩
  have : IntKind.i64.bits / 8 = 8 := rfl
  rw [this] at hl
  unfold reachBytes at hl
  omega
section
variable {r c : Nat} {x : List Nat} (h : Mx r c x)
include h
end
section
variable {C : Int} {pl : List Int} (hl : pl.length ≤ 17592186043904)
include hl
end
section
variable {r c : Nat} {x : List Nat} (h : Mx r c x) {pl : List Int} (hl : pl.length ≤ 6) (hp : ∀ k, k < pl.length → 0 ≤ ei pl k ∧ ei pl k < c)
include h hl hp
end
end Go.Proofs.Ythchhkghjfendaa.Dx

namespace Go.Proofs.Ythchhkghjfendaa.Dx
open Go

/-- All columns, each once. -/
structure AllOnce (c : Nat) (l : List Int) : Prop where
  len : l.length = c
  rng : ∀ k, k < c → 0 ≤ ei l k ∧ ei l k < c
  inj : ∀ k k', k < c → k' < c → ei l k = ei l k' → k = k'
  sur : ∀ p : Nat, p < c → ∃ k, k < c ∧ ei l k = p
theorem allOnce_first (c : Nat) : AllOnce c (firL c) := by
  refine ⟨by simp, fun k hk => by rw [ei_firL hk]; omega, fun k k' hk hk' h => ?_, fun p hp => ⟨p, hp, ei_firL hp⟩⟩
  rw [ei_firL hk, ei_firL hk'] at h; omega
theorem swN_swN {a b k : Nat} : swN a b (swN a b k) = k := by
  unfold swN
  by_cases h1 : k = b
  · subst h1
    rw [if_pos rfl]
    by_cases h2 : a = k
    · rw [if_pos h2, h2]
    · rw [if_neg h2, if_pos rfl]
  · rw [if_neg h1]
    by_cases h2 : k = a
    · subst h2; rw [if_pos rfl, if_pos rfl]
    · rw [if_neg h2, if_neg h1, if_neg h2]
theorem AllOnce.sw {c : Nat} {l : List Int} (h : AllOnce c l) {a b : Nat} (ha : a < c) (hb : b < c) : AllOnce c (swL l a b) := by
  have hl := h.len
  have e : ∀ k, ei (swL l a b) k = ei l (swN a b k) := fun k => ei_swL (by omega) (by omega)
  refine ⟨by rw [swL_len, hl], fun k hk => by rw [e]; exact h.rng _ (swN_lt ha hb hk), fun k k' hk hk' hh => ?_, fun p hp => ?_⟩
  · rw [e, e] at hh
    have := h.inj _ _ (swN_lt ha hb hk) (swN_lt ha hb hk') hh
    rw [← swN_swN (a := a) (b := b) (k := k), this, swN_swN]
  · obtain ⟨k, hk, hh⟩ := h.sur p hp
    exact ⟨swN a b k, swN_lt ha hb hk, by rw [e, swN_swN]; exact hh⟩
theorem swV_up {r c j a : Nat} {x : List Nat} (ha : j ≤ a) (hjc : j < c) (hu : UpTo r c j x) : UpTo r c j (swV r c x j a) := by
  intro i b h1 h2 h3
  rw [el_swV h3 (by omega)]
  have : swN j a b = b := by unfold swN; rw [if_neg (by omega), if_neg (by omega)]
  rw [this]; exact hu i b h1 h2 h3
theorem pvR_all {r c : Nat} : ∀ (n : Nat) {j : Nat} {pl pl' : List Int} {x y : List Nat} {ms ms' : List Mir}, j + n ≤ c → j + n ≤ r → Mx r c x → UpTo r c j x → AllOnce c pl → pvR r c n j pl x ms = some (pl', y, ms') → UpTo r c (j + n) y ∧ AllOnce c pl'
  | 0, j, pl, pl', x, y, ms, ms', _, h2, h, hu, ho, he => by
    simp [pvR] at he; obtain ⟨rfl, rfl, rfl⟩ := he
    exact ⟨hu, ho⟩
  | n + 1, j, pl, pl', x, y, ms, ms', h1, h2, h, hu, ho, he => by
    unfold pvR at he
    obtain ⟨ga, gb⟩ := grR_lt (r := r) (x := x) (show j < c by omega)
    split at he
    · have hs := swV_mx h j (grR r c x j).1
      have hu' := swV_up (r := r) (x := x) gb (show j < c by omega) hu
      have ho' := ho.sw (show j < c by omega) ga
      split at he
      · rename_i hlast
        simp at he; obtain ⟨rfl, rfl, rfl⟩ := he
        refine ⟨fun i b k1 k2 k3 => hu' i b ?_ k2 k3, ho'⟩
        omega
      · split at he
        · obtain ⟨a, b⟩ := pvR_all n (j := j + 1) (by omega) (by omega) (dnX_mx hs (by omega) (by omega)) (dnX_up hs (by omega) (by omega) hu') ho' he
          exact ⟨by rwa [show j + (n + 1) = j + 1 + n by omega], b⟩
        · cases he
    · cases he
theorem pfR_all {r c : Nat} {x q y : List Nat} {pl : List Int} (h : Mx r c x) (he : pfR r c x = some (q, y, pl)) : (∀ a b, b < a → a < r → b < c → el y (ps a c b) = 0) ∧ AllOnce c pl := by
  unfold pfR at he
  split at he
  · cases he
  · rename_i pl' y' ms hd
    split at he
    · simp at he; obtain ⟨rfl, rfl, rfl⟩ := he
      obtain ⟨a, b⟩ := pvR_all (min c r) (j := 0) (by omega) (by omega) h (fun i b h1 => by omega) (allOnce_first c) hd
      exact ⟨fun i b h1 h2 h3 => a i b (by omega) h1 h2, b⟩
    · cases he
section
variable {r c : Nat} {y : List Nat} (h : Mx r c y) (hu : ∀ a b, b < a → a < r → b < c → el y (ps a c b) = 0)
include h hu
theorem upp_in {i : Nat} (hi : i < r) {x3 x5 : PV} : ∀ (n : Nat) {k : Nat}, k + n = min i c →
    rounds (fun vs => lo185_2.dv (Vi r :: Vi c :: Vl y :: x3 :: Vi i :: vs)) [x5, Vi k] = some (.y (.ext 2) [x5]) := by
  intro n
  have hr := h.hr
  induction n with
  | zero =>
    intro k hk
    refine rounds_exit ?_ (by simp)
    by_cases c1 : k < i
    · simp [lo185_2, TT.dv, c1, show ¬ k < c by omega]
    · simp [lo185_2, TT.dv, c1]
  | succ n ih =>
    intro k hk
    have c1 : k < i := by omega
    have c2 : k < c := by omega
    have g1 := at_ok h (i := i) (k := k) hi c2
    rw [hu i k c1 hi c2] at g1
    have e1 : (B.add .i64).den (Vi k) (Vi 1) = Vi (k + 1) := add_i (by omega) (by omega)
    refine Eq.trans (rounds_cont ?_) (ih (k := k + 1) (by omega))
    simp [lo185_2, TT.dv, c1, c2, g1, e1]
theorem upp_out {x3 : PV} : ∀ (n : Nat) {i : Nat}, i + n = r →
    rounds (fun vs => lo185_1.dv (Vi r :: Vi c :: Vl y :: vs)) [x3, Vi i] = some (.y (.ext 0) [x3]) := by
  intro n
  have hr := h.hr
  induction n with
  | zero =>
    intro i hi
    have : i = r := by omega
    subst this
    refine rounds_exit ?_ (by simp)
    simp [lo185_1, TT.dv]
  | succ n ih =>
    intro i hi
    have hir : i < r := by omega
    have lp := fun x3 x5 => upp_in h hu hir (x3 := x3) (x5 := x5) (min i c) (k := 0) (by omega)
    simp only [show ((0 : Nat) : Int) = 0 from rfl] at lp
    have e1 : (B.add .i64).den (Vi i) (Vi 1) = Vi (i + 1) := add_i (by omega) (by omega)
    refine Eq.trans (rounds_cont ?_) (ih (i := i + 1) (by omega))
    simp [lo185_1, TT.dv, KS.dv, hir, lp, e1]
theorem upper_ok : val 185 [Vi r, Vi c, Vl y] = some [Vb true] := by
  refine val_of tab185 ?_
  have lp := fun x3 => upp_out h hu (x3 := x3) r (i := 0) (by omega)
  simp only [show ((0 : Nat) : Int) = 0 from rfl] at lp
  simp [tr185, TT.dv, KS.dv, lp]
end
theorem rep_J (n : Nat) (a : Int) : B.rep.den (Vi n) (Vi a) = Jl (List.replicate n a) := by
  show PV.l (List.replicate (Vi n).int.toNat (Vi a)) = _
  rw [int_I, Int.toNat_natCast, Jl, List.map_replicate]
section
variable {c : Nat} (hc : c ≤ 6) {l : List Int} (ho : AllOnce c l)
include hc ho
theorem times_loop {x0 x2 x3 x4 x5 x6 x7 x8 x10 x11 : PV} : ∀ (n : Nat) {i : Nat} {t : List Int}, i + n = c → t.length = c → (∀ p, p < c → ei t p = if ∃ k, k < i ∧ ei l k = p then 1 else 0) →
    ∃ t', rounds (fun vs => lo66_1.dv (x0 :: Vi c :: x2 :: x3 :: x4 :: x5 :: x6 :: x7 :: x8 :: Jl l :: x10 :: vs)) [x11, Vi i, Jl t] = some (.y (.ext 0) [x11, Jl t']) ∧ t'.length = c ∧ ∀ p, p < c → ei t' p = 1 := by
  intro n
  have hl := ho.len
  induction n with
  | zero =>
    intro i t hi ht hv
    have : i = c := by omega
    subst this
    refine ⟨t, rounds_exit ?_ (by simp), ht, fun p hp => ?_⟩
    · simp [lo66_1, TT.dv, hl]
    · rw [hv p hp]
      obtain ⟨k, hk, hh⟩ := ho.sur p hp
      rw [if_pos ⟨k, hk, hh⟩]
  | succ n ih =>
    intro i t hi ht hv
    have hic : i < c := by omega
    obtain ⟨r1, r2⟩ := ho.rng i hic
    obtain ⟨p, hp⟩ : ∃ p : Nat, ei l i = p := ⟨(ei l i).toNat, by omega⟩
    have hpc : p < c := by omega
    have hnot : ¬ ∃ k, k < i ∧ ei l k = p := fun ⟨k, h1, h2⟩ => by have := ho.inj k i (by omega) hic (by rw [h2, hp]); omega
    have h0 : ei t p = 0 := by rw [hv p hpc, if_neg hnot]
    obtain ⟨t', h1, h2, h3⟩ := ih (i := i + 1) (t := t.set p 1) (by omega) (by simp [ht]) (fun q hq => by
      rw [ei_set]
      by_cases hqp : p = q
      · subst hqp
        rw [if_pos ⟨rfl, by omega⟩, if_pos ⟨i, by omega, hp⟩]
      · rw [if_neg (fun hh => hqp hh.1), hv q hq]
        by_cases he : ∃ k, k < i ∧ ei l k = q
        · obtain ⟨k, k1, k2⟩ := he
          rw [if_pos ⟨k, k1, k2⟩, if_pos ⟨k, by omega, k2⟩]
        · rw [if_neg he, if_neg (fun ⟨k, k1, k2⟩ => by
            rcases Nat.lt_or_ge k i with h5 | h5
            · exact he ⟨k, h5, k2⟩
            · have : k = i := by omega
              subst this; rw [hp] at k2; omega)])
    refine ⟨t', Eq.trans (rounds_cont ?_) h1, h2, h3⟩
    have g1 := get_J (l := l) (i := i) (by omega)
    rw [hp] at g1
    have g2 := get_J (l := t) (i := p) (by omega)
    rw [h0] at g2
    have e1 : (B.add .i64).den (Vi i) (Vi 1) = Vi (i + 1) := add_i (by omega) (by omega)
    have e2 : (B.add .i64).den (Vi 0) (Vi 1) = Vi 1 := rfl
    have s1 := set_J t p 1
    simp [lo66_1, TT.dv, hl, hic, g1, g2, hpc, ht, e1, e2, s1, show ¬ c ≤ p by omega]
theorem ones_loop {t : List Int} (ht : t.length = c) (hv : ∀ p, p < c → ei t p = 1) {x0 x1 x2 x3 x4 x5 x6 x7 x8 x9 x10 x11 x13 : PV} : ∀ (n : Nat) {i : Nat}, i + n = c →
    rounds (fun vs => lo66_2.dv (x0 :: x1 :: x2 :: x3 :: x4 :: x5 :: x6 :: x7 :: x8 :: x9 :: x10 :: x11 :: Jl t :: vs)) [x13, Vi i] = some (.y (.ext 2) [x13]) := by
  intro n
  induction n with
  | zero =>
    intro i hi
    have : i = c := by omega
    subst this
    refine rounds_exit ?_ (by simp)
    simp [lo66_2, TT.dv, ht]
  | succ n ih =>
    intro i hi
    have hic : i < c := by omega
    have g1 := get_J (l := t) (i := i) (by omega)
    rw [hv i hic] at g1
    have e1 : (B.add .i64).den (Vi i) (Vi 1) = Vi (i + 1) := add_i (by omega) (by omega)
    refine Eq.trans (rounds_cont ?_) (ih (i := i + 1) (by omega))
    simp [lo66_2, TT.dv, ht, hic, g1, e1]
end
theorem ei_replicate (n p : Nat) : ei (List.replicate n 0) p = 0 := by
  unfold ei
  rw [List.getD_eq_getElem?_getD, List.getElem?_replicate]
  split <;> rfl
theorem law_PivotPlaces {R C : Int} (_ : -9223372036854775808 ≤ R) (_ : R < 9223372036854775808) (_ : -9223372036854775808 ≤ C) (_ : C < 9223372036854775808) {x : List Nat} (hw : Words x) (hl : x.length ≤ 17592186043904) :
    val 66 [Vi R, Vi C, Vl x] = some [Vb true] := by
  refine val_of tab66 ?_
  rcases chk_cases R C x with hc | ⟨hc, hr, hf⟩
  · have f1 := pfactor_no hl rfl hc
    rw [← Jl_nil] at f1
    generalize chk R C x = e at *
    simp [tr66, TT.dv, KS.dv, f1, hc, awake_16]
  · obtain ⟨r, c, rfl, rfl, h⟩ := right_mx hr hw
    have f1 := pfactor_ok h hf
    cases hq : pfR r c x with
    | none =>
      rw [hq] at f1
      simp only at f1
      rw [← Jl_nil] at f1
      simp [tr66, TT.dv, KS.dv, f1, awake_16]
    | some p =>
      obtain ⟨q, y, pl⟩ := p
      rw [hq] at f1
      simp only at f1
      obtain ⟨mq, my, hpl⟩ := pfR_mx h hq
      obtain ⟨hu, ho⟩ := pfR_all h hq
      have hc6 := h.hc
      have up := upper_ok my hu
      have tl := fun x0 x2 x3 x4 x5 x6 x7 x8 x10 x11 => times_loop hc6 ho (x0 := x0) (x2 := x2) (x3 := x3) (x4 := x4) (x5 := x5) (x6 := x6) (x7 := x7) (x8 := x8) (x10 := x10) (x11 := x11) c (i := 0) (t := List.replicate c 0) (by omega) (by simp) (fun p hp => by rw [ei_replicate, if_neg (fun ⟨k, hk, _⟩ => by omega)])
      obtain ⟨t', t1, t2, t3⟩ := tl (Vi r) (Vl x) (Vi r) (Vi r) (Vl q) (Vi r) (Vi c) (Vl y) (Vi 0) (Vb false)
      have ol := fun x0 x1 x2 x3 x4 x5 x6 x7 x8 x9 x10 x11 x13 => ones_loop hc6 ho t2 t3 (x0 := x0) (x1 := x1) (x2 := x2) (x3 := x3) (x4 := x4) (x5 := x5) (x6 := x6) (x7 := x7) (x8 := x8) (x9 := x9) (x10 := x10) (x11 := x11) (x13 := x13) c (i := 0) (by omega)
      rw [show ((0 : Nat) : Int) = 0 from rfl] at t1
      simp only [show ((0 : Nat) : Int) = 0 from rfl] at ol
      have rj := rep_J c 0
      simp [tr66, TT.dv, KS.dv, f1, rj, t1, ol, up, show (c : Int) ≤ 17592186044416 by omega, awake_16]
end Go.Proofs.Ythchhkghjfendaa.Dx
