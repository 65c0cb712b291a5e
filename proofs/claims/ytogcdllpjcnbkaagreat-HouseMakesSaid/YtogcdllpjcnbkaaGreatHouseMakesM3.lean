/- The pure meaning of the functions that the law reaches, and that the law is true of it. No conditions. -/
import Derived.Test.YtogcdllpjcnbkaaGreatHouseMakesM2
set_option linter.all false
/- Mirrors applied; law HouseApplies. -/
namespace Go.Proofs.YtogcdllpjcnbkaaGreat.Dx
open Go

/-! ### stepping through a tree -/
theorem st_call {g : Exp} {f : Nat} {xs : List Exp} {n : Nat} {t : TT Unit} {ρ rs : List PV} (hg : g.isTrue ρ = true) (hv : val f (xs.map (Exp.den ρ)) = some rs) (hl : rs.length = n) : (TT.call g f xs n t).dv ρ = t.dv (ρ ++ rs) := by
  simp only [TT.dv, hg, hv, hl, if_true]
theorem st_skip {g : Exp} {f : Nat} {xs : List Exp} {n : Nat} {t : TT Unit} {ρ : List PV} (hg : g.isTrue ρ = false) : (TT.call g f xs n t).dv ρ = t.dv (ρ ++ List.replicate n default) := by
  simp only [TT.dv, hg, Bool.false_eq_true, if_false]
theorem st_t {c : Exp} {a b : TT Unit} {ρ : List PV} (hc : c.isTrue ρ = true) : (TT.ite c a b).dv ρ = a.dv ρ := by simp only [TT.dv, hc, if_true]
theorem st_f {c : Exp} {a b : TT Unit} {ρ : List PV} (hc : c.isTrue ρ = false) : (TT.ite c a b).dv ρ = b.dv ρ := by simp only [TT.dv, hc, Bool.false_eq_true, if_false]
theorem st_as {c : Exp} {a : TT Unit} {ρ : List PV} (hc : c.isTrue ρ = true) : (TT.assert c a).dv ρ = a.dv ρ := by simp only [TT.dv, hc, if_true]
theorem st_loop {init : List Exp} {t : TT Unit} {ks : KS Unit} {ρ vs : List PV} {x : Ex} (h : rounds (fun vs => t.dv (ρ ++ vs)) (init.map (Exp.den ρ)) = some (.y x vs)) : (TT.loop init t ks).dv ρ = ks.dv x vs ρ := by
  simp only [TT.dv, h]
theorem st_scope {t : TT Unit} {ks : KS Unit} {ρ vs : List PV} {x : Ex} (h : t.dv ρ = some (.y x vs)) : (TT.scope t ks).dv ρ = ks.dv x vs ρ := by
  simp only [TT.dv, h]
theorem st_hit {t : TT Unit} {ks : KS Unit} {ρ vs : List PV} {x : Ex} : (KS.cons x t ks).dv x vs ρ = t.dv (ρ ++ vs) := by
  simp only [KS.dv, if_true]
theorem st_miss {t : TT Unit} {ks : KS Unit} {ρ vs : List PV} {x y : Ex} (h : (x = y) = False) : (KS.cons x t ks).dv y vs ρ = ks.dv y vs ρ := by
  simp only [KS.dv, h, if_false]
/-- A loop that turns all bits of a row. -/
def cplT (p e : Nat) : TT Unit := .ite (.bi .lt (.var p) (.un .len (.var (p + 1)))) (.assert (.bi .le (.int .i64 0) (.var p)) (.assert (.bi .lt (.var p) (.un .len (.var (p + 1)))) (.assert (.bi .le (.int .i64 0) (.var p)) (.assert (.bi .lt (.var p) (.un .len (.var (p + 1)))) (.yield .cont [(.bi (.add .i64) (.var p) (.int .i64 1)), (.tri .set (.var (p + 1)) (.var p) (.un (.cpl .u64) (.bi .get (.var (p + 1)) (.var p))))]))))) (.yield (.ext e) [])
theorem cpl_any {e : Nat} {ρ : List PV} : ∀ (n : Nat) {i : Nat} {y : List Nat}, Words y → y.length < 9000000000000000000 → i + n = y.length →
    rounds (fun vs => (cplT ρ.length e).dv (ρ ++ vs)) [Vi i, Vl y] = some (.y (.ext e) []) := by
  intro n
  induction n with
  | zero =>
    intro i y hy hl hi
    refine rounds_exit ?_ (by simp)
    simp [cplT, TT.dv, show ¬ i < y.length by omega]
  | succ n ih =>
    intro i y hy hl hi
    have e1 : (B.add .i64).den (Vi i) (Vi 1) = Vi (i + 1) := add_i (by omega) (by omega)
    have g1 := get_V (x := y) (i := i) (by omega)
    obtain ⟨c1, c2⟩ := cpl_u (hy.el i)
    refine Eq.trans (rounds_cont ?_) (ih (i := i + 1) (hy.set (i := i) c2) (by simpa using hl) (by rw [List.length_set]; omega))
    simp [cplT, TT.dv, show i < y.length by omega, e1, g1, c1, set_V]
theorem cpl_at {e p : Nat} {x : List Nat} (hw : Words x) (hl : x.length ≤ 17592186043904) : ∀ ρ : List PV, ρ.length = p → rounds (fun vs => (cplT p e).dv (ρ ++ vs)) [Vi 0, Vl x] = some (.y (.ext e) []) := by
  intro ρ hp
  subst hp
  exact cpl_any x.length (i := 0) hw (by omega) (by omega)

/-! ### columns -/
def colG (x : List Nat) (c k from_ : Nat) (j : Nat) : Nat := el x (ps (from_ + j) c k)
/-- A column from a row on. -/
def colL (r c : Nat) (x : List Nat) (k from_ : Nat) : List Nat := mk (colG x c k from_) (r - from_)
theorem colL_words {r c : Nat} {x : List Nat} (h : Mx r c x) (k from_ : Nat) : Words (colL r c x k from_) := mk_words fun _ _ => h.w.el _
@[simp] theorem colL_len (r c : Nat) (x : List Nat) (k from_ : Nat) : (colL r c x k from_).length = r - from_ := mk_len _ _
theorem el_colL {r c : Nat} {x : List Nat} {k f j : Nat} (h : j < r - f) : el (colL r c x k f) j = el x (ps (f + j) c k) := by
  unfold colL; rw [show el (mk (colG x c k f) (r - f)) j = colG x c k f j from by
    unfold el mk; rw [List.getD_eq_getElem?_getD, List.getElem?_map, List.getElem?_range h]; rfl]; rfl
section
variable {r c : Nat} {x : List Nat} (h : Mx r c x) {k f : Nat} (hk : k < c) (hf : f ≤ r)
include h hk hf
theorem column_ok : val 247 [Vi r, Vi c, Vl x, Vi k, Vi f] = some [Vl (colL r c x k f)] := by
  have hr := h.hr
  have lp : ∀ (n : Nat) {j : Nat}, j + n = r - f →
      rounds (fun vs => lo247_1.dv (Vi r :: Vi c :: Vl x :: Vi k :: Vi f :: vs)) [Vi ((f + j : Nat) : Int), Vl (mk (colG x c k f) j)] = some (.y (.ext 0) [Vl (colL r c x k f)]) := by
    intro n
    induction n with
    | zero =>
      intro j hj
      have : j = r - f := by omega
      subst this
      refine rounds_exit ?_ (by simp)
      have e : ¬ (((f + (r - f) : Nat) : Int) < (r : Int)) := by omega
      generalize ((f + (r - f) : Nat) : Int) = z at *
      simp [lo247_1, TT.dv, e, colL]
    | succ n ih =>
      intro j hj
      refine Eq.trans (rounds_cont ?_) (ih (j := j + 1) (by omega))
      have e1 : (B.add .i64).den (Vi ((f + j : Nat) : Int)) (Vi 1) = Vi ((f + (j + 1) : Nat) : Int) := by rw [add_i (by omega) (by omega)]; exact congrArg Vi (by omega)
      have g1 := get_ok h (i := f + j) (k := k) (by omega) hk
      have a1 := app_V (mk (colG x c k f) j) (colG x c k f j)
      rw [mk_succ] at a1
      have e2 : ((f + j : Nat) : Int) < (r : Int) := by omega
      have e3 : ((j : Int) + 1) ≤ 17592186044416 := by omega
      unfold colG at a1 ⊢
      generalize ((f + j : Nat) : Int) = z at *
      generalize ((f + (j + 1) : Nat) : Int) = z' at *
      simp [lo247_1, TT.dv, e1, e2, g1, a1, e3]
  refine val_of tab247 ?_
  have h0 := lp (r - f) (j := 0) (by omega)
  rw [Nat.add_zero, show mk (colG x c k f) 0 = [] from rfl] at h0
  simp [tr247, TT.dv, KS.dv, h0]
theorem column9_ok : val 167 [Vi r, Vi c, Vl x, Vi k, Vi f] = some [Vl (colL r c x k f)] := by
  have hr := h.hr
  have lp : ∀ (n : Nat) {j : Nat}, j + n = r - f →
      rounds (fun vs => lo167_1.dv (Vi r :: Vi c :: Vl x :: Vi k :: Vi f :: vs)) [Vi ((f + j : Nat) : Int), Vl (mk (colG x c k f) j)] = some (.y (.ext 0) [Vl (colL r c x k f)]) := by
    intro n
    induction n with
    | zero =>
      intro j hj
      have : j = r - f := by omega
      subst this
      refine rounds_exit ?_ (by simp)
      have e : ¬ (((f + (r - f) : Nat) : Int) < (r : Int)) := by omega
      generalize ((f + (r - f) : Nat) : Int) = z at *
      simp [lo167_1, TT.dv, e, colL]
    | succ n ih =>
      intro j hj
      refine Eq.trans (rounds_cont ?_) (ih (j := j + 1) (by omega))
      have e1 : (B.add .i64).den (Vi ((f + j : Nat) : Int)) (Vi 1) = Vi ((f + (j + 1) : Nat) : Int) := by rw [add_i (by omega) (by omega)]; exact congrArg Vi (by omega)
      have g1 := at_ok h (i := f + j) (k := k) (by omega) hk
      have a1 := app_V (mk (colG x c k f) j) (colG x c k f j)
      rw [mk_succ] at a1
      have e2 : ((f + j : Nat) : Int) < (r : Int) := by omega
      have e3 : ((j : Int) + 1) ≤ 17592186044416 := by omega
      unfold colG at a1 ⊢
      generalize ((f + j : Nat) : Int) = z at *
      generalize ((f + (j + 1) : Nat) : Int) = z' at *
      simp [lo167_1, TT.dv, e1, e2, g1, a1, e3]
  refine val_of tab167 ?_
  have h0 := lp (r - f) (j := 0) (by omega)
  rw [Nat.add_zero, show mk (colG x c k f) 0 = [] from rfl] at h0
  simp [tr167, TT.dv, KS.dv, h0]
end
theorem take_V (x : List Nat) (n : Nat) : B.take.den (Vl x) (Vi n) = Vl (x.take n) := by
  rw [Vl, take_l _ rfl, Vl, List.map_take]
theorem el_take {x : List Nat} {n j : Nat} (h : j < n) : el (x.take n) j = el x j := by
  unfold el
  rw [List.getD_eq_getElem?_getD, List.getD_eq_getElem?_getD, List.getElem?_take, if_pos h]
theorem Words.take {x : List Nat} (h : Words x) (n : Nat) : Words (x.take n) := fun a ha => h a (List.mem_of_mem_take ha)
/-! ### mirrors applied -/
def apI (cl v : List Nat) (t i c cc : Nat) : Nat → Nat → List Nat → List Nat
  | 0, _, m => m
  | n + 1, j, m => apI cl v t i c cc n (j + 1) (m.set (ps (i + j) c cc) (subV (el cl j) (mulV t (el v j))))
def apT (r c : Nat) (x v : List Nat) (tau i cc : Nat) : Nat := mulV tau (dotV v ((colL r c x cc i).take v.length))
def apO (r c : Nat) (x v : List Nat) (tau i : Nat) : Nat → Nat → List Nat → List Nat
  | 0, _, m => m
  | n + 1, cc, m => apO r c x v tau i n (cc + 1) (apI (colL r c x cc i) v (apT r c x v tau i cc) i c cc v.length 0 m)
def apV (r c : Nat) (x : List Nat) (i k : Nat) (v : List Nat) (tau : Nat) : List Nat := apO r c x v tau i (c - k) k x
theorem apI_mx {r c : Nat} {cl v : List Nat} {t i cc : Nat} (hc : Words cl) : ∀ (n j : Nat) {m : List Nat}, Mx r c m → Mx r c (apI cl v t i c cc n j m)
  | 0, _, _, h => h
  | n + 1, j, m, h => apI_mx hc n (j + 1) (h.set (subV_lt (hc.el j) mulV_lt))
theorem apO_mx {r c : Nat} {x v : List Nat} {tau i : Nat} (hx : Mx r c x) : ∀ (n cc : Nat) {m : List Nat}, Mx r c m → Mx r c (apO r c x v tau i n cc m)
  | 0, _, _, h => h
  | n + 1, cc, m, h => apO_mx hx n (cc + 1) (apI_mx (colL_words hx cc i) _ _ h)
section
variable {r c : Nat} {x : List Nat} (h : Mx r c x) {v : List Nat} (hv : Words v) {tau : Nat} (ht : tau < 18446744073709551616) {i : Nat} (hi : i + v.length ≤ r)
include h hv ht hi
theorem ap_inner {cc : Nat} (hcc : cc < c) {x3 x4 x7 x9 x11 x12 : PV} {t : Nat} (htt : t < 18446744073709551616) : ∀ (n : Nat) {j : Nat} {m : List Nat}, j + n = v.length → Mx r c m →
    rounds (fun vs => lo238_2.dv (Vi r :: Vi c :: Vl x :: Vi i :: x4 :: Vl v :: Vu tau :: x7 :: Vi cc :: x9 :: Vl (colL r c x cc i) :: x11 :: x12 :: Vu t :: vs)) [Vi j, Vl m] = some (.y (.ext 2) [Vl (apI (colL r c x cc i) v t i c cc n j m)]) := by
  intro n
  have hr := h.hr
  have hc := h.hc
  have htl : ((colL r c x cc i).take v.length).length = v.length := by rw [List.length_take, colL_len]; omega
  induction n with
  | zero =>
    intro j m hj hm
    have : j = v.length := by omega
    subst this
    refine rounds_exit ?_ (by simp)
    simp [lo238_2, TT.dv, take_V, htl, apI]
  | succ n ih =>
    intro j m hj hm
    have hjl : j < v.length := by omega
    refine Eq.trans (rounds_cont ?_) (ih (j := j + 1) (by omega) (hm.set (subV_lt ((colL_words h cc i).el j) (mulV_lt (a := t) (b := el v j)))))
    have e1 : (B.add .i64).den (Vi j) (Vi 1) = Vi (j + 1) := add_i (by omega) (by omega)
    have e2 : (B.add .i64).den (Vi i) (Vi j) = Vi ((i + j : Nat) : Int) := by rw [add_i (by omega) (by omega)]; exact congrArg Vi (by omega)
    have p1 := pos_i (i := i + j) (c := c) (k := cc) (by omega) (by omega) (by omega)
    have l1 := hm.lt (show i + j < r by omega) hcc
    have g1 := get_V (x := v) hjl
    have g2 := get_V (x := (colL r c x cc i).take v.length) (i := j) (by rw [htl]; exact hjl)
    rw [el_take hjl] at g2
    have m1 := vmul_ok htt (hv.el j)
    have s1 := vsub_ok ((colL_words h cc i).el j) (mulV_lt (a := t) (b := el v j))
    generalize ((i + j : Nat) : Int) = z at *
    simp [lo238_2, TT.dv, take_V, htl, hjl, e1, e2, p1, l1, g1, g2, m1, s1, set_V]
theorem ap_outer {k : Nat} {x7 : PV} : ∀ (n : Nat) {cc : Nat} {m : List Nat}, cc + n = c → Mx r c m →
    rounds (fun vs => lo238_1.dv (Vi r :: Vi c :: Vl x :: Vi i :: Vi k :: Vl v :: Vu tau :: x7 :: vs)) [Vi cc, Vl m] = some (.y (.ext 0) [Vl (apO r c x v tau i n cc m)]) := by
  intro n
  have hr := h.hr
  have hc := h.hc
  induction n with
  | zero =>
    intro cc m hcc hm
    have : cc = c := by omega
    subst this
    refine rounds_exit ?_ (by simp)
    simp [lo238_1, TT.dv, apO]
  | succ n ih =>
    intro cc m hcc hm
    have hlt : cc < c := by omega
    have hcl := colL_words h cc i
    refine Eq.trans (rounds_cont ?_) (ih (cc := cc + 1) (by omega) (apI_mx (v := v) (t := apT r c x v tau i cc) (i := i) (cc := cc) hcl v.length 0 hm))
    have e1 : (B.add .i64).den (Vi cc) (Vi 1) = Vi (cc + 1) := add_i (by omega) (by omega)
    have c1 := column_ok h hlt (show i ≤ r by omega)
    have htl : ((colL r c x cc i).take v.length).length = v.length := by rw [List.length_take, colL_len]; omega
    have d1 := dot_ok hv (hcl.take v.length)
    rw [if_pos ⟨htl.symm, by omega⟩] at d1
    have m1 := vmul_ok ht (b := dotV v ((colL r c x cc i).take v.length)) (dotR_lt _ (by decide))
    have hin := fun x4 x7 x9 x11 x12 => ap_inner h hv ht hi hlt (x3 := x4) (x4 := x4) (x7 := x7) (x9 := x9) (x11 := x11) (x12 := x12) (t := apT r c x v tau i cc) mulV_lt v.length (j := 0) (by omega) hm
    simp only [show ((0 : Nat) : Int) = 0 from rfl] at hin
    rw [show mulV tau (dotV v ((colL r c x cc i).take v.length)) = apT r c x v tau i cc from rfl] at m1
    have hle : v.length ≤ r - i := by omega
    simp [lo238_1, TT.dv, KS.dv, hlt, e1, c1, take_V, d1, m1, hin, hle]
theorem ap9_inner {cc : Nat} (hcc : cc < c) {x4 x8 x9 x10 x12 : PV} {t : Nat} (htt : t < 18446744073709551616) : ∀ (n : Nat) {j : Nat} {m : List Nat}, j + n = v.length → Mx r c m →
    rounds (fun vs => lo190_2.dv (Vi r :: Vi c :: Vl x :: Vi i :: x4 :: Vl v :: Vu tau :: Vi cc :: x8 :: x9 :: x10 :: Vl (colL r c x cc i) :: x12 :: Vu t :: vs)) [Vi j, Vi r, Vi c, Vl m] = some (.y (.ext 2) [Vi r, Vi c, Vl (apI (colL r c x cc i) v t i c cc n j m)]) := by
  intro n
  have hr := h.hr
  have hc := h.hc
  induction n with
  | zero =>
    intro j m hj hm
    have : j = v.length := by omega
    subst this
    refine rounds_exit ?_ (by simp)
    simp [lo190_2, TT.dv, apI]
  | succ n ih =>
    intro j m hj hm
    have hjl : j < v.length := by omega
    refine Eq.trans (rounds_cont ?_) (ih (j := j + 1) (by omega) (hm.set (subV_lt ((colL_words h cc i).el j) (mulV_lt (a := t) (b := el v j)))))
    have e1 : (B.add .i64).den (Vi j) (Vi 1) = Vi (j + 1) := add_i (by omega) (by omega)
    have e2 : (B.add .i64).den (Vi i) (Vi j) = Vi ((i + j : Nat) : Int) := by rw [add_i (by omega) (by omega)]; exact congrArg Vi (by omega)
    have hl2 : j < r - i := by omega
    have g1 := get_V (x := v) hjl
    have g2 := get_V (x := colL r c x cc i) (i := j) (by rw [colL_len]; exact hl2)
    have m1 := mul9_ok htt (hv.el j)
    have s1 := sub9_ok ((colL_words h cc i).el j) (mulV_lt (a := t) (b := el v j))
    have w1 := with_ok hm (i := i + j) (k := cc) (b := subV (el (colL r c x cc i) j) (mulV t (el v j))) (by omega) hcc
    generalize ((i + j : Nat) : Int) = z at *
    simp [lo190_2, TT.dv, hjl, hl2, e1, e2, g1, g2, m1, s1, w1]
theorem ap9_outer {k : Nat} : ∀ (n : Nat) {cc : Nat} {m : List Nat}, cc + n = c → Mx r c m →
    rounds (fun vs => lo190_1.dv (Vi r :: Vi c :: Vl x :: Vi i :: Vi k :: Vl v :: Vu tau :: vs)) [Vi cc, Vi r, Vi c, Vl m] = some (.y (.ext 0) [Vi r, Vi c, Vl (apO r c x v tau i n cc m)]) := by
  intro n
  have hr := h.hr
  have hc := h.hc
  induction n with
  | zero =>
    intro cc m hcc hm
    have : cc = c := by omega
    subst this
    refine rounds_exit ?_ (by simp)
    simp [lo190_1, TT.dv, apO]
  | succ n ih =>
    intro cc m hcc hm
    have hlt : cc < c := by omega
    have hcl := colL_words h cc i
    refine Eq.trans (rounds_cont ?_) (ih (cc := cc + 1) (by omega) (apI_mx (v := v) (t := apT r c x v tau i cc) (i := i) (cc := cc) hcl v.length 0 hm))
    have e1 : (B.add .i64).den (Vi cc) (Vi 1) = Vi (cc + 1) := add_i (by omega) (by omega)
    have c1 := column9_ok h hlt (show i ≤ r by omega)
    have htl : ((colL r c x cc i).take v.length).length = v.length := by rw [List.length_take, colL_len]; omega
    have hlp := dot9_loop hv (hcl.take v.length) htl.symm (by omega) v.length (i := 0) (s := 0) (by omega) (by decide)
    rw [show ((0 : Nat) : Int) = 0 from rfl] at hlp
    have d1 : val 153 [Vl v, Vl ((colL r c x cc i).take v.length)] = some [Vu (dotV v ((colL r c x cc i).take v.length))] := by
      refine val_of tab153 ?_
      simp [tr153, TT.dv, KS.dv, hlp, dotV]
    have m1 := mul9_ok ht (b := dotV v ((colL r c x cc i).take v.length)) (dotR_lt _ (by decide))
    have hin := fun x4 x8 x9 x10 x12 => ap9_inner h hv ht hi hlt (x4 := x4) (x8 := x8) (x9 := x9) (x10 := x10) (x12 := x12) (t := apT r c x v tau i cc) mulV_lt v.length (j := 0) (by omega) hm
    simp only [show ((0 : Nat) : Int) = 0 from rfl] at hin
    rw [show mulV tau (dotV v ((colL r c x cc i).take v.length)) = apT r c x v tau i cc from rfl] at m1
    have hle : v.length ≤ r - i := by omega
    simp [lo190_1, TT.dv, KS.dv, hlt, e1, c1, take_V, d1, m1, hin, hle]
theorem apply_ok {k : Nat} (hk : k ≤ c) : val 238 [Vi r, Vi c, Vl x, Vi i, Vi k, Vl v, Vu tau] = some [Vi r, Vi c, Vl (apV r c x i k v tau), Vi 0] := by
  refine val_of tab238 ?_
  have hr := h.hr
  have hc := h.hc
  have h1 := check_ok r c x
  rw [if_pos (mx_right h)] at h1
  have hs := h.small
  have hlp := ap_outer h hv ht hi (k := k) (x7 := Vi 0) (c - k) (cc := k) (m := x) (by omega) h
  have e1 : (B.sub .i64).den (Vi r) (Vi v.length) = Vi ((r : Int) - v.length) := sub_i (by omega) (by omega)
  simp [tr238, TT.dv, KS.dv, h1, e1, show ¬ (i : Int) < 0 by omega, show ¬ r < v.length by omega, show ¬ ((r : Int) - v.length < i) by omega, show ¬ (k : Int) < 0 by omega, show ¬ c < k by omega, show (x.length : Int) ≤ 17592186044416 by omega, hlp, apV]
theorem apply9_ok {k : Nat} (hk : k ≤ c) : val 190 [Vi r, Vi c, Vl x, Vi i, Vi k, Vl v, Vu tau] = some [Vi r, Vi c, Vl (apV r c x i k v tau)] := by
  refine val_of tab190 ?_
  have hlp := ap9_outer h hv ht hi (k := k) (c - k) (cc := k) (m := x) (by omega) h
  simp [tr190, TT.dv, KS.dv, hlp, apV]
theorem apV_mx {k : Nat} : Mx r c (apV r c x i k v tau) := apO_mx h _ _ h
end
end Go.Proofs.YtogcdllpjcnbkaaGreat.Dx

/- Law HouseApplies. -/
namespace Go.Proofs.YtogcdllpjcnbkaaGreat.Dx
open Go

theorem in13_ok {R C I K n : Int} {x : List Nat} (hR : 0 ≤ R ∧ R ≤ 6) (hn : 0 ≤ n ∧ n ≤ 17592186043904) : val 191 [Vi R, Vi C, Vl x, Vi I, Vi K, Vi n] = some [Vb (decide (0 ≤ I ∧ n ≤ R ∧ I ≤ R - n ∧ 0 ≤ K ∧ K ≤ C))] := by
  refine val_of tab191 ?_
  have e1 : (B.sub .i64).den (Vi R) (Vi n) = Vi (R - n) := sub_i (by omega) (by omega)
  simp [tr191, TT.dv, e1]
  simp only [← Bool.decide_and, and_assoc]
theorem apply_no {R C I K : Int} {x v : List Nat} {p : PV} (hw : ¬ rightP R C x) : val 238 [Vi R, Vi C, Vl x, Vi I, Vi K, Vl v, p] = some [Vi 0, Vi 0, Vl [], Vi 1] := by
  refine val_of tab238 ?_
  have h1 := check_ok R C x
  rw [if_neg hw] at h1
  simp [tr238, TT.dv, h1]
theorem apply_out {r c : Nat} {I K : Int} {x v : List Nat} {p : PV} (h : Mx r c x) (hl : v.length ≤ 17592186043904) (hn : ¬ (0 ≤ I ∧ (v.length : Int) ≤ r ∧ I ≤ r - v.length ∧ 0 ≤ K ∧ K ≤ c)) : val 238 [Vi r, Vi c, Vl x, Vi I, Vi K, Vl v, p] = some [Vi 0, Vi 0, Vl [], Vi 3] := by
  refine val_of tab238 ?_
  have hr := h.hr
  have h1 := check_ok r c x
  rw [if_pos (mx_right h)] at h1
  have e1 : (B.sub .i64).den (Vi r) (Vi v.length) = Vi ((r : Int) - v.length) := sub_i (by omega) (by omega)
  simp [tr238, TT.dv, h1, e1]
  intro a1 a2 a3 a4 a5
  exact absurd ⟨a1, by omega, a3, a4, a5⟩ hn
theorem awake_13 : val 51 [] = some [Vb true] := val_iff.2 ⟨400, by kernel_rfl⟩
theorem cpl46 : lo46_1 = cplT 14 0 := rfl
theorem law_HouseApplies {R C : Int} (_ : -9223372036854775808 ≤ R) (_ : R < 9223372036854775808) (_ : -9223372036854775808 ≤ C) (_ : C < 9223372036854775808) {x : List Nat} (hw : Words x) (hl : x.length ≤ 17592186043904)
    {I : Int} (_ : -9223372036854775808 ≤ I) (_ : I < 9223372036854775808) {K : Int} (_ : -9223372036854775808 ≤ K) (_ : K < 9223372036854775808) {tau : Nat} (ht : tau < 18446744073709551616) {v : List Nat} (hv : Words v) (lv : v.length ≤ 17592186043904) :
    val 46 [Vi R, Vi C, Vl x, Vi I, Vi K, Vu tau, Vl v] = some [Vb true] := by
  refine val_of tab46 ?_
  have cp := copy_ok R C (x := x) (by omega)
  have lp := cpl_at (p := 14) (e := 0) hw hl
  rw [← cpl46] at lp
  have ri := right_ok10 R C x
  by_cases hr : rightP R C x
  · have hRC := hr
    obtain ⟨m, n, rfl, rfl, h⟩ := right_mx hr hw
    rw [decide_eq_true hr] at ri
    have hm := h.hr
    have hin := in13_ok (R := m) (C := n) (I := I) (K := K) (n := v.length) (x := x) (by omega) (by omega)
    by_cases c : 0 ≤ I ∧ (v.length : Int) ≤ m ∧ I ≤ m - v.length ∧ 0 ≤ K ∧ K ≤ n
    · rw [decide_eq_true c] at hin
      obtain ⟨i, rfl⟩ : ∃ i : Nat, I = i := ⟨I.toNat, by omega⟩
      obtain ⟨k, rfl⟩ : ∃ k : Nat, K = k := ⟨K.toNat, by omega⟩
      have a1 := apply_ok h hv ht (i := i) (by omega) (k := k) (by omega)
      have a2 := apply9_ok h hv ht (i := i) (by omega) (k := k) (by omega)
      have hmx := apV_mx h hv ht (i := i) (by omega) (k := k)
      have sm := same_m m n (x := apV m n x i k v tau) (by have := hmx.small; omega)
      generalize apV m n x i k v tau = y at *
      refine Eq.trans (st_call rfl cp rfl) ?_
      refine Eq.trans (st_call rfl a1 rfl) ?_
      refine Eq.trans (st_loop (lp _ rfl)) ?_
      refine Eq.trans st_hit ?_
      simp only [List.cons_append, List.nil_append, List.append_nil]
      simp [TT.dv, KS.dv, ri, hin, a2, sm, awake_13]
    · rw [decide_eq_false c] at hin
      have a1 := apply_out (p := Vu tau) h lv c
      have sm := same_m 0 0 (x := []) (by decide)
      refine Eq.trans (st_call rfl cp rfl) ?_
      refine Eq.trans (st_call rfl a1 rfl) ?_
      refine Eq.trans (st_loop (lp _ rfl)) ?_
      refine Eq.trans st_hit ?_
      simp only [List.cons_append, List.nil_append, List.append_nil]
      simp [TT.dv, KS.dv, ri, hin, sm, awake_13]
  · rw [decide_eq_false hr] at ri
    have a1 := apply_no (I := I) (K := K) (v := v) (p := Vu tau) hr
    have sm := same_m 0 0 (x := []) (by decide)
    refine Eq.trans (st_call rfl cp rfl) ?_
    refine Eq.trans (st_call rfl a1 rfl) ?_
    refine Eq.trans (st_loop (lp _ rfl)) ?_
    refine Eq.trans st_hit ?_
    simp only [List.cons_append, List.nil_append, List.append_nil]
    simp [TT.dv, KS.dv, ri, sm, awake_13]
end Go.Proofs.YtogcdllpjcnbkaaGreat.Dx

/- Mirrors made; law HouseMakes. -/
namespace Go.Proofs.YtogcdllpjcnbkaaGreat.Dx
open Go

theorem el_mk' {g : Nat → Nat} {n i : Nat} (h : i < n) : el (mk g n) i = g i := by
  unfold el mk
  rw [List.getD_eq_getElem?_getD, List.getElem?_map, List.getElem?_range h]; rfl
theorem normV_lt (x : List Nat) (hx : Words x) : normV x < 18446744073709551616 := by
  unfold normV
  split
  · have := bigV_lt x; omega
  · exact scaleV_lt (sqrtV_lt (sqrR_lt _ (by decide))) _
def nou (x : List Nat) : Nat → Nat → Bool
  | 0, _ => true
  | n + 1, i => decide (fKind (el x i) = 0) && nou x n (i + 1)
theorem el_drop (x : List Nat) (n i : Nat) : el (x.drop n) i = el x (n + i) := by
  unfold el; rw [List.getD_eq_getElem?_getD, List.getD_eq_getElem?_getD, List.getElem?_drop]
theorem nou_drop (x : List Nat) : ∀ (n i : Nat), nou (x.drop 1) n i = nou x n (i + 1)
  | 0, _ => rfl
  | n + 1, i => by unfold nou; rw [el_drop, Nat.add_comm 1 i, nou_drop x n (i + 1)]
theorem nou_loop {x : List Nat} {x1 : PV} (h64 : x.length < 9000000000000000000) : ∀ (n : Nat) {i : Nat}, i + n = x.length →
    rounds (fun vs => lo243_1.dv (Vl x :: vs)) [x1, Vi i] = some (if nou x n i then .y (.ext 0) [x1] else .y .ret []) := by
  intro n
  induction n with
  | zero =>
    intro i hi
    refine rounds_exit ?_ (by simp [nou])
    simp [lo243_1, TT.dv, show ¬ i < x.length by omega, nou]
  | succ n ih =>
    intro i hi
    have g1 := get_V (x := x) (i := i) (by omega)
    have k1 := kind_ok (el x i)
    unfold nou
    by_cases c : fKind (el x i) = 0
    · rw [decide_eq_true c, Bool.true_and]
      have e1 : (B.add .i64).den (Vi i) (Vi 1) = Vi (i + 1) := add_i (by omega) (by omega)
      refine Eq.trans (rounds_cont ?_) (ih (i := i + 1) (by omega))
      simp [lo243_1, TT.dv, show i < x.length by omega, g1, k1, c, e1]
    · rw [decide_eq_false c, Bool.false_and]
      refine rounds_exit ?_ (by simp)
      simp [lo243_1, TT.dv, show i < x.length by omega, g1, k1, c]
theorem nou9_loop {x : List Nat} {x1 : PV} (hx : Words x) (h64 : x.length < 9000000000000000000) : ∀ (n : Nat) {i : Nat}, i + n = x.length →
    rounds (fun vs => lo194_1.dv (Vl x :: vs)) [x1, Vi i] = some (if nou x n i then .y (.ext 0) [x1] else .y .ret []) := by
  intro n
  induction n with
  | zero =>
    intro i hi
    refine rounds_exit ?_ (by simp [nou])
    simp [lo194_1, TT.dv, show ¬ i < x.length by omega, nou]
  | succ n ih =>
    intro i hi
    have g1 := get_V (x := x) (i := i) (by omega)
    have k1 := kind4_ok (hx.el i)
    unfold nou
    by_cases c : fKind (el x i) = 0
    · rw [decide_eq_true c, Bool.true_and]
      have e1 : (B.add .i64).den (Vi i) (Vi 1) = Vi (i + 1) := add_i (by omega) (by omega)
      refine Eq.trans (rounds_cont ?_) (ih (i := i + 1) (by omega))
      simp [lo194_1, TT.dv, show i < x.length by omega, g1, k1, c, e1]
    · rw [decide_eq_false c, Bool.false_and]
      refine rounds_exit ?_ (by simp)
      simp [lo194_1, TT.dv, show i < x.length by omega, g1, k1, c]
def nouV (x : List Nat) : Bool := nou x (x.length - 1) 1
theorem drop_V (x : List Nat) (n : Nat) : B.drop.den (Vl x) (Vi n) = Vl (x.drop n) := by
  rw [Vl, drop_l _ rfl, Vl, List.map_drop]
theorem drop_V1 (x : List Nat) : B.drop.den (Vl x) (Vi 1) = Vl x.tail := by have := drop_V x 1; rwa [List.drop_one] at this
theorem noughts_ok {x : List Nat} (h1 : 1 ≤ x.length) (h64 : x.length < 9000000000000000000) : val 243 [Vl (x.drop 1)] = some [Vb (nouV x)] := by
  refine val_of tab243 ?_
  have h := nou_loop (x := x.drop 1) (x1 := Vb false) (by simp; omega) (x.length - 1) (i := 0) (by simp)
  rw [nou_drop, show ((0 : Nat) : Int) = 0 from rfl] at h
  unfold nouV
  rw [Nat.zero_add] at h
  cases hc : nou x (x.length - 1) 1 <;> rw [hc] at h <;> simp [tr243, TT.dv, KS.dv] <;> simp at h <;> simp [h, KS.dv]
theorem noughts9_ok {x : List Nat} (hx : Words x) (h1 : 1 ≤ x.length) (h64 : x.length < 9000000000000000000) : val 194 [Vl x] = some [Vb (nouV x)] := by
  refine val_of tab194 ?_
  have h := nou9_loop (x := x) (x1 := Vb false) hx h64 (x.length - 1) (i := 1) (by omega)
  rw [show ((1 : Nat) : Int) = 1 from rfl] at h
  unfold nouV
  cases hc : nou x (x.length - 1) 1 <;> rw [hc] at h <;> simp [tr194, TT.dv, KS.dv, h]
/-- The place of the first number that is no nought. -/
def leadI (x : List Nat) : Nat → Nat → Option Nat
  | 0, _ => none
  | n + 1, i => if fKind (el x i) ≠ 0 then some i else leadI x n (i + 1)
theorem leadI_lt {x : List Nat} : ∀ {n i j : Nat}, leadI x n i = some j → j < i + n
  | 0, _, _, h => by simp [leadI] at h
  | n + 1, i, j, h => by
    unfold leadI at h
    split at h
    · simp at h; omega
    · have := leadI_lt h; omega
theorem nou_lead {x : List Nat} : ∀ {n i : Nat}, nou x n i = false → ∃ j, leadI x n i = some j
  | 0, _, h => by simp [nou] at h
  | n + 1, i, h => by
    unfold nou at h
    unfold leadI
    by_cases c : fKind (el x i) = 0
    · rw [decide_eq_true c, Bool.true_and] at h
      rw [if_neg (by simp [c])]
      exact nou_lead h
    · rw [if_pos c]; exact ⟨i, rfl⟩
theorem lead_some {x : List Nat} (h1 : 1 ≤ x.length) (h : nouV x = false) : ∃ j, leadI x x.length 0 = some j ∧ j < x.length := by
  unfold nouV at h
  obtain ⟨n, hn⟩ : ∃ n, x.length = n + 1 := ⟨x.length - 1, by omega⟩
  rw [hn] at h ⊢
  unfold leadI
  by_cases c : fKind (el x 0) ≠ 0
  · rw [if_pos c]; exact ⟨0, rfl, by omega⟩
  · rw [if_neg c]
    obtain ⟨j, hj⟩ := nou_lead h
    have := leadI_lt hj
    exact ⟨j, hj, by omega⟩
theorem lead_loop {x : List Nat} {x1 : PV} (h64 : x.length < 9000000000000000000) : ∀ (n : Nat) {i j : Nat}, i + n = x.length → leadI x n i = some j →
    rounds (fun vs => lo242_1.dv (Vl x :: vs)) [x1, Vi i] = some (.y .ret [Vu (el x j)]) := by
  intro n
  induction n with
  | zero => intro i j _ h; simp [leadI] at h
  | succ n ih =>
    intro i j hi hj
    have g1 := get_V (x := x) (i := i) (by omega)
    have k1 := kind_ok (el x i)
    unfold leadI at hj
    by_cases c : fKind (el x i) = 0
    · rw [if_neg (by simp [c])] at hj
      have e1 : (B.add .i64).den (Vi i) (Vi 1) = Vi (i + 1) := add_i (by omega) (by omega)
      refine Eq.trans (rounds_cont ?_) (ih (i := i + 1) (by omega) hj)
      simp [lo242_1, TT.dv, show i < x.length by omega, g1, k1, c, e1]
    · rw [if_pos c] at hj
      simp at hj; subst hj
      refine rounds_exit ?_ (by simp)
      simp [lo242_1, TT.dv, show i < x.length by omega, g1, k1, c]
theorem lead9_loop {x : List Nat} {x1 : PV} (hx : Words x) (h64 : x.length < 9000000000000000000) : ∀ (n : Nat) {i j : Nat}, i + n = x.length → leadI x n i = some j →
    rounds (fun vs => lo193_1.dv (Vl x :: vs)) [x1, Vi i] = some (.y .ret [Vi j]) := by
  intro n
  induction n with
  | zero => intro i j _ h; simp [leadI] at h
  | succ n ih =>
    intro i j hi hj
    have g1 := get_V (x := x) (i := i) (by omega)
    have k1 := kind4_ok (hx.el i)
    unfold leadI at hj
    by_cases c : fKind (el x i) = 0
    · rw [if_neg (by simp [c])] at hj
      have e1 : (B.add .i64).den (Vi i) (Vi 1) = Vi (i + 1) := add_i (by omega) (by omega)
      refine Eq.trans (rounds_cont ?_) (ih (i := i + 1) (by omega) hj)
      simp [lo193_1, TT.dv, show i < x.length by omega, g1, k1, c, e1]
    · rw [if_pos c] at hj
      simp at hj; subst hj
      refine rounds_exit ?_ (by simp)
      simp [lo193_1, TT.dv, show i < x.length by omega, g1, k1, c]
theorem vlead_ok {x : List Nat} {j : Nat} (h64 : x.length < 9000000000000000000) (hj : leadI x x.length 0 = some j) : val 242 [Vl x] = some [Vu (el x j)] := by
  refine val_of tab242 ?_
  have h := lead_loop (x1 := Vu 0) h64 x.length (i := 0) (by omega) hj
  rw [show ((0 : Nat) : Int) = 0 from rfl] at h
  simp [tr242, TT.dv, KS.dv, h]
theorem lead9_ok {x : List Nat} {j : Nat} (hx : Words x) (h64 : x.length < 9000000000000000000) (hj : leadI x x.length 0 = some j) : val 193 [Vl x] = some [Vi j] := by
  refine val_of tab193 ?_
  have h := lead9_loop (x1 := Vi 0) hx h64 x.length (i := 0) (by omega) hj
  rw [show ((0 : Nat) : Int) = 0 from rfl] at h
  simp [tr193, TT.dv, KS.dv, h]
/-! ### a vector that begins with 1 -/
def rowG (g : Nat → Nat) (i : Nat) : Nat := if i = 0 then 4607182418800017408 else g i
theorem mk_one (g : Nat → Nat) : mk (rowG g) 1 = [4607182418800017408] := rfl
theorem row_ok {f n : Nat} {caps : List PV} (g : Nat → Nat) (h1 : 1 ≤ n) (hn : n ≤ 1000) (h : ∀ i : Nat, 1 ≤ i → i < n → val f (Vi i :: caps) = some [Vu (g i)]) : val 244 [Vi n, fnP f caps] = some [Vl (mk (rowG g) n)] := by
  have lp : ∀ (k : Nat) {i : Nat}, 1 ≤ i → i + k = n → rounds (fun vs => lo244_1.dv (Vi n :: fnP f caps :: vs)) [Vi i, Vl (mk (rowG g) i)] = some (.y (.ext 0) [Vl (mk (rowG g) n)]) := by
    intro k
    induction k with
    | zero =>
      intro i hi1 hi
      have : i = n := by omega
      subst this
      refine rounds_exit ?_ (by simp)
      simp [lo244_1, TT.dv]
    | succ k ih =>
      intro i hi1 hi
      refine Eq.trans (rounds_cont ?_) (ih (i := i + 1) (by omega) (by omega))
      have e1 : (B.add .i64).den (Vi i) (Vi 1) = Vi (i + 1) := add_i (by omega) (by omega)
      have h1 := h i hi1 (by omega)
      have a1 := app_V (mk (rowG g) i) (g i)
      have hg : rowG g i = g i := by unfold rowG; rw [if_neg (by omega)]
      have a2 := mk_succ (rowG g) i
      rw [hg] at a2
      rw [a2] at a1
      have e2 : (i : Int) + 1 ≤ 17592186044416 := by omega
      simp [lo244_1, TT.dv, show i < n by omega, e1, fnP, h1, a1, e2]
  refine val_of tab244 ?_
  have h0 := lp (n - 1) (i := 1) (Nat.le_refl _) (by omega)
  rw [show ((1 : Nat) : Int) = 1 from rfl, mk_one] at h0
  have d1 := drop_V (mk (rowG g) n) 0
  rw [show ((0 : Nat) : Int) = 0 from rfl, List.drop_zero] at d1
  have t1 := take_V (mk (rowG g) n) n
  rw [show (mk (rowG g) n).take n = mk (rowG g) n from List.take_of_length_le (by simp)] at t1
  simp [tr244, TT.dv, KS.dv, cons_V, h0, d1, t1]
/-! ### the mirror -/
def shG (x : List Nat) (k : Int) (i : Nat) : Nat := scaleV (el x i) k
def shV (x : List Nat) (k : Int) : List Nat := mk (shG x k) x.length
theorem shV_words {x : List Nat} (hx : Words x) (k : Int) : Words (shV x k) := mk_words fun i _ => scaleV_lt (hx.el i) k
@[simp] theorem shV_len (x : List Nat) (k : Int) : (shV x k).length = x.length := mk_len _ _
theorem shifted_ok {x : List Nat} (k : Int) (hl : x.length ≤ 1000) : val 245 [Vl x, Vi k] = some [Vl (shV x k)] := by
  have lp : ∀ (n : Nat) {i : Nat}, i + n = x.length → rounds (fun vs => lo245_1.dv (Vl x :: Vi k :: vs)) [Vi i, Vl (mk (shG x k) i)] = some (.y (.ext 0) [Vl (shV x k)]) := by
    intro n
    induction n with
    | zero =>
      intro i hi
      have : i = x.length := by omega
      subst this
      refine rounds_exit ?_ (by simp)
      simp [lo245_1, TT.dv, shV]
    | succ n ih =>
      intro i hi
      refine Eq.trans (rounds_cont ?_) (ih (i := i + 1) (by omega))
      have e1 : (B.add .i64).den (Vi i) (Vi 1) = Vi (i + 1) := add_i (by omega) (by omega)
      have g1 := get_V (x := x) (i := i) (by omega)
      have s1 := vshift_ok (el x i) k
      have a1 := app_V (mk (shG x k) i) (shG x k i)
      rw [mk_succ] at a1
      unfold shG at a1 ⊢
      have e2 : (i : Int) + 1 ≤ 17592186044416 := by omega
      simp [lo245_1, TT.dv, show i < x.length by omega, e1, g1, s1, a1, e2]
  refine val_of tab245 ?_
  have h0 := lp x.length (i := 0) (by omega)
  rw [show ((0 : Nat) : Int) = 0 from rfl, show mk (shG x k) 0 = [] from rfl] at h0
  simp [tr245, TT.dv, KS.dv, h0]
def hK (x : List Nat) : Int := expB (bigV x)
def hY (x : List Nat) : List Nat := shV x (-hK x)
def hMu (x : List Nat) : Nat := if fNeg (el x ((leadI x x.length 0).getD 0)) then normV (hY x) else fMinus (normV (hY x))
def hBeta (x : List Nat) : Nat := scaleV (hMu x) (hK x)
def hD (x : List Nat) : Nat := subV (el (hY x) 0) (hMu x)
def hVG (x : List Nat) (i : Nat) : Nat := divV (el (hY x) i) (hD x)
def hTau (x : List Nat) : Nat := divV (subV (hMu x) (el (hY x) 0)) (hMu x)
/-- The mirror's vector, tau, beta; whether there is one. -/
def mkOk (x : List Nat) : Bool := nouV x || decide (fPow (hBeta x) ≠ 2047)
def mkV (x : List Nat) : List Nat := if nouV x then mk (rowG fun _ => 0) x.length else mk (rowG (hVG x)) x.length
def mkTau (x : List Nat) : Nat := if nouV x then 0 else hTau x
def mkBeta (x : List Nat) : Nat := if nouV x then el x 0 else hBeta x
section
variable {x : List Nat} (hx : Words x) (h1 : 1 ≤ x.length) (h64 : x.length ≤ 64)
include hx h1 h64
theorem hY_words : Words (hY x) := shV_words hx _
theorem hMu_lt : hMu x < 18446744073709551616 := by
  unfold hMu
  have h := normV_lt (hY x) (hY_words hx h1 h64)
  split
  · exact h
  · exact (minus_neg h).2.2.2
theorem hBeta_lt : hBeta x < 18446744073709551616 := scaleV_lt (hMu_lt hx h1 h64) _
theorem hD_lt : hD x < 18446744073709551616 := subV_lt ((hY_words hx h1 h64).el 0) (hMu_lt hx h1 h64)
theorem mkV_words : Words (mkV x) := by
  unfold mkV
  split
  · exact mk_words fun i _ => by unfold rowG; split; decide; simp
  · exact mk_words fun i _ => by unfold rowG; split; decide; exact divV_lt
theorem mkV_len : (mkV x).length = x.length := by unfold mkV; split <;> simp
theorem mkTau_lt : mkTau x < 18446744073709551616 := by unfold mkTau; split; decide; exact divV_lt
theorem mkBeta_lt : mkBeta x < 18446744073709551616 := by unfold mkBeta; split; exact hx.el 0; exact hBeta_lt hx h1 h64
theorem make_ok (hf : finV x = true) : val 239 [Vl x] = some (if mkOk x then [Vl (mkV x), Vu (mkTau x), Vu (mkBeta x), Vi 0] else [Vl [], Vu 0, Vu 0, Vi 2]) := by
  refine val_of tab239 ?_
  have f1 := finite_v_ok hx (by omega)
  rw [hf] at f1
  have n1 := noughts_ok (x := x) h1 (by omega)
  rw [List.drop_one] at n1
  have l0 : ¬ x.length = 0 := by omega
  have l64 : ¬ (64 : Int) < x.length := by omega
  have l1 : (1 : Int) ≤ x.length := by omega
  have l2 : 0 < x.length := by omega
  have g0 := get_V (x := x) l2
  rw [show ((0 : Nat) : Int) = 0 from rfl] at g0
  unfold mkOk mkV mkTau mkBeta
  cases hn : nouV x
  · rw [hn] at n1
    have b1 := biggest_ok hx (by omega)
    have e1 := exp_ok (b := bigV x)
    have hk := expB_bd (bigV x)
    rw [show expB (bigV x) = hK x from rfl] at e1 hk
    have ng : (U.neg .i64).den (Vi (hK x)) = Vi (-hK x) := neg_i (by omega) (by omega)
    have s1 := shifted_ok (x := x) (-hK x) (by omega)
    rw [show shV x (-hK x) = hY x from rfl] at s1
    have hyl : (hY x).length = x.length := shV_len _ _
    have hyw := hY_words hx h1 h64
    have nm := norm_v_ok hyw (by omega)
    rw [if_pos (by omega)] at nm
    obtain ⟨j, hj, hjl⟩ := lead_some h1 hn
    have ld := vlead_ok (x := x) (by omega) hj
    have sg := sign_ok (el x j)
    have mn := minus_ok (normV_lt (hY x) hyw)
    have hmu : hMu x = if fNeg (el x j) then normV (hY x) else fMinus (normV (hY x)) := by unfold hMu; rw [hj]; rfl
    have sh2 := vshift_ok (hMu x) (hK x)
    rw [show scaleV (hMu x) (hK x) = hBeta x from rfl] at sh2
    have fb := finite_ok (hBeta x)
    have gy := get_V (x := hY x) (i := 0) (by omega)
    rw [show ((0 : Nat) : Int) = 0 from rfl] at gy
    have ly : 0 < (hY x).length := by omega
    have sb := vsub_ok (hyw.el 0) (hMu_lt hx h1 h64)
    rw [show subV (el (hY x) 0) (hMu x) = hD x from rfl] at sb
    have rw1 := row_ok (f := 241) (n := (hY x).length) (caps := [.a [Vl (hY x)], .a [Vu (hD x)]]) (hVG x) (by omega) (by omega) fun i i1 i2 => by
      refine val_of tab241 ?_
      have g1 := get_V (x := hY x) i2
      have d1 := vdiv_ok (hyw.el i) (hD_lt hx h1 h64)
      simp [tr241, TT.dv, i2, g1, d1, hVG]
    have ec : B.cons.den (U.toA.den (B.cons.den (Vl (hY x)) (Vl []))) (B.cons.den (U.toA.den (B.cons.den (Vu (hD x)) (Vl []))) (Vl [])) = .l [.a [Vl (hY x)], .a [Vu (hD x)]] := rfl
    have sb2 := vsub_ok (hMu_lt hx h1 h64) (hyw.el 0)
    have dv2 := vdiv_ok (subV_lt (hMu_lt hx h1 h64) (hyw.el 0)) (hMu_lt hx h1 h64)
    rw [show divV (subV (hMu x) (el (hY x) 0)) (hMu x) = hTau x from rfl] at dv2
    rw [hyl] at rw1
    by_cases hb : fPow (hBeta x) = 2047
    · rw [decide_eq_false (by simp [hb])] 
      cases hs : fNeg (el x j)
      · rw [hs] at sg hmu
        rw [if_neg (by simp)] at hmu
        rw [← hmu] at mn
        simp [tr239, TT.dv, KS.dv, l0, l64, l1, f1, drop_V1, n1, b1, e1, ng, s1, nm, ld, sg, mn, sh2, fb, hb]
      · rw [hs] at sg hmu
        rw [if_pos rfl] at hmu
        rw [← hmu] at nm
        simp [tr239, TT.dv, KS.dv, l0, l64, l1, f1, drop_V1, n1, b1, e1, ng, s1, nm, ld, sg, sh2, fb, hb]
    · rw [decide_eq_true (show fPow (hBeta x) ≠ 2047 from hb)]
      cases hs : fNeg (el x j)
      · rw [hs] at sg hmu
        rw [if_neg (by simp)] at hmu
        rw [← hmu] at mn
        simp [tr239, TT.dv, KS.dv, l0, l64, l1, l2, ly, hyl, f1, drop_V1, n1, b1, e1, ng, s1, nm, ld, sg, mn, sh2, fb, hb, gy, sb, ec, mkfn_l, rw1, sb2, dv2]
      · rw [hs] at sg hmu
        rw [if_pos rfl] at hmu
        rw [← hmu] at nm
        simp [tr239, TT.dv, KS.dv, l0, l64, l1, l2, ly, hyl, f1, drop_V1, n1, b1, e1, ng, s1, nm, ld, sg, sh2, fb, hb, gy, sb, ec, mkfn_l, rw1, sb2, dv2]
  · rw [hn] at n1
    have rw1 := row_ok (f := 240) (n := x.length) (caps := []) (fun _ => 0) h1 (by omega) fun i _ _ => val_of tab240 (by simp [tr240, TT.dv])
    have ec : (U.mkfn 240).den (Vl []) = fnP 240 [] := rfl
    simp [tr239, TT.dv, l0, l64, l1, l2, f1, drop_V1, n1, ec, rw1, g0]
theorem make9_ok (hf : finV x = true) : val 192 [Vl x] = some (if mkOk x then [Vl (mkV x), Vu (mkTau x), Vu (mkBeta x), Vb true] else [Vl [], Vu 0, Vu 0, Vb false]) := by
  refine val_of tab192 ?_
  have n1 := noughts9_ok hx h1 (by omega)
  have l2 : 0 < x.length := by omega
  have g0 := get_V (x := x) l2
  rw [show ((0 : Nat) : Int) = 0 from rfl] at g0
  unfold mkOk mkV mkTau mkBeta
  cases hn : nouV x
  · rw [hn] at n1
    have hbl := bigV_lt x
    have b1 := biggest9_ok hx (by omega)
    have e1 := exp8_ok (b := bigV x) (by omega)
    have hk := expB_bd (bigV x)
    rw [show expB (bigV x) = hK x from rfl] at e1 hk
    have ng : (B.sub .i64).den (Vi 0) (Vi (hK x)) = Vi (-hK x) := by rw [sub_i (by omega) (by omega)]; exact congrArg Vi (by omega)
    have lp2 : ∀ (x1 x2 : PV) (n : Nat) {i : Nat}, i + n = x.length → rounds (fun vs => lo192_2.dv (Vl x :: x1 :: x2 :: Vi (hK x) :: vs)) [Vi i, Vl (mk (shG x (-hK x)) i)] = some (.y (.ext 2) [Vl (hY x)]) := by
      intro x1 x2 n
      induction n with
      | zero =>
        intro i hi
        have : i = x.length := by omega
        subst this
        refine rounds_exit ?_ (by simp)
        simp [lo192_2, TT.dv, hY, shV]
      | succ n ih =>
        intro i hi
        refine Eq.trans (rounds_cont ?_) (ih (i := i + 1) (by omega))
        have a0 : (B.add .i64).den (Vi i) (Vi 1) = Vi (i + 1) := add_i (by omega) (by omega)
        have g1 := get_V (x := x) (i := i) (by omega)
        have s1 := shift9_ok (hx.el i) (k := -hK x) (by omega) (by omega)
        have a1 := app_V (mk (shG x (-hK x)) i) (shG x (-hK x) i)
        rw [mk_succ] at a1
        unfold shG at a1 ⊢
        have e2 : (i : Int) + 1 ≤ 17592186044416 := by omega
        simp [lo192_2, TT.dv, show i < x.length by omega, ng, a0, g1, s1, a1, e2]
    have hyl : (hY x).length = x.length := shV_len _ _
    have hyw := hY_words hx h1 h64
    have nm := norm_9_ok hyw (by omega)
    obtain ⟨j, hj, hjl⟩ := lead_some h1 hn
    have ld := lead9_ok hx (by omega) hj
    have gj := get_V (x := x) hjl
    have sg := neg4_ok (hx.el j)
    have mn := minus4_ok (normV_lt (hY x) hyw)
    have hmu : hMu x = if fNeg (el x j) then normV (hY x) else fMinus (normV (hY x)) := by unfold hMu; rw [hj]; rfl
    have hml := hMu_lt hx h1 h64
    have sh2 := shift9_ok hml (k := hK x) (by omega) (by omega)
    rw [show scaleV (hMu x) (hK x) = hBeta x from rfl] at sh2
    have fb := finite4_ok (hBeta_lt hx h1 h64)
    have pb := fPow_lt (hBeta x)
    have gy := get_V (x := hY x) (i := 0) (by omega)
    rw [show ((0 : Nat) : Int) = 0 from rfl] at gy
    have ly : 0 < (hY x).length := by omega
    have sb := sub9_ok (hyw.el 0) hml
    rw [show subV (el (hY x) 0) (hMu x) = hD x from rfl] at sb
    have hdl := hD_lt hx h1 h64
    have sb2 := sub9_ok hml (hyw.el 0)
    have dv2 := div9_ok (subV_lt hml (hyw.el 0)) hml
    rw [show divV (subV (hMu x) (el (hY x) 0)) (hMu x) = hTau x from rfl] at dv2
    have lp3 : ∀ (x1 x2 x3 x5 x6 x7 x8 : PV) (n : Nat) {i : Nat}, 1 ≤ i → i + n = x.length → rounds (fun vs => lo192_3.dv (Vl x :: x1 :: x2 :: x3 :: Vl (hY x) :: x5 :: x6 :: x7 :: x8 :: Vu (hD x) :: vs)) [Vi i, Vl (mk (rowG (hVG x)) i)] = some (.y (.ext 4) [Vl (mk (rowG (hVG x)) x.length)]) := by
      intro x1 x2 x3 x5 x6 x7 x8 n
      induction n with
      | zero =>
        intro i hi1 hi
        have : i = x.length := by omega
        subst this
        refine rounds_exit ?_ (by simp)
        simp [lo192_3, TT.dv, hyl]
      | succ n ih =>
        intro i hi1 hi
        refine Eq.trans (rounds_cont ?_) (ih (i := i + 1) (by omega) (by omega))
        have a0 : (B.add .i64).den (Vi i) (Vi 1) = Vi (i + 1) := add_i (by omega) (by omega)
        have g1 := get_V (x := hY x) (i := i) (by omega)
        have d1 := div9_ok (hyw.el i) hdl
        have hg : rowG (hVG x) i = divV (el (hY x) i) (hD x) := by unfold rowG; rw [if_neg (by omega)]; rfl
        have a1 := app_V (mk (rowG (hVG x)) i) (divV (el (hY x) i) (hD x))
        have a2 := mk_succ (rowG (hVG x)) i
        rw [hg] at a2
        rw [a2] at a1
        have e2 : (i : Int) + 1 ≤ 17592186044416 := by omega
        simp [lo192_3, TT.dv, hyl, show i < x.length by omega, a0, g1, d1, a1, e2]
    have lq2 := fun x1 x2 => lp2 x1 x2 x.length (i := 0) (by omega)
    have lq3 := fun x1 x2 x3 x5 x6 x7 x8 => lp3 x1 x2 x3 x5 x6 x7 x8 (x.length - 1) (i := 1) (Nat.le_refl _) (by omega)
    simp only [show ((0 : Nat) : Int) = 0 from rfl, show mk (shG x (-hK x)) 0 = [] from rfl] at lq2
    simp only [show ((1 : Nat) : Int) = 1 from rfl, mk_one] at lq3
    by_cases hb : fPow (hBeta x) = 2047
    · rw [decide_eq_false (by simp [hb])] 
      cases hs : fNeg (el x j)
      · rw [hs] at sg hmu
        rw [if_neg (by simp)] at hmu
        rw [← hmu] at mn
        simp [tr192, TT.dv, KS.dv, n1, b1, e1, lq2, nm, ld, hjl, gj, sg, mn, sh2, fb, hb]
      · rw [hs] at sg hmu
        rw [if_pos rfl] at hmu
        rw [← hmu] at nm
        simp [tr192, TT.dv, KS.dv, n1, b1, e1, lq2, nm, ld, hjl, gj, sg, sh2, fb, hb]
    · rw [decide_eq_true (show fPow (hBeta x) ≠ 2047 from hb)]
      have hb' : fPow (hBeta x) < 2047 := by omega
      cases hs : fNeg (el x j)
      · rw [hs] at sg hmu
        rw [if_neg (by simp)] at hmu
        rw [← hmu] at mn
        simp [tr192, TT.dv, KS.dv, n1, b1, e1, lq2, nm, ld, hjl, gj, sg, mn, sh2, fb, hb', ly, gy, sb, cons_V, lq3, sb2, dv2]
      · rw [hs] at sg hmu
        rw [if_pos rfl] at hmu
        rw [← hmu] at nm
        simp [tr192, TT.dv, KS.dv, n1, b1, e1, lq2, nm, ld, hjl, gj, sg, sh2, fb, hb', ly, gy, sb, cons_V, lq3, sb2, dv2]
  · rw [hn] at n1
    have lp1 : ∀ (x1 : PV) (n : Nat) {i : Nat}, 1 ≤ i → i + n = x.length → rounds (fun vs => lo192_1.dv (Vl x :: x1 :: vs)) [Vi i, Vl (mk (rowG fun _ => 0) i)] = some (.y (.ext 0) [Vl (mk (rowG fun _ => 0) x.length)]) := by
      intro x1 n
      induction n with
      | zero =>
        intro i hi1 hi
        have : i = x.length := by omega
        subst this
        refine rounds_exit ?_ (by simp)
        simp [lo192_1, TT.dv]
      | succ n ih =>
        intro i hi1 hi
        refine Eq.trans (rounds_cont ?_) (ih (i := i + 1) (by omega) (by omega))
        have a0 : (B.add .i64).den (Vi i) (Vi 1) = Vi (i + 1) := add_i (by omega) (by omega)
        have hg : rowG (fun _ => 0) i = 0 := by unfold rowG; rw [if_neg (by omega)]
        have a1 := app_V (mk (rowG fun _ => 0) i) 0
        have a2 := mk_succ (rowG fun _ => 0) i
        rw [hg] at a2
        rw [a2] at a1
        have e2 : (i : Int) + 1 ≤ 17592186044416 := by omega
        simp [lo192_1, TT.dv, show i < x.length by omega, a0, a1, e2]
    have lq1 := fun x1 => lp1 x1 (x.length - 1) (i := 1) (Nat.le_refl _) (by omega)
    simp only [show ((1 : Nat) : Int) = 1 from rfl, mk_one] at lq1
    simp [tr192, TT.dv, KS.dv, n1, cons_V, lq1, l2, g0]
end
end Go.Proofs.YtogcdllpjcnbkaaGreat.Dx

/- Law HouseMakes. -/
namespace Go.Proofs.YtogcdllpjcnbkaaGreat.Dx
open Go

theorem make_len {x : List Nat} (h : x.length = 0 ∨ 64 < x.length) : val 239 [Vl x] = some [Vl [], Vu 0, Vu 0, Vi 3] := by
  refine val_of tab239 ?_
  rcases h with h | h
  · have h' : x = [] := List.eq_nil_of_length_eq_zero h
    subst h'
    simp [tr239, TT.dv]
  · simp [tr239, TT.dv, show (64 : Int) < x.length by omega]
theorem make_inf {x : List Nat} (hx : Words x) (h1 : 1 ≤ x.length) (h64 : x.length ≤ 64) (hf : finV x = false) : val 239 [Vl x] = some [Vl [], Vu 0, Vu 0, Vi 4] := by
  refine val_of tab239 ?_
  have f1 := finite_v_ok hx (by omega)
  rw [hf] at f1
  simp [tr239, TT.dv, show ¬ x.length = 0 by omega, show ¬ (64 : Int) < x.length by omega, f1]
theorem cpl48 : lo48_1 = cplT 5 0 := rfl
theorem law_HouseMakes {x : List Nat} (hx : Words x) (hl : x.length ≤ 17592186043904) : val 48 [Vl x] = some [Vb true] := by
  refine val_of tab48 ?_
  have lp := cpl_at (p := 5) (e := 0) hx hl
  rw [← cpl48] at lp
  have as : (Exp.bi .le (.un .len (.var 0)) (.int .i64 17592186044416)).isTrue [Vl x] = true := by
    simp; omega
  by_cases hlen : x.length = 0 ∨ 64 < x.length
  · have m1 := make_len hlen
    have sm := same_self (x := []) (by decide)
    refine Eq.trans (st_as as) ?_
    refine Eq.trans (st_call rfl m1 rfl) ?_
    refine Eq.trans (st_loop (lp _ rfl)) ?_
    refine Eq.trans st_hit ?_
    simp only [List.cons_append, List.nil_append, List.append_nil]
    rcases hlen with h | h
    · simp [TT.dv, KS.dv, h, sm, awake_13]
    · simp [TT.dv, KS.dv, show (64 : Int) < x.length by omega, sm, awake_13]
  · have h1 : 1 ≤ x.length := by omega
    have h64 : x.length ≤ 64 := by omega
    have f1 := finite_9_ok hx (by omega)
    have n0 : ¬ x.length = 0 := by omega
    have n64 : ¬ (64 : Int) < x.length := by omega
    cases hf : finV x
    · have m1 := make_inf hx h1 h64 hf
      rw [hf] at f1
      have sm := same_self (x := []) (by decide)
      refine Eq.trans (st_as as) ?_
      refine Eq.trans (st_call rfl m1 rfl) ?_
      refine Eq.trans (st_loop (lp _ rfl)) ?_
      refine Eq.trans st_hit ?_
      simp only [List.cons_append, List.nil_append, List.append_nil]
      simp [TT.dv, KS.dv, n0, n64, f1, sm, awake_13]
    · have m1 := make_ok hx h1 h64 hf
      have m9 := make9_ok hx h1 h64 hf
      rw [hf] at f1
      cases hok : mkOk x
      · rw [hok] at m1 m9
        simp only [Bool.false_eq_true, if_false] at m1 m9
        have sm := same_self (x := []) (by decide)
        refine Eq.trans (st_as as) ?_
        refine Eq.trans (st_call rfl m1 rfl) ?_
        refine Eq.trans (st_loop (lp _ rfl)) ?_
        refine Eq.trans st_hit ?_
        simp only [List.cons_append, List.nil_append, List.append_nil]
        simp [TT.dv, KS.dv, n0, n64, f1, m9, sm, awake_13]
      · rw [hok] at m1 m9
        simp only [if_true] at m1 m9
        have sm := same_self (x := mkV x) (by rw [mkV_len hx h1 h64]; omega)
        refine Eq.trans (st_as as) ?_
        refine Eq.trans (st_call rfl m1 rfl) ?_
        refine Eq.trans (st_loop (lp _ rfl)) ?_
        refine Eq.trans st_hit ?_
        simp only [List.cons_append, List.nil_append, List.append_nil]
        simp [TT.dv, KS.dv, n0, n64, f1, m9, sm, awake_13]
end Go.Proofs.YtogcdllpjcnbkaaGreat.Dx
