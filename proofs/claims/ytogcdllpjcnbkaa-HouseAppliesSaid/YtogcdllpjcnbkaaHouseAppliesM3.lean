/- The pure meaning of the functions that the law reaches, and that the law is true of it. No conditions. -/
import Derived.Test.YtogcdllpjcnbkaaHouseAppliesM2
set_option linter.all false
/- Mirrors applied; law HouseApplies. -/
namespace Go.Proofs.Ytogcdllpjcnbkaa.Dx
open Go

/-! ### stepping through a tree -/
theorem st_call {g : Exp} {f : Nat} {xs : List Exp} {n : Nat} {t : TT Unit} {ρ rs : List PV} (hg : g.isTrue ρ = true) (hv : val f (xs.map (Exp.den ρ)) = some rs) (hl : rs.length = n) : (TT.call g f xs n t).dv ρ = t.dv (ρ ++ rs) := by
  simp only [TT.dv, hg, hv, hl, if_true]
theorem st_skip {g : Exp} {f : Nat} {xs : List Exp} {n : Nat} {t : TT Unit} {ρ : List PV} (hg : g.isTrue ρ = false) : (TT.call g f xs n t).dv ρ = t.dv (ρ ++ List.replicate n default) := by
  simp only [TT.dv, hg, Bool.false_eq_true, if_false]
theorem st_t {c : Exp} {a b : TT Unit} {ρ : List PV} (hc : c.isTrue ρ = true) : (TT.ite c a b).dv ρ = a.dv ρ := by simp only [TT.dv, hc, if_true]
theorem st_f {c : Exp} {a b : TT Unit} {ρ : List PV} (hc : c.isTrue ρ = false) : (TT.ite c a b).dv ρ = b.dv ρ := by simp only [TT.dv, hc, Bool.false_eq_true, if_false]
theorem st_as {c : Exp} {a : TT Unit} {ρ : List PV} (hc : c.isTrue ρ = true) : (TT.assert c a).dv ρ = a.dv ρ := by simp only [TT.dv, hc, if_true]
theorem st_loop {init : List Exp} {t : TT Unit} {ks : KS Unit} {ρ vs : List PV} {x : Ex} (h : rounds (fun vs => t.dv (ρ ++ vs)) (init.map (Exp.den ρ)) = some (.y x vs)) : (TT.loop init t ks).dv ρ = ks.dv x vs ρ := by
  simp only [TT.dv, h]
theorem st_scope {t : TT Unit} {ks : KS Unit} {ρ vs : List PV} {x : Ex} (h : t.dv ρ = some (.y x vs)) : (TT.scope t ks).dv ρ = ks.dv x vs ρ := by
  simp only [TT.dv, h]
theorem st_hit {t : TT Unit} {ks : KS Unit} {ρ vs : List PV} {x : Ex} : (KS.cons x t ks).dv x vs ρ = t.dv (ρ ++ vs) := by
  simp only [KS.dv, if_true]
theorem st_miss {t : TT Unit} {ks : KS Unit} {ρ vs : List PV} {x y : Ex} (h : (x = y) = False) : (KS.cons x t ks).dv y vs ρ = ks.dv y vs ρ := by
  simp only [KS.dv, h, if_false]
/-- A loop that turns all bits of a row. -/
def cplT (p e : Nat) : TT Unit := .ite (.bi .lt (.var p) (.un .len (.var (p + 1)))) (.assert (.bi .le (.int .i64 0) (.var p)) (.assert (.bi .lt (.var p) (.un .len (.var (p + 1)))) (.assert (.bi .le (.int .i64 0) (.var p)) (.assert (.bi .lt (.var p) (.un .len (.var (p + 1)))) (.yield .cont [(.bi (.add .i64) (.var p) (.int .i64 1)), (.tri .set (.var (p + 1)) (.var p) (.un (.cpl .u64) (.bi .get (.var (p + 1)) (.var p))))]))))) (.yield (.ext e) [])
theorem cpl_any {e : Nat} {ρ : List PV} : ∀ (n : Nat) {i : Nat} {y : List Nat}, Words y → y.length < 9000000000000000000 → i + n = y.length →
    rounds (fun vs => (cplT ρ.length e).dv (ρ ++ vs)) [Vi i, Vl y] = some (.y (.ext e) []) := by
  intro n
  induction n with
  | zero =>
    intro i y hy hl hi
    refine rounds_exit ?_ (by simp)
    simp [cplT, TT.dv, show ¬ i < y.length by omega]
  | succ n ih =>
    intro i y hy hl hi
    have e1 : (B.add .i64).den (Vi i) (Vi 1) = Vi (i + 1) := add_i (by omega) (by omega)
    have g1 := get_V (x := y) (i := i) (by omega)
    obtain ⟨c1, c2⟩ := cpl_u (hy.el i)
    refine Eq.trans (rounds_cont ?_) (ih (i := i + 1) (hy.set (i := i) c2) (by simpa using hl) (by rw [List.length_set]; omega))
    simp [cplT, TT.dv, show i < y.length by omega, e1, g1, c1, set_V]
theorem cpl_at {e p : Nat} {x : List Nat} (hw : Words x) (hl : x.length ≤ 17592186043904) : ∀ ρ : List PV, ρ.length = p → rounds (fun vs => (cplT p e).dv (ρ ++ vs)) [Vi 0, Vl x] = some (.y (.ext e) []) := by
  intro ρ hp
  subst hp
  exact cpl_any x.length (i := 0) hw (by omega) (by omega)

/-! ### columns -/
def colG (x : List Nat) (c k from_ : Nat) (j : Nat) : Nat := el x (ps (from_ + j) c k)
/-- A column from a row on. -/
def colL (r c : Nat) (x : List Nat) (k from_ : Nat) : List Nat := mk (colG x c k from_) (r - from_)
theorem colL_words {r c : Nat} {x : List Nat} (h : Mx r c x) (k from_ : Nat) : Words (colL r c x k from_) := mk_words fun _ _ => h.w.el _
@[simp] theorem colL_len (r c : Nat) (x : List Nat) (k from_ : Nat) : (colL r c x k from_).length = r - from_ := mk_len _ _
theorem el_colL {r c : Nat} {x : List Nat} {k f j : Nat} (h : j < r - f) : el (colL r c x k f) j = el x (ps (f + j) c k) := by
  unfold colL; rw [show el (mk (colG x c k f) (r - f)) j = colG x c k f j from by
    unfold el mk; rw [List.getD_eq_getElem?_getD, List.getElem?_map, List.getElem?_range h]; rfl]; rfl
section
variable {r c : Nat} {x : List Nat} (h : Mx r c x) {k f : Nat} (hk : k < c) (hf : f ≤ r)
include h hk hf
theorem column_ok : val 247 [Vi r, Vi c, Vl x, Vi k, Vi f] = some [Vl (colL r c x k f)] := by
  have hr := h.hr
  have lp : ∀ (n : Nat) {j : Nat}, j + n = r - f →
      rounds (fun vs => lo247_1.dv (Vi r :: Vi c :: Vl x :: Vi k :: Vi f :: vs)) [Vi ((f + j : Nat) : Int), Vl (mk (colG x c k f) j)] = some (.y (.ext 0) [Vl (colL r c x k f)]) := by
    intro n
    induction n with
    | zero =>
      intro j hj
      have : j = r - f := by omega
      subst this
      refine rounds_exit ?_ (by simp)
      have e : ¬ (((f + (r - f) : Nat) : Int) < (r : Int)) := by omega
      generalize ((f + (r - f) : Nat) : Int) = z at *
      simp [lo247_1, TT.dv, e, colL]
    | succ n ih =>
      intro j hj
      refine Eq.trans (rounds_cont ?_) (ih (j := j + 1) (by omega))
      have e1 : (B.add .i64).den (Vi ((f + j : Nat) : Int)) (Vi 1) = Vi ((f + (j + 1) : Nat) : Int) := by rw [add_i (by omega) (by omega)]; exact congrArg Vi (by omega)
      have g1 := get_ok h (i := f + j) (k := k) (by omega) hk
      have a1 := app_V (mk (colG x c k f) j) (colG x c k f j)
      rw [mk_succ] at a1
      have e2 : ((f + j : Nat) : Int) < (r : Int) := by omega
      have e3 : ((j : Int) + 1) ≤ 17592186044416 := by omega
      unfold colG at a1 ⊢
      generalize ((f + j : Nat) : Int) = z at *
      generalize ((f + (j + 1) : Nat) : Int) = z' at *
      simp [lo247_1, TT.dv, e1, e2, g1, a1, e3]
  refine val_of tab247 ?_
  have h0 := lp (r - f) (j := 0) (by omega)
  rw [Nat.add_zero, show mk (colG x c k f) 0 = [] from rfl] at h0
  simp [tr247, TT.dv, KS.dv, h0]
theorem column9_ok : val 167 [Vi r, Vi c, Vl x, Vi k, Vi f] = some [Vl (colL r c x k f)] := by
  have hr := h.hr
  have lp : ∀ (n : Nat) {j : Nat}, j + n = r - f →
      rounds (fun vs => lo167_1.dv (Vi r :: Vi c :: Vl x :: Vi k :: Vi f :: vs)) [Vi ((f + j : Nat) : Int), Vl (mk (colG x c k f) j)] = some (.y (.ext 0) [Vl (colL r c x k f)]) := by
    intro n
    induction n with
    | zero =>
      intro j hj
      have : j = r - f := by omega
      subst this
      refine rounds_exit ?_ (by simp)
      have e : ¬ (((f + (r - f) : Nat) : Int) < (r : Int)) := by omega
      generalize ((f + (r - f) : Nat) : Int) = z at *
      simp [lo167_1, TT.dv, e, colL]
    | succ n ih =>
      intro j hj
      refine Eq.trans (rounds_cont ?_) (ih (j := j + 1) (by omega))
      have e1 : (B.add .i64).den (Vi ((f + j : Nat) : Int)) (Vi 1) = Vi ((f + (j + 1) : Nat) : Int) := by rw [add_i (by omega) (by omega)]; exact congrArg Vi (by omega)
      have g1 := at_ok h (i := f + j) (k := k) (by omega) hk
      have a1 := app_V (mk (colG x c k f) j) (colG x c k f j)
      rw [mk_succ] at a1
      have e2 : ((f + j : Nat) : Int) < (r : Int) := by omega
      have e3 : ((j : Int) + 1) ≤ 17592186044416 := by omega
      unfold colG at a1 ⊢
      generalize ((f + j : Nat) : Int) = z at *
      generalize ((f + (j + 1) : Nat) : Int) = z' at *
      simp [lo167_1, TT.dv, e1, e2, g1, a1, e3]
  refine val_of tab167 ?_
  have h0 := lp (r - f) (j := 0) (by omega)
  rw [Nat.add_zero, show mk (colG x c k f) 0 = [] from rfl] at h0
  simp [tr167, TT.dv, KS.dv, h0]
end
theorem take_V (x : List Nat) (n : Nat) : B.take.den (Vl x) (Vi n) = Vl (x.take n) := by
  rw [Vl, take_l _ rfl, Vl, List.map_take]
theorem el_take {x : List Nat} {n j : Nat} (h : j < n) : el (x.take n) j = el x j := by
  unfold el
  rw [List.getD_eq_getElem?_getD, List.getD_eq_getElem?_getD, List.getElem?_take, if_pos h]
theorem Words.take {x : List Nat} (h : Words x) (n : Nat) : Words (x.take n) := fun a ha => h a (List.mem_of_mem_take ha)
/-! ### mirrors applied -/
def apI (cl v : List Nat) (t i c cc : Nat) : Nat → Nat → List Nat → List Nat
  | 0, _, m => m
  | n + 1, j, m => apI cl v t i c cc n (j + 1) (m.set (ps (i + j) c cc) (subV (el cl j) (mulV t (el v j))))
def apT (r c : Nat) (x v : List Nat) (tau i cc : Nat) : Nat := mulV tau (dotV v ((colL r c x cc i).take v.length))
def apO (r c : Nat) (x v : List Nat) (tau i : Nat) : Nat → Nat → List Nat → List Nat
  | 0, _, m => m
  | n + 1, cc, m => apO r c x v tau i n (cc + 1) (apI (colL r c x cc i) v (apT r c x v tau i cc) i c cc v.length 0 m)
def apV (r c : Nat) (x : List Nat) (i k : Nat) (v : List Nat) (tau : Nat) : List Nat := apO r c x v tau i (c - k) k x
theorem apI_mx {r c : Nat} {cl v : List Nat} {t i cc : Nat} (hc : Words cl) : ∀ (n j : Nat) {m : List Nat}, Mx r c m → Mx r c (apI cl v t i c cc n j m)
  | 0, _, _, h => h
  | n + 1, j, m, h => apI_mx hc n (j + 1) (h.set (subV_lt (hc.el j) mulV_lt))
theorem apO_mx {r c : Nat} {x v : List Nat} {tau i : Nat} (hx : Mx r c x) : ∀ (n cc : Nat) {m : List Nat}, Mx r c m → Mx r c (apO r c x v tau i n cc m)
  | 0, _, _, h => h
  | n + 1, cc, m, h => apO_mx hx n (cc + 1) (apI_mx (colL_words hx cc i) _ _ h)
section
variable {r c : Nat} {x : List Nat} (h : Mx r c x) {v : List Nat} (hv : Words v) {tau : Nat} (ht : tau < 18446744073709551616) {i : Nat} (hi : i + v.length ≤ r)
include h hv ht hi
theorem ap_inner {cc : Nat} (hcc : cc < c) {x3 x4 x7 x9 x11 x12 : PV} {t : Nat} (htt : t < 18446744073709551616) : ∀ (n : Nat) {j : Nat} {m : List Nat}, j + n = v.length → Mx r c m →
    rounds (fun vs => lo238_2.dv (Vi r :: Vi c :: Vl x :: Vi i :: x4 :: Vl v :: Vu tau :: x7 :: Vi cc :: x9 :: Vl (colL r c x cc i) :: x11 :: x12 :: Vu t :: vs)) [Vi j, Vl m] = some (.y (.ext 2) [Vl (apI (colL r c x cc i) v t i c cc n j m)]) := by
  intro n
  have hr := h.hr
  have hc := h.hc
  have htl : ((colL r c x cc i).take v.length).length = v.length := by rw [List.length_take, colL_len]; omega
  induction n with
  | zero =>
    intro j m hj hm
    have : j = v.length := by omega
    subst this
    refine rounds_exit ?_ (by simp)
    simp [lo238_2, TT.dv, take_V, htl, apI]
  | succ n ih =>
    intro j m hj hm
    have hjl : j < v.length := by omega
    refine Eq.trans (rounds_cont ?_) (ih (j := j + 1) (by omega) (hm.set (subV_lt ((colL_words h cc i).el j) (mulV_lt (a := t) (b := el v j)))))
    have e1 : (B.add .i64).den (Vi j) (Vi 1) = Vi (j + 1) := add_i (by omega) (by omega)
    have e2 : (B.add .i64).den (Vi i) (Vi j) = Vi ((i + j : Nat) : Int) := by rw [add_i (by omega) (by omega)]; exact congrArg Vi (by omega)
    have p1 := pos_i (i := i + j) (c := c) (k := cc) (by omega) (by omega) (by omega)
    have l1 := hm.lt (show i + j < r by omega) hcc
    have g1 := get_V (x := v) hjl
    have g2 := get_V (x := (colL r c x cc i).take v.length) (i := j) (by rw [htl]; exact hjl)
    rw [el_take hjl] at g2
    have m1 := vmul_ok htt (hv.el j)
    have s1 := vsub_ok ((colL_words h cc i).el j) (mulV_lt (a := t) (b := el v j))
    generalize ((i + j : Nat) : Int) = z at *
    simp [lo238_2, TT.dv, take_V, htl, hjl, e1, e2, p1, l1, g1, g2, m1, s1, set_V]
theorem ap_outer {k : Nat} {x7 : PV} : ∀ (n : Nat) {cc : Nat} {m : List Nat}, cc + n = c → Mx r c m →
    rounds (fun vs => lo238_1.dv (Vi r :: Vi c :: Vl x :: Vi i :: Vi k :: Vl v :: Vu tau :: x7 :: vs)) [Vi cc, Vl m] = some (.y (.ext 0) [Vl (apO r c x v tau i n cc m)]) := by
  intro n
  have hr := h.hr
  have hc := h.hc
  induction n with
  | zero =>
    intro cc m hcc hm
    have : cc = c := by omega
    subst this
    refine rounds_exit ?_ (by simp)
    simp [lo238_1, TT.dv, apO]
  | succ n ih =>
    intro cc m hcc hm
    have hlt : cc < c := by omega
    have hcl := colL_words h cc i
    refine Eq.trans (rounds_cont ?_) (ih (cc := cc + 1) (by omega) (apI_mx (v := v) (t := apT r c x v tau i cc) (i := i) (cc := cc) hcl v.length 0 hm))
    have e1 : (B.add .i64).den (Vi cc) (Vi 1) = Vi (cc + 1) := add_i (by omega) (by omega)
    have c1 := column_ok h hlt (show i ≤ r by omega)
    have htl : ((colL r c x cc i).take v.length).length = v.length := by rw [List.length_take, colL_len]; omega
    have d1 := dot_ok hv (hcl.take v.length)
    rw [if_pos ⟨htl.symm, by omega⟩] at d1
    have m1 := vmul_ok ht (b := dotV v ((colL r c x cc i).take v.length)) (dotR_lt _ (by decide))
    have hin := fun x4 x7 x9 x11 x12 => ap_inner h hv ht hi hlt (x3 := x4) (x4 := x4) (x7 := x7) (x9 := x9) (x11 := x11) (x12 := x12) (t := apT r c x v tau i cc) mulV_lt v.length (j := 0) (by omega) hm
    simp only [show ((0 : Nat) : Int) = 0 from rfl] at hin
    rw [show mulV tau (dotV v ((colL r c x cc i).take v.length)) = apT r c x v tau i cc from rfl] at m1
    have hle : v.length ≤ r - i := by omega
    simp [lo238_1, TT.dv, KS.dv, hlt, e1, c1, take_V, d1, m1, hin, hle]
theorem ap9_inner {cc : Nat} (hcc : cc < c) {x4 x8 x9 x10 x12 : PV} {t : Nat} (htt : t < 18446744073709551616) : ∀ (n : Nat) {j : Nat} {m : List Nat}, j + n = v.length → Mx r c m →
    rounds (fun vs => lo190_2.dv (Vi r :: Vi c :: Vl x :: Vi i :: x4 :: Vl v :: Vu tau :: Vi cc :: x8 :: x9 :: x10 :: Vl (colL r c x cc i) :: x12 :: Vu t :: vs)) [Vi j, Vi r, Vi c, Vl m] = some (.y (.ext 2) [Vi r, Vi c, Vl (apI (colL r c x cc i) v t i c cc n j m)]) := by
  intro n
  have hr := h.hr
  have hc := h.hc
  induction n with
  | zero =>
    intro j m hj hm
    have : j = v.length := by omega
    subst this
    refine rounds_exit ?_ (by simp)
    simp [lo190_2, TT.dv, apI]
  | succ n ih =>
    intro j m hj hm
    have hjl : j < v.length := by omega
    refine Eq.trans (rounds_cont ?_) (ih (j := j + 1) (by omega) (hm.set (subV_lt ((colL_words h cc i).el j) (mulV_lt (a := t) (b := el v j)))))
    have e1 : (B.add .i64).den (Vi j) (Vi 1) = Vi (j + 1) := add_i (by omega) (by omega)
    have e2 : (B.add .i64).den (Vi i) (Vi j) = Vi ((i + j : Nat) : Int) := by rw [add_i (by omega) (by omega)]; exact congrArg Vi (by omega)
    have hl2 : j < r - i := by omega
    have g1 := get_V (x := v) hjl
    have g2 := get_V (x := colL r c x cc i) (i := j) (by rw [colL_len]; exact hl2)
    have m1 := mul9_ok htt (hv.el j)
    have s1 := sub9_ok ((colL_words h cc i).el j) (mulV_lt (a := t) (b := el v j))
    have w1 := with_ok hm (i := i + j) (k := cc) (b := subV (el (colL r c x cc i) j) (mulV t (el v j))) (by omega) hcc
    generalize ((i + j : Nat) : Int) = z at *
    simp [lo190_2, TT.dv, hjl, hl2, e1, e2, g1, g2, m1, s1, w1]
theorem ap9_outer {k : Nat} : ∀ (n : Nat) {cc : Nat} {m : List Nat}, cc + n = c → Mx r c m →
    rounds (fun vs => lo190_1.dv (Vi r :: Vi c :: Vl x :: Vi i :: Vi k :: Vl v :: Vu tau :: vs)) [Vi cc, Vi r, Vi c, Vl m] = some (.y (.ext 0) [Vi r, Vi c, Vl (apO r c x v tau i n cc m)]) := by
  intro n
  have hr := h.hr
  have hc := h.hc
  induction n with
  | zero =>
    intro cc m hcc hm
    have : cc = c := by omega
    subst this
    refine rounds_exit ?_ (by simp)
    simp [lo190_1, TT.dv, apO]
  | succ n ih =>
    intro cc m hcc hm
    have hlt : cc < c := by omega
    have hcl := colL_words h cc i
    refine Eq.trans (rounds_cont ?_) (ih (cc := cc + 1) (by omega) (apI_mx (v := v) (t := apT r c x v tau i cc) (i := i) (cc := cc) hcl v.length 0 hm))
    have e1 : (B.add .i64).den (Vi cc) (Vi 1) = Vi (cc + 1) := add_i (by omega) (by omega)
    have c1 := column9_ok h hlt (show i ≤ r by omega)
    have htl : ((colL r c x cc i).take v.length).length = v.length := by rw [List.length_take, colL_len]; omega
    have hlp := dot9_loop hv (hcl.take v.length) htl.symm (by omega) v.length (i := 0) (s := 0) (by omega) (by decide)
    rw [show ((0 : Nat) : Int) = 0 from rfl] at hlp
    have d1 : val 153 [Vl v, Vl ((colL r c x cc i).take v.length)] = some [Vu (dotV v ((colL r c x cc i).take v.length))] := by
      refine val_of tab153 ?_
      simp [tr153, TT.dv, KS.dv, hlp, dotV]
    have m1 := mul9_ok ht (b := dotV v ((colL r c x cc i).take v.length)) (dotR_lt _ (by decide))
    have hin := fun x4 x8 x9 x10 x12 => ap9_inner h hv ht hi hlt (x4 := x4) (x8 := x8) (x9 := x9) (x10 := x10) (x12 := x12) (t := apT r c x v tau i cc) mulV_lt v.length (j := 0) (by omega) hm
    simp only [show ((0 : Nat) : Int) = 0 from rfl] at hin
    rw [show mulV tau (dotV v ((colL r c x cc i).take v.length)) = apT r c x v tau i cc from rfl] at m1
    have hle : v.length ≤ r - i := by omega
    simp [lo190_1, TT.dv, KS.dv, hlt, e1, c1, take_V, d1, m1, hin, hle]
theorem apply_ok {k : Nat} (hk : k ≤ c) : val 238 [Vi r, Vi c, Vl x, Vi i, Vi k, Vl v, Vu tau] = some [Vi r, Vi c, Vl (apV r c x i k v tau), Vi 0] := by
  refine val_of tab238 ?_
  have hr := h.hr
  have hc := h.hc
  have h1 := check_ok r c x
  rw [if_pos (mx_right h)] at h1
  have hs := h.small
  have hlp := ap_outer h hv ht hi (k := k) (x7 := Vi 0) (c - k) (cc := k) (m := x) (by omega) h
  have e1 : (B.sub .i64).den (Vi r) (Vi v.length) = Vi ((r : Int) - v.length) := sub_i (by omega) (by omega)
  simp [tr238, TT.dv, KS.dv, h1, e1, show ¬ (i : Int) < 0 by omega, show ¬ r < v.length by omega, show ¬ ((r : Int) - v.length < i) by omega, show ¬ (k : Int) < 0 by omega, show ¬ c < k by omega, show (x.length : Int) ≤ 17592186044416 by omega, hlp, apV]
theorem apply9_ok {k : Nat} (hk : k ≤ c) : val 190 [Vi r, Vi c, Vl x, Vi i, Vi k, Vl v, Vu tau] = some [Vi r, Vi c, Vl (apV r c x i k v tau)] := by
  refine val_of tab190 ?_
  have hlp := ap9_outer h hv ht hi (k := k) (c - k) (cc := k) (m := x) (by omega) h
  simp [tr190, TT.dv, KS.dv, hlp, apV]
theorem apV_mx {k : Nat} : Mx r c (apV r c x i k v tau) := apO_mx h _ _ h
end
end Go.Proofs.Ytogcdllpjcnbkaa.Dx

/- Law HouseApplies. -/
namespace Go.Proofs.Ytogcdllpjcnbkaa.Dx
open Go

theorem in13_ok {R C I K n : Int} {x : List Nat} (hR : 0 ≤ R ∧ R ≤ 6) (hn : 0 ≤ n ∧ n ≤ 17592186043904) : val 191 [Vi R, Vi C, Vl x, Vi I, Vi K, Vi n] = some [Vb (decide (0 ≤ I ∧ n ≤ R ∧ I ≤ R - n ∧ 0 ≤ K ∧ K ≤ C))] := by
  refine val_of tab191 ?_
  have e1 : (B.sub .i64).den (Vi R) (Vi n) = Vi (R - n) := sub_i (by omega) (by omega)
  simp [tr191, TT.dv, e1]
  simp only [← Bool.decide_and, and_assoc]
theorem apply_no {R C I K : Int} {x v : List Nat} {p : PV} (hw : ¬ rightP R C x) : val 238 [Vi R, Vi C, Vl x, Vi I, Vi K, Vl v, p] = some [Vi 0, Vi 0, Vl [], Vi 1] := by
  refine val_of tab238 ?_
  have h1 := check_ok R C x
  rw [if_neg hw] at h1
  simp [tr238, TT.dv, h1]
theorem apply_out {r c : Nat} {I K : Int} {x v : List Nat} {p : PV} (h : Mx r c x) (hl : v.length ≤ 17592186043904) (hn : ¬ (0 ≤ I ∧ (v.length : Int) ≤ r ∧ I ≤ r - v.length ∧ 0 ≤ K ∧ K ≤ c)) : val 238 [Vi r, Vi c, Vl x, Vi I, Vi K, Vl v, p] = some [Vi 0, Vi 0, Vl [], Vi 3] := by
  refine val_of tab238 ?_
  have hr := h.hr
  have h1 := check_ok r c x
  rw [if_pos (mx_right h)] at h1
  have e1 : (B.sub .i64).den (Vi r) (Vi v.length) = Vi ((r : Int) - v.length) := sub_i (by omega) (by omega)
  simp [tr238, TT.dv, h1, e1]
  intro a1 a2 a3 a4 a5
  exact absurd ⟨a1, by omega, a3, a4, a5⟩ hn
theorem awake_13 : val 51 [] = some [Vb true] := val_iff.2 ⟨400, by kernel_rfl⟩
theorem cpl46 : lo46_1 = cplT 14 0 := rfl
theorem law_HouseApplies {R C : Int} (_ : -9223372036854775808 ≤ R) (_ : R < 9223372036854775808) (_ : -9223372036854775808 ≤ C) (_ : C < 9223372036854775808) {x : List Nat} (hw : Words x) (hl : x.length ≤ 17592186043904)
    {I : Int} (_ : -9223372036854775808 ≤ I) (_ : I < 9223372036854775808) {K : Int} (_ : -9223372036854775808 ≤ K) (_ : K < 9223372036854775808) {tau : Nat} (ht : tau < 18446744073709551616) {v : List Nat} (hv : Words v) (lv : v.length ≤ 17592186043904) :
    val 46 [Vi R, Vi C, Vl x, Vi I, Vi K, Vu tau, Vl v] = some [Vb true] := by
  refine val_of tab46 ?_
  have cp := copy_ok R C (x := x) (by omega)
  have lp := cpl_at (p := 14) (e := 0) hw hl
  rw [← cpl46] at lp
  have ri := right_ok10 R C x
  by_cases hr : rightP R C x
  · have hRC := hr
    obtain ⟨m, n, rfl, rfl, h⟩ := right_mx hr hw
    rw [decide_eq_true hr] at ri
    have hm := h.hr
    have hin := in13_ok (R := m) (C := n) (I := I) (K := K) (n := v.length) (x := x) (by omega) (by omega)
    by_cases c : 0 ≤ I ∧ (v.length : Int) ≤ m ∧ I ≤ m - v.length ∧ 0 ≤ K ∧ K ≤ n
    · rw [decide_eq_true c] at hin
      obtain ⟨i, rfl⟩ : ∃ i : Nat, I = i := ⟨I.toNat, by omega⟩
      obtain ⟨k, rfl⟩ : ∃ k : Nat, K = k := ⟨K.toNat, by omega⟩
      have a1 := apply_ok h hv ht (i := i) (by omega) (k := k) (by omega)
      have a2 := apply9_ok h hv ht (i := i) (by omega) (k := k) (by omega)
      have hmx := apV_mx h hv ht (i := i) (by omega) (k := k)
      have sm := same_m m n (x := apV m n x i k v tau) (by have := hmx.small; omega)
      generalize apV m n x i k v tau = y at *
      refine Eq.trans (st_call rfl cp rfl) ?_
      refine Eq.trans (st_call rfl a1 rfl) ?_
      refine Eq.trans (st_loop (lp _ rfl)) ?_
      refine Eq.trans st_hit ?_
      simp only [List.cons_append, List.nil_append, List.append_nil]
      simp [TT.dv, KS.dv, ri, hin, a2, sm, awake_13]
    · rw [decide_eq_false c] at hin
      have a1 := apply_out (p := Vu tau) h lv c
      have sm := same_m 0 0 (x := []) (by decide)
      refine Eq.trans (st_call rfl cp rfl) ?_
      refine Eq.trans (st_call rfl a1 rfl) ?_
      refine Eq.trans (st_loop (lp _ rfl)) ?_
      refine Eq.trans st_hit ?_
      simp only [List.cons_append, List.nil_append, List.append_nil]
      simp [TT.dv, KS.dv, ri, hin, sm, awake_13]
  · rw [decide_eq_false hr] at ri
    have a1 := apply_no (I := I) (K := K) (v := v) (p := Vu tau) hr
    have sm := same_m 0 0 (x := []) (by decide)
    refine Eq.trans (st_call rfl cp rfl) ?_
    refine Eq.trans (st_call rfl a1 rfl) ?_
    refine Eq.trans (st_loop (lp _ rfl)) ?_
    refine Eq.trans st_hit ?_
    simp only [List.cons_append, List.nil_append, List.append_nil]
    simp [TT.dv, KS.dv, ri, sm, awake_13]
end Go.Proofs.Ytogcdllpjcnbkaa.Dx
