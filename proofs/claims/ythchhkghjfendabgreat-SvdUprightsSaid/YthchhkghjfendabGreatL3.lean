/- A compiler from the code of functions to trees of pure statements, and the proof that it is right. No conditions. -/
import Derived.Scope
import Derived.RowKit3
import Derived.OpenShut
import Derived.WideKeyArgs
import Derived.ChangeOld
import Derived.Handed
import Derived.SizedLaws
import Derived.Test.YthchhkghjfendabGreatL2
set_option linter.all false
/- Regions of operations, fourth part: a region whose order is drawn. -/
namespace Go.Proofs.YthchhkghjfendabGreat.Dx
open Go

section
variable {C : Ctx} {F : Nat → List PV → Option (List PV)} {N : Nat} {ρ ρf : List PV} {hdr hdr' : Hdr} {S S' Wr : Nat → Prop} {σ σ' σ1 σ2 : Sym} {a : Act} {w w' : World} {cur : Gd} {ns nv i : Nat} {r : Res} {o : Oper} {ops : Array Oper} {K : Act → World → Prop} {Q : Exit → Act → World → Prop}

def effD (d : Done) : List Eff := effsOf d.cur d.r
theorem drawGo_spec : ∀ {l : List (Oper × Nat)} {ns nv : Nat} {acc ds : List Done} {nv' : Nat}, drawGo C ops σ l ns nv acc = some (ds, nv') →
    ∃ ds2, ds = acc ++ ds2 ∧ ds2.length = l.length ∧ nv' = nv + effsK (ds2.flatMap effD) ∧ effsClosed (ds2.flatMap effD) nv ∧
      ∀ (k : Nat) (o : Oper) (b : Nat), l[k]? = some (o, b) → ∃ d nvk, ds2[k]? = some d ∧ d.o = o ∧ ns ≤ d.ns ∧ nvk = nv + effsK ((ds2.take k).flatMap effD) ∧
        (opRes C ops d.ns nvk o).run (stateOf σ b 0 (acc ++ ds2.take k)).ev (stateOf σ b 0 (acc ++ ds2.take k)).ob = some ((d.cur, d.r), d.log) ∧ d.r.closed (nvk + d.r.k) = true ∧ gdClosed nvk d.cur = true ∧ nvk + d.r.k ≤ nv'
  | [], ns, nv, acc, ds, nv', h => by
    simp only [drawGo, Option.some.injEq, Prod.mk.injEq] at h
    obtain ⟨rfl, rfl⟩ := h
    exact ⟨[], by simp, rfl, by simp [effsK], trivial, fun k o b h => by simp at h⟩
  | (o, b) :: l, ns, nv, acc, ds, nv', h => by
    simp only [drawGo] at h
    split at h
    · rename_i cur res lg h1
      split at h
      · rename_i hc
        simp only [Bool.and_eq_true] at hc
        obtain ⟨ds2, rfl, i2, i3, i4, i5⟩ := drawGo_spec h
        have hk : effsK (((⟨o, cur, res, ns, lg⟩ : Done) :: ds2).flatMap effD) = res.k + effsK (ds2.flatMap effD) := by
          rw [List.flatMap_cons, effsK, List.map_append, List.sum_append]
          have := effsOf_k (cur := cur) (r := res)
          unfold effsK at this ⊢; rw [show effD ⟨o, cur, res, ns, lg⟩ = effsOf cur res from rfl, this]
        refine ⟨⟨o, cur, res, ns, lg⟩ :: ds2, by simp, by simp [i2], by rw [i3, hk, Nat.add_assoc], ?_, fun k o' b' hk' => ?_⟩
        · rw [List.flatMap_cons, effsClosed_append, show effD ⟨o, cur, res, ns, lg⟩ = effsOf cur res from rfl, effsOf_k]
          exact ⟨effsOf_closed hc.1.1, i4⟩
        · cases k with
          | zero =>
            simp at hk'
            obtain ⟨rfl, rfl⟩ := hk'
            exact ⟨_, nv, rfl, rfl, Nat.le_refl _, by simp [effsK], by simpa using h1, hc.1.2, hc.2, by rw [i3]; exact Nat.le_add_right _ _⟩
          | succ k =>
            obtain ⟨d, nvk, e1, e2, e3, e4, e5, e6, e7, e8⟩ := i5 k o' b' (by simpa using hk')
            refine ⟨d, nvk, by simpa using e1, e2, by omega, ?_, ?_, e6, e7, e8⟩
            · rw [e4, List.take_succ_cons]
              have hk2 : effsK (((⟨o, cur, res, ns, lg⟩ : Done) :: ds2.take k).flatMap effD) = res.k + effsK ((ds2.take k).flatMap effD) := by
                rw [List.flatMap_cons, effsK, List.map_append, List.sum_append]
                have := effsOf_k (cur := cur) (r := res)
                unfold effsK at this ⊢; rw [show effD ⟨o, cur, res, ns, lg⟩ = effsOf cur res from rfl, this]
              rw [hk2]; omega
            · rw [List.take_succ_cons]
              simpa using e5
      · cases h
    · cases h

theorem EffsR_get {g : Done → List Eff} : ∀ {ds : List Done} {k : Nat} {d : Done} {nv : Nat}, EffsR F ρ (ds.flatMap g) nv → ds[k]? = some d → EffsR F ρ (g d) (nv + effsK ((ds.take k).flatMap g))
  | [], k, d, nv, _, h => by simp at h
  | x :: ds, 0, d, nv, he, h => by
    simp at h; subst h
    rw [List.flatMap_cons, EffsR_append] at he
    simpa [effsK] using he.1
  | x :: ds, k + 1, d, nv, he, h => by
    rw [List.flatMap_cons, EffsR_append] at he
    have := EffsR_get (k := k) (d := d) he.2 (by simpa using h)
    rw [List.take_succ_cons, List.flatMap_cons, effsK, List.map_append, List.sum_append, ← Nat.add_assoc]
    exact this

theorem foldl_len {nv : Nat} : ∀ (ds : List Done) (σ : Sym), σ.objs.length ≤ (ds.foldl (fun s d => applyR s d.o d.cur d.r d.ns nv) σ).objs.length ∧
    (∀ d ∈ ds, d.r.news ≠ [] → d.ns + d.r.news.length ≤ (ds.foldl (fun s d => applyR s d.o d.cur d.r d.ns nv) σ).objs.length) ∧ ((ds.foldl (fun s d => applyR s d.o d.cur d.r d.ns nv) σ).nv = if ds.isEmpty then σ.nv else nv)
  | [], σ => ⟨Nat.le_refl _, fun d hd => by simp at hd, rfl⟩
  | d :: ds, σ => by
    obtain ⟨h1, h2, h3⟩ := foldl_len ds (applyR σ d.o d.cur d.r d.ns nv)
    have ha := applyR_length (σ := σ) (o := d.o) (cur := d.cur) (r := d.r) (ns := d.ns) (nv := nv)
    refine ⟨Nat.le_trans ha.1 h1, fun e he hne => ?_, ?_⟩
    · rcases List.mem_cons.1 he with rfl | he
      · exact Nat.le_trans (ha.2 hne) h1
      · exact h2 e he hne
    · simp only [List.foldl_cons, h3, List.isEmpty_cons, Bool.false_eq_true, if_false]
      cases ds <;> simp [applyR]
theorem foldl_stP {nv : Nat} : ∀ (ds : List Done) (j : Nat) {σ σ1 : Sym} {f : Nat → Bool}, (∀ k, k < ds.length → f (j + k) = true) → Eqv σ σ1 → Eqv (stP σ f j ds) (ds.foldl (fun s d => applyR s d.o d.cur d.r d.ns nv) σ1)
  | [], _, _, _, _, _, h => h
  | d :: ds, j, σ, σ1, f, hf, h => by
    simp only [stP, List.foldl_cons]
    rw [show f j = true from hf 0 (by simp), if_pos rfl]
    exact foldl_stP ds (j + 1) (fun k hk => by have := hf (k + 1) (by simp; omega); rwa [show j + (k + 1) = j + 1 + k by omega] at this) (h.app _ nv d)

structure DrawS (C : Ctx) (ops : Array Oper) (σ : Sym) (es : List Eff) (σ' : Sym) (ds : List Done) (bs : List Nat) : Prop where
  dl : ds.length = ops.size
  bl : bs.length = ops.size
  eq : es = ds.flatMap effD
  len : σ.objs.length ≤ σ'.objs.length
  nv : σ'.nv = σ.nv + effsK es
  ec : effsClosed es σ.nv
  fold : ∀ {f : Nat → Bool}, (∀ k, k < ds.length → f k = true) → Eqv (stP σ f 0 ds) σ'
  new : ∀ d ∈ ds, d.r.news ≠ [] → d.ns + d.r.news.length ≤ σ'.objs.length
  op : ∀ (i : Nat) (o : Oper), ops[i]? = some o → ∃ d nvk b, ds[i]? = some d ∧ bs[i]? = some b ∧ d.o = o ∧ σ.objs.length ≤ d.ns ∧ nvk = σ.nv + effsK ((ds.take i).flatMap effD) ∧
    (opRes C ops d.ns nvk o).run (stateOf σ b 0 (ds.take i)).ev (stateOf σ b 0 (ds.take i)).ob = some ((d.cur, d.r), d.log) ∧ d.r.closed (nvk + d.r.k) = true ∧ gdClosed nvk d.cur = true ∧ nvk + d.r.k ≤ σ'.nv
  pair : ∀ (i j : Nat) (x y : Done) (b : Nat), i < j → ds[i]? = some x → ds[j]? = some y → bs[j]? = some b → x.ns + x.r.news.length ≤ y.ns ∧ (b.testBit i = true ∨ apartD x y = true)
  wf : ∀ (i : Nat) (o : Oper), ops[i]? = some o → ∀ e ∈ o.after, Region.binds .any e = true → e.on < i
  bef : ∀ (i : Nat) (o : Oper) (b : Nat), ops[i]? = some o → bs[i]? = some b → ∀ k, b.testBit k = true → ∃ e ∈ o.after, Region.binds .any e = true ∧ (k = e.on ∨ ∃ b', bs[e.on]? = some b' ∧ b'.testBit k = true)

theorem drawR_spec {es : List Eff} (h : drawR C ops σ = some (es, σ')) : ∃ ds bs, DrawS C ops σ es σ' ds bs := by
  unfold drawR at h
  dsimp only at h
  split at h
  · rename_i ds nv' h1
    split at h
    · rename_i hc
      simp only [Bool.and_eq_true] at hc
      simp only [Option.some.injEq, Prod.mk.injEq] at h
      obtain ⟨rfl, rfl⟩ := h
      obtain ⟨bs, b1, b2, b3⟩ := befs_eq ops.toList []
      rw [List.nil_append] at b1
      rw [b1] at h1 hc
      obtain ⟨ds2, e1, e2, e3, e4, e5⟩ := drawGo_spec h1
      rw [List.nil_append] at e1
      subst e1
      have hzl : (ops.toList.zip bs).length = ops.size := by simp [b2]
      have hfl := foldl_len (nv := nv') ds σ
      have hwf : ∀ (i : Nat) (o : Oper), ops[i]? = some o → ∀ e ∈ o.after, Region.binds .any e = true → e.on < i := fun i o ho e he hb => by
        have := hc.1
        unfold wfAfter at this
        rw [List.all_eq_true] at this
        have := this (o, i) (List.mem_zipIdx_iff_getElem?.2 (by simpa using ho))
        dsimp only at this
        rw [List.all_eq_true] at this
        have := this e (by simpa using he)
        simpa [hb] using this
      refine ⟨ds, bs, ⟨by rw [e2, hzl], by simp [b2], rfl, hfl.1, ?_, e4, fun {f} hf => foldl_stP ds 0 (by simpa using hf) Eqv.refl, hfl.2.1, fun i o ho => ?_, fun i j x y b hij hx hy hb => ?_, hwf, fun i o b ho hb k hk => ?_⟩⟩
      · rw [hfl.2.2]
        cases ds with
        | nil => simp [effsK]
        | cons d ds =>
          simp only [List.isEmpty_cons, Bool.false_eq_true, if_false]
          exact e3
      · have hlt : i < bs.length := by
          rw [b2]
          rcases Nat.lt_or_ge i ops.toList.length with h | h
          · exact h
          · have : ops.toList[i]? = some o := by simpa using ho
            simp [List.getElem?_eq_none h] at this
        have hz : (ops.toList.zip bs)[i]? = some (o, bs[i]) := by
          rw [List.getElem?_zip_eq_some]
          exact ⟨by simpa using ho, by simp [hlt]⟩
        obtain ⟨d, nvk, q1, q2, q3, q4, q5, q6, q7, q8⟩ := e5 i o _ hz
        refine ⟨d, nvk, bs[i], q1, by simp [hlt], q2, q3, q4, by simpa using q5, q6, q7, ?_⟩
        rw [hfl.2.2]
        cases hds : ds with
        | nil => rw [hds] at q1; simp at q1
        | cons => simpa using q8
      · have := hc.2
        unfold pairsOk at this
        dsimp only at this
        rw [List.all_eq_true] at this
        have hm : ∀ (i : Nat) (x : Done), ds[i]? = some x → ∃ b, bs[i]? = some b ∧ (x, b, i) ∈ ds.zip bs.zipIdx := fun i x hx => by
          have hlt : i < bs.length := by
            rw [b2, ← Array.length_toList] at *
            rcases Nat.lt_or_ge i ds.length with h | h
            · rw [e2, hzl] at h; simpa using h
            · simp [List.getElem?_eq_none h] at hx
          refine ⟨bs[i], by simp [hlt], ?_⟩
          rw [List.mem_iff_getElem?]
          refine ⟨i, ?_⟩
          rw [List.getElem?_zip_eq_some]
          refine ⟨hx, ?_⟩
          rw [List.getElem?_zipIdx]
          simp [hlt]
        obtain ⟨bx, _, m1⟩ := hm i x hx
        obtain ⟨by_, hby, m2⟩ := hm j y hy
        have := this _ m1
        rw [List.all_eq_true] at this
        have := this _ m2
        dsimp only at this
        rw [hb] at hby
        cases hby
        simp only [ge_iff_le, Bool.or_eq_true, decide_eq_true_eq, Bool.and_eq_true] at this
        rcases this with h | h
        · omega
        · exact h
      · have h0 := b3 i o (by simpa using ho)
        rw [hb, List.nil_append] at h0
        cases h0
        rcases fold_bits _ o.after.toList 0 k hk with h | ⟨e, he, hbn, hor⟩
        · simp at h
        · refine ⟨e, by simpa using he, hbn, hor.imp id fun hor => ?_⟩
          have hlt := hwf i o ho e (by simpa using he) hbn
          rw [List.getD_eq_getElem?_getD, List.getElem?_take] at hor
          rw [if_pos hlt] at hor
          cases hbe : bs[e.on]? with
          | none => rw [hbe] at hor; simp at hor
          | some b' => rw [hbe] at hor; exact ⟨b', rfl, by simpa using hor⟩
    · cases h
  · cases h

theorem exists_least {n : Nat} {p : Nat → Prop} (h : ∃ i, i < n ∧ p i) : ∃ i, i < n ∧ p i ∧ ∀ j, j < i → ¬ p j := by
  obtain ⟨i, h1, h2⟩ := h
  induction i using Nat.strongRecOn with
  | _ i ih =>
    by_cases hh : ∃ j, j < i ∧ p j
    · obtain ⟨j, h3, h4⟩ := hh
      exact ih j h3 (by omega) h4
    · exact ⟨i, h1, h2, fun j hj hp => hh ⟨j, hj, hp⟩⟩

theorem draw_ok (hC : COK C) (hF : FOK C F) {es : List Eff} {ds : List Done} {bs : List Nat} (D : DrawS C ops σ es σ' ds bs) {hdr0 : Hdr} {S0 : Nat → Prop} {a0 : Act} {w0 : World} (hnv : σ'.nv ≤ ρ.length) (he : EffsR F ρ es σ.nv)
    (hQ : ∀ a' w', RegPost C ρ hdr0 S0 Wr σ a0 w0 σ' a' w' → Q .normal a' w') : ∀ (fuel : Nat) (L : Array Bool) (hdr : Hdr) (S : Nat → Prop) (a : Act) (w : World), L.size = ops.size → L.toList.count false = fuel →
    (∀ (i b : Nat), bs[i]? = some b → L.getD i false = true → ∀ k, b.testBit k = true → L.getD k false = true) → St C ρ hdr S Wr (stP σ (fun k => L.getD k false) 0 ds) a w → Ev Wr σ.objs.length (σ'.objs.length - σ.objs.length) hdr0 S0 w0 hdr S w →
    a.defers = a0.defers → (∀ b, w.heap.size ≤ b → Wr b) → (∀ (i : Nat) (d : Done), ds[i]? = some d → L.getD i false = false → ∀ s, inNews d s = true → hdr s = none) → wpAny C.P .any ops Q fuel L a w := by
  have fin : ∀ (L : Array Bool) (hdr : Hdr) (S : Nat → Prop) (a : Act) (w : World), (∀ k, k < ops.size → L.getD k false = true) → St C ρ hdr S Wr (stP σ (fun k => L.getD k false) 0 ds) a w → Ev Wr σ.objs.length (σ'.objs.length - σ.objs.length) hdr0 S0 w0 hdr S w →
      a.defers = a0.defers → Q .normal a w := fun L hdr S a w hL st ev hd => by
    have hE := D.fold (f := fun k => L.getD k false) fun k hk => hL k (by rw [← D.dl]; exact hk)
    exact hQ a w ⟨hd, hdr, S, st.same_tm hE.tm.symm fun s => (hE.ob s).symm, D.len, ev⟩
  intro fuel
  induction fuel with
  | zero =>
    intro L hdr S a w hsz hcnt hcl st ev hd hW hfr
    have hall : ∀ k, k < ops.size → L.getD k false = true := fun k hk => by
      have : L[k]? = some (L[k]'(by omega)) := by simp [hsz, hk]
      cases hv : L[k]'(by omega) with
      | true => simp [Array.getD, hsz, hk, hv]
      | false =>
        have hm : false ∈ L.toList := by
          rw [List.mem_iff_getElem?]
          exact ⟨k, by rw [hv] at this; simpa using this⟩
        have := List.count_pos_iff.2 hm
        omega
    refine ⟨?_, fin L hdr S a w hall st ev hd⟩
    rw [List.eq_nil_iff_forall_not_mem]
    intro i hi
    rw [mem_ready] at hi
    obtain ⟨h1, o, h2, _⟩ := hi
    have hlt : i < ops.size := (Array.getElem?_eq_some_iff.1 h2).1
    have := hall i hlt
    simp [Array.getD, hsz, hlt] at h1 this
    rw [h1] at this; cases this
  | succ fuel ih =>
    intro L hdr S a w hsz hcnt hcl st ev hd hW hfr
    have hun : ∃ i, i < ops.size ∧ L.getD i false = false := by
      have : false ∈ L.toList := List.count_pos_iff.1 (by omega)
      obtain ⟨i, hi⟩ := List.mem_iff_getElem?.1 this
      have hi' : L[i]? = some false := by simpa using hi
      have hlt : i < L.size := by
        rcases Nat.lt_or_ge i L.size with h | h
        · exact h
        · simp [Array.getElem?_eq_none h] at hi'
      exact ⟨i, by omega, by simp [Array.getD_eq_getD_getElem?, hi']⟩
    refine ⟨fun hr => ?_, fun i hi => ?_⟩
    · exfalso
      obtain ⟨i, h1, h2, h3⟩ := exists_least hun
      have : i ∈ Region.ready .any ops L := by
        rw [mem_ready]
        refine ⟨?_, ops[i], by simp [h1], fun e he hb => ?_⟩
        · have : i < L.size := by omega
          simp [Array.getD, this] at h2 ⊢; exact h2
        · have hlt := D.wf i ops[i] (by simp [h1]) e he hb
          have := h3 e.on hlt
          simpa using this
      rw [hr] at this; simp at this
    · rw [mem_ready] at hi
      obtain ⟨h1, o, h2, h3⟩ := hi
      have hlt : i < ops.size := (Array.getElem?_eq_some_iff.1 h2).1
      have hLi : L.getD i false = false := by
        have : i < L.size := by omega
        simp [Array.getD, this] at h1 ⊢; exact h1
      obtain ⟨d, nvk, b, q1, q2, q3, q4, q5, q6, q7, q8, q9⟩ := D.op i o h2
      have hbL : ∀ k, b.testBit k = true → L.getD k false = true := fun k hk => by
        obtain ⟨e, e1, e2, e3⟩ := D.bef i o b h2 q2 k hk
        have hl := h3 e e1 e2
        rcases e3 with rfl | ⟨b', e4, e5⟩
        · exact hl
        · exact hcl e.on b' e4 hl k e5
      -- what the operation looks at is as it was when it was compiled
      have hrun : (opRes C ops d.ns nvk o).run (stP σ (fun k => L.getD k false) 0 ds).ev (stP σ (fun k => L.getD k false) 0 ds).ob = some ((d.cur, d.r), d.log) := by
        have hsplit : stateOf σ b 0 (ds.take i) = stP σ (fun k => decide (k < i) && b.testBit k) 0 ds := by
          have hli : (ds.take i).length = i := by rw [List.length_take, D.dl]; omega
          have hnone : ∀ (l : List Done) (j : Nat) (τ : Sym), i ≤ j → stP τ (fun k => decide (k < i) && b.testBit k) j l = τ := fun l => by
            induction l with
            | nil => intro j τ _; rfl
            | cons x l ihl =>
              intro j τ hj
              simp only [stP]
              have : (decide (j < i) && b.testBit j) = false := by
                rw [show decide (j < i) = false by simp; omega, Bool.false_and]
              rw [if_neg (show ¬ (decide (j < i) && b.testBit j) = true by rw [this]; simp)]
              exact ihl (j + 1) τ (by omega)
          rw [stateOf_stP]
          conv => rhs; rw [← List.take_append_drop i ds, stP_append, hli, Nat.zero_add, hnone _ i _ (Nat.le_refl _)]
          refine stP_congr _ 0 σ fun k hk => ?_
          rw [hli] at hk
          simp [hk]
        rw [hsplit] at q6
        have hag : Agree d.log.ts d.log.ss (stP σ (fun k => L.getD k false) 0 ds) (stP σ (fun k => decide (k < i) && b.testBit k) 0 ds) := by
          refine agree_stP ds 0 (fun k e hk => ?_) ⟨rfl, fun _ _ => rfl, fun _ _ => rfl⟩
          rw [Nat.zero_add]
          by_cases hLk : L.getD k false = true
          · by_cases hki : k < i
            · by_cases hbk : b.testBit k = true
              · left; simp [hLk, hki, hbk]
              · right
                refine ⟨by simp [hbk], ?_⟩
                obtain ⟨p1, p2⟩ := D.pair k i e d b hki hk q1 q2
                exact (apart_facts (p2.resolve_left hbk) p1).2.1
            · right
              refine ⟨by simp [hki], ?_⟩
              have hne : k ≠ i := by rintro rfl; rw [hLi] at hLk; cases hLk
              have hik : i < k := by omega
              have hlk : k < bs.length := by
                rw [D.bl, ← D.dl]
                rcases Nat.lt_or_ge k ds.length with h | h
                · exact h
                · simp [List.getElem?_eq_none h] at hk
              obtain ⟨p1, p2⟩ := D.pair i k d e bs[k] hik q1 hk (by simp [hlk])
              have hnb : ¬ (bs[k]).testBit i = true := fun hb => by
                have := hcl k bs[k] (by simp [hlk]) hLk i hb
                rw [hLi] at this; cases this
              exact (apart_facts (p2.resolve_left hnb) p1).2.2
          · left
            have : b.testBit k = false := by
              cases hb : b.testBit k with
              | false => rfl
              | true => exact absurd (hbL k hb) hLk
            have hf : L.getD k false = false := by simpa using hLk
            rw [hf, this]; simp
        exact RM.run_agree q6 hag.ev hag.ob
      have heff : EffsR F ρ (effsOf d.cur d.r) nvk := by
        have := he
        rw [D.eq] at this
        rw [q5]; exact EffsR_get this q1
      have hle : nvk + d.r.k ≤ ρ.length := Nat.le_trans q9 hnv
      refine wpOp_ok hC hF h2 (RM.val_of_run _ _ hrun) st heff (all_mono q8 fun _ h => closed_mono h (by omega)) ?_ hW (fun s hs1 hs2 => hfr i d q1 hLi s (inNews_iff.2 ⟨hs1, hs2⟩)) fun a' w' hp => ?_
      · have := q7
        simp only [Res.closed, Bool.and_eq_true] at this ⊢
        exact ⟨⟨SV.closed_mono this.1.1 hle, all_mono this.1.2 fun _ h => Obj.closed_mono h hle⟩, all_mono this.2 fun _ h => Obj.closed_mono h hle⟩
      · obtain ⟨p1, hdr', S', p2, p3⟩ := post_applyR (nv' := σ.nv) hp
        have hset : ∀ k, (L.setIfInBounds i true).getD k false = if k = i then true else L.getD k false := fun k => by
          by_cases e : k = i
          · subst e
            have : k < L.size := by omega
            simp [Array.getD, this]
          · rw [if_neg e, getD_set_ne false (Ne.symm e)]
        have hE := stP_add (σ := σ) (f := fun k => L.getD k false) (g := fun k => (L.setIfInBounds i true).getD k false) q1 hLi hset (fun k e hik hk hLk => by
          have hlk : k < bs.length := by
            rw [D.bl, ← D.dl]
            rcases Nat.lt_or_ge k ds.length with h | h
            · exact h
            · simp [List.getElem?_eq_none h] at hk
          obtain ⟨p1, p2⟩ := D.pair i k d e bs[k] hik q1 hk (by simp [hlk])
          have hnb : ¬ (bs[k]).testBit i = true := fun hb => by
            have := hcl k bs[k] (by simp [hlk]) hLk i hb
            rw [hLi] at this; cases this
          exact (apart_facts (p2.resolve_left hnb) p1).1) σ.nv
        have p2' : St C ρ hdr' S' Wr (app (stP σ (fun k => L.getD k false) 0 ds) σ.nv d) a' w' := by
          rw [app, q3]; exact p2
        refine ih (L.setIfInBounds i true) hdr' S' a' w' (by simp [hsz]) ?_ (fun j b' hb' hj k hk => ?_) (p2'.same_tm hE.tm hE.ob) (ev.trans (p3.into q4 fun hne => D.new d (List.mem_of_getElem? q1) hne)) (p1.trans hd) (fun b hb => hW b (Nat.le_trans p3.kp.1 hb)) fun j e hj hLj s hs => ?_
        · have hlt' : i < L.toList.length := by simp [hsz, hlt]
          have hv : L.toList[i]'hlt' = false := by
            have : i < L.size := by omega
            simp [Array.getD, this] at hLi; simpa using hLi
          rw [Array.toList_setIfInBounds, List.count_set hlt', hv, hcnt]
          simp
        · rw [hset] at hj ⊢
          split
          · rfl
          · by_cases e : j = i
            · subst e
              rw [q2] at hb'; cases hb'
              exact hbL k hk
            · rw [if_neg e] at hj
              exact hcl j b' hb' hj k hk
        · rw [hset] at hLj
          have hne : j ≠ i := by rintro rfl; simp at hLj
          rw [if_neg hne] at hLj
          refine p3.hn s (hfr j e hj hLj s hs) fun hr => ?_
          rw [inNews_iff] at hs
          have hlj : ∀ {j : Nat} {e : Done}, ds[j]? = some e → j < bs.length := fun {j e} hj => by
            rw [D.bl, ← D.dl]
            rcases Nat.lt_or_ge j ds.length with h | h
            · exact h
            · simp [List.getElem?_eq_none h] at hj
          rcases Nat.lt_or_gt_of_ne hne with h | h
          · have := (D.pair j i e d b h hj q1 q2).1; omega
          · have hl := hlj hj
            have := (D.pair i j d e bs[j] h q1 hj (by simp [hl])).1; omega
end
end Go.Proofs.YthchhkghjfendabGreat.Dx

/- Joins: a state that fits a join's head. -/
namespace Go.Proofs.YthchhkghjfendabGreat.Dx
open Go

section
variable {C : Ctx} {F : Nat → List PV → Option (List PV)} {N : Nat} {ρ ρ0 : List PV} {hdr hdr' : Hdr} {S S1 S' Wr : Nat → Prop} {σ σ1 h : Sym} {a : Act} {w w' : World} {m : MS} {pins : List Nat}

def hdrJ (m : MS) (h : Sym) (hdr : Hdr) : Hdr := fun s =>
  if s < h.objs.length then (match m.site s with | some (some b) => hdr b | some none => some (.slice none 0 0) | none => none) else none
def envJ (n0 : Nat) (m : MS) (ρ : List PV) : List PV := ρ.take n0 ++ m.args.map (Exp.den ρ)

structure JS (C : Ctx) (ρ : List PV) (hdr : Hdr) (S1 Wr : Nat → Prop) (σ σ1 : Sym) (a : Act) (w : World) (n0 : Nat) (m : MS) (h : Sym) : Prop where
  st : St C ρ hdr S1 Wr σ1 a w
  tm : σ1.tm = σ.tm
  fz : ∀ s ∈ m.frz, ∀ x t, σ.ob s = some (.row x t) → σ1.ob s = some (.rrow x t)
  nf : ∀ s, s ∉ m.frz → σ1.ob s = σ.ob s
  nr : ∀ s, (∀ x t, σ.ob s ≠ some (.row x t)) → σ1.ob s = σ.ob s
  n0 : n0 ≤ ρ.length
  sl : ∀ a s, m.site a = some s → a < h.objs.length

theorem envJ_lt {n0 i : Nat} (hn : n0 ≤ ρ.length) (hi : i < n0) : (envJ n0 m ρ).getD i default = ρ.getD i default := by
  unfold envJ
  rw [List.getD_eq_getElem?_getD, List.getD_eq_getElem?_getD, List.getElem?_append_left (by simp; omega), List.getElem?_take, if_pos hi]
theorem envJ_ge {n0 i : Nat} {b : Exp} (hn : n0 ≤ ρ.length) (hi : n0 ≤ i) (hb : m.args[i - n0]? = some b) : (envJ n0 m ρ).getD i default = b.den ρ := by
  unfold envJ
  have : (ρ.take n0).length = n0 := by simp; omega
  rw [List.getD_eq_getElem?_getD, List.getElem?_append_right (by omega), this]
  simp [hb]
theorem chkE_ok {n0 : Nat} {x y : Exp} (hn : n0 ≤ ρ.length) (hc : chkE n0 m x y = true) : x.den (envJ n0 m ρ) = y.den ρ := by
  have gen : ∀ {x : Exp}, (x == y && x.closed n0) = true → x.den (envJ n0 m ρ) = y.den ρ := fun {x} hc => by
    simp only [Bool.and_eq_true, beq_iff_eq] at hc
    obtain ⟨rfl, hcl⟩ := hc
    have hl : (ρ.take n0).length = n0 := by simp; omega
    have e1 : x.den (envJ n0 m ρ) = x.den (ρ.take n0) := den_ext (by rw [hl]; exact hcl)
    have e2 : x.den ρ = x.den (ρ.take n0) := by
      conv => lhs; rw [← List.take_append_drop n0 ρ]
      exact den_ext (by rw [hl]; exact hcl)
    rw [e1, e2]
  unfold chkE at hc
  split at hc
  · rename_i i
    split at hc
    · rename_i hi
      simp only [beq_iff_eq] at hc
      subst hc
      exact envJ_lt hn hi
    · rename_i hi
      simp only [beq_iff_eq] at hc
      exact envJ_ge hn (by omega) hc
  · exact gen hc

theorem JS.hd1 {n0 : Nat} (J : JS C ρ hdr S1 Wr σ σ1 a w n0 m h) {x : Nat} {b : Nat} (hs : m.site x = some (some b)) : hdrJ m h hdr x = hdr b := by
  simp [hdrJ, J.sl _ _ hs, hs]
theorem JS.hd0 {n0 : Nat} (J : JS C ρ hdr S1 Wr σ σ1 a w n0 m h) {x : Nat} (hs : m.site x = some none) : hdrJ m h hdr x = some (.slice none 0 0) := by
  simp [hdrJ, J.sl _ _ hs, hs]
theorem JS.frozen {n0 : Nat} (J : JS C ρ hdr S1 Wr σ σ1 a w n0 m h) {s : Nat} (hs : s ∈ m.frz ∨ ∃ x t, σ.ob s = some (.rrow x t)) : Frozen σ σ1 [s] := by
  intro s' hs' y t hy
  simp only [List.mem_singleton] at hs'
  subst hs'
  rcases hy with hy | hy
  · rcases hs with hs | ⟨x, t', hs⟩
    · exact J.fz _ hs _ _ hy
    · rw [hs] at hy; cases hy
  · rw [J.nr s' (fun x t' h => by rw [hy] at h; cases h)]; exact hy

theorem chkC_ok {n0 : Nat} (J : JS C ρ hdr S1 Wr σ σ1 a w n0 m h) {x y : SC} {v : Value} (hc : chkC n0 m σ x y = true) (hv : SCRel C ρ hdr S1 w y v) : SCRel C (envJ n0 m ρ) (hdrJ m h hdr) S1 w x v := by
  unfold chkC at hc
  split at hc
  · exact hv.one
  · simp only [Bool.and_eq_true, beq_iff_eq] at hc
    obtain ⟨rfl, hc⟩ := hc
    exact ⟨hv.1, by rw [chkE_ok J.n0 hc]; exact hv.2⟩
  · cases hv
    have : (Exp.nil).den ρ = .l [] := rfl
    show RepC C S1 w _ _ _
    rw [chkE_ok J.n0 hc, this]; exact .nil
  · simp only [Bool.and_eq_true, beq_iff_eq] at hc
    obtain ⟨rfl, hc⟩ := hc
    show RepC C S1 w _ _ _
    rw [chkE_ok J.n0 hc]; exact hv
  · rename_i x' t s
    show RepC C S1 w _ _ _
    split at hc
    · rename_i x t' ho
      simp only [Bool.and_eq_true, beq_iff_eq] at hc
      obtain ⟨⟨rfl, hc⟩, hf⟩ := hc
      rw [chkE_ok J.n0 hc]
      exact listE_rep (σ := σ) J.st (c := .own s) (t' := some t) (by simp [listE, ho]) hv (J.frozen (.inl (by simpa using hf))) (by simp [fits])
    · rename_i x t' ho
      simp only [Bool.and_eq_true, beq_iff_eq] at hc
      obtain ⟨rfl, hc⟩ := hc
      rw [chkE_ok J.n0 hc]
      exact listE_rep (σ := σ) J.st (c := .own s) (t' := some t) (by simp [listE, ho]) hv (J.frozen (.inr ⟨_, _, ho⟩)) (by simp [fits])
    · cases hc
  · rename_i x' t s z off len
    show RepC C S1 w _ _ _
    split at hc
    · rename_i x t' ho
      simp only [Bool.and_eq_true, beq_iff_eq] at hc
      obtain ⟨⟨⟨rfl, hz⟩, hc⟩, hf⟩ := hc
      rw [chkE_ok J.n0 hc]
      exact listE_rep (σ := σ) J.st (c := .sub s z off len) (t' := some t) (by simp [listE, ho, hz]) hv (J.frozen (.inl (by simpa using hf))) (by simp [fits])
    · rename_i x t' ho
      simp only [Bool.and_eq_true, beq_iff_eq] at hc
      obtain ⟨⟨rfl, hz⟩, hc⟩ := hc
      rw [chkE_ok J.n0 hc]
      exact listE_rep (σ := σ) J.st (c := .sub s z off len) (t' := some t) (by simp [listE, ho, hz]) hv (J.frozen (.inr ⟨_, _, ho⟩)) (by simp [fits])
    · cases hc
  · exact hv
  · simp only [beq_iff_eq] at hc
    exact ⟨by rw [J.hd1 hc]; exact hv.1, hv.2⟩
  · simp only [beq_iff_eq] at hc
    cases hv
    exact ⟨J.hd0 hc, rfl⟩
  · simp only [Bool.and_eq_true, beq_iff_eq] at hc
    obtain ⟨rfl, hc⟩ := hc
    obtain ⟨b, h1, h2⟩ := hv
    exact ⟨b, by rw [J.hd1 hc]; exact h1, h2⟩
  · simp only [Bool.and_eq_true, beq_iff_eq] at hc
    obtain ⟨⟨⟨rfl, hs⟩, ho⟩, hl⟩ := hc
    obtain ⟨l, h1, h2, h3⟩ := hv
    refine ⟨l, by rw [chkE_ok J.n0 hl]; exact h1, by rw [chkE_ok J.n0 ho]; exact h2, ?_⟩
    rw [chkE_ok J.n0 ho, J.hd1 hs]; exact h3
  · simp only [Bool.and_eq_true, beq_iff_eq] at hc
    obtain ⟨⟨rfl, rfl⟩, hc⟩ := hc
    show RepC C S1 w _ _ _
    rw [chkE_ok J.n0 hc]; exact hv
  · cases hc
theorem chkCs_ok {n0 : Nat} (J : JS C ρ hdr S1 Wr σ σ1 a w n0 m h) : ∀ {xs ys : List SC} {vs : List Value}, chkCs n0 m σ xs ys = true → All2 (SCRel C ρ hdr S1 w) ys vs → All2 (SCRel C (envJ n0 m ρ) (hdrJ m h hdr) S1 w) xs vs
  | [], [], vs, _, hv => by cases vs <;> simp_all [All2]
  | x :: xs, y :: ys, vs, hc, hv => by
    simp only [chkCs, Bool.and_eq_true] at hc
    cases vs with
    | nil => exact hv.elim
    | cons v vs => exact ⟨chkC_ok J hc.1 hv.1, chkCs_ok J hc.2 hv.2⟩
  | [], _ :: _, _, hc, _ => by simp [chkCs] at hc
  | _ :: _, [], _, hc, _ => by simp [chkCs] at hc
theorem chkV_ok {n0 : Nat} (J : JS C ρ hdr S1 Wr σ σ1 a w n0 m h) {x y : SV} {v : Value} (hc : chkV n0 m σ x y = true) (hv : SVRel C ρ hdr S1 w y v) : SVRel C (envJ n0 m ρ) (hdrJ m h hdr) S1 w x v := by
  unfold chkV at hc
  split at hc
  · exact chkC_ok J hc hv
  · obtain ⟨arr, h1, h2⟩ := hv; exact ⟨arr, h1, chkCs_ok J hc h2⟩
  · simp only [Bool.and_eq_true, beq_iff_eq] at hc
    obtain ⟨rfl, hc⟩ := hc
    obtain ⟨arr, h1, h2⟩ := hv; exact ⟨arr, h1, chkCs_ok J hc h2⟩
  · cases hc
theorem chkT_ok {n0 : Nat} : ∀ {xs ys : List (Option Slot)}, chkT n0 m σ xs ys = true → xs.length = ys.length ∧ ∀ (t : Nat) (s : Slot), xs[t]? = some (some s) → ∃ s', ys[t]? = some (some s') ∧ s.g = [] ∧ s'.g = [] ∧ chkV n0 m σ s.v s'.v = true
  | [], [], _ => ⟨rfl, fun t s h => by simp at h⟩
  | none :: xs, y :: ys, hc => by
    simp only [chkT] at hc
    obtain ⟨i1, i2⟩ := chkT_ok hc
    refine ⟨by simp [i1], fun t s ht => ?_⟩
    cases t with
    | zero => simp at ht
    | succ t => simpa using i2 t s (by simpa using ht)
  | some x :: xs, some y :: ys, hc => by
    simp only [chkT, Bool.and_eq_true, List.isEmpty_iff] at hc
    obtain ⟨i1, i2⟩ := chkT_ok hc.2
    refine ⟨by simp [i1], fun t s ht => ?_⟩
    cases t with
    | zero => simp at ht; subst ht; exact ⟨y, rfl, hc.1.1.1, hc.1.1.2, hc.1.2⟩
    | succ t => simpa using i2 t s (by simpa using ht)
  | [], _ :: _, hc => by simp [chkT] at hc
  | none :: _, [], hc => by simp [chkT] at hc
  | some _ :: _, [], hc => by simp [chkT] at hc
  | some _ :: _, none :: _, hc => by simp [chkT] at hc

/-- What an object of the head says. -/
theorem chkO_ok {n0 : Nat} (J : JS C ρ hdr S1 Wr σ σ1 a w n0 m h) {i : Nat} {o : Obj} {s : Option Nat} (hs : m.site i = some s) (hc : chkO n0 m σ o s = true) :
    ObjR C (envJ n0 m ρ) (hdrJ m h hdr) S1 Wr w i o ∧ (o.live = true → (s = none ∧ blk (hdrJ m h hdr) i = none) ∨ ∃ b o', s = some b ∧ σ1.ob b = some o' ∧ o'.live = true ∧ blk (hdrJ m h hdr) i = blk hdr b) := by
  unfold chkO at hc
  split at hc
  · exact ⟨trivial, fun h => by simp [Obj.live] at h⟩
  · rename_i x t
    split at hc
    · refine ⟨⟨_, J.hd0 hs, .inl ⟨rfl, ?_⟩⟩, fun _ => (.inl ⟨rfl, by rw [blk_eq (J.hd0 hs)]; rfl⟩)⟩
      rw [chkE_ok J.n0 hc]; rfl
    · rename_i b
      split at hc
      · rename_i y t' ho
        simp only [Bool.and_eq_true, beq_iff_eq, Bool.not_eq_true'] at hc
        obtain ⟨⟨rfl, hc⟩, hf⟩ := hc
        have hf' : b ∉ m.frz := by simpa using hf
        have ho1 : σ1.ob b = some (.row y t) := by rw [J.nf b hf']; exact ho
        obtain ⟨hd, k1, k2⟩ := J.st.ob _ _ ho1
        refine ⟨⟨hd, by rw [J.hd1 hs]; exact k1, by rw [chkE_ok J.n0 hc]; exact k2⟩, fun _ => .inr ⟨b, _, rfl, ho1, rfl, by unfold blk; rw [J.hd1 hs]⟩⟩
      · cases hc
  · rename_i x t
    split at hc
    · cases hc
    · rename_i b
      refine ⟨?_, fun h => by simp [Obj.live] at h⟩
      have fin : ∀ y, σ1.ob b = some (.rrow y t) → chkE n0 m x y = true → ObjR C (envJ n0 m ρ) (hdrJ m h hdr) S1 Wr w i (.rrow x t) := fun y ho1 hc => by
        obtain ⟨hd, k1, k2, k3⟩ := J.st.ob _ _ ho1
        exact ⟨hd, by rw [J.hd1 hs]; exact k1, by rw [chkE_ok J.n0 hc]; exact k2, k3⟩
      split at hc
      · rename_i y t' ho
        simp only [Bool.and_eq_true, beq_iff_eq] at hc
        obtain ⟨⟨rfl, hc⟩, hf⟩ := hc
        exact fin y (J.fz b (by simpa using hf) _ _ ho) hc
      · rename_i y t' ho
        simp only [Bool.and_eq_true, beq_iff_eq] at hc
        obtain ⟨rfl, hc⟩ := hc
        exact fin y (by rw [J.nr b fun x t h => by rw [ho] at h; cases h]; exact ho) hc
      · cases hc
  · rename_i as
    split at hc
    · cases hc
    · rename_i b
      split at hc
      · rename_i bs ho
        simp only [Bool.and_eq_true, Bool.not_eq_true'] at hc
        obtain ⟨hc, hf⟩ := hc
        have ho1 : σ1.ob b = some (.box bs) := by rw [J.nr b fun x t h => by rw [ho] at h; cases h]; exact ho
        obtain ⟨b', arr, e, k1, k2, k3, k4⟩ := J.st.ob _ _ ho1
        exact ⟨⟨b', arr, e, by rw [J.hd1 hs]; exact k1, k2, chkCs_ok J hc k3, k4⟩, fun _ => .inr ⟨b, _, rfl, ho1, rfl, by unfold blk; rw [J.hd1 hs]⟩⟩
      · cases hc
  · rename_i as
    split at hc
    · cases hc
    · rename_i b
      split at hc
      · rename_i bs ho
        have ho1 : σ1.ob b = some (.rbox bs) := by rw [J.nr b fun x t h => by rw [ho] at h; cases h]; exact ho
        obtain ⟨b', arr, e, fz, k1, k2, k3, k4⟩ := J.st.ob _ _ ho1
        exact ⟨⟨b', arr, e, fz, by rw [J.hd1 hs]; exact k1, k2, chkCs_ok J hc k3, k4⟩, fun h => by simp [Obj.live] at h⟩
      · cases hc
theorem chkOs_ok {n0 : Nat} : ∀ {l : List (Option Obj)} {i : Nat}, chkOs n0 m σ i l = true → ∀ (k : Nat) (o : Obj), l[k]? = some (some o) → ∃ s, m.site (i + k) = some s ∧ chkO n0 m σ o s = true
  | [], i, _, k, o, h => by simp at h
  | none :: l, i, hc, k, o, h => by
    simp only [chkOs] at hc
    cases k with
    | zero => simp at h
    | succ k =>
      have := chkOs_ok hc k o (by simpa using h)
      rwa [show i + 1 + k = i + (k + 1) by omega] at this
  | some x :: l, i, hc, k, o, h => by
    simp only [chkOs, Bool.and_eq_true] at hc
    cases k with
    | zero =>
      simp at h; subst h
      have := hc.1
      split at this
      · rename_i s hs; exact ⟨s, hs, this⟩
      · cases this
    | succ k =>
      have := chkOs_ok hc.2 k o (by simpa using h)
      rwa [show i + 1 + k = i + (k + 1) by omega] at this

theorem site_mem {i : Nat} {s : Option Nat} (hs : m.site i = some s) : (i, s) ∈ m.sites := by
  unfold MS.site at hs
  simp only [Option.map_eq_some_iff] at hs
  obtain ⟨⟨i', s'⟩, h1, rfl⟩ := hs
  have := List.find?_some h1
  simp only [beq_iff_eq] at this
  subst this
  exact List.mem_of_find?_eq_some h1
theorem site_inj {i j b : Nat} (hn : nodupB (m.sites.filterMap (·.2)) = true) (hi : m.site i = some (some b)) (hj : m.site j = some (some b)) : i = j := by
  have h1 := site_mem hi
  have h2 := site_mem hj
  have hnd := nodupB_ok hn
  generalize m.sites = l at *
  induction l with
  | nil => simp at h1
  | cons p l ih =>
    obtain ⟨x, y⟩ := p
    have hmem : ∀ k, (k, some b) ∈ l → b ∈ l.filterMap (·.2) := fun k hk => List.mem_filterMap.2 ⟨(k, some b), hk, rfl⟩
    cases y with
    | none =>
      simp only [List.filterMap_cons_none] at hnd
      simp only [List.mem_cons, Prod.mk.injEq, reduceCtorEq, and_false, false_or] at h1 h2
      exact ih (by simpa [nodupB] using hn) h1 h2 hnd
    | some y =>
      have hn' : nodupB (y :: l.filterMap (·.2)) = true := hn
      have hnd' : (y :: l.filterMap (·.2)).Nodup := hnd
      rw [List.nodup_cons] at hnd'
      simp only [nodupB, Bool.and_eq_true] at hn'
      simp only [List.mem_cons, Prod.mk.injEq, Option.some.injEq] at h1 h2
      rcases h1 with ⟨rfl, rfl⟩ | h1
      · rcases h2 with ⟨rfl, _⟩ | h2
        · rfl
        · exact absurd (hmem _ h2) hnd'.1
      · rcases h2 with ⟨rfl, rfl⟩ | h2
        · exact absurd (hmem _ h1) hnd'.1
        · exact ih hn'.2 h1 h2 hnd'.2

/-- What stays between two places of a function's code. -/
structure Ew (Wr : Nat → Prop) (pins : List Nat) (hdr : Hdr) (S : Nat → Prop) (w : World) (hdr' : Hdr) (S' : Nat → Prop) (w' : World) : Prop where
  kp : Keep Wr w w'
  pn : ∀ i ∈ pins, ∀ v, hdr i = some v → hdr' i = some v
  ss : ∀ b, S b → S' b
  sw : ∀ b, S' b → S b ∨ Wr b
  sk : ∀ b, S b → w'.heap[b]? = w.heap[b]?
/-- A state that the code may go on from. -/
structure Good (C : Ctx) (ρ : List PV) (hdr : Hdr) (S Wr : Nat → Prop) (σ : Sym) (a : Act) (w : World) : Prop where
  st : St C ρ hdr S Wr σ a w
  nv : ρ.length = σ.nv
  fr : ∀ s, σ.objs.length ≤ s → hdr s = none
  hW : ∀ b, w.heap.size ≤ b → Wr b
theorem Ew.refl : Ew Wr pins hdr S w hdr S w := ⟨Keep.refl _ _, fun _ _ _ h => h, fun _ h => h, fun _ h => .inl h, fun _ _ => rfl⟩
theorem Ew.trans {hdr'' : Hdr} {S'' : Nat → Prop} {w'' : World} (h : Ew Wr pins hdr S w hdr' S' w') (h' : Ew Wr pins hdr' S' w' hdr'' S'' w'') : Ew Wr pins hdr S w hdr'' S'' w'' where
  kp := h.kp.trans h'.kp
  pn i hi v hv := h'.pn i hi v (h.pn i hi v hv)
  ss b hb := h'.ss b (h.ss b hb)
  sw b hb := by
    rcases h'.sw b hb with hb | hb
    · exact h.sw b hb
    · exact .inr hb
  sk b hb := by rw [h'.sk b (h.ss b hb), h.sk b hb]
theorem Ev.toEw {ns k : Nat} (h : Ev Wr ns k hdr S w hdr' S' w') : Ew Wr pins hdr S w hdr' S' w' := ⟨h.kp, fun i _ v hv => h.hh i v hv, h.ss, h.sw, h.sk⟩

theorem match_ok {args : List Exp} {ext : List PV} (hm : matchS ρ0.length pins σ h = some args) (g : Good C (ρ0 ++ ext) hdr S Wr σ a w) :
    ∃ hdr' S', Good C (ρ0 ++ args.map (Exp.den (ρ0 ++ ext))) hdr' S' Wr h a w ∧ Ew Wr pins hdr S w hdr' S' w := by
  unfold matchS at hm
  dsimp only at hm
  split at hm
  · rename_i hc
    generalize matchM ρ0.length pins σ h = m at *
    simp only [Option.some.injEq] at hm
    subst hm
    simp only [Bool.and_eq_true, decide_eq_true_eq] at hc
    obtain ⟨⟨⟨hchk, hcl⟩, hargs⟩, hn0⟩ := hc
    unfold chkS at hchk
    simp only [Bool.and_eq_true, beq_iff_eq, List.all_eq_true, decide_eq_true_eq] at hchk
    obtain ⟨⟨⟨⟨⟨⟨c1, c2⟩, c3⟩, c4⟩, c5⟩, c6⟩, c7⟩ := hchk
    let us : List (Nat × Obj) := m.frz.filterMap fun s => match σ.ob s with | some (.row x t) => some (s, .rrow x t) | _ => none
    have hus : ∀ u ∈ us, ∃ x t, u.2 = .rrow x t ∧ σ.ob u.1 = some (.row x t) ∧ u.1 ∈ m.frz := fun u hu => by
      obtain ⟨s, h1, h2⟩ := List.mem_filterMap.1 hu
      split at h2
      · rename_i x t ho
        cases h2; exact ⟨x, t, rfl, ho, h1⟩
      · cases h2
    obtain ⟨S1, st1, ev1⟩ := g.st.freezes (us := us) (ns := 0) (k := 0) fun u hu => by
      obtain ⟨x, t, k1, k2, _⟩ := hus u hu; exact ⟨x, t, k1, .inl k2⟩
    have J : JS C (ρ0 ++ ext) hdr S1 Wr σ (setObs σ us) a w ρ0.length m h := by
      refine ⟨st1, rfl, fun s hs x t ho => ?_, fun s hs => ?_, fun s hs => ?_, by simp, fun i s hs => c7 _ (site_mem hs)⟩
      · refine setObs_ob_some us σ s _ (fun u hu e => ?_) (.inl ⟨(s, .rrow x t), List.mem_filterMap.2 ⟨s, hs, by simp [ho]⟩, rfl⟩)
        obtain ⟨x', t', k1, k2, _⟩ := hus u hu
        rw [e, ho] at k2; cases k2; exact k1
      · refine setObs_ob_none us σ s fun u hu e => ?_
        obtain ⟨_, _, _, _, k⟩ := hus u hu
        rw [e] at k; exact hs k
      · refine setObs_ob_none us σ s fun u hu e => ?_
        obtain ⟨x, t, _, k, _⟩ := hus u hu
        rw [e] at k; exact hs x t k
    have henv : envJ ρ0.length m (ρ0 ++ ext) = ρ0 ++ m.args.map (Exp.den (ρ0 ++ ext)) := by simp [envJ]
    obtain ⟨t1, t2⟩ := chkT_ok c2
    have hob : ∀ (i : Nat) (o : Obj), h.ob i = some o → ∃ s, m.site i = some s ∧ chkO ρ0.length m σ o s = true := fun i o ho => by
      have : h.objs[i]? = some (some o) := by
        unfold Sym.ob at ho
        cases hx : h.objs[i]? with
        | none => simp [hx] at ho
        | some y => simp [hx] at ho; rw [ho]
      have := chkOs_ok c3 i o this
      rwa [Nat.zero_add] at this
    have hlen : (ρ0 ++ m.args.map (Exp.den (ρ0 ++ ext))).length = h.nv := by rw [c1]; simp
    rw [← henv] at hlen ⊢
    refine ⟨hdrJ m h hdr, S1, ⟨⟨?_, fun t sl ht => ?_, fun i o ho => ?_, fun i i' o o' h1 h2 h3 h4 hne b hb => ?_, st1.sb, by rw [hlen]; exact hcl, fun s v hv => ?_⟩, hlen, fun s hs => ?_, g.hW⟩, ⟨Keep.refl _ _, fun i hi v hv => ?_, ev1.ss, ev1.sw, fun _ _ => rfl⟩⟩
    · rw [t1]; exact g.st.len
    · have ht' : h.tm[t]? = some (some sl) := by
        unfold Sym.ev at ht
        cases hx : h.tm[t]? with
        | none => simp [hx] at ht
        | some y => simp [hx] at ht; rw [ht]
      obtain ⟨sl', k1, k2, k3, k4⟩ := t2 t sl ht'
      have := st1.sl t sl' (by simp [Sym.ev, setObs, k1])
      have hv := this.1 (by rw [k3]; intro p hp; simp at hp)
      exact ⟨fun _ => chkV_ok J k4 hv, fun hn => absurd (by rw [k2]; intro p hp; simp at hp) hn⟩
    · obtain ⟨s, k1, k2⟩ := hob i o ho
      exact (chkO_ok J k1 k2).1
    · obtain ⟨s, k1, k2⟩ := hob i o h1
      obtain ⟨s', k1', k2'⟩ := hob i' o' h2
      rcases (chkO_ok J k1 k2).2 h3 with ⟨_, e⟩ | ⟨b1, o1, rfl, j1, j2, j3⟩
      · rw [e] at hb; cases hb
      · rcases (chkO_ok J k1' k2').2 h4 with ⟨_, e⟩ | ⟨b2, o2, rfl, i1, i2, i3⟩
        · rw [e]; simp
        · rw [j3] at hb
          rw [i3]
          refine st1.dj b1 b2 o1 o2 j1 i1 j2 i2 ?_ b hb
          rintro rfl
          exact hne (site_inj c4 k1 k1')
    · unfold hdrJ at hv
      split at hv
      · split at hv
        · exact g.st.he _ _ hv
        · cases hv; rfl
        · cases hv
      · cases hv
    · unfold hdrJ; rw [if_neg (by omega)]
    · rw [J.hd1 (c6 i hi)]; exact hv
  · cases hm
end
end Go.Proofs.YthchhkghjfendabGreat.Dx

/- Code, first part: trees whose leaves are put in; rounds of loops; one place behind another. -/
namespace Go.Proofs.YthchhkghjfendabGreat.Dx
open Go

section
variable {α β : Type} {F : Nat → List PV → Option (List PV)} {N : Nat}

theorem iter_same {f : List PV → Option (Out α)} {g : List PV → Option (Out β)} (h : ∀ vs x us, g vs = some (.y x us) → f vs = some (.y x us)) : ∀ (n : Nat) (vs : List PV) {x : Ex} {us : List PV},
    iter g n vs = some (.y x us) → iter f n vs = some (.y x us)
  | 0, _, _, _, hi => by simp [iter] at hi
  | n + 1, vs, x, us, hi => by
    unfold iter at hi ⊢
    split at hi
    · rename_i vs' hg
      rw [h _ _ _ hg]
      exact iter_same h n vs' hi
    · rename_i o hne
      rw [h _ _ _ hi]
      split
      · rename_i vs' heq
        cases heq
        exact absurd hi (hne us)
      · rfl
mutual
theorem TT.mapL_den {f : Ex → α → Option (TT β)} : ∀ {t : TT α} {t2 : TT β} {ρ : List PV} {out : Out β}, t.mapL f = some t2 → t2.den F N ρ = some out →
    (∃ x s ρ1 t3, t.den F N ρ = some (.lf x s ρ1) ∧ f x s = some t3 ∧ t3.den F N ρ1 = some out) ∨ (∃ x vs, t.den F N ρ = some (.y x vs) ∧ out = .y x vs)
  | .leaf x s, t2, ρ, out, h, hd => by
    simp only [TT.mapL] at h
    exact .inl ⟨x, s, ρ, t2, rfl, h, hd⟩
  | .yield x xs, t2, ρ, out, h, hd => by
    simp only [TT.mapL, Option.some.injEq] at h; subst h
    simp only [TT.den, Option.some.injEq] at hd
    exact .inr ⟨x, _, rfl, hd.symm⟩
  | .fail n, t2, ρ, out, h, hd => by
    simp only [TT.mapL, Option.some.injEq] at h; subst h
    simp [TT.den] at hd
  | .assert e t, t2, ρ, out, h, hd => by
    simp only [TT.mapL, Option.map_eq_some_iff] at h
    obtain ⟨t', h1, rfl⟩ := h
    simp only [TT.den] at hd ⊢
    split at hd
    · rename_i he
      simp only [he, if_true]
      exact TT.mapL_den h1 hd
    · cases hd
  | .call g fn xs n t, t2, ρ, out, h, hd => by
    simp only [TT.mapL, Option.map_eq_some_iff] at h
    obtain ⟨t', h1, rfl⟩ := h
    simp only [TT.den] at hd ⊢
    split at hd
    · rename_i he
      simp only [he, if_true]
      split at hd
      · rename_i rs hrs
        split at hd
        · rename_i hl
          simp only [hl, if_true]
          exact TT.mapL_den h1 hd
        · cases hd
      · cases hd
    · rename_i he
      simp only [he]
      exact TT.mapL_den h1 hd
  | .callv x xs n t, t2, ρ, out, h, hd => by
    simp only [TT.mapL, Option.map_eq_some_iff] at h
    obtain ⟨t', h1, rfl⟩ := h
    simp only [TT.den] at hd ⊢
    split at hd
    · rename_i fn caps hx
      split at hd
      · rename_i rs hrs
        split at hd
        · rename_i hl
          simp only [hl, if_true]
          exact TT.mapL_den h1 hd
        · cases hd
      · cases hd
    · cases hd
  | .ite c a b, t2, ρ, out, h, hd => by
    simp only [TT.mapL, Option.bind_eq_some_iff, Option.map_eq_some_iff] at h
    obtain ⟨a', h1, b', h2, rfl⟩ := h
    simp only [TT.den] at hd ⊢
    split at hd
    · rename_i hc
      simp only [hc, if_true]
      exact TT.mapL_den h1 hd
    · rename_i hc
      simp only [hc]
      exact TT.mapL_den h2 hd
  | .scope t ks, t2, ρ, out, h, hd => by
    simp only [TT.mapL, Option.bind_eq_some_iff, Option.map_eq_some_iff] at h
    obtain ⟨t', h1, ks', h2, rfl⟩ := h
    simp only [TT.den] at hd ⊢
    split at hd
    · rename_i x vs ht
      rcases TT.mapL_den h1 ht with ⟨_, _, _, _, _, hn, _⟩ | ⟨x', vs', h3, h4⟩
      · cases hn
      · cases h4
        rw [h3]
        exact KS.mapL_den h2 hd
    · cases hd
  | .loop i t ks, t2, ρ, out, h, hd => by
    simp only [TT.mapL, Option.bind_eq_some_iff, Option.map_eq_some_iff] at h
    obtain ⟨t', h1, ks', h2, rfl⟩ := h
    simp only [TT.den] at hd ⊢
    split at hd
    · rename_i x vs ht
      have := iter_same (f := fun vs => t.den F N (ρ ++ vs)) (fun vs x us hg => by
        rcases TT.mapL_den h1 hg with ⟨_, _, _, _, _, hn, _⟩ | ⟨x', vs', h3, h4⟩
        · cases hn
        · cases h4; exact h3) N _ ht
      rw [this]
      exact KS.mapL_den h2 hd
    · cases hd
theorem KS.mapL_den {f : Ex → α → Option (TT β)} : ∀ {ks : KS α} {ks2 : KS β} {y : Ex} {vs ρ : List PV} {out : Out β}, ks.mapL f = some ks2 → ks2.den F N y vs ρ = some out →
    (∃ x s ρ1 t3, ks.den F N y vs ρ = some (.lf x s ρ1) ∧ f x s = some t3 ∧ t3.den F N ρ1 = some out) ∨ (∃ x us, ks.den F N y vs ρ = some (.y x us) ∧ out = .y x us)
  | .nil, ks2, y, vs, ρ, out, h, hd => by
    simp only [KS.mapL, Option.some.injEq] at h; subst h
    simp [KS.den] at hd
  | .cons x t ks, ks2, y, vs, ρ, out, h, hd => by
    simp only [KS.mapL, Option.bind_eq_some_iff, Option.map_eq_some_iff] at h
    obtain ⟨t', h1, ks', h2, rfl⟩ := h
    simp only [KS.den] at hd ⊢
    split at hd
    · rename_i he
      simp only [he, if_true]
      exact TT.mapL_den h1 hd
    · rename_i he
      simp only [he, if_false]
      exact KS.mapL_den h2 hd
end
mutual
theorem TT.leaf_mem : ∀ {t : TT α} {ρ ρ1 : List PV} {x : Ex} {s : α}, t.den F N ρ = some (.lf x s ρ1) → (x, s) ∈ t.leaves
  | .leaf x s, ρ, ρ1, _, _, h => by simp only [TT.den, Option.some.injEq, Out.lf.injEq] at h; obtain ⟨rfl, rfl, _⟩ := h; simp [TT.leaves]
  | .yield x xs, ρ, ρ1, _, _, h => by simp [TT.den] at h
  | .fail n, ρ, ρ1, _, _, h => by simp [TT.den] at h
  | .assert e t, ρ, ρ1, _, _, h => by
    simp only [TT.den] at h
    split at h
    · exact TT.leaf_mem (t := t) h
    · cases h
  | .call g fn xs n t, ρ, ρ1, _, _, h => by
    simp only [TT.den] at h
    split at h
    · split at h
      · split at h
        · exact TT.leaf_mem (t := t) h
        · cases h
      · cases h
    · exact TT.leaf_mem (t := t) h
  | .callv x xs n t, ρ, ρ1, _, _, h => by
    simp only [TT.den] at h
    split at h
    · split at h
      · split at h
        · exact TT.leaf_mem (t := t) h
        · cases h
      · cases h
    · cases h
  | .ite c a b, ρ, ρ1, _, _, h => by
    simp only [TT.den] at h
    simp only [TT.leaves, List.mem_append]
    split at h
    · exact .inl (TT.leaf_mem h)
    · exact .inr (TT.leaf_mem h)
  | .scope t ks, ρ, ρ1, _, _, h => by
    simp only [TT.den] at h
    split at h
    · exact KS.leaf_mem (ks := ks) h
    · cases h
  | .loop i t ks, ρ, ρ1, _, _, h => by
    simp only [TT.den] at h
    split at h
    · exact KS.leaf_mem (ks := ks) h
    · cases h
theorem KS.leaf_mem : ∀ {ks : KS α} {y : Ex} {vs ρ ρ1 : List PV} {x : Ex} {s : α}, ks.den F N y vs ρ = some (.lf x s ρ1) → (x, s) ∈ ks.leaves
  | .nil, _, _, _, _, _, _, h => by simp [KS.den] at h
  | .cons x t ks, _, _, _, _, _, _, h => by
    simp only [KS.den] at h
    simp only [KS.leaves, List.mem_append]
    split at h
    · exact .inl (TT.leaf_mem h)
    · exact .inr (KS.leaf_mem h)
end
end

section
variable {C : Ctx} {F : Nat → List PV → Option (List PV)} {N : Nat} {ρ : List PV} {hdr hdr' : Hdr} {S S' Wr : Nat → Prop} {σ σ' : Sym} {a a' : Act} {w w' : World} {pins : List Nat} {P : Program} {c : Code} {Q Q' : Exit → Act → World → Prop}

/-! ### rounds of a loop -/
def Rounds (P : Program) (c : Code) (Q : Exit → Act → World → Prop) (a : Act) (w : World) : Prop :=
  ∀ (b : Frame) (k : List Item) (cs : List Frame), ∃ e a' w', Q e a' w' ∧ Arrives P (lone (b.at a (.code c :: .inLoop c :: k)) cs w) b k cs e a' w'
theorem Rounds.loop (h : Rounds P c Q a w) : (Code.loop c).wp P Q a w := fun b k cs =>
  let ⟨e, a', w', q, r⟩ := h b k cs; ⟨e, a', w', q, .of_steps (.one step_loop) r⟩
theorem Rounds.round (h : c.wp P (Exit.then (Rounds P c Q) Q) a w) : Rounds P c Q a w := fun b k cs => by
  obtain ⟨e, a₁, w₁, hq, harr⟩ := h b (.inLoop c :: k) cs
  cases e with
  | normal =>
    obtain ⟨e₂, a₂, w₂, hq₂, harr₂⟩ := hq b k cs
    exact ⟨e₂, a₂, w₂, hq₂, .of_steps (Steps.trans harr (.one step_inLoop)) harr₂⟩
  | exit id => exact ⟨_, a₁, w₁, hq, .pass (x := .inLoop c) rfl (fun _ _ => .inl (by simp)) harr⟩
  | goto l => exact ⟨_, a₁, w₁, hq, .pass (x := .inLoop c) rfl (fun _ _ => .inl (by simp)) harr⟩
  | ret => exact ⟨_, a₁, w₁, hq, .pass (x := .inLoop c) rfl (fun _ _ => .inl (by simp)) harr⟩
  | panic ch => exact ⟨_, a₁, w₁, hq, .pass (x := .inLoop c) rfl (fun _ _ => .inl (by simp)) harr⟩
  | outgrown => exact ⟨_, a₁, w₁, hq, .pass (x := .inLoop c) rfl (fun _ _ => .inl (by simp)) harr⟩

def exitIs : Ex → Exit → Prop
  | .norm, .normal => True
  | .ret, .ret => True
  | .ext i, .exit j => j = i
  | _, _ => False
/-- The code ends by the exit 'x' in a state that is as 'σ'' says. -/
structure Ends (C : Ctx) (Wr : Nat → Prop) (pins : List Nat) (hdr : Hdr) (S : Nat → Prop) (a : Act) (w : World) (x : Ex) (σ' : Sym) (ρ' : List PV) (e : Exit) (a' : Act) (w' : World) : Prop where
  ex : exitIs x e
  gd : ∃ hdr' S', Good C ρ' hdr' S' Wr σ' a' w' ∧ Ew Wr pins hdr S w hdr' S' w'
  df : a'.defers = a.defers
theorem Ends.from {x : Ex} {ρ' : List PV} {e : Exit} {a'' : Act} {w'' : World} (h : Ends C Wr pins hdr' S' a' w' x σ' ρ' e a'' w'') (he : Ew Wr pins hdr S w hdr' S' w') (hd : a'.defers = a.defers) : Ends C Wr pins hdr S a w x σ' ρ' e a'' w'' := by
  obtain ⟨h1, ⟨hd2, S2, h2, h3⟩, h4⟩ := h
  exact ⟨h1, ⟨hd2, S2, h2, he.trans h3⟩, h4.trans hd⟩
theorem exitIs_normal {x : Ex} (h : exitIs x .normal) : x = .norm := by cases x <;> simp_all [exitIs]
theorem exitIs_norm {e : Exit} (h : exitIs .norm e) : e = .normal := by cases e <;> simp_all [exitIs]

theorem findH_ks {f : Ex → Sym → Option (TT Sym)} : ∀ {hs : List (Ex × Sym)} {ks : KS Sym} {y : Ex} {vs : List PV} {h : Sym} {out : Out Sym}, ksOf f hs = some ks → findH hs y = some h → ks.den F N y vs ρ = some out →
    ∃ t, f y h = some t ∧ t.den F N (ρ ++ vs) = some out
  | [], ks, y, vs, h, out, h1, h2, h3 => by simp [findH] at h2
  | (x, h') :: hs, ks, y, vs, h, out, h1, h2, h3 => by
    simp only [ksOf, Option.bind_eq_some_iff, Option.map_eq_some_iff] at h1
    obtain ⟨t, k1, ks', k2, rfl⟩ := h1
    simp only [KS.den] at h3
    by_cases e : x = y
    · subst e
      simp [findH] at h2; subst h2
      simp only [if_true] at h3
      exact ⟨t, k1, h3⟩
    · rw [if_neg e] at h3
      have : findH hs y = some h := by
        simp only [findH, List.find?_cons] at h2 ⊢
        rwa [show ((x, h').1 == y) = false by simpa using e] at h2
      exact findH_ks k2 this h3

/-- Where one place leads: to the state itself, or to a head that it fits. -/
def Next (pins : List Nat) (ρ : List PV) (s : Sym) (ext : List PV) (s' : Sym) (ρ' : List PV) : Prop :=
  (s' = s ∧ ρ' = ρ ++ ext) ∨ ∃ args, matchS ρ.length pins s s' = some args ∧ ρ' = ρ ++ args.map (Exp.den (ρ ++ ext))
theorem Next.good {s s' : Sym} {ext ρ' : List PV} (h : Next pins ρ s ext s' ρ') (g : Good C (ρ ++ ext) hdr S Wr s a w) :
    ∃ hdr' S', Good C ρ' hdr' S' Wr s' a w ∧ Ew Wr pins hdr S w hdr' S' w := by
  rcases h with ⟨rfl, rfl⟩ | ⟨args, h1, rfl⟩
  · exact ⟨hdr, S, g, Ew.refl⟩
  · exact match_ok h1 g
theorem Next.pre {s s' : Sym} {ext ρ' : List PV} (h : Next pins ρ s ext s' ρ') : ∃ e, ρ' = ρ ++ e := by
  rcases h with ⟨_, rfl⟩ | ⟨args, _, rfl⟩ <;> exact ⟨_, rfl⟩

theorem thenT_den {L : Nat} {t t2 : TT Sym} {x : Ex} {f : Sym → Option (TT Sym)} {out : Out Sym} (h : thenT ρ.length L pins t x f = some t2) (hd : t2.den F N ρ = some out)
    (ht : ∀ o, t.den F N ρ = some o → ∃ y s ext, o = .lf y s (ρ ++ ext)) :
    ∃ y s ext s' ρ', t.den F N ρ = some (.lf y s (ρ ++ ext)) ∧ Next pins ρ s ext s' ρ' ∧ ((y ≠ x ∧ out = .lf y s' ρ') ∨ (y = x ∧ ∃ t3, f s' = some t3 ∧ t3.den F N ρ' = some out)) := by
  have hg : ∀ {y : Ex} {s : Sym} {ρ' : List PV} {t3 : TT Sym}, (if y = x then f s else some (.leaf y s)) = some t3 → t3.den F N ρ' = some out →
      ((y ≠ x ∧ out = .lf y s ρ') ∨ (y = x ∧ ∃ t3, f s = some t3 ∧ t3.den F N ρ' = some out)) := fun {y s ρ' t3} h1 h2 => by
    split at h1
    · rename_i e; exact .inr ⟨e, t3, h1, h2⟩
    · rename_i e
      simp only [Option.some.injEq] at h1; subst h1
      simp only [TT.den, Option.some.injEq] at h2
      exact .inl ⟨e, h2.symm⟩
  unfold thenT at h
  dsimp only at h
  split at h
  · rcases TT.mapL_den h hd with ⟨y, s, ρ1, t3, h1, h2, h3⟩ | ⟨y, vs, h1, _⟩
    · obtain ⟨y', s', ext, e⟩ := ht _ h1
      cases e
      exact ⟨y, s, ext, s, _, h1, .inl ⟨rfl, rfl⟩, hg h2 h3⟩
    · obtain ⟨_, _, _, e⟩ := ht _ h1
      cases e
  · simp only [Option.bind_eq_some_iff, Option.map_eq_some_iff] at h
    obtain ⟨hs, h1, t', h2, ks, h3, rfl⟩ := h
    simp only [TT.den] at hd
    split at hd
    · rename_i y vs ht'
      rcases TT.mapL_den h2 ht' with ⟨y', s, ρ1, t3, k1, k2, k3⟩ | ⟨_, _, k1, _⟩
      · obtain ⟨y'', s'', ext, e⟩ := ht _ k1
        cases e
        simp only [Option.bind_eq_some_iff, Option.map_eq_some_iff] at k2
        obtain ⟨hh, k4, args, k5, rfl⟩ := k2
        simp only [TT.den, Option.some.injEq, Out.y.injEq] at k3
        obtain ⟨rfl, rfl⟩ := k3
        obtain ⟨t3, k6, k7⟩ := findH_ks h3 k4 hd
        exact ⟨y', s, ext, hh, _, k1, .inr ⟨args, k5, rfl⟩, hg k6 k7⟩
      · obtain ⟨_, _, _, e⟩ := ht _ k1
        cases e
    · cases hd
end
end Go.Proofs.YthchhkghjfendabGreat.Dx

/- Code, second part: what a function's code comes to is what its tree says. -/
namespace Go.Proofs.YthchhkghjfendabGreat.Dx
open Go

section
variable {C : Ctx} {F : Nat → List PV → Option (List PV)} {N : Nat} {ρ : List PV} {hdr hdr' : Hdr} {S S' Wr : Nat → Prop} {σ σ' : Sym} {a a' : Act} {w w' : World} {pins : List Nat} {Q Q' : Exit → Act → World → Prop}

theorem match_nv {args : List Exp} {n0 : Nat} {s h : Sym} (hm : matchS n0 pins s h = some args) : h.nv = n0 + args.length := by
  unfold matchS at hm
  dsimp only at hm
  split at hm
  · rename_i hc
    simp only [Option.some.injEq] at hm
    subst hm
    simp only [Bool.and_eq_true] at hc
    have := hc.1.1.1
    unfold chkS at this
    simp only [Bool.and_eq_true, beq_iff_eq] at this
    exact this.1.1.1.1.1.1
  · cases hm
theorem Next.nv {s s' : Sym} {ext ρ' : List PV} (h : Next pins ρ s ext s' ρ') (hs : s.nv = (ρ ++ ext).length) : s'.nv = ρ'.length := by
  rcases h with ⟨rfl, rfl⟩ | ⟨args, h1, rfl⟩
  · exact hs
  · rw [match_nv h1]; simp

/-- What a tree's end looks like. -/
def LfOf (ρ : List PV) (out : Out Sym) : Prop := ∃ x σ' ext, out = .lf x σ' (ρ ++ ext) ∧ σ'.nv = (ρ ++ ext).length ∧ x ≠ .cont
def PureOK (F : Nat → List PV → Option (List PV)) (N : Nat) (f : Sym → Option (TT Sym)) : Prop :=
  ∀ {σ : Sym} {t : TT Sym} {ρ : List PV} {out : Out Sym}, f σ = some t → ρ.length = σ.nv → t.den F N ρ = some out → LfOf ρ out

theorem reg_spec {id : Nat} {ops : Array Oper} {draw : Bool} {es : List Eff} (h : (if draw then drawR C ops σ else seqR C ops ops.toList σ) = some (es, σ')) : σ'.nv = σ.nv + effsK es ∧ effsClosed es σ.nv := by
  cases draw
  · obtain ⟨_, h2, h3⟩ := seqR_spec (by simpa using h); exact ⟨h2, h3⟩
  · obtain ⟨ds, bs, D⟩ := drawR_spec (by simpa using h); exact ⟨D.nv, D.ec⟩

theorem unroll_pure {f : Sym → Option (TT Sym)} (hf : PureOK F N f) : ∀ {n : Nat} {σ : Sym} {t : TT Sym} {ρ : List PV} {out : Out Sym}, unroll f n σ = some t → ρ.length = σ.nv → t.den F N ρ = some out →
    ∃ x σ' ext, out = .lf x σ' (ρ ++ ext) ∧ σ'.nv = (ρ ++ ext).length ∧ x ≠ .cont ∧ x ≠ .norm
  | 0, σ, t, ρ, out, h, _, _ => by simp [unroll] at h
  | n + 1, σ, t, ρ, out, h, hl, hd => by
    simp only [unroll, Option.bind_eq_some_iff] at h
    obtain ⟨t0, h0, h⟩ := h
    split at h
    · rename_i h1
      simp only [Option.some.injEq] at h; subst h
      obtain ⟨x, σ', ext, rfl, hv, hc⟩ := hf h0 hl hd
      refine ⟨x, σ', ext, rfl, hv, hc, fun e => ?_⟩
      subst e
      have := TT.leaf_mem hd
      have h2 : (Ex.norm, σ') ∈ t0.leaves.filter fun l => decide (l.1 = .norm) := List.mem_filter.2 ⟨this, by simp⟩
      have := List.length_pos_of_mem h2
      have h1' : (t0.leaves.filter fun l => decide (l.1 = .norm)).length = 0 := h1
      omega
    · split at h
      · rcases TT.mapL_den h hd with ⟨y, s, ρ1, t3, k1, k2, k3⟩ | ⟨y, vs, k1, _⟩
        · obtain ⟨_, _, ext, e, hv, hc⟩ := hf h0 hl k1
          cases e
          split at k2
          · obtain ⟨x, σ', ext', rfl, hv', hx⟩ := unroll_pure hf k2 hv.symm k3
            exact ⟨x, σ', ext ++ ext', by rw [List.append_assoc], by rw [hv', List.append_assoc], hx⟩
          · rename_i hy
            simp only [Option.some.injEq] at k2; subst k2
            simp only [TT.den, Option.some.injEq] at k3
            exact ⟨y, s, ext, k3.symm, hv, hc, hy⟩
        · obtain ⟨_, _, _, e, _⟩ := hf h0 hl k1
          cases e
      · cases h
    · cases h

/-- One round of a loop whose head is told. -/
theorem round_den {f : Sym → Option (TT Sym)} (hf : PureOK F N f) {h : Sym} {hs : List (Ex × Sym)} {t t' : TT Sym} (ht : f h = some t)
    (ht' : (t.mapL fun x s => if x = .norm then (matchS ρ.length pins s h).map (.yield .cont) else (findH hs x).bind fun h' => (matchS ρ.length pins s h').map (.yield x)) = some t')
    {vs : List PV} (hl : (ρ ++ vs).length = h.nv) {out : Out Sym} (hd : t'.den F N (ρ ++ vs) = some out) :
    ∃ y s ext, t.den F N (ρ ++ vs) = some (.lf y s ((ρ ++ vs) ++ ext)) ∧ s.nv = ((ρ ++ vs) ++ ext).length ∧ y ≠ .cont ∧
      ((y = .norm ∧ ∃ args, matchS ρ.length pins s h = some args ∧ out = .y .cont (args.map (Exp.den ((ρ ++ vs) ++ ext)))) ∨
       (y ≠ .norm ∧ ∃ h' args, findH hs y = some h' ∧ matchS ρ.length pins s h' = some args ∧ out = .y y (args.map (Exp.den ((ρ ++ vs) ++ ext))))) := by
  rcases TT.mapL_den ht' hd with ⟨y, s, ρ1, t3, k1, k2, k3⟩ | ⟨y, vs', k1, _⟩
  · obtain ⟨_, _, ext, e, hv, hc⟩ := hf ht hl k1
    cases e
    refine ⟨y, s, ext, k1, hv, hc, ?_⟩
    split at k2
    · rename_i hy
      simp only [Option.map_eq_some_iff] at k2
      obtain ⟨args, k4, rfl⟩ := k2
      simp only [TT.den, Option.some.injEq] at k3
      exact .inl ⟨hy, args, k4, k3.symm⟩
    · rename_i hy
      simp only [Option.bind_eq_some_iff, Option.map_eq_some_iff] at k2
      obtain ⟨h', k4, args, k5, rfl⟩ := k2
      simp only [TT.den, Option.some.injEq] at k3
      exact .inr ⟨hy, h', args, k4, k5, k3.symm⟩
  · obtain ⟨_, _, _, e, _⟩ := hf ht hl k1
    cases e
theorem rounds_pure {f : Sym → Option (TT Sym)} (hf : PureOK F N f) {h : Sym} {hs : List (Ex × Sym)} {t t' : TT Sym} (ht : f h = some t)
    (ht' : (t.mapL fun x s => if x = .norm then (matchS ρ.length pins s h).map (.yield .cont) else (findH hs x).bind fun h' => (matchS ρ.length pins s h').map (.yield x)) = some t') :
    ∀ (n : Nat) (vs : List PV), (ρ ++ vs).length = h.nv → ∀ {x : Ex} {us : List PV}, iter (fun vs => t'.den F N (ρ ++ vs)) n vs = some (.y x us) → ∃ h', findH hs x = some h' ∧ h'.nv = (ρ ++ us).length ∧ x ≠ .cont
  | 0, vs, _, x, us, hi => by simp [iter] at hi
  | n + 1, vs, hl, x, us, hi => by
    unfold iter at hi
    split at hi
    · rename_i vs' hg
      obtain ⟨y, s, ext, k1, k2, k0, ⟨rfl, args, k3, k4⟩ | ⟨hy, h', args, k3, k4, k5⟩⟩ := round_den hf ht ht' hl hg
      · cases k4
        refine rounds_pure hf ht ht' n _ ?_ hi
        rw [match_nv k3]; simp
      · simp only [Out.y.injEq] at k5
        exact absurd k5.1.symm k0
    · rename_i o hne
      obtain ⟨y, s, ext, k1, k2, k0, ⟨rfl, args, k3, k4⟩ | ⟨hy, h', args, k3, k4, k5⟩⟩ := round_den hf ht ht' hl hi
      · cases k4
        exact absurd hi (hne _)
      · simp only [Out.y.injEq] at k5
        obtain ⟨rfl, rfl⟩ := k5
        exact ⟨h', k3, by rw [match_nv k4]; simp, k0⟩

theorem LfOf.pre {ρ e : List PV} {out : Out Sym} (h : LfOf (ρ ++ e) out) : LfOf ρ out := by
  obtain ⟨x, σ', ext, rfl, h1, h2⟩ := h
  exact ⟨x, σ', e ++ ext, by rw [List.append_assoc], by rw [h1, List.append_assoc], h2⟩
theorem symC_pure : ∀ (c : Code) (L : Nat), PureOK F N (symC C pins c L)
  | .skip, L, σ, t, ρ, out, h, hl, hd => by
    simp only [symC, Option.some.injEq] at h; subst h
    simp only [TT.den, Option.some.injEq] at hd; subst hd
    exact ⟨.norm, σ, [], by simp, by simp [hl], by simp⟩
  | .label _, L, σ, t, ρ, out, h, hl, hd => by
    simp only [symC, Option.some.injEq] at h; subst h
    simp only [TT.den, Option.some.injEq] at hd; subst hd
    exact ⟨.norm, σ, [], by simp, by simp [hl], by simp⟩
  | .region id ops draw, L, σ, t, ρ, out, h, hl, hd => by
    simp only [symC] at h
    split at h
    · rename_i es σ' hr
      simp only [Option.some.injEq] at h; subst h
      obtain ⟨h1, h2⟩ := reg_spec (id := id) hr
      obtain ⟨ext, e1, e2, _⟩ := mkEffs_den hd (by rw [hl]; exact h2)
      simp only [TT.den, Option.some.injEq] at e2
      exact ⟨.norm, σ', ext, e2.symm, by rw [h1, List.length_append, e1, hl], by simp⟩
    · simp only [Option.some.injEq] at h; subst h
      simp [TT.den] at hd
  | .seq a b, L, σ, t, ρ, out, h, hl, hd => by
    simp only [symC, Option.bind_eq_some_iff] at h
    obtain ⟨ta, h1, h2⟩ := h
    rw [← hl] at h2
    obtain ⟨y, s, ext, s', ρ', k1, k2, k3⟩ := thenT_den h2 hd fun o ho => by
      obtain ⟨x, s, ext, e, _⟩ := symC_pure a _ h1 hl ho
      exact ⟨x, s, ext, e⟩
    obtain ⟨_, _, _, e, hv, hc⟩ := symC_pure a _ h1 hl k1
    simp only [Out.lf.injEq, List.append_cancel_left_eq] at e
    obtain ⟨rfl, rfl, rfl⟩ := e
    obtain ⟨e', rfl⟩ := k2.pre
    rcases k3 with ⟨_, rfl⟩ | ⟨_, t3, k4, k5⟩
    · exact ⟨y, s', e', rfl, k2.nv hv, hc⟩
    · exact (symC_pure b L k4 (k2.nv hv).symm k5).pre
  | .cond c a b, L, σ, t, ρ, out, h, hl, hd => by
    simp only [symC] at h
    split at h
    · exact symC_pure a L h hl hd
    · exact symC_pure b L h hl hd
    · simp only [Option.bind_eq_some_iff, Option.map_eq_some_iff] at h
      obtain ⟨ta, h1, tb, h2, rfl⟩ := h
      simp only [TT.den] at hd
      split at hd
      · exact symC_pure a L h1 hl hd
      · exact symC_pure b L h2 hl hd
    · simp only [Option.some.injEq] at h; subst h
      simp [TT.den] at hd
  | .block id c, L, σ, t, ρ, out, h, hl, hd => by
    simp only [symC, Option.bind_eq_some_iff] at h
    obtain ⟨t0, h1, h2⟩ := h
    rcases TT.mapL_den h2 hd with ⟨y, s, ρ1, t3, k1, k2, k3⟩ | ⟨y, vs', k1, _⟩
    · obtain ⟨_, _, ext, e, hv, hc⟩ := symC_pure c L h1 hl k1
      cases e
      simp only [Option.some.injEq] at k2; subst k2
      simp only [TT.den, Option.some.injEq] at k3
      exact ⟨_, s, ext, k3.symm, hv, by split <;> simp [hc]⟩
    · obtain ⟨_, _, _, e, _⟩ := symC_pure c L h1 hl k1
      cases e
  | .scope c, L, σ, t, ρ, out, h, hl, hd => by
    simp only [symC] at h
    exact symC_pure c L h hl hd
  | .loop c, L, σ, t, ρ, out, h, hl, hd => by
    simp only [symC] at h
    split at h
    · rename_i tu hu
      simp only [Option.some.injEq] at h; subst h
      obtain ⟨x, σ', ext, e, hv, hc, _⟩ := unroll_pure (symC_pure c _) hu hl hd
      exact ⟨x, σ', ext, e, hv, hc⟩
    · simp only [Option.bind_eq_some_iff, Option.map_eq_some_iff] at h
      obtain ⟨hh, _, tb, h1, init, h2, hs, _, t', h3, ks, h4, rfl⟩ := h
      rw [← hl] at h2 h3
      simp only [TT.den] at hd
      split at hd
      · rename_i x vs hi
        obtain ⟨h', k1, k2, k3⟩ := rounds_pure (symC_pure c _) h1 h3 N _ (by rw [match_nv h2]; simp) hi
        obtain ⟨t3, k4, k5⟩ := findH_ks h4 k1 hd
        simp only [Option.some.injEq] at k4; subst k4
        simp only [TT.den, Option.some.injEq] at k5
        exact ⟨x, h', vs, k5.symm, k2, k3⟩
      · cases hd
  | .exit id, L, σ, t, ρ, out, h, hl, hd => by
    simp only [symC, Option.some.injEq] at h; subst h
    simp only [TT.den, Option.some.injEq] at hd; subst hd
    exact ⟨.ext id, σ, [], by simp, by simp [hl], by simp⟩
  | .ret, L, σ, t, ρ, out, h, hl, hd => by
    simp only [symC, Option.some.injEq] at h; subst h
    simp only [TT.den, Option.some.injEq] at hd; subst hd
    exact ⟨.ret, σ, [], by simp, by simp [hl], by simp⟩
  | .rangeFunc _ _ _ _, L, σ, t, ρ, out, h, hl, hd => by
    simp only [symC, Option.some.injEq] at h; subst h
    simp [TT.den] at hd
  | .goto _, L, σ, t, ρ, out, h, hl, hd => by
    simp only [symC, Option.some.injEq] at h; subst h
    simp [TT.den] at hd
  | .refuse _, L, σ, t, ρ, out, h, hl, hd => by
    simp only [symC, Option.some.injEq] at h; subst h
    simp [TT.den] at hd

/-! ### the code itself -/
def RunOK (C : Ctx) (F : Nat → List PV → Option (List PV)) (N : Nat) (pins : List Nat) (c : Code) (f : Sym → Option (TT Sym)) : Prop :=
  ∀ {σ : Sym} {t : TT Sym} {ρ : List PV} {hdr : Hdr} {S Wr : Nat → Prop} {a : Act} {w : World} {x : Ex} {σ' : Sym} {ρ' : List PV}, f σ = some t → Good C ρ hdr S Wr σ a w → t.den F N ρ = some (.lf x σ' ρ') →
    c.wp C.P (Ends C Wr pins hdr S a w x σ' ρ') a w

theorem unroll_run {c : Code} {f : Sym → Option (TT Sym)} (hp : PureOK F N f) (hf : RunOK C F N pins c f) : ∀ {n : Nat} {σ : Sym} {t : TT Sym} {ρ : List PV} {hdr : Hdr} {S Wr : Nat → Prop} {a : Act} {w : World} {x : Ex} {σ' : Sym} {ρ' : List PV},
    unroll f n σ = some t → Good C ρ hdr S Wr σ a w → t.den F N ρ = some (.lf x σ' ρ') → Rounds C.P c (Ends C Wr pins hdr S a w x σ' ρ') a w
  | 0, σ, t, ρ, hdr, S, Wr, a, w, x, σ', ρ', h, _, _ => by simp [unroll] at h
  | n + 1, σ, t, ρ, hdr, S, Wr, a, w, x, σ', ρ', h, g, hd => by
    have hx : x ≠ .norm := by
      obtain ⟨_, _, _, e, _, _, hn⟩ := unroll_pure hp h g.nv hd
      cases e; exact hn
    simp only [unroll, Option.bind_eq_some_iff] at h
    obtain ⟨t0, h0, h⟩ := h
    split at h
    · simp only [Option.some.injEq] at h; subst h
      refine Rounds.round (wp_mono (hf h0 g hd) fun e a1 w1 he => ?_)
      cases e with
      | normal => exact absurd (exitIs_normal he.ex) hx
      | _ => exact he
    · split at h
      · rcases TT.mapL_den h hd with ⟨y, s, ρ1, t3, k1, k2, k3⟩ | ⟨y, vs, k1, _⟩
        · refine Rounds.round (wp_mono (hf h0 g k1) fun e a1 w1 he => ?_)
          split at k2
          · rename_i hy
            subst hy
            obtain rfl := exitIs_norm he.ex
            obtain ⟨hdr1, S1, g1, e1⟩ := he.gd
            have := unroll_run hp hf k2 g1 k3
            show Rounds _ _ _ _ _
            intro b k cs
            obtain ⟨e, a', w', q, r⟩ := this b k cs
            exact ⟨e, a', w', q.from e1 he.df, r⟩
          · rename_i hy
            simp only [Option.some.injEq] at k2; subst k2
            simp only [TT.den, Option.some.injEq, Out.lf.injEq] at k3
            obtain ⟨rfl, rfl, rfl⟩ := k3
            cases e with
            | normal => exact absurd (exitIs_normal he.ex) hx
            | _ => exact he
        · obtain ⟨_, _, _, e, _⟩ := hp h0 g.nv k1
          cases e
      · cases h
    · cases h

theorem rounds_run {c : Code} {f : Sym → Option (TT Sym)} (hp : PureOK F N f) (hf : RunOK C F N pins c f) {h : Sym} {hs : List (Ex × Sym)} {t t' : TT Sym} (ht : f h = some t)
    (ht' : (t.mapL fun x s => if x = .norm then (matchS ρ.length pins s h).map (.yield .cont) else (findH hs x).bind fun h' => (matchS ρ.length pins s h').map (.yield x)) = some t') :
    ∀ (n : Nat) (vs : List PV) {hdr : Hdr} {S : Nat → Prop} {a : Act} {w : World} {x : Ex} {us : List PV} {h' : Sym}, Good C (ρ ++ vs) hdr S Wr h a w → iter (fun vs => t'.den F N (ρ ++ vs)) n vs = some (.y x us) → findH hs x = some h' →
      Rounds C.P c (Ends C Wr pins hdr S a w x h' (ρ ++ us)) a w
  | 0, vs, hdr, S, a, w, x, us, h', _, hi, _ => by simp [iter] at hi
  | n + 1, vs, hdr, S, a, w, x, us, h', g, hi, hx => by
    unfold iter at hi
    split at hi
    · rename_i vs' hg
      obtain ⟨y, s, ext, k1, k2, k0, ⟨rfl, args, k3, k4⟩ | ⟨hy, h'', args, k3, k4, k5⟩⟩ := round_den hp ht ht' g.nv hg
      · cases k4
        refine Rounds.round (wp_mono (hf ht g k1) fun e a1 w1 he => ?_)
        obtain rfl := exitIs_norm he.ex
        obtain ⟨hdr1, S1, g1, e1⟩ := he.gd
        rw [List.append_assoc] at g1
        obtain ⟨hdr2, S2, g2, e2⟩ := match_ok k3 g1
        rw [← List.append_assoc] at g2
        have := rounds_run hp hf ht ht' n _ g2 hi hx
        show Rounds _ _ _ _ _
        intro b k cs
        obtain ⟨e, a', w', q, r⟩ := this b k cs
        exact ⟨e, a', w', q.from (e1.trans e2) he.df, r⟩
      · simp only [Out.y.injEq] at k5
        exact absurd k5.1.symm k0
    · rename_i o hne
      obtain ⟨y, s, ext, k1, k2, k0, ⟨rfl, args, k3, k4⟩ | ⟨hy, h'', args, k3, k4, k5⟩⟩ := round_den hp ht ht' g.nv hi
      · cases k4
        exact absurd hi (hne _)
      · simp only [Out.y.injEq] at k5
        obtain ⟨rfl, rfl⟩ := k5
        rw [k3] at hx
        cases hx
        refine Rounds.round (wp_mono (hf ht g k1) fun e a1 w1 he => ?_)
        have hex := he.ex
        obtain ⟨hdr1, S1, g1, e1⟩ := he.gd
        rw [List.append_assoc] at g1
        obtain ⟨hdr2, S2, g2, e2⟩ := match_ok k4 g1
        rw [← List.append_assoc] at g2
        have fin : Ends C Wr pins hdr S a w x h' (ρ ++ args.map (Exp.den ((ρ ++ vs) ++ ext))) e a1 w1 := ⟨hex, ⟨hdr2, S2, g2, e1.trans e2⟩, he.df⟩
        cases e with
        | normal => exact absurd (exitIs_normal hex) hy
        | _ => exact fin

theorem region_run (hC : COK C) (hF : FOK C F) {id : Nat} {ops : Array Oper} {draw : Bool} {es : List Eff} {xt : List PV} (h : (if draw then drawR C ops σ else seqR C ops ops.toList σ) = some (es, σ')) (g : Good C ρ hdr S Wr σ a w)
    (hl : xt.length = effsK es) (he : EffsR F (ρ ++ xt) es ρ.length) : (Code.region id ops draw).wp C.P (Ends C Wr pins hdr S a w .norm σ' (ρ ++ xt)) a w := by
  obtain ⟨n1, n2⟩ := reg_spec (id := id) h
  have hnv : σ'.nv = (ρ ++ xt).length := by rw [n1, List.length_append, hl, g.nv]
  have fin : ∀ w0 : World, (w0.heap, w0.os, w0.output) = (w.heap, w.os, w.output) → ∀ a' w', RegPost C (ρ ++ xt) hdr S Wr σ a w0 σ' a' w' → Ends C Wr pins hdr S a w .norm σ' (ρ ++ xt) .normal a' w' := fun w0 hw0 a' w' hp => by
    obtain ⟨p1, hdr', S', p2, p3, p4⟩ := hp
    have p4' : Ev Wr σ.objs.length (σ'.objs.length - σ.objs.length) hdr S w hdr' S' w' := (Ev.heap hw0).trans p4
    refine ⟨trivial, ⟨hdr', S', ⟨p2, hnv.symm, fun s hs => p4.hn s (g.fr s (by omega)) (by omega), fun b hb => g.hW b (Nat.le_trans p4'.kp.1 hb)⟩, p4'.toEw⟩, p1⟩
  cases draw
  · have h : seqR C ops ops.toList σ = some (es, σ') := by simpa using h
    refine wp_region ?_
    rw [List.range_eq_range', ← Array.length_toList]
    refine seq_ok hC hF (σ0 := σ) (a0 := a) (w0 := w) (hdr0 := hdr) (S0 := S) (fun k o hk => by simpa using hk) h (g.st.ext xt) (by omega) (by rw [← g.nv]; exact he) g.hW g.fr rfl (Nat.le_refl _) Ev.refl fun a' w' hp => fin w rfl a' w' hp
  · have h : drawR C ops σ = some (es, σ') := by simpa using h
    obtain ⟨ds, bs, D⟩ := drawR_spec h
    refine wp_region_any hC.mixed ?_
    have h0 : ∀ k, (Array.replicate ops.size false).getD k false = false := fun k => by
      simp only [Array.getD_eq_getD_getElem?, Array.getElem?_replicate]; split <;> rfl
    have hst : ∀ (l : List Done) (j : Nat), stP σ (fun k => (Array.replicate ops.size false).getD k false) j l = σ := fun l => by
      induction l with
      | nil => intro j; rfl
      | cons d l ih =>
        intro j
        rw [stP, if_neg (by rw [h0]; simp)]
        exact ih (j + 1)
    refine draw_ok hC hF D (hdr0 := hdr) (S0 := S) (a0 := a) (w0 := { w with drawn := w.drawn + 1 }) (ρ := ρ ++ xt) (by omega) (by rw [← g.nv]; exact he) (fun a' w' hp => fin { w with drawn := w.drawn + 1 } rfl a' w' hp) ops.size _ hdr S a _ (by simp) (by simp) (fun i b _ hi => by rw [h0] at hi; cases hi)
      (by rw [hst]; exact (g.st.ext xt).same rfl) Ev.refl rfl g.hW fun i d hd _ s hs => ?_
    have hin := D.dl
    have hlt : i < ds.length := by
      rcases Nat.lt_or_ge i ds.length with h | h
      · exact h
      · simp [List.getElem?_eq_none h] at hd
    obtain ⟨d', nvk, b, q1, _, _, q4, _⟩ := D.op i (ops[i]'(by omega)) (by simp)
    rw [hd] at q1; cases q1
    rw [inNews_iff] at hs
    exact g.fr s (by omega)

def condSlot (σ : Sym) (c : Operand) : Option Slot := match c with | .tmp t => σ.ev t | .const (.bool b) => some ⟨[], .c (.e (.bool b) .b)⟩ | _ => none
theorem condSlot_ok {c : Operand} (g : Good C ρ hdr S Wr σ a w) {ex : Exp} (hc : condSlot σ c = some ⟨[], .c (.e ex .b)⟩) : a.eval c = .bool (ex.den ρ).bool := by
  unfold condSlot at hc
  split at hc
  · rename_i t
    obtain ⟨h1, h2⟩ := (g.st.sl t _ hc).1 (by intro p hp; simp at hp)
    obtain ⟨b, hb⟩ := has_bool h1
    rw [hb] at h2
    show a.tmps.getD t undef = _
    rw [hb, h2]; rfl
  · rename_i b
    simp only [Option.some.injEq, Slot.mk.injEq, SV.c.injEq, SC.e.injEq, and_true, true_and] at hc
    subst hc; rfl
  · cases hc
theorem symC_run (hC : COK C) (hF : FOK C F) : ∀ (c : Code) (L : Nat), RunOK C F N pins c (symC C pins c L)
  | .skip, L, σ, t, ρ, hdr, S, Wr, a, w, x, σ', ρ', h, g, hd => by
    simp only [symC, Option.some.injEq] at h; subst h
    simp only [TT.den, Option.some.injEq, Out.lf.injEq] at hd
    obtain ⟨rfl, rfl, rfl⟩ := hd
    exact wp_skip ⟨trivial, ⟨hdr, S, g, Ew.refl⟩, rfl⟩
  | .label _, L, σ, t, ρ, hdr, S, Wr, a, w, x, σ', ρ', h, g, hd => by
    simp only [symC, Option.some.injEq] at h; subst h
    simp only [TT.den, Option.some.injEq, Out.lf.injEq] at hd
    obtain ⟨rfl, rfl, rfl⟩ := hd
    exact wp_label ⟨trivial, ⟨hdr, S, g, Ew.refl⟩, rfl⟩
  | .exit id, L, σ, t, ρ, hdr, S, Wr, a, w, x, σ', ρ', h, g, hd => by
    simp only [symC, Option.some.injEq] at h; subst h
    simp only [TT.den, Option.some.injEq, Out.lf.injEq] at hd
    obtain ⟨rfl, rfl, rfl⟩ := hd
    exact wp_exit ⟨rfl, ⟨hdr, S, g, Ew.refl⟩, rfl⟩
  | .ret, L, σ, t, ρ, hdr, S, Wr, a, w, x, σ', ρ', h, g, hd => by
    simp only [symC, Option.some.injEq] at h; subst h
    simp only [TT.den, Option.some.injEq, Out.lf.injEq] at hd
    obtain ⟨rfl, rfl, rfl⟩ := hd
    exact wp_ret ⟨trivial, ⟨hdr, S, g, Ew.refl⟩, rfl⟩
  | .region id ops draw, L, σ, t, ρ, hdr, S, Wr, a, w, x, σ', ρ', h, g, hd => by
    simp only [symC] at h
    split at h
    · rename_i es σ1 hr
      simp only [Option.some.injEq] at h; subst h
      obtain ⟨h1, h2⟩ := reg_spec (id := id) hr
      obtain ⟨ext, e1, e2, e3⟩ := mkEffs_den hd (by rw [g.nv]; exact h2)
      simp only [TT.den, Option.some.injEq, Out.lf.injEq] at e2
      obtain ⟨rfl, rfl, rfl⟩ := e2
      exact region_run hC hF hr g e1 e3
    · simp only [Option.some.injEq] at h; subst h
      simp [TT.den] at hd
  | .seq c d, L, σ, t, ρ, hdr, S, Wr, a, w, x, σ', ρ', h, g, hd => by
    simp only [symC, Option.bind_eq_some_iff] at h
    obtain ⟨ta, h1, h2⟩ := h
    rw [← g.nv] at h2
    obtain ⟨y, s, ext, s', ρ1, k1, k2, k3⟩ := thenT_den h2 hd fun o ho => by
      obtain ⟨x, s, ext, e, _⟩ := symC_pure c _ h1 g.nv ho
      exact ⟨x, s, ext, e⟩
    refine wp_seq (wp_mono (symC_run hC hF c _ h1 g k1) fun e a1 w1 he => ?_)
    obtain ⟨hdr1, S1, g1, e1⟩ := he.gd
    obtain ⟨hdr2, S2, g2, e2⟩ := k2.good g1
    rcases k3 with ⟨hy, k4⟩ | ⟨rfl, t3, k4, k5⟩
    · cases k4
      have fin : Ends C Wr pins hdr S a w x σ' ρ' e a1 w1 := ⟨he.ex, ⟨hdr2, S2, g2, e1.trans e2⟩, he.df⟩
      cases e with
      | normal => exact absurd (exitIs_normal he.ex) hy
      | _ => exact fin
    · obtain rfl := exitIs_norm he.ex
      exact wp_mono (symC_run hC hF d L k4 g2 k5) fun e a2 w2 he2 => he2.from (e1.trans e2) he.df
  | .cond c d e, L, σ, t, ρ, hdr, S, Wr, a, w, x, σ', ρ', h, g, hd => by
    simp only [symC] at h
    split at h
    · rename_i hc
      refine wp_cond (t := true) (by rw [condSlot_ok g hc]; rfl) ?_
      simpa using symC_run hC hF d L h g hd
    · rename_i hc
      refine wp_cond (t := false) (by rw [condSlot_ok g hc]; rfl) ?_
      simpa using symC_run hC hF e L h g hd
    · rename_i ex _ _ hc
      simp only [Option.bind_eq_some_iff, Option.map_eq_some_iff] at h
      obtain ⟨ta, h1, tb, h2, rfl⟩ := h
      refine wp_cond (condSlot_ok g hc) ?_
      simp only [TT.den] at hd
      split at hd
      · rename_i hb
        rw [show (ex.den ρ).bool = true from hb, if_pos rfl]
        exact symC_run hC hF d L h1 g hd
      · rename_i hb
        rw [if_neg (show ¬ (ex.den ρ).bool = true from hb)]
        exact symC_run hC hF e L h2 g hd
    · simp only [Option.some.injEq] at h; subst h
      simp [TT.den] at hd
  | .block id c, L, σ, t, ρ, hdr, S, Wr, a, w, x, σ', ρ', h, g, hd => by
    simp only [symC, Option.bind_eq_some_iff] at h
    obtain ⟨t0, h1, h2⟩ := h
    rcases TT.mapL_den h2 hd with ⟨y, s, ρ1, t3, k1, k2, k3⟩ | ⟨y, vs', k1, _⟩
    · simp only [Option.some.injEq] at k2; subst k2
      simp only [TT.den, Option.some.injEq, Out.lf.injEq] at k3
      obtain ⟨rfl, rfl, rfl⟩ := k3
      refine wp_block (wp_mono (symC_run hC hF c L h1 g k1) fun e a1 w1 he => ?_)
      obtain ⟨h3, h4, h5⟩ := he
      cases e with
      | normal =>
        obtain rfl := exitIs_normal h3
        exact ⟨trivial, h4, h5⟩
      | exit id' =>
        show if id' = id then _ else _
        cases y <;> simp only [exitIs] at h3
        subst h3
        by_cases e : id' = id
        · subst e
          rw [if_pos rfl]
          exact ⟨by simp [exitIs], h4, h5⟩
        · rw [if_neg e]
          exact ⟨by simp [e, exitIs], h4, h5⟩
      | ret =>
        cases y <;> simp only [exitIs] at h3
        exact ⟨by simp [exitIs], h4, h5⟩
      | goto l => cases y <;> simp [exitIs] at h3
      | panic l => cases y <;> simp [exitIs] at h3
      | outgrown => cases y <;> simp [exitIs] at h3
    · obtain ⟨_, _, _, e, _⟩ := symC_pure c L h1 g.nv k1
      cases e
  | .scope c, L, σ, t, ρ, hdr, S, Wr, a, w, x, σ', ρ', h, g, hd => by
    simp only [symC] at h
    refine wp_scope_straight (wp_mono (symC_run hC hF c L h g hd) fun e a1 w1 he => ?_)
    cases e with
    | goto l =>
      have := he.ex
      cases x <;> simp [exitIs] at this
    | _ => exact he
  | .loop c, L, σ, t, ρ, hdr, S, Wr, a, w, x, σ', ρ', h, g, hd => by
    simp only [symC] at h
    split at h
    · rename_i tu hu
      simp only [Option.some.injEq] at h; subst h
      exact (unroll_run (symC_pure c _) (symC_run hC hF c _) hu g hd).loop
    · simp only [Option.bind_eq_some_iff, Option.map_eq_some_iff] at h
      obtain ⟨hh, _, tb, h1, init, h2, hs, _, t', h3, ks, h4, rfl⟩ := h
      rw [← g.nv] at h2 h3
      simp only [TT.den] at hd
      split at hd
      · rename_i y vs hi
        obtain ⟨h', k1, k2, k3⟩ := rounds_pure (symC_pure c _) h1 h3 N _ (by rw [match_nv h2]; simp) hi
        obtain ⟨t3, k4, k5⟩ := findH_ks h4 k1 hd
        simp only [Option.some.injEq] at k4; subst k4
        simp only [TT.den, Option.some.injEq, Out.lf.injEq] at k5
        obtain ⟨rfl, rfl, rfl⟩ := k5
        have g' : Good C (ρ ++ []) hdr S Wr σ a w := by rw [List.append_nil]; exact g
        obtain ⟨hdr2, S2, g2, e2⟩ := match_ok h2 g'
        rw [List.append_nil] at g2
        have := rounds_run (symC_pure c _) (symC_run hC hF c _) h1 h3 N _ g2 hi k1
        refine Rounds.loop fun b k cs => ?_
        obtain ⟨e, a', w', q, r⟩ := this b k cs
        exact ⟨e, a', w', q.from e2 rfl, r⟩
      · cases hd
  | .rangeFunc _ _ _ _, L, σ, t, ρ, hdr, S, Wr, a, w, x, σ', ρ', h, g, hd => by
    simp only [symC, Option.some.injEq] at h; subst h
    simp [TT.den] at hd
  | .goto _, L, σ, t, ρ, hdr, S, Wr, a, w, x, σ', ρ', h, g, hd => by
    simp only [symC, Option.some.injEq] at h; subst h
    simp [TT.den] at hd
  | .refuse _, L, σ, t, ρ, hdr, S, Wr, a, w, x, σ', ρ', h, g, hd => by
    simp only [symC, Option.some.injEq] at h; subst h
    simp [TT.den] at hd
end
end Go.Proofs.YthchhkghjfendabGreat.Dx

/- Functions, first part: the state in which a function begins. -/
namespace Go.Proofs.YthchhkghjfendabGreat.Dx
open Go

section
variable {C : Ctx} {F : Nat → List PV → Option (List PV)} {N : Nat} {ρ : List PV} {hdr hdr' : Hdr} {S S' Wr : Nat → Prop} {σ σ' : Sym} {a a' : Act} {w w' : World} {pins : List Nat} {Q Q' : Exit → Act → World → Prop}

theorem lt_of_some {α : Type} {l : List α} {i : Nat} {x : α} (h : l[i]? = some x) : i < l.length := by
  rcases Nat.lt_or_ge i l.length with h' | h'
  · exact h'
  · simp [List.getElem?_eq_none h'] at h

/-- Cells that stand for a site. -/
def isSite : CS → Bool
  | .own _ | .mv _ | .bx _ | .rbx _ => true
  | _ => false
def siteP : List CS → List Value → List (CS × Value)
  | c :: cs, v :: vs => if isSite c then (c, v) :: siteP cs vs else siteP cs vs
  | _, _ => []
theorem siteP_append : ∀ {cs : List CS} {vs : List Value} {cs' : List CS} {vs' : List Value}, cs.length = vs.length → siteP (cs ++ cs') (vs ++ vs') = siteP cs vs ++ siteP cs' vs'
  | [], [], _, _, _ => rfl
  | c :: cs, v :: vs, _, _, h => by
    have := siteP_append (cs := cs) (vs := vs) (cs' := ‹_›) (vs' := ‹_›) (by simpa using h)
    simp only [List.cons_append, siteP, this]
    split <;> rfl
  | [], _ :: _, _, _, h => by simp at h
  | _ :: _, [], _, _, h => by simp at h
theorem liveBs_site : ∀ (cs : List CS) (vs : List Value), liveBs cs vs = (siteP cs vs).flatMap fun p => (lvB p.1 p.2).toList
  | [], vs => by simp [liveBs, siteP]
  | c :: cs, [] => by simp [liveBs, siteP]
  | c :: cs, v :: vs => by
    have := liveBs_site cs vs
    cases c <;> simp [liveBs, siteP, isSite, lvB, this]

theorem box_cells {k : Nat} {ts : List Ty} {cs : List SC} {p : PV} {b : Nat} {fz : Nat × Nat} (hcs : cellsE (.var k) ts 0 ts.length = some cs) (hp : ρ[k]? = some p) (hB : BoxC C S w b fz ts p) :
    ∃ arr e, w.heap[b]? = some (.cells arr e fz) ∧ All2 (SCRel C ρ hdr S w) cs arr.toList ∧ ∀ v ∈ arr.toList, v.oneCell' = true := by
  obtain ⟨arr, e, cp, g1, g2, g3, g4⟩ := hB
  have hp0 : (Exp.var k).den ρ = p := var_den hp
  have key : ∀ j, ∃ v, ∀ t, ts[j]? = some t → arr[j]? = some v ∧ RepC C S w t v (cp j) := fun j => by
    cases ht : ts[j]? with
    | none => exact ⟨undef, fun t h => by cases h⟩
    | some t =>
      obtain ⟨v, q1, q2⟩ := g4 j t ht
      exact ⟨v, fun t' h => by cases h; exact ⟨q1, q2⟩⟩
  obtain ⟨cv, hcv⟩ := Classical.axiomOfChoice key
  have h := cellsE_ok (C := C) (ρ := ρ) (hdr := hdr) (S := S) (w := w) (cv := cv) (cp := cp) (q := (List.range ts.length).map cp) hcs (by rw [hp0, g3]) (fun j hj => by simp [hj]) fun j t ht => (hcv j t ht).2
  have harr : arr.toList = (List.range ts.length).map fun k => cv (0 + k) := by
    refine List.ext_getElem? fun j => ?_
    by_cases hj : j < ts.length
    · have := (hcv j ts[j] (by simp [hj])).1
      simp [hj, this]
    · rw [List.getElem?_eq_none (by simp; omega), List.getElem?_eq_none (by simp; omega)]
  rw [← harr] at h
  exact ⟨arr, e, g1, h, fun u hu => by
    obtain ⟨i, hi⟩ := List.mem_iff_getElem?.1 hu
    obtain ⟨c, _, h⟩ := h.get' hi
    exact h.one⟩

def siteLive : CS → Bool
  | .rbx _ => false
  | _ => true
theorem initCells_ok : ∀ {l : List CS} {k ns : Nat} {cs : List SC} {os : List Obj} {vs : List Value} {ps : List PV}, initCells l k ns = some (cs, os) → All3 (ArgR C S Wr w) l vs ps → (∀ i p, ps[i]? = some p → ρ[k + i]? = some p) →
    (∀ i c v, (siteP l vs)[i]? = some (c, v) → hdr (ns + i) = some v) →
    All2 (SCRel C ρ hdr S w) cs vs ∧ os.length = (siteP l vs).length ∧ (∀ i o, os[i]? = some o → ObjR C ρ hdr S Wr w (ns + i) o ∧ ∃ c v, (siteP l vs)[i]? = some (c, v) ∧ (o.live = true → siteLive c = true)) ∧
      cs.all (·.closed (k + l.length)) = true ∧ os.all (·.closed (k + l.length)) = true
  | [], k, ns, cs, os, [], [], h, _, _, _ => by
    simp only [initCells, Option.some.injEq, Prod.mk.injEq] at h
    obtain ⟨rfl, rfl⟩ := h
    exact ⟨trivial, rfl, fun i o h => by simp at h, rfl, rfl⟩
  | c :: l, k, ns, cs, os, v :: vs, p :: ps, h, ⟨h1, h2⟩, hp, hh => by
    have hp00 : ρ[k]? = some p := hp 0 p rfl
    have hp0 : (Exp.var k).den ρ = p := var_den hp00
    have hps : ∀ i p, ps[i]? = some p → ρ[k + 1 + i]? = some p := fun i q hq => by
      have := hp (i + 1) q (by simpa using hq)
      rwa [show k + (i + 1) = k + 1 + i by omega] at this
    have hlen : k + (c :: l).length = k + 1 + l.length := by simp; omega
    have hvc : (Exp.var k).closed (k + 1 + l.length) = true := by simp [Exp.closed]; omega
    have one : ∀ {x : SC} {xs : List SC} {ys : List Obj} (_ : isSite c = false) (_ : initCells l (k + 1) ns = some (xs, ys)) (_ : cs = x :: xs) (_ : os = ys) (_ : SCRel C ρ hdr S w x v) (_ : x.closed (k + 1 + l.length) = true),
        All2 (SCRel C ρ hdr S w) cs (v :: vs) ∧ os.length = (siteP (c :: l) (v :: vs)).length ∧ (∀ i o, os[i]? = some o → ObjR C ρ hdr S Wr w (ns + i) o ∧ ∃ c' v', (siteP (c :: l) (v :: vs))[i]? = some (c', v') ∧ (o.live = true → siteLive c' = true)) ∧
          cs.all (·.closed (k + (c :: l).length)) = true ∧ os.all (·.closed (k + (c :: l).length)) = true := fun {x xs ys} hs hi ecs eos hx hxc => by
      subst ecs eos
      have hsp : siteP (c :: l) (v :: vs) = siteP l vs := by simp [siteP, hs]
      rw [hsp] at hh ⊢
      obtain ⟨i1, i2, i3, i4, i5⟩ := initCells_ok hi h2 hps hh
      rw [hlen]
      exact ⟨⟨hx, i1⟩, i2, i3, by simp only [List.all_cons, hxc, i4, Bool.and_self], i5⟩
    have site : ∀ {x : SC} {ob : Obj} {xs : List SC} {ys : List Obj} (_ : isSite c = true) (_ : initCells l (k + 1) (ns + 1) = some (xs, ys)) (_ : cs = x :: xs) (_ : os = ob :: ys) (_ : hdr ns = some v → SCRel C ρ hdr S w x v) (_ : x.closed (k + 1 + l.length) = true)
        (_ : hdr ns = some v → ObjR C ρ hdr S Wr w ns ob) (_ : ob.closed (k + 1 + l.length) = true) (_ : ob.live = true → siteLive c = true),
        All2 (SCRel C ρ hdr S w) cs (v :: vs) ∧ os.length = (siteP (c :: l) (v :: vs)).length ∧ (∀ i o, os[i]? = some o → ObjR C ρ hdr S Wr w (ns + i) o ∧ ∃ c' v', (siteP (c :: l) (v :: vs))[i]? = some (c', v') ∧ (o.live = true → siteLive c' = true)) ∧
          cs.all (·.closed (k + (c :: l).length)) = true ∧ os.all (·.closed (k + (c :: l).length)) = true := fun {x ob xs ys} hs hi ecs eos hx hxc hob hobc hlv => by
      subst ecs eos
      have hsp : siteP (c :: l) (v :: vs) = (c, v) :: siteP l vs := by simp [siteP, hs]
      rw [hsp] at hh ⊢
      have h0 := hh 0 c v rfl
      obtain ⟨i1, i2, i3, i4, i5⟩ := initCells_ok hi h2 hps fun i c' v' hi => by
        have := hh (i + 1) c' v' (by simpa using hi)
        rwa [show ns + (i + 1) = ns + 1 + i by omega] at this
      rw [hlen]
      refine ⟨⟨hx h0, i1⟩, by simp [i2], fun i o ho => ?_, by simp only [List.all_cons, hxc, i4, Bool.and_self], by simp only [List.all_cons, hobc, i5, Bool.and_self]⟩
      cases i with
      | zero => simp at ho; subst ho; exact ⟨hob h0, c, v, rfl, hlv⟩
      | succ i =>
        have := i3 i o (by simpa using ho)
        rw [show ns + 1 + i = ns + (i + 1) by omega] at this
        simpa using this
    cases c with
    | sc κ =>
      simp only [initCells, Option.map_eq_some_iff, Prod.mk.injEq] at h
      obtain ⟨⟨xs, ys⟩, h3, rfl, rfl⟩ := h
      exact one rfl h3 rfl rfl ⟨h1.1, hp0.trans h1.2⟩ hvc
    | ro t =>
      simp only [initCells, Option.map_eq_some_iff, Prod.mk.injEq] at h
      obtain ⟨⟨xs, ys⟩, h3, rfl, rfl⟩ := h
      refine one rfl h3 rfl rfl ?_ hvc
      show RepC C S w _ _ _
      rw [hp0]; exact h1
    | fnv n m =>
      simp only [initCells, Option.map_eq_some_iff, Prod.mk.injEq] at h
      obtain ⟨⟨xs, ys⟩, h3, rfl, rfl⟩ := h
      refine one rfl h3 rfl rfl ?_ hvc
      show RepC C S w _ _ _
      rw [hp0]; exact h1
    | own t =>
      simp only [initCells, Option.map_eq_some_iff, Prod.mk.injEq] at h
      obtain ⟨⟨xs, ys⟩, h3, rfl, rfl⟩ := h
      exact site rfl h3 rfl rfl (fun h0 => ⟨h0, RowR.one h1⟩) rfl (fun h0 => ⟨v, h0, by rw [hp0]; exact h1⟩) hvc fun _ => rfl
    | mv t =>
      simp only [initCells, Option.map_eq_some_iff, Prod.mk.injEq] at h
      obtain ⟨⟨xs, ys⟩, h3, rfl, rfl⟩ := h
      exact site rfl h3 rfl rfl (fun h0 => ⟨h0, RowR.one h1⟩) rfl (fun h0 => ⟨v, h0, by rw [hp0]; exact h1⟩) hvc fun _ => rfl
    | bx ts =>
      simp only [initCells, Option.bind_eq_some_iff, Option.map_eq_some_iff, Prod.mk.injEq] at h
      obtain ⟨⟨xs, ys⟩, h3, cl, h4, rfl, rfl⟩ := h
      obtain ⟨b, rfl, hB, g5, g6⟩ := h1
      obtain ⟨arr, e, k1, k2, k3⟩ := box_cells (hdr := hdr) h4 hp00 hB
      exact site rfl h3 rfl rfl (fun h0 => ⟨b, h0, rfl⟩) rfl (fun h0 => ⟨b, arr, e, h0, k1, k2, k3, g5, g6⟩) (cellsE_closed h4 hvc) fun _ => rfl
    | rbx ts =>
      simp only [initCells, Option.bind_eq_some_iff, Option.map_eq_some_iff, Prod.mk.injEq] at h
      obtain ⟨⟨xs, ys⟩, h3, cl, h4, rfl, rfl⟩ := h
      obtain ⟨b, fz, rfl, hB, g5⟩ := h1
      obtain ⟨arr, e, k1, k2, k3⟩ := box_cells (hdr := hdr) h4 hp00 hB
      exact site rfl h3 rfl rfl (fun h0 => ⟨b, h0, rfl⟩) rfl (fun h0 => ⟨b, arr, e, fz, h0, k1, k2, k3, g5⟩) (cellsE_closed h4 hvc) fun h => by simp [Obj.live] at h
  | [], _, _, _, _, [], _ :: _, _, h, _, _ => h.elim
  | [], _, _, _, _, _ :: _, _, _, h, _, _ => h.elim
  | _ :: _, _, _, _, _, [], _, _, h, _, _ => h.elim
  | _ :: _, _, _, _, _, _ :: _, [], _, h, _, _ => h.elim

theorem initAll_ok : ∀ {l : List (Bool × List CS)} {k ns : Nat} {xs : List SV} {os : List Obj} {us vs : List Value} {ps : List PV}, initAll l k ns = some (xs, os) → Grp l us vs → All3 (ArgR C S Wr w) (l.flatMap (·.2)) vs ps → (∀ i p, ps[i]? = some p → ρ[k + i]? = some p) →
    (∀ i c v, (siteP (l.flatMap (·.2)) vs)[i]? = some (c, v) → hdr (ns + i) = some v) →
    All2 (SVRel C ρ hdr S w) xs us ∧ os.length = (siteP (l.flatMap (·.2)) vs).length ∧ (∀ i o, os[i]? = some o → ObjR C ρ hdr S Wr w (ns + i) o ∧ ∃ c v, (siteP (l.flatMap (·.2)) vs)[i]? = some (c, v) ∧ (o.live = true → siteLive c = true)) ∧
      xs.all (·.closed (k + (l.map (·.2.length)).sum)) = true ∧ os.all (·.closed (k + (l.map (·.2.length)).sum)) = true
  | [], k, ns, xs, os, us, vs, ps, h, ⟨h1, h2⟩, _, _, _ => by
    subst h1 h2
    simp only [initAll, Option.some.injEq, Prod.mk.injEq] at h
    obtain ⟨rfl, rfl⟩ := h
    exact ⟨trivial, rfl, fun i o h => by simp at h, rfl, rfl⟩
  | (b, l) :: r, k, ns, xs, os, us, vs, ps, h, hg, har, hp, hh => by
    simp only [initAll, Option.bind_eq_bind, Option.bind_eq_some_iff, Option.some.injEq, Prod.mk.injEq] at h
    obtain ⟨⟨cs, o1⟩, h1, x, h2, ⟨xs', o2⟩, h3, rfl, rfl⟩ := h
    obtain ⟨u, us', c1, c2, rfl, rfl, hl, hb, hg'⟩ := hg
    obtain ⟨p1, p2, rfl, a1, a2⟩ := All3.split (as := l) (bs := c1) (by simpa using har) hl.symm
    have hl1 := a1.length.2
    rw [show List.flatMap (fun x : Bool × List CS => x.2) ((b, l) :: r) = l ++ r.flatMap (·.2) by simp, siteP_append hl.symm] at hh ⊢
    obtain ⟨i1, i2, i3, i4, i5⟩ := initCells_ok (ρ := ρ) (hdr := hdr) h1 a1 (fun i p hi => hp i p (by
      rw [List.getElem?_append_left (lt_of_some hi)]; exact hi)) fun i c v hv => hh i c v (by
      rw [List.getElem?_append_left (lt_of_some hv)]; exact hv)
    obtain ⟨j1, j2, j3, j4, j5⟩ := initAll_ok h3 hg' a2 (fun i p hi => by
      have := hp (l.length + i) p (by rw [List.getElem?_append_right (by omega)]; rw [hl1]; simpa using hi)
      rwa [← Nat.add_assoc] at this) fun i c v hv => by
      have := hh ((siteP l c1).length + i) c v (by rw [List.getElem?_append_right (by omega)]; simpa using hv)
      rwa [← Nat.add_assoc, ← i2] at this
    have hsum : k + (((b, l) :: r).map (·.2.length)).sum = k + l.length + (r.map (·.2.length)).sum := by simp; omega
    rw [hsum]
    refine ⟨⟨?_, j1⟩, by rw [List.length_append, List.length_append, i2, j2], fun i o ho => ?_, ?_, ?_⟩
    · have := mkSV_ok h2 i1
      cases b
      · simp only [Bool.false_eq_true, if_false] at hb this
        subst hb
        exact this
      · simp only [if_true] at hb this
        rw [hb]; exact this
    · rcases Nat.lt_or_ge i o1.length with hlt | hge
      · rw [List.getElem?_append_left hlt] at ho
        obtain ⟨k1, c, v, k2, k3⟩ := i3 i o ho
        exact ⟨k1, c, v, by rw [List.getElem?_append_left (lt_of_some k2)]; exact k2, k3⟩
      · rw [List.getElem?_append_right hge] at ho
        obtain ⟨k1, c, v, k2, k3⟩ := j3 _ o ho
        refine ⟨by rwa [show ns + o1.length + (i - o1.length) = ns + i by omega] at k1, c, v, ?_, k3⟩
        rw [List.getElem?_append_right (by omega), ← i2]; exact k2
    · simp only [List.all_cons, j4, Bool.and_true]
      exact SV.closed_mono (mkSV_closed h2 i4) (by omega)
    · rw [List.all_append, j5, Bool.and_true]
      exact all_mono i5 fun _ h => Obj.closed_mono h (by omega)

theorem flat_two' {α : Type} {f : α → Option Nat} : ∀ {L : List α}, (L.flatMap fun x => (f x).toList).Nodup → ∀ {i j : Nat} {x y : α} {b : Nat}, L[i]? = some x → L[j]? = some y → i ≠ j → f x = some b → f y ≠ some b
  | [], _, i, j, x, y, b, h, _, _, _ => by simp at h
  | z :: L, hn, i, j, x, y, b, hi, hj, hne, h1 => by
    intro h2
    rw [List.flatMap_cons, List.nodup_append] at hn
    obtain ⟨_, n2, n3⟩ := hn
    cases i with
    | zero =>
      cases j with
      | zero => exact hne rfl
      | succ j =>
        simp at hi hj; subst hi
        exact n3 b (by simp [h1]) b (List.mem_flatMap.2 ⟨y, List.mem_of_getElem? hj, by simp [h2]⟩) rfl
    | succ i =>
      cases j with
      | zero =>
        simp at hi hj; subst hj
        exact n3 b (by simp [h2]) b (List.mem_flatMap.2 ⟨x, List.mem_of_getElem? hi, by simp [h1]⟩) rfl
      | succ j =>
        simp at hi hj
        exact flat_two' n2 hi hj (by omega) h1 h2

def hdrF (l : List (CS × Value)) : Hdr := fun s => (l[s]?).map (·.2)
/-- The state in which a function begins. -/
theorem init_good {sp : Spec} {xs : List SV} {os : List Obj} {us vs : List Value} {ps : List PV} {nt : Nat} (h : initAll sp.params 0 0 = some (xs, os)) (hsb : ∀ b, S b → b < w.heap.size) (hW : ∀ b, w.heap.size ≤ b → Wr b)
    (hg : Grp sp.params us vs) (har : All3 (ArgR C S Wr w) (sp.params.flatMap (·.2)) vs ps) (hnd : (liveBs (sp.params.flatMap (·.2)) vs).Nodup) :
    Good C ps (hdrF (siteP (sp.params.flatMap (·.2)) vs)) S Wr { tm := xs.map (fun v => some ⟨[], v⟩) ++ List.replicate (nt - xs.length) none, objs := os.map some, nv := nPar sp }
      { tmps := us.toArray ++ Array.replicate (nt - us.toArray.size) undef, defers := [] } w := by
  have hnv : ps.length = nPar sp := by
    rw [har.length.2, nPar, List.length_flatMap]
  obtain ⟨i1, i2, i3, i4, i5⟩ := initAll_ok (ρ := ps) (hdr := hdrF (siteP (sp.params.flatMap (·.2)) vs)) h hg har (fun i p hi => by simpa using hi) fun i c v hi => by simp [hdrF, hi]
  have hxl := i1.length
  have hob : ∀ (s : Nat) (o : Obj), Sym.ob { tm := xs.map (fun v => some ⟨[], v⟩) ++ List.replicate (nt - xs.length) none, objs := os.map some, nv := nPar sp } s = some o → os[s]? = some o := fun s o ho => by
    simp only [Sym.ob, List.getElem?_map] at ho
    cases hx : os[s]? with
    | none => simp [hx] at ho
    | some y => simp [hx] at ho; rw [ho]
  have hev : ∀ (t : Nat) (s : Slot), Sym.ev { tm := xs.map (fun v => some ⟨[], v⟩) ++ List.replicate (nt - xs.length) none, objs := os.map some, nv := nPar sp } t = some s → ∃ x, xs[t]? = some x ∧ s = ⟨[], x⟩ := fun t s ht => by
    simp only [Sym.ev] at ht
    rcases Nat.lt_or_ge t xs.length with hlt | hge
    · rw [List.getElem?_append_left (by simpa using hlt)] at ht
      simp [hlt] at ht
      exact ⟨xs[t], by simp [hlt], ht.symm⟩
    · rw [List.getElem?_append_right (by simpa using hge)] at ht
      simp [List.getElem?_replicate] at ht
      split at ht <;> simp at ht
  have hcl : ∀ {l : List (Bool × List CS)}, 0 + (l.map (·.2.length)).sum = (l.map (·.2.length)).sum := by simp
  rw [hcl] at i4 i5
  refine ⟨⟨?_, fun t s ht => ?_, fun s o ho => ?_, fun s s' o o' h1 h2 h3 h4 hne b hb => ?_, hsb, ?_, fun s v hv => ?_⟩, hnv, fun s hs => ?_, hW⟩
  · simp [hxl]
  · obtain ⟨x, hx, rfl⟩ := hev t s ht
    obtain ⟨u, hu, hr⟩ := i1.get hx
    have : (us.toArray ++ Array.replicate (nt - us.toArray.size) undef).getD t undef = u := by
      have hlt := lt_of_some hu
      rw [Array.getD_eq_getD_getElem?, Array.getElem?_append_left (by simpa using hlt)]
      simp [hu]
    dsimp only
    rw [this]
    exact ⟨fun _ => hr, fun hn => absurd (by intro p hp; simp at hp) hn⟩
  · have := (i3 s o (hob s o ho)).1
    rwa [Nat.zero_add] at this
  · obtain ⟨k1, c, v, k2, k3⟩ := i3 s o (hob s o h1)
    obtain ⟨k1', c', v', k2', k3'⟩ := i3 s' o' (hob s' o' h2)
    rw [liveBs_site] at hnd
    have hl : ∀ {c : CS} {v : Value} {s : Nat}, (siteP (sp.params.flatMap (·.2)) vs)[s]? = some (c, v) → siteLive c = true → isSite c = true → blk (hdrF (siteP (sp.params.flatMap (·.2)) vs)) s = lvB c v := fun {c v s} hs hl hsi => by
      rw [blk_eq (v := v) (by simp [hdrF, hs])]
      cases c <;> simp [siteLive, isSite] at hl hsi <;> rfl
    have hsite : ∀ {cs : List CS} {vs : List Value} {s : Nat} {c : CS} {v : Value}, (siteP cs vs)[s]? = some (c, v) → isSite c = true := fun {cs} => by
      induction cs with
      | nil => intro vs s c v h; simp [siteP] at h
      | cons x cs ih =>
        intro vs s c v h
        cases vs with
        | nil => simp [siteP] at h
        | cons u vs =>
          simp only [siteP] at h
          split at h
          · rename_i hx
            cases s with
            | zero => simp at h; rw [← h.1]; exact hx
            | succ s => exact ih (by simpa using h)
          · exact ih h
    rw [hl k2 (k3 h3) (hsite k2)] at hb
    rw [hl k2' (k3' h4) (hsite k2')]
    exact flat_two' (f := fun p : CS × Value => lvB p.1 p.2) hnd k2 k2' hne hb
  · refine Sym.closed_of (fun t s ht => ?_) fun s o ho => ?_
    · obtain ⟨x, hx, rfl⟩ := hev t s ht
      rw [List.all_eq_true] at i4
      simp only [Slot.closed, gdClosed, List.all_nil, Bool.true_and]
      rw [hnv]
      exact i4 x (List.mem_of_getElem? hx)
    · rw [List.all_eq_true] at i5
      rw [hnv]
      exact i5 o (List.mem_of_getElem? (hob s o ho))
  · have : ∀ (cs : List CS) (vs : List Value) (ps : List PV), All3 (ArgR C S Wr w) cs vs ps → ∀ p ∈ siteP cs vs, p.2.oneCell' = true := fun cs => by
      induction cs with
      | nil => intro vs ps h p hp; simp [siteP] at hp
      | cons c cs ih =>
        intro vs ps h p hp
        match vs, ps, h with
        | u :: vs, q :: ps, ⟨h1, h2⟩ =>
          simp only [siteP] at hp
          split at hp
          · rename_i hs
            rcases List.mem_cons.1 hp with rfl | hp
            · cases c with
              | own t => exact RowR.one h1
              | mv t => exact RowR.one h1
              | bx ts => obtain ⟨b, rfl, _⟩ := h1; rfl
              | rbx ts => obtain ⟨b, fz, rfl, _⟩ := h1; rfl
              | _ => simp [isSite] at hs
            · exact ih vs ps h2 p hp
          · exact ih vs ps h2 p hp
    unfold hdrF at hv
    simp only [Option.map_eq_some_iff] at hv
    obtain ⟨p, hp, rfl⟩ := hv
    exact this _ _ _ har p (List.mem_of_getElem? hp)
  · simp only [List.length_map] at hs
    unfold hdrF
    rw [List.getElem?_eq_none (by omega)]; rfl
end
end Go.Proofs.YthchhkghjfendabGreat.Dx

/- Functions, second part: what a function hands back. -/
namespace Go.Proofs.YthchhkghjfendabGreat.Dx
open Go

section
variable {C : Ctx} {F : Nat → List PV → Option (List PV)} {N : Nat} {ρ : List PV} {hdr hdr' : Hdr} {S S2 S' Wr : Nat → Prop} {σ σ2 σ' : Sym} {a a' : Act} {w w' : World} {pins : List Nat} {Q Q' : Exit → Act → World → Prop}

/-- Rows of a list that are from now on only read. -/
structure FzS (C : Ctx) (ρ : List PV) (hdr : Hdr) (S2 Wr : Nat → Prop) (σ σ2 : Sym) (a : Act) (w : World) (fs : List Nat) : Prop where
  st : St C ρ hdr S2 Wr σ2 a w
  tm : σ2.tm = σ.tm
  fz : ∀ s ∈ fs, ∀ x t, σ.ob s = some (.row x t) → σ2.ob s = some (.rrow x t)
  nf : ∀ s, s ∉ fs → σ2.ob s = σ.ob s
  nr : ∀ s, (∀ x t, σ.ob s ≠ some (.row x t)) → σ2.ob s = σ.ob s
theorem freeze_list (st : St C ρ hdr S Wr σ a w) (fs : List Nat) : ∃ σ2 S2, FzS C ρ hdr S2 Wr σ σ2 a w fs ∧ Ev Wr 0 0 hdr S w hdr S2 w := by
  let us : List (Nat × Obj) := fs.filterMap fun s => match σ.ob s with | some (.row x t) => some (s, .rrow x t) | _ => none
  have hus : ∀ u ∈ us, ∃ x t, u.2 = .rrow x t ∧ σ.ob u.1 = some (.row x t) ∧ u.1 ∈ fs := fun u hu => by
    obtain ⟨s, h1, h2⟩ := List.mem_filterMap.1 hu
    split at h2
    · rename_i x t ho
      cases h2; exact ⟨x, t, rfl, ho, h1⟩
    · cases h2
  obtain ⟨S1, st1, ev1⟩ := st.freezes (us := us) (ns := 0) (k := 0) fun u hu => by
    obtain ⟨x, t, k1, k2, _⟩ := hus u hu; exact ⟨x, t, k1, .inl k2⟩
  refine ⟨setObs σ us, S1, ⟨st1, rfl, fun s hs x t ho => ?_, fun s hs => ?_, fun s hs => ?_⟩, ev1⟩
  · refine setObs_ob_some us σ s _ (fun u hu e => ?_) (.inl ⟨(s, .rrow x t), List.mem_filterMap.2 ⟨s, hs, by simp [ho]⟩, rfl⟩)
    obtain ⟨x', t', k1, k2, _⟩ := hus u hu
    rw [e, ho] at k2; cases k2; exact k1
  · refine setObs_ob_none us σ s fun u hu e => ?_
    obtain ⟨_, _, _, _, k⟩ := hus u hu
    rw [e] at k; exact hs k
  · refine setObs_ob_none us σ s fun u hu e => ?_
    obtain ⟨x, t, _, k, _⟩ := hus u hu
    rw [e] at k; exact hs x t k
theorem FzS.frozen {fs : List Nat} (J : FzS C ρ hdr S2 Wr σ σ2 a w fs) {s : Nat} (hs : s ∈ fs ∨ ∃ x t, σ.ob s = some (.rrow x t)) : Frozen σ σ2 [s] := by
  intro s' hs' y t hy
  simp only [List.mem_singleton] at hs'
  subst hs'
  rcases hy with hy | hy
  · rcases hs with hs | ⟨x, t', hs⟩
    · exact J.fz _ hs _ _ hy
    · rw [hs] at hy; cases hy
  · rw [J.nr s' (fun x t' h => by rw [hy] at h; cases h)]; exact hy

def resB (r : RS) (v : Value) : Option Nat := match r with | .own _ => vblk v | _ => none
theorem resBs_flat : ∀ (rs : List RS) (vs : List Value), rs.length = vs.length → resBs rs vs = (List.zip rs vs).flatMap fun p => (resB p.1 p.2).toList
  | [], [], _ => rfl
  | r :: rs, v :: vs, h => by
    have := resBs_flat rs vs (by simpa using h)
    cases r <;> simp [resBs, resB, this]
  | [], _ :: _, h => by simp at h
  | _ :: _, [], h => by simp at h
theorem outC_ok {fs : List Nat} (J : FzS C ρ hdr S2 Wr σ σ2 a w fs) {c : SC} {r : RS} {v : Value} {x : Exp} {f o : List Nat} (h : outC σ c r = some (x, f, o)) (hv : SCRel C ρ hdr S2 w c v) (hf : ∀ s ∈ f, s ∈ fs) (ho : ∀ s ∈ o, s ∉ fs) :
    ResR C S2 Wr w r v (x.den ρ) ∧ (resB r v).toList = o.flatMap (fun s => (blk hdr s).toList) ∧ ∀ s ∈ o, ∃ ob, σ2.ob s = some ob ∧ ob.live = true := by
  unfold outC at h
  split at h
  · rename_i κ
    split at h
    · rename_i x' κ'
      split at h
      · rename_i hk
        simp only [beq_iff_eq] at hk
        subst hk
        simp only [Option.some.injEq, Prod.mk.injEq] at h
        obtain ⟨rfl, rfl, rfl⟩ := h
        exact ⟨hv, rfl, fun s hs => by simp at hs⟩
      · cases h
    · cases h
  · rename_i t
    split at h
    · rename_i x' t'
      split at h
      · rename_i hk
        simp only [beq_iff_eq] at hk
        subst hk
        simp only [Option.some.injEq, Prod.mk.injEq] at h
        obtain ⟨rfl, rfl, rfl⟩ := h
        exact ⟨hv, rfl, fun s hs => by simp at hs⟩
      · cases h
    · simp only [Option.some.injEq, Prod.mk.injEq] at h
      obtain ⟨rfl, rfl, rfl⟩ := h
      cases hv
      exact ⟨RepC.nil, rfl, fun s hs => by simp at hs⟩
    · rename_i s
      split at h
      · rename_i x' t' hob
        split at h
        · rename_i hk
          simp only [beq_iff_eq] at hk
          subst hk
          simp only [Option.some.injEq, Prod.mk.injEq] at h
          obtain ⟨rfl, rfl, rfl⟩ := h
          exact ⟨listE_rep (σ := σ) J.st (c := .own s) (t' := some t) (by simp [listE, hob]) hv (J.frozen (.inl (hf s (by simp)))) (by simp [fits]), rfl, fun s hs => by simp at hs⟩
        · cases h
      · rename_i x' t' hob
        split at h
        · rename_i hk
          simp only [beq_iff_eq] at hk
          subst hk
          simp only [Option.some.injEq, Prod.mk.injEq] at h
          obtain ⟨rfl, rfl, rfl⟩ := h
          exact ⟨listE_rep (σ := σ) J.st (c := .own s) (t' := some t) (by simp [listE, hob]) hv (J.frozen (.inr ⟨_, _, hob⟩)) (by simp [fits]), rfl, fun s hs => by simp at hs⟩
        · cases h
      · cases h
    · rename_i s z off len
      split at h
      · rename_i x' t' hob
        split at h
        · rename_i hk
          simp only [Bool.and_eq_true, beq_iff_eq] at hk
          obtain ⟨rfl, hz⟩ := hk
          simp only [Option.some.injEq, Prod.mk.injEq] at h
          obtain ⟨rfl, rfl, rfl⟩ := h
          exact ⟨listE_rep (σ := σ) J.st (c := .sub s z off len) (t' := some t) (by simp [listE, hob, hz]) hv (J.frozen (.inl (hf s (by simp)))) (by simp [fits]), rfl, fun s hs => by simp at hs⟩
        · cases h
      · rename_i x' t' hob
        split at h
        · rename_i hk
          simp only [Bool.and_eq_true, beq_iff_eq] at hk
          obtain ⟨rfl, hz⟩ := hk
          simp only [Option.some.injEq, Prod.mk.injEq] at h
          obtain ⟨rfl, rfl, rfl⟩ := h
          exact ⟨listE_rep (σ := σ) J.st (c := .sub s z off len) (t' := some t) (by simp [listE, hob, hz]) hv (J.frozen (.inr ⟨_, _, hob⟩)) (by simp [fits]), rfl, fun s hs => by simp at hs⟩
        · cases h
      · cases h
    · cases h
  · rename_i t
    split at h
    · simp only [Option.some.injEq, Prod.mk.injEq] at h
      obtain ⟨rfl, rfl, rfl⟩ := h
      cases hv
      exact ⟨.inl ⟨rfl, rfl⟩, rfl, fun s hs => by simp at hs⟩
    · rename_i s
      split at h
      · rename_i x' t' hob
        split at h
        · rename_i hk
          simp only [beq_iff_eq] at hk
          subst hk
          simp only [Option.some.injEq, Prod.mk.injEq] at h
          obtain ⟨rfl, rfl, rfl⟩ := h
          have hob2 : σ2.ob s = some (.row x' t) := by rw [J.nf s (ho s (by simp))]; exact hob
          obtain ⟨hd, k1, k2⟩ := J.st.ob _ _ hob2
          have := hv.1
          rw [k1] at this; cases this
          exact ⟨k2, by simp [resB, blk_eq k1], fun s' hs => by simp at hs; subst hs; exact ⟨_, hob2, rfl⟩⟩
        · cases h
      · cases h
    · rename_i s z len
      split at h
      · rename_i x' t' hob
        split at h
        · rename_i hk
          simp only [Bool.and_eq_true, beq_iff_eq] at hk
          obtain ⟨rfl, rfl⟩ := hk
          simp only [Option.some.injEq, Prod.mk.injEq] at h
          obtain ⟨rfl, rfl, rfl⟩ := h
          have hob2 : σ2.ob s = some (.row x' t) := by rw [J.nf s (ho s (by simp))]; exact hob
          obtain ⟨hd, k1, k2⟩ := J.st.ob _ _ hob2
          obtain ⟨l, e1, _, e3⟩ := hv
          have hoff : ((Exp.int IntKind.i64 0).den ρ).int = 0 := rfl
          rw [hoff] at e3
          have hden : (Exp.bi .take (.bi .drop x' lit0) len).den ρ = .l (((x'.den ρ).list).take l) := by
            show PV.l ((PV.l ((x'.den ρ).list.drop 0)).list.take (len.den ρ).int.toNat) = _
            rw [e1]; rfl
          rw [hden]
          have hlive : ∀ s' ∈ [s], ∃ ob, σ2.ob s' = some ob ∧ ob.live = true := fun s' hs => by simp at hs; subst hs; exact ⟨_, hob2, rfl⟩
          rcases e3 with ⟨e4, e5, e6, _⟩ | ⟨b, n, cap, q, cap', e4, e5, e6, e7, e8, e9⟩
          · subst e5 e6
            exact ⟨.inl ⟨rfl, by simp⟩, by simp [resB, vblk, blk_eq e4], hlive⟩
          · have hq : q = 0 := by
              rcases e6 with e6 | ⟨_, e6⟩
              · simpa using e6
              · exact e6 rfl
            subst hq
            rw [k1] at e4; cases e4
            subst e5
            refine ⟨?_, by simp [resB, vblk, blk_eq k1], hlive⟩
            rcases k2 with ⟨h, _⟩ | ⟨b', n', cap0, arr, et, xs, cp, j1, j2, j3, j4, j5, j6, j7, j8, j9, j10⟩
            · cases h
            · cases j1
              rw [j5]
              simp only [PV.list]
              simp only [Int.toNat_zero, Nat.zero_add] at e7 e9
              refine .inr ⟨_, l, cap', arr, et, xs.take l, cp, rfl, j2, j3, j4, rfl, by simp; omega, e8, Nat.le_trans (Nat.mul_le_mul_right _ e9) j8, fun i p hi => j9 i p ?_, fun i j t' hi hj => j10 i j t' (by omega) hj⟩
              rw [List.getElem?_take] at hi
              split at hi
              · exact hi
              · cases hi
        · cases h
      · cases h
    · cases h
theorem outCs_ok {fs : List Nat} (J : FzS C ρ hdr S2 Wr σ σ2 a w fs) : ∀ {cs : List SC} {rs : List RS} {vs : List Value} {xs : List Exp} {f o : List Nat}, outCs σ cs rs = some (xs, f, o) → All2 (SCRel C ρ hdr S2 w) cs vs → (∀ s ∈ f, s ∈ fs) → (∀ s ∈ o, s ∉ fs) →
    All3 (ResR C S2 Wr w) rs vs (xs.map (Exp.den ρ)) ∧ resBs rs vs = o.flatMap (fun s => (blk hdr s).toList) ∧ (∀ s ∈ o, ∃ ob, σ2.ob s = some ob ∧ ob.live = true) ∧ vs.length = rs.length
  | [], [], vs, xs, f, o, h, hv, _, _ => by
    simp only [outCs, Option.some.injEq, Prod.mk.injEq] at h
    obtain ⟨rfl, rfl, rfl⟩ := h
    cases vs with
    | nil => exact ⟨trivial, by simp [resBs], fun s hs => by simp at hs, rfl⟩
    | cons => exact hv.elim
  | c :: cs, r :: rs, vs, xs, f, o, h, hv, hf, ho => by
    simp only [outCs, Option.bind_eq_bind, Option.bind_eq_some_iff, Option.some.injEq, Prod.mk.injEq] at h
    obtain ⟨⟨x, f1, o1⟩, h1, ⟨xs', f2, o2⟩, h2, rfl, rfl, rfl⟩ := h
    cases vs with
    | nil => exact hv.elim
    | cons v vs =>
      obtain ⟨i1, i2, i3⟩ := outC_ok J h1 hv.1 (fun s hs => hf s (by simp [hs])) (fun s hs => ho s (by simp [hs]))
      obtain ⟨j1, j2, j3, j4⟩ := outCs_ok J h2 hv.2 (fun s hs => hf s (by simp [hs])) (fun s hs => ho s (by simp [hs]))
      refine ⟨⟨i1, j1⟩, ?_, fun s hs => ?_, by simp [j4]⟩
      · rw [List.flatMap_append, ← i2, ← j2, resBs_flat _ _ (by simp [j4]), resBs_flat _ _ j4.symm]
        simp
      · rcases List.mem_append.1 hs with hs | hs
        · exact i3 s hs
        · exact j3 s hs
  | [], _ :: _, _, _, _, _, h, _, _, _ => by simp [outCs] at h
  | _ :: _, [], _, _, _, _, h, _, _, _ => by simp [outCs] at h

def resRun (tmps : Array Value) : ResultVar → Sem Value
  | .tmp t => pure (tmps.getD t undef)
  | .cell a t => do loadVar t (← asAddr (tmps.getD a undef))
theorem mapM_run {P : Program} {α : Type} {f : α → Sem Value} : ∀ {l : List α} {us : List Value}, All2 (fun rv u => (f rv).run P w = .ok u w) l us → (l.mapM f).run P w = .ok us w
  | [], [], _ => by simp
  | x :: l, u :: us, ⟨h1, h2⟩ => by
    rw [List.mapM_cons]
    simp only [Sem.run_bind, h1, Result.andThen_ok, mapM_run h2, Sem.run_pure]
  | [], _ :: _, h => h.elim
  | _ :: _, [], h => h.elim
theorem results_run {P : Program} {fn : Func} {tmps : Array Value} {us : List Value} (h : All2 (fun rv u => (resRun tmps rv).run P w = .ok u w) fn.results.toList us) : (results fn tmps).run P w = .ok (retOf us) w := by
  have : results fn tmps = (do
      let vs ← fn.results.mapM (resRun tmps)
      pure (if h : vs.size = 1 then vs[0] else .tuple vs)) := by
    unfold results
    congr 1
  rw [this, Array.mapM_eq_mapM_toList]
  simp only [Sem.run_bind, Sem.run_map, mapM_run h, Result.andThen_ok, Sem.run_pure]
  cases us with
  | nil => rfl
  | cons u us =>
    cases us with
    | nil => rfl
    | cons => rfl

theorem resOf_ok {fs : List Nat} (J : FzS C ρ hdr S2 Wr σ σ2 a w fs) {rv : ResultVar} {agg : Bool} {n : Nat} {x : SV} (h : resOf C.P σ rv agg n = some x) : ∃ u, (resRun a.tmps rv).run C.P w = .ok u w ∧ SVRel C ρ hdr S2 w x u := by
  have hev : ∀ t, σ2.ev t = σ.ev t := fun t => by simp [Sym.ev, J.tm]
  have hnil : gdHolds ρ [] := fun p hp => by simp at hp
  unfold resOf at h
  split at h
  · rename_i t
    split at h
    · rename_i v hv
      simp only [Option.some.injEq] at h; subst h
      exact ⟨a.tmps.getD t undef, by simp [resRun], (J.st.sl t _ (by rw [hev]; exact hv)).1 hnil⟩
    · cases h
  · rename_i t ty
    split at h
    · rename_i s hv
      obtain ⟨b, k1, k2⟩ := (J.st.sl t _ (by rw [hev]; exact hv)).1 hnil
      split at h
      · rename_i cs hob
        split at h
        · rename_i hg
          simp only [Bool.and_eq_true, beq_iff_eq] at hg
          obtain ⟨⟨⟨rfl, hsz⟩, hu⟩, hag⟩ := hg
          have hob2 : σ2.ob s = some (.box cs) := by rw [J.nr s fun x t h => by rw [hob] at h; cases h]; exact hob
          obtain ⟨b', arr, e, j1, j2, j3, j4⟩ := J.st.ob _ _ hob2
          rw [k1] at j1; cases j1
          have hl := j3.length
          have hone : isAggT C.P ty = false → cs.length = 1 := fun hf => by
            rw [hag] at hf
            subst hf
            unfold mkSV at h
            simp only [Bool.false_eq_true, if_false] at h
            split at h
            · rfl
            · cases h
          have hrun := run_loadVar (P := C.P) (w := w) (b := b) (o := 0) (vs := arr.toList) hu hsz hl.symm hone fun j v hj => by
            simp only [World.cell?, j2, Nat.zero_add]
            simpa using hj
          refine ⟨_, ?_, mkSV_ok h j3⟩
          have htm : a.tmps.getD t undef = .pointer (some ⟨b, 0, none⟩) := k2
          simp only [resRun, htm, asAddr, Sem.run_bind, Sem.run_pure, Result.andThen_ok]
          rw [hrun, hag]
        · cases h
      · cases h
    · cases h

theorem outAll_ok {fs : List Nat} (J : FzS C ρ hdr S2 Wr σ σ2 a w fs) : ∀ {rvs : List ResultVar} {res : List (Bool × List RS)} {xs : List Exp} {f o : List Nat}, outAll C.P σ rvs res = some (xs, f, o) → (∀ s ∈ f, s ∈ fs) → (∀ s ∈ o, s ∉ fs) →
    ∃ us cs, All2 (fun rv u => (resRun a.tmps rv).run C.P w = .ok u w) rvs us ∧ Grp res us cs ∧ All3 (ResR C S2 Wr w) (res.flatMap (·.2)) cs (xs.map (Exp.den ρ)) ∧ resBs (res.flatMap (·.2)) cs = o.flatMap (fun s => (blk hdr s).toList) ∧ ∀ s ∈ o, ∃ ob, σ2.ob s = some ob ∧ ob.live = true
  | [], [], xs, f, o, h, _, _ => by
    simp only [outAll, Option.some.injEq, Prod.mk.injEq] at h
    obtain ⟨rfl, rfl, rfl⟩ := h
    exact ⟨[], [], trivial, ⟨rfl, rfl⟩, trivial, rfl, fun s hs => by simp at hs⟩
  | rv :: rvs, (b, l) :: res, xs, f, o, h, hf, ho => by
    simp only [outAll, Option.bind_eq_bind, Option.bind_eq_some_iff] at h
    obtain ⟨sv, h1, cs, h2, h3⟩ := h
    simp at h3
    obtain ⟨hb, h3⟩ := h3
    · simp only [Option.bind_eq_some_iff, Option.some.injEq, Prod.mk.injEq] at h3
      obtain ⟨⟨x, f1, o1⟩, h4, ⟨xs', f2, o2⟩, h5, rfl, rfl, rfl⟩ := h3
      obtain ⟨u, k1, k2⟩ := resOf_ok J h1
      have k3 := cellsL_ok k2 h2
      obtain ⟨i1, i2, i3, i4⟩ := outCs_ok J h4 k3 (fun s hs => hf s (by simp [hs])) (fun s hs => ho s (by simp [hs]))
      obtain ⟨us, cs', j1, j2, j3, j4, j5⟩ := outAll_ok J h5 (fun s hs => hf s (by simp [hs])) (fun s hs => ho s (by simp [hs]))
      refine ⟨u :: us, u.cells.toList ++ cs', ⟨k1, j1⟩, ⟨u, us, u.cells.toList, cs', rfl, rfl, i4, ?_, j2⟩, ?_, ?_, fun s hs => ?_⟩
      · cases sv with
        | c c =>
          have : b = false := hb.symm
          subst this
          simp [cells_one (SCRel.one k2)]
        | agg xs =>
          have : b = true := hb.symm
          subst this
          obtain ⟨arr, rfl, _⟩ := k2
          simp [Value.cells]
        | tup xs => simp [SV.cellsL] at h2
        | fn f xs => simp [SV.cellsL] at h2
      · rw [List.flatMap_cons, List.map_append]
        exact i1.append j3
      · have hsplit : ∀ (r1 r2 : List RS) (v1 v2 : List Value), v1.length = r1.length → resBs (r1 ++ r2) (v1 ++ v2) = resBs r1 v1 ++ resBs r2 v2 := fun r1 => by
          induction r1 with
          | nil => intro r2 v1 v2 h; cases v1 <;> simp_all [resBs]
          | cons r r1 ih =>
            intro r2 v1 v2 h
            cases v1 with
            | nil => simp at h
            | cons v v1 =>
              have := ih r2 v1 v2 (by simpa using h)
              cases r <;> simp [resBs, this]
        rw [List.flatMap_cons, hsplit _ _ _ _ i4, i2, j4, List.flatMap_append]
      · rcases List.mem_append.1 hs with hs | hs
        · exact i3 s hs
        · exact j5 s hs
  | [], _ :: _, _, _, _, h, _, _ => by simp [outAll] at h
  | _ :: _, [], _, _, _, h, _, _ => by simp [outAll] at h

theorem lentOf_ok : ∀ {cs : List CS} {vs : List Value} {ns : Nat}, cs.length = vs.length → (∀ i c v, (siteP cs vs)[i]? = some (c, v) → hdr (ns + i) = some v) →
    All2 (fun (l : Nat × CS) (p : CS × Value) => l.2 = p.1 ∧ hdr l.1 = some p.2) (lentOf cs ns) (lentCs cs vs)
  | [], [], _, _, _ => by simp [lentOf, lentCs, All2]
  | c :: cs, v :: vs, ns, hl, h => by
    have hno : isSite c = false → ∀ i c' v', (siteP cs vs)[i]? = some (c', v') → hdr (ns + i) = some v' := fun hs i c' v' hi => h i c' v' (by simpa [siteP, hs] using hi)
    have hyes : isSite c = true → hdr ns = some v ∧ ∀ i c' v', (siteP cs vs)[i]? = some (c', v') → hdr (ns + 1 + i) = some v' := fun hs => by
      refine ⟨h 0 c v (by simp [siteP, hs]), fun i c' v' hi => ?_⟩
      have := h (i + 1) c' v' (by simpa [siteP, hs] using hi)
      rwa [show ns + (i + 1) = ns + 1 + i by omega] at this
    have hl' : cs.length = vs.length := by simpa using hl
    cases c with
    | own t => exact ⟨⟨rfl, (hyes rfl).1⟩, lentOf_ok (cs := cs) (vs := vs) hl' (hyes rfl).2⟩
    | bx ts => exact ⟨⟨rfl, (hyes rfl).1⟩, lentOf_ok (cs := cs) (vs := vs) hl' (hyes rfl).2⟩
    | mv t => exact lentOf_ok (cs := cs) (vs := vs) hl' (hyes rfl).2
    | rbx ts => exact lentOf_ok (cs := cs) (vs := vs) hl' (hyes rfl).2
    | sc κ => exact lentOf_ok (cs := cs) (vs := vs) hl' (hno rfl)
    | ro t => exact lentOf_ok (cs := cs) (vs := vs) hl' (hno rfl)
    | fnv n m => exact lentOf_ok (cs := cs) (vs := vs) hl' (hno rfl)
  | [], _ :: _, _, hl, _ => by simp at hl
  | _ :: _, [], _, hl, _ => by simp at hl
theorem lentOf_pins : ∀ {cs : List CS} {ns : Nat}, (∀ l ∈ lentOf cs ns, l.1 ∈ pinsOf cs ns ∧ ns ≤ l.1) ∧ ((lentOf cs ns).map (·.1)).Nodup
  | [], ns => by simp [lentOf]
  | c :: cs, ns => by
    obtain ⟨i1, i2⟩ := lentOf_pins (cs := cs) (ns := ns)
    obtain ⟨j1, j2⟩ := lentOf_pins (cs := cs) (ns := ns + 1)
    have hnew : ∀ c', (∀ l ∈ (ns, c') :: lentOf cs (ns + 1), l.1 ∈ ns :: pinsOf cs (ns + 1) ∧ ns ≤ l.1) ∧ (((ns, c') :: lentOf cs (ns + 1)).map (·.1)).Nodup := fun c' => by
      refine ⟨fun l hl => ?_, ?_⟩
      · rcases List.mem_cons.1 hl with rfl | hl
        · simp
        · obtain ⟨k1, k2⟩ := j1 l hl; exact ⟨by simp [k1], by omega⟩
      · rw [List.map_cons, List.nodup_cons]
        refine ⟨fun hm => ?_, j2⟩
        obtain ⟨l, hl, e⟩ := List.mem_map.1 hm
        have := (j1 l hl).2
        simp at e
        omega
    cases c with
    | own t => exact hnew _
    | bx ts => exact hnew _
    | mv t => exact ⟨fun l hl => ⟨(j1 l hl).1, by have := (j1 l hl).2; omega⟩, j2⟩
    | rbx ts => exact ⟨fun l hl => ⟨List.mem_cons_of_mem _ (j1 l hl).1, by have := (j1 l hl).2; omega⟩, j2⟩
    | sc κ => exact ⟨i1, i2⟩
    | ro t => exact ⟨i1, i2⟩
    | fnv n m => exact ⟨i1, i2⟩

theorem outLent_ok (st2 : St C ρ hdr S2 Wr σ2 a w) : ∀ {lent : List (Nat × CS)} {lc : List (CS × Value)} {ys : List Exp}, outLent σ lent = some ys → (∀ l ∈ lent, σ2.ob l.1 = σ.ob l.1) →
    All2 (fun (l : Nat × CS) (p : CS × Value) => l.2 = p.1 ∧ hdr l.1 = some p.2) lent lc →
    All2 (fun (l : CS × Value) p => ArgR C S2 Wr w l.1 l.2 p) lc (ys.map (Exp.den ρ)) ∧ (∀ l ∈ lent, ∃ ob, σ2.ob l.1 = some ob ∧ ob.live = true) ∧ lentBs lc = (lent.map (·.1)).flatMap fun s => (blk hdr s).toList
  | [], [], ys, h, _, _ => by
    simp only [outLent, Option.some.injEq] at h; subst h
    exact ⟨trivial, fun l hl => by simp at hl, rfl⟩
  | (s, c) :: r, (c', v) :: lc, ys, h, hs, ⟨h1, h2⟩ => by
    obtain ⟨e, h1⟩ := h1
    dsimp only at e h1
    subst e
    have hs0 := hs (s, c) (by simp)
    dsimp only at hs0
    have rest : ∀ {x : Exp} {ys' : List Exp} {ob : Obj}, outLent σ r = some ys' → ys = x :: ys' → σ2.ob s = some ob → ob.live = true → ArgR C S2 Wr w c v (x.den ρ) →
        All2 (fun (l : CS × Value) p => ArgR C S2 Wr w l.1 l.2 p) ((c, v) :: lc) (ys.map (Exp.den ρ)) ∧ (∀ l ∈ (s, c) :: r, ∃ ob, σ2.ob l.1 = some ob ∧ ob.live = true) ∧ lentBs ((c, v) :: lc) = (((s, c) :: r).map (·.1)).flatMap fun s => (blk hdr s).toList := fun {x ys' ob} k1 k2 k3 k4 k5 => by
      subst k2
      obtain ⟨i1, i2, i3⟩ := outLent_ok st2 k1 (fun l hl => hs l (by simp [hl])) h2
      refine ⟨⟨k5, i1⟩, fun l hl => ?_, ?_⟩
      · rcases List.mem_cons.1 hl with rfl | hl
        · exact ⟨ob, k3, k4⟩
        · exact i2 l hl
      · rw [List.map_cons, List.flatMap_cons, ← i3, blk_eq h1]; rfl
    cases c <;> simp only [outLent] at h <;> first | cases h | skip
    · rename_i t
      split at h
      · rename_i x t' hob
        split at h
        · rename_i hk
          simp only [beq_iff_eq] at hk
          subst hk
          simp only [Option.map_eq_some_iff] at h
          obtain ⟨ys', k1, rfl⟩ := h
          have hob2 : σ2.ob s = some (.row x t) := by rw [hs0]; exact hob
          obtain ⟨hd, j1, j2⟩ := st2.ob _ _ hob2
          rw [h1] at j1; cases j1
          exact rest k1 rfl hob2 rfl j2
        · cases h
      · cases h
    · rename_i ts
      split at h
      · rename_i cs hob
        split at h
        · rename_i xs hxs
          split at h
          · rename_i hl
            simp only [beq_iff_eq] at hl
            simp only [Option.map_eq_some_iff] at h
            obtain ⟨ys', k1, rfl⟩ := h
            have hob2 : σ2.ob s = some (.box cs) := by rw [hs0]; exact hob
            obtain ⟨b, arr, e, j1, j2, j3, j4, j5, j6⟩ := st2.ob _ _ hob2
            rw [h1] at j1; cases j1
            refine rest k1 rfl hob2 rfl ⟨b, rfl, ⟨arr, e, fun j => (xs.getD j default).den ρ, j2, ?_, ?_, fun j t ht => ?_⟩, j5, j6⟩
            · have := j3.length; simp at this; omega
            · have hxl : xs.length = ts.length := by
                have : ∀ (l : List (SC × Ty)) (f : SC × Ty → Option Exp) (xs : List Exp), l.mapM f = some xs → xs.length = l.length := fun l => by
                  induction l with
                  | nil => intro f xs h; simp at h; subst h; rfl
                  | cons p l ih =>
                    intro f xs h
                    rw [List.mapM_cons] at h
                    simp only [Option.pure_def, Option.bind_eq_bind, Option.bind_eq_some_iff, Option.some.injEq] at h
                    obtain ⟨x, _, ys, h2, rfl⟩ := h
                    simp [ih f ys h2]
                have := this _ _ _ hxs
                simp at this; omega
              simp only [Exp.den, U.den, expList_den, PV.list, PV.a.injEq]
              refine List.ext_getElem? fun j => ?_
              by_cases hj : j < ts.length
              · have hj' : j < xs.length := by omega
                simp [hj, hj', List.getD]
              · rw [List.getElem?_eq_none (by simp; omega), List.getElem?_eq_none (by simp; omega)]
            · have : ∀ (cs : List SC) (ts : List Ty) (xs : List Exp) (vs : List Value), (List.zip cs ts).mapM (fun ct => match ct with
                    | (.e x κ, .sc κ') => if κ == κ' then some x else none
                    | (.ro x t, .sl t') => if t == t' then some x else none
                    | _ => none) = some xs → cs.length = ts.length → All2 (SCRel C ρ hdr S2 w) cs vs → ∀ (j : Nat) (t : Ty), ts[j]? = some t → ∃ v x, vs[j]? = some v ∧ xs[j]? = some x ∧ RepC C S2 w t v (x.den ρ) := fun cs => by
                induction cs with
                | nil => intro ts xs vs _ hl _ j t ht; cases ts <;> simp_all
                | cons c cs ih =>
                  intro ts xs vs h hl hv j t ht
                  cases ts with
                  | nil => simp at hl
                  | cons t0 ts =>
                    cases vs with
                    | nil => exact hv.elim
                    | cons v vs =>
                      rw [List.zip_cons_cons, List.mapM_cons] at h
                      simp only [Option.pure_def, Option.bind_eq_bind, Option.bind_eq_some_iff, Option.some.injEq] at h
                      obtain ⟨x, q1, xs', q2, rfl⟩ := h
                      cases j with
                      | zero =>
                        simp at ht; subst ht
                        refine ⟨v, x, rfl, rfl, ?_⟩
                        split at q1
                        · rename_i e κ κ' heq
                          cases heq
                          split at q1
                          · rename_i hk
                            simp only [beq_iff_eq] at hk
                            subst hk
                            cases q1
                            have := hv.1
                            rw [this.2]; exact .sc this.1
                          · cases q1
                        · rename_i e t1 t2 heq
                          cases heq
                          split at q1
                          · rename_i hk
                            simp only [beq_iff_eq] at hk
                            subst hk
                            cases q1
                            exact hv.1
                          · cases q1
                        · cases q1
                      | succ j => simpa using ih ts xs' vs q2 (by simpa using hl) hv.2 j t (by simpa using ht)
              obtain ⟨v, x, q1, q2, q3⟩ := this cs ts xs arr.toList hxs hl j3 j t ht
              exact ⟨v, by simpa using q1, by simpa [List.getD, q2] using q3⟩
          · cases h
        · cases h
      · cases h
  | [], _ :: _, _, _, _, h => h.elim
  | _ :: _, [], _, _, _, h => h.elim

theorem live_nodup (st2 : St C ρ hdr S2 Wr σ2 a w) : ∀ {l : List Nat}, l.Nodup → (∀ s ∈ l, ∃ ob, σ2.ob s = some ob ∧ ob.live = true) → (l.flatMap fun s => (blk hdr s).toList).Nodup
  | [], _, _ => by simp
  | s :: l, hn, hl => by
    rw [List.nodup_cons] at hn
    rw [List.flatMap_cons, List.nodup_append]
    refine ⟨by cases blk hdr s <;> simp, live_nodup st2 hn.2 fun s' hs => hl s' (by simp [hs]), fun b hb b' hb' e => ?_⟩
    subst e
    simp only [Option.mem_toList] at hb
    obtain ⟨s', h1, h2⟩ := List.mem_flatMap.1 hb'
    simp only [Option.mem_toList] at h2
    obtain ⟨o, k1, k2⟩ := hl s (by simp)
    obtain ⟨o', k1', k2'⟩ := hl s' (by simp [h1])
    exact st2.dj s s' o o' k1 k1' k2 k2' (by rintro rfl; exact hn.1 h1) b hb h2

/-- A function's pure meaning is what it does. -/
theorem fun_ok (hC : COK C) (hF : FOK C F) {F' : Nat → List PV → Option (List PV)} {id : Nat} {fid : FuncId} {sp : Spec} {fn : Func} {t : TT Unit} (hfn : C.P.funcs[fid]? = some fn) (hs : symFun C fn sp = some t)
    (hF' : ∀ ps rs, F' id ps = some rs → t.den F N ps = some (.y .ret rs)) : FunOK C F' id fid sp := by
  intro S Wr w us cs ps rs hsb hW hg har hnd hrs
  have hden := hF' ps rs hrs
  simp only [symFun, Option.bind_eq_bind, Option.bind_eq_some_iff] at hs
  obtain ⟨c, hb, ⟨xs, os⟩, hi, hs⟩ := hs
  split at hs
  · simp at hs
  · simp only [Option.pure_def, Option.bind_some, Option.bind_eq_some_iff] at hs
    obtain ⟨t0, h1, h2⟩ := hs
    have g := init_good (nt := fn.ntmps) hi hsb hW hg har hnd
    refine calls_of_wp hfn hb ?_
    rcases TT.mapL_den h2 hden with ⟨x, s, ρ1, t3, k1, k2, k3⟩ | ⟨x, vs, k1, _⟩
    · refine wp_mono (symC_run hC hF c _ h1 g k1) fun e a' w' he => ?_
      obtain ⟨q1, ⟨hdr', S', g', e'⟩, q3⟩ := he
      split at k2
      · rename_i hx
        simp only [Option.map_eq_some_iff] at k2
        obtain ⟨zs, k4, rfl⟩ := k2
        simp only [TT.den, Option.some.injEq, Out.y.injEq, true_and] at k3
        simp only [outS, Option.bind_eq_bind, Option.bind_eq_some_iff] at k4
        obtain ⟨⟨x1, f1, o1⟩, k5, ys, k6, k7⟩ := k4
        split at k7
        · rename_i hg7
          simp only [Option.some.injEq] at k7; subst k7
          simp only [Bool.and_eq_true, List.all_eq_true, Bool.not_eq_true'] at hg7
          obtain ⟨⟨⟨n1, n2⟩, n3⟩, n4⟩ := hg7
          obtain ⟨σ2, S2, J, ev2⟩ := freeze_list g'.st f1
          have ho1 : ∀ s ∈ o1, s ∉ f1 := fun s hs => by
            have := (n2 s hs).1
            simpa using this
          obtain ⟨us', cs', m1, m2, m3, m4, m5⟩ := outAll_ok J k5 (fun s hs => hs) ho1
          have hlf : All2 (fun (l : Nat × CS) (p : CS × Value) => l.2 = p.1 ∧ hdr' l.1 = some p.2) (lentOf (sp.params.flatMap (·.2)) 0) (lentCs (sp.params.flatMap (·.2)) cs) := by
            have := lentOf_ok (hdr := hdrF (siteP (sp.params.flatMap (·.2)) cs)) (ns := 0) har.length.1.symm fun i c v hi => by simp [hdrF, hi]
            exact this.imp_mem fun l hl p hp => ⟨hp.1, e'.pn l.1 ((lentOf_pins.1 l hl).1) p.2 hp.2⟩
          obtain ⟨r1, r2, r3⟩ := outLent_ok J.st k6 (fun l hl => J.nf l.1 fun hf => by
            have := n3 l.1 hf
            rw [List.contains_iff_mem.2 (List.mem_map.2 ⟨l, hl, rfl⟩)] at this; cases this) hlf
          have hfin : ∃ v, (results fn a'.tmps).run C.P w' = .ok v w' ∧ ∃ us' cs' S' ps1 ps2, Ending.returned v = .returned (retOf us') ∧ Grp sp.results us' cs' ∧ rs = ps1 ++ ps2 ∧
              All3 (ResR C S' Wr w') (sp.results.flatMap (·.2)) cs' ps1 ∧
              All2 (fun (l : CS × Value) p => ArgR C S' Wr w' l.1 l.2 p) (lentCs (sp.params.flatMap (·.2)) cs) ps2 ∧
              (resBs (sp.results.flatMap (·.2)) cs' ++ lentBs (lentCs (sp.params.flatMap (·.2)) cs)).Nodup ∧
              Keep Wr w w' ∧ (∀ b, S b → S' b) ∧ (∀ b, S' b → S b ∨ Wr b) ∧ (∀ b, S b → w'.heap[b]? = w.heap[b]?) ∧ ∀ b, S' b → b < w'.heap.size := by
            refine ⟨retOf us', results_run m1, us', cs', S2, x1.map (Exp.den ρ1), ys.map (Exp.den ρ1), rfl, m2, by rw [← k3, List.map_append], m3, r1, ?_, e'.kp, fun b hb => ev2.ss b (e'.ss b hb), fun b hb => ?_, e'.sk, J.st.sb⟩
            · rw [m4, r3, ← List.flatMap_append]
              refine live_nodup J.st ?_ fun s hs => ?_
              · rw [List.nodup_append]
                refine ⟨nodupB_ok n1, lentOf_pins.2, fun s hs s' hs' e => ?_⟩
                subst e
                have := (n2 s hs).2
                rw [List.contains_iff_mem.2 hs'] at this; cases this
              · rcases List.mem_append.1 hs with hs | hs
                · exact m5 s hs
                · obtain ⟨l, hl, rfl⟩ := List.mem_map.1 hs
                  exact r2 l hl
            · rcases ev2.sw b hb with h | h
              · exact e'.sw b h
              · exact .inr h
          obtain ⟨v, v1, v2⟩ := hfin
          simp only [Bool.or_eq_true, decide_eq_true_eq] at hx
          rcases hx with rfl | rfl
          · cases e <;> simp only [exitIs] at q1
            exact ⟨q3, v, v1, v2⟩
          · cases e <;> simp only [exitIs] at q1
            exact ⟨q3, v, v1, v2⟩
        · cases k7
      · cases k2
    · obtain ⟨_, _, _, e, _⟩ := symC_pure c _ h1 g.nv k1
      cases e
end

/-- What a table of trees must be for a program. -/
structure TabOK (C : Ctx) (tab : Nat → Option (TT Unit)) : Prop where
  ok : COK C
  fn : ∀ fid id sp, C.fid fid = some id → C.spec id = some sp → ∃ fn t, C.P.funcs[fid]? = some fn ∧ symFun C fn sp = some t ∧ tab id = some t
  raw : ∀ k id sp ps qs, C.canon = some id → C.spec id = some sp → qs.length = (sp.params.flatMap (·.2)).length → All2 RawEq ps qs → fden tab k id ps = fden tab k id qs
theorem tab_ok {C : Ctx} {tab : Nat → Option (TT Unit)} (h : TabOK C tab) : ∀ k, FOK C (fden tab k)
  | 0 => ⟨fun fid id sp h1 h2 S Wr w us cs ps rs _ _ _ _ _ h => by simp [fden] at h, h.raw 0⟩
  | k + 1 => by
    refine ⟨fun fid id sp h1 h2 => ?_, h.raw (k + 1)⟩
    obtain ⟨fn, t, k1, k2, k3⟩ := h.fn fid id sp h1 h2
    refine fun_ok (N := k) h.ok (tab_ok h k) k1 k2 fun ps rs hr => ?_
    simp only [fden, k3] at hr
    split at hr
    · rename_i vs hv
      simp only [Option.some.injEq] at hr; subst hr; exact hv
    · cases hr
end Go.Proofs.YthchhkghjfendabGreat.Dx

/- From a table of trees to a law: what a call of a law comes to. -/
namespace Go.Proofs.YthchhkghjfendabGreat.Dx
open Go Go.RowKit

/-- A function of the program, its number in the table, its tree. -/
def RowOK (C : Ctx) (tab : Nat → Option (TT Unit)) (p : Nat × Nat) : Prop :=
  ∃ fn t sp, C.P.funcs[p.1]? = some fn ∧ C.spec p.2 = some sp ∧ symFun C fn sp = some t ∧ tab p.2 = some t
theorem find_mem {l : List (Nat × Nat)} {f id : Nat} (h : (l.find? (·.1 == f)).map (·.2) = some id) : (f, id) ∈ l := by
  simp only [Option.map_eq_some_iff] at h
  obtain ⟨⟨f', id'⟩, h1, rfl⟩ := h
  have := List.find?_some h1
  simp only [beq_iff_eq] at this
  subst this
  exact List.mem_of_find?_eq_some h1
theorem tabOK_of {C : Ctx} {tab : Nat → Option (TT Unit)} {l : List (Nat × Nat)} (hC : ∀ f, C.fid f = (l.find? (·.1 == f)).map (·.2)) (hb : (l.all fun p => (C.P.funcs[p.1]?).any fun fn => fn.body.isSome && fn.name != "runtime.NumGoroutine") = true)
    (hm : C.P.follows .mixedOrders = true) (hr : ∀ p ∈ l, RowOK C tab p) (hraw : ∀ k id sp ps qs, C.canon = some id → C.spec id = some sp → qs.length = (sp.params.flatMap (·.2)).length → All2 RawEq ps qs → fden tab k id ps = fden tab k id qs) : TabOK C tab where
  ok := ⟨fun f id h => by
    rw [hC] at h
    rw [List.all_eq_true] at hb
    exact hb _ (find_mem h), hm⟩
  fn f id sp h1 h2 := by
    rw [hC] at h1
    obtain ⟨fn, t, sp', k1, k2, k3, k4⟩ := hr _ (find_mem h1)
    dsimp only at k1 k2 k4
    rw [h2] at k2; cases k2
    exact ⟨fn, t, k1, k3, k4⟩
  raw := hraw

/-- All blocks that there are. -/
def Old (w : World) (b : Nat) : Prop := b < w.heap.size
theorem grown_of_keep {w w' : World} (h : Keep (fun b => w.heap.size ≤ b) w w') : Grown w w' := by
  obtain ⟨h1, h2, h3⟩ := h
  refine ⟨⟨h3.os, h3.out, fun i hi => ?_⟩, h3.fz, h1⟩
  have := h2 i (by omega) hi
  rw [this]
  cases w.heap[i]? with
  | none => trivial
  | some o => cases o <;> simp
/-- Parameters that are only read. -/
def roPars (cs : List CS) : Bool := cs.all fun | .sc _ | .ro _ => true | _ => false
theorem roPars_nil : ∀ {cs : List CS} {vs : List Value}, roPars cs = true → liveBs cs vs = [] ∧ lentCs cs vs = []
  | [], vs, _ => ⟨by simp [liveBs], by simp [lentCs]⟩
  | c :: cs, [], h => by
    simp only [roPars, List.all_cons, Bool.and_eq_true] at h
    cases c <;> simp_all [liveBs, lentCs]
  | c :: cs, v :: vs, h => by
    simp only [roPars, List.all_cons, Bool.and_eq_true] at h
    obtain ⟨i1, i2⟩ := roPars_nil (cs := cs) (vs := vs) h.2
    cases c <;> simp_all [liveBs, lentCs, lvB]
/-- A law's call. -/
theorem law_calls {C : Ctx} {tab : Nat → Option (TT Unit)} (h : TabOK C tab) {fid id : Nat} {sp : Spec} {us cs : List Value} {ps : List PV} {k : Nat} {w : World} (hid : C.fid fid = some id) (hsp : C.spec id = some sp)
    (hro : roPars (sp.params.flatMap (·.2)) = true) (hres : sp.results = [(false, [.sc .b])]) (hg : Grp sp.params us cs) (har : All3 (ArgR C (Old w) (fun b => w.heap.size ≤ b) w) (sp.params.flatMap (·.2)) cs ps)
    (hk : fden tab k id ps = some [.v (.bool true)]) : Calls C.P fid us.toArray w fun e w' => e = .returned (.bool true) ∧ Grown w w' := by
  obtain ⟨l1, l2⟩ := roPars_nil (vs := cs) hro
  refine Calls.mono ((tab_ok h k).fn fid id sp hid hsp (Old w) (fun b => w.heap.size ≤ b) w us cs ps _ (fun b hb => hb) (fun b hb => hb) hg har (by rw [l1]; simp) hk) fun e w' he => ?_
  obtain ⟨us', cs', S', ps1, ps2, rfl, hgr, hps, hr, hl, _, hkp, _⟩ := he
  rw [l2] at hl
  have hp2 : ps2 = [] := by
    cases ps2 with
    | nil => rfl
    | cons => exact hl.elim
  subst hp2
  rw [hres] at hgr hr
  obtain ⟨u, us1, c1, c2, rfl, rfl, h1, h2, h3⟩ := hgr
  obtain ⟨rfl, rfl⟩ := h3
  simp only [Bool.false_eq_true, if_false] at h2
  subst h2
  refine ⟨?_, grown_of_keep hkp⟩
  cases ps1 with
  | nil => simp at hps
  | cons p ps1 =>
    simp only [List.append_nil, List.cons.injEq] at hps
    obtain ⟨rfl, rfl⟩ := hps
    have hr0 : ResR C S' (fun b => w.heap.size ≤ b) w' (.sc .b) u (.v (.bool true)) := by simpa [All3] using hr
    obtain ⟨k1, k2⟩ := hr0
    obtain ⟨b, rfl⟩ := has_bool k1
    simp only [cn, PV.v.injEq, Value.bool.injEq] at k2
    subst k2; rfl
end Go.Proofs.YthchhkghjfendabGreat.Dx

/- From a table of trees to a law whose arguments are numbers, slices of numbers, and structs of these: the row's step, for any such law. -/
namespace Go.Proofs.YthchhkghjfendabGreat.Dx
open Go Go.ChangeShapes Go.WideShapes Go.RowKit

/-- What a law's argument is made of. -/
inductive Bs | int (k : IntKind) | bool | sl (k : IntKind)
def Bs.cs : Bs → CS
  | .int k => .sc (.i k) | .bool => .sc .b | .sl k => .ro (.sc (.i k))
def shCs (s : Bool × List Bs) : Bool × List CS := (s.1, s.2.map Bs.cs)
def PvT : Bs → PV → Prop
  | .int k, p => ∃ n, p = .v (.int k n) ∧ (Lit.int k n).wf = true
  | .bool, p => ∃ b, p = .v (.bool b)
  | .sl k, p => ∃ zs : List Int, p = .l (zs.map fun n => .v (.int k n)) ∧ (∀ n ∈ zs, (Lit.int k n).wf = true) ∧ zs.length * (k.bits / 8) ≤ reachBytes
def bsB (P : Program) (t : TypeId) (b : Bs) : Bool :=
  match b, P.underlying t with
  | .int k, some (.int k') => k == k'
  | .bool, some .bool => true
  | .sl k, some (.slice e) => (match P.underlying e with | some (.int k') => k == k' | _ => false) && P.cellsOf e == 1 && P.bytesOf e == k.bits / 8
  | _, _ => false
/-- The types of the cells of a struct or an array whose cells are numbers and slices. -/
def aggB (P : Program) (t : TypeId) (bs : List Bs) : Bool :=
  match P.underlying t with
  | some (.struct fs) => P.cellsOf t == bs.length && fs.size == bs.length && (P.cellTypes P.depth t == some (fs.toList.map (·.type))) &&
      (List.range bs.length).all fun i => match fs[i]?, bs[i]? with
        | some f, some b => f.offset == i && P.cellsOf f.type == 1 && bsB P f.type b
        | _, _ => false
  | some (.array n e) => P.cellsOf t == bs.length && n == bs.length && P.cellsOf e == 1 && (P.cellTypes P.depth t == some (List.replicate n e)) && bs.all (bsB P e)
  | _ => false
def parB (P : Program) (t : TypeId) (s : Bool × List Bs) : Bool :=
  if s.1 then aggB P t s.2 else match s.2 with | [b] => bsB P t b | _ => false

section
variable {H : Type} {enc : TypeId × Value → H} {C : Ctx} {W : World} {base : Nat}

def BaseR (C : Ctx) (W : World) (b : Bs) (v : Value) (p : PV) : Prop := PvT b p ∧ ArgR C (Old W) (fun b => W.heap.size ≤ b) W b.cs v p

theorem base_ok {t : TypeId} {b : Bs} {v : Value} {fuel : Nat} {x : DataW H × List MemPlace} (hb : bsB C.P t b = true) (hok : Cell.okWide C.P W .any base t v) (hd : DataW.trod enc C.P W 0 (fun _ => true) true fuel t [v] = some x)
    (hz : ∀ n ∈ x.1.weights C.P t, n ≤ reachBytes) : ∃ p, BaseR C W b v p := by
  unfold bsB at hb
  split at hb
  · rename_i k k' hu
    simp only [beq_iff_eq] at hb; subst hb
    obtain ⟨n, h1, _, h3⟩ := DataW.trod_int hu hd
    simp only [List.cons.injEq, and_true] at h1; subst h1
    exact ⟨_, ⟨n, rfl, h3⟩, by simp [K.has], rfl⟩
  · rename_i hu
    obtain ⟨n, h1, _⟩ := DataW.trod_bool hu hd
    simp only [List.cons.injEq, and_true] at h1; subst h1
    exact ⟨_, ⟨n, rfl⟩, by simp [K.has], rfl⟩
  · rename_i k e hu
    simp only [Bool.and_eq_true, beq_iff_eq] at hb
    obtain ⟨⟨h1, h2⟩, h3⟩ := hb
    split at h1
    · rename_i k' he
      simp only [beq_iff_eq] at h1; subst h1
      rcases open_ints hu he h2 hd with ⟨hcs, _⟩ | ⟨a, l, c, zs, hcs, _, hl, hm, hzl, hxe, hcell, hwz⟩
      · simp only [List.cons.injEq, and_true] at hcs; subst hcs
        exact ⟨.l [], ⟨[], rfl, by simp, by simp⟩, .nil⟩
      · simp only [List.cons.injEq, and_true] at hcs; subst hcs
        simp only [if_true] at hzl
        subst hxe
        have hsz := hz ((zs.take l).length * C.P.bytesOf e + (zs.drop l).length * C.P.bytesOf e) (by simp [DataW.weights, hu, ChangeShapes.lits, Nat.add_mul])
        rw [h3] at hsz
        simp only [Cell.okWide, hu, Cell.ok, World.has] at hok
        obtain ⟨_, _, _, hsp, row, cells, hsh, _⟩ := hok
        have hblk : a.block < W.heap.size := by
          rcases Nat.lt_or_ge a.block W.heap.size with h | h
          · exact h
          · simp [World.shape?, Array.getElem?_eq_none h] at hsh
        obtain ⟨ab, ao, asp⟩ := a
        simp only at hsp hblk; subst hsp
        refine ⟨.l ((zs.take l).map fun n => .v (.int k n)), ⟨zs.take l, rfl, fun n hn => hwz n (List.mem_of_mem_take hn), by omega⟩, ?_⟩
        refine .sl (fun i _ => .int k (zs.getD i 0)) (fun i _ => .v (.int k (zs.getD i 0))) hblk (by simp; omega) hl ?_ ?_ ?_
        · intro i j hi hj
          have hj0 : j = 0 := by simp [Ty.cells] at hj; exact hj
          subst hj0
          have := hcell i (by omega)
          rw [add_plain] at this
          simpa [Ty.cells] using this
        · intro i p hp
          simp only [List.getElem?_map, Option.map_eq_some_iff] at hp
          obtain ⟨z, hz1, rfl⟩ := hp
          rw [List.getElem?_take] at hz1
          split at hz1
          · show PV.v (.int k z) = .v (.int k (zs.getD i 0))
            rw [List.getD_eq_getElem?_getD, hz1]; rfl
          · cases hz1
        · intro i j t _ ht
          have : t = .sc (.i k) := by
            cases j with
            | zero => simpa [Ty.cells] using ht.symm
            | succ j => simp [Ty.cells] at ht
          subst this
          exact .sc (by simp [K.has])
    · cases h1
  · cases hb

theorem list_of {bs : List Bs} : ∀ {vs : List Value}, vs.length = bs.length → (∀ (i : Nat) b v, bs[i]? = some b → vs[i]? = some v → ∃ p, BaseR C W b v p) → ∃ ps, All3 (BaseR C W) bs vs ps := by
  induction bs with
  | nil => intro vs hl _; cases vs with | nil => exact ⟨[], trivial⟩ | cons => simp at hl
  | cons b bs ih =>
    intro vs hl h
    cases vs with
    | nil => simp at hl
    | cons v vs =>
      obtain ⟨p, hp⟩ := h 0 b v rfl rfl
      obtain ⟨ps, hps⟩ := ih (vs := vs) (by simpa using hl) fun i b v h1 h2 => h (i + 1) b v (by simpa using h1) (by simpa using h2)
      exact ⟨p :: ps, hp, hps⟩
theorem take_one {cs : List Value} {i : Nat} {v : Value} (h : cs[i]? = some v) : (cs.drop i).take 1 = [v] := by
  induction cs generalizing i with
  | nil => simp at h
  | cons c cs ih => cases i with
    | zero => simp at h; subst h; rfl
    | succ i => simpa using ih (by simpa using h)
theorem weights_mem_all {P : Program} {e : TypeId} {d : DataW H} : ∀ {ds : List (DataW H)}, d ∈ ds → ∀ n ∈ d.weights P e, n ∈ DataW.weightsAll P e ds
  | [], h, _, _ => by simp at h
  | d0 :: ds, h, n, hn => by
    simp only [DataW.weightsAll, List.mem_append]
    rcases List.mem_cons.1 h with rfl | h
    · exact .inl hn
    · exact .inr (weights_mem_all h n hn)
/-- One argument. -/
theorem par_ok {t : TypeId} {s : Bool × List Bs} {v : Value} {d : DataW H} {p : List MemPlace} (hb : parB C.P t s = true) (hok : Value.okWide C.P W .any base t v) (hd : DataW.Trod enc C.P W 0 (fun _ => true) true t v d p)
    (hz : ∀ n ∈ d.weights C.P t, n ≤ reachBytes) : ∃ vs ps, vs.length = s.2.length ∧ (if s.1 then v = .agg vs.toArray else vs = [v]) ∧ All3 (BaseR C W) s.2 vs ps := by
  obtain ⟨fl, l⟩ := s
  obtain ⟨fuel, hd⟩ := hd
  unfold parB at hb
  cases fl
  · simp only [Bool.false_eq_true, if_false] at hb
    split at hb
    · rename_i _ b
      have hc : Cell.okWide C.P W .any base t v := by
        unfold Value.okWide at hok
        unfold bsB at hb
        split at hb <;> first | (cases hb; done) | (rename_i hu; simpa [hu] using hok)
      have hcs : v.cells.toList = [v] := by
        unfold bsB at hb
        unfold Cell.okWide at hc
        split at hb <;> first | (cases hb; done) | (rename_i hu; simp only [hu] at hc; cases v <;> simp_all [Cell.ok, Value.cells])
      rw [hcs] at hd
      obtain ⟨q, hq⟩ := base_ok hb hc hd hz
      exact ⟨[v], [q], rfl, rfl, hq, trivial⟩
    · cases hb
  · simp only [if_true] at hb
    unfold aggB at hb
    split at hb
    · rename_i fs hu
      simp only [Bool.and_eq_true, beq_iff_eq, List.all_eq_true, List.mem_range] at hb
      obtain ⟨⟨⟨h1, h2⟩, h3⟩, h4⟩ := hb
      simp only [Value.okWide, hu] at hok
      obtain ⟨cs, rfl, hsz, ts, hts, _, hrow⟩ := hok
      have hl : cs.toList.length = l.length := by simpa using hsz.trans h1
      obtain ⟨xs, n, _, hxe, _, hxl, hx⟩ := DataW.trod_struct hu hd
      simp only [Prod.mk.injEq] at hxe
      obtain ⟨rfl, rfl⟩ := hxe
      obtain ⟨ps, hps⟩ := list_of (C := C) (W := W) (bs := l) (vs := cs.toList) hl fun i b v hb' hv => by
        have hi : i < l.length := by
          rcases Nat.lt_or_ge i l.length with h | h
          · exact h
          · rw [List.getElem?_eq_none h] at hb'; cases hb'
        have h4i := h4 i hi
        rw [hb'] at h4i
        split at h4i
        · rename_i f b' hf hbb
          cases hbb
          simp only [Bool.and_eq_true, beq_iff_eq] at h4i
          obtain ⟨⟨e1, e2⟩, e3⟩ := h4i
          have hxi := hx i f hf
          rw [e1, e2, show (Value.agg cs).cells.toList = cs.toList from rfl, take_one hv] at hxi
          have hxi2 : i < xs.length := by omega
          rw [List.getElem?_eq_getElem hxi2] at hxi
          rw [h3] at hts; cases hts
          obtain ⟨u, hu1, hu2⟩ := hrow i v (by simpa using hv)
          have hil : i % (fs.toList.map (·.type)).length = i := Nat.mod_eq_of_lt (by simp; omega)
          rw [hil, List.getElem?_map] at hu1
          have : fs.toList[i]? = some f := by simpa using hf
          rw [this] at hu1; simp at hu1; subst hu1
          refine base_ok e3 hu2 hxi fun n hn => hz n ?_
          simp only [DataW.weights, hu]
          exact DataW.weights_mem_each (j := i) (t := f.type) (d := xs[i].1) (by rw [List.getElem?_map, this]; rfl) (by rw [List.getElem?_map, List.getElem?_eq_getElem hxi2]; rfl) n hn
        · cases h4i
      exact ⟨cs.toList, ps, hl, by simp, hps⟩
    · rename_i n e hu
      simp only [Bool.and_eq_true, beq_iff_eq, List.all_eq_true] at hb
      obtain ⟨⟨⟨⟨h1, h2⟩, h5⟩, h3⟩, h4⟩ := hb
      simp only [Value.okWide, hu] at hok
      obtain ⟨cs, rfl, hsz, ts, hts, _, hrow⟩ := hok
      have hl : cs.toList.length = l.length := by simpa using hsz.trans h1
      obtain ⟨xs, m, _, hxe, _, hxl, hx⟩ := DataW.trod_array hu hd
      simp only [Prod.mk.injEq] at hxe
      obtain ⟨rfl, rfl⟩ := hxe
      obtain ⟨ps, hps⟩ := list_of (C := C) (W := W) (bs := l) (vs := cs.toList) hl fun i b v hb' hv => by
        have hi : i < l.length := by
          rcases Nat.lt_or_ge i l.length with h | h
          · exact h
          · rw [List.getElem?_eq_none h] at hb'; cases hb'
        have hxi := hx i (by omega)
        rw [h5, Nat.mul_one, show (Value.agg cs).cells.toList = cs.toList from rfl, take_one hv] at hxi
        have hxi2 : i < xs.length := by omega
        rw [List.getElem?_eq_getElem hxi2] at hxi
        rw [h3] at hts; cases hts
        obtain ⟨u, hu1, hu2⟩ := hrow i v (by simpa using hv)
        have hil : i % (List.replicate n e).length = i := Nat.mod_eq_of_lt (by simp; omega)
        rw [hil, List.getElem?_replicate] at hu1
        split at hu1
        · cases hu1
          refine base_ok (h4 b (List.mem_of_getElem? hb')) hu2 hxi fun n hn => hz n ?_
          simp only [DataW.weights, hu]
          exact weights_mem_all (d := xs[i].1) (List.mem_map.2 ⟨xs[i], List.getElem_mem hxi2, rfl⟩) n hn
        · cases hu1
      exact ⟨cs.toList, ps, hl, by simp, hps⟩
    · cases hb

theorem All3.append' {α β γ : Type} {R : α → β → γ → Prop} {as as' : List α} {bs bs' : List β} {cs cs' : List γ} (h : All3 R as bs cs) (h' : All3 R as' bs' cs') : All3 R (as ++ as') (bs ++ bs') (cs ++ cs') := h.append h'
/-- All arguments. -/
theorem pars_ok : ∀ {ts : List TypeId} {shs : List (Bool × List Bs)} {vs : List Value} {ds : List (DataW H)} {p : List MemPlace}, ts.length = shs.length → (∀ (i : Nat) t s, ts[i]? = some t → shs[i]? = some s → parB C.P t s = true) →
    (∀ (j : Nat) t v, ts[j]? = some t → vs[j]? = some v → Value.okWide C.P W .any base t v) → DataW.TrodAll enc C.P W 0 (fun _ => true) true ts vs ds p → (∀ (i : Nat) t d, ts[i]? = some t → ds[i]? = some d → ∀ n ∈ DataW.weights C.P t d, n ≤ reachBytes) →
    ∃ cs ps, Grp (shs.map shCs) vs cs ∧ All3 (BaseR C W) (shs.flatMap (·.2)) cs ps ∧ ds.length = ts.length
  | [], [], vs, ds, p, _, _, _, hA, _ => by
    obtain ⟨rfl, rfl, rfl⟩ := trodAll_nil hA
    exact ⟨[], [], ⟨rfl, rfl⟩, trivial, rfl⟩
  | t :: ts, s :: shs, vs, ds, p, hl, hb, hok, hA, hz => by
    obtain ⟨v, vs', d, ds', p1, q1, rfl, rfl, rfl, h0, r0⟩ := trodAll_cons hA
    obtain ⟨c1, ps1, k1, k2, k3⟩ := par_ok (C := C) (hb 0 t s rfl rfl) (hok 0 t v rfl rfl) h0 (hz 0 t d rfl rfl)
    obtain ⟨cs, ps, g1, g2, g3⟩ := pars_ok (ts := ts) (shs := shs) (by simpa using hl) (fun i t s h1 h2 => hb (i + 1) t s (by simpa using h1) (by simpa using h2)) (fun j t v h1 h2 => hok (j + 1) t v (by simpa using h1) (by simpa using h2)) r0 (fun i t d h1 h2 => hz (i + 1) t d (by simpa using h1) (by simpa using h2))
    refine ⟨c1 ++ cs, ps1 ++ ps, ⟨v, vs', c1, cs, rfl, rfl, by simpa [shCs] using k1, ?_, g1⟩, ?_, by simp [g3]⟩
    · obtain ⟨fl, l⟩ := s
      exact k2
    · rw [List.flatMap_cons]; exact k3.append g2
  | [], _ :: _, _, _, _, hl, _, _, _, _ => by simp at hl
  | _ :: _, [], _, _, _, hl, _, _, _, _ => by simp at hl

theorem all3_split : ∀ {bs : List Bs} {vs : List Value} {ps : List PV}, All3 (BaseR C W) bs vs ps → All2 PvT bs ps ∧ All3 (ArgR C (Old W) (fun b => W.heap.size ≤ b) W) (bs.map Bs.cs) vs ps
  | [], [], [], _ => ⟨trivial, trivial⟩
  | _ :: _, _ :: _, _ :: _, ⟨⟨x1, x2⟩, y⟩ => ⟨⟨x1, (all3_split y).1⟩, x2, (all3_split y).2⟩
  | [], [], _ :: _, x => x.elim
  | [], _ :: _, _, x => x.elim
  | _ :: _, [], _, x => x.elim
  | _ :: _, _ :: _, [], x => x.elim
theorem flat_cs : ∀ (shs : List (Bool × List Bs)), ((shs.map shCs).flatMap (·.2)) = (shs.flatMap (·.2)).map Bs.cs
  | [] => rfl
  | s :: shs => by rw [List.map_cons, List.flatMap_cons, List.flatMap_cons, List.map_append, flat_cs shs]; rfl
theorem roPars_bs (l : List Bs) : roPars (l.map Bs.cs) = true := by
  unfold roPars
  rw [List.all_eq_true]
  intro c hc
  simp only [List.mem_map] at hc
  obtain ⟨b, _, rfl⟩ := hc
  cases b <;> rfl

theorem keep_frame {w w' : World} (h : Keep (fun b => w.heap.size ≤ b) w w') (may : MemPlace → Prop) : w.keptBut w' may := by
  obtain ⟨h1, h2, h3⟩ := h
  refine ⟨h3.os, h3.out, fun i hi => ?_⟩
  rw [h2 i (by omega) hi]
  split <;> simp_all
theorem keep_same {w w' : World} (h : Keep (fun b => w.heap.size ≤ b) w w') {p : MemPlace} (hp : p.block < w.heap.size) : w.sameAt w' p := by
  obtain ⟨h1, h2, h3⟩ := h
  cases p with
  | cell b o => exact World.cell?_of_block (w := w) (h2 b (by simp only [MemPlace.block] at hp; omega) hp)
  | map b => exact h2 b (by simp only [MemPlace.block] at hp; omega) hp
theorem keep_args {w w' : World} (hl : laidOutB C.P = true) (h : Keep (fun b => w.heap.size ≤ b) w w') : ∀ {ts : List TypeId} {vs : List Value} {ds : List (DataW H)} {p : List MemPlace}, (∀ t ∈ ts, C.P.readableRec t = true ∧ t < C.P.types.size) →
    DataW.TrodAll enc C.P w 0 (fun _ => true) true ts vs ds p → DataW.TrodAll enc C.P w' 0 (fun b => decide (b < w.heap.size)) true ts vs ds p
  | [], vs, ds, p, _, hA => by obtain ⟨rfl, rfl, rfl⟩ := trodAll_nil hA; exact trodAll_mk0
  | t :: ts, vs, ds, p, hr, hA => by
    obtain ⟨v, vs', d, ds', p1, q1, rfl, rfl, rfl, h0, r0⟩ := trodAll_cons hA
    have hlt : ∀ x ∈ p1, x.block < w.heap.size := by obtain ⟨m, hm⟩ := h0; exact DataW.trod_lt m _ _ _ hm
    exact trodAll_cons_mk (WideElems.Trod_stays hl (hr t (by simp)).1 (hr t (by simp)).2 h0 (fun x hx => keep_same h (hlt x hx)) (fun x hx => by simpa using hlt x hx)) (keep_args hl h (fun t ht => hr t (by simp [ht])) r0)

/-- A law's call, with what it leaves as it was. -/
theorem law_calls2 {tab : Nat → Option (TT Unit)} (h : TabOK C tab) {fid id : Nat} {sp : Spec} {us cs : List Value} {ps : List PV} {k : Nat} {w : World} (hid : C.fid fid = some id) (hsp : C.spec id = some sp)
    (hro : roPars (sp.params.flatMap (·.2)) = true) (hres : sp.results = [(false, [.sc .b])]) (hg : Grp sp.params us cs) (har : All3 (ArgR C (Old w) (fun b => w.heap.size ≤ b) w) (sp.params.flatMap (·.2)) cs ps)
    (hk : fden tab k id ps = some [.v (.bool true)]) : Calls C.P fid us.toArray w fun e w' => e = .returned (.bool true) ∧ Keep (fun b => w.heap.size ≤ b) w w' := by
  obtain ⟨l1, l2⟩ := roPars_nil (vs := cs) hro
  refine Calls.mono ((tab_ok h k).fn fid id sp hid hsp (Old w) (fun b => w.heap.size ≤ b) w us cs ps _ (fun b hb => hb) (fun b hb => hb) hg har (by rw [l1]; simp) hk) fun e w' he => ?_
  obtain ⟨us', cs', S', ps1, ps2, rfl, hgr, hps, hr, hl, _, hkp, _⟩ := he
  rw [l2] at hl
  have hp2 : ps2 = [] := by
    cases ps2 with
    | nil => rfl
    | cons => exact hl.elim
  subst hp2
  rw [hres] at hgr hr
  obtain ⟨u, us1, c1, c2, rfl, rfl, h1, h2, h3⟩ := hgr
  obtain ⟨rfl, rfl⟩ := h3
  simp only [Bool.false_eq_true, if_false] at h2
  subst h2
  refine ⟨?_, hkp⟩
  cases ps1 with
  | nil => simp at hps
  | cons p ps1 =>
    simp only [List.append_nil, List.cons.injEq] at hps
    obtain ⟨rfl, rfl⟩ := hps
    have hr0 : ResR C S' (fun b => w.heap.size ≤ b) w' (.sc .b) u (.v (.bool true)) := by simpa [All3] using hr
    obtain ⟨k1, k2⟩ := hr0
    obtain ⟨b, rfl⟩ := has_bool k1
    simp only [cn, PV.v.injEq, Value.bool.injEq] at k2
    subst k2; rfl

/-- THE ROW's STEP, for any law of such arguments. -/
theorem law_post {tab : Nat → Option (TT Unit)} (h : TabOK C tab) {fid id : Nat} {sp : Spec} {fn : Func} {s : ChangeSpec} {shs : List (Bool × List Bs)} {args : Array Value} {ds gs : List (DataW H)} {before : List MemPlace} {t4 : TypeId}
    (hid : C.fid fid = some id) (hsp : C.spec id = some sp) (hpar : sp.params = shs.map shCs) (hres : sp.results = [(false, [.sc .b])])
    (hlen : fn.params.toList.length = shs.length) (hB : ((List.range shs.length).all fun i => match fn.params.toList[i]?, shs[i]? with | some t, some s => parB C.P t s | _, _ => false) = true)
    (hvars : s.vars = []) (hspec : ∀ ds : List (DataW H), ds.length = shs.length → (s.fn H ds).results = [.lit (.bool true)] ∧ (s.fn H ds).args = ds ∧ (s.fn H ds).vars = [])
    (hrt : fn.resultTypes = #[t4]) (ht4 : C.P.underlying t4 = some .bool) (hlaid : laidOutB C.P = true) (hread : (fn.params.toList.all fun t => C.P.readableRec t && decide (t < C.P.types.size)) = true)
    (hval : ∀ (j : Nat) t v, fn.params[j]? = some t → args[j]? = some v → Value.okWide C.P W .any base t v)
    (hW : DataW.Whole enc C.P fn.params.toList s.vars false W args.toList ds gs before)
    (hsz : (DataW.weightsEach C.P (fn.params.toList ++ s.plain.varTypes C.P) (ds ++ gs)).all (· ≤ reachBytes) = true)
    (hlaw : ∀ ps, All2 PvT (shs.flatMap (·.2)) ps → ∃ k, fden tab k id ps = some [.v (.bool true)]) :
    Calls C.P fid args W fun e W' => ∃ v, e = .returned v ∧ s.post enc C.P fn false true false false W args v W' := by
  have hW' := hW
  obtain ⟨p, q, hA, hV, rfl, hfz, hnd⟩ := hW
  rw [hvars] at hV
  obtain ⟨rfl, rfl⟩ := trodVars_none hV
  rw [List.all_eq_true] at hB
  obtain ⟨cs, ps, g1, g2, g3⟩ := pars_ok (C := C) (W := W) (base := base) hlen (fun i t s h1 h2 => by
      have hi : i < shs.length := by
        rcases Nat.lt_or_ge i shs.length with h | h
        · exact h
        · rw [List.getElem?_eq_none h] at h2; cases h2
      have := hB i (by simpa using hi)
      rw [h1, h2] at this; exact this) (fun j t v h1 h2 => hval j t v (by simpa using h1) (by simpa using h2)) hA (fun i t d h1 h2 n hn => by
      rw [List.all_eq_true] at hsz
      have h1' : (fn.params.toList ++ s.plain.varTypes C.P)[i]? = some t := by
        rw [List.getElem?_append_left]
        · exact h1
        · rcases Nat.lt_or_ge i fn.params.toList.length with h | h
          · exact h
          · rw [List.getElem?_eq_none h] at h1; cases h1
      have := hsz n (DataW.weights_mem_each (j := i) h1' (by simpa using h2) n hn)
      simpa using this)
  obtain ⟨k1, k2⟩ := all3_split g2
  obtain ⟨k, hk⟩ := hlaw ps k1
  have hflat : sp.params.flatMap (·.2) = (shs.flatMap (·.2)).map Bs.cs := by rw [hpar]; exact flat_cs shs
  have hcall := law_calls2 h (us := args.toList) (cs := cs) (ps := ps) (w := W) hid hsp (by rw [hflat]; exact roPars_bs _) hres (by rw [hpar]; exact g1) (by rw [hflat]; exact k2) hk
  rw [show args.toList.toArray = args by simp] at hcall
  refine hcall.mono fun e W' ⟨he, hkp⟩ => ?_
  subst he
  obtain ⟨s1, s2, s3⟩ := hspec ds (by omega)
  refine ⟨_, rfl, ds, [], _, [], p, [], hW', ?_, ?_, ?_, keep_frame hkp _, fun h => by cases h⟩
  · rw [List.append_nil, s1, hrt]
    exact trodAll_mk1 (shut_bool ht4 _)
  · rw [List.append_nil, s2]
    rw [List.all_eq_true] at hread
    exact keep_args hlaid hkp (fun t ht => by have := hread t ht; simpa using this) hA
  · rw [List.append_nil, s3, hvars]
    exact rfl
end
end Go.Proofs.YthchhkghjfendabGreat.Dx
