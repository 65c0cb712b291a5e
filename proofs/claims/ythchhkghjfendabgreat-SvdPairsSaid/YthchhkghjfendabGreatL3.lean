/- A compiler from the code of functions to trees of pure statements, and the proof that it is right. No conditions. -/
import Derived.RowKit3
import Derived.OpenShut
import Derived.WideKeyArgs
import Derived.ChangeOld
import Derived.Handed
import Derived.SizedLaws
import Derived.Test.YthchhkghjfendabGreatL2
set_option linter.all false
namespace Go.Proofs.YthchhkghjfendabGreat.Dx
open Go
section
variable {C : Ctx} {F : Nat → List PV → Option (List PV)} {N : Nat} {ρ : List PV} {hdr hdr' : Hdr} {S S' Wr : Nat → Prop} {σ σ' : Sym} {a a' : Act} {w w' : World} {pins : List Nat} {Q Q' : Exit → Act → World → Prop}
theorem lt_of_some {α : Type} {l : List α} {i : Nat} {x : α} (h : l[i]? = some x) : i < l.length := by
 rcases Nat.lt_or_ge i l.length with h' | h'
 ·exact h'
 ·simp [List.getElem?_eq_none h'] at h
def isSite : CS → Bool
 | .own _ | .mv _ | .bx _ | .rbx _ => true
 | _ => false
def siteP : List CS → List Value → List (CS × Value)
 | c :: cs, v :: vs => if isSite c then (c, v) :: siteP cs vs else siteP cs vs
 | _, _ => []
theorem siteP_append : ∀ {cs : List CS} {vs : List Value} {cs' : List CS} {vs' : List Value}, cs.length = vs.length → siteP (cs ++ cs') (vs ++ vs') = siteP cs vs ++ siteP cs' vs'
 | [], [], _, _, _ => rfl
 | c :: cs, v :: vs, _, _, h => by
  have := siteP_append (cs := cs) (vs := vs) (cs' := ‹_›) (vs' := ‹_›) (by simpa using h)
  simp only [List.cons_append, siteP, this]
  split <;> rfl
 | [], _ :: _, _, _, h => by simp at h
 | _ :: _, [], _, _, h => by simp at h
theorem liveBs_site : ∀ (cs : List CS) (vs : List Value), liveBs cs vs = (siteP cs vs).flatMap fun p => (lvB p.1 p.2).toList
 | [], vs => by simp [liveBs, siteP]
 | c :: cs, [] => by simp [liveBs, siteP]
 | c :: cs, v :: vs => by
  have := liveBs_site cs vs
  cases c <;> simp [liveBs, siteP, isSite, lvB, this]
theorem box_cells {k : Nat} {ts : List Ty} {cs : List SC} {p : PV} {b : Nat} {fz : Nat × Nat} (hcs : cellsE (.var k) ts 0 ts.length = some cs) (hp : ρ[k]? = some p) (hB : BoxC C S w b fz ts p) :
  ∃ arr e, w.heap[b]? = some (.cells arr e fz) ∧ All2 (SCRel C ρ hdr S w) cs arr.toList ∧ ∀ v ∈ arr.toList, v.oneCell' = true := by
 obtain ⟨arr, e, cp, g1, g2, g3, g4⟩ := hB
 have hp0 : (Exp.var k).den ρ = p := var_den hp
 have key : ∀ j, ∃ v, ∀ t, ts[j]? = some t → arr[j]? = some v ∧ RepC C S w t v (cp j) := fun j => by
  cases ht : ts[j]? with
  | none => exact ⟨undef, fun t h => by cases h⟩
  | some t =>
   obtain ⟨v, q1, q2⟩ := g4 j t ht
   exact ⟨v, fun t' h => by cases h; exact ⟨q1, q2⟩⟩
 obtain ⟨cv, hcv⟩ := Classical.axiomOfChoice key
 have h := cellsE_ok (C := C) (ρ := ρ) (hdr := hdr) (S := S) (w := w) (cv := cv) (cp := cp) (q := (List.range ts.length).map cp) hcs (by rw [hp0, g3]) (fun j hj => by simp [hj]) fun j t ht => (hcv j t ht).2
 have harr : arr.toList = (List.range ts.length).map fun k => cv (0 + k) := by
  refine List.ext_getElem? fun j => ?_
  by_cases hj : j < ts.length
  ·have := (hcv j ts[j] (by simp [hj])).1
   simp [hj, this]
  ·rw [List.getElem?_eq_none (by simp; omega), List.getElem?_eq_none (by simp; omega)]
 rw [← harr] at h
 exact ⟨arr, e, g1, h, fun u hu => by
  obtain ⟨i, hi⟩ := List.mem_iff_getElem?.1 hu
  obtain ⟨c, _, h⟩ := h.get' hi
  exact h.one⟩
def siteLive : CS → Bool
 | .rbx _ => false
 | _ => true
theorem initCells_ok : ∀ {l : List CS} {k ns : Nat} {cs : List SC} {os : List Obj} {vs : List Value} {ps : List PV}, initCells l k ns = some (cs, os) → All3 (ArgR C S Wr w) l vs ps → (∀ i p, ps[i]? = some p → ρ[k + i]? = some p) →
  (∀ i c v, (siteP l vs)[i]? = some (c, v) → hdr (ns + i) = some v) →
  All2 (SCRel C ρ hdr S w) cs vs ∧ os.length = (siteP l vs).length ∧ (∀ i o, os[i]? = some o → ObjR C ρ hdr S Wr w (ns + i) o ∧ ∃ c v, (siteP l vs)[i]? = some (c, v) ∧ (o.live = true → siteLive c = true)) ∧
   cs.all (·.closed (k + l.length)) = true ∧ os.all (·.closed (k + l.length)) = true
 | [], k, ns, cs, os, [], [], h, _, _, _ => by
  simp only [initCells, Option.some.injEq, Prod.mk.injEq] at h
  obtain ⟨rfl, rfl⟩ := h
  exact ⟨trivial, rfl, fun i o h => by simp at h, rfl, rfl⟩
 | c :: l, k, ns, cs, os, v :: vs, p :: ps, h, ⟨h1, h2⟩, hp, hh => by
  have hp00 : ρ[k]? = some p := hp 0 p rfl
  have hp0 : (Exp.var k).den ρ = p := var_den hp00
  have hps : ∀ i p, ps[i]? = some p → ρ[k + 1 + i]? = some p := fun i q hq => by
   have := hp (i + 1) q (by simpa using hq)
   rwa [show k + (i + 1) = k + 1 + i by omega] at this
  have hlen : k + (c :: l).length = k + 1 + l.length := by simp; omega
  have hvc : (Exp.var k).closed (k + 1 + l.length) = true := by simp [Exp.closed]; omega
  have one : ∀ {x : SC} {xs : List SC} {ys : List Obj} (_ : isSite c = false) (_ : initCells l (k + 1) ns = some (xs, ys)) (_ : cs = x :: xs) (_ : os = ys) (_ : SCRel C ρ hdr S w x v) (_ : x.closed (k + 1 + l.length) = true),
    All2 (SCRel C ρ hdr S w) cs (v :: vs) ∧ os.length = (siteP (c :: l) (v :: vs)).length ∧ (∀ i o, os[i]? = some o → ObjR C ρ hdr S Wr w (ns + i) o ∧ ∃ c' v', (siteP (c :: l) (v :: vs))[i]? = some (c', v') ∧ (o.live = true → siteLive c' = true)) ∧
     cs.all (·.closed (k + (c :: l).length)) = true ∧ os.all (·.closed (k + (c :: l).length)) = true := fun {x xs ys} hs hi ecs eos hx hxc => by
   subst ecs eos
   have hsp : siteP (c :: l) (v :: vs) = siteP l vs := by simp [siteP, hs]
   rw [hsp] at hh ⊢
   obtain ⟨i1, i2, i3, i4, i5⟩ := initCells_ok hi h2 hps hh
   rw [hlen]
   exact ⟨⟨hx, i1⟩, i2, i3, by simp only [List.all_cons, hxc, i4, Bool.and_self], i5⟩
  have site : ∀ {x : SC} {ob : Obj} {xs : List SC} {ys : List Obj} (_ : isSite c = true) (_ : initCells l (k + 1) (ns + 1) = some (xs, ys)) (_ : cs = x :: xs) (_ : os = ob :: ys) (_ : hdr ns = some v → SCRel C ρ hdr S w x v) (_ : x.closed (k + 1 + l.length) = true)
    (_ : hdr ns = some v → ObjR C ρ hdr S Wr w ns ob) (_ : ob.closed (k + 1 + l.length) = true) (_ : ob.live = true → siteLive c = true),
    All2 (SCRel C ρ hdr S w) cs (v :: vs) ∧ os.length = (siteP (c :: l) (v :: vs)).length ∧ (∀ i o, os[i]? = some o → ObjR C ρ hdr S Wr w (ns + i) o ∧ ∃ c' v', (siteP (c :: l) (v :: vs))[i]? = some (c', v') ∧ (o.live = true → siteLive c' = true)) ∧
     cs.all (·.closed (k + (c :: l).length)) = true ∧ os.all (·.closed (k + (c :: l).length)) = true := fun {x ob xs ys} hs hi ecs eos hx hxc hob hobc hlv => by
   subst ecs eos
   have hsp : siteP (c :: l) (v :: vs) = (c, v) :: siteP l vs := by simp [siteP, hs]
   rw [hsp] at hh ⊢
   have h0 := hh 0 c v rfl
   obtain ⟨i1, i2, i3, i4, i5⟩ := initCells_ok hi h2 hps fun i c' v' hi => by
    have := hh (i + 1) c' v' (by simpa using hi)
    rwa [show ns + (i + 1) = ns + 1 + i by omega] at this
   rw [hlen]
   refine ⟨⟨hx h0, i1⟩, by simp [i2], fun i o ho => ?_, by simp only [List.all_cons, hxc, i4, Bool.and_self], by simp only [List.all_cons, hobc, i5, Bool.and_self]⟩
   cases i with
   | zero => simp at ho; subst ho; exact ⟨hob h0, c, v, rfl, hlv⟩
   | succ i =>
    have := i3 i o (by simpa using ho)
    rw [show ns + 1 + i = ns + (i + 1) by omega] at this
    simpa using this
  cases c with
  | sc κ =>
   simp only [initCells, Option.map_eq_some_iff, Prod.mk.injEq] at h
   obtain ⟨⟨xs, ys⟩, h3, rfl, rfl⟩ := h
   exact one rfl h3 rfl rfl ⟨h1.1, hp0.trans h1.2⟩ hvc
  | ro t =>
   simp only [initCells, Option.map_eq_some_iff, Prod.mk.injEq] at h
   obtain ⟨⟨xs, ys⟩, h3, rfl, rfl⟩ := h
   refine one rfl h3 rfl rfl ?_ hvc
   show RepC C S w _ _ _
   rw [hp0]; exact h1
  | fnv n m =>
   simp only [initCells, Option.map_eq_some_iff, Prod.mk.injEq] at h
   obtain ⟨⟨xs, ys⟩, h3, rfl, rfl⟩ := h
   refine one rfl h3 rfl rfl ?_ hvc
   show RepC C S w _ _ _
   rw [hp0]; exact h1
  | own t =>
   simp only [initCells, Option.map_eq_some_iff, Prod.mk.injEq] at h
   obtain ⟨⟨xs, ys⟩, h3, rfl, rfl⟩ := h
   exact site rfl h3 rfl rfl (fun h0 => ⟨h0, RowR.one h1⟩) rfl (fun h0 => ⟨v, h0, by rw [hp0]; exact h1⟩) hvc fun _ => rfl
  | mv t =>
   simp only [initCells, Option.map_eq_some_iff, Prod.mk.injEq] at h
   obtain ⟨⟨xs, ys⟩, h3, rfl, rfl⟩ := h
   exact site rfl h3 rfl rfl (fun h0 => ⟨h0, RowR.one h1⟩) rfl (fun h0 => ⟨v, h0, by rw [hp0]; exact h1⟩) hvc fun _ => rfl
  | bx ts =>
   simp only [initCells, Option.bind_eq_some_iff, Option.map_eq_some_iff, Prod.mk.injEq] at h
   obtain ⟨⟨xs, ys⟩, h3, cl, h4, rfl, rfl⟩ := h
   obtain ⟨b, rfl, hB, g5, g6⟩ := h1
   obtain ⟨arr, e, k1, k2, k3⟩ := box_cells (hdr := hdr) h4 hp00 hB
   exact site rfl h3 rfl rfl (fun h0 => ⟨b, h0, rfl⟩) rfl (fun h0 => ⟨b, arr, e, h0, k1, k2, k3, g5, g6⟩) (cellsE_closed h4 hvc) fun _ => rfl
  | rbx ts =>
   simp only [initCells, Option.bind_eq_some_iff, Option.map_eq_some_iff, Prod.mk.injEq] at h
   obtain ⟨⟨xs, ys⟩, h3, cl, h4, rfl, rfl⟩ := h
   obtain ⟨b, fz, rfl, hB, g5⟩ := h1
   obtain ⟨arr, e, k1, k2, k3⟩ := box_cells (hdr := hdr) h4 hp00 hB
   exact site rfl h3 rfl rfl (fun h0 => ⟨b, h0, rfl⟩) rfl (fun h0 => ⟨b, arr, e, fz, h0, k1, k2, k3, g5⟩) (cellsE_closed h4 hvc) fun h => by simp [Obj.live] at h
 | [], _, _, _, _, [], _ :: _, _, h, _, _ => h.elim
 | [], _, _, _, _, _ :: _, _, _, h, _, _ => h.elim
 | _ :: _, _, _, _, _, [], _, _, h, _, _ => h.elim
 | _ :: _, _, _, _, _, _ :: _, [], _, h, _, _ => h.elim
theorem initAll_ok : ∀ {l : List (Bool × List CS)} {k ns : Nat} {xs : List SV} {os : List Obj} {us vs : List Value} {ps : List PV}, initAll l k ns = some (xs, os) → Grp l us vs → All3 (ArgR C S Wr w) (l.flatMap (·.2)) vs ps → (∀ i p, ps[i]? = some p → ρ[k + i]? = some p) →
  (∀ i c v, (siteP (l.flatMap (·.2)) vs)[i]? = some (c, v) → hdr (ns + i) = some v) →
  All2 (SVRel C ρ hdr S w) xs us ∧ os.length = (siteP (l.flatMap (·.2)) vs).length ∧ (∀ i o, os[i]? = some o → ObjR C ρ hdr S Wr w (ns + i) o ∧ ∃ c v, (siteP (l.flatMap (·.2)) vs)[i]? = some (c, v) ∧ (o.live = true → siteLive c = true)) ∧
   xs.all (·.closed (k + (l.map (·.2.length)).sum)) = true ∧ os.all (·.closed (k + (l.map (·.2.length)).sum)) = true
 | [], k, ns, xs, os, us, vs, ps, h, ⟨h1, h2⟩, _, _, _ => by
  subst h1 h2
  simp only [initAll, Option.some.injEq, Prod.mk.injEq] at h
  obtain ⟨rfl, rfl⟩ := h
  exact ⟨trivial, rfl, fun i o h => by simp at h, rfl, rfl⟩
 | (b, l) :: r, k, ns, xs, os, us, vs, ps, h, hg, har, hp, hh => by
  simp only [initAll, Option.bind_eq_bind, Option.bind_eq_some_iff, Option.some.injEq, Prod.mk.injEq] at h
  obtain ⟨⟨cs, o1⟩, h1, x, h2, ⟨xs', o2⟩, h3, rfl, rfl⟩ := h
  obtain ⟨u, us', c1, c2, rfl, rfl, hl, hb, hg'⟩ := hg
  obtain ⟨p1, p2, rfl, a1, a2⟩ := All3.split (as := l) (bs := c1) (by simpa using har) hl.symm
  have hl1 := a1.length.2
  rw [show List.flatMap (fun x : Bool × List CS => x.2) ((b, l) :: r) = l ++ r.flatMap (·.2) by simp, siteP_append hl.symm] at hh ⊢
  obtain ⟨i1, i2, i3, i4, i5⟩ := initCells_ok (ρ := ρ) (hdr := hdr) h1 a1 (fun i p hi => hp i p (by
   rw [List.getElem?_append_left (lt_of_some hi)]; exact hi)) fun i c v hv => hh i c v (by
   rw [List.getElem?_append_left (lt_of_some hv)]; exact hv)
  obtain ⟨j1, j2, j3, j4, j5⟩ := initAll_ok h3 hg' a2 (fun i p hi => by
   have := hp (l.length + i) p (by rw [List.getElem?_append_right (by omega)]; rw [hl1]; simpa using hi)
   rwa [← Nat.add_assoc] at this) fun i c v hv => by
   have := hh ((siteP l c1).length + i) c v (by rw [List.getElem?_append_right (by omega)]; simpa using hv)
   rwa [← Nat.add_assoc, ← i2] at this
  have hsum : k + (((b, l) :: r).map (·.2.length)).sum = k + l.length + (r.map (·.2.length)).sum := by simp; omega
  rw [hsum]
  refine ⟨⟨?_, j1⟩, by rw [List.length_append, List.length_append, i2, j2], fun i o ho => ?_, ?_, ?_⟩
  ·have := mkSV_ok h2 i1
   cases b
   ·simp only [Bool.false_eq_true, if_false] at hb this
    subst hb
    exact this
   ·simp only [if_true] at hb this
    rw [hb]; exact this
  ·rcases Nat.lt_or_ge i o1.length with hlt | hge
   ·rw [List.getElem?_append_left hlt] at ho
    obtain ⟨k1, c, v, k2, k3⟩ := i3 i o ho
    exact ⟨k1, c, v, by rw [List.getElem?_append_left (lt_of_some k2)]; exact k2, k3⟩
   ·rw [List.getElem?_append_right hge] at ho
    obtain ⟨k1, c, v, k2, k3⟩ := j3 _ o ho
    refine ⟨by rwa [show ns + o1.length + (i - o1.length) = ns + i by omega] at k1, c, v, ?_, k3⟩
    rw [List.getElem?_append_right (by omega), ← i2]; exact k2
  ·simp only [List.all_cons, j4, Bool.and_true]
   exact SV.closed_mono (mkSV_closed h2 i4) (by omega)
  ·rw [List.all_append, j5, Bool.and_true]
   exact all_mono i5 fun _ h => Obj.closed_mono h (by omega)
theorem flat_two' {α : Type} {f : α → Option Nat} : ∀ {L : List α}, (L.flatMap fun x => (f x).toList).Nodup → ∀ {i j : Nat} {x y : α} {b : Nat}, L[i]? = some x → L[j]? = some y → i ≠ j → f x = some b → f y ≠ some b
 | [], _, i, j, x, y, b, h, _, _, _ => by simp at h
 | z :: L, hn, i, j, x, y, b, hi, hj, hne, h1 => by
  intro h2
  rw [List.flatMap_cons, List.nodup_append] at hn
  obtain ⟨_, n2, n3⟩ := hn
  cases i with
  | zero =>
   cases j with
   | zero => exact hne rfl
   | succ j =>
    simp at hi hj; subst hi
    exact n3 b (by simp [h1]) b (List.mem_flatMap.2 ⟨y, List.mem_of_getElem? hj, by simp [h2]⟩) rfl
  | succ i =>
   cases j with
   | zero =>
    simp at hi hj; subst hj
    exact n3 b (by simp [h2]) b (List.mem_flatMap.2 ⟨x, List.mem_of_getElem? hi, by simp [h1]⟩) rfl
   | succ j =>
    simp at hi hj
    exact flat_two' n2 hi hj (by omega) h1 h2
def hdrF (l : List (CS × Value)) : Hdr := fun s => (l[s]?).map (·.2)
theorem init_good {sp : Spec} {xs : List SV} {os : List Obj} {us vs : List Value} {ps : List PV} {nt : Nat} (h : initAll sp.params 0 0 = some (xs, os)) (hsb : ∀ b, S b → b < w.heap.size) (hW : ∀ b, w.heap.size ≤ b → Wr b)
  (hg : Grp sp.params us vs) (har : All3 (ArgR C S Wr w) (sp.params.flatMap (·.2)) vs ps) (hnd : (liveBs (sp.params.flatMap (·.2)) vs).Nodup) :
  Good C ps (hdrF (siteP (sp.params.flatMap (·.2)) vs)) S Wr { tm := xs.map (fun v => some ⟨[], v⟩) ++ List.replicate (nt - xs.length) none, objs := os.map some, nv := nPar sp }
   { tmps := us.toArray ++ Array.replicate (nt - us.toArray.size) undef, defers := [] } w := by
 have hnv : ps.length = nPar sp := by
  rw [har.length.2, nPar, List.length_flatMap]
 obtain ⟨i1, i2, i3, i4, i5⟩ := initAll_ok (ρ := ps) (hdr := hdrF (siteP (sp.params.flatMap (·.2)) vs)) h hg har (fun i p hi => by simpa using hi) fun i c v hi => by simp [hdrF, hi]
 have hxl := i1.length
 have hob : ∀ (s : Nat) (o : Obj), Sym.ob { tm := xs.map (fun v => some ⟨[], v⟩) ++ List.replicate (nt - xs.length) none, objs := os.map some, nv := nPar sp } s = some o → os[s]? = some o := fun s o ho => by
  simp only [Sym.ob, List.getElem?_map] at ho
  cases hx : os[s]? with
  | none => simp [hx] at ho
  | some y => simp [hx] at ho; rw [ho]
 have hev : ∀ (t : Nat) (s : Slot), Sym.ev { tm := xs.map (fun v => some ⟨[], v⟩) ++ List.replicate (nt - xs.length) none, objs := os.map some, nv := nPar sp } t = some s → ∃ x, xs[t]? = some x ∧ s = ⟨[], x⟩ := fun t s ht => by
  simp only [Sym.ev] at ht
  rcases Nat.lt_or_ge t xs.length with hlt | hge
  ·rw [List.getElem?_append_left (by simpa using hlt)] at ht
   simp [hlt] at ht
   exact ⟨xs[t], by simp [hlt], ht.symm⟩
  ·rw [List.getElem?_append_right (by simpa using hge)] at ht
   simp [List.getElem?_replicate] at ht
   split at ht <;> simp at ht
 have hcl : ∀ {l : List (Bool × List CS)}, 0 + (l.map (·.2.length)).sum = (l.map (·.2.length)).sum := by simp
 rw [hcl] at i4 i5
 refine ⟨⟨?_, fun t s ht => ?_, fun s o ho => ?_, fun s s' o o' h1 h2 h3 h4 hne b hb => ?_, hsb, ?_, fun s v hv => ?_⟩, hnv, fun s hs => ?_, hW⟩
 ·simp [hxl]
 ·obtain ⟨x, hx, rfl⟩ := hev t s ht
  obtain ⟨u, hu, hr⟩ := i1.get hx
  have : (us.toArray ++ Array.replicate (nt - us.toArray.size) undef).getD t undef = u := by
   have hlt := lt_of_some hu
   rw [Array.getD_eq_getD_getElem?, Array.getElem?_append_left (by simpa using hlt)]
   simp [hu]
  dsimp only
  rw [this]
  exact ⟨fun _ => hr, fun hn => absurd (by intro p hp; simp at hp) hn⟩
 ·have := (i3 s o (hob s o ho)).1
  rwa [Nat.zero_add] at this
 ·obtain ⟨k1, c, v, k2, k3⟩ := i3 s o (hob s o h1)
  obtain ⟨k1', c', v', k2', k3'⟩ := i3 s' o' (hob s' o' h2)
  rw [liveBs_site] at hnd
  have hl : ∀ {c : CS} {v : Value} {s : Nat}, (siteP (sp.params.flatMap (·.2)) vs)[s]? = some (c, v) → siteLive c = true → isSite c = true → blk (hdrF (siteP (sp.params.flatMap (·.2)) vs)) s = lvB c v := fun {c v s} hs hl hsi => by
   rw [blk_eq (v := v) (by simp [hdrF, hs])]
   cases c <;> simp [siteLive, isSite] at hl hsi <;> rfl
  have hsite : ∀ {cs : List CS} {vs : List Value} {s : Nat} {c : CS} {v : Value}, (siteP cs vs)[s]? = some (c, v) → isSite c = true := fun {cs} => by
   induction cs with
   | nil => intro vs s c v h; simp [siteP] at h
   | cons x cs ih =>
    intro vs s c v h
    cases vs with
    | nil => simp [siteP] at h
    | cons u vs =>
     simp only [siteP] at h
     split at h
     ·rename_i hx
      cases s with
      | zero => simp at h; rw [← h.1]; exact hx
      | succ s => exact ih (by simpa using h)
     ·exact ih h
  rw [hl k2 (k3 h3) (hsite k2)] at hb
  rw [hl k2' (k3' h4) (hsite k2')]
  exact flat_two' (f := fun p : CS × Value => lvB p.1 p.2) hnd k2 k2' hne hb
 ·refine Sym.closed_of (fun t s ht => ?_) fun s o ho => ?_
  ·obtain ⟨x, hx, rfl⟩ := hev t s ht
   rw [List.all_eq_true] at i4
   simp only [Slot.closed, gdClosed, List.all_nil, Bool.true_and]
   rw [hnv]
   exact i4 x (List.mem_of_getElem? hx)
  ·rw [List.all_eq_true] at i5
   rw [hnv]
   exact i5 o (List.mem_of_getElem? (hob s o ho))
 ·have : ∀ (cs : List CS) (vs : List Value) (ps : List PV), All3 (ArgR C S Wr w) cs vs ps → ∀ p ∈ siteP cs vs, p.2.oneCell' = true := fun cs => by
   induction cs with
   | nil => intro vs ps h p hp; simp [siteP] at hp
   | cons c cs ih =>
    intro vs ps h p hp
    match vs, ps, h with
    | u :: vs, q :: ps, ⟨h1, h2⟩ =>
     simp only [siteP] at hp
     split at hp
     ·rename_i hs
      rcases List.mem_cons.1 hp with rfl | hp
      ·cases c with
       | own t => exact RowR.one h1
       | mv t => exact RowR.one h1
       | bx ts => obtain ⟨b, rfl, _⟩ := h1; rfl
       | rbx ts => obtain ⟨b, fz, rfl, _⟩ := h1; rfl
       | _ => simp [isSite] at hs
      ·exact ih vs ps h2 p hp
     ·exact ih vs ps h2 p hp
  unfold hdrF at hv
  simp only [Option.map_eq_some_iff] at hv
  obtain ⟨p, hp, rfl⟩ := hv
  exact this _ _ _ har p (List.mem_of_getElem? hp)
 ·simp only [List.length_map] at hs
  unfold hdrF
  rw [List.getElem?_eq_none (by omega)]; rfl
end
section
variable {C : Ctx} {F : Nat → List PV → Option (List PV)} {N : Nat} {ρ : List PV} {hdr hdr' : Hdr} {S S2 S' Wr : Nat → Prop} {σ σ2 σ' : Sym} {a a' : Act} {w w' : World} {pins : List Nat} {Q Q' : Exit → Act → World → Prop}
structure FzS (C : Ctx) (ρ : List PV) (hdr : Hdr) (S2 Wr : Nat → Prop) (σ σ2 : Sym) (a : Act) (w : World) (fs : List Nat) : Prop where
 st : St C ρ hdr S2 Wr σ2 a w
 tm : σ2.tm = σ.tm
 fz : ∀ s ∈ fs, ∀ x t, σ.ob s = some (.row x t) → σ2.ob s = some (.rrow x t)
 nf : ∀ s, s ∉ fs → σ2.ob s = σ.ob s
 nr : ∀ s, (∀ x t, σ.ob s ≠ some (.row x t)) → σ2.ob s = σ.ob s
theorem freeze_list (st : St C ρ hdr S Wr σ a w) (fs : List Nat) : ∃ σ2 S2, FzS C ρ hdr S2 Wr σ σ2 a w fs ∧ Ev Wr 0 0 hdr S w hdr S2 w := by
 let us : List (Nat × Obj) := fs.filterMap fun s => match σ.ob s with | some (.row x t) => some (s, .rrow x t) | _ => none
 have hus : ∀ u ∈ us, ∃ x t, u.2 = .rrow x t ∧ σ.ob u.1 = some (.row x t) ∧ u.1 ∈ fs := fun u hu => by
  obtain ⟨s, h1, h2⟩ := List.mem_filterMap.1 hu
  split at h2
  ·rename_i x t ho
   cases h2; exact ⟨x, t, rfl, ho, h1⟩
  ·cases h2
 obtain ⟨S1, st1, ev1⟩ := st.freezes (us := us) (ns := 0) (k := 0) fun u hu => by
  obtain ⟨x, t, k1, k2, _⟩ := hus u hu; exact ⟨x, t, k1, .inl k2⟩
 refine ⟨setObs σ us, S1, ⟨st1, rfl, fun s hs x t ho => ?_, fun s hs => ?_, fun s hs => ?_⟩, ev1⟩
 ·refine setObs_ob_some us σ s _ (fun u hu e => ?_) (.inl ⟨(s, .rrow x t), List.mem_filterMap.2 ⟨s, hs, by simp [ho]⟩, rfl⟩)
  obtain ⟨x', t', k1, k2, _⟩ := hus u hu
  rw [e, ho] at k2; cases k2; exact k1
 ·refine setObs_ob_none us σ s fun u hu e => ?_
  obtain ⟨_, _, _, _, k⟩ := hus u hu
  rw [e] at k; exact hs k
 ·refine setObs_ob_none us σ s fun u hu e => ?_
  obtain ⟨x, t, _, k, _⟩ := hus u hu
  rw [e] at k; exact hs x t k
theorem FzS.frozen {fs : List Nat} (J : FzS C ρ hdr S2 Wr σ σ2 a w fs) {s : Nat} (hs : s ∈ fs ∨ ∃ x t, σ.ob s = some (.rrow x t)) : Frozen σ σ2 [s] := by
 intro s' hs' y t hy
 simp only [List.mem_singleton] at hs'
 subst hs'
 rcases hy with hy | hy
 ·rcases hs with hs | ⟨x, t', hs⟩
  ·exact J.fz _ hs _ _ hy
  ·rw [hs] at hy; cases hy
 ·rw [J.nr s' (fun x t' h => by rw [hy] at h; cases h)]; exact hy
def resB (r : RS) (v : Value) : Option Nat := match r with | .own _ => vblk v | _ => none
theorem resBs_flat : ∀ (rs : List RS) (vs : List Value), rs.length = vs.length → resBs rs vs = (List.zip rs vs).flatMap fun p => (resB p.1 p.2).toList
 | [], [], _ => rfl
 | r :: rs, v :: vs, h => by
  have := resBs_flat rs vs (by simpa using h)
  cases r <;> simp [resBs, resB, this]
 | [], _ :: _, h => by simp at h
 | _ :: _, [], h => by simp at h
theorem outC_ok {fs : List Nat} (J : FzS C ρ hdr S2 Wr σ σ2 a w fs) {c : SC} {r : RS} {v : Value} {x : Exp} {f o : List Nat} (h : outC σ c r = some (x, f, o)) (hv : SCRel C ρ hdr S2 w c v) (hf : ∀ s ∈ f, s ∈ fs) (ho : ∀ s ∈ o, s ∉ fs) :
  ResR C S2 Wr w r v (x.den ρ) ∧ (resB r v).toList = o.flatMap (fun s => (blk hdr s).toList) ∧ ∀ s ∈ o, ∃ ob, σ2.ob s = some ob ∧ ob.live = true := by
 unfold outC at h
 split at h
 ·rename_i κ
  split at h
  ·rename_i x' κ'
   split at h
   ·rename_i hk
    simp only [beq_iff_eq] at hk
    subst hk
    simp only [Option.some.injEq, Prod.mk.injEq] at h
    obtain ⟨rfl, rfl, rfl⟩ := h
    exact ⟨hv, rfl, fun s hs => by simp at hs⟩
   ·cases h
  ·cases h
 ·rename_i t
  split at h
  ·rename_i x' t'
   split at h
   ·rename_i hk
    simp only [beq_iff_eq] at hk
    subst hk
    simp only [Option.some.injEq, Prod.mk.injEq] at h
    obtain ⟨rfl, rfl, rfl⟩ := h
    exact ⟨hv, rfl, fun s hs => by simp at hs⟩
   ·cases h
  ·simp only [Option.some.injEq, Prod.mk.injEq] at h
   obtain ⟨rfl, rfl, rfl⟩ := h
   cases hv
   exact ⟨RepC.nil, rfl, fun s hs => by simp at hs⟩
  ·rename_i s
   split at h
   ·rename_i x' t' hob
    split at h
    ·rename_i hk
     simp only [beq_iff_eq] at hk
     subst hk
     simp only [Option.some.injEq, Prod.mk.injEq] at h
     obtain ⟨rfl, rfl, rfl⟩ := h
     exact ⟨listE_rep (σ := σ) J.st (c := .own s) (t' := some t) (by simp [listE, hob]) hv (J.frozen (.inl (hf s (by simp)))) (by simp [fits]), rfl, fun s hs => by simp at hs⟩
    ·cases h
   ·rename_i x' t' hob
    split at h
    ·rename_i hk
     simp only [beq_iff_eq] at hk
     subst hk
     simp only [Option.some.injEq, Prod.mk.injEq] at h
     obtain ⟨rfl, rfl, rfl⟩ := h
     exact ⟨listE_rep (σ := σ) J.st (c := .own s) (t' := some t) (by simp [listE, hob]) hv (J.frozen (.inr ⟨_, _, hob⟩)) (by simp [fits]), rfl, fun s hs => by simp at hs⟩
    ·cases h
   ·cases h
  ·rename_i s z off len
   split at h
   ·rename_i x' t' hob
    split at h
    ·rename_i hk
     simp only [Bool.and_eq_true, beq_iff_eq] at hk
     obtain ⟨rfl, hz⟩ := hk
     simp only [Option.some.injEq, Prod.mk.injEq] at h
     obtain ⟨rfl, rfl, rfl⟩ := h
     exact ⟨listE_rep (σ := σ) J.st (c := .sub s z off len) (t' := some t) (by simp [listE, hob, hz]) hv (J.frozen (.inl (hf s (by simp)))) (by simp [fits]), rfl, fun s hs => by simp at hs⟩
    ·cases h
   ·rename_i x' t' hob
    split at h
    ·rename_i hk
     simp only [Bool.and_eq_true, beq_iff_eq] at hk
     obtain ⟨rfl, hz⟩ := hk
     simp only [Option.some.injEq, Prod.mk.injEq] at h
     obtain ⟨rfl, rfl, rfl⟩ := h
     exact ⟨listE_rep (σ := σ) J.st (c := .sub s z off len) (t' := some t) (by simp [listE, hob, hz]) hv (J.frozen (.inr ⟨_, _, hob⟩)) (by simp [fits]), rfl, fun s hs => by simp at hs⟩
    ·cases h
   ·cases h
  ·cases h
 ·rename_i t
  split at h
  ·simp only [Option.some.injEq, Prod.mk.injEq] at h
   obtain ⟨rfl, rfl, rfl⟩ := h
   cases hv
   exact ⟨.inl ⟨rfl, rfl⟩, rfl, fun s hs => by simp at hs⟩
  ·rename_i s
   split at h
   ·rename_i x' t' hob
    split at h
    ·rename_i hk
     simp only [beq_iff_eq] at hk
     subst hk
     simp only [Option.some.injEq, Prod.mk.injEq] at h
     obtain ⟨rfl, rfl, rfl⟩ := h
     have hob2 : σ2.ob s = some (.row x' t) := by rw [J.nf s (ho s (by simp))]; exact hob
     obtain ⟨hd, k1, k2⟩ := J.st.ob _ _ hob2
     have := hv.1
     rw [k1] at this; cases this
     exact ⟨k2, by simp [resB, blk_eq k1], fun s' hs => by simp at hs; subst hs; exact ⟨_, hob2, rfl⟩⟩
    ·cases h
   ·cases h
  ·rename_i s z len
   split at h
   ·rename_i x' t' hob
    split at h
    ·rename_i hk
     simp only [Bool.and_eq_true, beq_iff_eq] at hk
     obtain ⟨rfl, rfl⟩ := hk
     simp only [Option.some.injEq, Prod.mk.injEq] at h
     obtain ⟨rfl, rfl, rfl⟩ := h
     have hob2 : σ2.ob s = some (.row x' t) := by rw [J.nf s (ho s (by simp))]; exact hob
     obtain ⟨hd, k1, k2⟩ := J.st.ob _ _ hob2
     obtain ⟨l, e1, _, e3⟩ := hv
     have hoff : ((Exp.int IntKind.i64 0).den ρ).int = 0 := rfl
     rw [hoff] at e3
     have hden : (Exp.bi .take (.bi .drop x' lit0) len).den ρ = .l (((x'.den ρ).list).take l) := by
      show PV.l ((PV.l ((x'.den ρ).list.drop 0)).list.take (len.den ρ).int.toNat) = _
      rw [e1]; rfl
     rw [hden]
     have hlive : ∀ s' ∈ [s], ∃ ob, σ2.ob s' = some ob ∧ ob.live = true := fun s' hs => by simp at hs; subst hs; exact ⟨_, hob2, rfl⟩
     rcases e3 with ⟨e4, e5, e6, _⟩ | ⟨b, n, cap, q, cap', e4, e5, e6, e7, e8, e9⟩
     ·subst e5 e6
      exact ⟨.inl ⟨rfl, by simp⟩, by simp [resB, vblk, blk_eq e4], hlive⟩
     ·have hq : q = 0 := by
       rcases e6 with e6 | ⟨_, e6⟩
       ·simpa using e6
       ·exact e6 rfl
      subst hq
      rw [k1] at e4; cases e4
      subst e5
      refine ⟨?_, by simp [resB, vblk, blk_eq k1], hlive⟩
      rcases k2 with ⟨h, _⟩ | ⟨b', n', cap0, arr, et, xs, cp, j1, j2, j3, j4, j5, j6, j7, j8, j9, j10⟩
      ·cases h
      ·cases j1
       rw [j5]
       simp only [PV.list]
       simp only [Int.toNat_zero, Nat.zero_add] at e7 e9
       refine .inr ⟨_, l, cap', arr, et, xs.take l, cp, rfl, j2, j3, j4, rfl, by simp; omega, e8, Nat.le_trans (Nat.mul_le_mul_right _ e9) j8, fun i p hi => j9 i p ?_, fun i j t' hi hj => j10 i j t' (by omega) hj⟩
       rw [List.getElem?_take] at hi
       split at hi
       ·exact hi
       ·cases hi
    ·cases h
   ·cases h
  ·cases h
theorem outCs_ok {fs : List Nat} (J : FzS C ρ hdr S2 Wr σ σ2 a w fs) : ∀ {cs : List SC} {rs : List RS} {vs : List Value} {xs : List Exp} {f o : List Nat}, outCs σ cs rs = some (xs, f, o) → All2 (SCRel C ρ hdr S2 w) cs vs → (∀ s ∈ f, s ∈ fs) → (∀ s ∈ o, s ∉ fs) →
  All3 (ResR C S2 Wr w) rs vs (xs.map (Exp.den ρ)) ∧ resBs rs vs = o.flatMap (fun s => (blk hdr s).toList) ∧ (∀ s ∈ o, ∃ ob, σ2.ob s = some ob ∧ ob.live = true) ∧ vs.length = rs.length
 | [], [], vs, xs, f, o, h, hv, _, _ => by
  simp only [outCs, Option.some.injEq, Prod.mk.injEq] at h
  obtain ⟨rfl, rfl, rfl⟩ := h
  cases vs with
  | nil => exact ⟨trivial, by simp [resBs], fun s hs => by simp at hs, rfl⟩
  | cons => exact hv.elim
 | c :: cs, r :: rs, vs, xs, f, o, h, hv, hf, ho => by
  simp only [outCs, Option.bind_eq_bind, Option.bind_eq_some_iff, Option.some.injEq, Prod.mk.injEq] at h
  obtain ⟨⟨x, f1, o1⟩, h1, ⟨xs', f2, o2⟩, h2, rfl, rfl, rfl⟩ := h
  cases vs with
  | nil => exact hv.elim
  | cons v vs =>
   obtain ⟨i1, i2, i3⟩ := outC_ok J h1 hv.1 (fun s hs => hf s (by simp [hs])) (fun s hs => ho s (by simp [hs]))
   obtain ⟨j1, j2, j3, j4⟩ := outCs_ok J h2 hv.2 (fun s hs => hf s (by simp [hs])) (fun s hs => ho s (by simp [hs]))
   refine ⟨⟨i1, j1⟩, ?_, fun s hs => ?_, by simp [j4]⟩
   ·rw [List.flatMap_append, ← i2, ← j2, resBs_flat _ _ (by simp [j4]), resBs_flat _ _ j4.symm]
    simp
   ·rcases List.mem_append.1 hs with hs | hs
    ·exact i3 s hs
    ·exact j3 s hs
 | [], _ :: _, _, _, _, _, h, _, _, _ => by simp [outCs] at h
 | _ :: _, [], _, _, _, _, h, _, _, _ => by simp [outCs] at h
def resRun (tmps : Array Value) : ResultVar → Sem Value
 | .tmp t => pure (tmps.getD t undef)
 | .cell a t => do loadVar t (← asAddr (tmps.getD a undef))
theorem mapM_run {P : Program} {α : Type} {f : α → Sem Value} : ∀ {l : List α} {us : List Value}, All2 (fun rv u => (f rv).run P w = .ok u w) l us → (l.mapM f).run P w = .ok us w
 | [], [], _ => by simp
 | x :: l, u :: us, ⟨h1, h2⟩ => by
  rw [List.mapM_cons]
  simp only [Sem.run_bind, h1, Result.andThen_ok, mapM_run h2, Sem.run_pure]
 | [], _ :: _, h => h.elim
 | _ :: _, [], h => h.elim
theorem results_run {P : Program} {fn : Func} {tmps : Array Value} {us : List Value} (h : All2 (fun rv u => (resRun tmps rv).run P w = .ok u w) fn.results.toList us) : (results fn tmps).run P w = .ok (retOf us) w := by
 have : results fn tmps = (do
   let vs ← fn.results.mapM (resRun tmps)
   pure (if h : vs.size = 1 then vs[0] else .tuple vs)) := by
  unfold results
  congr 1
 rw [this, Array.mapM_eq_mapM_toList]
 simp only [Sem.run_bind, Sem.run_map, mapM_run h, Result.andThen_ok, Sem.run_pure]
 cases us with
 | nil => rfl
 | cons u us =>
  cases us with
  | nil => rfl
  | cons => rfl
theorem resOf_ok {fs : List Nat} (J : FzS C ρ hdr S2 Wr σ σ2 a w fs) {rv : ResultVar} {agg : Bool} {n : Nat} {x : SV} (h : resOf C.P σ rv agg n = some x) : ∃ u, (resRun a.tmps rv).run C.P w = .ok u w ∧ SVRel C ρ hdr S2 w x u := by
 have hev : ∀ t, σ2.ev t = σ.ev t := fun t => by simp [Sym.ev, J.tm]
 have hnil : gdHolds ρ [] := fun p hp => by simp at hp
 unfold resOf at h
 split at h
 ·rename_i t
  split at h
  ·rename_i v hv
   simp only [Option.some.injEq] at h; subst h
   exact ⟨a.tmps.getD t undef, by simp [resRun], (J.st.sl t _ (by rw [hev]; exact hv)).1 hnil⟩
  ·cases h
 ·rename_i t ty
  split at h
  ·rename_i s hv
   obtain ⟨b, k1, k2⟩ := (J.st.sl t _ (by rw [hev]; exact hv)).1 hnil
   split at h
   ·rename_i cs hob
    split at h
    ·rename_i hg
     simp only [Bool.and_eq_true, beq_iff_eq] at hg
     obtain ⟨⟨⟨rfl, hsz⟩, hu⟩, hag⟩ := hg
     have hob2 : σ2.ob s = some (.box cs) := by rw [J.nr s fun x t h => by rw [hob] at h; cases h]; exact hob
     obtain ⟨b', arr, e, j1, j2, j3, j4⟩ := J.st.ob _ _ hob2
     rw [k1] at j1; cases j1
     have hl := j3.length
     have hone : isAggT C.P ty = false → cs.length = 1 := fun hf => by
      rw [hag] at hf
      subst hf
      unfold mkSV at h
      simp only [Bool.false_eq_true, if_false] at h
      split at h
      ·rfl
      ·cases h
     have hrun := run_loadVar (P := C.P) (w := w) (b := b) (o := 0) (vs := arr.toList) hu hsz hl.symm hone fun j v hj => by
      simp only [World.cell?, j2, Nat.zero_add]
      simpa using hj
     refine ⟨_, ?_, mkSV_ok h j3⟩
     have htm : a.tmps.getD t undef = .pointer (some ⟨b, 0, none⟩) := k2
     simp only [resRun, htm, asAddr, Sem.run_bind, Sem.run_pure, Result.andThen_ok]
     rw [hrun, hag]
    ·cases h
   ·cases h
  ·cases h
theorem outAll_ok {fs : List Nat} (J : FzS C ρ hdr S2 Wr σ σ2 a w fs) : ∀ {rvs : List ResultVar} {res : List (Bool × List RS)} {xs : List Exp} {f o : List Nat}, outAll C.P σ rvs res = some (xs, f, o) → (∀ s ∈ f, s ∈ fs) → (∀ s ∈ o, s ∉ fs) →
  ∃ us cs, All2 (fun rv u => (resRun a.tmps rv).run C.P w = .ok u w) rvs us ∧ Grp res us cs ∧ All3 (ResR C S2 Wr w) (res.flatMap (·.2)) cs (xs.map (Exp.den ρ)) ∧ resBs (res.flatMap (·.2)) cs = o.flatMap (fun s => (blk hdr s).toList) ∧ ∀ s ∈ o, ∃ ob, σ2.ob s = some ob ∧ ob.live = true
 | [], [], xs, f, o, h, _, _ => by
  simp only [outAll, Option.some.injEq, Prod.mk.injEq] at h
  obtain ⟨rfl, rfl, rfl⟩ := h
  exact ⟨[], [], trivial, ⟨rfl, rfl⟩, trivial, rfl, fun s hs => by simp at hs⟩
 | rv :: rvs, (b, l) :: res, xs, f, o, h, hf, ho => by
  simp only [outAll, Option.bind_eq_bind, Option.bind_eq_some_iff] at h
  obtain ⟨sv, h1, cs, h2, h3⟩ := h
  simp at h3
  obtain ⟨hb, h3⟩ := h3
  ·simp only [Option.bind_eq_some_iff, Option.some.injEq, Prod.mk.injEq] at h3
   obtain ⟨⟨x, f1, o1⟩, h4, ⟨xs', f2, o2⟩, h5, rfl, rfl, rfl⟩ := h3
   obtain ⟨u, k1, k2⟩ := resOf_ok J h1
   have k3 := cellsL_ok k2 h2
   obtain ⟨i1, i2, i3, i4⟩ := outCs_ok J h4 k3 (fun s hs => hf s (by simp [hs])) (fun s hs => ho s (by simp [hs]))
   obtain ⟨us, cs', j1, j2, j3, j4, j5⟩ := outAll_ok J h5 (fun s hs => hf s (by simp [hs])) (fun s hs => ho s (by simp [hs]))
   refine ⟨u :: us, u.cells.toList ++ cs', ⟨k1, j1⟩, ⟨u, us, u.cells.toList, cs', rfl, rfl, i4, ?_, j2⟩, ?_, ?_, fun s hs => ?_⟩
   ·cases sv with
    | c c =>
     have : b = false := hb.symm
     subst this
     simp [cells_one (SCRel.one k2)]
    | agg xs =>
     have : b = true := hb.symm
     subst this
     obtain ⟨arr, rfl, _⟩ := k2
     simp [Value.cells]
    | tup xs => simp [SV.cellsL] at h2
    | fn f xs => simp [SV.cellsL] at h2
   ·rw [List.flatMap_cons, List.map_append]
    exact i1.append j3
   ·have hsplit : ∀ (r1 r2 : List RS) (v1 v2 : List Value), v1.length = r1.length → resBs (r1 ++ r2) (v1 ++ v2) = resBs r1 v1 ++ resBs r2 v2 := fun r1 => by
     induction r1 with
     | nil => intro r2 v1 v2 h; cases v1 <;> simp_all [resBs]
     | cons r r1 ih =>
      intro r2 v1 v2 h
      cases v1 with
      | nil => simp at h
      | cons v v1 =>
       have := ih r2 v1 v2 (by simpa using h)
       cases r <;> simp [resBs, this]
    rw [List.flatMap_cons, hsplit _ _ _ _ i4, i2, j4, List.flatMap_append]
   ·rcases List.mem_append.1 hs with hs | hs
    ·exact i3 s hs
    ·exact j5 s hs
 | [], _ :: _, _, _, _, h, _, _ => by simp [outAll] at h
 | _ :: _, [], _, _, _, h, _, _ => by simp [outAll] at h
theorem lentOf_ok : ∀ {cs : List CS} {vs : List Value} {ns : Nat}, cs.length = vs.length → (∀ i c v, (siteP cs vs)[i]? = some (c, v) → hdr (ns + i) = some v) →
  All2 (fun (l : Nat × CS) (p : CS × Value) => l.2 = p.1 ∧ hdr l.1 = some p.2) (lentOf cs ns) (lentCs cs vs)
 | [], [], _, _, _ => by simp [lentOf, lentCs, All2]
 | c :: cs, v :: vs, ns, hl, h => by
  have hno : isSite c = false → ∀ i c' v', (siteP cs vs)[i]? = some (c', v') → hdr (ns + i) = some v' := fun hs i c' v' hi => h i c' v' (by simpa [siteP, hs] using hi)
  have hyes : isSite c = true → hdr ns = some v ∧ ∀ i c' v', (siteP cs vs)[i]? = some (c', v') → hdr (ns + 1 + i) = some v' := fun hs => by
   refine ⟨h 0 c v (by simp [siteP, hs]), fun i c' v' hi => ?_⟩
   have := h (i + 1) c' v' (by simpa [siteP, hs] using hi)
   rwa [show ns + (i + 1) = ns + 1 + i by omega] at this
  have hl' : cs.length = vs.length := by simpa using hl
  cases c with
  | own t => exact ⟨⟨rfl, (hyes rfl).1⟩, lentOf_ok (cs := cs) (vs := vs) hl' (hyes rfl).2⟩
  | bx ts => exact ⟨⟨rfl, (hyes rfl).1⟩, lentOf_ok (cs := cs) (vs := vs) hl' (hyes rfl).2⟩
  | mv t => exact lentOf_ok (cs := cs) (vs := vs) hl' (hyes rfl).2
  | rbx ts => exact lentOf_ok (cs := cs) (vs := vs) hl' (hyes rfl).2
  | sc κ => exact lentOf_ok (cs := cs) (vs := vs) hl' (hno rfl)
  | ro t => exact lentOf_ok (cs := cs) (vs := vs) hl' (hno rfl)
  | fnv n m => exact lentOf_ok (cs := cs) (vs := vs) hl' (hno rfl)
 | [], _ :: _, _, hl, _ => by simp at hl
 | _ :: _, [], _, hl, _ => by simp at hl
theorem lentOf_pins : ∀ {cs : List CS} {ns : Nat}, (∀ l ∈ lentOf cs ns, l.1 ∈ pinsOf cs ns ∧ ns ≤ l.1) ∧ ((lentOf cs ns).map (·.1)).Nodup
 | [], ns => by simp [lentOf]
 | c :: cs, ns => by
  obtain ⟨i1, i2⟩ := lentOf_pins (cs := cs) (ns := ns)
  obtain ⟨j1, j2⟩ := lentOf_pins (cs := cs) (ns := ns + 1)
  have hnew : ∀ c', (∀ l ∈ (ns, c') :: lentOf cs (ns + 1), l.1 ∈ ns :: pinsOf cs (ns + 1) ∧ ns ≤ l.1) ∧ (((ns, c') :: lentOf cs (ns + 1)).map (·.1)).Nodup := fun c' => by
   refine ⟨fun l hl => ?_, ?_⟩
   ·rcases List.mem_cons.1 hl with rfl | hl
    ·simp
    ·obtain ⟨k1, k2⟩ := j1 l hl; exact ⟨by simp [k1], by omega⟩
   ·rw [List.map_cons, List.nodup_cons]
    refine ⟨fun hm => ?_, j2⟩
    obtain ⟨l, hl, e⟩ := List.mem_map.1 hm
    have := (j1 l hl).2
    simp at e
    omega
  cases c with
  | own t => exact hnew _
  | bx ts => exact hnew _
  | mv t => exact ⟨fun l hl => ⟨(j1 l hl).1, by have := (j1 l hl).2; omega⟩, j2⟩
  | rbx ts => exact ⟨fun l hl => ⟨List.mem_cons_of_mem _ (j1 l hl).1, by have := (j1 l hl).2; omega⟩, j2⟩
  | sc κ => exact ⟨i1, i2⟩
  | ro t => exact ⟨i1, i2⟩
  | fnv n m => exact ⟨i1, i2⟩
theorem outLent_ok (st2 : St C ρ hdr S2 Wr σ2 a w) : ∀ {lent : List (Nat × CS)} {lc : List (CS × Value)} {ys : List Exp}, outLent σ lent = some ys → (∀ l ∈ lent, σ2.ob l.1 = σ.ob l.1) →
  All2 (fun (l : Nat × CS) (p : CS × Value) => l.2 = p.1 ∧ hdr l.1 = some p.2) lent lc →
  All2 (fun (l : CS × Value) p => ArgR C S2 Wr w l.1 l.2 p) lc (ys.map (Exp.den ρ)) ∧ (∀ l ∈ lent, ∃ ob, σ2.ob l.1 = some ob ∧ ob.live = true) ∧ lentBs lc = (lent.map (·.1)).flatMap fun s => (blk hdr s).toList
 | [], [], ys, h, _, _ => by
  simp only [outLent, Option.some.injEq] at h; subst h
  exact ⟨trivial, fun l hl => by simp at hl, rfl⟩
 | (s, c) :: r, (c', v) :: lc, ys, h, hs, ⟨h1, h2⟩ => by
  obtain ⟨e, h1⟩ := h1
  dsimp only at e h1
  subst e
  have hs0 := hs (s, c) (by simp)
  dsimp only at hs0
  have rest : ∀ {x : Exp} {ys' : List Exp} {ob : Obj}, outLent σ r = some ys' → ys = x :: ys' → σ2.ob s = some ob → ob.live = true → ArgR C S2 Wr w c v (x.den ρ) →
    All2 (fun (l : CS × Value) p => ArgR C S2 Wr w l.1 l.2 p) ((c, v) :: lc) (ys.map (Exp.den ρ)) ∧ (∀ l ∈ (s, c) :: r, ∃ ob, σ2.ob l.1 = some ob ∧ ob.live = true) ∧ lentBs ((c, v) :: lc) = (((s, c) :: r).map (·.1)).flatMap fun s => (blk hdr s).toList := fun {x ys' ob} k1 k2 k3 k4 k5 => by
   subst k2
   obtain ⟨i1, i2, i3⟩ := outLent_ok st2 k1 (fun l hl => hs l (by simp [hl])) h2
   refine ⟨⟨k5, i1⟩, fun l hl => ?_, ?_⟩
   ·rcases List.mem_cons.1 hl with rfl | hl
    ·exact ⟨ob, k3, k4⟩
    ·exact i2 l hl
   ·rw [List.map_cons, List.flatMap_cons, ← i3, blk_eq h1]; rfl
  cases c <;> simp only [outLent] at h <;> first | cases h | skip
  ·rename_i t
   split at h
   ·rename_i x t' hob
    split at h
    ·rename_i hk
     simp only [beq_iff_eq] at hk
     subst hk
     simp only [Option.map_eq_some_iff] at h
     obtain ⟨ys', k1, rfl⟩ := h
     have hob2 : σ2.ob s = some (.row x t) := by rw [hs0]; exact hob
     obtain ⟨hd, j1, j2⟩ := st2.ob _ _ hob2
     rw [h1] at j1; cases j1
     exact rest k1 rfl hob2 rfl j2
    ·cases h
   ·cases h
  ·rename_i ts
   split at h
   ·rename_i cs hob
    split at h
    ·rename_i xs hxs
     split at h
     ·rename_i hl
      simp only [beq_iff_eq] at hl
      simp only [Option.map_eq_some_iff] at h
      obtain ⟨ys', k1, rfl⟩ := h
      have hob2 : σ2.ob s = some (.box cs) := by rw [hs0]; exact hob
      obtain ⟨b, arr, e, j1, j2, j3, j4, j5, j6⟩ := st2.ob _ _ hob2
      rw [h1] at j1; cases j1
      refine rest k1 rfl hob2 rfl ⟨b, rfl, ⟨arr, e, fun j => (xs.getD j default).den ρ, j2, ?_, ?_, fun j t ht => ?_⟩, j5, j6⟩
      ·have := j3.length; simp at this; omega
      ·have hxl : xs.length = ts.length := by
        have : ∀ (l : List (SC × Ty)) (f : SC × Ty → Option Exp) (xs : List Exp), l.mapM f = some xs → xs.length = l.length := fun l => by
         induction l with
         | nil => intro f xs h; simp at h; subst h; rfl
         | cons p l ih =>
          intro f xs h
          rw [List.mapM_cons] at h
          simp only [Option.pure_def, Option.bind_eq_bind, Option.bind_eq_some_iff, Option.some.injEq] at h
          obtain ⟨x, _, ys, h2, rfl⟩ := h
          simp [ih f ys h2]
        have := this _ _ _ hxs
        simp at this; omega
       simp only [Exp.den, U.den, expList_den, PV.list, PV.a.injEq]
       refine List.ext_getElem? fun j => ?_
       by_cases hj : j < ts.length
       ·have hj' : j < xs.length := by omega
        simp [hj, hj', List.getD]
       ·rw [List.getElem?_eq_none (by simp; omega), List.getElem?_eq_none (by simp; omega)]
      ·have : ∀ (cs : List SC) (ts : List Ty) (xs : List Exp) (vs : List Value), (List.zip cs ts).mapM (fun ct => match ct with
          | (.e x κ, .sc κ') => if κ == κ' then some x else none
          | (.ro x t, .sl t') => if t == t' then some x else none
          | _ => none) = some xs → cs.length = ts.length → All2 (SCRel C ρ hdr S2 w) cs vs → ∀ (j : Nat) (t : Ty), ts[j]? = some t → ∃ v x, vs[j]? = some v ∧ xs[j]? = some x ∧ RepC C S2 w t v (x.den ρ) := fun cs => by
        induction cs with
        | nil => intro ts xs vs _ hl _ j t ht; cases ts <;> simp_all
        | cons c cs ih =>
         intro ts xs vs h hl hv j t ht
         cases ts with
         | nil => simp at hl
         | cons t0 ts =>
          cases vs with
          | nil => exact hv.elim
          | cons v vs =>
           rw [List.zip_cons_cons, List.mapM_cons] at h
           simp only [Option.pure_def, Option.bind_eq_bind, Option.bind_eq_some_iff, Option.some.injEq] at h
           obtain ⟨x, q1, xs', q2, rfl⟩ := h
           cases j with
           | zero =>
            simp at ht; subst ht
            refine ⟨v, x, rfl, rfl, ?_⟩
            split at q1
            ·rename_i e κ κ' heq
             cases heq
             split at q1
             ·rename_i hk
              simp only [beq_iff_eq] at hk
              subst hk
              cases q1
              have := hv.1
              rw [this.2]; exact .sc this.1
             ·cases q1
            ·rename_i e t1 t2 heq
             cases heq
             split at q1
             ·rename_i hk
              simp only [beq_iff_eq] at hk
              subst hk
              cases q1
              exact hv.1
             ·cases q1
            ·cases q1
           | succ j => simpa using ih ts xs' vs q2 (by simpa using hl) hv.2 j t (by simpa using ht)
       obtain ⟨v, x, q1, q2, q3⟩ := this cs ts xs arr.toList hxs hl j3 j t ht
       exact ⟨v, by simpa using q1, by simpa [List.getD, q2] using q3⟩
     ·cases h
    ·cases h
   ·cases h
 | [], _ :: _, _, _, _, h => h.elim
 | _ :: _, [], _, _, _, h => h.elim
theorem live_nodup (st2 : St C ρ hdr S2 Wr σ2 a w) : ∀ {l : List Nat}, l.Nodup → (∀ s ∈ l, ∃ ob, σ2.ob s = some ob ∧ ob.live = true) → (l.flatMap fun s => (blk hdr s).toList).Nodup
 | [], _, _ => by simp
 | s :: l, hn, hl => by
  rw [List.nodup_cons] at hn
  rw [List.flatMap_cons, List.nodup_append]
  refine ⟨by cases blk hdr s <;> simp, live_nodup st2 hn.2 fun s' hs => hl s' (by simp [hs]), fun b hb b' hb' e => ?_⟩
  subst e
  simp only [Option.mem_toList] at hb
  obtain ⟨s', h1, h2⟩ := List.mem_flatMap.1 hb'
  simp only [Option.mem_toList] at h2
  obtain ⟨o, k1, k2⟩ := hl s (by simp)
  obtain ⟨o', k1', k2'⟩ := hl s' (by simp [h1])
  exact st2.dj s s' o o' k1 k1' k2 k2' (by rintro rfl; exact hn.1 h1) b hb h2
theorem fun_ok (hC : COK C) (hF : FOK C F) {F' : Nat → List PV → Option (List PV)} {id : Nat} {fid : FuncId} {sp : Spec} {fn : Func} {t : TT Unit} (hfn : C.P.funcs[fid]? = some fn) (hs : symFun C fn sp = some t)
  (hF' : ∀ ps rs, F' id ps = some rs → t.den F N ps = some (.y .ret rs)) : FunOK C F' id fid sp := by
 intro S Wr w us cs ps rs hsb hW hg har hnd hrs
 have hden := hF' ps rs hrs
 simp only [symFun, Option.bind_eq_bind, Option.bind_eq_some_iff] at hs
 obtain ⟨c, hb, ⟨xs, os⟩, hi, hs⟩ := hs
 split at hs
 ·simp at hs
 ·simp only [Option.pure_def, Option.bind_some, Option.bind_eq_some_iff] at hs
  obtain ⟨t0, h1, h2⟩ := hs
  have g := init_good (nt := fn.ntmps) hi hsb hW hg har hnd
  refine calls_of_wp hfn hb ?_
  rcases TT.mapL_den h2 hden with ⟨x, s, ρ1, t3, k1, k2, k3⟩ | ⟨x, vs, k1, _⟩
  ·refine wp_mono (symC_run hC hF c _ h1 g k1) fun e a' w' he => ?_
   obtain ⟨q1, ⟨hdr', S', g', e'⟩, q3⟩ := he
   split at k2
   ·rename_i hx
    simp only [Option.map_eq_some_iff] at k2
    obtain ⟨zs, k4, rfl⟩ := k2
    simp only [TT.den, Option.some.injEq, Out.y.injEq, true_and] at k3
    simp only [outS, Option.bind_eq_bind, Option.bind_eq_some_iff] at k4
    obtain ⟨⟨x1, f1, o1⟩, k5, ys, k6, k7⟩ := k4
    split at k7
    ·rename_i hg7
     simp only [Option.some.injEq] at k7; subst k7
     simp only [Bool.and_eq_true, List.all_eq_true, Bool.not_eq_true'] at hg7
     obtain ⟨⟨⟨n1, n2⟩, n3⟩, n4⟩ := hg7
     obtain ⟨σ2, S2, J, ev2⟩ := freeze_list g'.st f1
     have ho1 : ∀ s ∈ o1, s ∉ f1 := fun s hs => by
      have := (n2 s hs).1
      simpa using this
     obtain ⟨us', cs', m1, m2, m3, m4, m5⟩ := outAll_ok J k5 (fun s hs => hs) ho1
     have hlf : All2 (fun (l : Nat × CS) (p : CS × Value) => l.2 = p.1 ∧ hdr' l.1 = some p.2) (lentOf (sp.params.flatMap (·.2)) 0) (lentCs (sp.params.flatMap (·.2)) cs) := by
      have := lentOf_ok (hdr := hdrF (siteP (sp.params.flatMap (·.2)) cs)) (ns := 0) har.length.1.symm fun i c v hi => by simp [hdrF, hi]
      exact this.imp_mem fun l hl p hp => ⟨hp.1, e'.pn l.1 ((lentOf_pins.1 l hl).1) p.2 hp.2⟩
     obtain ⟨r1, r2, r3⟩ := outLent_ok J.st k6 (fun l hl => J.nf l.1 fun hf => by
      have := n3 l.1 hf
      rw [List.contains_iff_mem.2 (List.mem_map.2 ⟨l, hl, rfl⟩)] at this; cases this) hlf
     have hfin : ∃ v, (results fn a'.tmps).run C.P w' = .ok v w' ∧ ∃ us' cs' S' ps1 ps2, Ending.returned v = .returned (retOf us') ∧ Grp sp.results us' cs' ∧ rs = ps1 ++ ps2 ∧
       All3 (ResR C S' Wr w') (sp.results.flatMap (·.2)) cs' ps1 ∧
       All2 (fun (l : CS × Value) p => ArgR C S' Wr w' l.1 l.2 p) (lentCs (sp.params.flatMap (·.2)) cs) ps2 ∧
       (resBs (sp.results.flatMap (·.2)) cs' ++ lentBs (lentCs (sp.params.flatMap (·.2)) cs)).Nodup ∧
       Keep Wr w w' ∧ (∀ b, S b → S' b) ∧ (∀ b, S' b → S b ∨ Wr b) ∧ (∀ b, S b → w'.heap[b]? = w.heap[b]?) ∧ ∀ b, S' b → b < w'.heap.size := by
      refine ⟨retOf us', results_run m1, us', cs', S2, x1.map (Exp.den ρ1), ys.map (Exp.den ρ1), rfl, m2, by rw [← k3, List.map_append], m3, r1, ?_, e'.kp, fun b hb => ev2.ss b (e'.ss b hb), fun b hb => ?_, e'.sk, J.st.sb⟩
      ·rw [m4, r3, ← List.flatMap_append]
       refine live_nodup J.st ?_ fun s hs => ?_
       ·rw [List.nodup_append]
        refine ⟨nodupB_ok n1, lentOf_pins.2, fun s hs s' hs' e => ?_⟩
        subst e
        have := (n2 s hs).2
        rw [List.contains_iff_mem.2 hs'] at this; cases this
       ·rcases List.mem_append.1 hs with hs | hs
        ·exact m5 s hs
        ·obtain ⟨l, hl, rfl⟩ := List.mem_map.1 hs
         exact r2 l hl
      ·rcases ev2.sw b hb with h | h
       ·exact e'.sw b h
       ·exact .inr h
     obtain ⟨v, v1, v2⟩ := hfin
     simp only [Bool.or_eq_true, decide_eq_true_eq] at hx
     rcases hx with rfl | rfl
     ·cases e <;> simp only [exitIs] at q1
      exact ⟨q3, v, v1, v2⟩
     ·cases e <;> simp only [exitIs] at q1
      exact ⟨q3, v, v1, v2⟩
    ·cases k7
   ·cases k2
  ·obtain ⟨_, _, _, e, _⟩ := symC_pure c _ h1 g.nv k1
   cases e
end
structure TabOK (C : Ctx) (tab : Nat → Option (TT Unit)) : Prop where
 ok : COK C
 fn : ∀ fid id sp, C.fid fid = some id → C.spec id = some sp → ∃ fn t, C.P.funcs[fid]? = some fn ∧ symFun C fn sp = some t ∧ tab id = some t
 raw : ∀ k id sp ps qs, C.canon = some id → C.spec id = some sp → qs.length = (sp.params.flatMap (·.2)).length → All2 RawEq ps qs → fden tab k id ps = fden tab k id qs
theorem tab_ok {C : Ctx} {tab : Nat → Option (TT Unit)} (h : TabOK C tab) : ∀ k, FOK C (fden tab k)
 | 0 => ⟨fun fid id sp h1 h2 S Wr w us cs ps rs _ _ _ _ _ h => by simp [fden] at h, h.raw 0⟩
 | k + 1 => by
  refine ⟨fun fid id sp h1 h2 => ?_, h.raw (k + 1)⟩
  obtain ⟨fn, t, k1, k2, k3⟩ := h.fn fid id sp h1 h2
  refine fun_ok (N := k) h.ok (tab_ok h k) k1 k2 fun ps rs hr => ?_
  simp only [fden, k3] at hr
  split at hr
  ·rename_i vs hv
   simp only [Option.some.injEq] at hr; subst hr; exact hv
  ·cases hr
open Go Go.RowKit
def RowOK (C : Ctx) (tab : Nat → Option (TT Unit)) (p : Nat × Nat) : Prop :=
 ∃ fn t sp, C.P.funcs[p.1]? = some fn ∧ C.spec p.2 = some sp ∧ symFun C fn sp = some t ∧ tab p.2 = some t
theorem find_mem {l : List (Nat × Nat)} {f id : Nat} (h : (l.find? (·.1 == f)).map (·.2) = some id) : (f, id) ∈ l := by
 simp only [Option.map_eq_some_iff] at h
 obtain ⟨⟨f', id'⟩, h1, rfl⟩ := h
 have := List.find?_some h1
 simp only [beq_iff_eq] at this
 subst this
 exact List.mem_of_find?_eq_some h1
theorem tabOK_of {C : Ctx} {tab : Nat → Option (TT Unit)} {l : List (Nat × Nat)} (hC : ∀ f, C.fid f = (l.find? (·.1 == f)).map (·.2)) (hb : (l.all fun p => (C.P.funcs[p.1]?).any fun fn => fn.body.isSome && fn.name != "runtime.NumGoroutine") = true)
  (hm : C.P.follows .mixedOrders = true) (hr : ∀ p ∈ l, RowOK C tab p) (hraw : ∀ k id sp ps qs, C.canon = some id → C.spec id = some sp → qs.length = (sp.params.flatMap (·.2)).length → All2 RawEq ps qs → fden tab k id ps = fden tab k id qs) : TabOK C tab where
 ok := ⟨fun f id h => by
  rw [hC] at h
  rw [List.all_eq_true] at hb
  exact hb _ (find_mem h), hm⟩
 fn f id sp h1 h2 := by
  rw [hC] at h1
  obtain ⟨fn, t, sp', k1, k2, k3, k4⟩ := hr _ (find_mem h1)
  dsimp only at k1 k2 k4
  rw [h2] at k2; cases k2
  exact ⟨fn, t, k1, k3, k4⟩
 raw := hraw
def Old (w : World) (b : Nat) : Prop := b < w.heap.size
theorem grown_of_keep {w w' : World} (h : Keep (fun b => w.heap.size ≤ b) w w') : Grown w w' := by
 obtain ⟨h1, h2, h3⟩ := h
 refine ⟨⟨h3.os, h3.out, fun i hi => ?_⟩, h3.fz, h1⟩
 have := h2 i (by omega) hi
 rw [this]
 cases w.heap[i]? with
 | none => trivial
 | some o => cases o <;> simp
def roPars (cs : List CS) : Bool := cs.all fun | .sc _ | .ro _ => true | _ => false
theorem roPars_nil : ∀ {cs : List CS} {vs : List Value}, roPars cs = true → liveBs cs vs = [] ∧ lentCs cs vs = []
 | [], vs, _ => ⟨by simp [liveBs], by simp [lentCs]⟩
 | c :: cs, [], h => by
  simp only [roPars, List.all_cons, Bool.and_eq_true] at h
  cases c <;> simp_all [liveBs, lentCs]
 | c :: cs, v :: vs, h => by
  simp only [roPars, List.all_cons, Bool.and_eq_true] at h
  obtain ⟨i1, i2⟩ := roPars_nil (cs := cs) (vs := vs) h.2
  cases c <;> simp_all [liveBs, lentCs, lvB]
theorem law_calls {C : Ctx} {tab : Nat → Option (TT Unit)} (h : TabOK C tab) {fid id : Nat} {sp : Spec} {us cs : List Value} {ps : List PV} {k : Nat} {w : World} (hid : C.fid fid = some id) (hsp : C.spec id = some sp)
  (hro : roPars (sp.params.flatMap (·.2)) = true) (hres : sp.results = [(false, [.sc .b])]) (hg : Grp sp.params us cs) (har : All3 (ArgR C (Old w) (fun b => w.heap.size ≤ b) w) (sp.params.flatMap (·.2)) cs ps)
  (hk : fden tab k id ps = some [.v (.bool true)]) : Calls C.P fid us.toArray w fun e w' => e = .returned (.bool true) ∧ Grown w w' := by
 obtain ⟨l1, l2⟩ := roPars_nil (vs := cs) hro
 refine Calls.mono ((tab_ok h k).fn fid id sp hid hsp (Old w) (fun b => w.heap.size ≤ b) w us cs ps _ (fun b hb => hb) (fun b hb => hb) hg har (by rw [l1]; simp) hk) fun e w' he => ?_
 obtain ⟨us', cs', S', ps1, ps2, rfl, hgr, hps, hr, hl, _, hkp, _⟩ := he
 rw [l2] at hl
 have hp2 : ps2 = [] := by
  cases ps2 with
  | nil => rfl
  | cons => exact hl.elim
 subst hp2
 rw [hres] at hgr hr
 obtain ⟨u, us1, c1, c2, rfl, rfl, h1, h2, h3⟩ := hgr
 obtain ⟨rfl, rfl⟩ := h3
 simp only [Bool.false_eq_true, if_false] at h2
 subst h2
 refine ⟨?_, grown_of_keep hkp⟩
 cases ps1 with
 | nil => simp at hps
 | cons p ps1 =>
  simp only [List.append_nil, List.cons.injEq] at hps
  obtain ⟨rfl, rfl⟩ := hps
  have hr0 : ResR C S' (fun b => w.heap.size ≤ b) w' (.sc .b) u (.v (.bool true)) := by simpa [All3] using hr
  obtain ⟨k1, k2⟩ := hr0
  obtain ⟨b, rfl⟩ := has_bool k1
  simp only [cn, PV.v.injEq, Value.bool.injEq] at k2
  subst k2; rfl
open Go Go.ChangeShapes Go.WideShapes Go.RowKit
inductive Bs | int (k : IntKind) | bool | sl (k : IntKind)
def Bs.cs : Bs → CS
 | .int k => .sc (.i k) | .bool => .sc .b | .sl k => .ro (.sc (.i k))
def shCs (s : Bool × List Bs) : Bool × List CS := (s.1, s.2.map Bs.cs)
def PvT : Bs → PV → Prop
 | .int k, p => ∃ n, p = .v (.int k n) ∧ (Lit.int k n).wf = true
 | .bool, p => ∃ b, p = .v (.bool b)
 | .sl k, p => ∃ zs : List Int, p = .l (zs.map fun n => .v (.int k n)) ∧ (∀ n ∈ zs, (Lit.int k n).wf = true) ∧ zs.length * (k.bits / 8) ≤ reachBytes
def bsB (P : Program) (t : TypeId) (b : Bs) : Bool :=
 match b, P.underlying t with
 | .int k, some (.int k') => k == k'
 | .bool, some .bool => true
 | .sl k, some (.slice e) => (match P.underlying e with | some (.int k') => k == k' | _ => false) && P.cellsOf e == 1 && P.bytesOf e == k.bits / 8
 | _, _ => false
def aggB (P : Program) (t : TypeId) (bs : List Bs) : Bool :=
 match P.underlying t with
 | some (.struct fs) => P.cellsOf t == bs.length && fs.size == bs.length && (P.cellTypes P.depth t == some (fs.toList.map (·.type))) &&
   (List.range bs.length).all fun i => match fs[i]?, bs[i]? with
    | some f, some b => f.offset == i && P.cellsOf f.type == 1 && bsB P f.type b
    | _, _ => false
 | some (.array n e) => P.cellsOf t == bs.length && n == bs.length && P.cellsOf e == 1 && (P.cellTypes P.depth t == some (List.replicate n e)) && bs.all (bsB P e)
 | _ => false
def parB (P : Program) (t : TypeId) (s : Bool × List Bs) : Bool :=
 if s.1 then aggB P t s.2 else match s.2 with | [b] => bsB P t b | _ => false
section
variable {H : Type} {enc : TypeId × Value → H} {C : Ctx} {W : World} {base : Nat}
def BaseR (C : Ctx) (W : World) (b : Bs) (v : Value) (p : PV) : Prop := PvT b p ∧ ArgR C (Old W) (fun b => W.heap.size ≤ b) W b.cs v p
theorem base_ok {t : TypeId} {b : Bs} {v : Value} {fuel : Nat} {x : DataW H × List MemPlace} (hb : bsB C.P t b = true) (hok : Cell.okWide C.P W .any base t v) (hd : DataW.trod enc C.P W 0 (fun _ => true) true fuel t [v] = some x)
  (hz : ∀ n ∈ x.1.weights C.P t, n ≤ reachBytes) : ∃ p, BaseR C W b v p := by
 unfold bsB at hb
 split at hb
 ·rename_i k k' hu
  simp only [beq_iff_eq] at hb; subst hb
  obtain ⟨n, h1, _, h3⟩ := DataW.trod_int hu hd
  simp only [List.cons.injEq, and_true] at h1; subst h1
  exact ⟨_, ⟨n, rfl, h3⟩, by simp [K.has], rfl⟩
 ·rename_i hu
  obtain ⟨n, h1, _⟩ := DataW.trod_bool hu hd
  simp only [List.cons.injEq, and_true] at h1; subst h1
  exact ⟨_, ⟨n, rfl⟩, by simp [K.has], rfl⟩
 ·rename_i k e hu
  simp only [Bool.and_eq_true, beq_iff_eq] at hb
  obtain ⟨⟨h1, h2⟩, h3⟩ := hb
  split at h1
  ·rename_i k' he
   simp only [beq_iff_eq] at h1; subst h1
   rcases open_ints hu he h2 hd with ⟨hcs, _⟩ | ⟨a, l, c, zs, hcs, _, hl, hm, hzl, hxe, hcell, hwz⟩
   ·simp only [List.cons.injEq, and_true] at hcs; subst hcs
    exact ⟨.l [], ⟨[], rfl, by simp, by simp⟩, .nil⟩
   ·simp only [List.cons.injEq, and_true] at hcs; subst hcs
    simp only [if_true] at hzl
    subst hxe
    have hsz := hz ((zs.take l).length * C.P.bytesOf e + (zs.drop l).length * C.P.bytesOf e) (by simp [DataW.weights, hu, ChangeShapes.lits, Nat.add_mul])
    rw [h3] at hsz
    simp only [Cell.okWide, hu, Cell.ok, World.has] at hok
    obtain ⟨_, _, _, hsp, row, cells, hsh, _⟩ := hok
    have hblk : a.block < W.heap.size := by
     rcases Nat.lt_or_ge a.block W.heap.size with h | h
     ·exact h
     ·simp [World.shape?, Array.getElem?_eq_none h] at hsh
    obtain ⟨ab, ao, asp⟩ := a
    simp only at hsp hblk; subst hsp
    refine ⟨.l ((zs.take l).map fun n => .v (.int k n)), ⟨zs.take l, rfl, fun n hn => hwz n (List.mem_of_mem_take hn), by omega⟩, ?_⟩
    refine .sl (fun i _ => .int k (zs.getD i 0)) (fun i _ => .v (.int k (zs.getD i 0))) hblk (by simp; omega) hl ?_ ?_ ?_
    ·intro i j hi hj
     have hj0 : j = 0 := by simp [Ty.cells] at hj; exact hj
     subst hj0
     have := hcell i (by omega)
     rw [add_plain] at this
     simpa [Ty.cells] using this
    ·intro i p hp
     simp only [List.getElem?_map, Option.map_eq_some_iff] at hp
     obtain ⟨z, hz1, rfl⟩ := hp
     rw [List.getElem?_take] at hz1
     split at hz1
     ·show PV.v (.int k z) = .v (.int k (zs.getD i 0))
      rw [List.getD_eq_getElem?_getD, hz1]; rfl
     ·cases hz1
    ·intro i j t _ ht
     have : t = .sc (.i k) := by
      cases j with
      | zero => simpa [Ty.cells] using ht.symm
      | succ j => simp [Ty.cells] at ht
     subst this
     exact .sc (by simp [K.has])
  ·cases h1
 ·cases hb
theorem list_of {bs : List Bs} : ∀ {vs : List Value}, vs.length = bs.length → (∀ (i : Nat) b v, bs[i]? = some b → vs[i]? = some v → ∃ p, BaseR C W b v p) → ∃ ps, All3 (BaseR C W) bs vs ps := by
 induction bs with
 | nil => intro vs hl _; cases vs with | nil => exact ⟨[], trivial⟩ | cons => simp at hl
 | cons b bs ih =>
  intro vs hl h
  cases vs with
  | nil => simp at hl
  | cons v vs =>
   obtain ⟨p, hp⟩ := h 0 b v rfl rfl
   obtain ⟨ps, hps⟩ := ih (vs := vs) (by simpa using hl) fun i b v h1 h2 => h (i + 1) b v (by simpa using h1) (by simpa using h2)
   exact ⟨p :: ps, hp, hps⟩
theorem take_one {cs : List Value} {i : Nat} {v : Value} (h : cs[i]? = some v) : (cs.drop i).take 1 = [v] := by
 induction cs generalizing i with
 | nil => simp at h
 | cons c cs ih => cases i with
  | zero => simp at h; subst h; rfl
  | succ i => simpa using ih (by simpa using h)
theorem weights_mem_all {P : Program} {e : TypeId} {d : DataW H} : ∀ {ds : List (DataW H)}, d ∈ ds → ∀ n ∈ d.weights P e, n ∈ DataW.weightsAll P e ds
 | [], h, _, _ => by simp at h
 | d0 :: ds, h, n, hn => by
  simp only [DataW.weightsAll, List.mem_append]
  rcases List.mem_cons.1 h with rfl | h
  ·exact .inl hn
  ·exact .inr (weights_mem_all h n hn)
theorem par_ok {t : TypeId} {s : Bool × List Bs} {v : Value} {d : DataW H} {p : List MemPlace} (hb : parB C.P t s = true) (hok : Value.okWide C.P W .any base t v) (hd : DataW.Trod enc C.P W 0 (fun _ => true) true t v d p)
  (hz : ∀ n ∈ d.weights C.P t, n ≤ reachBytes) : ∃ vs ps, vs.length = s.2.length ∧ (if s.1 then v = .agg vs.toArray else vs = [v]) ∧ All3 (BaseR C W) s.2 vs ps := by
 obtain ⟨fl, l⟩ := s
 obtain ⟨fuel, hd⟩ := hd
 unfold parB at hb
 cases fl
 ·simp only [Bool.false_eq_true, if_false] at hb
  split at hb
  ·rename_i _ b
   have hc : Cell.okWide C.P W .any base t v := by
    unfold Value.okWide at hok
    unfold bsB at hb
    split at hb <;> first | (cases hb; done) | (rename_i hu; simpa [hu] using hok)
   have hcs : v.cells.toList = [v] := by
    unfold bsB at hb
    unfold Cell.okWide at hc
    split at hb <;> first | (cases hb; done) | (rename_i hu; simp only [hu] at hc; cases v <;> simp_all [Cell.ok, Value.cells])
   rw [hcs] at hd
   obtain ⟨q, hq⟩ := base_ok hb hc hd hz
   exact ⟨[v], [q], rfl, rfl, hq, trivial⟩
  ·cases hb
 ·simp only [if_true] at hb
  unfold aggB at hb
  split at hb
  ·rename_i fs hu
   simp only [Bool.and_eq_true, beq_iff_eq, List.all_eq_true, List.mem_range] at hb
   obtain ⟨⟨⟨h1, h2⟩, h3⟩, h4⟩ := hb
   simp only [Value.okWide, hu] at hok
   obtain ⟨cs, rfl, hsz, ts, hts, _, hrow⟩ := hok
   have hl : cs.toList.length = l.length := by simpa using hsz.trans h1
   obtain ⟨xs, n, _, hxe, _, hxl, hx⟩ := DataW.trod_struct hu hd
   simp only [Prod.mk.injEq] at hxe
   obtain ⟨rfl, rfl⟩ := hxe
   obtain ⟨ps, hps⟩ := list_of (C := C) (W := W) (bs := l) (vs := cs.toList) hl fun i b v hb' hv => by
    have hi : i < l.length := by
     rcases Nat.lt_or_ge i l.length with h | h
     ·exact h
     ·rw [List.getElem?_eq_none h] at hb'; cases hb'
    have h4i := h4 i hi
    rw [hb'] at h4i
    split at h4i
    ·rename_i f b' hf hbb
     cases hbb
     simp only [Bool.and_eq_true, beq_iff_eq] at h4i
     obtain ⟨⟨e1, e2⟩, e3⟩ := h4i
     have hxi := hx i f hf
     rw [e1, e2, show (Value.agg cs).cells.toList = cs.toList from rfl, take_one hv] at hxi
     have hxi2 : i < xs.length := by omega
     rw [List.getElem?_eq_getElem hxi2] at hxi
     rw [h3] at hts; cases hts
     obtain ⟨u, hu1, hu2⟩ := hrow i v (by simpa using hv)
     have hil : i % (fs.toList.map (·.type)).length = i := Nat.mod_eq_of_lt (by simp; omega)
     rw [hil, List.getElem?_map] at hu1
     have : fs.toList[i]? = some f := by simpa using hf
     rw [this] at hu1; simp at hu1; subst hu1
     refine base_ok e3 hu2 hxi fun n hn => hz n ?_
     simp only [DataW.weights, hu]
     exact DataW.weights_mem_each (j := i) (t := f.type) (d := xs[i].1) (by rw [List.getElem?_map, this]; rfl) (by rw [List.getElem?_map, List.getElem?_eq_getElem hxi2]; rfl) n hn
    ·cases h4i
   exact ⟨cs.toList, ps, hl, by simp, hps⟩
  ·rename_i n e hu
   simp only [Bool.and_eq_true, beq_iff_eq, List.all_eq_true] at hb
   obtain ⟨⟨⟨⟨h1, h2⟩, h5⟩, h3⟩, h4⟩ := hb
   simp only [Value.okWide, hu] at hok
   obtain ⟨cs, rfl, hsz, ts, hts, _, hrow⟩ := hok
   have hl : cs.toList.length = l.length := by simpa using hsz.trans h1
   obtain ⟨xs, m, _, hxe, _, hxl, hx⟩ := DataW.trod_array hu hd
   simp only [Prod.mk.injEq] at hxe
   obtain ⟨rfl, rfl⟩ := hxe
   obtain ⟨ps, hps⟩ := list_of (C := C) (W := W) (bs := l) (vs := cs.toList) hl fun i b v hb' hv => by
    have hi : i < l.length := by
     rcases Nat.lt_or_ge i l.length with h | h
     ·exact h
     ·rw [List.getElem?_eq_none h] at hb'; cases hb'
    have hxi := hx i (by omega)
    rw [h5, Nat.mul_one, show (Value.agg cs).cells.toList = cs.toList from rfl, take_one hv] at hxi
    have hxi2 : i < xs.length := by omega
    rw [List.getElem?_eq_getElem hxi2] at hxi
    rw [h3] at hts; cases hts
    obtain ⟨u, hu1, hu2⟩ := hrow i v (by simpa using hv)
    have hil : i % (List.replicate n e).length = i := Nat.mod_eq_of_lt (by simp; omega)
    rw [hil, List.getElem?_replicate] at hu1
    split at hu1
    ·cases hu1
     refine base_ok (h4 b (List.mem_of_getElem? hb')) hu2 hxi fun n hn => hz n ?_
     simp only [DataW.weights, hu]
     exact weights_mem_all (d := xs[i].1) (List.mem_map.2 ⟨xs[i], List.getElem_mem hxi2, rfl⟩) n hn
    ·cases hu1
   exact ⟨cs.toList, ps, hl, by simp, hps⟩
  ·cases hb
theorem All3.append' {α β γ : Type} {R : α → β → γ → Prop} {as as' : List α} {bs bs' : List β} {cs cs' : List γ} (h : All3 R as bs cs) (h' : All3 R as' bs' cs') : All3 R (as ++ as') (bs ++ bs') (cs ++ cs') := h.append h'
theorem pars_ok : ∀ {ts : List TypeId} {shs : List (Bool × List Bs)} {vs : List Value} {ds : List (DataW H)} {p : List MemPlace}, ts.length = shs.length → (∀ (i : Nat) t s, ts[i]? = some t → shs[i]? = some s → parB C.P t s = true) →
  (∀ (j : Nat) t v, ts[j]? = some t → vs[j]? = some v → Value.okWide C.P W .any base t v) → DataW.TrodAll enc C.P W 0 (fun _ => true) true ts vs ds p → (∀ (i : Nat) t d, ts[i]? = some t → ds[i]? = some d → ∀ n ∈ DataW.weights C.P t d, n ≤ reachBytes) →
  ∃ cs ps, Grp (shs.map shCs) vs cs ∧ All3 (BaseR C W) (shs.flatMap (·.2)) cs ps ∧ ds.length = ts.length
 | [], [], vs, ds, p, _, _, _, hA, _ => by
  obtain ⟨rfl, rfl, rfl⟩ := trodAll_nil hA
  exact ⟨[], [], ⟨rfl, rfl⟩, trivial, rfl⟩
 | t :: ts, s :: shs, vs, ds, p, hl, hb, hok, hA, hz => by
  obtain ⟨v, vs', d, ds', p1, q1, rfl, rfl, rfl, h0, r0⟩ := trodAll_cons hA
  obtain ⟨c1, ps1, k1, k2, k3⟩ := par_ok (C := C) (hb 0 t s rfl rfl) (hok 0 t v rfl rfl) h0 (hz 0 t d rfl rfl)
  obtain ⟨cs, ps, g1, g2, g3⟩ := pars_ok (ts := ts) (shs := shs) (by simpa using hl) (fun i t s h1 h2 => hb (i + 1) t s (by simpa using h1) (by simpa using h2)) (fun j t v h1 h2 => hok (j + 1) t v (by simpa using h1) (by simpa using h2)) r0 (fun i t d h1 h2 => hz (i + 1) t d (by simpa using h1) (by simpa using h2))
  refine ⟨c1 ++ cs, ps1 ++ ps, ⟨v, vs', c1, cs, rfl, rfl, by simpa [shCs] using k1, ?_, g1⟩, ?_, by simp [g3]⟩
  ·obtain ⟨fl, l⟩ := s
   exact k2
  ·rw [List.flatMap_cons]; exact k3.append g2
 | [], _ :: _, _, _, _, hl, _, _, _, _ => by simp at hl
 | _ :: _, [], _, _, _, hl, _, _, _, _ => by simp at hl
theorem all3_split : ∀ {bs : List Bs} {vs : List Value} {ps : List PV}, All3 (BaseR C W) bs vs ps → All2 PvT bs ps ∧ All3 (ArgR C (Old W) (fun b => W.heap.size ≤ b) W) (bs.map Bs.cs) vs ps
 | [], [], [], _ => ⟨trivial, trivial⟩
 | _ :: _, _ :: _, _ :: _, ⟨⟨x1, x2⟩, y⟩ => ⟨⟨x1, (all3_split y).1⟩, x2, (all3_split y).2⟩
 | [], [], _ :: _, x => x.elim
 | [], _ :: _, _, x => x.elim
 | _ :: _, [], _, x => x.elim
 | _ :: _, _ :: _, [], x => x.elim
theorem flat_cs : ∀ (shs : List (Bool × List Bs)), ((shs.map shCs).flatMap (·.2)) = (shs.flatMap (·.2)).map Bs.cs
 | [] => rfl
 | s :: shs => by rw [List.map_cons, List.flatMap_cons, List.flatMap_cons, List.map_append, flat_cs shs]; rfl
theorem roPars_bs (l : List Bs) : roPars (l.map Bs.cs) = true := by
 unfold roPars
 rw [List.all_eq_true]
 intro c hc
 simp only [List.mem_map] at hc
 obtain ⟨b, _, rfl⟩ := hc
 cases b <;> rfl
theorem keep_frame {w w' : World} (h : Keep (fun b => w.heap.size ≤ b) w w') (may : MemPlace → Prop) : w.keptBut w' may := by
 obtain ⟨h1, h2, h3⟩ := h
 refine ⟨h3.os, h3.out, fun i hi => ?_⟩
 rw [h2 i (by omega) hi]
 split <;> simp_all
theorem keep_same {w w' : World} (h : Keep (fun b => w.heap.size ≤ b) w w') {p : MemPlace} (hp : p.block < w.heap.size) : w.sameAt w' p := by
 obtain ⟨h1, h2, h3⟩ := h
 cases p with
 | cell b o => exact World.cell?_of_block (w := w) (h2 b (by simp only [MemPlace.block] at hp; omega) hp)
 | map b => exact h2 b (by simp only [MemPlace.block] at hp; omega) hp
theorem keep_args {w w' : World} (hl : laidOutB C.P = true) (h : Keep (fun b => w.heap.size ≤ b) w w') : ∀ {ts : List TypeId} {vs : List Value} {ds : List (DataW H)} {p : List MemPlace}, (∀ t ∈ ts, C.P.readableRec t = true ∧ t < C.P.types.size) →
  DataW.TrodAll enc C.P w 0 (fun _ => true) true ts vs ds p → DataW.TrodAll enc C.P w' 0 (fun b => decide (b < w.heap.size)) true ts vs ds p
 | [], vs, ds, p, _, hA => by obtain ⟨rfl, rfl, rfl⟩ := trodAll_nil hA; exact trodAll_mk0
 | t :: ts, vs, ds, p, hr, hA => by
  obtain ⟨v, vs', d, ds', p1, q1, rfl, rfl, rfl, h0, r0⟩ := trodAll_cons hA
  have hlt : ∀ x ∈ p1, x.block < w.heap.size := by obtain ⟨m, hm⟩ := h0; exact DataW.trod_lt m _ _ _ hm
  exact trodAll_cons_mk (WideElems.Trod_stays hl (hr t (by simp)).1 (hr t (by simp)).2 h0 (fun x hx => keep_same h (hlt x hx)) (fun x hx => by simpa using hlt x hx)) (keep_args hl h (fun t ht => hr t (by simp [ht])) r0)
theorem law_calls2 {tab : Nat → Option (TT Unit)} (h : TabOK C tab) {fid id : Nat} {sp : Spec} {us cs : List Value} {ps : List PV} {k : Nat} {w : World} (hid : C.fid fid = some id) (hsp : C.spec id = some sp)
  (hro : roPars (sp.params.flatMap (·.2)) = true) (hres : sp.results = [(false, [.sc .b])]) (hg : Grp sp.params us cs) (har : All3 (ArgR C (Old w) (fun b => w.heap.size ≤ b) w) (sp.params.flatMap (·.2)) cs ps)
  (hk : fden tab k id ps = some [.v (.bool true)]) : Calls C.P fid us.toArray w fun e w' => e = .returned (.bool true) ∧ Keep (fun b => w.heap.size ≤ b) w w' := by
 obtain ⟨l1, l2⟩ := roPars_nil (vs := cs) hro
 refine Calls.mono ((tab_ok h k).fn fid id sp hid hsp (Old w) (fun b => w.heap.size ≤ b) w us cs ps _ (fun b hb => hb) (fun b hb => hb) hg har (by rw [l1]; simp) hk) fun e w' he => ?_
 obtain ⟨us', cs', S', ps1, ps2, rfl, hgr, hps, hr, hl, _, hkp, _⟩ := he
 rw [l2] at hl
 have hp2 : ps2 = [] := by
  cases ps2 with
  | nil => rfl
  | cons => exact hl.elim
 subst hp2
 rw [hres] at hgr hr
 obtain ⟨u, us1, c1, c2, rfl, rfl, h1, h2, h3⟩ := hgr
 obtain ⟨rfl, rfl⟩ := h3
 simp only [Bool.false_eq_true, if_false] at h2
 subst h2
 refine ⟨?_, hkp⟩
 cases ps1 with
 | nil => simp at hps
 | cons p ps1 =>
  simp only [List.append_nil, List.cons.injEq] at hps
  obtain ⟨rfl, rfl⟩ := hps
  have hr0 : ResR C S' (fun b => w.heap.size ≤ b) w' (.sc .b) u (.v (.bool true)) := by simpa [All3] using hr
  obtain ⟨k1, k2⟩ := hr0
  obtain ⟨b, rfl⟩ := has_bool k1
  simp only [cn, PV.v.injEq, Value.bool.injEq] at k2
  subst k2; rfl
theorem law_post {tab : Nat → Option (TT Unit)} (h : TabOK C tab) {fid id : Nat} {sp : Spec} {fn : Func} {s : ChangeSpec} {shs : List (Bool × List Bs)} {args : Array Value} {ds gs : List (DataW H)} {before : List MemPlace} {t4 : TypeId}
  (hid : C.fid fid = some id) (hsp : C.spec id = some sp) (hpar : sp.params = shs.map shCs) (hres : sp.results = [(false, [.sc .b])])
  (hlen : fn.params.toList.length = shs.length) (hB : ((List.range shs.length).all fun i => match fn.params.toList[i]?, shs[i]? with | some t, some s => parB C.P t s | _, _ => false) = true)
  (hvars : s.vars = []) (hspec : ∀ ds : List (DataW H), ds.length = shs.length → (s.fn H ds).results = [.lit (.bool true)] ∧ (s.fn H ds).args = ds ∧ (s.fn H ds).vars = [])
  (hrt : fn.resultTypes = #[t4]) (ht4 : C.P.underlying t4 = some .bool) (hlaid : laidOutB C.P = true) (hread : (fn.params.toList.all fun t => C.P.readableRec t && decide (t < C.P.types.size)) = true)
  (hval : ∀ (j : Nat) t v, fn.params[j]? = some t → args[j]? = some v → Value.okWide C.P W .any base t v)
  (hW : DataW.Whole enc C.P fn.params.toList s.vars false W args.toList ds gs before)
  (hsz : (DataW.weightsEach C.P (fn.params.toList ++ s.plain.varTypes C.P) (ds ++ gs)).all (· ≤ reachBytes) = true)
  (hlaw : ∀ ps, All2 PvT (shs.flatMap (·.2)) ps → ∃ k, fden tab k id ps = some [.v (.bool true)]) :
  Calls C.P fid args W fun e W' => ∃ v, e = .returned v ∧ s.post enc C.P fn false true false false W args v W' := by
 have hW' := hW
 obtain ⟨p, q, hA, hV, rfl, hfz, hnd⟩ := hW
 rw [hvars] at hV
 obtain ⟨rfl, rfl⟩ := trodVars_none hV
 rw [List.all_eq_true] at hB
 obtain ⟨cs, ps, g1, g2, g3⟩ := pars_ok (C := C) (W := W) (base := base) hlen (fun i t s h1 h2 => by
   have hi : i < shs.length := by
    rcases Nat.lt_or_ge i shs.length with h | h
    ·exact h
    ·rw [List.getElem?_eq_none h] at h2; cases h2
   have := hB i (by simpa using hi)
   rw [h1, h2] at this; exact this) (fun j t v h1 h2 => hval j t v (by simpa using h1) (by simpa using h2)) hA (fun i t d h1 h2 n hn => by
   rw [List.all_eq_true] at hsz
   have h1' : (fn.params.toList ++ s.plain.varTypes C.P)[i]? = some t := by
    rw [List.getElem?_append_left]
    ·exact h1
    ·rcases Nat.lt_or_ge i fn.params.toList.length with h | h
     ·exact h
     ·rw [List.getElem?_eq_none h] at h1; cases h1
   have := hsz n (DataW.weights_mem_each (j := i) h1' (by simpa using h2) n hn)
   simpa using this)
 obtain ⟨k1, k2⟩ := all3_split g2
 obtain ⟨k, hk⟩ := hlaw ps k1
 have hflat : sp.params.flatMap (·.2) = (shs.flatMap (·.2)).map Bs.cs := by rw [hpar]; exact flat_cs shs
 have hcall := law_calls2 h (us := args.toList) (cs := cs) (ps := ps) (w := W) hid hsp (by rw [hflat]; exact roPars_bs _) hres (by rw [hpar]; exact g1) (by rw [hflat]; exact k2) hk
 rw [show args.toList.toArray = args by simp] at hcall
 refine hcall.mono fun e W' ⟨he, hkp⟩ => ?_
 subst he
 obtain ⟨s1, s2, s3⟩ := hspec ds (by omega)
 refine ⟨_, rfl, ds, [], _, [], p, [], hW', ?_, ?_, ?_, keep_frame hkp _, fun h => by cases h⟩
 ·rw [List.append_nil, s1, hrt]
  exact trodAll_mk1 (shut_bool ht4 _)
 ·rw [List.append_nil, s2]
  rw [List.all_eq_true] at hread
  exact keep_args hlaid hkp (fun t ht => by have := hread t ht; simpa using this) hA
 ·rw [List.append_nil, s3, hvars]
  exact rfl
end
end Go.Proofs.YthchhkghjfendabGreat.Dx
