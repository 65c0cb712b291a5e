/- A compiler from the code of functions to trees of pure statements, and the proof that it is right. No conditions. -/
import Derived.OpenShut
import Derived.WideKeyArgs
import Derived.ChangeOld
import Derived.Handed
import Derived.SizedLaws
import Derived.Test.YthchhkghjfendaaGreatL2
set_option linter.all false
namespace Go.Proofs.YthchhkghjfendaaGreat.Dx
open Go Go.ChangeShapes Go.WideShapes Go.RowKit
inductive Bs | int (k:IntKind) | bool | sl (k:IntKind)
def Bs.cs:Bs→CS
 | .int k => .sc (.i k) | .bool => .sc .b | .sl k => .ro (.sc (.i k))
def shCs (s:Bool × List Bs):Bool × List CS:=(s.1,s.2.map Bs.cs)
def PvT:Bs→PV→Prop
 | .int k,p=>∃n,p = .v (.int k n)∧(Lit.int k n).wf=true
 | .bool,p=>∃b,p = .v (.bool b)
 | .sl k,p=>∃zs:List Int,p = .l (zs.map fun n => .v (.int k n))∧(∀n∈zs,(Lit.int k n).wf=true)∧zs.length*(k.bits/8)≤reachBytes
def bsB (P:Program) (t:TypeId) (b:Bs):Bool :=
 match b,P.underlying t with
 | .int k,some (.int k')=>k==k'
 | .bool,some .bool=>true
 | .sl k,some (.slice e)=>(match P.underlying e with | some (.int k')=>k==k' | _=>false)&&P.cellsOf e==1&&P.bytesOf e==k.bits/8
 | _,_=>false
def aggB (P:Program) (t:TypeId) (bs:List Bs):Bool :=
 match P.underlying t with
 | some (.struct fs)=>P.cellsOf t==bs.length&&fs.size==bs.length&&(P.cellTypes P.depth t==some (fs.toList.map (·.type))) &&
   (List.range bs.length).all fun i=>match fs[i]?,bs[i]? with
    | some f,some b=>f.offset==i&&P.cellsOf f.type==1&&bsB P f.type b
    | _,_=>false
 | some (.array n e)=>P.cellsOf t==bs.length&&n==bs.length&&P.cellsOf e==1&&(P.cellTypes P.depth t==some (List.replicate n e))&&bs.all (bsB P e)
 | _=>false
def parB (P:Program) (t:TypeId) (s:Bool × List Bs):Bool :=
 if s.1 then aggB P t s.2 else match s.2 with | [b]=>bsB P t b | _=>false
section
variable {H:Type} {enc:TypeId × Value→H} {C:Ctx} {W:World} {base:Nat}
def BaseR (C:Ctx) (W:World) (b:Bs) (v:Value) (p:PV):Prop:=PvT b p∧ArgR C (Old W) (fun b=>W.heap.size≤b) W b.cs v p
theorem base_ok {t:TypeId} {b:Bs} {v:Value} {fuel:Nat} {x:DataW H × List MemPlace} (hb:bsB C.P t b=true) (hok:Cell.okWide C.P W .any base t v) (hd:DataW.trod enc C.P W 0 (fun _=>true) true fuel t [v]=some x)
  (hz:∀n∈x.1.weights C.P t,n≤reachBytes):∃p,BaseR C W b v p:=by
 unfold bsB at hb
 split at hb
 ·rename_i k k' hu
  simp only [beq_iff_eq] at hb; subst hb
  obtain ⟨n,h1,_,h3⟩:=DataW.trod_int hu hd
  simp only [List.cons.injEq,and_true] at h1; subst h1
  exact ⟨_,⟨n,rfl,h3⟩,by simp [K.has],rfl⟩
 ·rename_i hu
  obtain ⟨n,h1,_⟩:=DataW.trod_bool hu hd
  simp only [List.cons.injEq,and_true] at h1; subst h1
  exact ⟨_,⟨n,rfl⟩,by simp [K.has],rfl⟩
 ·rename_i k e hu
  simp only [Bool.and_eq_true,beq_iff_eq] at hb
  obtain ⟨⟨h1,h2⟩,h3⟩:=hb
  split at h1
  ·rename_i k' he
   simp only [beq_iff_eq] at h1; subst h1
   rcases open_ints hu he h2 hd with ⟨hcs,_⟩ | ⟨a,l,c,zs,hcs,_,hl,hm,hzl,hxe,hcell,hwz⟩
   ·simp only [List.cons.injEq,and_true] at hcs; subst hcs
    exact ⟨.l [],⟨[],rfl,by simp,by simp⟩,.nil⟩
   ·simp only [List.cons.injEq,and_true] at hcs; subst hcs
    simp only [if_true] at hzl
    subst hxe
    have hsz:=hz ((zs.take l).length*C.P.bytesOf e+(zs.drop l).length*C.P.bytesOf e) (by simp [DataW.weights,hu,ChangeShapes.lits,Nat.add_mul])
    rw [h3] at hsz
    simp only [Cell.okWide,hu,Cell.ok,World.has] at hok
    obtain ⟨_,_,_,hsp,row,cells,hsh,_⟩:=hok
    have hblk:a.block<W.heap.size:=by
     rcases Nat.lt_or_ge a.block W.heap.size with h | h
     ·exact h
     ·simp [World.shape?,Array.getElem?_eq_none h] at hsh
    obtain ⟨ab,ao,asp⟩:=a
    simp only at hsp hblk; subst hsp
    refine ⟨.l ((zs.take l).map fun n => .v (.int k n)),⟨zs.take l,rfl,fun n hn=>hwz n (List.mem_of_mem_take hn),by omega⟩,?_⟩
    refine .sl (fun i _ => .int k (zs.getD i 0)) (fun i _ => .v (.int k (zs.getD i 0))) hblk (by simp; omega) hl ?_ ?_ ?_
    ·intro i j hi hj
     have hj0:j=0:=by simp [Ty.cells] at hj; exact hj
     subst hj0
     have:=hcell i (by omega)
     rw [add_plain] at this
     simpa [Ty.cells] using this
    ·intro i p hp
     simp only [List.getElem?_map,Option.map_eq_some_iff] at hp
     obtain ⟨z,hz1,rfl⟩:=hp
     rw [List.getElem?_take] at hz1
     split at hz1
     ·show PV.v (.int k z) = .v (.int k (zs.getD i 0))
      rw [List.getD_eq_getElem?_getD,hz1]; rfl
     ·cases hz1
    ·intro i j t _ ht
     have:t = .sc (.i k):=by
      cases j with
      | zero=>simpa [Ty.cells] using ht.symm
      | succ j=>simp [Ty.cells] at ht
     subst this
     exact .sc (by simp [K.has])
  ·cases h1
 ·cases hb
theorem list_of {bs:List Bs}:∀{vs:List Value},vs.length=bs.length→(∀(i:Nat) b v,bs[i]? = some b→vs[i]? = some v→∃p,BaseR C W b v p)→∃ps,All3 (BaseR C W) bs vs ps:=by
 induction bs with
 | nil=>intro vs hl _; cases vs with | nil=>exact ⟨[],trivial⟩ | cons=>simp at hl
 | cons b bs ih =>
  intro vs hl h
  cases vs with
  | nil=>simp at hl
  | cons v vs =>
   obtain ⟨p,hp⟩:=h 0 b v rfl rfl
   obtain ⟨ps,hps⟩:=ih (vs:=vs) (by simpa using hl) fun i b v h1 h2=>h (i+1) b v (by simpa using h1) (by simpa using h2)
   exact ⟨p::ps,hp,hps⟩
theorem take_one {cs:List Value} {i:Nat} {v:Value} (h:cs[i]? = some v):(cs.drop i).take 1=[v]:=by
 induction cs generalizing i with
 | nil=>simp at h
 | cons c cs ih=>cases i with
  | zero=>simp at h; subst h; rfl
  | succ i=>simpa using ih (by simpa using h)
theorem weights_mem_all {P:Program} {e:TypeId} {d:DataW H}:∀{ds:List (DataW H)},d∈ds→∀n∈d.weights P e,n∈DataW.weightsAll P e ds
 | [],h,_,_=>by simp at h
 | d0::ds,h,n,hn=>by
  simp only [DataW.weightsAll,List.mem_append]
  rcases List.mem_cons.1 h with rfl | h
  ·exact .inl hn
  ·exact .inr (weights_mem_all h n hn)
theorem par_ok {t:TypeId} {s:Bool × List Bs} {v:Value} {d:DataW H} {p:List MemPlace} (hb:parB C.P t s=true) (hok:Value.okWide C.P W .any base t v) (hd:DataW.Trod enc C.P W 0 (fun _=>true) true t v d p)
  (hz:∀n∈d.weights C.P t,n≤reachBytes):∃vs ps,vs.length=s.2.length∧(if s.1 then v = .agg vs.toArray else vs=[v])∧All3 (BaseR C W) s.2 vs ps:=by
 obtain ⟨fl,l⟩:=s
 obtain ⟨fuel,hd⟩:=hd
 unfold parB at hb
 cases fl
 ·simp only [Bool.false_eq_true,if_false] at hb
  split at hb
  ·rename_i _ b
   have hc:Cell.okWide C.P W .any base t v:=by
    unfold Value.okWide at hok
    unfold bsB at hb
    split at hb<;>first | (cases hb; done) | (rename_i hu; simpa [hu] using hok)
   have hcs:v.cells.toList=[v]:=by
    unfold bsB at hb
    unfold Cell.okWide at hc
    split at hb<;>first | (cases hb; done) | (rename_i hu; simp only [hu] at hc; cases v<;>simp_all [Cell.ok,Value.cells])
   rw [hcs] at hd
   obtain ⟨q,hq⟩:=base_ok hb hc hd hz
   exact ⟨[v],[q],rfl,rfl,hq,trivial⟩
  ·cases hb
 ·simp only [if_true] at hb
  unfold aggB at hb
  split at hb
  ·rename_i fs hu
   simp only [Bool.and_eq_true,beq_iff_eq,List.all_eq_true,List.mem_range] at hb
   obtain ⟨⟨⟨h1,h2⟩,h3⟩,h4⟩:=hb
   simp only [Value.okWide,hu] at hok
   obtain ⟨cs,rfl,hsz,ts,hts,_,hrow⟩:=hok
   have hl:cs.toList.length=l.length:=by simpa using hsz.trans h1
   obtain ⟨xs,n,_,hxe,_,hxl,hx⟩:=DataW.trod_struct hu hd
   simp only [Prod.mk.injEq] at hxe
   obtain ⟨rfl,rfl⟩:=hxe
   obtain ⟨ps,hps⟩:=list_of (C:=C) (W:=W) (bs:=l) (vs:=cs.toList) hl fun i b v hb' hv=>by
    have hi:i<l.length:=by
     rcases Nat.lt_or_ge i l.length with h | h
     ·exact h
     ·rw [List.getElem?_eq_none h] at hb'; cases hb'
    have h4i:=h4 i hi
    rw [hb'] at h4i
    split at h4i
    ·rename_i f b' hf hbb
     cases hbb
     simp only [Bool.and_eq_true,beq_iff_eq] at h4i
     obtain ⟨⟨e1,e2⟩,e3⟩:=h4i
     have hxi:=hx i f hf
     rw [e1,e2,show (Value.agg cs).cells.toList=cs.toList from rfl,take_one hv] at hxi
     have hxi2:i<xs.length:=by omega
     rw [List.getElem?_eq_getElem hxi2] at hxi
     rw [h3] at hts; cases hts
     obtain ⟨u,hu1,hu2⟩:=hrow i v (by simpa using hv)
     have hil:i%(fs.toList.map (·.type)).length=i:=Nat.mod_eq_of_lt (by simp; omega)
     rw [hil,List.getElem?_map] at hu1
     have:fs.toList[i]? = some f:=by simpa using hf
     rw [this] at hu1; simp at hu1; subst hu1
     refine base_ok e3 hu2 hxi fun n hn=>hz n ?_
     simp only [DataW.weights,hu]
     exact DataW.weights_mem_each (j:=i) (t:=f.type) (d:=xs[i].1) (by rw [List.getElem?_map,this]; rfl) (by rw [List.getElem?_map,List.getElem?_eq_getElem hxi2]; rfl) n hn
    ·cases h4i
   exact ⟨cs.toList,ps,hl,by simp,hps⟩
  ·rename_i n e hu
   simp only [Bool.and_eq_true,beq_iff_eq,List.all_eq_true] at hb
   obtain ⟨⟨⟨⟨h1,h2⟩,h5⟩,h3⟩,h4⟩:=hb
   simp only [Value.okWide,hu] at hok
   obtain ⟨cs,rfl,hsz,ts,hts,_,hrow⟩:=hok
   have hl:cs.toList.length=l.length:=by simpa using hsz.trans h1
   obtain ⟨xs,m,_,hxe,_,hxl,hx⟩:=DataW.trod_array hu hd
   simp only [Prod.mk.injEq] at hxe
   obtain ⟨rfl,rfl⟩:=hxe
   obtain ⟨ps,hps⟩:=list_of (C:=C) (W:=W) (bs:=l) (vs:=cs.toList) hl fun i b v hb' hv=>by
    have hi:i<l.length:=by
     rcases Nat.lt_or_ge i l.length with h | h
     ·exact h
     ·rw [List.getElem?_eq_none h] at hb'; cases hb'
    have hxi:=hx i (by omega)
    rw [h5,Nat.mul_one,show (Value.agg cs).cells.toList=cs.toList from rfl,take_one hv] at hxi
    have hxi2:i<xs.length:=by omega
    rw [List.getElem?_eq_getElem hxi2] at hxi
    rw [h3] at hts; cases hts
    obtain ⟨u,hu1,hu2⟩:=hrow i v (by simpa using hv)
    have hil:i%(List.replicate n e).length=i:=Nat.mod_eq_of_lt (by simp; omega)
    rw [hil,List.getElem?_replicate] at hu1
    split at hu1
    ·cases hu1
     refine base_ok (h4 b (List.mem_of_getElem? hb')) hu2 hxi fun n hn=>hz n ?_
     simp only [DataW.weights,hu]
     exact weights_mem_all (d:=xs[i].1) (List.mem_map.2 ⟨xs[i],List.getElem_mem hxi2,rfl⟩) n hn
    ·cases hu1
   exact ⟨cs.toList,ps,hl,by simp,hps⟩
  ·cases hb
theorem All3.append' {α β γ:Type} {R:α→β→γ→Prop} {as as':List α} {bs bs':List β} {cs cs':List γ} (h:All3 R as bs cs) (h':All3 R as' bs' cs'):All3 R (as++as') (bs++bs') (cs++cs'):=h.append h'
theorem pars_ok:∀{ts:List TypeId} {shs:List (Bool × List Bs)} {vs:List Value} {ds:List (DataW H)} {p:List MemPlace},ts.length=shs.length→(∀(i:Nat) t s,ts[i]? = some t→shs[i]? = some s→parB C.P t s=true) →
  (∀(j:Nat) t v,ts[j]? = some t→vs[j]? = some v→Value.okWide C.P W .any base t v)→DataW.TrodAll enc C.P W 0 (fun _=>true) true ts vs ds p→(∀(i:Nat) t d,ts[i]? = some t→ds[i]? = some d→∀n∈DataW.weights C.P t d,n≤reachBytes) →
  ∃cs ps,Grp (shs.map shCs) vs cs∧All3 (BaseR C W) (shs.flatMap (·.2)) cs ps∧ds.length=ts.length
 | [],[],vs,ds,p,_,_,_,hA,_=>by
  obtain ⟨rfl,rfl,rfl⟩:=trodAll_nil hA
  exact ⟨[],[],⟨rfl,rfl⟩,trivial,rfl⟩
 | t::ts,s::shs,vs,ds,p,hl,hb,hok,hA,hz=>by
  obtain ⟨v,vs',d,ds',p1,q1,rfl,rfl,rfl,h0,r0⟩:=trodAll_cons hA
  obtain ⟨c1,ps1,k1,k2,k3⟩:=par_ok (C:=C) (hb 0 t s rfl rfl) (hok 0 t v rfl rfl) h0 (hz 0 t d rfl rfl)
  obtain ⟨cs,ps,g1,g2,g3⟩:=pars_ok (ts:=ts) (shs:=shs) (by simpa using hl) (fun i t s h1 h2=>hb (i+1) t s (by simpa using h1) (by simpa using h2)) (fun j t v h1 h2=>hok (j+1) t v (by simpa using h1) (by simpa using h2)) r0 (fun i t d h1 h2=>hz (i+1) t d (by simpa using h1) (by simpa using h2))
  refine ⟨c1++cs,ps1++ps,⟨v,vs',c1,cs,rfl,rfl,by simpa [shCs] using k1,?_,g1⟩,?_,by simp [g3]⟩
  ·obtain ⟨fl,l⟩:=s
   exact k2
  ·rw [List.flatMap_cons]; exact k3.append g2
 | [],_::_,_,_,_,hl,_,_,_,_=>by simp at hl
 | _::_,[],_,_,_,hl,_,_,_,_=>by simp at hl
theorem all3_split:∀{bs:List Bs} {vs:List Value} {ps:List PV},All3 (BaseR C W) bs vs ps→All2 PvT bs ps∧All3 (ArgR C (Old W) (fun b=>W.heap.size≤b) W) (bs.map Bs.cs) vs ps
 | [],[],[],_=>⟨trivial,trivial⟩
 | _::_,_::_,_::_,⟨⟨x1,x2⟩,y⟩=>⟨⟨x1,(all3_split y).1⟩,x2,(all3_split y).2⟩
 | [],[],_::_,x=>x.elim
 | [],_::_,_,x=>x.elim
 | _::_,[],_,x=>x.elim
 | _::_,_::_,[],x=>x.elim
theorem flat_cs:∀(shs:List (Bool × List Bs)),((shs.map shCs).flatMap (·.2))=(shs.flatMap (·.2)).map Bs.cs
 | []=>rfl
 | s::shs=>by rw [List.map_cons,List.flatMap_cons,List.flatMap_cons,List.map_append,flat_cs shs]; rfl
theorem roPars_bs (l:List Bs):roPars (l.map Bs.cs)=true:=by
 unfold roPars
 rw [List.all_eq_true]
 intro c hc
 simp only [List.mem_map] at hc
 obtain ⟨b,_,rfl⟩:=hc
 cases b<;>rfl
theorem keep_frame {w w':World} (h:Keep (fun b=>w.heap.size≤b) w w') (may:MemPlace→Prop):w.keptBut w' may:=by
 obtain ⟨h1,h2,h3⟩:=h
 refine ⟨h3.os,h3.out,fun i hi => ?_⟩
 rw [h2 i (by omega) hi]
 split<;>simp_all
theorem keep_same {w w':World} (h:Keep (fun b=>w.heap.size≤b) w w') {p:MemPlace} (hp:p.block<w.heap.size):w.sameAt w' p:=by
 obtain ⟨h1,h2,h3⟩:=h
 cases p with
 | cell b o=>exact World.cell?_of_block (w:=w) (h2 b (by simp only [MemPlace.block] at hp; omega) hp)
 | map b=>exact h2 b (by simp only [MemPlace.block] at hp; omega) hp
theorem keep_args {w w':World} (hl:laidOutB C.P=true) (h:Keep (fun b=>w.heap.size≤b) w w'):∀{ts:List TypeId} {vs:List Value} {ds:List (DataW H)} {p:List MemPlace},(∀t∈ts,C.P.readableRec t=true∧t<C.P.types.size) →
  DataW.TrodAll enc C.P w 0 (fun _=>true) true ts vs ds p→DataW.TrodAll enc C.P w' 0 (fun b=>decide (b<w.heap.size)) true ts vs ds p
 | [],vs,ds,p,_,hA=>by obtain ⟨rfl,rfl,rfl⟩:=trodAll_nil hA; exact trodAll_mk0
 | t::ts,vs,ds,p,hr,hA=>by
  obtain ⟨v,vs',d,ds',p1,q1,rfl,rfl,rfl,h0,r0⟩:=trodAll_cons hA
  have hlt:∀x∈p1,x.block<w.heap.size:=by obtain ⟨m,hm⟩:=h0; exact DataW.trod_lt m _ _ _ hm
  exact trodAll_cons_mk (WideElems.Trod_stays hl (hr t (by simp)).1 (hr t (by simp)).2 h0 (fun x hx=>keep_same h (hlt x hx)) (fun x hx=>by simpa using hlt x hx)) (keep_args hl h (fun t ht=>hr t (by simp [ht])) r0)
theorem law_calls2 {tab:Nat→Option (TT Unit)} (h:TabOK C tab) {fid id:Nat} {sp:Spec} {us cs:List Value} {ps:List PV} {k:Nat} {w:World} (hid:C.fid fid=some id) (hsp:C.spec id=some sp)
  (hro:roPars (sp.params.flatMap (·.2))=true) (hres:sp.results=[(false,[.sc .b])]) (hg:Grp sp.params us cs) (har:All3 (ArgR C (Old w) (fun b=>w.heap.size≤b) w) (sp.params.flatMap (·.2)) cs ps)
  (hk:fden tab k id ps=some [.v (.bool true)]):Calls C.P fid us.toArray w fun e w'=>e = .returned (.bool true)∧Keep (fun b=>w.heap.size≤b) w w':=by
 obtain ⟨l1,l2⟩:=roPars_nil (vs:=cs) hro
 refine Calls.mono ((tab_ok h k).fn fid id sp hid hsp (Old w) (fun b=>w.heap.size≤b) w us cs ps _ (fun b hb=>hb) (fun b hb=>hb) hg har (by rw [l1]; simp) hk) fun e w' he => ?_
 obtain ⟨us',cs',S',ps1,ps2,rfl,hgr,hps,hr,hl,_,hkp,_⟩:=he
 rw [l2] at hl
 have hp2:ps2=[]:=by
  cases ps2 with
  | nil=>rfl
  | cons=>exact hl.elim
 subst hp2
 rw [hres] at hgr hr
 obtain ⟨u,us1,c1,c2,rfl,rfl,h1,h2,h3⟩:=hgr
 obtain ⟨rfl,rfl⟩:=h3
 simp only [Bool.false_eq_true,if_false] at h2
 subst h2
 refine ⟨?_,hkp⟩
 cases ps1 with
 | nil=>simp at hps
 | cons p ps1 =>
  simp only [List.append_nil,List.cons.injEq] at hps
  obtain ⟨rfl,rfl⟩:=hps
  have hr0:ResR C S' (fun b=>w.heap.size≤b) w' (.sc .b) u (.v (.bool true)):=by simpa [All3] using hr
  obtain ⟨k1,k2⟩:=hr0
  obtain ⟨b,rfl⟩:=has_bool k1
  simp only [cn,PV.v.injEq,Value.bool.injEq] at k2
  subst k2; rfl
theorem law_post {tab:Nat→Option (TT Unit)} (h:TabOK C tab) {fid id:Nat} {sp:Spec} {fn:Func} {s:ChangeSpec} {shs:List (Bool × List Bs)} {args:Array Value} {ds gs:List (DataW H)} {before:List MemPlace} {t4:TypeId}
  (hid:C.fid fid=some id) (hsp:C.spec id=some sp) (hpar:sp.params=shs.map shCs) (hres:sp.results=[(false,[.sc .b])])
  (hlen:fn.params.toList.length=shs.length) (hB:((List.range shs.length).all fun i=>match fn.params.toList[i]?,shs[i]? with | some t,some s=>parB C.P t s | _,_=>false)=true)
  (hvars:s.vars=[]) (hspec:∀ds:List (DataW H),ds.length=shs.length→(s.fn H ds).results=[.lit (.bool true)]∧(s.fn H ds).args=ds∧(s.fn H ds).vars=[])
  (hrt:fn.resultTypes = #[t4]) (ht4:C.P.underlying t4=some .bool) (hlaid:laidOutB C.P=true) (hread:(fn.params.toList.all fun t=>C.P.readableRec t&&decide (t<C.P.types.size))=true)
  (hval:∀(j:Nat) t v,fn.params[j]? = some t→args[j]? = some v→Value.okWide C.P W .any base t v)
  (hW:DataW.Whole enc C.P fn.params.toList s.vars false W args.toList ds gs before)
  (hsz:(DataW.weightsEach C.P (fn.params.toList++s.plain.varTypes C.P) (ds++gs)).all (· ≤ reachBytes)=true)
  (hlaw:∀ps,All2 PvT (shs.flatMap (·.2)) ps→∃k,fden tab k id ps=some [.v (.bool true)]) :
  Calls C.P fid args W fun e W'=>∃v,e = .returned v∧s.post enc C.P fn false true false false W args v W':=by
 have hW':=hW
 obtain ⟨p,q,hA,hV,rfl,hfz,hnd⟩:=hW
 rw [hvars] at hV
 obtain ⟨rfl,rfl⟩:=trodVars_none hV
 rw [List.all_eq_true] at hB
 obtain ⟨cs,ps,g1,g2,g3⟩:=pars_ok (C:=C) (W:=W) (base:=base) hlen (fun i t s h1 h2=>by
   have hi:i<shs.length:=by
    rcases Nat.lt_or_ge i shs.length with h | h
    ·exact h
    ·rw [List.getElem?_eq_none h] at h2; cases h2
   have:=hB i (by simpa using hi)
   rw [h1,h2] at this; exact this) (fun j t v h1 h2=>hval j t v (by simpa using h1) (by simpa using h2)) hA (fun i t d h1 h2 n hn=>by
   rw [List.all_eq_true] at hsz
   have h1':(fn.params.toList++s.plain.varTypes C.P)[i]? = some t:=by
    rw [List.getElem?_append_left]
    ·exact h1
    ·rcases Nat.lt_or_ge i fn.params.toList.length with h | h
     ·exact h
     ·rw [List.getElem?_eq_none h] at h1; cases h1
   have:=hsz n (DataW.weights_mem_each (j:=i) h1' (by simpa using h2) n hn)
   simpa using this)
 obtain ⟨k1,k2⟩:=all3_split g2
 obtain ⟨k,hk⟩:=hlaw ps k1
 have hflat:sp.params.flatMap (·.2)=(shs.flatMap (·.2)).map Bs.cs:=by rw [hpar]; exact flat_cs shs
 have hcall:=law_calls2 h (us:=args.toList) (cs:=cs) (ps:=ps) (w:=W) hid hsp (by rw [hflat]; exact roPars_bs _) hres (by rw [hpar]; exact g1) (by rw [hflat]; exact k2) hk
 rw [show args.toList.toArray=args by simp] at hcall
 refine hcall.mono fun e W' ⟨he,hkp⟩ => ?_
 subst he
 obtain ⟨s1,s2,s3⟩:=hspec ds (by omega)
 refine ⟨_,rfl,ds,[],_,[],p,[],hW',?_,?_,?_,keep_frame hkp _,fun h=>by cases h⟩
 ·rw [List.append_nil,s1,hrt]
  exact trodAll_mk1 (shut_bool ht4 _)
 ·rw [List.append_nil,s2]
  rw [List.all_eq_true] at hread
  exact keep_args hlaid hkp (fun t ht=>by have:=hread t ht; simpa using this) hA
 ·rw [List.append_nil,s3,hvars]
  exact rfl
end
end Go.Proofs.YthchhkghjfendaaGreat.Dx
