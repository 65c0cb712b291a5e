/- The pure meaning of the functions that the law reaches, and that the law is true of it. No conditions. -/
import Derived.Test.YthchhkghjfendaaGreatPivotWholeM2
set_option linter.all false
namespace Go.Proofs.YthchhkghjfendaaGreat.Dx
open Go
theorem pow_infR {b:Nat} (h:b<infR):finN b=true:=by
 unfold finN
 refine decide_eq_true ?_
 unfold fPow; unfold infR at h; omega
section
variable {r c j:Nat} {x:List Nat} (h:Mx r c x) (hf:Fin2 r c x) (hb:∀i k,i<r→k<c→W (el x (ps i c k))≤P2 300) (hj:j<r)
include h hf hb hj
theorem cnrm_any {k:Nat} (hk:k<c):cnrm r c x j k<infR∧((P2 (-800)≤W (cnrm r c x j k)∨P2 (-1600)≤tsq r c x j k)→Er (W (cnrm r c x j k)*W (cnrm r c x j k)) (tsq r c x j k) (150*uu*tsq r c x j k)):=by
 have hr:=h.hr
 have hl:(colL r c x k j).length=r-j:=colL_len _ _ _ _ _
 obtain ⟨a1,-,a3⟩:=norm_any (colL_words h k j) (by omega) (fun i hi=>by rw [el_colL (by omega)]; exact hf _ _ (by omega) hk) (fun i hi=>by rw [el_colL (by omega)]; exact Rat.le_trans (hb _ _ (by omega) hk) (P2_mono (by omega)))
 have e:sumA (fun i=>W (el (colL r c x k j) i)) (colL r c x k j).length=tsq r c x j k:=by
  rw [sumA_sumP,hl]
  exact sumP_congr fun a ha=>by rw [el_colL ha,←sv_W]; rfl
 rw [e] at a3
 exact ⟨a1,a3⟩
theorem grL_max:∀(n:Nat) {cc at_:Nat},cc+n=c→j≤cc→(cc=j∨(at_<c∧∀k,j≤k→k<cc→cnrm r c x j k≤cnrm r c x j at_)) →
  (grL r c x j n cc at_ true).2=true∧∀k,j≤k→k<c→cnrm r c x j k≤cnrm r c x j (grL r c x j n cc at_ true).1
 | 0,cc,at_,h1,h2,h3=>by
  refine ⟨rfl,fun k k1 k2 => ?_⟩
  rcases h3 with h3 | ⟨h3,h4⟩
  ·omega
  ·exact h4 k k1 (by omega)
 | n+1,cc,at_,h1,h2,h3=>by
  have hcc:=(cnrm_any h hf hb hj (k:=cc) (by omega)).1
  unfold grL
  rw [pow_infR hcc,Bool.true_and]
  by_cases hor:cc=j∨ordI (cnrm r c x j at_) (cnrm r c x j cc)<0
  ·rw [if_pos hor]
   refine grL_max n (by omega) (by omega) (.inr ⟨by omega,fun k k1 k2 => ?_⟩)
   by_cases hkc:k=cc
   ·rw [hkc]; exact Nat.le_refl _
   ·rcases h3 with h3 | ⟨h3,h4⟩
    ·omega
    ·have ha:=(cnrm_any h hf hb hj h3).1
     unfold infR at ha hcc
     have:=ord_lt (by omega) (by omega) (hor.resolve_left (by omega))
     have:=h4 k k1 (by omega)
     omega
  ·rw [if_neg hor]
   rcases h3 with h3 | ⟨h3,h4⟩
   ·exact absurd (.inl h3) hor
   ·refine grL_max n (by omega) (by omega) (.inr ⟨h3,fun k k1 k2 => ?_⟩)
    by_cases hkc:k=cc
    ·rw [hkc]
     have ha:=(cnrm_any h hf hb hj h3).1
     exact ord_ge (by omega) (by omega) (fun hh=>hor (.inr hh))
    ·exact h4 k k1 (by omega)
theorem gr_err (hjc:j<c) {B:Rat} (hB:P2 (-430)≤B) (hc:∀k,k<c→csq r c x k≤B):(grR r c x j).2=true∧∀k,j≤k→k<c→tsq r c x j k≤tsq r c x j (grR r c x j).1+1000*uu*B:=by
 obtain ⟨g1,g2⟩:=grL_max h hf hb hj (c-j) (cc:=j) (at_:=j) (by omega) (Nat.le_refl _) (.inl rfl)
 obtain ⟨ga,gb⟩:=grR_lt (r:=r) (x:=x) hjc
 refine ⟨g1,fun k k1 k2 => ?_⟩
 have g3:cnrm r c x j k≤cnrm r c x j (grR r c x j).1:=g2 k k1 k2
 obtain ⟨a1,a2⟩:=cnrm_any h hf hb hj k2
 obtain ⟨b1,b2⟩:=cnrm_any h hf hb hj ga
 have hW:W (cnrm r c x j k)≤W (cnrm r c x j (grR r c x j).1):=W_mono (by unfold infR at b1; omega) g3
 have u0:=uu_pos
 have hB0:0≤B:=Rat.le_trans (Rat.le_of_lt (P2_pos _)) hB
 have ub:=Rat.mul_nonneg u0 hB0
 have tB:∀k,k<c→tsq r c x j k≤B:=fun k hk=>by
  have:=csq_split (r:=r) (c:=c) (x:=x) (k:=k) (show j≤r by omega)
  have h2:0≤sumP (fun i=>mvl c x i k*mvl c x i k) j:=sumP_nonneg fun i _=>rat_sq_nonneg _
  have:=hc k hk
  grind
 have tk:=tB k k2
 have ta:=tB _ ga
 have ta0:=tsq_nonneg r c x j (grR r c x j).1
 rcases Rat.le_total (a:=tsq r c x j k) (b:=P2 (-1590)) with hs | hs
 ·have e1:P2 (-1590)≤1000*uu*P2 (-430):=by decide +kernel
  have e2:=Rat.mul_le_mul_of_nonneg_left hB (show 0≤1000*uu by grind)
  generalize P2 (-1590)=z at *
  generalize P2 (-430)=z2 at *
  generalize 1000*uu=v at *
  grind
 ·have e1:P2 (-1600)≤P2 (-1590):=P2_mono (by omega)
  have q1:=a2 (.inr (Rat.le_trans e1 hs))
  have e2:P2 (-800)*P2 (-800)≤1/2*P2 (-1590):=by decide +kernel
  have hu:150*uu≤1/2:=by decide +kernel
  have hu2:=Rat.mul_le_mul_of_nonneg_right hu (tsq_nonneg r c x j k)
  have e3:P2 (-800)≤W (cnrm r c x j k):=by
   refine (Ab.of_sq (x:=P2 (-800)) (W_nonneg _) ?_).2
   have:=q1.2
   generalize P2 (-800)*P2 (-800)=z at *
   generalize P2 (-1590)=z2 at *
   grind
  have q2:=b2 (.inl (Rat.le_trans e3 hW))
  have hsq:=rat_sq_le (W_nonneg _) hW
  have c1:=Rat.mul_le_mul_of_nonneg_left tk u0
  have c2:=Rat.mul_le_mul_of_nonneg_left ta u0
  have p1:=q1.2
  have p2:=q2.1
  clear q1 q2 e1 e2 e3 hW a2 b2 g2 g3
  generalize W (cnrm r c x j (grR r c x j).1)*W (cnrm r c x j (grR r c x j).1)=na at *
  generalize W (cnrm r c x j k)*W (cnrm r c x j k)=nk at *
  generalize tsq r c x j (grR r c x j).1=t at *
  generalize tsq r c x j k=s at *
  grind
end
theorem sw_mvl {r c a b:Nat} {x:List Nat} {i k:Nat} (hi:i<r) (hk:k<c):mvl c (swV r c x a b) i k=mvl c x i (swN a b k):=by
 unfold mvl; rw [el_swV hi hk]
theorem sw_csq {r c a b:Nat} {x:List Nat} {k:Nat} (hk:k<c):csq r c (swV r c x a b) k=csq r c x (swN a b k):=sumP_congr fun i hi=>by rw [sw_mvl hi hk]
theorem sw_tsq {r c a b:Nat} {x:List Nat} {m k:Nat} (hk:k<c):tsq r c (swV r c x a b) m k=tsq r c x m (swN a b k):=sumP_congr fun i hi=>by rw [sw_mvl (by omega) hk]
theorem sw_up {r c j a:Nat} {x:List Nat} (ha:j≤a) (hj:j<c) (hu:UpTo r c j x):UpTo r c j (swV r c x j a):=fun i k hk hki hi=>by
 rw [el_swV hi (by omega)]
 have:swN j a k=k:=by unfold swN; rw [if_neg (by omega),if_neg (by omega)]
 rw [this]; exact hu i k hk hki hi
theorem sw_same {r c j a i:Nat} {x:List Nat} (ha:j≤a) (hi:i<j) (hr:j≤r) (hc:j≤c):el (swV r c x j a) (ps i c i)=el x (ps i c i):=by
 rw [el_swV (by omega) (by omega)]
 have:swN j a i=i:=by unfold swN; rw [if_neg (by omega),if_neg (by omega)]
 rw [this]
theorem sw_first {j a:Nat}:swN j a j=a:=by
 unfold swN
 by_cases h:j=a
 ·rw [if_pos h,h]
 ·rw [if_neg h,if_pos rfl]
theorem sw_ge {j a k:Nat} (ha:j≤a) (hk:j≤k):j≤swN j a k:=by
 unfold swN; split
 ·exact Nat.le_refl _
 ·split<;>omega
theorem dnX_same {r c j i:Nat} {x:List Nat} (hj:j<c) (hi:i<j):el (dnX r c j x) (ps i c i)=el x (ps i c i):=by
 unfold dnX
 rw [clV_other hj (by omega) (.inr hi),apV_above (by omega) hi (by omega)]
def dg (c:Nat) (y:List Nat) (i:Nat):Rat:=mvl c y i i*mvl c y i i
theorem dg_same {c i:Nat} {x y:List Nat} (h:el y (ps i c i)=el x (ps i c i)):dg c y i=dg c x i:=by unfold dg mvl; rw [h]
theorem tsq_diag {r c j:Nat} {x:List Nat} (hj:j<r) (hu:UpTo r c (j+1) x):tsq r c x j j=dg c x j:=by
 rw [tsq_succ r c x hj]
 have:tsq r c x (j+1) j=0:=by
  unfold tsq
  rw [sumP_congr (q:=fun _=>0) fun a ha=>by
   have:mvl c x (j+1+a) j=0:=by
    unfold mvl; rw [hu _ _ (by omega) (by omega) (by omega)]; exact sv_zero (by decide)
   rw [this]; grind,sumP_zero]
 rw [this]
 unfold dg; grind
theorem csq_W {r c:Nat} {x:List Nat} {B:Rat} (hB:B≤P2 500) {i k:Nat} (hi:i<r) (hx:csq r c x k≤B):W (el x (ps i c k))≤P2 300:=by
 refine (Ab.of_sq (Rat.le_of_lt (P2_pos _)) ?_).2
 have h1:=sumP_mem (p:=fun i=>mvl c x i k*mvl c x i k) (n:=r) (fun i _=>rat_sq_nonneg _) i hi
 have h2:mvl c x i k*mvl c x i k=W (el x (ps i c k))*W (el x (ps i c k)):=sv_W _
 have h3:P2 500≤P2 300*P2 300:=by decide +kernel
 rw [←h2]
 exact Rat.le_trans h1 (Rat.le_trans hx (Rat.le_trans hB h3))
structure PvE (r c n j:Nat) (x y:List Nat) (ms2:List Mir) (B:Rat):Prop where
 len:ms2.length≤n
 mx:Mx r c y
 fin:Fin2 r c y
 bq:BQ r ms2.length (bq r ms2 j)
 same:∀i,i<j→el y (ps i c i)=el x (ps i c i)
 up:0<n→∀t,(∀k,j≤k→k<c→tsq r c x j k≤t)→dg c y j≤t+10000*uu*B
 lo:0<n→∀k,j≤k→k<c→tsq r c x j k≤dg c y j+11000*uu*B
 fall:∀i,j≤i→i+1<j+n→dg c y (i+1)≤dg c y i+40000*uu*B
theorem pv_err {r c:Nat} {B:Rat} (b1:P2 (-430)≤B) (b2:B≤P2 490):∀(n j:Nat) (x:List Nat) (pl:List Int) (ms:List Mir),j+n≤c→j+n≤r→Mx r c x→Fin2 r c x→(∀k,k<c→csq r c x k≤B*(1+10000*uu*(j:Nat)))→UpTo r c j x →
  ∃pl' y ms2,pvR r c n j pl x ms=some (pl',y,ms++ms2)∧PvE r c n j x y ms2 B
 | 0,j,x,pl,ms,hc,hr,h,hf,hx,hu=>by
  refine ⟨pl,x,[],by unfold pvR; rw [List.append_nil],⟨Nat.le_refl _,h,hf,bq_eye h.hr,fun _ _=>rfl,fun h=>absurd h (by omega),fun h=>absurd h (by omega),fun i h1 h2=>by omega⟩⟩
 | n+1,j,x,pl,ms,hc,hr,h,hf,hx,hu=>by
  have u0:=uu_pos
  have hu6:uu≤1/1000000000:=by decide +kernel
  have hr6:=h.hr
  have hB0:0≤B:=Rat.le_trans (Rat.le_of_lt (P2_pos _)) b1
  have ub:=Rat.mul_nonneg u0 hB0
  have ub2:=Rat.mul_le_mul_of_nonneg_right hu6 hB0
  have hj5:((j:Nat):Rat)≤((5:Nat):Rat):=Rat.natCast_le_natCast.2 (by omega)
  have e5:((5:Nat):Rat)=5:=rfl
  rw [e5] at hj5
  have hjm:=Rat.mul_le_mul_of_nonneg_left hj5 ub
  have hB2:B*(1+10000*uu*(j:Nat))≤11/10*B:=by
   generalize (j:Rat)=J at *; generalize uu=u at *; clear hx hj5; grind
  have hx2:∀k,k<c→csq r c x k≤11/10*B:=fun k hk=>Rat.le_trans (hx k hk) hB2
  have hBB:P2 (-430)≤11/10*B:=by generalize P2 (-430)=z at *; grind
  have hB5:11/10*B≤P2 500:=by
   have:11/10*P2 490≤P2 500:=by decide +kernel
   generalize P2 490=z at *; generalize P2 500=z2 at *; grind
  have hW:∀i k,i<r→k<c→W (el x (ps i c k))≤P2 300:=fun i k hi hk=>csq_W hB5 hi (hx2 k hk)
  have hjr:j<r:=by omega
  have hjc:j<c:=by omega
  obtain ⟨g1,g2⟩:=gr_err h hf hW hjr hjc hBB hx2
  obtain ⟨ga,gb⟩:=grR_lt (r:=r) (x:=x) hjc
  unfold pvR
  rw [if_pos g1]
  generalize (grR r c x j).1=a at *
  have hz:=swV_mx h j a
  have zu:=sw_up gb hjc hu
  have zf:Fin2 r c (swV r c x j a):=fun i k hi hk=>by rw [el_swV hi hk]; exact hf _ _ hi (swN_lt hjc ga hk)
  have zc:∀k,k<c→csq r c (swV r c x j a) k≤B*(1+10000*uu*(j:Nat)):=fun k hk=>by rw [sw_csq hk]; exact hx _ (swN_lt hjc ga hk)
  have zc2:∀k,k<c→csq r c (swV r c x j a) k≤11/10*B:=fun k hk=>Rat.le_trans (zc k hk) hB2
  have zs:∀i,i<j→el (swV r c x j a) (ps i c i)=el x (ps i c i):=fun i hi=>sw_same gb hi (by omega) (by omega)
  have zt:tsq r c (swV r c x j a) j j=tsq r c x j a:=by rw [sw_tsq hjc,sw_first]
  by_cases hlast:j=r-1
  ·rw [if_pos hlast]
   have hn:n=0:=by omega
   subst hn
   have hd:dg c (swV r c x j a) j=tsq r c x j a:=by
    rw [←zt,tsq_succ r c _ hjr]
    have:tsq r c (swV r c x j a) (j+1) j=0:=by
     unfold tsq; rw [show r-(j+1)=0 by omega]; rfl
    rw [this]; unfold dg; grind
   refine ⟨_,_,[],by rw [List.append_nil],⟨by simp,hz,zf,bq_eye h.hr,zs,fun _ t ht => ?_,fun _ k k1 k2 => ?_,fun i h1 h2=>by omega⟩⟩
   ·rw [hd]
    have:=ht a gb ga
    grind
   ·rw [hd]
    have:=g2 k k1 k2
    grind
  ·rw [if_neg hlast]
   have E:=dn_err hz zf (fun i k hi hk=>csq_W hB5 hi (zc2 k hk)) hjc hjr zu
   rw [if_pos E.ok]
   have dt:=fun k m (hk:k<c) (hm:m≤j)=>dn_tsq hjr E hBB hk hm (zc2 k hk)
   have yu:=dnX_up hz hjc hjr zu
   have yc:∀k,k<c→csq r c (dnX r c j (swV r c x j a)) k≤B*(1+10000*uu*((j+1:Nat):Rat)):=fun k hk=>by
    have q:=(dt k 0 hk (Nat.zero_le _)).2
    rw [tsq_zero,tsq_zero] at q
    have q2:=zc k hk
    rw [nat_rat]
    generalize (j:Rat)=J at *
    clear hx hx2 zc zc2 dt g2
    grind
   obtain ⟨pl',y,ms2,d1,P⟩:=pv_err b1 b2 n (j+1) (dnX r c j (swV r c x j a)) (swL pl j a) (ms++[dnM r c j (swV r c x j a)]) (by omega) (by omega) (dnX_mx hz hjc hjr) E.fin yc yu
   have hq:=bq_step (k:=ms2.length) (by have:=P.len; omega) P.bq E.mp (show j≤r by omega)
   have hd:dg c y j=tsq r c (dnX r c j (swV r c x j a)) j j:=by
    rw [tsq_diag hjr yu]
    exact dg_same (P.same j (by omega))
   have q0:=dt j j hjc (Nat.le_refl _)
   rw [zt] at q0
   refine ⟨pl',y,dnM r c j (swV r c x j a)::ms2,by rw [d1,List.append_assoc]; rfl,⟨by have:=P.len; simp; omega,P.mx,P.fin,hq.1,fun i hi => ?_,fun _ t ht => ?_,fun _ k k1 k2 => ?_,fun i h1 h2 => ?_⟩⟩
   ·rw [P.same i (by omega),dnX_same hjc hi,zs i hi]
   ·rw [hd]
    have:=ht a gb ga
    have:=q0.2
    grind
   ·rw [hd]
    have:=g2 k k1 k2
    have:=q0.1
    grind
   ·by_cases hij:i=j
    ·subst hij
     have hup:=P.up (by omega) (dg c y i+17000*uu*B) (fun k k1 k2=>by
      have a1:=tsq_succ r c (dnX r c i (swV r c x i a)) (k:=k) hjr
      have a2:=rat_sq_nonneg (mvl c (dnX r c i (swV r c x i a)) i k)
      have a3:=(dt k i k2 (Nat.le_refl _)).2
      rw [sw_tsq k2] at a3
      have a4:=g2 (swN i a k) (sw_ge gb (by omega)) (swN_lt hjc ga k2)
      have a5:=q0.1
      rw [←hd] at a5
      clear hx hx2 zc zc2 dt g2 P d1 hq E yc
      grind)
     grind
    ·exact P.fall i (by omega) (by omega)
def stepI (r0 c i:Nat) (m:List (List Int)):List (List Int):=if ez (er m i) c=0 then m else m.set i (lessR (er m i) (ez (er m r0) c) (er m r0) (ez (er m i) c))
def elimI (r0 c:Nat):Nat→Nat→List (List Int)→List (List Int)
 | 0,_,m=>m
 | n+1,i,m=>elimI r0 c n (i+1) (stepI r0 c i m)
theorem er_set (m:List (List Int)) (i:Nat) (l:List Int) (q:Nat):er (m.set i l) q=if i=q∧i<m.length then l else er m q:=by
 unfold er
 rw [List.getD_eq_getElem?_getD,List.getD_eq_getElem?_getD,List.getElem?_set]
 by_cases h:i=q
 ·subst h
  by_cases h2:i<m.length
  ·simp [h2]
  ·simp [h2,List.getElem?_eq_none (show m.length≤i by omega)]
 ·simp [h]
theorem stepI_len (r0 c i:Nat) (m:List (List Int)):(stepI r0 c i m).length=m.length:=by unfold stepI; split<;>simp
theorem elimI_len (r0 c:Nat):∀(n i:Nat) (m:List (List Int)),(elimI r0 c n i m).length=m.length
 | 0,_,_=>rfl
 | n+1,i,m=>by unfold elimI; rw [elimI_len r0 c n,stepI_len]
theorem stepI_other {r0 c i:Nat} {m:List (List Int)} {q:Nat} (h:q≠i):er (stepI r0 c i m) q=er m q:=by
 unfold stepI; split
 ·rfl
 ·rw [er_set,if_neg (fun hh=>h hh.1.symm)]
theorem stepI_at {r0 c i:Nat} {m:List (List Int)} (hi:i<m.length):er (stepI r0 c i m) i=if ez (er m i) c=0 then er m i else lessR (er m i) (ez (er m r0) c) (er m r0) (ez (er m i) c):=by
 unfold stepI; split
 ·rfl
 ·rw [er_set,if_pos ⟨rfl,hi⟩]
theorem elimI_low {r0 c:Nat}:∀(n:Nat) {i:Nat} {m:List (List Int)} {q:Nat},q<i→er (elimI r0 c n i m) q=er m q
 | 0,_,_,_,_=>rfl
 | n+1,i,m,q,h=>by unfold elimI; rw [elimI_low n (by omega),stepI_other (by omega)]
theorem elimI_at {r0 c:Nat}:∀(n:Nat) {i:Nat} {m:List (List Int)} {q:Nat},r0<i→i+n=m.length→i≤q→q<m.length→er (elimI r0 c n i m) q=if ez (er m q) c=0 then er m q else lessR (er m q) (ez (er m r0) c) (er m r0) (ez (er m q) c)
 | 0,i,m,q,_,h1,h2,h3=>by omega
 | n+1,i,m,q,h0,h1,h2,h3=>by
  unfold elimI
  by_cases hq:q=i
  ·subst hq
   rw [elimI_low n (by omega),stepI_at h3]
  ·rw [elimI_at n (by omega) (by rw [stepI_len]; omega) (by omega) (by rw [stepI_len]; exact h3),stepI_other hq,stepI_other (show r0≠i by omega)]
structure ZM (w K:Nat) (m:List (List Int)):Prop where
 len:m.length≤6
 w:∀i,i<m.length→(er m i).length=w
 b:∀i,ZB K (er m i)
theorem elim_loop {x0 x4 x5 x6:PV} {r0 c w K:Nat} (hK:K≤900000000) (hw:w≤6) (hc:c<w):∀(n:Nat) {i:Nat} {m:List (List Int)},r0<i→i+n=m.length→m.length≤6→(∀q,q<m.length→(er m q).length=w)→(∀q,i≤q→ZB K (er m q))→ZB K (er m r0) →
  rounds (fun vs=>lo115_2.dv (x0::Vi r0::Vi c::x4::x5::x6::vs)) [Vi i,Zm m]=some (.y (.ext 2) [Zm (elimI r0 c n i m)]):=by
 intro n
 induction n with
 | zero =>
  intro i m h0 h1 h2 h3 h4 h5
  have:i=m.length:=by omega
  subst this
  refine rounds_exit ?_ (by simp)
  simp [lo115_2,TT.dv,elimI]
 | succ n ih =>
  intro i m h0 h1 h2 h3 h4 h5
  have him:i<m.length:=by omega
  have hrm:r0<m.length:=by omega
  have hci:c<(er m i).length:=by rw [h3 i him]; exact hc
  have hcr:c<(er m r0).length:=by rw [h3 r0 hrm]; exact hc
  refine Eq.trans (rounds_cont ?_) (ih (i:=i+1) (m:=stepI r0 c i m) (by omega) (by rw [stepI_len]; omega) (by rw [stepI_len]; exact h2) (fun q hq => ?_) (fun q hq=>by rw [stepI_other (by omega)]; exact h4 q (by omega)) (by rw [stepI_other (by omega)]; exact h5))
  ·have g1:=get_Zm him
   have g2:=get_Zm hrm
   have g3:=get_Zr hci
   have g4:=get_Zr hcr
   have z:=zero3_ok (ez (er m i) c)
   have e1:(B.add .i64).den (Vi i) (Vi 1)=Vi (i+1):=add_i (by omega) (by omega)
   by_cases hz:ez (er m i) c=0
   ·rw [decide_eq_true hz] at z
    have hs:stepI r0 c i m=m:=by unfold stepI; rw [if_pos hz]
    rw [hs]
    simp [lo115_2,TT.dv,KS.dv,him,hci,g1,g3,f0_Zp,f1_Zp,z,e1]
   ·rw [decide_eq_false hz] at z
    have hs:stepI r0 c i m=m.set i (lessR (er m i) (ez (er m r0) c) (er m r0) (ez (er m i) c)):=by unfold stepI; rw [if_neg hz]
    rw [hs]
    have ls:=less_row_ok hK (show (er m i).length≤100 by rw [h3 i him]; omega) (by rw [h3 i him,h3 r0 hrm]; exact Nat.le_refl _) (h4 i (Nat.le_refl _)) h5 (h5 c) (h4 i (Nat.le_refl _) c)
    have st:=set_Zm m i (lessR (er m i) (ez (er m r0) c) (er m r0) (ez (er m i) c))
    generalize lessR (er m i) (ez (er m r0) c) (er m r0) (ez (er m i) c)=nw at *
    simp [lo115_2,TT.dv,KS.dv,him,hrm,hci,hcr,g1,g2,g3,g4,f0_Zp,f1_Zp,z,e1,ls,st]
  ·rw [stepI_len] at hq
   by_cases hqi:q=i
   ·subst hqi
    rw [stepI_at hq]
    split
    ·exact h3 q hq
    ·rw [lessR_len]; exact h3 q hq
   ·rw [stepI_other hqi]; exact h3 q hq
def swZ (m:List (List Int)) (a b:Nat):List (List Int):=(m.set a (er m b)).set b (er m a)
theorem swZ_len (m:List (List Int)) (a b:Nat):(swZ m a b).length=m.length:=by simp [swZ]
theorem er_swZ {m:List (List Int)} {a b q:Nat} (ha:a<m.length) (hb:b<m.length):er (swZ m a b) q=er m (swN a b q):=by
 unfold swZ swN
 rw [er_set,er_set,List.length_set]
 by_cases h1:b=q
 ·subst h1; simp [hb]
 ·have h1':¬q=b:=fun h=>h1 h.symm
  by_cases h2:a=q
  ·subst h2; simp [h1,h1',ha]
  ·have h2':¬q=a:=fun h=>h2 h.symm
   simp [h1,h1',h2,h2']
def rankI:Nat→Nat→Nat→List (List Int)→Nat
 | 0,r0,_,_=>r0
 | n+1,r0,c,m=>if pivI m c (m.length-r0) r0<0 then rankI n r0 (c+1) m
  else rankI n (r0+1) (c+1) (elimI r0 c (m.length-(r0+1)) (r0+1) (swZ m r0 (pivI m c (m.length-r0) r0).toNat))
theorem pivI_none {m:List (List Int)} {c:Nat}:∀(n:Nat) {i:Nat},pivI m c n i<0→∀q,i≤q→q<i+n→ez (er m q) c=0
 | 0,i,_,q,h1,h2=>by omega
 | n+1,i,h,q,h1,h2=>by
  unfold pivI at h
  by_cases h0:ez (er m i) c=0
  ·rw [if_pos h0] at h
   by_cases hq:q=i
   ·subst hq; exact h0
   ·exact pivI_none n h q (by omega) (by omega)
  ·rw [if_neg h0] at h; omega
theorem pivI_some {m:List (List Int)} {c:Nat}:∀(n:Nat) {i:Nat},¬pivI m c n i<0→∃p:Nat,pivI m c n i=p∧i≤p∧p<i+n∧ez (er m p) c≠0
 | 0,i,h=>absurd (show pivI m c 0 i<0 by unfold pivI; omega) h
 | n+1,i,h=>by
  unfold pivI at h ⊢
  by_cases h0:ez (er m i) c=0
  ·rw [if_pos h0] at h ⊢
   obtain ⟨p,a,b,d,e⟩:=pivI_some n h
   exact ⟨p,a,by omega,by omega,e⟩
  ·rw [if_neg h0]
   exact ⟨i,rfl,Nat.le_refl _,by omega,h0⟩
theorem zm_step {w K r0 c p:Nat} {m:List (List Int)} (h:ZM w K m) (hr:r0<m.length) (hp:p<m.length):ZM w (2*K+1) (elimI r0 c (m.length-(r0+1)) (r0+1) (swZ m r0 p)):=by
 have hl:=swZ_len m r0 p
 have hs:∀q,q<m.length→(er (swZ m r0 p) q).length=w:=fun q hq=>by rw [er_swZ hr hp]; exact h.w _ (swN_lt hr hp hq)
 have hb:∀q,ZB K (er (swZ m r0 p) q):=fun q=>by rw [er_swZ hr hp]; exact h.b _
 refine ⟨by rw [elimI_len,hl]; exact h.len,fun i hi => ?_,fun i => ?_⟩
 ·rw [elimI_len,hl] at hi
  by_cases hlo:i<r0+1
  ·rw [elimI_low _ hlo]; exact hs i hi
  ·rw [elimI_at _ (by omega) (by omega) (by omega) (by omega)]
   split
   ·exact hs i hi
   ·rw [lessR_len]; exact hs i hi
 ·by_cases hlo:i<r0+1
  ·rw [elimI_low _ hlo]; intro k; have:=hb i k; omega
  ·by_cases hi:i<m.length
   ·rw [elimI_at _ (by omega) (by omega) (by omega) (by omega)]
    split
    ·intro k; have:=hb i k; omega
    ·exact lessR_bd (hb i) (hb r0) (hb r0 c) (hb i c)
   ·intro k
    have:er (elimI r0 c (m.length-(r0+1)) (r0+1) (swZ m r0 p)) i=[]:=by
     unfold er
     rw [List.getD_eq_getElem?_getD,List.getElem?_eq_none (by rw [elimI_len,hl]; omega)]; rfl
    rw [this]
    show bl 0≤_
    rw [bl_zero]; omega
theorem rank_loop {x0:List (List Int)} {w:Nat} (hx0:(er x0 0).length=w) (hw:w≤6):∀(n:Nat) {r0 c K:Nat} {m:List (List Int)},c+n=w→ZM w K m→(K+1)*2^n≤900000000→r0≤m.length→r0≤c →
  rounds (fun vs=>lo115_1.dv (Zm x0::vs)) [Vi r0,Vi c,Zm m]=some (.y (.ext 0) [Vi (rankI n r0 c m)]):=by
 have wd:=width_ok (m:=x0)
 rw [hx0] at wd
 intro n
 induction n with
 | zero =>
  intro r0 c K m h1 h2 h3 h4 h5
  refine rounds_exit ?_ (by simp)
  simp [lo115_1,TT.dv,wd,show ¬c<w by omega,rankI]
 | succ n ih =>
  intro r0 c K m h1 h2 h3 h4 h5
  have hl:=h2.len
  have hcw:c<w:=by omega
  have pv:=pivot3_ok (m:=m) (c:=c) (r0:=r0) (by omega) h4 (fun i hi=>by rw [h2.w i hi]; exact hcw)
  have e1:(B.add .i64).den (Vi c) (Vi 1)=Vi ((c+1:Nat):Int):=by rw [add_i (by omega) (by omega)]; rfl
  have e2:(B.add .i64).den (Vi r0) (Vi 1)=Vi ((r0+1:Nat):Int):=by rw [add_i (by omega) (by omega)]; rfl
  rw [Nat.pow_succ] at h3
  unfold rankI
  by_cases hp:pivI m c (m.length-r0) r0<0
  ·rw [if_pos hp]
   refine Eq.trans (rounds_cont ?_) (ih (r0:=r0) (c:=c+1) (K:=K) (by omega) h2 (by rw [←Nat.mul_assoc] at h3; omega) h4 (by omega))
   generalize pivI m c (m.length-r0) r0=p at *
   generalize ((c+1:Nat):Int)=cc at *
   simp [lo115_1,TT.dv,KS.dv,wd,hcw,pv,hp,e1]
  ·rw [if_neg hp]
   obtain ⟨p,a,b,d,e⟩:=pivI_some _ hp
   rw [a] at pv ⊢
   have hpm:p<m.length:=by omega
   have hrm:r0<m.length:=by omega
   have zs:=zm_step (c:=c) h2 hrm hpm
   rw [show ((p:Int)).toNat=p from rfl]
   refine Eq.trans (rounds_cont ?_) (ih (r0:=r0+1) (c:=c+1) (K:=2*K+1) (by omega) zs (by rw [show 2*K+1+1=(K+1)*2 by omega,Nat.mul_assoc,Nat.mul_comm 2]; exact h3) (by rw [elimI_len,swZ_len]; omega) (by omega))
   have hKK:K≤900000000:=by
    have:1≤2^n*2:=by have:=Nat.pow_pos (a:=2) (n:=n) (by omega); omega
    have:=Nat.mul_le_mul_left (K+1) this
    omega
   have el:=fun x0 x4 x5 x6=>elim_loop (x0:=x0) (x4:=x4) (x5:=x5) (x6:=x6) (r0:=r0) (c:=c) hKK hw hcw (m.length-(r0+1)) (i:=r0+1) (m:=swZ m r0 p) (by omega) (by rw [swZ_len]; omega) (by rw [swZ_len]; exact hl) (fun q hq=>by rw [swZ_len] at hq; rw [er_swZ hrm hpm]; exact h2.w _ (swN_lt hrm hpm hq)) (fun q _=>by rw [er_swZ hrm hpm]; exact h2.b _) (by rw [er_swZ hrm hpm]; exact h2.b _)
   have g1:=get_Zm hrm
   have g2:=get_Zm hpm
   have s1:=set_Zm m r0 (er m p)
   have s2:=set_Zm (m.set r0 (er m p)) p (er m r0)
   rw [show (m.set r0 (er m p)).set p (er m r0)=swZ m r0 p from rfl] at s2
   have nn:¬(p:Int)<0:=by omega
   generalize elimI r0 c (m.length-(r0+1)) (r0+1) (swZ m r0 p)=y at *
   generalize ((r0+1:Nat):Int)=rr at *
   generalize ((c+1:Nat):Int)=cc at *
   simp [lo115_1,TT.dv,KS.dv,wd,hcw,pv,nn,e1,e2,g1,g2,s1,s2,hpm,hrm,el,show (m.length:Int)≤5864062014805 by omega]
theorem rankI_rk:∀(n:Nat) {r0 c w K:Nat} {m:List (List Int)},c+n=w→ZM w K m→r0≤m.length→∃ρ,rankI n r0 c m=r0+ρ∧RkW r0 m.length c w ρ (fun i k=>(ez (er m i) k:Rat))
 | 0,r0,c,w,K,m,h1,h2,h3=>⟨0,rfl,rk_none (.inr (by omega))⟩
 | n+1,r0,c,w,K,m,h1,h2,h3=>by
  unfold rankI
  by_cases hp:pivI m c (m.length-r0) r0<0
  ·rw [if_pos hp]
   obtain ⟨ρ,a,b⟩:=rankI_rk n (r0:=r0) (c:=c+1) (by omega) h2 h3
   refine ⟨ρ,a,rk_col (fun i i1 i2 => ?_) b⟩
   show ((ez (er m i) c:Int):Rat)=0
   rw [pivI_none _ hp i i1 (by omega)]; rfl
  ·rw [if_neg hp]
   obtain ⟨p,a,b,d,e⟩:=pivI_some _ hp
   rw [a,show ((p:Int)).toNat=p from rfl]
   have hpm:p<m.length:=by omega
   have hrm:r0<m.length:=by omega
   have zs:=zm_step (c:=c) h2 hrm hpm
   have hlen:(elimI r0 c (m.length-(r0+1)) (r0+1) (swZ m r0 p)).length=m.length:=by rw [elimI_len,swZ_len]
   obtain ⟨ρ,f,g⟩:=rankI_rk n (r0:=r0+1) (c:=c+1) (by omega) zs (by rw [hlen]; omega)
   rw [hlen] at g
   refine ⟨ρ+1,by rw [f]; omega,?_⟩
   refine rk_rows (σ:=swN r0 p) (fun i i1 i2=>⟨sw_ge b i1,swN_lt hrm hpm i2⟩) (fun i => ?_) ?_
   ·unfold swN
    by_cases h4:i=p
    ·subst h4
     rw [if_pos rfl]
     by_cases h5:r0=i
     ·rw [if_pos h5,h5]
     ·rw [if_neg h5,if_pos rfl]
    ·rw [if_neg h4]
     by_cases h5:i=r0
     ·rw [if_pos h5,if_pos rfl,h5]
     ·rw [if_neg h5,if_neg h4,if_neg h5]
   ·have hp0:swN r0 p r0=p:=sw_first
    refine rk_piv (E':=fun i k=>((ez (er (elimI r0 c (m.length-(r0+1)) (r0+1) (swZ m r0 p)) i) k:Int):Rat)) (t:=fun i=>if ez (er m (swN r0 p i)) c=0 then 1 else ((ez (er m p) c:Int):Rat)) hrm (by omega) ?_ (fun i => ?_) (fun i k i1 i2 k1 k2 => ?_) g
    ·show ((ez (er m (swN r0 p r0)) c:Int):Rat)≠0
     rw [hp0]
     exact fun h=>e (Rat.intCast_eq_zero_iff.1 h)
    ·show (if ez (er m (swN r0 p i)) c=0 then (1:Rat) else ((ez (er m p) c:Int):Rat))≠0
     split
     ·decide
     ·exact fun h=>e (Rat.intCast_eq_zero_iff.1 h)
    ·show ((ez (er (elimI r0 c (m.length-(r0+1)) (r0+1) (swZ m r0 p)) i) k:Int):Rat)=(if ez (er m (swN r0 p i)) c=0 then (1:Rat) else ((ez (er m p) c:Int):Rat))*(((ez (er m (swN r0 p i)) k:Int):Rat)-((ez (er m (swN r0 p i)) c:Int):Rat)*((ez (er m (swN r0 p r0)) k:Int):Rat)/((ez (er m (swN r0 p r0)) c:Int):Rat))
     rw [elimI_at _ (by omega) (by rw [swZ_len]; omega) (by omega) (by rw [swZ_len]; omega),er_swZ hrm hpm,er_swZ hrm hpm,hp0]
     have hpz:((ez (er m p) c:Int):Rat)≠0:=fun h=>e (Rat.intCast_eq_zero_iff.1 h)
     by_cases h0:ez (er m (swN r0 p i)) c=0
     ·rw [if_pos h0,if_pos h0,h0]
      have:((0:Int):Rat)=0:=rfl
      rw [this]; grind
     ·rw [if_neg h0,if_neg h0,ez_lessR (by rw [h2.w _ (swN_lt hrm hpm i2)]; exact k2),Rat.intCast_sub,Rat.intCast_mul,Rat.intCast_mul]
      grind
theorem rank3_ok {m:List (List Int)} {w K:Nat} (h:ZM w K m) (hw:w≤6) (h0:m=[]→w=0) (hK:(K+1)*2^w≤900000000):val 115 [Zm m]=some [Vi (rankI w 0 0 m)]:=by
 refine val_of tab115 ?_
 have hl:=h.len
 have e:(er m 0).length=w:=by
  cases m with
  | nil=>rw [h0 rfl]; rfl
  | cons a m=>exact h.w 0 (by simp)
 have lp:=rank_loop e hw w (r0:=0) (c:=0) (by omega) h hK (Nat.zero_le _) (Nat.le_refl _)
 rw [show ((0:Nat):Int)=0 from rfl] at lp
 simp [tr115,TT.dv,KS.dv,lp,show (m.length:Int)≤5864062014805 by omega]
def zv (b:Nat):Int:=shi (od (sx b)) (ev (sx b) (fPl b) - -1074)
theorem zv_eq (b:Nat):zv b=sx b*2^(fPl b - -1074).toNat:=by
 have h:=fPl_bd b
 unfold zv
 by_cases h0:sx b=0
 ·rw [h0,od_zero,zero_shi,Int.zero_mul]
 ·have h1:ev (sx b) (fPl b)=fPl b+tz (sx b).natAbs:=by unfold ev; rw [if_neg h0]
  rw [shi_nonneg (by omega)]
  exact can_at (by omega)
theorem zv_sv (b:Nat):((zv b:Int):Rat)*P2 (-1074)=sv b:=by
 rw [zv_eq]
 exact DV_at (sx b) (fPl_bd b).1
theorem zv_bl (b:Nat):bl (zv b).natAbs≤2200:=by
 rw [zv_eq]
 have h1:=bl_int_shl (sx b) (fPl b - -1074).toNat
 have h2:=bl_mag b
 have h3:=fPl_bd b
 omega
theorem zv_ok (b:Nat):val 106 [dS (sx b) (fPl b),dL (sx b) (fPl b),dE (sx b) (fPl b),Vi (-1074)]=some [bS (zv b),bL (zv b)]:=by
 have h1:=ev_bd (DB.word b)
 have h2:=bl_od (sx b)
 have h3:=bl_mag b
 have h4:=fPl_bd b
 have hSZ:SZ=2000000000:=rfl
 exact level_ok (m:=od (sx b)) (E:=ev (sx b) (fPl b)) (l := -1074) (by omega) (by omega) (by omega) (by omega) (by omega) (by omega)
def zrow (c:Nat) (x:List Nat) (i n:Nat):List Int:=(List.range n).map fun k=>zv (el x (ps i c k))
def zmat (c:Nat) (x:List Nat) (n:Nat):List (List Int):=(List.range n).map fun i=>zrow c x i c
theorem zrow_succ (c:Nat) (x:List Nat) (i n:Nat):zrow c x i n++[zv (el x (ps i c n))]=zrow c x i (n+1):=by
 unfold zrow; rw [List.range_succ,List.map_append]; rfl
theorem zmat_succ (c:Nat) (x:List Nat) (n:Nat):zmat c x n++[zrow c x n c]=zmat c x (n+1):=by
 unfold zmat; rw [List.range_succ,List.map_append]; rfl
theorem zmat_len (c:Nat) (x:List Nat) (n:Nat):(zmat c x n).length=n:=by simp [zmat]
theorem zrow_len (c:Nat) (x:List Nat) (i n:Nat):(zrow c x i n).length=n:=by simp [zrow]
theorem er_zmat {c:Nat} {x:List Nat} {n i:Nat} (hi:i<n):er (zmat c x n) i=zrow c x i c:=by
 unfold zmat
 rw [er,List.getD_eq_getElem?_getD,List.getElem?_map,List.getElem?_range hi]; rfl
theorem ez_zrow {c:Nat} {x:List Nat} {n i k:Nat} (hk:k<n):ez (zrow c x i n) k=zv (el x (ps i c k)):=by
 unfold zrow
 rw [ez,List.getD_eq_getElem?_getD,List.getElem?_map,List.getElem?_range hk]; rfl
theorem zmat_zm {r c:Nat} {x:List Nat} (hr:r≤6):ZM c 2200 (zmat c x r):=by
 refine ⟨by rw [zmat_len]; exact hr,fun i hi => ?_,fun i k => ?_⟩
 ·rw [zmat_len] at hi; rw [er_zmat hi,zrow_len]
 ·by_cases hi:i<r
  ·rw [er_zmat hi]
   by_cases hk:k<c
   ·rw [ez_zrow hk]; exact zv_bl _
   ·rw [ez_out (by rw [zrow_len]; omega)]
    show bl 0≤_
    rw [bl_zero]; omega
  ·have:er (zmat c x r) i=[]:=by
    unfold er
    rw [List.getD_eq_getElem?_getD,List.getElem?_eq_none (by rw [zmat_len]; omega)]; rfl
   rw [this]
   show bl 0≤_
   rw [bl_zero]; omega
theorem rank11_ok {r c:Nat} {x:List Nat} (h:Mx r c x) (hr0:r=0→c=0):val 181 [Vi r,Vi c,Vl x]=some [Vi (rankI c 0 0 (zmat c x r))]:=by
 refine val_of tab181 ?_
 have hr:=h.hr
 have hc:=h.hc
 have inner:∀{x4:PV} {i:Nat},i<r→∀(n:Nat) {k:Nat},k+n=c→rounds (fun vs=>lo181_2.dv (Vi r::Vi c::Vl x::Vi i::x4::vs)) [Vi k,Zr (zrow c x i k)]=some (.y (.ext 2) [Zr (zrow c x i c)]):=by
  intro x4 i hi n
  induction n with
  | zero =>
   intro k hk
   have:k=c:=by omega
   subst this
   refine rounds_exit ?_ (by simp)
   simp [lo181_2,TT.dv]
  | succ n ih =>
   intro k hk
   have hkc:k<c:=by omega
   refine Eq.trans (rounds_cont ?_) (ih (k:=k+1) (by omega))
   have a1:=at_ok h hi hkc
   have v1:=value_ok (h.w.el (ps i c k))
   have z1:=zv_ok (el x (ps i c k))
   have e1:(B.add .i64).den (Vi k) (Vi 1)=Vi (k+1):=add_i (by omega) (by omega)
   have p1:=app_Zr (zrow c x i k) (zv (el x (ps i c k)))
   rw [zrow_succ] at p1
   have l1:((zrow c x i (k+1)).length:Int)≤4398046511104:=by rw [zrow_len]; omega
   generalize zrow c x i (k+1)=w2 at *
   generalize zrow c x i k=w1 at *
   generalize zv (el x (ps i c k))=z at *
   generalize dS (sx (el x (ps i c k))) (fPl (el x (ps i c k)))=g1 at *
   generalize dL (sx (el x (ps i c k))) (fPl (el x (ps i c k)))=g2 at *
   generalize dE (sx (el x (ps i c k))) (fPl (el x (ps i c k)))=g3 at *
   simp [lo181_2,TT.dv,hkc,a1,v1,z1,e1,p1,l1]
 have outer:∀(n:Nat) {i:Nat},i+n=r→rounds (fun vs=>lo181_1.dv (Vi r::Vi c::Vl x::vs)) [Vi i,Zm (zmat c x i)]=some (.y (.ext 0) [Zm (zmat c x r)]):=by
  intro n
  induction n with
  | zero =>
   intro i hi
   have:i=r:=by omega
   subst this
   refine rounds_exit ?_ (by simp)
   simp [lo181_1,TT.dv]
  | succ n ih =>
   intro i hi
   have hir:i<r:=by omega
   refine Eq.trans (rounds_cont ?_) (ih (i:=i+1) (by omega))
   have lp:=fun x4=>inner (x4:=x4) hir c (k:=0) (by omega)
   simp only [show ((0:Nat):Int)=0 from rfl,show Zr (zrow c x i 0)=Vl [] from rfl] at lp
   have e1:(B.add .i64).den (Vi i) (Vi 1)=Vi (i+1):=add_i (by omega) (by omega)
   have p1:=app_Zm (zmat c x i) (zrow c x i c)
   rw [zmat_succ] at p1
   have l1:((zmat c x (i+1)).length:Int)≤5864062014805:=by rw [zmat_len]; omega
   generalize zmat c x (i+1)=w2 at *
   generalize zmat c x i=w1 at *
   generalize zrow c x i c=w3 at *
   simp [lo181_1,TT.dv,KS.dv,hir,lp,e1,p1,l1]
 have lp:=outer r (i:=0) (by omega)
 rw [show ((0:Nat):Int)=0 from rfl,show Zm (zmat c x 0)=Vl [] from rfl] at lp
 have rk:=rank3_ok (zmat_zm (x:=x) hr) hc (fun h0=>by
  have:=congrArg List.length h0
  rw [zmat_len] at this
  exact hr0 this) (by
  have:2^c≤2^6:=Nat.pow_le_pow_right (by omega) hc
  omega)
 simp [tr181,TT.dv,KS.dv,lp,rk]
theorem InnR.scale {r0 r c0 c m:Nat} {E E':Nat→Nat→Rat} {s:Rat} (h:InnR r0 r c0 c m E) (he:∀i k,r0≤i→i<r→c0≤k→k<c→E' i k=s*E i k):InnR r0 r c0 c m E':=by
 obtain ⟨P,Q,h⟩:=h
 refine ⟨fun i l=>s*P i l,Q,fun i k h1 h2 h3 h4 => ?_⟩
 rw [he i k h1 h2 h3 h4,h i k h1 h2 h3 h4,←sumP_mul]
 exact sumP_congr fun l _=>by grind
theorem rank11_rk {r c:Nat} {x:List Nat} (h:Mx r c x):RkW 0 r 0 c (rankI c 0 0 (zmat c x r)) (mvl c x):=by
 obtain ⟨ρ,a,b⟩:=rankI_rk c (r0:=0) (c:=0) (w:=c) (by omega) (zmat_zm (x:=x) h.hr) (Nat.zero_le _)
 rw [zmat_len] at b
 rw [a,Nat.zero_add]
 have e:∀i k,0≤i→i<r→0≤k→k<c→mvl c x i k=P2 (-1074)*((ez (er (zmat c x r) i) k:Int):Rat):=fun i k _ hi _ hk=>by
  rw [er_zmat hi,ez_zrow hk,Rat.mul_comm,zv_sv]; rfl
 refine ⟨b.inn.scale e,fun n hn=>b.least n (hn.scale (s:=P2 1074) fun i k h1 h2 h3 h4 => ?_)⟩
 rw [e i k h1 h2 h3 h4,←Rat.mul_assoc,←P2_add,show (1074:Int) + -1074=0 by omega,P2_zero,Rat.one_mul]
theorem fn_nm {r:Nat} {X:Nat→Nat→Rat} {b:Rat}:FN r 1 X b↔Nm r (fun i=>X i 0) b:=by
 have e:sum2 r 1 (fun i k=>X i k*X i k)=sumP (fun i=>X i 0*X i 0) r:=sumP_congr fun i _=>by
  show (0:Rat)+X i 0*X i 0=_
  grind
 constructor
 ·intro h
  refine ⟨h.1,?_⟩
  have:=h.sq
  rw [e] at this
  exact this
 ·intro h
  refine FN.of h.1 ?_
  rw [e]; exact h.2
structure OpE (r:Nat) (f g:(Nat→Rat)→Nat→Rat) (κ:Rat):Prop where
 fadd:∀a b:Nat→Rat,f (fun i=>a i+b i)=fun i=>f a i+f b i
 fsm:∀(s:Rat) (a:Nat→Rat),f (fun i=>s*a i)=fun i=>s*f a i
 gadd:∀a b:Nat→Rat,g (fun i=>a i+b i)=fun i=>g a i+g b i
 gsm:∀(s:Rat) (a:Nat→Rat),g (fun i=>s*a i)=fun i=>s*g a i
 fn:∀{v:Nat→Rat} {b:Rat},Nm r v b→Nm r (f v) ((1+κ)*b)
 gn:∀{v:Nat→Rat} {b:Rat},Nm r v b→Nm r (g v) ((1+κ)*b)
 gf:∀{v:Nat→Rat} {b:Rat},Nm r v b→Nm r (fun i=>g (f v) i-v i) (κ*b)
theorem ope_id (r:Nat):OpE r (fun v=>v) (fun v=>v) 0 :=
 ⟨fun _ _=>rfl,fun _ _=>rfl,fun _ _=>rfl,fun _ _=>rfl,fun h=>h.mono (by grind),fun h=>h.mono (by grind),fun h=>by
  rename_i v b
  refine ⟨by grind,?_⟩
  have e:sumP (fun i=>(v i-v i)*(v i-v i)) r=0:=by
   rw [sumP_congr (q:=fun _=>0) fun i _=>by grind,sumP_zero]
  show sumP (fun i=>(v i-v i)*(v i-v i)) r≤_
  rw [e]; grind⟩
theorem hv_add {r:Nat} {t:Rat} {w:Nat→Rat} (a b:Nat→Rat):hv r t w (fun i=>a i+b i)=fun i=>hv r t w a i+hv r t w b i:=by
 funext i
 unfold hv
 have e:sumP (fun l=>w l*(a l+b l)) r=sumP (fun l=>w l*a l) r+sumP (fun l=>w l*b l) r:=by
  rw [←sumP_add]; exact sumP_congr fun l _=>by grind
 rw [e]; grind
theorem hv_sm {r:Nat} {t:Rat} {w:Nat→Rat} (s:Rat) (a:Nat→Rat):hv r t w (fun i=>s*a i)=fun i=>s*hv r t w a i:=by
 funext i
 unfold hv
 have e:sumP (fun l=>w l*(s*a l)) r=s*sumP (fun l=>w l*a l) r:=by
  rw [←sumP_mul]; exact sumP_congr fun l _=>by grind
 rw [e]; grind
theorem hv_nm {r j:Nat} {t:Rat} {w:Nat→Rat} (M:MirW r j t w) {v:Nat→Rat} {b:Rat} (h:Nm r v b):Nm r (hv r t w v) ((1+690*uu)*b):=by
 have h1:FN r 1 (fun i _=>v i) b:=fn_nm.2 h
 exact fn_nm.1 (FN.mir M h1)
theorem hv_nm2 {r j:Nat} {t:Rat} {w:Nat→Rat} (M:MirW r j t w) {v:Nat→Rat} {b:Rat} (h:Nm r v b):Nm r (fun i=>hv r t w (hv r t w v) i-v i) (690*uu*b):=by
 have h1:FN r 1 (fun i _=>v i) b:=fn_nm.2 h
 exact fn_nm.1 (FN.mir2 M h1)
theorem nm_add {r:Nat} {x y:Nat→Rat} {a b:Rat} (hx:Nm r x a) (hy:Nm r y b):Nm r (fun i=>x i+y i) (a+b):=NS.add (pf_sum r) hx hy
theorem nm_sub {r:Nat} {x y:Nat→Rat} {a b:Rat} (hx:Nm r x a) (hy:Nm r y b):Nm r (fun i=>x i-y i) (a+b):=NS.sub (pf_sum r) hx hy
theorem nm_sm {r:Nat} {x:Nat→Rat} {a:Rat} (k:Rat) {k':Rat} (hk:Ab k k') (hx:Nm r x a):Nm r (fun i=>k*x i) (k'*a):=NS.smul (pf_sum r) k hk hx
theorem OpE.gsub {r:Nat} {f g:(Nat→Rat)→Nat→Rat} {κ:Rat} (O:OpE r f g κ) (a b:Nat→Rat):g (fun i=>a i-b i)=fun i=>g a i-g b i:=by
 have e:(fun i=>a i-b i)=fun i=>a i+(-1)*b i:=by funext i; grind
 have h1:=O.gadd a (fun i=>(-1)*b i)
 have h2:=O.gsm (-1) b
 rw [h2] at h1
 rw [e,h1]
 funext i; grind
theorem OpE.fsum {r:Nat} {f g:(Nat→Rat)→Nat→Rat} {κ:Rat} (O:OpE r f g κ) (a:Nat→Rat) (V:Nat→Nat→Rat):∀n,f (fun i=>sumP (fun l=>a l*V l i) n)=fun i=>sumP (fun l=>a l*f (V l) i) n
 | 0=>by
  have h:=O.fsm 0 (fun _=>0)
  have e:(fun i:Nat=>(0:Rat)*(fun _=>(0:Rat)) i)=fun _=>0:=by funext i; grind
  rw [e] at h
  show f (fun _=>0)=fun _=>0
  rw [h]; funext i; grind
 | n+1=>by
  show f (fun i=>sumP (fun l=>a l*V l i) n+a n*V n i)=fun i=>sumP (fun l=>a l*f (V l) i) n+a n*f (V n) i
  rw [O.fadd,O.fsum a V n,O.fsm]
theorem OpE.gsum {r:Nat} {f g:(Nat→Rat)→Nat→Rat} {κ:Rat} (O:OpE r f g κ) (a:Nat→Rat) (V:Nat→Nat→Rat):∀n,g (fun i=>sumP (fun l=>a l*V l i) n)=fun i=>sumP (fun l=>a l*g (V l) i) n
 | 0=>by
  have h:=O.gsm 0 (fun _=>0)
  have e:(fun i:Nat=>(0:Rat)*(fun _=>(0:Rat)) i)=fun _=>0:=by funext i; grind
  rw [e] at h
  show g (fun _=>0)=fun _=>0
  rw [h]; funext i; grind
 | n+1=>by
  show g (fun i=>sumP (fun l=>a l*V l i) n+a n*V n i)=fun i=>sumP (fun l=>a l*g (V l) i) n+a n*g (V n) i
  rw [O.gadd,O.gsum a V n,O.gsm]
theorem ope_step {r j:Nat} {f g:(Nat→Rat)→Nat→Rat} {κ t:Rat} {w:Nat→Rat} (O:OpE r f g κ) (k0:0≤κ) (k1:κ≤1/1000000) (M:MirW r j t w):OpE r (fun v=>hv r t w (f v)) (fun v=>g (hv r t w v)) (κ+700*uu):=by
 have u0:=uu_pos
 have hu:uu≤1/1000000000:=by decide +kernel
 have ku:=Rat.mul_le_mul_of_nonneg_left k1 u0
 have ku0:=Rat.mul_nonneg u0 k0
 refine ⟨fun a b => ?_,fun s a => ?_,fun a b => ?_,fun s a => ?_,fun h => ?_,fun h => ?_,fun h => ?_⟩
 ·show hv r t w (f _)=_; rw [O.fadd,hv_add]
 ·show hv r t w (f _)=_; rw [O.fsm,hv_sm]
 ·show g (hv r t w _)=_; rw [hv_add,O.gadd]
 ·show g (hv r t w _)=_; rw [hv_sm,O.gsm]
 ·rename_i v b
  refine (hv_nm M (O.fn h)).mono ?_
  have hb:=h.1
  have e:(1+690*uu)*((1+κ)*b)=((1+690*uu)*(1+κ))*b:=by grind
  rw [e]
  exact Rat.mul_le_mul_of_nonneg_right (by grind) hb
 ·rename_i v b
  refine (O.gn (hv_nm M h)).mono ?_
  have hb:=h.1
  have e:(1+κ)*((1+690*uu)*b)=((1+690*uu)*(1+κ))*b:=by grind
  rw [e]
  exact Rat.mul_le_mul_of_nonneg_right (by grind) hb
 ·rename_i v b
  have hb:=h.1
  have h1:=O.gn (hv_nm2 M (O.fn h))
  have h2:=nm_add h1 (O.gf h)
  have e:∀i,g (fun i=>hv r t w (hv r t w (f v)) i-f v i) i+(g (f v) i-v i)=g (hv r t w (hv r t w (f v))) i-v i:=fun i=>by
   rw [O.gsub]; grind
  refine (h2.mono ?_).congr fun i _=>e i
  have e2:(1+κ)*(690*uu*((1+κ)*b))+κ*b=((1+κ)*(690*uu)*(1+κ)+κ)*b:=by grind
  rw [e2]
  refine Rat.mul_le_mul_of_nonneg_right ?_ hb
  have kk:=Rat.mul_le_mul_of_nonneg_left ku k0
  have kk0:=Rat.mul_nonneg k0 ku0
  grind
theorem dn_top {r c j:Nat} {x:List Nat} (hjr:j<r) (h:Mx r c x) (hj:j<c) (hu:UpTo r c j x) (E:DnE r c j x):dg c (dnX r c j x) j≤1001/1000*tsq r c x j j+1/1000000*(uu*uu*(uu*uu)):=by
 have u0:=uu_pos
 have M:=E.mp.mw
 have T0:=tsq_nonneg r c x j j
 have hH:sumP (fun a=>hmm r (sv (dnM r c j x).2.1) (wvec j (dnM r c j x).1) (mvl c x) (j+a) j*hmm r (sv (dnM r c j x).2.1) (wvec j (dnM r c j x).1) (mvl c x) (j+a) j) (r-j)≤(1+690*uu)*tsq r c x j j:=by
  have h1:=hv_le M (fun i=>if i<j then 0 else mvl c x i j)
  have e1:sumP (fun i=>(if i<j then (0:Rat) else mvl c x i j)*(if i<j then (0:Rat) else mvl c x i j)) r=tsq r c x j j:=by
   rw [sum_from (j:=j) (by omega) (fun i hi=>by rw [if_pos hi]; grind)]
   exact sumP_congr fun a _=>by rw [if_neg (by omega)]
  rw [e1] at h1
  have e2:∀a,hv r (sv (dnM r c j x).2.1) (wvec j (dnM r c j x).1) (fun i=>if i<j then 0 else mvl c x i j) (j+a)=hmm r (sv (dnM r c j x).2.1) (wvec j (dnM r c j x).1) (mvl c x) (j+a) j:=fun a=>by
   unfold hmm hv
   have e3:sumP (fun l=>wvec j (dnM r c j x).1 l*(if l<j then (0:Rat) else mvl c x l j)) r=sumP (fun l=>wvec j (dnM r c j x).1 l*mvl c x l j) r:=sumP_congr fun l _=>by
    by_cases hl:l<j
    ·rw [if_pos hl]; unfold wvec; rw [if_pos hl]; grind
    ·rw [if_neg hl]
   rw [e3]
   show (if j+a<j then (0:Rat) else mvl c x (j+a) j)-_=mvl c x (j+a) j-_
   rw [if_neg (by omega)]
  refine Rat.le_trans ?_ h1
  have h2:=sumP_split (fun i=>hv r (sv (dnM r c j x).2.1) (wvec j (dnM r c j x).1) (fun i=>if i<j then 0 else mvl c x i j) i*hv r (sv (dnM r c j x).2.1) (wvec j (dnM r c j x).1) (fun i=>if i<j then 0 else mvl c x i j) i) j (r-j)
  rw [show j+(r-j)=r by omega] at h2
  rw [h2]
  have h3:0≤sumP (fun i=>hv r (sv (dnM r c j x).2.1) (wvec j (dnM r c j x).1) (fun i=>if i<j then 0 else mvl c x i j) i*hv r (sv (dnM r c j x).2.1) (wvec j (dnM r c j x).1) (fun i=>if i<j then 0 else mvl c x i j) i) j:=sumP_nonneg fun i _=>rat_sq_nonneg _
  have h4:sumP (fun a=>hmm r (sv (dnM r c j x).2.1) (wvec j (dnM r c j x).1) (mvl c x) (j+a) j*hmm r (sv (dnM r c j x).2.1) (wvec j (dnM r c j x).1) (mvl c x) (j+a) j) (r-j)=sumP (fun i=>hv r (sv (dnM r c j x).2.1) (wvec j (dnM r c j x).1) (fun i=>if i<j then 0 else mvl c x i j) (j+i)*hv r (sv (dnM r c j x).2.1) (wvec j (dnM r c j x).1) (fun i=>if i<j then 0 else mvl c x i j) (j+i)) (r-j):=sumP_congr fun a _=>by rw [e2]
  rw [h4]; grind
 have hF:sumP (fun a=>(mvl c (dnX r c j x) (j+a) j-hmm r (sv (dnM r c j x).2.1) (wvec j (dnM r c j x).1) (mvl c x) (j+a) j)*(mvl c (dnX r c j x) (j+a) j-hmm r (sv (dnM r c j x).2.1) (wvec j (dnM r c j x).1) (mvl c x) (j+a) j)) (r-j)≤1/1000000000*(1/1000000000*(tsq r c x j j+1/1000000*(uu*uu*(uu*uu)))):=by
  have h2:=sumP_split (fun i=>(mvl c (dnX r c j x) i j-hmm r (sv (dnM r c j x).2.1) (wvec j (dnM r c j x).1) (mvl c x) i j)*(mvl c (dnX r c j x) i j-hmm r (sv (dnM r c j x).2.1) (wvec j (dnM r c j x).1) (mvl c x) i j)) j (r-j)
  rw [show j+(r-j)=r by omega] at h2
  have h3:0≤sumP (fun i=>(mvl c (dnX r c j x) i j-hmm r (sv (dnM r c j x).2.1) (wvec j (dnM r c j x).1) (mvl c x) i j)*(mvl c (dnX r c j x) i j-hmm r (sv (dnM r c j x).2.1) (wvec j (dnM r c j x).1) (mvl c x) i j)) j:=sumP_nonneg fun i _=>rat_sq_nonneg _
  have h4:=E.tail
  rw [h2] at h4
  rw [show sumP (fun a=>mvl c x (j+a) j*mvl c x (j+a) j) (r-j)=tsq r c x j j from rfl] at h4
  have a1:=Rat.mul_le_mul_of_nonneg_right (show 840000*uu*uu≤1/1000000000*(1/1000000000) by decide +kernel) T0
  have a2:250000*ee*ee≤1/1000000000*(1/1000000000*(1/1000000*(uu*uu*(uu*uu)))):=by decide +kernel
  generalize tsq r c x j j=T at *
  grind
 have hb:690*uu≤1/1000000:=by decide +kernel
 have q:=sq_near (x:=fun a=>hmm r (sv (dnM r c j x).2.1) (wvec j (dnM r c j x).1) (mvl c x) (j+a) j) (y:=fun a=>mvl c (dnX r c j x) (j+a) j) (t:=1/1000000000) (B:=(1+690*uu)*tsq r c x j j) (E:=tsq r c x j j+1/1000000*(uu*uu*(uu*uu))) (by decide +kernel) hH hF
 have e:sumP (fun i=>mvl c (dnX r c j x) (j+i) j*mvl c (dnX r c j x) (j+i) j) (r-j)=dg c (dnX r c j x) j:=tsq_diag hjr (dnX_up h hj hjr hu)
 rw [e] at q
 have q2:=q.2
 have bT:=Rat.mul_le_mul_of_nonneg_right hb T0
 have uq:0≤uu*uu*(uu*uu):=by decide +kernel
 clear q hF e
 generalize sumP (fun a=>hmm r (sv (dnM r c j x).2.1) (wvec j (dnM r c j x).1) (mvl c x) (j+a) j*hmm r (sv (dnM r c j x).2.1) (wvec j (dnM r c j x).1) (mvl c x) (j+a) j) (r-j)=s at *
 generalize tsq r c x j j=T at *
 generalize uu*uu*(uu*uu)=z at *
 grind
theorem inn_sw {r c n j a:Nat} {C:Nat→Nat→Rat} (hj:j<c) (ha:a<c):InnR 0 r 0 c n C↔InnR 0 r 0 c n (fun i k=>C i (swN j a k)):=by
 constructor
 ·rintro ⟨P,Q,h⟩
  exact ⟨P,fun l k=>Q l (swN j a k),fun i k h1 h2 h3 h4=>h i _ h1 h2 (Nat.zero_le _) (swN_lt hj ha h4)⟩
 ·rintro ⟨P,Q,h⟩
  refine ⟨P,fun l k=>Q l (swN j a k),fun i k h1 h2 h3 h4 => ?_⟩
  have:=h i (swN j a k) h1 h2 (Nat.zero_le _) (swN_lt hj ha h4)
  simp only [swN_swN] at this
  exact this
def Ops (r c j:Nat) (A:Nat→Nat→Rat) (x:List Nat) (b:Rat):Prop:=∃(C:Nat→Nat→Rat) (f g:(Nat→Rat)→Nat→Rat),OpE r f g (700*uu*(j:Nat)) ∧
 (∀k,k<c→Nm r (fun i=>mvl c x i k-f (fun i=>C i k) i) ((60*(j:Nat)+(if k<j then 860 else 0))*(uu*b)))∧(∀n,InnR 0 r 0 c n A↔InnR 0 r 0 c n C) ∧
 (∀i k,i<r→k<c→(∃z:Int,C i k=z)∧Ab (C i k) 4)∧∀k,k<c→Nm r (fun i=>C i k) b
theorem ops_first {r c:Nat} {x:List Nat} {b:Rat} (hb:0≤b) (hi:∀i k,i<r→k<c→(∃z:Int,mvl c x i k=z)∧Ab (mvl c x i k) 4) (hn:∀k,k<c→csq r c x k≤b*b):Ops r c 0 (mvl c x) x b:=by
 have z:((0:Nat):Rat)=0:=rfl
 refine ⟨mvl c x,fun v=>v,fun v=>v,?_,fun k hk => ?_,fun n=>Iff.rfl,hi,fun k hk=>⟨hb,hn k hk⟩⟩
 ·rw [z,Rat.mul_zero]; exact ope_id r
 ·rw [z,if_neg (by omega)]
  refine ⟨by grind,?_⟩
  have e:sumP (fun i=>(mvl c x i k-mvl c x i k)*(mvl c x i k-mvl c x i k)) r=0:=by
   rw [sumP_congr (q:=fun _=>0) fun i _=>by grind,sumP_zero]
  show sumP (fun i=>(mvl c x i k-mvl c x i k)*(mvl c x i k-mvl c x i k)) r≤_
  rw [e]; grind
theorem ops_sw {r c j a:Nat} {A:Nat→Nat→Rat} {x:List Nat} {b:Rat} (hj:j<c) (ha:a<c) (hja:j≤a) (h:Ops r c j A x b):Ops r c j A (swV r c x j a) b:=by
 obtain ⟨C,f,g,h1,h2,h3,h4,h5⟩:=h
 refine ⟨fun i k=>C i (swN j a k),f,g,h1,fun k hk => ?_,fun n=>(h3 n).trans (inn_sw hj ha),fun i k hi hk=>h4 i _ hi (swN_lt hj ha hk),fun k hk=>h5 _ (swN_lt hj ha hk)⟩
 have q:=h2 (swN j a k) (swN_lt hj ha hk)
 have e:(if swN j a k<j then (860:Rat) else 0)=(if k<j then 860 else 0):=by
  by_cases hkj:k<j
  ·have:swN j a k=k:=by unfold swN; rw [if_neg (by omega),if_neg (by omega)]
   rw [this]
  ·have:=sw_ge (j:=j) (a:=a) (k:=k) hja (by omega)
   rw [if_neg (by omega),if_neg hkj]
 rw [e] at q
 exact q.congr fun i hi=>by rw [sw_mvl hi hk]
theorem ops_dn {r c j:Nat} {A:Nat→Nat→Rat} {x:List Nat} {b:Rat} (hj5:j≤5) (hjr:j<r) (E:DnE r c j x) (hb:P2 (-220)≤b) (hc:∀k,k<c→csq r c x k≤1001/1000*(b*b)) (h:Ops r c j A x b):Ops r c (j+1) A (dnX r c j x) b:=by
 obtain ⟨C,f,g,h1,h2,h3,h4,h5⟩:=h
 have u0:=uu_pos
 have hu:690*uu≤1/1000000000:=by decide +kernel
 have hb0:0≤b:=Rat.le_trans (Rat.le_of_lt (P2_pos _)) hb
 have ub:=Rat.mul_nonneg u0 hb0
 have bb0:=rat_sq_nonneg b
 have hj6:((j:Nat):Rat)≤((5:Nat):Rat):=Rat.natCast_le_natCast.2 hj5
 have e5:((5:Nat):Rat)=5:=rfl
 rw [e5] at hj6
 have j0:(0:Rat)≤(j:Nat):=Rat.natCast_nonneg
 have hcast:((j+1:Nat):Rat)=(j:Rat)+1:=nat_rat j
 have hbb:ee*ee≤1/1000000000*(uu*uu*(b*b)):=by
  have a1:ee*ee≤1/1000000000*(uu*uu*(P2 (-220)*P2 (-220))):=by decide +kernel
  have a2:=rat_sq_le (Rat.le_of_lt (P2_pos (-220))) hb
  have a3:=Rat.mul_le_mul_of_nonneg_left a2 (Rat.mul_nonneg u0 u0)
  grind
 refine ⟨C,fun v=>hv r (sv (dnM r c j x).2.1) (wvec j (dnM r c j x).1) (f v),fun v=>g (hv r (sv (dnM r c j x).2.1) (wvec j (dnM r c j x).1) v),?_,fun k hk => ?_,h3,h4,h5⟩
 ·have:=ope_step h1 (by have:=Rat.mul_nonneg u0 j0; grind) (by
   have a1:=Rat.mul_le_mul_of_nonneg_left hj6 u0
   have a2:700*(uu*5)≤1/1000000:=by decide +kernel
   grind) E.mp.mw
  rw [hcast]
  have e:700*uu*((j:Rat)+1)=700*uu*(j:Nat)+700*uu:=by grind
  rw [e]; exact this
 ·
  have q:=hv_nm E.mp.mw (h2 k hk)
  have hF:Nm r (fun i=>mvl c (dnX r c j x) i k-hmm r (sv (dnM r c j x).2.1) (wvec j (dnM r c j x).1) (mvl c x) i k) ((if k=j then 918 else 58)*(uu*b)):=by
   have cx:=Rat.mul_le_mul_of_nonneg_left (hc k hk) (Rat.mul_nonneg u0 u0)
   by_cases hkj:k=j
   ·subst hkj
    rw [if_pos rfl]
    refine ⟨by grind,Rat.le_trans E.own ?_⟩
    grind
   ·rw [if_neg hkj]
    refine ⟨by grind,Rat.le_trans (E.oth k hk hkj) ?_⟩
    grind
  have s:=nm_add q hF
  refine (s.mono ?_).congr fun i hi => ?_
  ·rw [hcast]
   have p1:690*uu*((60*(j:Rat)+(if k<j then 860 else 0))*(uu*b))≤uu*b:=by
    have a1:(60*(j:Rat)+(if k<j then 860 else 0))≤2000:=by split<;>grind
    have a2:=Rat.mul_le_mul_of_nonneg_right a1 ub
    have a3:=Rat.mul_le_mul_of_nonneg_left a2 (show 0≤690*uu by grind)
    have a4:=Rat.mul_le_mul_of_nonneg_right hu ub
    grind
   by_cases hkj:k=j
   ·subst hkj
    rw [if_neg (by omega)] at p1 ⊢
    rw [if_pos rfl,if_pos (by omega)]
    grind
   ·by_cases hlt:k<j
    ·rw [if_pos hlt] at p1 ⊢
     rw [if_neg hkj,if_pos (by omega)]
     grind
    ·rw [if_neg hlt] at p1 ⊢
     rw [if_neg hkj,if_neg (by omega)]
     grind
  ·have e:(fun i=>mvl c x i k-f (fun i=>C i k) i)=fun i=>mvl c x i k+(-1)*f (fun i=>C i k) i:=by funext i; grind
   rw [e,hv_add,hv_sm]
   show hv r _ _ (fun i=>mvl c x i k) i + -1*hv r _ _ (f fun i=>C i k) i+(mvl c (dnX r c j x) i k-hv r _ _ (fun l=>mvl c x l k) i)=_
   grind
theorem dnX_above {r c j i k:Nat} {x:List Nat} (hj:j<c) (hi:i<j) (hk:k<c):mvl c (dnX r c j x) i k=mvl c x i k:=by
 unfold mvl dnX
 rw [clV_other hj hk (.inr hi),apV_above (by omega) hi hk]
structure StX (r c j:Nat) (A:Nat→Nat→Rat) (x:List Nat) (B b:Rat):Prop where
 mx:Mx r c x
 fin:Fin2 r c x
 cs:∀k,k<c→csq r c x k≤B*(1+10000*uu*(j:Nat))
 up:UpTo r c j x
 ops:Ops r c j A x b
 rows:∀i k,i<j→i≤k→k<c→mvl c x i k*mvl c x i k≤dg c x i+20000*uu*B
structure StM (r c m:Nat) (A:Nat→Nat→Rat) (z y:List Nat) (B b:Rat):Prop where
 mx:Mx r c z
 up:UpTo r c m z
 ops:Ops r c m A z b
 rows:∀i k,i<m→i≤k→k<c→mvl c z i k*mvl c z i k≤dg c y i+20000*uu*B
 same:∀i,i<m→dg c z i=dg c y i
 low:∀k,m≤k→k<c→tsq r c z m k≤dg c y m+11000*uu*B
 top:dg c y m≤1001/1000*tsq r c z m m+1/1000000*(uu*uu*(uu*uu))
theorem st_at {r c:Nat} {A:Nat→Nat→Rat} {B b:Rat} (b1:P2 (-430)≤B) (b2:B≤P2 490) (hb:P2 (-220)≤b) (hBb:B≤b*b):∀(n j:Nat) (x y:List Nat) (pl pl':List Int) (ms ms':List Mir),j+n≤c→j+n≤r→StX r c j A x B b →
  pvR r c n j pl x ms=some (pl',y,ms')→∀m,j≤m→m<j+n→∃z,StM r c m A z y B b
 | 0,j,x,y,pl,pl',ms,ms',hc,hr,S,he,m,m1,m2=>by omega
 | n+1,j,x,y,pl,pl',ms,ms',hc,hr,S,he,m,m1,m2=>by
  obtain ⟨pl'',y'',ms2,d1,P⟩:=pv_err b1 b2 (n+1) j x pl ms hc hr S.mx S.fin S.cs S.up
  rw [d1] at he
  have hy:y''=y:=by simp at he; exact he.2.1
  subst hy
  have d1':=d1
  have u0:=uu_pos
  have hu6:uu≤1/1000000000:=by decide +kernel
  have h:=S.mx
  have hr6:=h.hr
  have hB0:0≤B:=Rat.le_trans (Rat.le_of_lt (P2_pos _)) b1
  have ub:=Rat.mul_nonneg u0 hB0
  have ub2:=Rat.mul_le_mul_of_nonneg_right hu6 hB0
  have hj5:((j:Nat):Rat)≤((5:Nat):Rat):=Rat.natCast_le_natCast.2 (by omega)
  have e5:((5:Nat):Rat)=5:=rfl
  rw [e5] at hj5
  have hjm:=Rat.mul_le_mul_of_nonneg_left hj5 ub
  have hB2:B*(1+10000*uu*(j:Nat))≤1001/1000*B:=by
   generalize (j:Rat)=J at *; generalize uu=u at *; clear hj5; grind
  have hx2:∀k,k<c→csq r c x k≤1001/1000*B:=fun k hk=>Rat.le_trans (S.cs k hk) hB2
  have hBB:P2 (-430)≤1001/1000*B:=by generalize P2 (-430)=z at *; grind
  have hB5:1001/1000*B≤P2 500:=by
   have:1001/1000*P2 490≤P2 500:=by decide +kernel
   generalize P2 490=z at *; generalize P2 500=z2 at *; grind
  have hW:∀i k,i<r→k<c→W (el x (ps i c k))≤P2 300:=fun i k hi hk=>csq_W hB5 hi (hx2 k hk)
  have hjr:j<r:=by omega
  have hjc:j<c:=by omega
  obtain ⟨g1,g2⟩:=gr_err h S.fin hW hjr hjc hBB hx2
  obtain ⟨ga,gb⟩:=grR_lt (r:=r) (x:=x) hjc
  unfold pvR at d1
  rw [if_pos g1] at d1
  generalize (grR r c x j).1=a at *
  have hz:=swV_mx h j a
  have zu:=sw_up gb hjc S.up
  have zf:Fin2 r c (swV r c x j a):=fun i k hi hk=>by rw [el_swV hi hk]; exact S.fin _ _ hi (swN_lt hjc ga hk)
  have zc:∀k,k<c→csq r c (swV r c x j a) k≤B*(1+10000*uu*(j:Nat)):=fun k hk=>by rw [sw_csq hk]; exact S.cs _ (swN_lt hjc ga hk)
  have zc2:∀k,k<c→csq r c (swV r c x j a) k≤1001/1000*B:=fun k hk=>Rat.le_trans (zc k hk) hB2
  have zs:∀i,i<j→dg c (swV r c x j a) i=dg c x i:=fun i hi=>dg_same (sw_same gb hi (by omega) (by omega))
  have zo:=ops_sw hjc ga gb S.ops
  have zr:∀i k,i<j→i≤k→k<c→mvl c (swV r c x j a) i k*mvl c (swV r c x j a) i k≤dg c x i+20000*uu*B:=fun i k hi hk hkc=>by
   rw [sw_mvl (by omega) hkc]
   refine S.rows i _ hi ?_ (swN_lt hjc ga hkc)
   by_cases hkj:k<j
   ·have:swN j a k=k:=by unfold swN; rw [if_neg (by omega),if_neg (by omega)]
    rw [this]; exact hk
   ·have:=sw_ge (j:=j) (a:=a) (k:=k) gb (by omega)
    omega
  by_cases hmj:m=j
  ·subst hmj
   refine ⟨swV r c x m a,hz,zu,zo,fun i k hi hk hkc => ?_,fun i hi => ?_,fun k k1 k2 => ?_,?_⟩
   ·rw [dg_same (P.same i hi)]; exact zr i k hi hk hkc
   ·rw [zs i hi,dg_same (P.same i hi)]
   ·rw [sw_tsq k2]
    exact P.lo (by omega) _ (sw_ge gb k1) (swN_lt hjc ga k2)
   ·have uq:0≤uu*uu*(uu*uu):=by decide +kernel
    have T0:=tsq_nonneg r c (swV r c x m a) m m
    by_cases hlast:m=r-1
    ·rw [if_pos hlast] at d1
     have hyz:swV r c x m a=y'':=by simp at d1; exact d1.2.1
     rw [←hyz]
     have hd:dg c (swV r c x m a) m=tsq r c (swV r c x m a) m m:=by
      rw [tsq_succ r c _ hjr]
      have:tsq r c (swV r c x m a) (m+1) m=0:=by
       unfold tsq; rw [show r-(m+1)=0 by omega]; rfl
      rw [this]; unfold dg; grind
     rw [hd]; grind
    ·rw [if_neg hlast] at d1
     have E:=dn_err hz zf (fun i k hi hk=>csq_W hB5 hi (zc2 k hk)) hjc hjr zu
     rw [if_pos E.ok] at d1
     have dt:=fun k m' (hk:k<c) (hm:m'≤m)=>dn_tsq hjr E hBB hk hm (zc2 k hk)
     have yc:∀k,k<c→csq r c (dnX r c m (swV r c x m a)) k≤B*(1+10000*uu*((m+1:Nat):Rat)):=fun k hk=>by
      have q:=(dt k 0 hk (Nat.zero_le _)).2
      rw [tsq_zero,tsq_zero] at q
      have q2:=zc k hk
      rw [nat_rat]
      generalize (m:Rat)=J at *
      clear hx2 zc zc2 dt g2 zr
      grind
     obtain ⟨pl3,y3,ms3,d3,P3⟩:=pv_err b1 b2 n (m+1) (dnX r c m (swV r c x m a)) (swL pl m a) (ms++[dnM r c m (swV r c x m a)]) (by omega) (by omega) (dnX_mx hz hjc hjr) E.fin yc (dnX_up hz hjc hjr zu)
     rw [d3] at d1
     have hy3:y3=y'':=by simp at d1; exact d1.2.1
     subst hy3
     rw [dg_same (P3.same m (by omega))]
     exact dn_top hjr hz hjc zu E
  ·have hn:¬j=r-1:=by omega
   rw [if_neg hn] at d1
   have E:=dn_err hz zf (fun i k hi hk=>csq_W hB5 hi (zc2 k hk)) hjc hjr zu
   rw [if_pos E.ok] at d1
   have dt:=fun k m' (hk:k<c) (hm:m'≤j)=>dn_tsq hjr E hBB hk hm (zc2 k hk)
   have yu:=dnX_up hz hjc hjr zu
   refine st_at b1 b2 hb hBb n (j+1) (dnX r c j (swV r c x j a)) y'' _ _ _ _ (by omega) (by omega) ⟨dnX_mx hz hjc hjr,E.fin,fun k hk => ?_,yu,?_,fun i k hi hk hkc => ?_⟩ d1 m (by omega) (by omega)
   ·have q:=(dt k 0 hk (Nat.zero_le _)).2
    rw [tsq_zero,tsq_zero] at q
    have q2:=zc k hk
    rw [nat_rat]
    generalize (j:Rat)=J at *
    clear hx2 zc zc2 dt g2 zr
    grind
   ·exact ops_dn (by omega) hjr E hb (fun k hk=>Rat.le_trans (zc2 k hk) (by grind)) zo
   ·by_cases hij:i=j
    ·subst hij
     have a1:=tsq_succ r c (dnX r c i (swV r c x i a)) (k:=k) hjr
     have a2:=tsq_nonneg r c (dnX r c i (swV r c x i a)) (i+1) k
     have a3:=(dt k i hkc (Nat.le_refl _)).2
     have a4:=(dt i i hjc (Nat.le_refl _)).1
     rw [tsq_diag hjr yu] at a4
     rw [sw_tsq hkc] at a3
     rw [sw_tsq hjc,sw_first] at a4
     have a5:=g2 (swN i a k) (sw_ge gb hk) (swN_lt hjc ga hkc)
     clear hx2 zc zc2 dt g2 zr
     grind
    ·have hi':i<j:=by omega
     rw [dnX_above hjc hi' hkc]
     have e:dg c (dnX r c j (swV r c x j a)) i=dg c x i:=by
      unfold dg; rw [dnX_above hjc hi' (by omega)]; exact zs i hi'
     rw [e]
     exact zr i k hi' hk hkc
def ev1 (l i:Nat):Rat:=if i=l then 1 else 0
theorem ev1_sum (a:Nat→Rat) (i:Nat):∀n,sumP (fun l=>a l*ev1 l i) n=if i<n then a i else 0
 | 0=>by rw [if_neg (by omega)]; rfl
 | n+1=>by
  show sumP (fun l=>a l*ev1 l i) n+a n*ev1 n i=_
  rw [ev1_sum a i n]
  unfold ev1
  by_cases h:i<n
  ·rw [if_pos h,if_neg (by omega),if_pos (by omega)]; grind
  ·rw [if_neg h]
   by_cases h2:i=n
   ·subst h2; rw [if_pos rfl,if_pos (by omega)]; grind
   ·rw [if_neg h2,if_neg (by omega)]; grind
theorem tsq_low {r c j k:Nat} {z:List Nat} (hu:UpTo r c j z) (hk:k<j):tsq r c z j k=0:=by
 unfold tsq
 rw [sumP_congr (q:=fun _=>0) fun a ha=>by
  have:mvl c z (j+a) k=0:=by
   unfold mvl; rw [hu _ _ hk (by omega) (by omega)]; exact sv_zero (by decide)
  rw [this]; grind,sumP_zero]
theorem inner_of {r c j:Nat} {A:Nat→Nat→Rat} {z y:List Nat} {B b:Rat} (hj3:j≤3) (hjr:j<r) (hjc:j<c) (S:StM r c j A z y B b) (b9:b≤9) (hs:dg c y j+11000*uu*B≤47/1000000*(47/1000000)):InnR 0 r 0 c j A:=by
 obtain ⟨C,f,g,O,h2,h3,h4,h5⟩:=S.ops
 rw [h3 j]
 have u0:=uu_pos
 have hb0:0≤b:=(h5 j hjc).1
 have hj6:((j:Nat):Rat)≤((3:Nat):Rat):=Rat.natCast_le_natCast.2 hj3
 have e5:((3:Nat):Rat)=3:=rfl
 rw [e5] at hj6
 have j0:(0:Rat)≤(j:Nat):=Rat.natCast_nonneg
 have hκ0:0≤700*uu*(j:Nat):=Rat.mul_nonneg (by grind) j0
 have hκ:700*uu*(j:Nat)≤1/10000000:=by
  have a1:=Rat.mul_le_mul_of_nonneg_left hj6 (show 0≤700*uu by grind)
  have a2:700*uu*3≤1/10000000:=by decide +kernel
  grind
 have ub:=Rat.mul_le_mul_of_nonneg_left b9 u0
 have ub0:=Rat.mul_nonneg u0 hb0
 have hu9:1100*(uu*9)≤1/10000000:=by decide +kernel
 have tl:∀k,k<c→Nm r (fun i=>mvl c z i k-sumP (fun l=>mvl c z l k*ev1 l i) j) (47/1000000):=fun k hk=>by
  refine ⟨by decide +kernel,?_⟩
  show sumP (fun i=>(mvl c z i k-sumP (fun l=>mvl c z l k*ev1 l i) j)*(mvl c z i k-sumP (fun l=>mvl c z l k*ev1 l i) j)) r≤_
  rw [sum_from (j:=j) (by omega) (fun i hi=>by rw [ev1_sum (fun l=>mvl c z l k),if_pos hi]; grind)]
  have e:sumP (fun a=>(mvl c z (j+a) k-sumP (fun l=>mvl c z l k*ev1 l (j+a)) j)*(mvl c z (j+a) k-sumP (fun l=>mvl c z l k*ev1 l (j+a)) j)) (r-j)=tsq r c z j k:=sumP_congr fun a _=>by
   rw [ev1_sum (fun l=>mvl c z l k),if_neg (by omega)]; grind
  rw [e]
  by_cases hkj:k<j
  ·rw [tsq_low S.up hkj]; decide +kernel
  ·exact Rat.le_trans (S.low k (by omega) hk) hs
 have key:∀i k,i<r→k<c→Ab (C i k-sumP (fun l=>g (ev1 l) i*mvl c z l k) j) (1/16000):=fun i k hi hk=>by
  have n1:=O.gf (h5 k hk)
  have n2:=O.gn (h2 k hk)
  have n3:=O.gn (tl k hk)
  have q:=nm_sub (nm_sub n3 n1) n2
  have e1:g (fun i=>mvl c z i k-sumP (fun l=>mvl c z l k*ev1 l i) j)=fun i=>g (fun i=>mvl c z i k) i-sumP (fun l=>mvl c z l k*g (ev1 l) i) j:=by
   rw [O.gsub,O.gsum]
  have e2:g (fun i=>mvl c z i k-f (fun i=>C i k) i)=fun i=>g (fun i=>mvl c z i k) i-g (f fun i=>C i k) i:=O.gsub _ _
  have q2:=q.at hi
  simp only [e1,e2] at q2
  have e3:sumP (fun l=>g (ev1 l) i*mvl c z l k) j=sumP (fun l=>mvl c z l k*g (ev1 l) i) j:=sumP_congr fun l _=>Rat.mul_comm _ _
  rw [e3]
  have e4:g (fun i=>mvl c z i k) i-sumP (fun l=>mvl c z l k*g (ev1 l) i) j-(g (f fun i=>C i k) i-C i k)-(g (fun i=>mvl c z i k) i-g (f fun i=>C i k) i)=C i k-sumP (fun l=>mvl c z l k*g (ev1 l) i) j:=by grind
  rw [e4] at q2
  refine q2.mono ?_
  have a1:(60*((j:Nat):Rat)+if k<j then 860 else 0)≤1100:=by split<;>grind
  have a2:=Rat.mul_le_mul_of_nonneg_right a1 ub0
  have a3:700*uu*(j:Nat)*b≤1/10000000*9:=Rat.le_trans (Rat.mul_le_mul_of_nonneg_right hκ hb0) (Rat.mul_le_mul_of_nonneg_left b9 (by decide +kernel))
  have a4:(60*((j:Nat):Rat)+if k<j then 860 else 0)*(uu*b)≤1/10000000:=by grind
  have a5:(1+700*uu*(j:Nat))*((60*((j:Nat):Rat)+if k<j then 860 else 0)*(uu*b))≤2*(1/10000000):=by
   refine Rat.le_trans (Rat.mul_le_mul_of_nonneg_left a4 (by grind)) ?_
   generalize 700*uu*((j:Nat):Rat)=κ at *
   grind
  generalize (1+700*uu*((j:Nat):Rat))*((60*((j:Nat):Rat)+if k<j then 860 else 0)*(uu*b))=w at *
  generalize 700*uu*((j:Nat):Rat)=κ at *
  grind
 have N:=near_inner hj3 (A:=fun i k=>if i<r∧k<c then C i k else 0) (P:=fun i l=>if i<r then g (ev1 l) i else 0) (Q:=fun l k=>if k<c then mvl c z l k else 0) (fun i k=>by
  show ∃zz:Int,(if i<r∧k<c then C i k else 0)=zz
  split
  ·rename_i h; exact (h4 i k h.1 h.2).1
  ·exact ⟨0,rfl⟩) (fun i k=>by
  show Ab (if i<r∧k<c then C i k else 0) 4
  split
  ·rename_i h; exact (h4 i k h.1 h.2).2
  ·exact ⟨by decide +kernel,by decide +kernel⟩) (fun i k=>by
  show Ab ((if i<r∧k<c then C i k else 0)-sumP (fun l=>(if i<r then g (ev1 l) i else 0)*(if k<c then mvl c z l k else 0)) j) _
  by_cases hi:i<r
  ·by_cases hk:k<c
   ·rw [if_pos ⟨hi,hk⟩,sumP_congr (q:=fun l=>g (ev1 l) i*mvl c z l k) fun l _=>by rw [if_pos hi,if_pos hk]]
    exact key i k hi hk
   ·rw [if_neg (fun h=>hk h.2),sumP_congr (q:=fun _=>0) fun l _=>by rw [if_neg hk]; grind,sumP_zero]
    exact ⟨by decide +kernel,by decide +kernel⟩
  ·rw [if_neg (fun h=>hi h.1),sumP_congr (q:=fun _=>0) fun l _=>by rw [if_neg hi]; grind,sumP_zero]
   exact ⟨by decide +kernel,by decide +kernel⟩)
 obtain ⟨P,Q,hPQ⟩:=N
 exact ⟨P,Q,fun i k _ hi _ hk=>by
  rw [←hPQ i k]
  show C i k=if i<r∧k<c then C i k else 0
  rw [if_pos ⟨hi,hk⟩]⟩
def ab (x:Rat):Rat:=if 0≤x then x else -x
theorem ab_nonneg (x:Rat):0≤ab x:=by unfold ab; split<;>grind
theorem ab_Ab (x:Rat):Ab x (ab x):=by unfold ab; split<;>exact ⟨by grind,by grind⟩
theorem ab_sq (x:Rat):ab x*ab x=x*x:=by unfold ab; split<;>grind
theorem ab_zero {x:Rat} (h:ab x=0):x=0:=by unfold ab at h; split at h<;>grind
theorem ab_mul (x y:Rat):ab (x*y)=ab x*ab y:=by
 have h1:=ab_nonneg (x*y)
 have h2:=Rat.mul_nonneg (ab_nonneg x) (ab_nonneg y)
 have h3:=ab_sq (x*y)
 have h4:ab x*ab y*(ab x*ab y)=x*y*(x*y):=by
  have:=ab_sq x
  have:=ab_sq y
  grind
 have h5:=(Ab.of_sq (x:=ab (x*y)) (a:=ab x*ab y) h2 (by rw [h3,h4]; exact Rat.le_refl)).2
 have h6:=(Ab.of_sq (x:=ab x*ab y) (a:=ab (x*y)) h1 (by rw [h3,h4]; exact Rat.le_refl)).2
 grind
theorem Ab.of_ab {x b:Rat} (h:Ab x b):ab x≤b:=by obtain ⟨h1,h2⟩:=h; unfold ab; split<;>grind
theorem sum_ab (p q:Nat→Rat):∀n,(∀i,i<n→Ab (p i) (q i))→Ab (sumP p n) (sumP q n)
 | 0,_=>⟨by show -(0:Rat)≤0; grind,by show (0:Rat)≤0; grind⟩
 | n+1,h=>(sum_ab p q n fun i hi=>h i (by omega)).add (h n (by omega))
theorem nm_sum {r:Nat} (v:Nat→Rat) (X:Nat→Nat→Rat) (φ:Nat→Rat):∀n,(∀k,k<n→Nm r (X k) (φ k))→Nm r (fun i=>sumP (fun k=>v k*X k i) n) (sumP (fun k=>ab (v k)*φ k) n)
 | 0,_=>by
  refine ⟨Rat.le_refl,?_⟩
  show sumP (fun _=>(0:Rat)*0) r≤0*0
  rw [sumP_congr (q:=fun _=>0) fun i _=>by grind,sumP_zero]; decide +kernel
 | n+1,h=>nm_add (nm_sum v X φ n fun k hk=>h k (by omega)) (nm_sm (v n) (ab_Ab _) (h n (by omega)))
theorem chain_le {ρ:Nat} (hρ:ρ≤3) (a:Nat→Rat) (S:Rat) (ha:∀i,0≤a i) (hS:S=sumP a (ρ+1)) (h:∀i,i<ρ→a i≤1034/1000*sumP (fun t=>a (i+1+t)) (ρ-i)+1/10000000*S):S≤8420/1000*a ρ:=by
 match ρ,hρ with
 | 0,_ =>
  have:S=0+a 0:=hS
  have:=ha 0
  grind
 | 1,_ =>
  have e:S=0+a 0+a 1:=hS
  have h0:a 0≤1034/1000*(0+a 1)+1/10000000*S:=h 0 (by omega)
  have:=ha 0
  have:=ha 1
  grind
 | 2,_ =>
  have e:S=0+a 0+a 1+a 2:=hS
  have h0:a 0≤1034/1000*(0+a 1+a 2)+1/10000000*S:=h 0 (by omega)
  have h1:a 1≤1034/1000*(0+a 2)+1/10000000*S:=h 1 (by omega)
  have:=ha 0
  have:=ha 1
  have:=ha 2
  grind
 | 3,_ =>
  have e:S=0+a 0+a 1+a 2+a 3:=hS
  have h0:a 0≤1034/1000*(0+a 1+a 2+a 3)+1/10000000*S:=h 0 (by omega)
  have h1:a 1≤1034/1000*(0+a 2+a 3)+1/10000000*S:=h 1 (by omega)
  have h2:a 2≤1034/1000*(0+a 3)+1/10000000*S:=h 2 (by omega)
  have:=ha 0
  have:=ha 1
  have:=ha 2
  have:=ha 3
  grind
theorem top_small {r c ρ:Nat} {A:Nat→Nat→Rat} {z y:List Nat} {B b:Rat} (hρ:ρ≤3) (hρr:ρ<r) (hρc:ρ<c) (T:StM r c ρ A z y B b) (inn:InnR 0 r 0 c ρ A) (lowd:∀i,i<ρ→213/100000000000≤dg c y i) (hB:B≤64) (b9:b≤9) :
  tsq r c z ρ ρ≤7900*(uu*b)*(7900*(uu*b)):=by
 obtain ⟨C,f,g,O,h2,h3,h4,h5⟩:=T.ops
 obtain ⟨P,Q,hPQ⟩:=(h3 ρ).1 inn
 obtain ⟨v,⟨l,hl,hv⟩,hker⟩:=ker_ex ρ Q
 have u0:=uu_pos
 have hb0:0≤b:=(h5 ρ hρc).1
 have ub0:=Rat.mul_nonneg u0 hb0
 have ub9:=Rat.mul_le_mul_of_nonneg_left b9 u0
 have hρ6:((ρ:Nat):Rat)≤((3:Nat):Rat):=Rat.natCast_le_natCast.2 hρ
 have e5:((3:Nat):Rat)=3:=rfl
 rw [e5] at hρ6
 have ρ0:(0:Rat)≤(ρ:Nat):=Rat.natCast_nonneg
 have hC:∀i,i<r→sumP (fun k=>v k*C i k) (ρ+1)=0:=fun i hi=>by
  have e1:sumP (fun k=>v k*C i k) (ρ+1)=sumP (fun k=>sumP (fun l=>P i l*(Q l k*v k)) ρ) (ρ+1):=sumP_congr fun k hk=>by
   rw [hPQ i k (Nat.zero_le _) hi (Nat.zero_le _) (by omega),←sumP_mul]
   exact sumP_congr fun l _=>by grind
  rw [e1,sumP_swap,sumP_congr (q:=fun _=>0) fun l hl=>by rw [sumP_mul,hker l hl]; grind,sumP_zero]
 have hw:Nm r (fun i=>sumP (fun k=>v k*C i k) (ρ+1)) 0:=by
  refine ⟨Rat.le_refl,?_⟩
  show sumP (fun i=>sumP (fun k=>v k*C i k) (ρ+1)*sumP (fun k=>v k*C i k) (ρ+1)) r≤0*0
  rw [sumP_congr (q:=fun _=>0) fun i hi=>by rw [hC i hi]; grind,sumP_zero]; decide +kernel
 have hfw:=O.fn hw
 rw [O.fsum v (fun k i=>C i k) (ρ+1),Rat.mul_zero] at hfw
 have hE:=nm_sum v (fun k i=>mvl c z i k-f (fun i=>C i k) i) (fun k=>(60*(ρ:Nat)+(if k<ρ then 860 else 0))*(uu*b)) (ρ+1) (fun k hk=>h2 k (by omega))
 have hD:Nm r (fun i=>sumP (fun k=>v k*mvl c z i k) (ρ+1)) (sumP (fun k=>ab (v k)*((60*(ρ:Nat)+(if k<ρ then 860 else 0))*(uu*b))) (ρ+1)):=by
  have q:=nm_add hE hfw
  refine (q.mono (by grind)).congr fun i hi => ?_
  show sumP (fun k=>v k*(mvl c z i k-f (fun i=>C i k) i)) (ρ+1)+sumP (fun k=>v k*f (fun i=>C i k) i) (ρ+1)=sumP (fun k=>v k*mvl c z i k) (ρ+1)
  rw [←sumP_add]
  exact sumP_congr fun k _=>by grind
 obtain ⟨a,ha⟩:∃a:Nat→Rat,a=fun k=>ab (v k):=⟨_,rfl⟩
 have ha':∀k,ab (v k)=a k:=fun k=>by rw [ha]
 have a0:∀i,0≤a i:=fun i=>by rw [←ha']; exact ab_nonneg _
 obtain ⟨S,hS⟩:∃S,S=sumP a (ρ+1):=⟨_,rfl⟩
 have hS':S=sumP a ρ+a ρ:=hS
 have S0:0≤S:=by rw [hS]; exact sumP_nonneg fun i _=>a0 i
 have Sρ:0≤sumP a ρ:=sumP_nonneg fun i _=>a0 i
 have hN:sumP (fun k=>ab (v k)*((60*(ρ:Nat)+(if k<ρ then 860 else 0))*(uu*b))) (ρ+1)≤1040*(uu*b)*sumP a ρ+180*(uu*b)*a ρ:=by
  have k1:sumP (fun k=>ab (v k)*((60*(ρ:Nat)+(if k<ρ then 860 else 0))*(uu*b))) ρ≤sumP (fun k=>1040*(uu*b)*a k) ρ:=sumP_le fun k hk=>by
   rw [if_pos hk,ha']
   have:=Rat.mul_le_mul_of_nonneg_right (show 60*((ρ:Nat):Rat)+860≤1040 by grind) (Rat.mul_nonneg ub0 (a0 k))
   grind
  rw [sumP_mul] at k1
  have k2:ab (v ρ)*((60*(ρ:Nat)+(if ρ<ρ then 860 else 0))*(uu*b))≤180*(uu*b)*a ρ:=by
   rw [if_neg (by omega),ha']
   have:=Rat.mul_le_mul_of_nonneg_right (show 60*((ρ:Nat):Rat)+0≤180 by grind) (Rat.mul_nonneg ub0 (a0 ρ))
   grind
  show sumP (fun k=>ab (v k)*((60*(ρ:Nat)+(if k<ρ then 860 else 0))*(uu*b))) ρ+ab (v ρ)*((60*(ρ:Nat)+(if ρ<ρ then 860 else 0))*(uu*b))≤_
  grind
 have hD2:=hD.mono hN
 have hNS:1040*(uu*b)*sumP a ρ+180*(uu*b)*a ρ≤46/1000000*(1/10000000*S):=by
  have k1:1040*(uu*b)≤46/1000000*(1/10000000):=by
   have:1040*(uu*9)≤46/1000000*(1/10000000):=by decide +kernel
   grind
  have k2:=Rat.mul_le_mul_of_nonneg_right k1 S0
  have k3:=Rat.mul_nonneg ub0 (a0 ρ)
  rw [hS'] at k2 ⊢
  grind
 have row:∀i,i<ρ→a i≤1034/1000*sumP (fun t=>a (i+1+t)) (ρ-i)+1/10000000*S:=fun i hi=>by
  have d1:=(hD2.at (i:=i) (by omega))
  have hdg:dg c z i=dg c y i:=T.same i hi
  have hl:=lowd i hi
  have hzz:dg c z i=mvl c z i i*mvl c z i i:=rfl
  have z46:46/1000000≤ab (mvl c z i i):=by
   refine (Ab.of_sq (x:=46/1000000) (ab_nonneg _) ?_).2
   rw [ab_sq,←hzz,hdg]
   refine Rat.le_trans (by decide +kernel) hl
  have zr:∀k,i≤k→k<c→ab (mvl c z i k)≤1034/1000*ab (mvl c z i i):=fun k hk hkc=>by
   have r1:=T.rows i k hi hk hkc
   refine (Ab.of_sq (x:=ab (mvl c z i k)) (by have:=ab_nonneg (mvl c z i i); grind) ?_).2
   have e1:1034/1000*ab (mvl c z i i)*(1034/1000*ab (mvl c z i i))=1034/1000*(1034/1000)*(ab (mvl c z i i)*ab (mvl c z i i)):=by grind
   rw [e1,ab_sq,ab_sq,←hzz,hdg]
   refine Rat.le_trans r1 ?_
   have k1:20000*uu*B≤20000*uu*64:=Rat.mul_le_mul_of_nonneg_left hB (by grind)
   have k2:20000*uu*64≤68/1000*(213/100000000000):=by decide +kernel
   grind
  have s1:=sumP_split (fun k=>v k*mvl c z i k) i (ρ+1-i)
  rw [show i+(ρ+1-i)=ρ+1 by omega,sumP_congr (n:=i) (q:=fun _=>0) fun k hk=>by
   have:mvl c z i k=0:=by unfold mvl; rw [T.up i k (by omega) hk (by omega)]; exact sv_zero (by decide)
   rw [this]; grind,sumP_zero] at s1
  have s2:=sumP_split (fun t=>v (i+t)*mvl c z i (i+t)) 1 (ρ-i)
  rw [show 1+(ρ-i)=ρ+1-i by omega] at s2
  have s3:sumP (fun t=>v (i+t)*mvl c z i (i+t)) 1=v i*mvl c z i i:=by
   show (0:Rat)+v (i+0)*mvl c z i (i+0)=_
   rw [Nat.add_zero]; grind
  rw [s3] at s2
  rw [s2] at s1
  have s4:Ab (sumP (fun t=>v (i+(1+t))*mvl c z i (i+(1+t))) (ρ-i)) (sumP (fun t=>1034/1000*ab (mvl c z i i)*a (i+1+t)) (ρ-i)):=sum_ab _ _ _ fun t ht=>by
   have q1:=(ab_Ab (v (i+(1+t)))).mul (ab_Ab (mvl c z i (i+(1+t))))
   refine q1.mono ?_
   rw [ha',show i+(1+t)=i+1+t by omega]
   have q2:=Rat.mul_le_mul_of_nonneg_left (zr (i+1+t) (by omega) (by omega)) (a0 (i+1+t))
   grind
  rw [sumP_mul] at s4
  simp only [s1] at d1
  have s5:Ab (v i*mvl c z i i) (1040*(uu*b)*sumP a ρ+180*(uu*b)*a ρ+1034/1000*ab (mvl c z i i)*sumP (fun t=>a (i+1+t)) (ρ-i)):=by
   have q:=d1.sub s4
   have e:0+(v i*mvl c z i i+sumP (fun t=>v (i+(1+t))*mvl c z i (i+(1+t))) (ρ-i))-sumP (fun t=>v (i+(1+t))*mvl c z i (i+(1+t))) (ρ-i)=v i*mvl c z i i:=by grind
   rw [e] at q
   exact q
  have s6:=s5.of_ab
  rw [ab_mul,ha'] at s6
  have zpos:0<ab (mvl c z i i):=by
   have:(0:Rat)<46/1000000:=by decide +kernel
   grind
  have k9:0≤1/10000000*S:=by grind
  have k3:=Rat.mul_le_mul_of_nonneg_right z46 k9
  refine Rat.le_of_mul_le_mul_left (c:=ab (mvl c z i i)) ?_ zpos
  clear hD2 hD hE hfw d1 s1 s2 s3 s4 s5 zr
  generalize sumP (fun t=>a (i+1+t)) (ρ-i)=w at *
  generalize ab (mvl c z i i)=zz at *
  grind
 have hSa:=chain_le hρ a S a0 hS row
 have apos:0<a ρ:=by
  rcases Rat.le_total (a:=a ρ) (b:=0) with h | h
  ·exfalso
   have hSz:S≤0:=by have:=a0 ρ; grind
   have h6:=sumP_mem (p:=a) (n:=ρ+1) (fun i _=>a0 i) l (by omega)
   rw [←hS] at h6
   have h7:a l=0:=by have:=a0 l; grind
   exact hv (ab_zero (by rw [ha']; exact h7))
  ·by_cases h0:a ρ=0
   ·exfalso
    have hSz:S≤0:=by rw [h0] at hSa; grind
    have h6:=sumP_mem (p:=a) (n:=ρ+1) (fun i _=>a0 i) l (by omega)
    rw [←hS] at h6
    have h7:a l=0:=by have:=a0 l; grind
    exact hv (ab_zero (by rw [ha']; exact h7))
   ·grind
 have hN2:1040*(uu*b)*sumP a ρ+180*(uu*b)*a ρ≤7900*(uu*b)*a ρ:=by
  have k1:sumP a ρ≤742/100*a ρ:=by grind
  have k2:=Rat.mul_le_mul_of_nonneg_left k1 (show 0≤1040*(uu*b) by grind)
  have k3:=Rat.mul_nonneg ub0 (a0 ρ)
  grind
 have hD3:=(hD2.mono hN2).2
 have s1:=sumP_split (fun i=>sumP (fun k=>v k*mvl c z i k) (ρ+1)*sumP (fun k=>v k*mvl c z i k) (ρ+1)) ρ (r-ρ)
 rw [show ρ+(r-ρ)=r by omega] at s1
 have s2:0≤sumP (fun i=>sumP (fun k=>v k*mvl c z i k) (ρ+1)*sumP (fun k=>v k*mvl c z i k) (ρ+1)) ρ:=sumP_nonneg fun i _=>rat_sq_nonneg _
 have s3:sumP (fun t=>sumP (fun k=>v k*mvl c z (ρ+t) k) (ρ+1)*sumP (fun k=>v k*mvl c z (ρ+t) k) (ρ+1)) (r-ρ)=a ρ*a ρ*tsq r c z ρ ρ:=by
  unfold tsq
  rw [←sumP_mul]
  refine sumP_congr fun t ht => ?_
  have e1:sumP (fun k=>v k*mvl c z (ρ+t) k) (ρ+1)=v ρ*mvl c z (ρ+t) ρ:=by
   show sumP (fun k=>v k*mvl c z (ρ+t) k) ρ+v ρ*mvl c z (ρ+t) ρ=_
   rw [sumP_congr (q:=fun _=>0) fun k hk=>by
    have:mvl c z (ρ+t) k=0:=by unfold mvl; rw [T.up (ρ+t) k hk (by omega) (by omega)]; exact sv_zero (by decide)
    rw [this]; grind,sumP_zero]
   grind
  rw [e1]
  have e2:a ρ*a ρ=v ρ*v ρ:=by rw [←ha',ab_sq]
  rw [e2]; grind
 have s4:a ρ*a ρ*tsq r c z ρ ρ≤7900*(uu*b)*a ρ*(7900*(uu*b)*a ρ):=by
  have hD4:sumP (fun i=>sumP (fun k=>v k*mvl c z i k) (ρ+1)*sumP (fun k=>v k*mvl c z i k) (ρ+1)) r≤7900*(uu*b)*a ρ*(7900*(uu*b)*a ρ):=hD3
  rw [s1,s3] at hD4
  grind
 have s5:a ρ*a ρ*tsq r c z ρ ρ≤a ρ*a ρ*(7900*(uu*b)*(7900*(uu*b))):=by grind
 exact Rat.le_of_mul_le_mul_left s5 (Rat.mul_pos apos apos)
section
end
section
end
section
end
theorem max_of (f:Nat→Rat):∀n,0<n→∃k,k<n∧∀i,i<n→f i≤f k
 | 0,h=>absurd h (by omega)
 | 1,_=>⟨0,by omega,fun i hi=>by rw [show i=0 by omega]; exact Rat.le_refl⟩
 | n+2,_=>by
  obtain ⟨k,h1,h2⟩:=max_of f (n+1) (by omega)
  rcases Rat.le_total (a:=f k) (b:=f (n+1)) with h | h
  ·refine ⟨n+1,by omega,fun i hi => ?_⟩
   by_cases hin:i=n+1
   ·rw [hin]; exact Rat.le_refl
   ·exact Rat.le_trans (h2 i (by omega)) h
  ·refine ⟨k,by omega,fun i hi => ?_⟩
   by_cases hin:i=n+1
   ·rw [hin]; exact h
   ·exact h2 i (by omega)
theorem sw_zero {r c j a:Nat} {x:List Nat} (z:AllZ r c x) (hj:j<c) (ha:a<c):AllZ r c (swV r c x j a):=fun i k hi hk=>by
 rw [el_swV hi hk]; exact z _ _ hi (swN_lt hj ha hk)
theorem pv_zero {r c:Nat}:∀(n j:Nat) {x y:List Nat} {pl pl':List Int} {ms ms':List Mir},j+n≤c→j+n≤r→Mx r c x→Fin2 r c x→AllZ r c x→UpTo r c j x→pvR r c n j pl x ms=some (pl',y,ms')→AllZ r c y
 | 0,j,x,y,pl,pl',ms,ms',_,_,h,hf,z,hu,he=>by
  simp [pvR] at he; obtain ⟨rfl,rfl,rfl⟩:=he
  exact z
 | n+1,j,x,y,pl,pl',ms,ms',hc,hr,h,hf,z,hu,he=>by
  have hjc:j<c:=by omega
  have hjr:j<r:=by omega
  obtain ⟨ga,gb⟩:=grR_lt (r:=r) (x:=x) hjc
  unfold pvR at he
  generalize (grR r c x j).1=a at *
  have hz:=swV_mx h j a
  have zz:=sw_zero z hjc ga
  have zf:Fin2 r c (swV r c x j a):=fun i k hi hk=>by rw [el_swV hi hk]; exact hf _ _ hi (swN_lt hjc ga hk)
  have zu:=sw_up gb hjc hu
  split at he
  ·split at he
   ·simp at he; obtain ⟨rfl,rfl,rfl⟩:=he
    exact zz
   ·have E:=dn_err hz zf (fun i k hi hk=>by rw [zz i k hi hk]; exact Rat.le_of_lt (P2_pos _)) hjc hjr zu
    rw [if_pos E.ok] at he
    exact pv_zero n (j+1) (by omega) (by omega) (dnX_mx hz hjc hjr) E.fin (dnX_zero hz zf zz hjc hjr E) (dnX_up hz hjc hjr zu) he
  ·cases he
def WE (r c:Nat) (x:List Nat):Prop:=∀i k,i<r→k<c→fPow (el x (ps i c k))≠2047∧(∃z:Int,mvl c x i k=z)∧Ab (mvl c x i k) 4
theorem inn_none {r c:Nat} {A:Nat→Nat→Rat} (h:∀i k,i<r→k<c→A i k=0):InnR 0 r 0 c 0 A:=⟨fun _ _=>0,fun _ _=>0,fun i k _ hi _ hk=>by rw [h i k hi hk]; rfl⟩
theorem W_of_zero {b:Nat} (h:sv b=0):W b=0:=by
 have h1:=sv_W b
 rw [h] at h1
 have h2:=W_nonneg b
 rcases Rat.mul_eq_zero.1 (show W b*W b=0 by rw [←h1]; grind) with h3 | h3<;>exact h3
theorem abs_of_W {b:Nat} (h:W b=0):absV b=0:=by
 have h1:=(mag_zero b).1 (mag_of_W h)
 unfold fPow fFrac at h1
 unfold absV
 omega
theorem tdR_at {c:Nat} {y:List Nat} {ρ:Nat}:∀(n j:Nat),(∀i,j≤i→i<ρ→tdP c y i=true)→j≤ρ→ρ≤j+n→(ρ<j+n→tdP c y ρ=false)→tdR c y n j=ρ
 | 0,j,_,h2,h3,_=>by unfold tdR; omega
 | n+1,j,h1,h2,h3,h4=>by
  unfold tdR
  by_cases hj:j=ρ
  ·subst hj
   rw [if_neg (by rw [h4 (by omega)]; decide)]
  ·rw [if_pos (h1 j (Nat.le_refl _) (by omega))]
   exact tdR_at n (j+1) (fun i h5 h6=>h1 i (by omega) h6) (by omega) (by omega) (fun h=>h4 (by omega))
theorem scale40 {b:Nat} (hb:b<infR):scaleV b (-40)<infR∧W (scaleV b (-40))≤W b*P2 (-40)*(1+uu)+ee∧W b*P2 (-40)≤W (scaleV b (-40))+W b*P2 (-40)*uu+ee:=by
 obtain ⟨p1,p2,p3,p4⟩:=word_pos hb
 have hD:D (fMag b) (fPl b + -40)=W b*P2 (-40):=by rw [←D_shift]; rfl
 have e:scaleV b (-40)=nearR (fMag b) (fPl b + -40):=by
  rw [scaleV_fin p3 p1,p2,clamp_id (by omega)]; rfl
 have hf:nearR (fMag b) (fPl b + -40)<infR:=by
  rw [←e]
  have hle:W b≤P2 1024:=by
   have:=fPl_bd b
   have hm:=fMag_lt b
   unfold W D
   have h1:((fMag b:Nat):Rat)≤((2^53:Nat):Rat):=Rat.natCast_le_natCast.2 (by omega)
   rw [←P2_nat 53] at h1
   have h2:=Rat.mul_le_mul_of_nonneg_right h1 (Rat.le_of_lt (P2_pos (fPl b)))
   have h3:P2 ((53:Nat):Int)*P2 (fPl b)≤P2 1025:=by rw [←P2_add]; exact P2_mono (by omega)
   rcases Nat.lt_or_ge (fPow b) 2047 with h4 | h4
   ·have h5:fPl b≤971:=by unfold fPl; split<;>omega
    have h6:P2 ((53:Nat):Int)*P2 (fPl b)≤P2 1024:=by rw [←P2_add]; exact P2_mono (by omega)
    exact Rat.le_trans h2 h6
   ·exact absurd (show fPow b=2047 by have:=fPow_lt b; omega) p1
  rw [e]
  refine near_fin ?_
  rw [hD]
  have h7:=Rat.mul_le_mul_of_nonneg_right hle (Rat.le_of_lt (P2_pos (-40)))
  have h8:P2 1024*P2 (-40)≤P2 1023:=by rw [←P2_add]; exact P2_mono (by omega)
  exact Rat.le_trans h7 h8
 obtain ⟨e1,e2⟩:=near_err' hf
 rw [hD,←e] at e1 e2
 refine ⟨by rw [e]; exact hf,?_,?_⟩
 ·show _≤W b*P2 (-40)*(1+1/9007199254740992)+P2 (-1075)
  grind
 ·show _≤W (scaleV b (-40))+W b*P2 (-40)*(1/9007199254740992)+P2 (-1075)
  grind
theorem td_true {c:Nat} {y:List Nat} {m:Nat} (h0:fPow (el y 0)≠2047) (hm:fPow (el y (ps m c m))≠2047) (h:W (el y 0)*P2 (-40)*2+ee<W (el y (ps m c m))):tdP c y m=true:=by
 obtain ⟨s1,s2,s3⟩:=scale40 (fin_abs h0)
 rw [W_abs] at s2 s3
 have hw:=W_nonneg (el y 0)
 have hp:=Rat.mul_nonneg hw (Rat.le_of_lt (P2_pos (-40)))
 have hu:=Rat.mul_le_mul_of_nonneg_left (show uu≤1 by decide +kernel) hp
 unfold tdP
 refine decide_eq_true (Classical.byContradiction fun hh => ?_)
 have h1:=ord_ge (Nat.le_of_lt s1) (Nat.le_of_lt (fin_abs hm)) hh
 have h2:=W_mono (b:=scaleV (absV (el y 0)) (-40)) (by unfold infR at s1; omega) h1
 rw [W_abs] at h2
 generalize W (el y 0)*P2 (-40)=q at *
 grind
theorem td_false {c:Nat} {y:List Nat} {m:Nat} (h0:fPow (el y 0)≠2047) (hm:fPow (el y (ps m c m))≠2047) (h:W (el y (ps m c m))≤W (el y 0)*P2 (-40)*(1-uu)-ee):tdP c y m=false:=by
 obtain ⟨s1,s2,s3⟩:=scale40 (fin_abs h0)
 rw [W_abs] at s2 s3
 have f2:=fin_abs hm
 unfold tdP
 refine decide_eq_false fun hh => ?_
 have h1:=ord_lt (by unfold infR at s1; omega) (by unfold infR at f2; omega) hh
 have h2:¬W (absV (el y (ps m c m)))≤W (scaleV (absV (el y 0)) (-40)):=fun h3=>by
  have:=(W_le (by unfold infR at f2; omega) (by unfold infR at s1; omega)).1 h3
  omega
 rw [W_abs] at h2
 refine h2 ?_
 generalize W (el y 0)*P2 (-40)=q at *
 grind
theorem td_zero {c:Nat} {y:List Nat} (h:W (el y (ps 0 c 0))=0):tdP c y 0=false:=by
 have e:ps 0 c 0=0:=by unfold ps; omega
 have h1:=abs_of_W h
 have h2:=h1
 rw [e] at h2
 unfold tdP
 rw [h1,h2]
 decide +kernel
theorem whole_main {r c:Nat} {x:List Nat} (h:Mx r c x) (hr:r≤4) (hc:c≤4) (hx:WE r c x) (ρ:Nat) (hk:RkW 0 r 0 c ρ (mvl c x)):∃q y pl,pfR r c x=some (q,y,pl)∧Mx r c y∧finV y=true∧tdR c y (min r c) 0=ρ:=by
 have hf:Fin2 r c x:=fun i k hi hk=>(hx i k hi hk).1
 have zc:((0:Nat):Rat)=0:=rfl
 have u0:=uu_pos
 have c64:∀k,k<c→csq r c x k≤64:=fun k hk=>by
  have a1:csq r c x k≤sumP (fun _=>(16:Rat)) r:=sumP_le fun i hi=>by
   have:=((hx i k hi hk).2.2.mul (hx i k hi hk).2.2).2
   grind
  rw [sumP_const] at a1
  have a2:((r:Nat):Rat)≤((4:Nat):Rat):=Rat.natCast_le_natCast.2 hr
  have e4:((4:Nat):Rat)=4:=rfl
  rw [e4] at a2
  grind
 have ans:∀{B:Rat} {pl:List Int} {y:List Nat} {ms2:List Mir},pvR r c (min c r) 0 (firL c) x []=some (pl,y,ms2)→PvE r c (min c r) 0 x y ms2 B→pfR r c x=some (qrQ r ms2,y,pl):=fun d1 P=>by
  unfold pfR
  rw [d1]
  simp only
  rw [qrQ_bq,(fin2_iff P.bq.mx).2 P.bq.fin,(fin2_iff P.mx).2 P.fin]
  rfl
 by_cases hz:∀i k,i<r→k<c→mvl c x i k=0
 ·
  have hρ:ρ=0:=by have:=hk.least 0 (inn_none hz); omega
  subst hρ
  have zx:AllZ r c x:=fun i k hi hk=>W_of_zero (hz i k hi hk)
  obtain ⟨pl,y,ms2,d1,P⟩:=pv_err (B:=64) (by decide +kernel) (by decide +kernel) (min c r) 0 x (firL c) [] (by omega) (by omega) h hf (fun k hk=>Rat.le_trans (c64 k hk) (by rw [zc]; grind)) (fun a k hk=>by omega)
  rw [List.nil_append] at d1
  have yz:=pv_zero _ _ (by omega) (by omega) h hf zx (fun a k hk=>by omega) d1
  refine ⟨_,y,pl,ans d1 P,P.mx,(fin2_iff P.mx).2 P.fin,tdR_at (min r c) 0 (fun i _ hi=>by omega) (Nat.le_refl _) (by omega) (fun hlt=>td_zero (yz 0 0 (by omega) (by omega)))⟩
 ·have hex:∃i k,i<r∧k<c∧mvl c x i k≠0:=Classical.byContradiction fun hh=>hz fun i k hi hk=>Classical.byContradiction fun h2=>hh ⟨i,k,hi,hk,h2⟩
  obtain ⟨i1,k1,hi1,hk1,hne⟩:=hex
  obtain ⟨k0,q1,q2⟩:=max_of (csq r c x) c (by omega)
  obtain ⟨B,hB⟩:∃B,B=csq r c x k0:=⟨_,rfl⟩
  rw [←hB] at q2
  have B64:B≤64:=by rw [hB]; exact c64 k0 q1
  have B1:1≤B:=by
   refine Rat.le_trans ?_ (q2 k1 hk1)
   have a1:=sumP_mem (p:=fun i=>mvl c x i k1*mvl c x i k1) (n:=r) (fun i _=>rat_sq_nonneg _) i1 hi1
   obtain ⟨z,hzz⟩:=(hx i1 k1 hi1 hk1).2.1
   have a2:1≤mvl c x i1 k1*mvl c x i1 k1:=by
    rw [hzz] at hne ⊢
    rw [←Rat.intCast_mul]
    have hz0:z≠0:=fun h0=>hne (by rw [h0]; rfl)
    have hz1:1≤z*z:=by
     have hn:1≤z.natAbs:=by omega
     have h2:=Nat.mul_le_mul hn hn
     have h3:=Int.natAbs_mul_self (a:=z)
     omega
    exact Rat.intCast_le_intCast.2 hz1
   exact Rat.le_trans a2 a1
  have hp430:P2 (-430)≤1:=by decide +kernel
  have hp490:(64:Rat)≤P2 490:=by decide +kernel
  have b1:=Rat.le_trans hp430 B1
  have b2:=Rat.le_trans B64 hp490
  have hcs:∀k,k<c→csq r c x k≤B*(1+10000*uu*((0:Nat):Rat)):=fun k hk=>Rat.le_trans (q2 k hk) (by rw [zc]; grind)
  obtain ⟨pl,y,ms2,d1,P⟩:=pv_err b1 b2 (min c r) 0 x (firL c) [] (by omega) (by omega) h hf hcs (fun a k hk=>by omega)
  rw [List.nil_append] at d1
  have hmin:0<min c r:=by omega
  have lo:=P.lo hmin k0 (Nat.zero_le _) q1
  rw [tsq_zero,←hB] at lo
  have hup:=P.up hmin B (fun k _ hk=>by rw [tsq_zero]; exact q2 k hk)
  have e0:ps 0 c 0=0:=by unfold ps; omega
  obtain ⟨w,hw⟩:∃w,w=W (el y 0):=⟨_,rfl⟩
  have w0:0≤w:=by rw [hw]; exact W_nonneg _
  have hdw:∀m,dg c y m=W (el y (ps m c m))*W (el y (ps m c m)):=fun m=>sv_W _
  have hd0:dg c y 0=w*w:=by rw [hdw,e0,←hw]
  rw [hd0] at lo hup
  have k11:11000*uu*B≤1/10000000*B:=Rat.mul_le_mul_of_nonneg_right (by decide +kernel) (by grind)
  have k10:10000*uu*B≤1/10000000*B:=Rat.mul_le_mul_of_nonneg_right (by decide +kernel) (by grind)
  obtain ⟨b,hb⟩:∃b,b=1000001/1000000*w:=⟨_,rfl⟩
  have hbb:B≤b*b:=by
   have:b*b=1000001/1000000*(1000001/1000000)*(w*w):=by rw [hb]; grind
   rw [this]; grind
  have w9:w≤8001/1000:=by
   refine (Ab.of_sq (x:=w) (a:=8001/1000) (by decide +kernel) ?_).2
   grind
  have w1:99/100≤w:=by
   refine (Ab.of_sq (x:=99/100) (a:=w) w0 ?_).2
   grind
  have b9:b≤9:=by grind
  have hb1:P2 (-220)≤b:=Rat.le_trans (show P2 (-220)≤9/10 by decide +kernel) (by grind)
  have S0:StX r c 0 (mvl c x) x B b:=⟨h,hf,hcs,fun a k hk=>by omega,ops_first (Rat.le_trans (Rat.le_of_lt (P2_pos _)) hb1) (fun i k hi hk=>(hx i k hi hk).2) (fun k hk=>Rat.le_trans (q2 k hk) hbb),fun i k hi=>by omega⟩
  have st:=fun m (hm:m<min c r)=>st_at b1 b2 hb1 hbb (min c r) 0 x y _ _ _ _ (by omega) (by omega) S0 d1 m (Nat.zero_le _) (by omega)
  have great:∀m,m<min c r→m<ρ→213/100000000000≤dg c y m:=fun m hm hmρ=>by
   obtain ⟨z,T⟩:=st m hm
   rcases Rat.le_total (a:=213/100000000000) (b:=dg c y m) with hh | hh
   ·exact hh
   ·exfalso
    have i1:=inner_of (by omega) (by omega) (by omega) T b9 (by
     have k1:11000*uu*B≤11000*uu*64:=Rat.mul_le_mul_of_nonneg_left B64 (by grind)
     have k2:11000*uu*64+213/100000000000≤47/1000000*(47/1000000):=by decide +kernel
     grind)
    have:=hk.least m i1
    omega
  have hρm:ρ≤min c r:=by
   have i1:InnR 0 r 0 c c (mvl c x):=⟨fun i l=>mvl c x i l,fun l k=>ev1 l k,fun i k _ _ _ hkc=>by rw [ev1_sum (fun l=>mvl c x i l),if_pos hkc]⟩
   have i2:InnR 0 r 0 c r (mvl c x):=⟨fun i l=>ev1 l i,fun l k=>mvl c x l k,fun i k _ hi _ _=>by
    have e:=ev1_sum (fun l=>mvl c x l k) i r
    rw [if_pos hi] at e
    rw [←e]
    exact sumP_congr fun l _=>Rat.mul_comm _ _⟩
   have:=hk.least c i1
   have:=hk.least r i2
   omega
  have p40:P2 (-40)=8192*uu:=by decide +kernel
  have fy:∀m,m<min c r→fPow (el y (ps m c m))≠2047:=fun m hm=>P.fin m m (by omega) (by omega)
  have f0:fPow (el y 0)≠2047:=by have:=fy 0 hmin; rwa [e0] at this
  refine ⟨_,y,pl,ans d1 P,P.mx,(fin2_iff P.mx).2 P.fin,tdR_at (min r c) 0 (fun i _ hi => ?_) (Nat.zero_le _) (by omega) (fun hlt => ?_)⟩
  ·refine td_true f0 (fy i (by omega)) ?_
   rw [←hw,p40]
   have g:=great i (by omega) hi
   rw [hdw] at g
   have g2:46/1000000≤W (el y (ps i c i)):=by
    refine (Ab.of_sq (x:=46/1000000) (W_nonneg _) ?_).2
    exact Rat.le_trans (by decide +kernel) g
   have k1:w*(8192*uu)≤8001/1000*(8192*uu):=Rat.mul_le_mul_of_nonneg_right w9 (by grind)
   have k2:8001/1000*(8192*uu)*2+ee<46/1000000:=by decide +kernel
   grind
  ·obtain ⟨z,T⟩:=st ρ (by omega)
   have ts:=top_small (by omega) (by omega) (by omega) T hk.inn (fun i hi=>great i (by omega) hi) B64 b9
   have tp:=T.top
   refine td_false f0 (fy ρ (by omega)) ?_
   rw [←hw,p40]
   have hsq:W (el y (ps ρ c ρ))≤7910*(uu*w):=by
    refine (Ab.of_sq (x:=W (el y (ps ρ c ρ))) (a:=7910*(uu*w)) (by have:=Rat.mul_nonneg u0 w0; grind) ?_).2
    rw [←hdw]
    have ew:7900*(uu*b)*(7900*(uu*b))=7900*7900*(1000001/1000000)*(1000001/1000000)*(uu*uu*(w*w)):=by rw [hb]; grind
    have ew2:7910*(uu*w)*(7910*(uu*w))=7910*7910*(uu*uu*(w*w)):=by grind
    rw [ew] at ts
    rw [ew2]
    have ww:=rat_sq_le (show (0:Rat)≤99/100 by decide +kernel) w1
    have u2:=Rat.mul_nonneg u0 u0
    have uw:=Rat.mul_le_mul_of_nonneg_left ww u2
    have uq:uu*uu*(uu*uu)≤uu*uu*(1/100):=Rat.mul_le_mul_of_nonneg_left (by decide +kernel) u2
    generalize uu*uu*(w*w)=q at *
    generalize uu*uu*(uu*uu)=q2 at *
    generalize uu*uu=q3 at *
    grind
   have k1:=Rat.mul_nonneg u0 w0
   have k2:=Rat.mul_le_mul_of_nonneg_left (show uu≤1/1000000 by decide +kernel) k1
   have k3:ee≤uu*(99/100):=by decide +kernel
   have k4:=Rat.mul_le_mul_of_nonneg_left w1 u0
   grind
def Vq (z:Int):PV := .v (.int .i8 z)
def Lq (l:List Int):PV := .l (l.map Vq)
theorem pv_u8 {p:PV} (h:PvT (.int .u8) p):∃n:Nat,p=Vy n∧n<256:=by
 obtain ⟨a,rfl,hw⟩:=h
 have h1:0≤a∧a<256:=by
  simp [Lit.wf] at hw
  have e1:IntKind.u8.min=0:=rfl
  have e2:IntKind.u8.max=255:=rfl
  omega
 refine ⟨a.toNat,?_,by omega⟩
 unfold Vy
 rw [Int.toNat_of_nonneg h1.1]
theorem pv_l8 {p:PV} (h:PvT (.sl .i8) p):∃l:List Int,p=Lq l∧(∀z∈l,-128≤z∧z<128)∧l.length≤200000000000000:=by
 obtain ⟨zs,rfl,hw,hl⟩:=h
 refine ⟨zs,rfl,fun a ha => ?_,?_⟩
 ·have:=hw a ha
  simp [Lit.wf] at this
  have e1:IntKind.i8.min = -128:=rfl
  have e2:IntKind.i8.max=127:=rfl
  omega
 ·have:IntKind.i8.bits/8=1:=rfl
  rw [this] at hl
  unfold reachBytes at hl
  omega
theorem get_Lq {l:List Int} {i:Nat} (h:i<l.length):B.get.den (Lq l) (Vi i)=Vq (ei l i):=by
 rw [Lq,get_l _ rfl]
 simp [ei,List.getD_eq_getElem?_getD,h]
@[simp] theorem len_Lq (l:List Int):U.len.den (Lq l)=Vi l.length:=by simp [Lq]
theorem lq_mem {l:List Int} {i:Nat} (h:i<l.length):ei l i∈l:=by
 unfold ei
 rw [List.getD_eq_getElem?_getD,List.getElem?_eq_getElem h]
 exact List.getElem_mem h
def wb (t:Int):Nat:=nearV (decide (t<0)) t.natAbs 0
theorem small_cases {t:Int} (h : -4≤t∧t≤4):t = -4∨t = -3∨t = -2∨t = -1∨t=0∨t=1∨t=2∨t=3∨t=4:=by omega
theorem wb_ok {t:Int} (h : -4≤t∧t≤4):wb t<18446744073709551616∧cnF (wb t)=wb t∧fPow (wb t)≠2047∧sv (wb t)=(t:Rat):=by
 rcases small_cases h with rfl | rfl | rfl | rfl | rfl | rfl | rfl | rfl | rfl<;>exact ⟨by decide +kernel,by decide +kernel,by decide +kernel,by decide +kernel⟩
def WL (m:List Nat):Prop:=∀i,∃t:Int,(-4≤t∧t≤4)∧el m i=wb t
theorem wl_zero (n:Nat):WL (List.replicate n 0):=fun i=>⟨0,by omega,by
 have e:wb 0=0:=by decide +kernel
 rw [e]
 unfold el
 rw [List.getD_eq_getElem?_getD]
 by_cases h:i<n
 ·rw [List.getElem?_replicate,if_pos h]; rfl
 ·rw [List.getElem?_replicate,if_neg h]; rfl⟩
theorem wl_set {m:List Nat} (h:WL m) (p:Nat) {t:Int} (ht : -4≤t∧t≤4):WL (m.set p (wb t)):=fun i=>by
 rw [el_set]
 split
 ·exact ⟨t,ht,rfl⟩
 ·exact h i
theorem wl_we {r c:Nat} {m:List Nat} (h:WL m):WE r c m:=fun i k _ _=>by
 obtain ⟨t,ht,e⟩:=h (ps i c k)
 obtain ⟨-,-,a,b⟩:=wb_ok ht
 have hm:mvl c m i k=(t:Rat):=by unfold mvl; rw [e]; exact b
 refine ⟨by rw [e]; exact a,⟨t,hm⟩,?_⟩
 rw [hm]
 have h1:((-4:Int):Rat)≤(t:Rat):=Rat.intCast_le_intCast.2 ht.1
 have h2:(t:Rat)≤((4:Int):Rat):=Rat.intCast_le_intCast.2 ht.2
 exact ⟨h1,h2⟩
theorem tmod5 (z:Int) : -4≤z.tmod 5∧z.tmod 5≤4:=by
 have h1:=Int.tmod_lt_of_pos z (show (0:Int)<5 by omega)
 have h2:=Int.tmod_lt_of_pos (-z) (show (0:Int)<5 by omega)
 rw [Int.neg_tmod] at h2
 omega
theorem rem_y5 (n:Nat):(B.rem .u8).den (Vy n) (Vy 5)=Vy (n%5):=by
 simp only [B.den,Vy,PV.int]
 rw [Int.ofNat_tmod n 5 |>.symm]
theorem rem_i5 (z:Int):(B.rem .i64).den (Vi z) (Vi 5)=Vi (z.tmod 5):=rfl
theorem conv_y (n:Nat) (h:n<256):(U.conv .i64).den (Vy n)=Vi n:=by
 simp only [U.den,Vy,Vi,PV.int]; rw [wrap_i64_of (by omega) (by omega)]
theorem conv_q {z:Int} (h : -128≤z∧z<128):(U.conv .i64).den (Vq z)=Vi z:=by
 simp only [U.den,Vq,Vi,PV.int]; rw [wrap_i64_of (by omega) (by omega)]
theorem fill_loop {r c:Nat} {l:List Int} (hl:∀z∈l,-128≤z∧z<128) {x0 x1 x3 x4 x5:PV}:∀(n:Nat) {i:Nat} {m:List Nat},i+n=min (r*c) l.length→Mx r c m→WL m →
  ∃m',Mx r c m'∧WL m'∧∃q,rounds (fun vs=>lo68_1.dv (x0::x1::Lq l::x3::x4::x5::vs)) [Vi i,Vl m]=some (.y (.ext 0) [Vl m'])∧q=m':=by
 intro n
 induction n with
 | zero =>
  intro i m hi hm hw
  have hlen:=hm.len
  refine ⟨m,hm,hw,m,rounds_exit ?_ (by simp),rfl⟩
  by_cases c1:i<m.length
  ·simp [lo68_1,TT.dv,c1,show ¬i<l.length by omega]
  ·simp [lo68_1,TT.dv,c1]
 | succ n ih =>
  intro i m hi hm hw
  have hlen:=hm.len
  have hs:=hm.small
  have c1:i<m.length:=by omega
  have c2:i<l.length:=by omega
  have hz:=hl _ (lq_mem c2)
  have ht:=tmod5 (ei l i)
  obtain ⟨w1,w2,-,-⟩:=wb_ok ht
  obtain ⟨m',a,b,q,d,e⟩:=ih (i:=i+1) (m:=m.set i (wb ((ei l i).tmod 5))) (by omega) (hm.set w1) (wl_set hw i ht)
  refine ⟨m',a,b,q,Eq.trans (rounds_cont ?_) d,e⟩
  have g1:=get_Lq c2
  have g2:=conv_q hz
  have g3:=rem_i5 (ei l i)
  have g4:=i2f_ok ((ei l i).tmod 5)
  rw [show nearV (decide ((ei l i).tmod 5<0)) ((ei l i).tmod 5).natAbs 0=wb ((ei l i).tmod 5) from rfl] at g4
  have g5:=B9_ok w1 w2
  have e1:(B.add .i64).den (Vi i) (Vi 1)=Vi (i+1):=add_i (by omega) (by omega)
  have st:=set_V m i (wb ((ei l i).tmod 5))
  generalize wb ((ei l i).tmod 5)=w at *
  generalize (ei l i).tmod 5=t at *
  simp [lo68_1,TT.dv,c1,c2,g1,g2,g3,g4,g5,e1,st]
theorem rank0_ok {c:Nat} {x:List Nat}:val 181 [Vi 0,Vi c,Vl x]=some [Vi 0]:=by
 refine val_of tab181 ?_
 have lp:rounds (fun vs=>lo181_1.dv (Vi 0::Vi c::Vl x::vs)) [Vi 0,Zm []]=some (.y (.ext 0) [Zm []]):=by
  refine rounds_exit ?_ (by simp)
  simp [lo181_1,TT.dv]
 rw [show Zm []=Vl [] from rfl] at lp
 have rk:=rank3_ok (m:=[]) (w:=0) (K:=0) ⟨by simp,fun i hi=>by simp at hi,fun i k=>by
  show bl (ez ([]:List Int) k).natAbs≤0
  rw [ez_out (by simp)]; exact Nat.le_refl _⟩ (by omega) (fun _=>rfl) (by decide)
 rw [show Zm []=Vl [] from rfl,show rankI 0 0 0 []=0 from rfl,show ((0:Nat):Int)=0 from rfl] at rk
 simp [tr181,TT.dv,KS.dv,lp,rk]
theorem law_PivotWhole {p:Nat} (_:p<256) {q:Nat} (_:q<256) {l:List Int} (hl:∀z∈l,-128≤z∧z<128) (_:l.length≤200000000000000) :
  val 68 [Vy p,Vy q,Lq l]=some [Vb true]:=by
 refine val_of tab68 ?_
 obtain ⟨r,hr⟩:∃r,r=p%5:=⟨_,rfl⟩
 obtain ⟨c,hc⟩:∃c,c=q%5:=⟨_,rfl⟩
 have r4:r≤4:=by omega
 have c4:c≤4:=by omega
 have m1:=rem_y5 p
 have m2:=rem_y5 q
 rw [←hr] at m1
 rw [←hc] at m2
 have v1:=conv_y r (by omega)
 have v2:=conv_y c (by omega)
 have z:=zeros_ok (r:=r) (c:=c) (by omega) (by omega)
 have zm:=zeros_mx (r:=r) (c:=c) (by omega) (by omega)
 obtain ⟨m,mm,mw,q',fl,-⟩:=fill_loop hl (x0:=Vy p) (x1:=Vy q) (x3:=Vi r) (x4:=Vi c) (x5:=Vl (List.replicate (r*c) 0)) (min (r*c) l.length) (i:=0) (by omega) zm (wl_zero _)
 rw [show ((0:Nat):Int)=0 from rfl] at fl
 have rk:∃ρ,RkW 0 r 0 c ρ (mvl c m)∧val 181 [Vi r,Vi c,Vl m]=some [Vi ρ]:=by
  rcases Nat.eq_zero_or_pos r with h0 | h0
  ·subst h0
   exact ⟨0,rk_none (.inl (Nat.le_refl _)),rank0_ok⟩
  ·exact ⟨_,rank11_rk mm,rank11_ok mm (fun h=>by omega)⟩
 obtain ⟨ρ,k1,k2⟩:=rk
 obtain ⟨Q,y,pl,e1,my,fy,td⟩:=whole_main mm r4 c4 (wl_we mw) ρ k1
 have fm:finV m=true:=(fin2_iff mm).2 fun i k hi hk=>(wl_we mw i k hi hk).1
 have pf:=pfactor_ok mm fm
 rw [e1] at pf
 simp only at pf
 have pt:=ptold_ok my fy
 rw [td] at pt
 have ex:=exp8_ok (b:=4607182418800017408) (by decide)
 rw [show expB 4607182418800017408=0 from by decide +kernel] at ex
 simp [tr68,TT.dv,KS.dv,m1,m2,v1,v2,z,fl,pf,pt,k2,ex,awake_16]
end Go.Proofs.YthchhkghjfendaaGreat.Dx
