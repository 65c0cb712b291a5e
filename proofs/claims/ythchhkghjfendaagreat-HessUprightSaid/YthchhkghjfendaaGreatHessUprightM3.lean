/- The pure meaning of the functions that the law reaches, and that the law is true of it. No conditions. -/
import Derived.Test.YthchhkghjfendaaGreatHessUprightM2
set_option linter.all false
namespace Go.Proofs.YthchhkghjfendaaGreat.Dx
open Go
def hv (r:Nat) (t:Rat) (w x:Nat→Rat):Nat→Rat:=fun i=>x i-t*w i*sumP (fun l=>w l*x l) r
def hmm (r:Nat) (t:Rat) (w:Nat→Rat) (X:Nat→Nat→Rat):Nat→Nat→Rat:=fun i k=>hv r t w (fun l=>X l k) i
structure MirW (r j:Nat) (t:Rat) (w:Nat→Rat):Prop where
 z:∀i,i<j→w i=0
 t0:0≤t
 t2:t≤201/100
 bal:t=0∨Ab (t*sumP (fun i=>w i*w i) r-2) (344*uu)
theorem MirW.kap {r j:Nat} {t:Rat} {w:Nat→Rat} (h:MirW r j t w):Ab (t*(t*sumP (fun i=>w i*w i) r-2)*sumP (fun i=>w i*w i) r) (690*uu)∧(t*sumP (fun i=>w i*w i) r)*(t*sumP (fun i=>w i*w i) r)≤401/100:=by
 rcases h.bal with h0 | h0
 ·rw [h0]
  exact ⟨⟨by have:=uu_pos; grind,by have:=uu_pos; grind⟩,by grind⟩
 ·generalize sumP (fun i=>w i*w i) r=s at *
  have h1:Ab (t*s) (2+344*uu):=by
   obtain ⟨a,b⟩:=h0
   exact ⟨by grind,by grind⟩
  have h2:=h0.mul h1
  have e:(t*s-2)*(t*s)=t*(t*s-2)*s:=by grind
  rw [e] at h2
  refine ⟨h2.mono (by decide +kernel),Rat.le_trans (h1.mul h1).2 (by decide +kernel)⟩
section
variable {r j:Nat} {t:Rat} {w:Nat→Rat} (h:MirW r j t w)
include h
theorem hv_sq (x:Nat→Rat):sumP (fun i=>hv r t w x i*hv r t w x i) r=sumP (fun i=>x i*x i) r+t*(t*sumP (fun i=>w i*w i) r-2)*(sumP (fun i=>w i*x i) r*sumP (fun i=>w i*x i) r):=by
 have e:sumP (fun i=>hv r t w x i*hv r t w x i) r=sumP (fun i=>x i*x i+(-2*t*sumP (fun l=>w l*x l) r)*(w i*x i)+(t*t*(sumP (fun l=>w l*x l) r*sumP (fun l=>w l*x l) r))*(w i*w i)) r:=sumP_congr fun i _=>by unfold hv; grind
 rw [e,sumP_add,sumP_add,sumP_mul,sumP_mul]
 grind
theorem hv_hv (x:Nat→Rat) (i:Nat):hv r t w (hv r t w x) i-x i=t*(t*sumP (fun i=>w i*w i) r-2)*w i*sumP (fun i=>w i*x i) r:=by
 have e:sumP (fun l=>w l*hv r t w x l) r=sumP (fun l=>w l*x l) r-t*sumP (fun l=>w l*x l) r*sumP (fun l=>w l*w l) r:=by
  have e1:sumP (fun l=>w l*hv r t w x l) r=sumP (fun l=>w l*x l-t*sumP (fun l=>w l*x l) r*(w l*w l)) r:=sumP_congr fun l _=>by unfold hv; grind
  rw [e1,sumP_sub,sumP_mul]
 show hv r t w x i-t*w i*sumP (fun l=>w l*hv r t w x l) r-x i=_
 rw [e]
 unfold hv
 grind
theorem hv_le (x:Nat→Rat):sumP (fun i=>hv r t w x i*hv r t w x i) r≤(1+690*uu)*sumP (fun i=>x i*x i) r:=by
 rw [hv_sq h]
 have c:=(pf_sum r).cs w x
 have d:=rat_sq_nonneg (sumP (fun i=>w i*x i) r)
 have k:=h.kap.1
 have hww:0≤sumP (fun i=>w i*w i) r:=sumP_nonneg fun i _=>rat_sq_nonneg _
 have hxx:0≤sumP (fun i=>x i*x i) r:=sumP_nonneg fun i _=>rat_sq_nonneg _
 generalize sumP (fun i=>w i*x i) r*sumP (fun i=>w i*x i) r=wx at *
 generalize sumP (fun i=>w i*w i) r=ww at *
 generalize sumP (fun i=>x i*x i) r=xx at *
 generalize t*(t*ww-2)=κ at *
 rcases Rat.le_total (a:=κ) (b:=0) with hk | hk
 ·have:=Rat.mul_nonneg (show 0 ≤ -κ by grind) d
  have h2:=Rat.mul_nonneg uu_pos hxx
  grind
 ·have h2:=Rat.mul_le_mul_of_nonneg_left c hk
  have h3:=Rat.mul_le_mul_of_nonneg_right k.2 hxx
  grind
theorem FN.mir {c:Nat} {X:Nat→Nat→Rat} {b:Rat} (hX:FN r c X b):FN r c (hmm r t w X) ((1+690*uu)*b):=by
 have u0:=uu_pos
 refine FN.of (Rat.mul_nonneg (by grind) hX.1) ?_
 rw [sum2_swap]
 have h1:sumP (fun k=>sumP (fun i=>hmm r t w X i k*hmm r t w X i k) r) c≤sumP (fun k=>(1+690*uu)*sumP (fun i=>X i k*X i k) r) c:=sumP_le fun k _=>hv_le h (fun l=>X l k)
 rw [sumP_mul] at h1
 have h2:=hX.sq
 rw [sum2_swap] at h2
 have h3:=Rat.mul_le_mul_of_nonneg_left h2 (show 0≤1+690*uu by grind)
 have h4:=Rat.mul_nonneg hX.1 hX.1
 have h5:=Rat.mul_nonneg u0 h4
 have h6:=Rat.mul_nonneg u0 h5
 have h7:sumP (fun k=>sumP (fun i=>hmm r t w X i k*hmm r t w X i k) r) c≤(1+690*uu)*(b*b):=Rat.le_trans h1 h3
 refine Rat.le_trans h7 ?_
 grind
theorem FN.mir2 {c:Nat} {X:Nat→Nat→Rat} {b:Rat} (hX:FN r c X b):FN r c (fun i k=>hmm r t w (hmm r t w X) i k-X i k) (690*uu*b):=by
 have u0:=uu_pos
 refine FN.of (Rat.mul_nonneg (by grind) hX.1) ?_
 rw [sum2_swap]
 have hww:0≤sumP (fun i=>w i*w i) r:=sumP_nonneg fun i _=>rat_sq_nonneg _
 have kk:=h.kap.1
 have k2:=(kk.mul kk).2
 have h1:sumP (fun k=>sumP (fun i=>(hmm r t w (hmm r t w X) i k-X i k)*(hmm r t w (hmm r t w X) i k-X i k)) r) c≤sumP (fun k=>(690*uu*(690*uu))*sumP (fun i=>X i k*X i k) r) c:=sumP_le fun k _=>by
  have e:sumP (fun i=>(hmm r t w (hmm r t w X) i k-X i k)*(hmm r t w (hmm r t w X) i k-X i k)) r=t*(t*sumP (fun i=>w i*w i) r-2)*(t*(t*sumP (fun i=>w i*w i) r-2))*(sumP (fun i=>w i*X i k) r*sumP (fun i=>w i*X i k) r)*sumP (fun i=>w i*w i) r:=by
   rw [←sumP_mul]
   refine sumP_congr fun i _ => ?_
   have:=hv_hv h (fun l=>X l k) i
   show (hv r t w (hv r t w fun l=>X l k) i-X i k)*(hv r t w (hv r t w fun l=>X l k) i-X i k)=_
   rw [this]
   grind
  rw [e]
  have c1:=(pf_sum r).cs w (fun i=>X i k)
  have hxx:0≤sumP (fun i=>X i k*X i k) r:=sumP_nonneg fun i _=>rat_sq_nonneg _
  generalize sumP (fun i=>w i*X i k) r*sumP (fun i=>w i*X i k) r=wx at *
  generalize sumP (fun i=>w i*w i) r=ww at *
  generalize sumP (fun i=>X i k*X i k) r=xx at *
  generalize t*(t*ww-2)=κ at *
  have q1:=Rat.mul_le_mul_of_nonneg_left c1 (Rat.mul_nonneg (rat_sq_nonneg κ) hww)
  have q2:=Rat.mul_le_mul_of_nonneg_right k2 hxx
  grind
 rw [sumP_mul] at h1
 have h2:=hX.sq
 rw [sum2_swap] at h2
 have h3:=Rat.mul_le_mul_of_nonneg_left h2 (Rat.mul_nonneg (show 0≤690*uu by grind) (show 0≤690*uu by grind))
 refine Rat.le_trans (Rat.le_trans h1 h3) ?_
 grind
end
theorem mir_cell {v z:List Nat} {tau:Nat} (vf:∀i,i<v.length→fPow (el v i)≠2047) (v1:∀i,i<v.length→W (el v i)≤101/100) (zf:∀i,i<v.length→fPow (el z i)≠2047) (zb:∀i,i<v.length→W (el z i)≤P2 300) (h6:v.length≤6) (tl:tau<18446744073709551616) (tf:fPow tau≠2047) (t2:W tau≤201/100) {a:Nat} (ha:a<v.length) :
  Fl (mirF v z tau a) (mirX v z tau a) (33/2*uu*(W tau*dotQ v z v.length*W (el v a))+2*uu*W (el z a)+80*ee):=by
 have u0:=uu_pos
 obtain ⟨e0,e1⟩:=ee0
 have hu:uu≤1/1000000:=by decide +kernel
 have hQ0:=dotQ_nonneg v z v.length
 have hQ:dotQ v z v.length≤P2 304:=by
  have h1:dotQ v z v.length≤sumP (fun _=>2*P2 300) v.length:=sumP_le fun i hi=>by
   have a1:=v1 i hi
   have a2:=Rat.mul_le_mul_of_nonneg_right a1 (W_nonneg (el z i))
   have a3:=zb i hi
   have a4:(0:Rat)≤P2 300:=Rat.le_of_lt (P2_pos _)
   generalize P2 300=p at *
   grind
  rw [sumP_const] at h1
  have n6:((v.length:Nat):Rat)≤((6:Nat):Rat):=Rat.natCast_le_natCast.2 h6
  have h2:=Rat.mul_le_mul_of_nonneg_right n6 (show 0≤2*P2 300 by decide +kernel)
  have h3:((6:Nat):Rat)*(2*P2 300)≤P2 304:=by decide +kernel
  exact Rat.le_trans h1 (Rat.le_trans h2 h3)
 have hd:=dotV_any vf zf h6 (Rat.le_trans hQ (P2_mono (by omega)))
 have hdx:=dotX_ab v z v.length
 have T0:=W_nonneg tau
 have big:1000*P2 304+1000≤P2 1023:=by decide +kernel
 have huQ:=Rat.mul_le_mul_of_nonneg_right hu hQ0
 have hTQ0:=Rat.mul_nonneg T0 hQ0
 have hTQ:=Rat.mul_le_mul_of_nonneg_right t2 hQ0
 have huTQ:=Rat.mul_nonneg u0 hTQ0
 have heu:ee*uu≤ee*(1/1000000):=Rat.mul_le_mul_of_nonneg_left hu e0
 have hTe:=Rat.mul_le_mul_of_nonneg_right t2 e0
 have hee:ee≤1/1000000:=by decide +kernel
 have hva:=v1 a ha
 have hza:=zb a ha
 have hV0:=W_nonneg (el v a)
 have hZ0:=W_nonneg (el z a)
 have p300:P2 300≤P2 304:=P2_mono (by omega)
 have av:=sv_ab (el v a)
 have az:=sv_ab (el z a)
 have atau:=sv_ab tau
 have bd:=hd.bound hdx
 show Fl (subV (el z a) (mulV (mulV tau (dotV v z)) (el v a))) (sv (el z a)-sv tau*dotX v z v.length*sv (el v a)) _
 generalize dotQ v z v.length=Q at *
 generalize dotX v z v.length=d at *
 generalize W (el v a)=V at *
 generalize W (el z a)=Z at *
 generalize W tau=T at *
 have hTQu:T*Q*uu≤T*Q*(1/1000000):=Rat.mul_le_mul_of_nonneg_left hu hTQ0
 have bd2:=bd.mono (b:=1001/1000*Q+24*ee) (by generalize ee=e at *; generalize uu=u at *; grind)
 have aC:=(atau.mul bd2).mono (b:=1001/1000*(T*Q)+50*ee) (by generalize ee=e at *; grind)
 have t1:=((Fl.exact tl tf).mul hd atau bd2 aC (by
  generalize P2 1023=w at *; generalize P2 304=w2 at *
  generalize ee=e at *
  grind)).mono (f:=141/10*uu*(T*Q)+53*ee) (by
   generalize ee=e at *
   generalize hTq:T*Q=q at *
   have k1:T*(13*uu*Q)=13*(uu*q):=by rw [←hTq]; grind
   have k2:q*uu=uu*q:=by grind
   generalize uu=u at *
   grind)
 have at1:Ab (sv tau*d) (T*Q):=atau.mul hdx
 have bt1:=(t1.bound at1).mono (b:=1001/1000*(T*Q)+53*ee) (by generalize T*Q=q at *; generalize ee=e at *; generalize uu=u at *; grind)
 have hTQV0:=Rat.mul_nonneg hTQ0 hV0
 have hTQV:=Rat.mul_le_mul_of_nonneg_left hva hTQ0
 have hVe:=Rat.mul_le_mul_of_nonneg_right hva e0
 have aD:=(bt1.mul av).mono (b:=1001/1000*(T*Q*V)+54*ee) (by generalize T*Q=q at *; generalize ee=e at *; grind)
 have m1:=fl_mul t1.fin (vf a ha) aD (by
  generalize P2 1023=w at *; generalize P2 304=w2 at *
  generalize T*Q*V=x at *
  generalize T*Q=q at *
  generalize ee=e at *
  grind)
 have m2:=t1.er.mul (Er.refl (sv (el v a))) at1 av
 have m3:=(m1.of m2).mono (f:=152/10*uu*(T*Q*V)+56*ee) (by
  have k1:(141/10*uu*(T*Q)+53*ee)*V=141/10*(uu*(T*Q*V))+53*(V*ee):=by grind
  have k2:=Rat.mul_nonneg u0 hTQV0
  rw [k1]
  generalize hx:T*Q*V=x at *
  generalize V*ee=ve at *
  generalize ee=e at *
  generalize uu=u at *
  grind)
 have am:Ab (sv tau*d*sv (el v a)) (T*Q*V):=at1.mul av
 have bm:=(m3.bound am).mono (b:=1001/1000*(T*Q*V)+56*ee) (by
  have:=Rat.mul_le_mul_of_nonneg_right hu hTQV0
  generalize T*Q*V=x at *; generalize ee=e at *; generalize uu=u at *; grind)
 have aE:=az.sub bm
 have s1:=fl_sub (zf a ha) m3.fin m3.lt aE (by
  generalize P2 1023=w at *; generalize P2 304=w2 at *; generalize P2 300=w3 at *
  generalize T*Q*V=x at *
  generalize T*Q=q at *
  generalize ee=e at *
  grind)
 have s2:=(Er.refl (sv (el z a))).sub m3.er
 refine (s1.of s2).mono ?_
 have k2:=Rat.mul_nonneg u0 hTQV0
 have k3:=Rat.mul_nonneg u0 hZ0
 generalize T*Q*V=x at *
 generalize ee=e at *
 generalize uu=u at *
 clear s1 s2 aE bm am m1 m2 m3 aD bt1 at1 t1 aC bd2 bd hd
 grind
def wvec (j:Nat) (v:List Nat):Nat→Rat:=fun i=>if i<j then 0 else sv (el v (i-j))
theorem sum_from {f:Nat→Rat} {j r:Nat} (hj:j≤r) (h:∀i,i<j→f i=0):sumP f r=sumP (fun a=>f (j+a)) (r-j):=by
 have h1:=sumP_split f j (r-j)
 rw [show j+(r-j)=r by omega] at h1
 rw [h1,sumP_congr (q:=fun _=>0) h,sumP_zero]; grind
theorem wvec_at (j:Nat) (v:List Nat) (a:Nat):wvec j v (j+a)=sv (el v a):=by
 unfold wvec; rw [if_neg (by omega),Nat.add_sub_cancel_left]
theorem sum_wvec {j r:Nat} (hj:j≤r) (v:List Nat) (X:Nat→Rat):sumP (fun l=>wvec j v l*X l) r=sumP (fun a=>sv (el v a)*X (j+a)) (r-j):=by
 rw [sum_from hj (fun i hi=>by unfold wvec; rw [if_pos hi]; grind)]
 exact sumP_congr fun a _=>by rw [wvec_at]
structure MirP (r j:Nat) (m:Mir):Prop where
 ok:MirOK r j m
 vf:∀i,i<m.1.length→fPow (el m.1 i)≠2047
 v1:∀i,i<m.1.length→W (el m.1 i)≤101/100
 tf:fPow m.2.1≠2047
 tn:sv m.2.1=W m.2.1
 t2:W m.2.1≤201/100
 mw:MirW r j (sv m.2.1) (wvec j m.1)
def csq (r c:Nat) (x:List Nat) (k:Nat):Rat:=sumP (fun i=>mvl c x i k*mvl c x i k) r
theorem csq_nonneg (r c:Nat) (x:List Nat) (k:Nat):0≤csq r c x k:=sumP_nonneg fun i _=>rat_sq_nonneg _
section
variable {r c j:Nat} {x:List Nat} (h:Mx r c x) (hf:Fin2 r c x) (hb:∀i k,i<r→k<c→W (el x (ps i c k))≤P2 300) {m:Mir} (M:MirP r j m) (hj:j≤r)
include h hf hb M hj
theorem col_hv {k a:Nat} (hk:k<c) (ha:a<r-j):hmm r (sv m.2.1) (wvec j m.1) (mvl c x) (j+a) k=mirX m.1 (colL r c x k j) m.2.1 a:=by
 unfold hmm hv mirX dotX
 rw [sum_wvec hj,wvec_at,M.ok.len,el_colL ha]
 have e:sumP (fun a=>sv (el m.1 a)*mvl c x (j+a) k) (r-j)=sumP (fun i=>sv (el m.1 i)*sv (el (colL r c x k j) i)) (r-j):=sumP_congr fun i hi=>by rw [el_colL hi]; rfl
 rw [e]
 show sv _-_=_
 grind
theorem app_cell {k0 k a:Nat} (hk0:k0≤k) (hk:k<c) (ha:a<r-j) :
  Fl (el (apV r c x j k0 m.1 m.2.1) (ps (j+a) c k)) (hmm r (sv m.2.1) (wvec j m.1) (mvl c x) (j+a) k) (33/2*uu*(W m.2.1*dotQ m.1 (colL r c x k j) (r-j)*W (el m.1 a))+2*uu*W (el x (ps (j+a) c k))+80*ee):=by
 have hl:=M.ok.len
 have hr:=h.hr
 have hcl:(colL r c x k j).length=r-j:=colL_len _ _ _ _ _
 rw [apV_at h (by omega) (by omega) hk0 hk (by omega),take_all (by omega),col_hv h hf hb M hj hk ha]
 have:=mir_cell (v:=m.1) (z:=colL r c x k j) (tau:=m.2.1) M.vf M.v1 (fun i hi=>by rw [el_colL (by omega)]; exact hf _ _ (by omega) hk) (fun i hi=>by rw [el_colL (by omega)]; exact Rat.le_trans (hb _ _ (by omega) hk) (P2_mono (by omega))) (by omega) M.ok.t M.tf M.t2 (a:=a) (by omega)
 rw [hl,el_colL ha] at this
 exact this
theorem hmm_above {k i:Nat} (hi:i<j):hmm r (sv m.2.1) (wvec j m.1) (mvl c x) i k=mvl c x i k:=by
 unfold hmm hv wvec
 rw [if_pos hi]; grind
theorem app_err {k0 k:Nat} (hk0:k0≤k) (hk:k<c):(∀i,i<r→fPow (el (apV r c x j k0 m.1 m.2.1) (ps i c k))≠2047) ∧
  sumP (fun i=>(mvl c (apV r c x j k0 m.1 m.2.1) i k-hmm r (sv m.2.1) (wvec j m.1) (mvl c x) i k)*(mvl c (apV r c x j k0 m.1 m.2.1) i k-hmm r (sv m.2.1) (wvec j m.1) (mvl c x) i k)) r≤3300*uu*uu*csq r c x k+120000*ee*ee:=by
 have hr:=h.hr
 have u0:=uu_pos
 have above:∀i,i<j→el (apV r c x j k0 m.1 m.2.1) (ps i c k)=el x (ps i c k):=fun i hi=>apV_above (by omega) hi hk
 have cell:=fun a (ha:a<r-j)=>app_cell h hf hb M hj hk0 hk ha
 refine ⟨fun i hi => ?_,?_⟩
 ·by_cases hi2:i<j
  ·rw [above i hi2]; exact hf i k hi hk
  ·obtain ⟨a,rfl⟩:∃a,i=j+a:=⟨i-j,by omega⟩
   exact (cell a (by omega)).fin
 ·rw [sum_from hj (fun i hi=>by
   have:mvl c (apV r c x j k0 m.1 m.2.1) i k=mvl c x i k:=by unfold mvl; rw [above i hi]
   rw [this,hmm_above h hf hb M hj hi]; grind)]
  have hQ0:=dotQ_nonneg m.1 (colL r c x k j) (r-j)
  have T0:=W_nonneg m.2.1
  have k1:sumP (fun a=>(mvl c (apV r c x j k0 m.1 m.2.1) (j+a) k-hmm r (sv m.2.1) (wvec j m.1) (mvl c x) (j+a) k)*(mvl c (apV r c x j k0 m.1 m.2.1) (j+a) k-hmm r (sv m.2.1) (wvec j m.1) (mvl c x) (j+a) k)) (r-j) ≤
    sumP (fun a=>817*(uu*uu)*(W m.2.1*dotQ m.1 (colL r c x k j) (r-j)*(W m.2.1*dotQ m.1 (colL r c x k j) (r-j)))*(W (el m.1 a)*W (el m.1 a))+12*(uu*uu)*(W (el x (ps (j+a) c k))*W (el x (ps (j+a) c k)))+19200*(ee*ee)) (r-j):=sumP_le fun a ha=>by
   have hab:=(cell a ha).er.ab
   have h2:=(hab.mul hab).2
   show (sv (el (apV r c x j k0 m.1 m.2.1) (ps (j+a) c k))-_)*(sv (el (apV r c x j k0 m.1 m.2.1) (ps (j+a) c k))-_)≤_
   refine Rat.le_trans h2 ?_
   generalize W m.2.1*dotQ m.1 (colL r c x k j) (r-j)=q
   generalize W (el m.1 a)=V
   generalize W (el x (ps (j+a) c k))=Z
   have q1:=rat_sq_nonneg (33/2*uu*(q*V)-2*uu*Z)
   have q2:=rat_sq_nonneg (33/2*uu*(q*V)-80*ee)
   have q3:=rat_sq_nonneg (2*uu*Z-80*ee)
   have q4:=rat_sq_nonneg (uu*(q*V))
   generalize ee=e at *
   generalize uu=u at *
   grind
  rw [sumP_add,sumP_add,sumP_mul,sumP_mul,sumP_const] at k1
  have hz:sumP (fun a=>W (el x (ps (j+a) c k))*W (el x (ps (j+a) c k))) (r-j)≤csq r c x k:=by
   unfold csq
   have h1:=sumP_split (fun i=>mvl c x i k*mvl c x i k) j (r-j)
   rw [show j+(r-j)=r by omega] at h1
   rw [h1]
   have h2:0≤sumP (fun i=>mvl c x i k*mvl c x i k) j:=sumP_nonneg fun i _=>rat_sq_nonneg _
   have h3:sumP (fun a=>W (el x (ps (j+a) c k))*W (el x (ps (j+a) c k))) (r-j)=sumP (fun a=>mvl c x (j+a) k*mvl c x (j+a) k) (r-j):=sumP_congr fun a _=>(sv_W _).symm
   rw [h3]; grind
  have hvv:sumP (fun a=>W (el m.1 a)*W (el m.1 a)) (r-j)=sumP (fun i=>wvec j m.1 i*wvec j m.1 i) r:=by
   rw [sum_wvec hj]
   exact sumP_congr fun a _=>by rw [wvec_at,sv_W]
  have hcs:=(pf_sum (r-j)).cs (fun a=>W (el m.1 a)) (fun a=>W (el (colL r c x k j) a))
  have hcz:sumP (fun a=>W (el (colL r c x k j) a)*W (el (colL r c x k j) a)) (r-j)=sumP (fun a=>W (el x (ps (j+a) c k))*W (el x (ps (j+a) c k))) (r-j):=sumP_congr fun a ha=>by rw [el_colL ha]
  have hcs2:dotQ m.1 (colL r c x k j) (r-j)*dotQ m.1 (colL r c x k j) (r-j)≤sumP (fun a=>W (el m.1 a)*W (el m.1 a)) (r-j)*sumP (fun a=>W (el x (ps (j+a) c k))*W (el x (ps (j+a) c k))) (r-j):=by
   rw [←hcz]; exact hcs
  have hk:=M.mw.kap.2
  rw [M.tn,←hvv] at hk
  have hr6:(((r-j:Nat):Nat):Rat)≤((6:Nat):Rat):=Rat.natCast_le_natCast.2 (by omega)
  have e6:((6:Nat):Rat)=6:=rfl
  rw [e6] at hr6
  have hee:=rat_sq_nonneg ee
  have k2:=Rat.mul_le_mul_of_nonneg_right hr6 (show 0≤19200*(ee*ee) by grind)
  have hzz0:0≤sumP (fun a=>W (el x (ps (j+a) c k))*W (el x (ps (j+a) c k))) (r-j):=sumP_nonneg fun i _=>rat_sq_nonneg _
  have hvv0:0≤sumP (fun a=>W (el m.1 a)*W (el m.1 a)) (r-j):=sumP_nonneg fun i _=>rat_sq_nonneg _
  have k3:W m.2.1*dotQ m.1 (colL r c x k j) (r-j)*(W m.2.1*dotQ m.1 (colL r c x k j) (r-j))*sumP (fun a=>W (el m.1 a)*W (el m.1 a)) (r-j)≤401/100*sumP (fun a=>W (el x (ps (j+a) c k))*W (el x (ps (j+a) c k))) (r-j):=by
   have a1:=Rat.mul_le_mul_of_nonneg_left hcs2 (Rat.mul_nonneg (rat_sq_nonneg (W m.2.1)) hvv0)
   have a2:=Rat.mul_le_mul_of_nonneg_right hk hzz0
   generalize sumP (fun a=>W (el m.1 a)*W (el m.1 a)) (r-j)=vv at *
   generalize sumP (fun a=>W (el x (ps (j+a) c k))*W (el x (ps (j+a) c k))) (r-j)=zz at *
   generalize dotQ m.1 (colL r c x k j) (r-j)=Q at *
   generalize W m.2.1=T at *
   grind
  have uu0:=rat_sq_nonneg uu
  have k4:=Rat.mul_le_mul_of_nonneg_left k3 (show 0≤817*(uu*uu) by grind)
  have k5:=Rat.mul_le_mul_of_nonneg_left hz uu0
  refine Rat.le_trans k1 ?_
  generalize sumP (fun a=>W (el m.1 a)*W (el m.1 a)) (r-j)=vv at *
  generalize sumP (fun a=>W (el x (ps (j+a) c k))*W (el x (ps (j+a) c k))) (r-j)=zz at *
  generalize W m.2.1*dotQ m.1 (colL r c x k j) (r-j)*(W m.2.1*dotQ m.1 (colL r c x k j) (r-j))=TQ at *
  generalize ((r-j:Nat):Rat)*(19200*(ee*ee))=t at *
  have hcq:=csq_nonneg r c x k
  generalize csq r c x k=cq at *
  have e1:120000*ee*ee=120000*(ee*ee):=by grind
  have e2:3300*uu*uu*cq=3300*(uu*uu*cq):=by grind
  rw [e1,e2]
  generalize ee*ee=e2 at *
  generalize uu*uu=u2 at *
  clear cell above hf hb hcs hcs2 hcz hvv
  have k6:=Rat.mul_nonneg uu0 hcq
  grind
end
structure DnE (r c j:Nat) (x:List Nat):Prop where
 ok:dnOk r c j x=true
 mp:MirP r j (dnM r c j x)
 fin:Fin2 r c (dnX r c j x)
 oth:∀k,k<c→k≠j→sumP (fun i=>(mvl c (dnX r c j x) i k-hmm r (sv (dnM r c j x).2.1) (wvec j (dnM r c j x).1) (mvl c x) i k)*(mvl c (dnX r c j x) i k-hmm r (sv (dnM r c j x).2.1) (wvec j (dnM r c j x).1) (mvl c x) i k)) r≤3300*uu*uu*csq r c x k+120000*ee*ee
 own:sumP (fun i=>(mvl c (dnX r c j x) i j-hmm r (sv (dnM r c j x).2.1) (wvec j (dnM r c j x).1) (mvl c x) i j)*(mvl c (dnX r c j x) i j-hmm r (sv (dnM r c j x).2.1) (wvec j (dnM r c j x).1) (mvl c x) i j)) r≤840000*uu*uu*csq r c x j+250000*ee*ee
theorem dn_err {r c j:Nat} {x:List Nat} (h:Mx r c x) (hf:Fin2 r c x) (hb:∀i k,i<r→k<c→W (el x (ps i c k))≤P2 300) (hj:j<c) (hjr:j<r) (hu:UpTo r c j x):DnE r c j x:=by
 have hr:=h.hr
 have hw:=colL_words h j j
 have hl:(colL r c x j j).length=r-j:=colL_len _ _ _ _ _
 have hcf:∀i,i<(colL r c x j j).length→fPow (el (colL r c x j j) i)≠2047:=fun i hi=>by rw [el_colL (by omega)]; exact hf _ _ (by omega) hj
 have hcb:∀i,i<(colL r c x j j).length→W (el (colL r c x j j) i)≤P2 300:=fun i hi=>by rw [el_colL (by omega)]; exact hb _ _ (by omega) hj
 obtain ⟨bh,G⟩:=mirG hw (by omega) (by omega) hcf hcb
 have hm:=dnM_ok h hj hjr
 have vl:=mkV_len hw (show 1≤(colL r c x j j).length by omega) (by omega)
 have mw:MirW r j (sv (dnM r c j x).2.1) (wvec j (dnM r c j x).1):=by
  refine ⟨fun i hi=>by unfold wvec; rw [if_pos hi],?_,?_,?_⟩
  ·show 0≤sv (mkTau _); rw [G.tn]; exact W_nonneg _
  ·show sv (mkTau _)≤_; rw [G.tn]; exact G.t2
  ·rcases G.bal with h0 | h0
   ·left; show sv (mkTau _)=0; rw [G.tn,h0]
   ·right
    rw [sum_wvec (by omega)]
    have e:sumP (fun a=>sv (el (dnM r c j x).1 a)*wvec j (dnM r c j x).1 (j+a)) (r-j)=sumA (fun i=>W (el (mkV (colL r c x j j)) i)) (colL r c x j j).length:=by
     rw [sumA_sumP,hl]
     exact sumP_congr fun a _=>by rw [wvec_at,sv_W]; rfl
    rw [e]
    show Ab (sv (mkTau _)*_-2) _
    rw [G.tn]
    exact (Er.ab h0).mono (by grind)
 have M:MirP r j (dnM r c j x):=⟨hm,fun i hi=>G.vf i (by rw [hm.len] at hi; omega),fun i hi=>G.v1 i (by rw [hm.len] at hi; omega),G.tf,G.tn,G.t2,mw⟩
 have am:=dapply_mx h hj hjr
 have above:∀i k,i<j→k<c→el (dnX r c j x) (ps i c k)=el x (ps i c k):=fun i k hi hk=>by
  unfold dnX
  rw [clV_other hj hk (.inr hi),apV_above (by omega) hi hk]
 have ahead:∀i k,k<j→el (dnX r c j x) (ps i c k)=el x (ps i c k):=fun i k hk=>by
  unfold dnX
  rw [clV_other hj (by omega) (.inl (by omega)),apV_ahead (by omega) hk]
 have behind:∀i k,j<k→k<c→el (dnX r c j x) (ps i c k)=el (apV r c x j j (dnM r c j x).1 (dnM r c j x).2.1) (ps i c k):=fun i k hk hkc=>by
  unfold dnX
  rw [clV_other hj hkc (.inl (by omega))]
 have ownc:∀a,a<r-j→el (dnX r c j x) (ps (j+a) c j)=if a=0 then mkBeta (colL r c x j j) else 0:=fun a ha=>by
  unfold dnX
  by_cases h0:a=0
  ·subst h0; rw [if_pos rfl,Nat.add_zero]; exact clV_diag am hj hjr
  ·rw [if_neg h0]; exact clV_at am hm.b hj hjr (by omega) (by omega)
 have app:=fun k (hk:k<c) (hkj:j<k)=>app_err h hf hb M (by omega) (k0:=j) (show j≤k by omega) hk
 refine ⟨?_,M,?_,?_,?_⟩
 ·unfold dnOk
  rw [finV_iff.2 hcf,G.ok]; rfl
 ·intro i k hi hk
  by_cases h1:k<j
  ·rw [ahead i k h1]; exact hf i k hi hk
  ·by_cases h2:j<k
   ·rw [behind i k h2 hk]; exact (app k hk h2).1 i hi
   ·have:k=j:=by omega
    subst this
    by_cases h3:i<k
    ·rw [above i k h3 hk]; exact hf i k hi hk
    ·obtain ⟨a,rfl⟩:∃a,i=k+a:=⟨i-k,by omega⟩
     rw [ownc a (by omega)]
     split
     ·exact G.bf
     ·decide
 ·intro k hk hkj
  by_cases h1:k<j
  ·rw [sumP_congr (q:=fun _=>0) fun i hi=>by
    have e1:mvl c (dnX r c j x) i k=mvl c x i k:=by unfold mvl; rw [ahead i k h1]
    have e2:hmm r (sv (dnM r c j x).2.1) (wvec j (dnM r c j x).1) (mvl c x) i k=mvl c x i k:=by
     unfold hmm hv
     rw [sum_wvec (by omega),sumP_congr (q:=fun _=>0) fun a ha=>by
      have:mvl c x (j+a) k=0:=by
       unfold mvl; rw [hu (j+a) k h1 (by omega) (by omega)]; exact sv_zero (by decide)
      rw [this]; grind,sumP_zero]
     grind
    rw [e1,e2]; grind,sumP_zero]
   have:=Rat.mul_nonneg (rat_sq_nonneg uu) (csq_nonneg r c x k)
   have:=rat_sq_nonneg ee
   grind
  ·have h2:j<k:=by omega
   have e:=(app k hk h2).2
   rw [sumP_congr (q:=fun i=>(mvl c (dnX r c j x) i k-hmm r (sv (dnM r c j x).2.1) (wvec j (dnM r c j x).1) (mvl c x) i k)*(mvl c (dnX r c j x) i k-hmm r (sv (dnM r c j x).2.1) (wvec j (dnM r c j x).1) (mvl c x) i k)) fun i _=>by
    have e1:mvl c (dnX r c j x) i k=mvl c (apV r c x j j (dnM r c j x).1 (dnM r c j x).2.1) i k:=by unfold mvl; rw [behind i k h2 hk]
    rw [e1]] at e
   exact e
 ·rw [sum_from (j:=j) (by omega) (fun i hi=>by
   have e1:mvl c (dnX r c j x) i j=mvl c x i j:=by unfold mvl; rw [above i j hi hj]
   rw [e1,hmm_above h hf hb M (by omega) hi]; grind)]
  have k1:sumP (fun a=>(mvl c (dnX r c j x) (j+a) j-hmm r (sv (dnM r c j x).2.1) (wvec j (dnM r c j x).1) (mvl c x) (j+a) j)*(mvl c (dnX r c j x) (j+a) j-hmm r (sv (dnM r c j x).2.1) (wvec j (dnM r c j x).1) (mvl c x) (j+a) j)) (r-j)≤sumP (fun _=>101/100*(371*371*(uu*uu)*(bh*bh))+101*(400*(ee*ee))) (r-j):=sumP_le fun a ha=>by
   have e1:mvl c (dnX r c j x) (j+a) j=if a=0 then sv (mkBeta (colL r c x j j)) else 0:=by
    unfold mvl
    rw [ownc a ha]
    split
    ·rfl
    ·exact sv_zero (by decide)
   have e2:=col_hv h hf hb M (by omega) hj ha
   rw [e1,e2]
   have g:=G.own a (by omega)
   have h2:=(g.mul g).2
   have q1:=rat_sq_nonneg (371*uu*bh*(1/10)-10*(20*ee))
   have e3:(((if a=0 then sv (mkBeta (colL r c x j j)) else 0)-mirX (dnM r c j x).1 (colL r c x j j) (dnM r c j x).2.1 a)*((if a=0 then sv (mkBeta (colL r c x j j)) else 0)-mirX (dnM r c j x).1 (colL r c x j j) (dnM r c j x).2.1 a))=(mirX (mkV (colL r c x j j)) (colL r c x j j) (mkTau (colL r c x j j)) a-(if a=0 then sv (mkBeta (colL r c x j j)) else 0))*(mirX (mkV (colL r c x j j)) (colL r c x j j) (mkTau (colL r c x j j)) a-(if a=0 then sv (mkBeta (colL r c x j j)) else 0)):=by
    show (_-mirX (mkV (colL r c x j j)) (colL r c x j j) (mkTau (colL r c x j j)) a)*(_-mirX (mkV (colL r c x j j)) (colL r c x j j) (mkTau (colL r c x j j)) a)=_
    grind
   rw [e3]
   refine Rat.le_trans h2 ?_
   generalize ee=e at *
   generalize uu=u at *
   clear e1 e2 e3 h2 g
   grind
  rw [sumP_const] at k1
  have hr6:(((r-j:Nat):Nat):Rat)≤((6:Nat):Rat):=Rat.natCast_le_natCast.2 (by omega)
  have e6:((6:Nat):Rat)=6:=rfl
  rw [e6] at hr6
  have hbb:=rat_sq_nonneg bh
  have u2:=rat_sq_nonneg uu
  have e2:=rat_sq_nonneg ee
  have hub:=Rat.mul_nonneg u2 hbb
  have k2:=Rat.mul_le_mul_of_nonneg_right hr6 (show 0≤101/100*(371*371*(uu*uu)*(bh*bh))+101*(400*(ee*ee)) by grind)
  have hlen:=G.len
  rw [hl] at hlen
  have hz:sumP (fun i=>W (el (colL r c x j j) i)*W (el (colL r c x j j) i)) (r-j)≤csq r c x j:=by
   unfold csq
   have h1:=sumP_split (fun i=>mvl c x i j*mvl c x i j) j (r-j)
   rw [show j+(r-j)=r by omega] at h1
   rw [h1]
   have h2:0≤sumP (fun i=>mvl c x i j*mvl c x i j) j:=sumP_nonneg fun i _=>rat_sq_nonneg _
   have h3:sumP (fun i=>W (el (colL r c x j j) i)*W (el (colL r c x j j) i)) (r-j)=sumP (fun a=>mvl c x (j+a) j*mvl c x (j+a) j) (r-j):=sumP_congr fun a ha=>by rw [el_colL ha,←sv_W]; rfl
   rw [h3]; grind
  have k3:=Rat.mul_le_mul_of_nonneg_left (Rat.le_trans hlen (Rat.mul_le_mul_of_nonneg_left hz (by decide +kernel))) u2
  have hcq:=Rat.mul_nonneg u2 (csq_nonneg r c x j)
  refine Rat.le_trans (Rat.le_trans k1 k2) ?_
  generalize csq r c x j=cq at *
  have f1:250000*ee*ee=250000*(ee*ee):=by grind
  have f2:840000*uu*uu*cq=840000*(uu*uu*cq):=by grind
  have f3:371*371*(uu*uu)*(bh*bh)=137641*(uu*uu*(bh*bh)):=by grind
  have f4:uu*uu*(1002/1000*cq)=1002/1000*(uu*uu*cq):=by grind
  rw [f1,f2,f3]
  rw [f4] at k3
  generalize uu*uu*(bh*bh)=X at *
  generalize uu*uu*cq=Y at *
  generalize ee*ee=E at *
  clear k1 k2 app ownc behind ahead above hf hb
  grind
theorem hmm_mm {r n:Nat} {t:Rat} {w:Nat→Rat} (X Y:Nat→Nat→Rat) (i k:Nat):hmm r t w (mm n X Y) i k=mm n (hmm r t w X) Y i k:=by
 unfold hmm hv mm
 have e1:sumP (fun l=>w l*sumP (fun j=>X l j*Y j k) n) r=sumP (fun j=>sumP (fun l=>w l*X l j) r*Y j k) n:=by
  rw [sumP_congr (q:=fun l=>sumP (fun j=>w l*X l j*Y j k) n) fun l _=>by rw [←sumP_mul]; exact sumP_congr fun j _=>by grind]
  rw [sumP_swap (fun l j=>w l*X l j*Y j k) n r]
  exact sumP_congr fun j _=>sumP_mulr _ _ _
 rw [e1,←sumP_mul,←sumP_sub]
 exact sumP_congr fun j _=>by grind
theorem hmm_add {r:Nat} {t:Rat} {w:Nat→Rat} (X Y:Nat→Nat→Rat) (i k:Nat):hmm r t w (fun i k=>X i k+Y i k) i k=hmm r t w X i k+hmm r t w Y i k:=by
 unfold hmm hv
 have e:sumP (fun l=>w l*(X l k+Y l k)) r=sumP (fun l=>w l*X l k) r+sumP (fun l=>w l*Y l k) r:=by rw [←sumP_add]; exact sumP_congr fun l _=>by grind
 rw [e]; grind
theorem hmm_sub {r:Nat} {t:Rat} {w:Nat→Rat} (X Y:Nat→Nat→Rat) (i k:Nat):hmm r t w (fun i k=>X i k-Y i k) i k=hmm r t w X i k-hmm r t w Y i k:=by
 unfold hmm hv
 have e:sumP (fun l=>w l*(X l k-Y l k)) r=sumP (fun l=>w l*X l k) r-sumP (fun l=>w l*Y l k) r:=by rw [←sumP_sub]; exact sumP_congr fun l _=>by grind
 rw [e]; grind
theorem hmm_congr {r:Nat} {t:Rat} {w:Nat→Rat} {X Y:Nat→Nat→Rat} {k:Nat} (h:∀l,l<r→X l k=Y l k) {i:Nat} (hi:i<r):hmm r t w X i k=hmm r t w Y i k:=by
 unfold hmm hv
 dsimp only
 rw [h i hi,sumP_congr (p:=fun l=>w l*X l k) (q:=fun l=>w l*Y l k) fun l hl=>by rw [h l hl]]
theorem hmm_one {r:Nat} {t:Rat} {w:Nat→Rat} {i k:Nat} (hk:k<r):hmm r t w one2 i k=one2 i k-t*(w i*w k):=by
 unfold hmm hv
 have e:sumP (fun l=>w l*one2 l k) r=w k:=by
  rw [sum_pick hk (fun l _ hl=>by unfold one2; rw [if_neg hl]; grind)]
  unfold one2; rw [if_pos rfl]; grind
 rw [e]; grind
theorem one2_comm (i k:Nat):one2 i k=one2 k i:=by
 unfold one2
 by_cases h:i=k
 ·rw [if_pos h,if_pos h.symm]
 ·rw [if_neg h,if_neg (fun hh=>h hh.symm)]
theorem mir_one {r j:Nat} {t:Rat} {w:Nat→Rat} (h:MirW r j t w):FN r r (fun i k=>hmm r t w (hmm r t w one2) i k-one2 i k) (690*uu):=by
 have u0:=uu_pos
 refine FN.of (by grind) ?_
 have hww:0≤sumP (fun i=>w i*w i) r:=sumP_nonneg fun i _=>rat_sq_nonneg _
 have kk:=(h.kap.1.mul h.kap.1).2
 have e:sum2 r r (fun i k=>(hmm r t w (hmm r t w one2) i k-one2 i k)*(hmm r t w (hmm r t w one2) i k-one2 i k))=t*(t*sumP (fun i=>w i*w i) r-2)*(t*(t*sumP (fun i=>w i*w i) r-2))*(sumP (fun i=>w i*w i) r*sumP (fun i=>w i*w i) r):=by
  unfold sum2
  rw [sumP_congr (q:=fun i=>t*(t*sumP (fun i=>w i*w i) r-2)*(t*(t*sumP (fun i=>w i*w i) r-2))*sumP (fun i=>w i*w i) r*(w i*w i)) fun i _=>by
   rw [sumP_congr (q:=fun k=>t*(t*sumP (fun i=>w i*w i) r-2)*(t*(t*sumP (fun i=>w i*w i) r-2))*(w i*w i)*(w k*w k)) fun k hk=>by
    have h1:=hv_hv h (fun l=>one2 l k) i
    have h2:sumP (fun l=>w l*one2 l k) r=w k:=by
     rw [sum_pick hk (fun l _ hl=>by unfold one2; rw [if_neg hl]; grind)]
     unfold one2; rw [if_pos rfl]; grind
    rw [h2] at h1
    show (hv r t w (hv r t w fun l=>one2 l k) i-one2 i k)*(hv r t w (hv r t w fun l=>one2 l k) i-one2 i k)=_
    rw [h1]; grind]
   rw [sumP_mul]
   grind]
  rw [sumP_mul]
  grind
 rw [e]
 generalize sumP (fun i=>w i*w i) r=ww at *
 grind
structure BQ (r k:Nat) (q:List Nat):Prop where
 mx:Mx r r q
 fin:Fin2 r r q
 nq:FN r r (mvl r q) (5/2*(1+3000*uu*k))
 og:FN r r (fun i j=>mm r (mvl r q) (trp (mvl r q)) i j-one2 i j) (1500*uu*k)
theorem bq_eye {r:Nat} (hr:r≤6):BQ r 0 (eyV r):=by
 have z:((0:Nat):Rat)=0:=rfl
 refine ⟨eyV_mx hr,fun i k hi hk => ?_,((fn_one hr).congr fun i k hi hk=>(mvl_eye hi hk).symm).mono (by rw [z]; grind),?_⟩
 ·unfold eyV
  rw [el_matL _ hi hk]
  unfold eyG
  split<;>decide
 ·rw [z]
  refine ((FN.zero r r).mono (by grind)).congr fun i k hi hk => ?_
  have e:mm r (mvl r (eyV r)) (trp (mvl r (eyV r))) i k=one2 i k:=by
   rw [←mm_one (n:=r) one2 (i:=i) hk]
   refine mm_congr (fun j hj=>mvl_eye hi hj) fun j hj => ?_
   show mvl r (eyV r) k j=one2 j k
   rw [mvl_eye hk hj,one2_comm]
  rw [e]; grind
theorem k5 {k:Nat} (hk:k≤5):0≤uu*(k:Rat)∧uu*(k:Rat)≤1/1000000000∧(0:Rat)≤k∧(k:Rat)≤5:=by
 obtain ⟨a,b,c⟩:=um_small (m:=k) (by omega)
 have h1:(k:Rat)≤((5:Nat):Rat):=Rat.natCast_le_natCast.2 hk
 exact ⟨a,b,c,h1⟩
theorem FN.cols {r c:Nat} (hc:c≤6) {F X:Nat→Nat→Rat} {α β b:Rat} (hα:0≤α) (hβ:0≤β) (hX:FN r c X b) (h:∀k,k<c→sumP (fun i=>F i k*F i k) r≤α*α*sumP (fun i=>X i k*X i k) r+β*β):FN r c F (α*b+5/2*β):=by
 have h0:=Rat.mul_nonneg hα hX.1
 refine FN.of (by grind) ?_
 rw [sum2_swap]
 have h1:sumP (fun k=>sumP (fun i=>F i k*F i k) r) c≤sumP (fun k=>α*α*sumP (fun i=>X i k*X i k) r+β*β) c:=sumP_le fun k hk=>h k hk
 rw [sumP_add,sumP_mul,sumP_const] at h1
 have h2:=hX.sq
 rw [sum2_swap] at h2
 have h3:=Rat.mul_le_mul_of_nonneg_left h2 (rat_sq_nonneg α)
 have hc6:((c:Nat):Rat)≤((6:Nat):Rat):=Rat.natCast_le_natCast.2 hc
 have e6:((6:Nat):Rat)=6:=rfl
 rw [e6] at hc6
 have h4:=Rat.mul_le_mul_of_nonneg_right hc6 (rat_sq_nonneg β)
 have h5:=Rat.mul_nonneg h0 hβ
 have h6:sumP (fun k=>sumP (fun i=>F i k*F i k) r) c≤α*α*(b*b)+6*(β*β):=by
  unfold sum2 at h3
  grind
 refine Rat.le_trans h6 ?_
 have h7:=rat_sq_nonneg β
 grind
theorem bq_step {r k n:Nat} {q:List Nat} (hk:k≤5) (h:BQ r k q) {m:Mir} (M:MirP r n m) (hn:n≤r):BQ r (k+1) (apV r r q n 0 m.1 m.2.1) ∧
  FN r r (fun i j=>mvl r (apV r r q n 0 m.1 m.2.1) i j-hmm r (sv m.2.1) (wvec n m.1) (mvl r q) i j) (150*uu):=by
 have u0:=uu_pos
 obtain ⟨e0,e1⟩:=ee1
 obtain ⟨t0,t1,k0,k5'⟩:=k5 hk
 have hW:∀i j,i<r→j<r→W (el q (ps i r j))≤P2 300:=fun i j hi hj=>W_of_sv ((h.nq.at hi hj).mono (by
  have:(10:Rat)≤P2 300:=by decide +kernel
  generalize P2 300=p at *
  generalize (k:Rat)=K at *
  generalize uu=u at *
  grind))
 have app:=fun j (hj:j<r)=>app_err h.mx h.fin hW M hn (k0:=0) (Nat.zero_le _) hj
 have hF:FN r r (fun i j=>mvl r (apV r r q n 0 m.1 m.2.1) i j-hmm r (sv m.2.1) (wvec n m.1) (mvl r q) i j) (150*uu):=by
  have:=FN.cols h.mx.hc (α:=58*uu) (β:=350*ee) (by grind) (by grind) h.nq (fun j hj=>Rat.le_trans (app j hj).2 (by
   have a1:=Rat.mul_nonneg (rat_sq_nonneg uu) (csq_nonneg r r q j)
   have a2:=rat_sq_nonneg ee
   show 3300*uu*uu*csq r r q j+120000*ee*ee≤58*uu*(58*uu)*csq r r q j+350*ee*(350*ee)
   grind))
  refine this.mono ?_
  have a1:uu*(uu*(k:Rat))≤uu*(1/1000000000):=Rat.mul_le_mul_of_nonneg_left t1 u0
  generalize (k:Rat)=K at *
  generalize ee=e at *
  generalize uu=u at *
  grind
 have hM:=FN.mir M.mw h.nq
 have eq:∀i j,mvl r (apV r r q n 0 m.1 m.2.1) i j=hmm r (sv m.2.1) (wvec n m.1) (mvl r q) i j+(mvl r (apV r r q n 0 m.1 m.2.1) i j-hmm r (sv m.2.1) (wvec n m.1) (mvl r q) i j):=fun i j=>by grind
 have hcast:((k+1:Nat):Rat)=(k:Rat)+1:=nat_rat k
 refine ⟨⟨apV_mx h.mx M.ok.w M.ok.t (i:=n) (by rw [M.ok.len]; omega),fun i j hi hj=>(app j hj).1 i hi,?_,?_⟩,hF⟩
 ·refine ((hM.add hF).mono ?_).congr fun i j _ _=>(eq i j).symm
  rw [hcast]
  have a1:uu*(uu*(k:Rat))≤uu*(1/1000000000):=Rat.mul_le_mul_of_nonneg_left t1 u0
  generalize (k:Rat)=K at *
  generalize uu=u at *
  grind
 ·
  have p1:=FN.mir M.mw (FN.mir M.mw h.og).tr
  have p2:=mir_one M.mw
  have p3:=hM.mul hF.tr
  have p4:=hF.mul hM.tr
  have p5:=hF.mul hF.tr
  refine ((p1.add (p2.add (p3.add (p4.add p5)))).mono ?_).congr fun i j hi hj => ?_
  ·rw [hcast]
   have a1:uu*(uu*(k:Rat))≤uu*(1/1000000000):=Rat.mul_le_mul_of_nonneg_left t1 u0
   have a2:uu*(uu*(uu*(k:Rat)))≤uu*(uu*(1/1000000000)):=Rat.mul_le_mul_of_nonneg_left a1 u0
   have a3:=Rat.mul_le_mul_of_nonneg_left (show uu≤1/1000000000 by decide +kernel) u0
   have a4:=Rat.mul_le_mul_of_nonneg_left a3 u0
   generalize (k:Rat)=K at *
   generalize uu=u at *
   grind
  ·have e1:mm r (mvl r (apV r r q n 0 m.1 m.2.1)) (trp (mvl r (apV r r q n 0 m.1 m.2.1))) i j=mm r (fun i j=>hmm r (sv m.2.1) (wvec n m.1) (mvl r q) i j+(mvl r (apV r r q n 0 m.1 m.2.1) i j-hmm r (sv m.2.1) (wvec n m.1) (mvl r q) i j)) (fun i j=>trp (hmm r (sv m.2.1) (wvec n m.1) (mvl r q)) i j+trp (fun i j=>mvl r (apV r r q n 0 m.1 m.2.1) i j-hmm r (sv m.2.1) (wvec n m.1) (mvl r q) i j) i j) i j :=
    mm_congr (fun l _=>eq i l) (fun l _=>eq j l)
   rw [e1,mm_addl,mm_addr,mm_addr]
   have e2:mm r (hmm r (sv m.2.1) (wvec n m.1) (mvl r q)) (trp (hmm r (sv m.2.1) (wvec n m.1) (mvl r q))) i j=hmm r (sv m.2.1) (wvec n m.1) (trp (hmm r (sv m.2.1) (wvec n m.1) (mm r (mvl r q) (trp (mvl r q))))) i j:=by
    rw [←hmm_mm]
    refine hmm_congr (fun l _ => ?_) hi
    show mm r (mvl r q) (trp (hmm r (sv m.2.1) (wvec n m.1) (mvl r q))) l j=hmm r (sv m.2.1) (wvec n m.1) (mm r (mvl r q) (trp (mvl r q))) j l
    rw [hmm_mm,mm_tr]
    rfl
   have e3:hmm r (sv m.2.1) (wvec n m.1) (trp (hmm r (sv m.2.1) (wvec n m.1) (mm r (mvl r q) (trp (mvl r q))))) i j=hmm r (sv m.2.1) (wvec n m.1) (trp (hmm r (sv m.2.1) (wvec n m.1) (fun i j=>mm r (mvl r q) (trp (mvl r q)) i j-one2 i j))) i j+hmm r (sv m.2.1) (wvec n m.1) (hmm r (sv m.2.1) (wvec n m.1) one2) i j:=by
    rw [←hmm_add]
    refine hmm_congr (fun l hl => ?_) hi
    show hmm r (sv m.2.1) (wvec n m.1) (mm r (mvl r q) (trp (mvl r q))) j l=hmm r (sv m.2.1) (wvec n m.1) (fun i j=>mm r (mvl r q) (trp (mvl r q)) i j-one2 i j) j l+hmm r (sv m.2.1) (wvec n m.1) one2 l j
    rw [hmm_sub,hmm_one hl,hmm_one hj,one2_comm l j]
    grind
   rw [e2,e3]
   grind
def bq (r:Nat):List Mir→Nat→List Nat
 | [],_=>eyV r
 | m::ms,j=>apV r r (bq r ms (j+1)) j 0 m.1 m.2.1
theorem backR_bq {r:Nat}:∀(n:Nat) (ms ms2:List Mir),ms.length=n→backR r (ms++ms2) n (bq r ms2 n)=bq r (ms++ms2) 0
 | 0,ms,ms2,h=>by rw [List.eq_nil_of_length_eq_zero h]; rfl
 | n+1,ms,ms2,h=>by
  obtain ⟨ms',m,rfl⟩:∃ms' m,ms=ms'++[m]:=⟨ms.dropLast,ms.getLast (by intro hh; rw [hh] at h; simp at h),(List.dropLast_concat_getLast _).symm⟩
  have hl:ms'.length=n:=by simp at h; omega
  have ih:=backR_bq (r:=r) n ms' (m::ms2) hl
  have e:mir (ms'++[m]++ms2) n=m:=by
   unfold mir
   rw [List.getD_eq_getElem?_getD,List.append_assoc,List.getElem?_append_right (by omega),hl,Nat.sub_self]
   rfl
  unfold backR
  rw [e,List.append_assoc]
  exact ih
theorem qrQ_bq (r:Nat) (ms:List Mir):qrQ r ms=bq r ms 0:=by
 have:=backR_bq (r:=r) ms.length ms [] rfl
 rw [List.append_nil] at this
 exact this
theorem ee_b {b:Rat} (h:P2 (-110)≤b):100000*ee≤uu*(1/1000000)*b:=by
 have a2:100000*ee≤uu*(1/1000000)*P2 (-110):=by decide +kernel
 have a3:=Rat.mul_le_mul_of_nonneg_left h (show 0≤uu*(1/1000000) by decide +kernel)
 exact Rat.le_trans a2 a3
theorem fn_bound {r c:Nat} {x:List Nat} {b b':Rat} (hF:FN r c (mvl c x) b') (hb:b'≤2*b) (b2:b≤P2 190):∀i k,i<r→k<c→W (el x (ps i c k))≤P2 200:=fun i k hi hk=>by
 refine W_of_sv ((hF.at hi hk).mono (Rat.le_trans hb ?_))
 have:2*P2 190≤P2 200:=by decide +kernel
 generalize P2 200=p at *
 generalize P2 190=p2 at *
 grind
theorem dn_fn {r c j:Nat} {x:List Nat} (h:Mx r c x) (E:DnE r c j x) {b':Rat} (hF:FN r c (mvl c x) b') :
  FN r c (fun i k=>mvl c (dnX r c j x) i k-hmm r (sv (dnM r c j x).2.1) (wvec j (dnM r c j x).1) (mvl c x) i k) (917*uu*b'+1250*ee):=by
 have u0:=uu_pos
 obtain ⟨e0,e1⟩:=ee1
 have:=FN.cols (F:=fun i k=>mvl c (dnX r c j x) i k-hmm r (sv (dnM r c j x).2.1) (wvec j (dnM r c j x).1) (mvl c x) i k) h.hc (α:=917*uu) (β:=500*ee) (by grind) (by grind) hF (fun k hk=>by
  have a1:=Rat.mul_nonneg (rat_sq_nonneg uu) (csq_nonneg r c x k)
  have a2:=rat_sq_nonneg ee
  by_cases hkj:k=j
  ·subst hkj
   refine Rat.le_trans E.own ?_
   show 840000*uu*uu*csq r c x k+250000*ee*ee≤917*uu*(917*uu)*csq r c x k+500*ee*(500*ee)
   grind
  ·refine Rat.le_trans (E.oth k hk hkj) ?_
   show 3300*uu*uu*csq r c x k+120000*ee*ee≤917*uu*(917*uu)*csq r c x k+500*ee*(500*ee)
   grind)
 exact this.mono (by grind)
theorem dnR_err {r c:Nat} {b:Rat} (b1:P2 (-110)≤b) (b2:b≤P2 190):∀(n j:Nat) (x:List Nat) (ms:List Mir),j+n≤c→j+n≤r→j+n≤5→(n=0∨j<r)→Mx r c x→Fin2 r c x→FN r c (mvl c x) (b*(1+3000*uu*(j:Nat)))→UpTo r c j x →
  ∃y ms2,dnR r c n j x ms=some (y,ms++ms2)∧ms2.length=n∧Mx r c y∧Fin2 r c y∧FN r c (mvl c y) (b*(1+3000*uu*((j+n:Nat):Rat)))∧BQ r n (bq r ms2 j) ∧
   FN r c (fun i k=>mvl c x i k-mm r (mvl r (bq r ms2 j)) (mvl c y) i k) (b*(2000*uu*(n:Nat)))
 | 0,j,x,ms,hc,hr,h5,_,h,hf,hF,hu=>by
  refine ⟨x,[],by unfold dnR; rw [List.append_nil],rfl,h,hf,hF,bq_eye h.hr,?_⟩
  have z:((0:Nat):Rat)=0:=rfl
  rw [z]
  refine ((FN.zero r c).mono (by grind)).congr fun i k hi hk => ?_
  have e:mm r (mvl r (bq r [] j)) (mvl c x) i k=mvl c x i k:=by
   rw [←one_mm (n:=r) (mvl c x) (k:=k) hi]
   exact mm_congr (fun l hl=>mvl_eye hi hl) fun l hl=>rfl
  rw [e]; grind
 | n+1,j,x,ms,hc,hr,h5,h0,h,hf,hF,hu=>by
  have u0:=uu_pos
  obtain ⟨e0,e1⟩:=ee1
  obtain ⟨t0,t1,j0,j5⟩:=k5 (show j≤5 by omega)
  obtain ⟨t0',t1',n0,n5⟩:=k5 (show n≤5 by omega)
  have hb0:0≤b:=Rat.le_trans (Rat.le_of_lt (P2_pos _)) b1
  have ub:=Rat.mul_nonneg u0 hb0
  have heb:=ee_b b1
  have tb:=Rat.mul_le_mul_of_nonneg_right t1 hb0
  have tb':=Rat.mul_le_mul_of_nonneg_right t1' hb0
  have hF2:b*(1+3000*uu*(j:Rat))≤2*b:=by
   generalize (j:Rat)=J at *; generalize uu=u at *; grind
  have hF3:=Rat.mul_nonneg u0 t0
  have E:=dn_err h hf (fun i k hi hk=>Rat.le_trans (fn_bound hF hF2 b2 i k hi hk) (P2_mono (by omega))) (by omega) (by omega) hu
  have hx':=dn_fn h E hF
  have hM:=FN.mir E.mp.mw hF
  have eq:∀i k,mvl c (dnX r c j x) i k=hmm r (sv (dnM r c j x).2.1) (wvec j (dnM r c j x).1) (mvl c x) i k+(mvl c (dnX r c j x) i k-hmm r (sv (dnM r c j x).2.1) (wvec j (dnM r c j x).1) (mvl c x) i k):=fun i k=>by grind
  have hFn:FN r c (mvl c (dnX r c j x)) (b*(1+3000*uu*((j+1:Nat):Rat))):=by
   refine ((hM.add hx').mono ?_).congr fun i k _ _=>(eq i k).symm
   rw [nat_rat]
   generalize (j:Rat)=J at *
   have a1:uu*(uu*J*b)≤uu*(1/1000000000*b):=Rat.mul_le_mul_of_nonneg_left tb u0
   have a2:uu*(uu*(uu*J*b))≤uu*(uu*(1/1000000000*b)):=Rat.mul_le_mul_of_nonneg_left a1 u0
   have a3:=Rat.mul_le_mul_of_nonneg_right (show uu≤1/1000000000 by decide +kernel) ub
   generalize ee=e at *
   generalize uu=u at *
   grind
  have hmx:=dnX_mx h (show j<c by omega) (show j<r by omega)
  obtain ⟨y,ms2,d1,d2,d3,d4,d5,d6,d7⟩:=dnR_err b1 b2 n (j+1) (dnX r c j x) (ms++[dnM r c j x]) (by omega) (by omega) (by omega) (by omega) hmx E.fin hFn (dnX_up h (by omega) (by omega) hu)
  have hq:=bq_step (show n≤5 by omega) d6 E.mp (show j≤r by omega)
  refine ⟨y,dnM r c j x::ms2,?_,by simp [d2],d3,d4,by rw [show j+(n+1)=j+1+n by omega]; exact d5,hq.1,?_⟩
  ·unfold dnR
   rw [if_pos E.ok,d1,List.append_assoc]; rfl
  ·have p1:=FN.mir2 E.mp.mw hF
   have p2:=FN.mir E.mp.mw d7
   have p3:=FN.mir E.mp.mw hx'
   have p4:=hq.2.mul d5
   refine (((p2.sub p1).sub (p3.add p4)).mono ?_).congr fun i k hi hk => ?_
   ·rw [nat_rat]
    have ec:((j+1+n:Nat):Rat)≤((5:Nat):Rat):=Rat.natCast_le_natCast.2 (by omega)
    have e5:((5:Nat):Rat)=5:=rfl
    rw [e5] at ec
    have ec0:(0:Rat)≤((j+1+n:Nat):Rat):=Rat.natCast_nonneg
    have hz:=Rat.mul_le_mul_of_nonneg_left ec (Rat.mul_nonneg u0 ub)
    generalize ((j+1+n:Nat):Rat)=z at *
    have k1:uu*(uu*(j:Rat)*b)≤uu*(1/1000000000*b):=Rat.mul_le_mul_of_nonneg_left tb u0
    have k2:uu*(uu*(uu*(j:Rat)*b))≤uu*(uu*(1/1000000000*b)):=Rat.mul_le_mul_of_nonneg_left k1 u0
    have k3:uu*(uu*(n:Rat)*b)≤uu*(1/1000000000*b):=Rat.mul_le_mul_of_nonneg_left tb' u0
    have k4:=Rat.mul_le_mul_of_nonneg_right (show uu≤1/1000000000 by decide +kernel) ub
    have k5:=Rat.mul_le_mul_of_nonneg_left k4 u0
    have k6:=Rat.mul_le_mul_of_nonneg_left heb u0
    have k7:=Rat.mul_nonneg u0 e0
    clear hFn hM hx' eq hq p1 p2 p3 p4 d1 d2 d3 d4 d5 d6 d7 hmx E
    generalize (j:Rat)=J at *
    generalize (n:Rat)=N at *
    generalize ee=e at *
    generalize uu=u at *
    grind
   ·have e1:mm r (mvl r (bq r (dnM r c j x::ms2) j)) (mvl c y) i k=hmm r (sv (dnM r c j x).2.1) (wvec j (dnM r c j x).1) (mm r (mvl r (bq r ms2 (j+1))) (mvl c y)) i k+mm r (fun i j_1=>mvl r (apV r r (bq r ms2 (j+1)) j 0 (dnM r c j x).1 (dnM r c j x).2.1) i j_1-hmm r (sv (dnM r c j x).2.1) (wvec j (dnM r c j x).1) (mvl r (bq r ms2 (j+1))) i j_1) (mvl c y) i k:=by
     rw [mm_subl,hmm_mm]
     show mm r (mvl r (apV r r (bq r ms2 (j+1)) j 0 (dnM r c j x).1 (dnM r c j x).2.1)) (mvl c y) i k=_
     grind
    have e2:hmm r (sv (dnM r c j x).2.1) (wvec j (dnM r c j x).1) (fun i k=>mvl c (dnX r c j x) i k-mm r (mvl r (bq r ms2 (j+1))) (mvl c y) i k) i k=hmm r (sv (dnM r c j x).2.1) (wvec j (dnM r c j x).1) (hmm r (sv (dnM r c j x).2.1) (wvec j (dnM r c j x).1) (mvl c x)) i k+hmm r (sv (dnM r c j x).2.1) (wvec j (dnM r c j x).1) (fun i k=>mvl c (dnX r c j x) i k-hmm r (sv (dnM r c j x).2.1) (wvec j (dnM r c j x).1) (mvl c x) i k) i k-hmm r (sv (dnM r c j x).2.1) (wvec j (dnM r c j x).1) (mm r (mvl r (bq r ms2 (j+1))) (mvl c y)) i k:=by
     rw [hmm_sub,hmm_sub]; grind
    rw [e1,e2]
    grind
structure QrE (r c:Nat) (x q y:List Nat) (b:Rat):Prop where
 bq:BQ r 5 q
 my:Mx r c y
 fy:Fin2 r c y
 ny:FN r c (mvl c y) (b*(1+15000*uu))
 res:FN r c (fun i k=>mvl c x i k-mm r (mvl r q) (mvl c y) i k) (b*(10000*uu))
theorem BQ.mono {r k k':Nat} {q:List Nat} (h:BQ r k q) (hk:k≤k'):BQ r k' q:=by
 have h1:(k:Rat)≤(k':Rat):=Rat.natCast_le_natCast.2 hk
 have h2:=Rat.mul_le_mul_of_nonneg_left h1 uu_pos
 refine ⟨h.mx,h.fin,h.nq.mono ?_,h.og.mono ?_⟩<;>grind
theorem qr_err {r c:Nat} {x:List Nat} (h:Mx r c x) (hf:Fin2 r c x) {b:Rat} (b1:P2 (-110)≤b) (b2:b≤P2 190) (hF:FN r c (mvl c x) b):∃q y,qrR r c x=some (q,y)∧QrE r c x q y b:=by
 have hr:=h.hr
 have z:((0:Nat):Rat)=0:=rfl
 have hb0:0≤b:=Rat.le_trans (Rat.le_of_lt (P2_pos _)) b1
 have hn5:min c (r-1)≤5:=by omega
 obtain ⟨y,ms2,d1,d2,d3,d4,d5,d6,d7⟩:=dnR_err b1 b2 (min c (r-1)) 0 x [] (by omega) (by omega) (by omega) (by omega) h hf (hF.mono (by rw [z]; grind)) (fun a k hk=>by omega)
 rw [List.nil_append] at d1
 have hq:=d6.mono hn5
 have hn:(((min c (r-1):Nat):Nat):Rat)≤((5:Nat):Rat):=Rat.natCast_le_natCast.2 hn5
 have e5:((5:Nat):Rat)=5:=rfl
 have ub:=Rat.mul_nonneg uu_pos hb0
 have hm:=Rat.mul_le_mul_of_nonneg_left hn ub
 rw [e5] at hm
 refine ⟨bq r ms2 0,y,?_,hq,d3,d4,d5.mono ?_,d7.mono ?_⟩
 ·unfold qrR dnA
  rw [d1]
  simp only
  rw [qrQ_bq,(fin2_iff hq.mx).2 hq.fin,(fin2_iff d3).2 d4]
  rfl
 ·rw [Nat.zero_add]
  generalize ((min c (r-1):Nat):Rat)=N at *
  clear d7 d5 d6 hq
  grind
 ·generalize ((min c (r-1):Nat):Rat)=N at *
  clear d7 d5 d6 hq
  grind
theorem awake_18:val 76 []=some [Vb true]:=val_iff.2 ⟨20000,by kernel_rfl⟩
theorem hat_ok {r c:Nat} {x:List Nat} (h:Mx r c x) {i k:Nat} (hi:i<r) (hk:k<c):val 235 [Vi r,Vi c,Vl x,Vi i,Vi k]=some [Vu (el x (ps i c k))]:=by
 refine val_of tab235 ?_
 have h1:=h.hr
 have h2:=h.hc
 have e1:=pos_i (i:=i) (c:=c) (k:=k) (by omega) (by omega) (by omega)
 have hl:=h.lt hi hk
 simp [tr235,TT.dv,e1,hl,get_V hl]
section
end
def chI (c b:Nat):Nat→Nat→List Nat→List Nat
 | 0,_,m=>m
 | n+1,i,m=>chI c b n (i+1) (fin1 (fun k=>ps i c k) (fun _=>0) (i-b) 0 m)
theorem fin0_mx {r c:Nat} {pos:Nat→Nat}:∀(n k:Nat) {m:List Nat},Mx r c m→Mx r c (fin1 pos (fun _=>0) n k m)
 | 0,_,_,h=>h
 | n+1,k,m,h=>fin0_mx n (k+1) (h.set (p:=pos k) (v:=0) (by decide))
theorem chI_mx {r c b:Nat}:∀(n i:Nat) {m:List Nat},Mx r c m→Mx r c (chI c b n i m)
 | 0,_,_,h=>h
 | n+1,i,m,h=>chI_mx n (i+1) (fin0_mx _ _ h)
theorem chI_at {n b:Nat}:∀(t i:Nat) {m:List Nat},m.length=n*n→i+t=n→∀i' k,i'<n→k<n→el (chI n b t i m) (ps i' n k)=if i≤i'∧k+b<i' then 0 else el m (ps i' n k)
 | 0,i,m,_,he,i',k,hi,hk=>by unfold chI; rw [if_neg (by omega)]
 | t+1,i,m,hl,he,i',k,hi,hk=>by
  unfold chI
  rw [chI_at t (i+1) (by rw [fin1_len,hl]) (by omega) i' k hi hk]
  by_cases h1:i+1≤i'∧k+b<i'
  ·rw [if_pos h1,if_pos ⟨by omega,h1.2⟩]
  ·rw [if_neg h1]
   by_cases h2:i=i'∧k+b<i'
   ·rw [if_pos ⟨by omega,h2.2⟩]
    obtain ⟨rfl,h3⟩:=h2
    exact fin1_at (pos:=fun k=>ps i n k) (v:=fun _=>0) (i-b) 0 m (fun j _ h4=>by rw [hl]; exact ps_lt hi (by omega)) (fun j j' _ a _ a' hh=>(ps_inj (by omega) (by omega) hh).2) k (Nat.zero_le _) (by omega)
   ·rw [if_neg (by omega)]
    refine fin1_other (i-b) 0 m fun j _ h4 hh => ?_
    have:=ps_inj (show j<n by omega) hk hh
    omega
def clH (n b:Nat) (m:List Nat):List Nat:=chI n b n 0 m
theorem clH_mx {n b:Nat} {m:List Nat} (h:Mx n n m):Mx n n (clH n b m):=chI_mx _ _ h
section
variable {n b:Nat} (hb:b≤1)
include hb
theorem ch_in {i:Nat} (hi:i<n) {x2 x5:PV}:∀(t:Nat) {k:Nat} {m:List Nat},k+t=i-b→Mx n n m →
  rounds (fun vs=>lo236_2.dv (Vi n::Vi n::x2::Vi b::Vi i::x5::vs)) [Vi k,Vl m]=some (.y (.ext 2) [Vl (fin1 (fun k=>ps i n k) (fun _=>0) t k m)]):=by
 intro t
 induction t with
 | zero =>
  intro k m hk h
  have hn:=h.hr
  have e2:(B.add .i64).den (Vi k) (Vi b)=Vi ((k+b:Nat):Int):=by rw [add_i (by omega) (by omega)]; exact congrArg Vi (by omega)
  refine rounds_exit ?_ (by simp)
  have e3:¬((k+b:Nat):Int)<i:=by omega
  generalize ((k+b:Nat):Int)=z at *
  simp [lo236_2,TT.dv,e2,e3,fin1]
 | succ t ih =>
  intro k m hk h
  have hn:=h.hr
  have hkn:k<n:=by omega
  refine Eq.trans (rounds_cont ?_) (ih (k:=k+1) (by omega) (h.set (p:=ps i n k) (v:=0) (by decide)))
  have e1:(B.add .i64).den (Vi k) (Vi 1)=Vi (k+1):=add_i (by omega) (by omega)
  have e2:(B.add .i64).den (Vi k) (Vi b)=Vi ((k+b:Nat):Int):=by rw [add_i (by omega) (by omega)]; exact congrArg Vi (by omega)
  have p1:=pos_i (i:=i) (c:=n) (k:=k) (by omega) (by omega) (by omega)
  have l1:=h.lt hi hkn
  have e3:((k+b:Nat):Int)<i:=by omega
  generalize ((k+b:Nat):Int)=z at *
  simp [lo236_2,TT.dv,e1,e2,e3,p1,l1,set_V]
theorem ch_out {x2:PV}:∀(t:Nat) {i:Nat} {m:List Nat},i+t=n→Mx n n m →
  rounds (fun vs=>lo236_1.dv (Vi n::Vi n::x2::Vi b::vs)) [Vi i,Vl m]=some (.y (.ext 0) [Vl (chI n b t i m)]):=by
 intro t
 induction t with
 | zero =>
  intro i m hi h
  have:i=n:=by omega
  subst this
  refine rounds_exit ?_ (by simp)
  simp [lo236_1,TT.dv,chI]
 | succ t ih =>
  intro i m hi h
  have hn:=h.hr
  have hin:i<n:=by omega
  refine Eq.trans (rounds_cont ?_) (ih (i:=i+1) (by omega) (fin0_mx (i-b) 0 h))
  have e1:(B.add .i64).den (Vi i) (Vi 1)=Vi (i+1):=add_i (by omega) (by omega)
  have lp:=fun x5=>ch_in hb hin (x2:=x2) (x5:=x5) (i-b) (k:=0) (m:=m) (by omega) h
  simp only [show ((0:Nat):Int)=0 from rfl] at lp
  simp [lo236_1,TT.dv,KS.dv,hin,e1,lp]
theorem clh_ok {m:List Nat} (h:Mx n n m):val 236 [Vi n,Vi n,Vl m,Vi b]=some [Vl (clH n b m)]:=by
 refine val_of tab236 ?_
 have lp:=fun x2=>ch_out hb (x2:=x2) n (i:=0) (m:=m) (by omega) h
 simp only [show ((0:Nat):Int)=0 from rfl] at lp
 simp [tr236,TT.dv,KS.dv,lp,clH]
end
structure Q4 where
 H:List Nat
 T:List Nat
 Q:List Nat
 Z:List Nat
structure Mx4 (n:Nat) (s:Q4):Prop where
 H:Mx n n s.H
 T:Mx n n s.T
 Q:Mx n n s.Q
 Z:Mx n n s.Z
def hrF (n i j:Nat) (s:Q4):Nat:=el s.H (ps (i-1) n j)
def hrG (n i j:Nat) (s:Q4):Nat:=el s.H (ps i n j)
def hrV (n i j:Nat) (s:Q4) (C S r:Nat):Q4 :=
 ⟨((rowV s.H n (i-1) i C S).set (ps (i-1) n j) r).set (ps i n j) 0,rowV s.T n (i-1) i C S,colV n n s.Q (i-1) i C S,s.Z⟩
def hsR (n i j:Nat) (s:Q4):Q4:=hrV n i j s (turnC (hrF n i j s) (hrG n i j s)) (turnS (hrF n i j s) (hrG n i j s)) (turnR (hrF n i j s) (hrG n i j s))
def hcF (n i:Nat) (s:Q4):Nat:=el s.T (ps i n i)
def hcG (n i:Nat) (s:Q4):Nat:=el s.T (ps i n (i-1))
def hcV (n i:Nat) (s:Q4) (C S r:Nat):Q4 :=
 ⟨colV n n s.H i (i-1) C S,((colV n n s.T i (i-1) C S).set (ps i n i) r).set (ps i n (i-1)) 0,s.Q,colV n n s.Z i (i-1) C S⟩
def hsC (n i:Nat) (s:Q4):Q4:=hcV n i s (turnC (hcF n i s) (hcG n i s)) (turnS (hcF n i s) (hcG n i s)) (turnR (hcF n i s) (hcG n i s))
def finP (a b:Nat):Bool:=decide (¬(fPow a=2047∨fPow b=2047))
def hsS (n i j:Nat) (s:Q4):Option Q4 :=
 if finP (hrF n i j s) (hrG n i j s) then (if finP (hcF n i (hsR n i j s)) (hcG n i (hsR n i j s)) then some (hsC n i (hsR n i j s)) else none) else none
theorem turn_lt {f g:Nat} (hf:f<18446744073709551616) (hg:g<18446744073709551616):turnC f g<18446744073709551616∧turnS f g<18446744073709551616∧turnR f g<18446744073709551616:=by
 refine ⟨?_,?_,?_⟩
 ·unfold turnC; split; decide; split; decide; exact divV_lt
 ·unfold turnS; split; decide; split; decide; exact divV_lt
 ·unfold turnR; split; exact hf; split; exact hg; exact scaleV_lt (tN_lt hf hg) _
section
variable {n i:Nat} (hi:1≤i) (hin:i<n)
include hi hin
theorem hrV_mx {j:Nat} {s:Q4} (h:Mx4 n s) {C S r:Nat} (hC:C<18446744073709551616) (hS:S<18446744073709551616) (hr:r<18446744073709551616):Mx4 n (hrV n i j s C S r) :=
 ⟨((rowV_mx h.H hC hS (i:=i-1) (k:=i) (by omega) hin).set hr).set (by decide),rowV_mx h.T hC hS (i:=i-1) (k:=i) (by omega) hin,colV_mx h.Q hC hS (i:=i-1) (k:=i) (by omega) hin,h.Z⟩
theorem hcV_mx {s:Q4} (h:Mx4 n s) {C S r:Nat} (hC:C<18446744073709551616) (hS:S<18446744073709551616) (hr:r<18446744073709551616):Mx4 n (hcV n i s C S r) :=
 ⟨colV_mx h.H hC hS (i:=i) (k:=i-1) hin (by omega),((colV_mx h.T hC hS (i:=i) (k:=i-1) hin (by omega)).set hr).set (by decide),h.Q,colV_mx h.Z hC hS (i:=i) (k:=i-1) hin (by omega)⟩
theorem hsR_mx {j:Nat} {s:Q4} (h:Mx4 n s):Mx4 n (hsR n i j s):=by
 obtain ⟨a,b,c⟩:=turn_lt (f:=hrF n i j s) (g:=hrG n i j s) (h.H.w.el _) (h.H.w.el _)
 exact hrV_mx hi hin h a b c
theorem hsC_mx {s:Q4} (h:Mx4 n s):Mx4 n (hsC n i s):=by
 obtain ⟨a,b,c⟩:=turn_lt (f:=hcF n i s) (g:=hcG n i s) (h.T.w.el _) (h.T.w.el _)
 exact hcV_mx hi hin h a b c
theorem hsS_mx {j:Nat} {s s':Q4} (h:Mx4 n s) (he:hsS n i j s=some s'):Mx4 n s':=by
 unfold hsS at he
 split at he
 ·split at he
  ·cases he; exact hsC_mx hi hin (hsR_mx hi hin h)
  ·cases he
 ·cases he
theorem hrows_ok {j:Nat} (hj:j<n) {s:Q4} (h:Mx4 n s):val 1 [Vi n,Vi n,Vl s.H,Vi n,Vi n,Vl s.T,Vi n,Vi n,Vl s.Q,Vi n,Vi n,Vl s.Z,Vi i,Vi j] =
  some (if finP (hrF n i j s) (hrG n i j s) then [Vi n,Vi n,Vl (hsR n i j s).H,Vi n,Vi n,Vl (hsR n i j s).T,Vi n,Vi n,Vl (hsR n i j s).Q,Vi n,Vi n,Vl (hsR n i j s).Z,Vi 0]
   else [Vi 0,Vi 0,Vl [],Vi 0,Vi 0,Vl [],Vi 0,Vi 0,Vl [],Vi 0,Vi 0,Vl [],Vi 2]):=by
 refine val_of tab1 ?_
 have hn:=h.H.hr
 have e1:(B.sub .i64).den (Vi i) (Vi 1)=Vi ((i-1:Nat):Int):=by rw [sub_i (by omega) (by omega)]; exact congrArg Vi (by omega)
 have a1:val 235 [Vi n,Vi n,Vl s.H,(B.sub .i64).den (Vi i) (Vi 1),Vi j]=some [Vu (hrF n i j s)]:=by rw [e1]; exact hat_ok h.H (i:=i-1) (by omega) hj
 have a2:val 235 [Vi n,Vi n,Vl s.H,Vi i,Vi j]=some [Vu (hrG n i j s)]:=hat_ok h.H hin hj
 have t1:=turn_ok (f:=hrF n i j s) (g:=hrG n i j s) (h.H.w.el _) (h.H.w.el _)
 obtain ⟨l1,l2,l3⟩:=turn_lt (f:=hrF n i j s) (g:=hrG n i j s) (h.H.w.el _) (h.H.w.el _)
 unfold finP hsR
 generalize hrF n i j s=f at *
 generalize hrG n i j s=g at *
 by_cases c:fPow f=2047∨fPow g=2047
 ·rw [if_pos c] at t1
  rw [decide_eq_false (fun hh=>hh c),if_neg (by decide)]
  refine Eq.trans (st_call rfl a1 rfl) ?_
  refine Eq.trans (st_call rfl a2 rfl) ?_
  refine Eq.trans (st_call rfl t1 rfl) ?_
  simp only [List.cons_append,List.nil_append]
  refine Eq.trans (st_t (by simp)) ?_
  rfl
 ·rw [if_neg c] at t1
  rw [decide_eq_true c,if_pos rfl]
  generalize turnC f g=C at *
  generalize turnS f g=S at *
  generalize turnR f g=r at *
  have r1:val 231 [Vi n,Vi n,Vl s.H,(B.sub .i64).den (Vi i) (Vi 1),Vi i,Vu C,Vu S]=some [Vi n,Vi n,Vl (rowV s.H n (i-1) i C S),Vi 0]:=by rw [e1]; exact rows_ok h.H l1 l2 (by omega) hin (by omega)
  have r2:val 231 [Vi n,Vi n,Vl s.T,(B.sub .i64).den (Vi i) (Vi 1),Vi i,Vu C,Vu S]=some [Vi n,Vi n,Vl (rowV s.T n (i-1) i C S),Vi 0]:=by rw [e1]; exact rows_ok h.T l1 l2 (by omega) hin (by omega)
  have r3:val 230 [Vi n,Vi n,Vl s.Q,(B.sub .i64).den (Vi i) (Vi 1),Vi i,Vu C,Vu S]=some [Vi n,Vi n,Vl (colV n n s.Q (i-1) i C S),Vi 0]:=by rw [e1]; exact cols_ok h.Q l1 l2 (by omega) hin (by omega)
  have m1:=rowV_mx h.H l1 l2 (i:=i-1) (k:=i) (by omega) hin
  have p1:(B.add .i64).den ((B.mul .i64).den ((B.sub .i64).den (Vi i) (Vi 1)) (Vi n)) (Vi j)=Vi (ps (i-1) n j):=by rw [e1]; exact pos_i (i:=i-1) (c:=n) (k:=j) (by omega) (by omega) (by omega)
  have p2:=pos_i (i:=i) (c:=n) (k:=j) (by omega) (by omega) (by omega)
  have q1:=m1.lt (show i-1<n by omega) hj
  have q2:=m1.lt hin hj
  unfold hrV
  simp only
  generalize rowV s.H n (i-1) i C S=H' at *
  generalize rowV s.T n (i-1) i C S=T' at *
  generalize colV n n s.Q (i-1) i C S=Q' at *
  refine Eq.trans (st_call rfl a1 rfl) ?_
  refine Eq.trans (st_call rfl a2 rfl) ?_
  refine Eq.trans (st_call rfl t1 rfl) ?_
  simp only [List.cons_append,List.nil_append]
  refine Eq.trans (st_f (by simp)) ?_
  refine Eq.trans (st_call rfl r1 rfl) ?_
  refine Eq.trans (st_call rfl r2 rfl) ?_
  refine Eq.trans (st_call rfl r3 rfl) ?_
  simp only [List.cons_append,List.nil_append]
  simp [TT.dv,p1,p2,q1,q2,set_V]
theorem hcols_ok {s:Q4} (h:Mx4 n s):val 0 [Vi n,Vi n,Vl s.H,Vi n,Vi n,Vl s.T,Vi n,Vi n,Vl s.Q,Vi n,Vi n,Vl s.Z,Vi i] =
  some (if finP (hcF n i s) (hcG n i s) then [Vi n,Vi n,Vl (hsC n i s).H,Vi n,Vi n,Vl (hsC n i s).T,Vi n,Vi n,Vl (hsC n i s).Q,Vi n,Vi n,Vl (hsC n i s).Z,Vi 0]
   else [Vi 0,Vi 0,Vl [],Vi 0,Vi 0,Vl [],Vi 0,Vi 0,Vl [],Vi 0,Vi 0,Vl [],Vi 2]):=by
 refine val_of tab0 ?_
 have hn:=h.H.hr
 have e1:(B.sub .i64).den (Vi i) (Vi 1)=Vi ((i-1:Nat):Int):=by rw [sub_i (by omega) (by omega)]; exact congrArg Vi (by omega)
 have a1:val 235 [Vi n,Vi n,Vl s.T,Vi i,Vi i]=some [Vu (hcF n i s)]:=hat_ok h.T hin hin
 have a2:val 235 [Vi n,Vi n,Vl s.T,Vi i,(B.sub .i64).den (Vi i) (Vi 1)]=some [Vu (hcG n i s)]:=by rw [e1]; exact hat_ok h.T hin (k:=i-1) (by omega)
 have t1:=turn_ok (f:=hcF n i s) (g:=hcG n i s) (h.T.w.el _) (h.T.w.el _)
 obtain ⟨l1,l2,l3⟩:=turn_lt (f:=hcF n i s) (g:=hcG n i s) (h.T.w.el _) (h.T.w.el _)
 unfold finP hsC
 generalize hcF n i s=f at *
 generalize hcG n i s=g at *
 by_cases c:fPow f=2047∨fPow g=2047
 ·rw [if_pos c] at t1
  rw [decide_eq_false (fun hh=>hh c),if_neg (by decide)]
  refine Eq.trans (st_call rfl a1 rfl) ?_
  refine Eq.trans (st_call rfl a2 rfl) ?_
  refine Eq.trans (st_call rfl t1 rfl) ?_
  simp only [List.cons_append,List.nil_append]
  refine Eq.trans (st_t (by simp)) ?_
  rfl
 ·rw [if_neg c] at t1
  rw [decide_eq_true c,if_pos rfl]
  generalize turnC f g=C at *
  generalize turnS f g=S at *
  generalize turnR f g=r at *
  have r1:val 230 [Vi n,Vi n,Vl s.T,Vi i,(B.sub .i64).den (Vi i) (Vi 1),Vu C,Vu S]=some [Vi n,Vi n,Vl (colV n n s.T i (i-1) C S),Vi 0]:=by rw [e1]; exact cols_ok h.T l1 l2 hin (by omega) (by omega)
  have r2:val 230 [Vi n,Vi n,Vl s.H,Vi i,(B.sub .i64).den (Vi i) (Vi 1),Vu C,Vu S]=some [Vi n,Vi n,Vl (colV n n s.H i (i-1) C S),Vi 0]:=by rw [e1]; exact cols_ok h.H l1 l2 hin (by omega) (by omega)
  have r3:val 230 [Vi n,Vi n,Vl s.Z,Vi i,(B.sub .i64).den (Vi i) (Vi 1),Vu C,Vu S]=some [Vi n,Vi n,Vl (colV n n s.Z i (i-1) C S),Vi 0]:=by rw [e1]; exact cols_ok h.Z l1 l2 hin (by omega) (by omega)
  have m1:=colV_mx h.T l1 l2 (i:=i) (k:=i-1) hin (by omega)
  have p1:=pos_i (i:=i) (c:=n) (k:=i) (by omega) (by omega) (by omega)
  have hps:ps i n i≤100000:=ps_small (by omega) (by omega) (by omega)
  have p2:(B.sub .i64).den (Vi (ps i n i)) (Vi 1)=Vi (ps i n (i-1)):=by
   rw [sub_i (by omega) (by omega)]; unfold ps; exact congrArg Vi (by omega)
  have q1:=m1.lt hin hin
  have q2:=m1.lt hin (show i-1<n by omega)
  unfold hcV
  simp only
  generalize colV n n s.T i (i-1) C S=T' at *
  generalize colV n n s.H i (i-1) C S=H' at *
  generalize colV n n s.Z i (i-1) C S=Z' at *
  refine Eq.trans (st_call rfl a1 rfl) ?_
  refine Eq.trans (st_call rfl a2 rfl) ?_
  refine Eq.trans (st_call rfl t1 rfl) ?_
  simp only [List.cons_append,List.nil_append]
  refine Eq.trans (st_f (by simp)) ?_
  refine Eq.trans (st_call rfl r1 rfl) ?_
  refine Eq.trans (st_call rfl r2 rfl) ?_
  refine Eq.trans (st_call rfl r3 rfl) ?_
  simp only [List.cons_append,List.nil_append]
  simp [TT.dv,p1,p2,q1,q2,set_V]
end
def hsIn (n j:Nat):Nat→Q4→Option Q4
 | 0,s=>some s
 | m+1,s=>match hsS n (j+2+m) j s with
  | some s'=>hsIn n j m s'
  | none=>none
def hsOut (n:Nat):Nat→Nat→Q4→Option Q4
 | 0,_,s=>some s
 | m+1,j,s=>match hsIn n j (n-(j+2)) s with
  | some s'=>hsOut n m (j+1) s'
  | none=>none
theorem hsIn_mx {n j:Nat}:∀(m:Nat) {s s':Q4},j+2+m≤n→Mx4 n s→hsIn n j m s=some s'→Mx4 n s'
 | 0,s,s',_,h,he=>by simp [hsIn] at he; subst he; exact h
 | m+1,s,s',hm,h,he=>by
  unfold hsIn at he
  split at he
  ·rename_i s2 hs
   exact hsIn_mx m (by omega) (hsS_mx (i:=j+2+m) (by omega) (by omega) h hs) he
  ·cases he
theorem hsOut_mx {n:Nat}:∀(m j:Nat) {s s':Q4},j+m=n-2→Mx4 n s→hsOut n m j s=some s'→Mx4 n s'
 | 0,_,s,s',_,h,he=>by simp [hsOut] at he; subst he; exact h
 | m+1,j,s,s',hm,h,he=>by
  unfold hsOut at he
  split at he
  ·rename_i s2 hs
   exact hsOut_mx m (j+1) (by omega) (hsIn_mx _ (by omega) h hs) he
  ·cases he
def brR (n:Nat) (a b:List Nat):Option Q4 :=
 match qrR n n b with
 | none=>none
 | some (q,y) =>
  match hsOut n (n-2) 0 ⟨muV n n (tpV n n q) n n a,y,q,eyV n⟩ with
  | none=>none
  | some s=>if finV (clH n 1 s.H)&&finV (clH n 0 s.T)&&finV s.Q&&finV s.Z then some ⟨clH n 1 s.H,clH n 0 s.T,s.Q,s.Z⟩ else none
theorem hin_loop {n j:Nat} (hn6:n≤6) {x1 x2 x3 x4 x5 x6 x7 x8 x9 x10 x11 x12 x13 x14 x15 x16 x17 x18 x19 x20 x21 x23 x24 x25 x26 x27 x28 x29 x30 x31 x32 x33 x34:PV}:∀(m:Nat) {s:Q4},j+2+m≤n→Mx4 n s →
  match hsIn n j m s with
  | some s'=>rounds (fun vs=>lo233_2.dv (Vi n::x1::x2::x3::x4::x5::x6::x7::x8::x9::x10::x11::x12::x13::x14::x15::x16::x17::x18::x19::x20::x21::Vi j::x23::x24::x25::x26::x27::x28::x29::x30::x31::x32::x33::x34::vs)) [Vi 0,Vi ((j+1+m:Nat):Int),Vi n,Vi n,Vi n,Vi n,Vi n,Vi n,Vi n,Vi n,Vl s.Z,Vl s.Q,Vl s.T,Vl s.H]=some (.y (.ext 4) [Vi 0,Vi n,Vi n,Vi n,Vi n,Vi n,Vi n,Vi n,Vi n,Vl s'.Z,Vl s'.Q,Vl s'.T,Vl s'.H])
  | none=>∃a1 a2 a3 a4 a5 a6 a7 a8 a9 a10 a11 a12,rounds (fun vs=>lo233_2.dv (Vi n::x1::x2::x3::x4::x5::x6::x7::x8::x9::x10::x11::x12::x13::x14::x15::x16::x17::x18::x19::x20::x21::Vi j::x23::x24::x25::x26::x27::x28::x29::x30::x31::x32::x33::x34::vs)) [Vi 0,Vi ((j+1+m:Nat):Int),Vi n,Vi n,Vi n,Vi n,Vi n,Vi n,Vi n,Vi n,Vl s.Z,Vl s.Q,Vl s.T,Vl s.H]=some (.y (.ext 2) [Vi 2,a1,a2,a3,a4,a5,a6,a7,a8,a9,a10,a11,a12]):=by
 intro m
 induction m with
 | zero =>
  intro s hm h
  simp only [hsIn]
  refine rounds_exit ?_ (by simp)
  have e2:(B.add .i64).den (Vi j) (Vi 2)=Vi ((j+2:Nat):Int):=by rw [add_i (by omega) (by omega)]; rfl
  have hc:(B.ge.den (Vi ((j+1+0:Nat):Int)) ((B.add .i64).den (Vi j) (Vi 2))).bool=true↔False:=by
   rw [e2]; simp; try omega
  have hc':(B.ge.den (Vi ((j+1+0:Nat):Int)) ((B.add .i64).den (Vi j) (Vi 2))).bool=false:=by
   cases hb:(B.ge.den (Vi ((j+1+0:Nat):Int)) ((B.add .i64).den (Vi j) (Vi 2))).bool
   ·rfl
   ·exact absurd (hc.1 hb) id
  exact Eq.trans (st_f hc') rfl
 | succ m ih =>
  intro s hm h
  have hi:1≤j+2+m:=by omega
  have hin:j+2+m<n:=by omega
  have r1:=hrows_ok hi hin (j:=j) (by omega) h
  have hm1:=hsR_mx hi hin (j:=j) h
  have r2:=hcols_ok hi hin hm1
  have e2:(B.add .i64).den (Vi j) (Vi 2)=Vi ((j+2:Nat):Int):=by rw [add_i (by omega) (by omega)]; rfl
  have e1:(B.sub .i64).den (Vi ((j+2+m:Nat):Int)) (Vi 1)=Vi ((j+1+m:Nat):Int):=by rw [sub_i (by omega) (by omega)]; exact congrArg Vi (by omega)
  have hc':(B.ge.den (Vi ((j+2+m:Nat):Int)) ((B.add .i64).den (Vi j) (Vi 2))).bool=true:=by
   rw [e2]; simp; try omega
  rw [show j+1+(m+1)=j+2+m by omega]
  unfold hsIn
  unfold hsS
  cases c1:finP (hrF n (j+2+m) j s) (hrG n (j+2+m) j s)
  ·rw [c1,if_neg (by decide)] at r1
   simp only [Bool.false_eq_true,if_false]
   refine ⟨Vi 0,Vi 0,Vi 0,Vi 0,Vi 0,Vi 0,Vi 0,Vi 0,Vl [],Vl [],Vl [],Vl [],rounds_exit (us:=[Vi 2,Vi 0,Vi 0,Vi 0,Vi 0,Vi 0,Vi 0,Vi 0,Vi 0,Vl [],Vl [],Vl [],Vl []]) ?_ (by simp)⟩
   refine Eq.trans (st_t hc') ?_
   refine Eq.trans (st_call rfl r1 rfl) ?_
   refine Eq.trans (st_t rfl) ?_
   rfl
  ·rw [c1,if_pos rfl] at r1
   rw [if_pos rfl]
   cases c2:finP (hcF n (j+2+m) (hsR n (j+2+m) j s)) (hcG n (j+2+m) (hsR n (j+2+m) j s))
   ·rw [c2,if_neg (by decide)] at r2
    simp only [Bool.false_eq_true,if_false]
    refine ⟨Vi 0,Vi 0,Vi 0,Vi 0,Vi 0,Vi 0,Vi 0,Vi 0,Vl [],Vl [],Vl [],Vl [],rounds_exit (us:=[Vi 2,Vi 0,Vi 0,Vi 0,Vi 0,Vi 0,Vi 0,Vi 0,Vi 0,Vl [],Vl [],Vl [],Vl []]) ?_ (by simp)⟩
    refine Eq.trans (st_t hc') ?_
    refine Eq.trans (st_call rfl r1 rfl) ?_
    refine Eq.trans (st_f rfl) ?_
    simp only [List.cons_append,List.nil_append]
    refine Eq.trans (st_call rfl r2 rfl) ?_
    refine Eq.trans (st_t rfl) ?_
    rfl
   ·rw [c2,if_pos rfl] at r2
    rw [if_pos rfl]
    have hm2:=hsC_mx hi hin hm1
    have hih:=ih (s:=hsC n (j+2+m) (hsR n (j+2+m) j s)) (by omega) hm2
    have key:rounds (fun vs=>lo233_2.dv (Vi n::x1::x2::x3::x4::x5::x6::x7::x8::x9::x10::x11::x12::x13::x14::x15::x16::x17::x18::x19::x20::x21::Vi j::x23::x24::x25::x26::x27::x28::x29::x30::x31::x32::x33::x34::vs)) [Vi 0,Vi ((j+2+m:Nat):Int),Vi n,Vi n,Vi n,Vi n,Vi n,Vi n,Vi n,Vi n,Vl s.Z,Vl s.Q,Vl s.T,Vl s.H]=rounds (fun vs=>lo233_2.dv (Vi n::x1::x2::x3::x4::x5::x6::x7::x8::x9::x10::x11::x12::x13::x14::x15::x16::x17::x18::x19::x20::x21::Vi j::x23::x24::x25::x26::x27::x28::x29::x30::x31::x32::x33::x34::vs)) [Vi 0,Vi ((j+1+m:Nat):Int),Vi n,Vi n,Vi n,Vi n,Vi n,Vi n,Vi n,Vi n,Vl (hsC n (j+2+m) (hsR n (j+2+m) j s)).Z,Vl (hsC n (j+2+m) (hsR n (j+2+m) j s)).Q,Vl (hsC n (j+2+m) (hsR n (j+2+m) j s)).T,Vl (hsC n (j+2+m) (hsR n (j+2+m) j s)).H]:=by
     rw [←e1]
     refine rounds_cont ?_
     refine Eq.trans (st_t hc') ?_
     refine Eq.trans (st_call rfl r1 rfl) ?_
     refine Eq.trans (st_f rfl) ?_
     simp only [List.cons_append,List.nil_append]
     refine Eq.trans (st_call rfl r2 rfl) ?_
     refine Eq.trans (st_f rfl) ?_
     rfl
    simp only
    rw [key]
    exact hih
theorem hout_loop {n:Nat} (hn6:n≤6) {x1 x2 x3 x4 x5 x6 x7 x8 x9 x10 x11 x12 x13 x14 x15 x16 x17 x18 x19 x20:PV}:∀(m:Nat) {j:Nat} {s:Q4},j+m=n-2→Mx4 n s →
  match hsOut n m j s with
  | some s'=>rounds (fun vs=>lo233_1.dv (Vi n::x1::x2::x3::x4::x5::x6::x7::x8::x9::x10::x11::x12::x13::x14::x15::x16::x17::x18::x19::x20::vs)) [Vi 0,Vi j,Vi n,Vi n,Vi n,Vi n,Vi n,Vi n,Vi n,Vi n,Vl s.Z,Vl s.Q,Vl s.T,Vl s.H]=some (.y (.ext 2) [Vi 0,Vi n,Vi n,Vi n,Vi n,Vi n,Vi n,Vi n,Vi n,Vl s'.Z,Vl s'.Q,Vl s'.T,Vl s'.H])
  | none=>∃a1 a2 a3 a4 a5 a6 a7 a8 a9 a10 a11 a12,rounds (fun vs=>lo233_1.dv (Vi n::x1::x2::x3::x4::x5::x6::x7::x8::x9::x10::x11::x12::x13::x14::x15::x16::x17::x18::x19::x20::vs)) [Vi 0,Vi j,Vi n,Vi n,Vi n,Vi n,Vi n,Vi n,Vi n,Vi n,Vl s.Z,Vl s.Q,Vl s.T,Vl s.H]=some (.y (.ext 2) [Vi 2,a1,a2,a3,a4,a5,a6,a7,a8,a9,a10,a11,a12]):=by
 intro m
 induction m with
 | zero =>
  intro j s hm h
  simp only [hsOut]
  refine rounds_exit ?_ (by simp)
  have e2:(B.sub .i64).den (Vi n) (Vi 2)=Vi ((n:Int)-2):=sub_i (by omega) (by omega)
  have hc':(B.lt.den (Vi j) ((B.sub .i64).den (Vi n) (Vi 2))).bool=false:=by
   rw [e2]; simp; try omega
  exact Eq.trans (st_f hc') rfl
 | succ m ih =>
  intro j s hm h
  have e2:(B.sub .i64).den (Vi n) (Vi 2)=Vi ((n:Int)-2):=sub_i (by omega) (by omega)
  have hc':(B.lt.den (Vi j) ((B.sub .i64).den (Vi n) (Vi 2))).bool=true:=by
   rw [e2]; simp; try omega
  have e1:(B.add .i64).den (Vi j) (Vi 1)=Vi ((j+1:Nat):Int):=by rw [add_i (by omega) (by omega)]; rfl
  have e3:(B.sub .i64).den (Vi n) (Vi 1)=Vi ((j+1+(n-(j+2)):Nat):Int):=by rw [sub_i (by omega) (by omega)]; exact congrArg Vi (by omega)
  have hl:=hin_loop (n:=n) (j:=j) hn6 (x1:=x1) (x2:=x2) (x3:=x3) (x4:=x4) (x5:=x5) (x6:=x6) (x7:=x7) (x8:=x8) (x9:=x9) (x10:=x10) (x11:=x11) (x12:=x12) (x13:=x13) (x14:=x14) (x15:=x15) (x16:=x16) (x17:=x17) (x18:=x18) (x19:=x19) (x20:=x20) (x21:=Vi 0) (x23:=Vi n) (x24:=Vi n) (x25:=Vi n) (x26:=Vi n) (x27:=Vi n) (x28:=Vi n) (x29:=Vi n) (x30:=Vi n) (x31:=Vl s.Z) (x32:=Vl s.Q) (x33:=Vl s.T) (x34:=Vl s.H) (n-(j+2)) (s:=s) (by omega) h
  rw [←e3] at hl
  unfold hsOut
  cases hs:hsIn n j (n-(j+2)) s with
  | none =>
   rw [hs] at hl
   obtain ⟨a1,a2,a3,a4,a5,a6,a7,a8,a9,a10,a11,a12,hl⟩:=hl
   refine ⟨a1,a2,a3,a4,a5,a6,a7,a8,a9,a10,a11,a12,rounds_exit ?_ (by simp)⟩
   refine Eq.trans (st_t hc') ?_
   refine Eq.trans (st_loop hl) ?_
   refine Eq.trans st_hit ?_
   rfl
  | some s2 =>
   rw [hs] at hl
   have hm2:=hsIn_mx _ (by omega) h hs
   have hih:=ih (j:=j+1) (s:=s2) (by omega) hm2
   have key:rounds (fun vs=>lo233_1.dv (Vi n::x1::x2::x3::x4::x5::x6::x7::x8::x9::x10::x11::x12::x13::x14::x15::x16::x17::x18::x19::x20::vs)) [Vi 0,Vi j,Vi n,Vi n,Vi n,Vi n,Vi n,Vi n,Vi n,Vi n,Vl s.Z,Vl s.Q,Vl s.T,Vl s.H]=rounds (fun vs=>lo233_1.dv (Vi n::x1::x2::x3::x4::x5::x6::x7::x8::x9::x10::x11::x12::x13::x14::x15::x16::x17::x18::x19::x20::vs)) [Vi 0,Vi ((j+1:Nat):Int),Vi n,Vi n,Vi n,Vi n,Vi n,Vi n,Vi n,Vi n,Vl s2.Z,Vl s2.Q,Vl s2.T,Vl s2.H]:=by
    rw [←e1]
    refine rounds_cont ?_
    refine Eq.trans (st_t hc') ?_
    refine Eq.trans (st_loop hl) ?_
    refine Eq.trans (st_miss (by simp)) ?_
    refine Eq.trans st_hit ?_
    rfl
   simp only
   rw [key]
   exact hih
theorem first18_ok {n:Nat} {a b:List Nat} (ha:Mx n n a) (hb:Mx n n b) (hf:finV b=true):val 237 [Vi n,Vi n,Vl a,Vi n,Vi n,Vl b]=some (match qrR n n b with
  | some (q,y)=>[Vi n,Vi n,Vl (muV n n (tpV n n q) n n a),Vi n,Vi n,Vl y,Vi n,Vi n,Vl q,Vi n,Vi n,Vl (eyV n),Vi 0]
  | none=>[Vi 0,Vi 0,Vl [],Vi 0,Vi 0,Vl [],Vi 0,Vi 0,Vl [],Vi 0,Vi 0,Vl [],Vi 2]):=by
 refine val_of tab237 ?_
 have f1:=factor_ok hb hf
 have hn:=ha.hr
 cases hq:qrR n n b with
 | none =>
  rw [hq] at f1
  simp only at f1
  simp [tr237,TT.dv,f1]
 | some p =>
  obtain ⟨q,y⟩:=p
  rw [hq] at f1
  simp only at f1
  obtain ⟨mq,my⟩:=qrR_mx hb hq
  have ht:=tp_ok mq
  have hm:=mul_ok10 (tpV_mx mq) ha rfl
  have t1:val 270 [Vi n,Vi n,Vl q,Vi n,Vi n,Vl a]=some [Vi n,Vi n,Vl (muV n n (tpV n n q) n n a),Vi 0]:=by
   refine val_of tab270 ?_
   simp [tr270,TT.dv,ht,hm]
  have e1:=eye_ok hn
  simp [tr237,TT.dv,f1,t1,e1]
theorem br_start {n:Nat} {a b q y:List Nat} (ha:Mx n n a) (hb:Mx n n b) (hq:qrR n n b=some (q,y)):Mx4 n ⟨muV n n (tpV n n q) n n a,y,q,eyV n⟩:=by
 obtain ⟨mq,my⟩:=qrR_mx hb hq
 exact ⟨muV_mx (tpV_mx mq) ha rfl,my,mq,eyV_mx ha.hr⟩
def brE (R C:Int) (a:List Nat) (R' C':Int) (b:List Nat):Int:=if chk R C a≠0 then chk R C a else if chk R' C' b≠0 then chk R' C' b else if R≠C∨R'≠R∨C'≠R then 3 else 0
theorem bring_ok {n:Nat} {a b:List Nat} (ha:Mx n n a) (hb:Mx n n b) (fa:finV a=true) (fb:finV b=true):val 233 [Vi n,Vi n,Vl a,Vi n,Vi n,Vl b]=some (match brR n a b with
  | some s=>[Vi n,Vi n,Vl s.H,Vi n,Vi n,Vl s.T,Vi n,Vi n,Vl s.Q,Vi n,Vi n,Vl s.Z,Vi 0]
  | none=>[Vi 0,Vi 0,Vl [],Vi 0,Vi 0,Vl [],Vi 0,Vi 0,Vl [],Vi 0,Vi 0,Vl [],Vi 2]):=by
 refine val_of tab233 ?_
 have hn:=ha.hr
 have c1:=ccheck_ok n n (x:=a) (by have:=ha.small; omega)
 have c2:=ccheck_ok n n (x:=b) (by have:=hb.small; omega)
 unfold chk at c1 c2
 rw [if_pos (mx_right ha),if_pos fa] at c1
 rw [if_pos (mx_right hb),if_pos fb] at c2
 have f1:=first18_ok ha hb fb
 unfold brR
 refine Eq.trans (st_call rfl c1 rfl) ?_
 refine Eq.trans (st_f rfl) ?_
 refine Eq.trans (st_call rfl c2 rfl) ?_
 refine Eq.trans (st_f rfl) ?_
 simp only [List.cons_append,List.nil_append]
 refine Eq.trans (st_f (by simp)) ?_
 cases hq:qrR n n b with
 | none =>
  rw [hq] at f1
  refine Eq.trans (st_call rfl f1 rfl) ?_
  refine Eq.trans (st_t rfl) ?_
  rfl
 | some p =>
  obtain ⟨q,y⟩:=p
  rw [hq] at f1
  have hst:=br_start ha hb hq
  refine Eq.trans (st_call rfl f1 rfl) ?_
  refine Eq.trans (st_f rfl) ?_
  simp only [List.cons_append,List.nil_append]
  have lp:=hout_loop (n:=n) hn (x1:=Vi n) (x2:=Vl a) (x3:=Vi n) (x4:=Vi n) (x5:=Vl b) (x6:=Vi 0) (x7:=Vi 0) (x8:=Vi n) (x9:=Vi n) (x10:=Vl (muV n n (tpV n n q) n n a)) (x11:=Vi n) (x12:=Vi n) (x13:=Vl y) (x14:=Vi n) (x15:=Vi n) (x16:=Vl q) (x17:=Vi n) (x18:=Vi n) (x19:=Vl (eyV n)) (x20:=Vi 0) (n-2) (j:=0) (s:=⟨muV n n (tpV n n q) n n a,y,q,eyV n⟩) (by omega) hst
  rw [show ((0:Nat):Int)=0 from rfl] at lp
  cases hs:hsOut n (n-2) 0 ⟨muV n n (tpV n n q) n n a,y,q,eyV n⟩ with
  | none =>
   rw [hs] at lp
   obtain ⟨a1,a2,a3,a4,a5,a6,a7,a8,a9,a10,a11,a12,lp⟩:=lp
   refine Eq.trans (st_loop lp) ?_
   refine Eq.trans st_hit ?_
   refine Eq.trans (st_t rfl) ?_
   rfl
  | some s =>
   rw [hs] at lp
   have hm:=hsOut_mx _ 0 (by omega) hst hs
   have cH:=clh_ok (b:=1) (by omega) hm.H
   have cT:=clh_ok (b:=0) (by omega) hm.T
   have mH:=clH_mx (b:=1) hm.H
   have mT:=clH_mx (b:=0) hm.T
   have f1:=finite_v_ok mH.w (by have:=mH.small; omega)
   have f2:=finite_v_ok mT.w (by have:=mT.small; omega)
   have f3:=finite_v_ok hm.Q.w (by have:=hm.Q.small; omega)
   have f4:=finite_v_ok hm.Z.w (by have:=hm.Z.small; omega)
   refine Eq.trans (st_loop lp) ?_
   refine Eq.trans st_hit ?_
   simp only [List.cons_append,List.nil_append]
   refine Eq.trans (st_f rfl) ?_
   refine Eq.trans (st_call rfl cH rfl) ?_
   refine Eq.trans (st_call rfl cT rfl) ?_
   simp only [List.cons_append,List.nil_append]
   refine Eq.trans (st_call rfl f1 rfl) ?_
   cases d1:finV (clH n 1 s.H)
   ·refine Eq.trans (st_t rfl) ?_
    rfl
   refine Eq.trans (st_f rfl) ?_
   simp only [List.cons_append,List.nil_append]
   refine Eq.trans (st_call rfl f2 rfl) ?_
   cases d2:finV (clH n 0 s.T)
   ·refine Eq.trans (st_t rfl) ?_
    rfl
   refine Eq.trans (st_f rfl) ?_
   simp only [List.cons_append,List.nil_append]
   refine Eq.trans (st_call rfl f3 rfl) ?_
   cases d3:finV s.Q
   ·refine Eq.trans (st_t rfl) ?_
    rfl
   refine Eq.trans (st_f rfl) ?_
   simp only [List.cons_append,List.nil_append]
   refine Eq.trans (st_call rfl f4 rfl) ?_
   cases d4:finV s.Z
   ·refine Eq.trans (st_t rfl) ?_
    rfl
   refine Eq.trans (st_f rfl) ?_
   rfl
theorem check18_ok {R C R' C':Int} {a b:List Nat} (ha:Words a) (la:a.length≤17592186043904) (hb:Words b) (lb:b.length≤17592186043904):val 77 [Vi R,Vi C,Vl a,Vi R',Vi C',Vl b]=some [Vi (brE R C a R' C' b)]:=by
 refine val_of tab77 ?_
 have c1:=ccheck9_ok R C ha la
 have c2:=ccheck9_ok R' C' hb lb
 unfold brE
 generalize chk R C a=e1 at *
 generalize chk R' C' b=e2 at *
 by_cases h1:e1=0
 ·by_cases h2:e2=0
  ·rw [if_neg (by simpa using h1),if_neg (by simpa using h2)]
   subst h1 h2
   by_cases h3:R=C
   ·subst h3
    by_cases h4:R'=R
    ·subst h4
     by_cases h5:C'=R'
     ·subst h5
      rw [if_neg (by omega)]
      simp [tr77,TT.dv,c1,c2]
     ·rw [if_pos (by omega)]
      simp [tr77,TT.dv,c1,c2,h5]
    ·rw [if_pos (by omega)]
     simp [tr77,TT.dv,c1,c2,h4]
   ·rw [if_pos (by omega)]
    simp [tr77,TT.dv,c1,c2,h3]
  ·rw [if_neg (by simpa using h1),if_pos h2]
   simp [tr77,TT.dv,c1,c2,h1,h2]
 ·rw [if_pos h1]
  simp [tr77,TT.dv,c1,h1]
theorem br_cases {R C R' C':Int} {a b:List Nat} (ha:Words a) (hb:Words b):brE R C a R' C' b≠0∨(brE R C a R' C' b=0∧∃n:Nat,R=n∧C=n∧R'=n∧C'=n∧Mx n n a∧Mx n n b∧finV a=true∧finV b=true):=by
 by_cases h:brE R C a R' C' b=0
 ·right
  refine ⟨h,?_⟩
  unfold brE at h
  rcases chk_cases R C a with h1 | ⟨h1,r1,f1⟩
  ·rw [if_pos h1] at h; exact absurd h h1
  ·rw [if_neg (by simpa using h1)] at h
   rcases chk_cases R' C' b with h2 | ⟨h2,r2,f2⟩
   ·rw [if_pos h2] at h; exact absurd h h2
   ·rw [if_neg (by simpa using h2)] at h
    by_cases h6:R≠C∨R'≠R∨C'≠R
    ·rw [if_pos h6] at h; exact absurd h (by decide)
    ·obtain ⟨m,n,e1,e2,hm⟩:=right_mx r1 ha
     obtain ⟨m',n',e3,e4,hm'⟩:=right_mx r2 hb
     obtain rfl:m=n:=by omega
     obtain rfl:m'=m:=by omega
     obtain rfl:n'=m':=by omega
     exact ⟨_,e1,e2,e3,e4,hm,hm',f1,f2⟩
 ·exact .inl h
section
end
theorem prod_step {r n c p q:Nat} (hp:p<n) (hq:q<n) (hpq:p≠q) {C S g:Rat} (hg:Ab (C*C+S*S-1) g) {X Y X' Y':Nat→Nat→Rat} {a b f1 f2:Rat} (hx:FN r n X a) (hy:FN n c Y b) (h1:FN r n (fun i k=>X' i k-cop X p q C S i k) f1) (h2:FN n c (fun i k=>Y' i k-rop Y p q C S i k) f2) :
  FN r c (fun i k=>mm n X' Y' i k-mm n X Y i k) (g*(a*b)+((1+g)*a*f2+(f1*((1+g)*b)+f1*f2))):=by
 refine (FN.turned hp hq hpq hg hx hy h1 h2).congr fun i k _ _ => ?_
 have e:mm n (fun i k=>cop X p q C S i k+(X' i k-cop X p q C S i k)) (fun i k=>rop Y p q C S i k+(Y' i k-rop Y p q C S i k)) i k=mm n X' Y' i k:=mm_congr (fun j _=>by grind) (fun j _=>by grind)
 rw [e]
theorem FN.one {r c i0 k0:Nat} {x d:Rat} (h:Ab x d):FN r c (fun i k=>if i=i0∧k=k0 then x else 0) d:=by
 have hd:=h.nonneg
 have hxx:=(h.mul h).2
 refine FN.of hd ?_
 by_cases hi:i0<r
 ·by_cases hk:k0<c
  ·have e:sum2 r c (fun i k=>(if i=i0∧k=k0 then x else 0)*(if i=i0∧k=k0 then x else 0))=x*x:=by
    unfold sum2
    rw [sum_pick hi (fun i _ h1=>by
     dsimp only
     rw [sumP_congr (q:=fun _=>0) fun k _=>by simp [h1],sumP_zero])]
    dsimp only
    rw [sum_pick hk (fun k _ h1=>by simp [h1])]
    simp
   rw [e]; exact hxx
  ·rw [sum2_congr (Y:=fun _ _=>0) fun i k _ hk2=>by
    have:¬k=k0:=by omega
    simp [this]]
   unfold sum2; simp only [sumP_zero]; exact rat_sq_nonneg d
 ·rw [sum2_congr (Y:=fun _ _=>0) fun i k hi2 _=>by
   have:¬i=i0:=by omega
   simp [this]]
  unfold sum2; simp only [sumP_zero]; exact rat_sq_nonneg d
theorem set2_err {n i1 k1 i2 k2 v1 v2:Nat} {y:List Nat} (h:Mx n n y) (a1:i1<n) (b1:k1<n) (a2:i2<n) (b2:k2<n) (hne:i1≠i2∨k1≠k2) {X:Nat→Nat→Rat} {e d:Rat} (hX:FN n n (fun i k=>mvl n y i k-X i k) e) (h1:Ab (sv v1-X i1 k1) d) (h2:Ab (sv v2-X i2 k2) d) :
  FN n n (fun i k=>mvl n ((y.set (ps i1 n k1) v1).set (ps i2 n k2) v2) i k-X i k) (e+2*d):=by
 have l1:=h.lt a1 b1
 have l2:=h.lt a2 b2
 have c2:∀i k,i<n→k<n→el ((y.set (ps i1 n k1) v1).set (ps i2 n k2) v2) (ps i n k)=if i=i2∧k=k2 then v2 else if i=i1∧k=k1 then v1 else el y (ps i n k):=fun i k hi hk=>by
  rw [el_set,el_set,List.length_set]
  by_cases q2:i=i2∧k=k2
  ·obtain ⟨rfl,rfl⟩:=q2
   rw [if_pos ⟨rfl,l2⟩,if_pos ⟨rfl,rfl⟩]
  ·rw [if_neg q2,if_neg (fun hh=>by have:=ps_inj b2 hk hh.1; omega)]
   by_cases q1:i=i1∧k=k1
   ·obtain ⟨rfl,rfl⟩:=q1
    rw [if_pos ⟨rfl,l1⟩,if_pos ⟨rfl,rfl⟩]
   ·rw [if_neg q1,if_neg (fun hh=>by have:=ps_inj b1 hk hh.1; omega)]
 have m0:FN n n (fun i k=>if (i=i1∧k=k1)∨(i=i2∧k=k2) then 0 else mvl n y i k-X i k) e:=FN.of hX.1 (Rat.le_trans (sum2_le fun i k _ _=>by
  split
  ·have:=rat_sq_nonneg (mvl n y i k-X i k); grind
  ·exact Rat.le_refl) hX.sq)
 refine (((m0.add (FN.one (i0:=i1) (k0:=k1) h1)).add (FN.one (i0:=i2) (k0:=k2) h2)).mono (by grind)).congr fun i k hi hk => ?_
 have e1:mvl n ((y.set (ps i1 n k1) v1).set (ps i2 n k2) v2) i k=if i=i2∧k=k2 then sv v2 else if i=i1∧k=k1 then sv v1 else mvl n y i k:=by
  unfold mvl
  rw [c2 i k hi hk]
  split
  ·rfl
  ·split<;>rfl
 rw [e1]
 by_cases q2:i=i2∧k=k2
 ·have q1:¬(i=i1∧k=k1):=fun hh=>by omega
  simp only [q1,q2,if_true,if_false,true_and,and_self,or_true]
  grind
 ·by_cases q1:i=i1∧k=k1
  ·simp only [q1,q2,if_true,if_false,and_self,true_or]
   obtain ⟨rfl,rfl⟩:=q1
   rw [if_neg q2]
   grind
  ·simp only [q1,q2,if_false,or_self]
   grind
theorem rot_nought {C S a b:Nat} (fC:fPow C≠2047) (fS:fPow S≠2047) (fa:fPow a≠2047) (fb:fPow b≠2047) (ha:W a=0) (hb:W b=0):W (addV (mulV C a) (mulV S b))=0∧W (subV (mulV C b) (mulV S a))=0:=by
 obtain ⟨a1,a2,a3⟩:=mul_nought fC fa (mag_of_W ha)
 obtain ⟨b1,b2,b3⟩:=mul_nought fS fb (mag_of_W hb)
 obtain ⟨c1,c2,c3⟩:=mul_nought fC fb (mag_of_W hb)
 obtain ⟨d1,d2,d3⟩:=mul_nought fS fa (mag_of_W ha)
 obtain ⟨e1,e2,e3⟩:=add_nought a2 b2 a3 b3
 obtain ⟨m1,m2⟩:=minus_fields (b:=mulV S a) mulV_lt
 obtain ⟨f1,f2,f3⟩:=add_nought (a:=mulV C b) (b:=fMinus (mulV S a)) c2 (by rw [m1]; exact d2) c3 (by rw [m2]; exact d3)
 exact ⟨W_zero_of e3,W_zero_of f3⟩
section
variable {n:Nat} {x:List Nat} (h:Mx n n x) (hf:Fin2 n n x) {C S:Nat} (fC:fPow C≠2047) (fS:fPow S≠2047) {p q:Nat} (hp:p<n) (hq:q<n) (hpq:p≠q)
include h hf fC fS hp hq hpq
theorem rowV_nought {i k:Nat} (hi:i<n) (hk:k<n) (hx:W (el x (ps i n k))=0) (hz:i=p∨i=q→W (el x (ps p n k))=0∧W (el x (ps q n k))=0):W (el (rowV x n p q C S) (ps i n k))=0:=by
 obtain ⟨v1,v2⟩:=rowV_at h (C:=C) (S:=S) hp hq hpq hk
 by_cases h1:i=p
 ·subst h1
  rw [v1]; exact (rot_nought fC fS (hf _ k hi hk) (hf q k hq hk) (hz (.inl rfl)).1 (hz (.inl rfl)).2).1
 ·by_cases h2:i=q
  ·subst h2
   rw [v2]; exact (rot_nought fC fS (hf p k hp hk) (hf _ k hi hk) (hz (.inr rfl)).1 (hz (.inr rfl)).2).2
  ·rw [rowV_other h hk h1 h2]; exact hx
theorem colV_el {i k:Nat} (hi:i<n) (hk:k<n):el (colV n n x p q C S) (ps i n k)=el (rowV (tpV n n x) n p q C S) (ps k n i):=by unfold colV; rw [el_tpV hk hi]
theorem colV_nought {i k:Nat} (hi:i<n) (hk:k<n) (hx:W (el x (ps i n k))=0) (hz:k=p∨k=q→W (el x (ps i n p))=0∧W (el x (ps i n q))=0):W (el (colV n n x p q C S) (ps i n k))=0:=by
 rw [colV_el h hf fC fS hp hq hpq hi hk]
 refine rowV_nought (tpV_mx h) (fin2_tp hf) fC fS hp hq hpq hk hi (by rw [el_tpV hi hk]; exact hx) fun hh => ?_
 rw [el_tpV hi hp,el_tpV hi hq]
 exact hz hh
end
theorem turnR_nought {f g:Nat} (pg:fPow g≠2047) (hf:W f=0) (hg:W g=0):W (turnR f g)=0:=by
 unfold turnR
 rw [if_pos ((zeroB_mag pg).2 (mag_of_W hg))]
 exact hf
theorem FN.two_r {r c:Nat} {X:Nat→Nat→Rat} {b:Rat} (h:FN r c X b) {p q k:Nat} (hp:p<r) (hq:q<r) (hpq:p≠q) (hk:k<c):X p k*X p k+X q k*X q k≤b*b:=by
 have h1:=h.tr.sq
 refine Rat.le_trans (sum_two_le (f:=fun i=>X i k*X i k) hp hq hpq fun i _=>rat_sq_nonneg _) (Rat.le_trans ?_ h1)
 exact sumP_mem (p:=fun k=>sumP (fun i=>X i k*X i k) r) (fun k _=>sumP_nonneg fun i _=>rat_sq_nonneg _) k hk
theorem FN.two_c {r c:Nat} {X:Nat→Nat→Rat} {b:Rat} (h:FN r c X b) {p q i:Nat} (hp:p<c) (hq:q<c) (hpq:p≠q) (hi:i<r):X i p*X i p+X i q*X i q≤b*b:=h.tr.two_r hp hq hpq hi
theorem two_sum {x y b:Rat} (hb:0≤b) (h:x*x+y*y≤b*b):x+y≤3/2*b:=by
 refine (Ab.of_sq (a:=3/2*b) (by grind) ?_).2
 have:=rat_sq_nonneg (x-y)
 have:=rat_sq_nonneg b
 grind
section
variable {n:Nat} {x:List Nat} (h:Mx n n x) (hf:Fin2 n n x) {b:Rat} (hF:FN n n (mvl n x) b) (b1:P2 (-110)≤b) (b2:b≤P2 195)
include h hf hF b1 b2
theorem rowP {C S:Nat} {g:Rat} (hcs:TurnCS C S g) {p q:Nat} (hp:p<n) (hq:q<n) (hpq:p≠q):Mx n n (rowV x n p q C S)∧Fin2 n n (rowV x n p q C S)∧FN n n (fun i k=>mvl n (rowV x n p q C S) i k-rop (mvl n x) p q (sv C) (sv S) i k) (10*uu*b):=by
 obtain ⟨w1,w2⟩:=row_err h hf hcs hp hq hpq hF (Rat.le_trans b2 (P2_mono (by omega)))
 refine ⟨rowV_mx h hcs.cl hcs.sl hp hq,w1,w2.mono ?_⟩
 have:=ee_b b1
 have:=Rat.mul_nonneg uu_pos (Rat.le_trans (Rat.le_of_lt (P2_pos _)) b1)
 have:=ee0.1
 grind
theorem colP {C S:Nat} {g:Rat} (hcs:TurnCS C S g) {p q:Nat} (hp:p<n) (hq:q<n) (hpq:p≠q):Mx n n (colV n n x p q C S)∧Fin2 n n (colV n n x p q C S)∧FN n n (fun i k=>mvl n (colV n n x p q C S) i k-cop (mvl n x) p q (sv C) (sv S) i k) (10*uu*b):=by
 obtain ⟨w1,w2⟩:=col_err h hf hcs hp hq hpq hF (Rat.le_trans b2 (P2_mono (by omega)))
 refine ⟨colV_mx h hcs.cl hcs.sl hp hq,w1,w2.mono ?_⟩
 have:=ee_b b1
 have:=Rat.mul_nonneg uu_pos (Rat.le_trans (Rat.le_of_lt (P2_pos _)) b1)
 have:=ee0.1
 grind
theorem cellB {i k:Nat} (hi:i<n) (hk:k<n):W (el x (ps i n k))≤P2 200:=W_of_sv ((hF.at hi hk).mono (Rat.le_trans b2 (P2_mono (by omega))))
theorem fin_set2 {y:List Nat} (hm:Mx n n y) (hy:Fin2 n n y) {i1 k1 i2 k2 v1 v2:Nat} (a1:i1<n) (c1:k1<n) (a2:i2<n) (c2:k2<n) (f1:fPow v1≠2047) (f2:fPow v2≠2047):Fin2 n n ((y.set (ps i1 n k1) v1).set (ps i2 n k2) v2):=fun i k hi hk=>by
 rw [el_set,el_set]
 split
 ·exact f2
 ·split
  ·exact f1
  ·exact hy i k hi hk
theorem rowS {p q j:Nat} (hp:p<n) (hq:q<n) (hpq:p≠q) (hj:j<n) {C S r:Nat} (T:TurnG (el x (ps p n j)) (el x (ps q n j)) C S r) :
  Mx n n (((rowV x n p q C S).set (ps p n j) r).set (ps q n j) 0)∧Fin2 n n (((rowV x n p q C S).set (ps p n j) r).set (ps q n j) 0) ∧
  FN n n (fun i k=>mvl n (((rowV x n p q C S).set (ps p n j) r).set (ps q n j) 0) i k-rop (mvl n x) p q (sv C) (sv S) i k) (134*uu*b):=by
 obtain ⟨w0,w1,w2⟩:=rowP h hf hF b1 b2 T.cs hp hq hpq
 have hb0:0≤b:=Rat.le_trans (Rat.le_of_lt (P2_pos _)) b1
 have hρ:W (el x (ps p n j))+W (el x (ps q n j))≤3/2*b:=two_sum hb0 (by
  have:=hF.two_r hp hq hpq hj
  have e1:mvl n x p j*mvl n x p j=W (el x (ps p n j))*W (el x (ps p n j)):=sv_W _
  have e2:mvl n x q j*mvl n x q j=W (el x (ps q n j))*W (el x (ps q n j)):=sv_W _
  rw [e1,e2] at this; exact this)
 have heb:=ee_b b1
 have ub:=Rat.mul_nonneg uu_pos hb0
 have hd:41*uu*(W (el x (ps p n j))+W (el x (ps q n j)))+20*ee≤62*uu*b:=by
  have a1:=Rat.mul_le_mul_of_nonneg_left hρ (show 0≤41*uu by decide +kernel)
  have:=ee0.1
  grind
 have s0:sv 0=0:=sv_zero (by decide)
 refine ⟨(w0.set T.rl).set (by decide),fin_set2 h hf hF b1 b2 w0 w1 hp hj hq hj T.rf (by decide),?_⟩
 have:=set2_err w0 hp hj hq hj (.inl hpq) (v1:=r) (v2:=0) (d:=62*uu*b) w2 (by
  have e:sv r-rop (mvl n x) p q (sv C) (sv S) p j = -(sv C*sv (el x (ps p n j))+sv S*sv (el x (ps q n j))-sv r):=by unfold rop mvl; rw [if_pos rfl]; grind
  rw [e]; exact (T.r1.mono hd).neg) (by
  have e:sv 0-rop (mvl n x) p q (sv C) (sv S) q j = -(sv C*sv (el x (ps q n j))-sv S*sv (el x (ps p n j))):=by unfold rop mvl; rw [if_neg hpq.symm,if_pos rfl,s0]; grind
  rw [e]; exact (T.z1.mono hd).neg)
 exact this.mono (by grind)
theorem colS {p q i0:Nat} (hp:p<n) (hq:q<n) (hpq:p≠q) (hi0:i0<n) {C S r:Nat} (T:TurnG (el x (ps i0 n p)) (el x (ps i0 n q)) C S r) :
  Mx n n (((colV n n x p q C S).set (ps i0 n p) r).set (ps i0 n q) 0)∧Fin2 n n (((colV n n x p q C S).set (ps i0 n p) r).set (ps i0 n q) 0) ∧
  FN n n (fun i k=>mvl n (((colV n n x p q C S).set (ps i0 n p) r).set (ps i0 n q) 0) i k-cop (mvl n x) p q (sv C) (sv S) i k) (134*uu*b):=by
 obtain ⟨w0,w1,w2⟩:=colP h hf hF b1 b2 T.cs hp hq hpq
 have hb0:0≤b:=Rat.le_trans (Rat.le_of_lt (P2_pos _)) b1
 have hρ:W (el x (ps i0 n p))+W (el x (ps i0 n q))≤3/2*b:=two_sum hb0 (by
  have:=hF.two_c hp hq hpq hi0
  have e1:mvl n x i0 p*mvl n x i0 p=W (el x (ps i0 n p))*W (el x (ps i0 n p)):=sv_W _
  have e2:mvl n x i0 q*mvl n x i0 q=W (el x (ps i0 n q))*W (el x (ps i0 n q)):=sv_W _
  rw [e1,e2] at this; exact this)
 have heb:=ee_b b1
 have ub:=Rat.mul_nonneg uu_pos hb0
 have hd:41*uu*(W (el x (ps i0 n p))+W (el x (ps i0 n q)))+20*ee≤62*uu*b:=by
  have a1:=Rat.mul_le_mul_of_nonneg_left hρ (show 0≤41*uu by decide +kernel)
  have:=ee0.1
  grind
 have s0:sv 0=0:=sv_zero (by decide)
 refine ⟨(w0.set T.rl).set (by decide),fin_set2 h hf hF b1 b2 w0 w1 hi0 hp hi0 hq T.rf (by decide),?_⟩
 have:=set2_err w0 hi0 hp hi0 hq (.inr hpq) (v1:=r) (v2:=0) (d:=62*uu*b) w2 (by
  have e:sv r-cop (mvl n x) p q (sv C) (sv S) i0 p = -(sv C*sv (el x (ps i0 n p))+sv S*sv (el x (ps i0 n q))-sv r):=by unfold cop mvl; rw [if_pos rfl]; grind
  rw [e]; exact (T.r1.mono hd).neg) (by
  have e:sv 0-cop (mvl n x) p q (sv C) (sv S) i0 q = -(sv C*sv (el x (ps i0 n q))-sv S*sv (el x (ps i0 n p))):=by unfold cop mvl; rw [if_neg hpq.symm,if_pos rfl,s0]; grind
  rw [e]; exact (T.z1.mono hd).neg)
 exact this.mono (by grind)
end
structure HI (n:Nat) (A B:Nat→Nat→Rat) (a b:Rat) (m:Nat) (α β:Rat) (s:Q4):Prop where
 mx:Mx4 n s
 fH:Fin2 n n s.H
 fT:Fin2 n n s.T
 fQ:Fin2 n n s.Q
 fZ:Fin2 n n s.Z
 nH:FN n n (mvl n s.H) (a*(1+uu*(8000+250*m)))
 nT:FN n n (mvl n s.T) (b*(1+uu*(16000+250*m)))
 nQ:FN n n (mvl n s.Q) (5/2*(1+uu*(16000+250*m)))
 nZ:FN n n (mvl n s.Z) (5/2*(1+uu*(250*m)))
 eA:FN n n (fun i k=>A i k-mm n (mm n (mvl n s.Q) (mvl n s.H)) (trp (mvl n s.Z)) i k) (a*(uu*α))
 eB:FN n n (fun i k=>B i k-mm n (mm n (mvl n s.Q) (mvl n s.T)) (trp (mvl n s.Z)) i k) (b*(uu*β))
 oQ:FN n n (fun i k=>mm n (trp (mvl n s.Q)) (mvl n s.Q) i k-one2 i k) (uu*(7500+200*m))
 oZ:FN n n (fun i k=>mm n (trp (mvl n s.Z)) (mvl n s.Z) i k-one2 i k) (uu*(200*m))
theorem hi_k {m:Nat} (hm:m≤20) {k:Rat} (hk:0≤k) (hk2:k≤16000):1≤1+uu*(k+250*(m:Rat))∧1+uu*(k+250*(m:Rat))≤10001/10000:=by
 have h0:(0:Rat)≤m:=Rat.natCast_nonneg
 have h1:(m:Rat)≤((20:Nat):Rat):=Rat.natCast_le_natCast.2 hm
 have e:((20:Nat):Rat)=20:=rfl
 rw [e] at h1
 have h2:=Rat.mul_le_mul_of_nonneg_left (show k+250*(m:Rat)≤21000 by grind) uu_pos
 have h3:=Rat.mul_nonneg uu_pos (show 0≤k+250*(m:Rat) by grind)
 have h4:uu*21000≤1/10000:=by decide +kernel
 constructor<;>grind
theorem hi_b {m:Nat} (hm:m≤20) {k b:Rat} (hk:0≤k) (hk2:k≤16000) (b1:P2 (-110)≤b) (b2:b≤P2 190):P2 (-110)≤b*(1+uu*(k+250*(m:Rat)))∧b*(1+uu*(k+250*(m:Rat)))≤P2 195∧b*(1+uu*(k+250*(m:Rat)))≤10001/10000*b∧0≤b:=by
 obtain ⟨h1,h2⟩:=hi_k hm hk hk2
 have hb0:0≤b:=Rat.le_trans (Rat.le_of_lt (P2_pos _)) b1
 have h3:=Rat.mul_le_mul_of_nonneg_left h1 hb0
 have h4:=Rat.mul_le_mul_of_nonneg_left h2 hb0
 have h5:2*P2 190≤P2 195:=by decide +kernel
 generalize P2 195=p at *
 generalize P2 190=p2 at *
 exact ⟨by grind,by grind,by grind,hb0⟩
theorem delta_le {q h k:Rat} (hq:0≤q) (hh:0≤h) (hk:0≤k) (hk2:k≤200) :
  32*uu*(q*h)+((1+32*uu)*q*(k*uu*h)+(10*uu*q*((1+32*uu)*h)+10*uu*q*(k*uu*h)))≤(k+43)*(uu*(q*h)):=by
 have h1:=Rat.mul_nonneg hq hh
 have h2:=Rat.mul_nonneg uu_pos h1
 have h3:=Rat.mul_le_mul_of_nonneg_right hk2 h2
 have h4:=Rat.mul_le_mul_of_nonneg_right (show uu≤1/1000000000 by decide +kernel) h2
 have h5:=Rat.mul_le_mul_of_nonneg_left h3 uu_pos
 have e:32*uu*(q*h)+((1+32*uu)*q*(k*uu*h)+(10*uu*q*((1+32*uu)*h)+10*uu*q*(k*uu*h)))=(k+42)*(uu*(q*h))+42*(uu*(k*(uu*(q*h))))+320*(uu*(uu*(q*h))):=by grind
 rw [e]
 have e2:(k+43)*(uu*(q*h))=(k+42)*(uu*(q*h))+uu*(q*h):=by grind
 rw [e2]
 generalize (k+42)*(uu*(q*h))=z at *
 generalize uu*(k*(uu*(q*h)))=y at *
 generalize uu*(uu*(q*h))=w at *
 generalize uu*(q*h)=v at *
 grind
theorem delta_le' {q h k:Rat} (hq:0≤q) (hh:0≤h) (hk:0≤k) (hk2:k≤200) :
  32*uu*(h*q)+((1+32*uu)*h*(10*uu*q)+(k*uu*h*((1+32*uu)*q)+k*uu*h*(10*uu*q)))≤(k+43)*(uu*(q*h)):=by
 have:=delta_le hq hh hk hk2
 have e:32*uu*(h*q)+((1+32*uu)*h*(10*uu*q)+(k*uu*h*((1+32*uu)*q)+k*uu*h*(10*uu*q)))=32*uu*(q*h)+((1+32*uu)*q*(k*uu*h)+(10*uu*q*((1+32*uu)*h)+10*uu*q*(k*uu*h))):=by grind
 rw [e]; exact this
theorem og_step {n p q:Nat} (hp:p<n) (hq:q<n) (hpq:p≠q) (hn:n≤6) {C S v e:Rat} (hg:Ab (C*C+S*S-1) (32*uu)) {V V':Nat→Nat→Rat} (hv:FN n n V v) (hv2:v≤2501/1000) (hf:FN n n (fun i k=>V' i k-cop V p q C S i k) (10*uu*v)) (he:FN n n (fun i k=>mm n (trp V) V i k-one2 i k) e) (he2:e≤1/1000) :
  FN n n (fun i k=>mm n (trp V') V' i k-one2 i k) (e+200*uu):=by
 have h1:=gram_turned hp hq hpq hn hg hv hf he
 refine (h1.mono ?_).congr fun i k _ _ => ?_
 ·have v0:=hv.1
  have e0:=he.1
  have u0:=uu_pos
  have uv:=Rat.mul_le_mul_of_nonneg_left hv2 u0
  have vv:=rat_sq_le v0 hv2
  have uvv:=Rat.mul_le_mul_of_nonneg_left vv u0
  have ue:=Rat.mul_le_mul_of_nonneg_left he2 u0
  have hu:=show uu≤1/1000000000 by decide +kernel
  have uuvv:=Rat.mul_le_mul_of_nonneg_left uvv u0
  have uuuvv:=Rat.mul_le_mul_of_nonneg_left uuvv u0
  have uue:=Rat.mul_le_mul_of_nonneg_left ue u0
  have uu2:=Rat.mul_le_mul_of_nonneg_left hu u0
  have uu3:=Rat.mul_le_mul_of_nonneg_left uu2 u0
  have ex:(1+32*uu)*((1+32*uu)*e)+(32*uu*(3/2)+((1+32*uu)*v*(10*uu*v)+(10*uu*v*((1+32*uu)*v)+10*uu*v*(10*uu*v))))=e+64*(uu*e)+1024*(uu*(uu*e))+48*uu+20*(uu*(v*v))+740*(uu*(uu*(v*v))):=by grind
  rw [ex]
  generalize uu*(uu*(v*v))=a1 at *
  generalize uu*(v*v)=a2 at *
  generalize uu*(uu*e)=a3 at *
  generalize uu*e=a4 at *
  generalize uu=u at *
  grind
 ·have eV:∀i k,cop V p q C S i k+(V' i k-cop V p q C S i k)=V' i k:=fun i k=>by grind
  have e1:mm n (trp fun i k=>cop V p q C S i k+(V' i k-cop V p q C S i k)) (fun i k=>cop V p q C S i k+(V' i k-cop V p q C S i k)) i k=mm n (trp V') V' i k:=mm_congr (fun j _=>eV j i) (fun j _=>eV j k)
  rw [e1]
theorem grow_le {b k c:Rat} {m:Nat} (hm:m≤20) (hk:0≤k) (hk2:k≤16000) (hb:0≤b) (hc:c≤170):b*(1+uu*(k+250*(m:Rat)))*(1+uu*c)≤b*(1+uu*(k+250*((m+1:Nat):Rat))):=by
 obtain ⟨h1,h2⟩:=hi_k hm hk hk2
 rw [nat_rat]
 have h3:=Rat.mul_le_mul_of_nonneg_left h2 hb
 have h4:=Rat.mul_nonneg hb (show 0≤1+uu*(k+250*(m:Rat)) by grind)
 have h5:=Rat.mul_le_mul_of_nonneg_left hc (Rat.mul_nonneg uu_pos h4)
 have h6:=Rat.mul_le_mul_of_nonneg_left h3 uu_pos
 have ub:=Rat.mul_nonneg uu_pos hb
 have e:b*(1+uu*(k+250*(m:Rat)))*(1+uu*c)=b*(1+uu*(k+250*(m:Rat)))+uu*(b*(1+uu*(k+250*(m:Rat))))*c:=by grind
 have e2:b*(1+uu*(k+250*((m:Rat)+1)))=b*(1+uu*(k+250*(m:Rat)))+250*(uu*b):=by grind
 rw [e,e2]
 generalize b*(1+uu*(k+250*(m:Rat)))=z at *
 grind
theorem three_r {n p q:Nat} (hp:p<n) (hq:q<n) (hpq:p≠q) {C S:Rat} (hg:Ab (C*C+S*S-1) (32*uu)) {A X Y X' Y' Z:Nat→Nat→Rat} {x h z e k w:Rat} (hX:FN n n X x) (hY:FN n n Y h) (hZ:FN n n Z z) (x2:x≤2501/1000) (h2:h≤1001/1000*w) (w0:0≤w) (z2:z≤2501/1000) (hk:0≤k) (hk2:k≤200)
  (f1:FN n n (fun i k=>X' i k-cop X p q C S i k) (10*uu*x)) (f2:FN n n (fun i k=>Y' i k-rop Y p q C S i k) (k*uu*h)) (he:FN n n (fun i k=>A i k-mm n (mm n X Y) (trp Z) i k) e) :
  FN n n (fun i k=>A i k-mm n (mm n X' Y') (trp Z) i k) (e+w*(uu*((k+43)*(6262/1000)))):=by
 have d:=(prod_step hp hq hpq hg hX hY f1 f2).mono (delta_le hX.1 hY.1 hk hk2)
 have d2:=d.mul hZ.tr
 refine ((he.sub d2).mono ?_).congr fun i k _ _ => ?_
 ·have u0:=uu_pos
  have xh:x*h≤2501/1000*(1001/1000*w):=Rat.le_trans (Rat.mul_le_mul_of_nonneg_right x2 hY.1) (Rat.mul_le_mul_of_nonneg_left h2 (by decide +kernel))
  have p0:0≤(k+43)*(uu*(x*h)):=d.1
  have p1:=Rat.mul_le_mul_of_nonneg_left z2 p0
  have p2:=Rat.mul_le_mul_of_nonneg_left xh (Rat.mul_nonneg (show 0≤k+43 by grind) u0)
  have p3:=Rat.mul_nonneg (Rat.mul_nonneg (show 0≤k+43 by grind) u0) w0
  have e1:(k+43)*(uu*(x*h))=(k+43)*uu*(x*h):=by grind
  rw [e1] at p1 ⊢
  have e2:w*(uu*((k+43)*(6262/1000)))=(k+43)*uu*w*(6262/1000):=by grind
  rw [e2]
  generalize (k+43)*uu=c at *
  generalize c*(x*h)*z=y at *
  grind
 ·rw [mm_subl]; grind
theorem three_c {n p q:Nat} (hp:p<n) (hq:q<n) (hpq:p≠q) {C S:Rat} (hg:Ab (C*C+S*S-1) (32*uu)) {A Q Y Z Y' Z':Nat→Nat→Rat} {x h z e k w:Rat} (hQ:FN n n Q x) (hY:FN n n Y h) (hZ:FN n n Z z) (x2:x≤2501/1000) (h2:h≤1001/1000*w) (w0:0≤w) (z2:z≤2501/1000) (hk:0≤k) (hk2:k≤200)
  (f1:FN n n (fun i k=>Y' i k-cop Y p q C S i k) (k*uu*h)) (f2:FN n n (fun i k=>Z' i k-cop Z p q C S i k) (10*uu*z)) (he:FN n n (fun i k=>A i k-mm n (mm n Q Y) (trp Z) i k) e) :
  FN n n (fun i k=>A i k-mm n (mm n Q Y') (trp Z') i k) (e+w*(uu*((k+43)*(6262/1000)))):=by
 have f2':FN n n (fun i k=>trp Z' i k-rop (trp Z) p q C S i k) (10*uu*z):=f2.tr
 have d:=(prod_step hp hq hpq hg hY hZ.tr f1 f2').mono (delta_le' hZ.1 hY.1 hk hk2)
 have d2:=hQ.mul d
 refine ((he.sub d2).mono ?_).congr fun i k _ _ => ?_
 ·have u0:=uu_pos
  have xh:z*h≤2501/1000*(1001/1000*w):=Rat.le_trans (Rat.mul_le_mul_of_nonneg_right z2 hY.1) (Rat.mul_le_mul_of_nonneg_left h2 (by decide +kernel))
  have p0:0≤(k+43)*(uu*(z*h)):=d.1
  have p1:=Rat.mul_le_mul_of_nonneg_right x2 p0
  have p2:=Rat.mul_le_mul_of_nonneg_left xh (Rat.mul_nonneg (show 0≤k+43 by grind) u0)
  have p3:=Rat.mul_nonneg (Rat.mul_nonneg (show 0≤k+43 by grind) u0) w0
  have e1:(k+43)*(uu*(z*h))=(k+43)*uu*(z*h):=by grind
  rw [e1] at p1 ⊢
  have e2:w*(uu*((k+43)*(6262/1000)))=(k+43)*uu*w*(6262/1000):=by grind
  rw [e2]
  generalize (k+43)*uu=c at *
  generalize x*(c*(z*h))=y at *
  grind
 ·rw [mm_subr,mm_assoc,mm_assoc]
  have e1:mm n Q (fun i k=>mm n Y' (trp Z') i k-mm n Y (trp Z) i k) i k=mm n Q (mm n Y' (trp Z')) i k-mm n Q (mm n Y (trp Z)) i k:=mm_subr _ _ _ _ _ _
  grind
theorem addsub (x y:Rat):x+(y-x)=y:=by grind
theorem rat_le_of_eq {a b:Rat} (h:a=b):a≤b:=by rw [h]; exact Rat.le_refl
section
variable {n:Nat} {A B:Nat→Nat→Rat} {a b:Rat} (a1:P2 (-110)≤a) (a2:a≤P2 190) (b1:P2 (-110)≤b) (b2:b≤P2 190) {m:Nat} (hm:m≤19) {i:Nat} (hi:1≤i) (hin:i<n)
include a1 a2 b1 b2 hm hi hin
theorem og_mono {e:Rat} (h:e=uu*(7500+200*(m:Rat))):e+200*uu≤uu*(7500+200*((m+1:Nat):Rat))∧e≤1/1000:=by
 have h0:(0:Rat)≤m:=Rat.natCast_nonneg
 have h1:(m:Rat)≤((20:Nat):Rat):=Rat.natCast_le_natCast.2 (by omega)
 have e20:((20:Nat):Rat)=20:=rfl
 rw [e20] at h1
 have h2:=Rat.mul_le_mul_of_nonneg_left (show 7500+200*(m:Rat)≤21000 by grind) uu_pos
 have h4:uu*21000≤1/1000:=by decide +kernel
 rw [h,nat_rat]
 exact ⟨by grind,by grind⟩
theorem oz_mono {e:Rat} (h:e=uu*(200*(m:Rat))):e+200*uu≤uu*(200*((m+1:Nat):Rat))∧e≤1/1000:=by
 have h0:(0:Rat)≤m:=Rat.natCast_nonneg
 have h1:(m:Rat)≤((20:Nat):Rat):=Rat.natCast_le_natCast.2 (by omega)
 have e20:((20:Nat):Rat)=20:=rfl
 rw [e20] at h1
 have h2:=Rat.mul_le_mul_of_nonneg_left (show 200*(m:Rat)≤21000 by grind) uu_pos
 have h4:uu*21000≤1/1000:=by decide +kernel
 rw [h,nat_rat]
 exact ⟨by grind,by grind⟩
theorem up1 {e:Rat} (he:0≤e):e*(uu*(200*(m:Rat)))≤e*(uu*(200*((m+1:Nat):Rat)))∧e*(1+uu*(250*(m:Rat)))≤e*(1+uu*(250*((m+1:Nat):Rat)))∧e*(1+uu*(16000+250*(m:Rat)))≤e*(1+uu*(16000+250*((m+1:Nat):Rat)))∧e*(uu*(7500+200*(m:Rat)))≤e*(uu*(7500+200*((m+1:Nat):Rat))):=by
 rw [nat_rat]
 have:=Rat.mul_nonneg he uu_pos
 exact ⟨by grind,by grind,by grind,by grind⟩
theorem hi_row {α β:Rat} {s:Q4} (h:HI n A B a b m α β s) {j:Nat} (hj:j<n):finP (hrF n i j s) (hrG n i j s)=true∧HI n A B a b (m+1) (α+1110) (β+340) (hsR n i j s):=by
 have hn6:=h.mx.H.hr
 have hp:i-1<n:=by omega
 have hpq:i-1≠i:=by omega
 obtain ⟨hA1,hA2,hA3,a0⟩:=hi_b (m:=m) (by omega) (k:=8000) (by decide +kernel) (by decide +kernel) a1 a2
 obtain ⟨hB1,hB2,hB3,b0⟩:=hi_b (m:=m) (by omega) (k:=16000) (by decide +kernel) (by decide +kernel) b1 b2
 have q1:P2 (-110)≤5/2:=by decide +kernel
 have q2:5/2≤P2 190:=by decide +kernel
 obtain ⟨hQ1,hQ2,hQ3,_⟩:=hi_b (m:=m) (by omega) (k:=16000) (by decide +kernel) (by decide +kernel) q1 q2
 obtain ⟨hZ1,hZ2,hZ3,_⟩:=hi_b (m:=m) (by omega) (k:=0) (by decide +kernel) (by decide +kernel) q1 q2
 have z0:(0:Rat)+250*(m:Rat)=250*(m:Rat):=by grind
 rw [z0] at hZ1 hZ2 hZ3
 have T:=turnG (h.mx.H.w.el (ps (i-1) n j)) (h.mx.H.w.el (ps i n j)) (h.fH _ _ hp hj) (h.fH _ _ hin hj) (cellB h.mx.H h.fH h.nH hA1 hA2 hp hj) (cellB h.mx.H h.fH h.nH hA1 hA2 hin hj)
 obtain ⟨r0,r1,r2⟩:=rowS h.mx.H h.fH h.nH hA1 hA2 hp hin hpq hj T
 obtain ⟨t0,t1,t2⟩:=rowP h.mx.T h.fT h.nT hB1 hB2 T.cs hp hin hpq
 obtain ⟨c0,c1,c2⟩:=colP h.mx.Q h.fQ h.nQ hQ1 hQ2 T.cs hp hin hpq
 have g:=T.cs.one
 have hf:finP (hrF n i j s) (hrG n i j s)=true:=by
  unfold finP hrF hrG
  exact decide_eq_true (fun hh=>hh.elim (h.fH _ _ hp hj) (h.fH _ _ hin hj))
 have u0:=uu_pos
 have qle:5/2*(1+uu*(16000+250*(m:Rat)))≤2501/1000:=Rat.le_trans hQ3 (by decide +kernel)
 have zle:5/2*(1+uu*(250*(m:Rat)))≤2501/1000:=Rat.le_trans hZ3 (by decide +kernel)
 have hle:a*(1+uu*(8000+250*(m:Rat)))≤1001/1000*a:=by grind
 have tle:b*(1+uu*(16000+250*(m:Rat)))≤1001/1000*b:=by grind
 have eA:=three_r hp hin hpq g h.nQ h.nH h.nZ qle hle a0 zle (k:=134) (by decide +kernel) (by decide +kernel) c2 r2 h.eA
 have eB:=three_r hp hin hpq g h.nQ h.nT h.nZ qle tle b0 zle (k:=10) (by decide +kernel) (by decide +kernel) c2 t2 h.eB
 obtain ⟨o1,o2⟩:=og_mono a1 a2 b1 b2 hm hi hin (e:=uu*(7500+200*(m:Rat))) rfl
 have oQ:=og_step hp hin hpq hn6 g h.nQ qle c2 h.oQ o2
 have hH:=(FN.rop hpq _ _ hp hin h.nH g).add r2
 have hT:=(FN.rop hpq _ _ hp hin h.nT g).add t2
 have hQ:=(FN.cop hpq _ _ hp hin h.nQ g).add c2
 have ua:=Rat.mul_nonneg u0 a0
 have ub:=Rat.mul_nonneg u0 b0
 refine ⟨hf,⟨⟨r0,t0,c0,h.mx.Z⟩,r1,t1,c1,h.fZ,?_,?_,?_,?_,eA.mono ?_,eB.mono ?_,oQ.mono o1,?_⟩⟩
 ·refine (hH.mono (Rat.le_trans (rat_le_of_eq ?_) (grow_le (m:=m) (by omega) (k:=8000) (c:=166) (by decide +kernel) (by decide +kernel) a0 (by decide +kernel)))).congr fun i k _ _ => ?_
  ·grind
  ·exact addsub _ _
 ·refine (hT.mono (Rat.le_trans (rat_le_of_eq ?_) (grow_le (m:=m) (by omega) (k:=16000) (c:=42) (by decide +kernel) (by decide +kernel) b0 (by decide +kernel)))).congr fun i k _ _ => ?_
  ·grind
  ·exact addsub _ _
 ·refine (hQ.mono (Rat.le_trans (rat_le_of_eq ?_) (grow_le (m:=m) (by omega) (k:=16000) (c:=42) (by decide +kernel) (by decide +kernel) (show (0:Rat)≤5/2 by decide +kernel) (by decide +kernel)))).congr fun i k _ _ => ?_
  ·grind
  ·exact addsub _ _
 ·exact h.nZ.mono (up1 a1 a2 b1 b2 hm hi hin (by decide +kernel)).2.1
 ·clear eA eB oQ hH hT hQ T r0 r1 r2 t0 t1 t2 c0 c1 c2 h
  grind
 ·clear eA eB oQ hH hT hQ T r0 r1 r2 t0 t1 t2 c0 c1 c2 h
  grind
 ·exact h.oZ.mono (by have:=(up1 a1 a2 b1 b2 hm hi hin (e:=1) (by decide +kernel)).1; grind)
theorem hi_col {α β:Rat} {s:Q4} (h:HI n A B a b m α β s):finP (hcF n i s) (hcG n i s)=true∧HI n A B a b (m+1) (α+340) (β+1110) (hsC n i s):=by
 have hn6:=h.mx.H.hr
 have hp:i-1<n:=by omega
 have hpq:i≠i-1:=by omega
 obtain ⟨hA1,hA2,hA3,a0⟩:=hi_b (m:=m) (by omega) (k:=8000) (by decide +kernel) (by decide +kernel) a1 a2
 obtain ⟨hB1,hB2,hB3,b0⟩:=hi_b (m:=m) (by omega) (k:=16000) (by decide +kernel) (by decide +kernel) b1 b2
 have q1:P2 (-110)≤5/2:=by decide +kernel
 have q2:5/2≤P2 190:=by decide +kernel
 obtain ⟨hQ1,hQ2,hQ3,_⟩:=hi_b (m:=m) (by omega) (k:=16000) (by decide +kernel) (by decide +kernel) q1 q2
 obtain ⟨hZ1,hZ2,hZ3,_⟩:=hi_b (m:=m) (by omega) (k:=0) (by decide +kernel) (by decide +kernel) q1 q2
 have z0:(0:Rat)+250*(m:Rat)=250*(m:Rat):=by grind
 rw [z0] at hZ1 hZ2 hZ3
 have T:=turnG (h.mx.T.w.el (ps i n i)) (h.mx.T.w.el (ps i n (i-1))) (h.fT _ _ hin hin) (h.fT _ _ hin hp) (cellB h.mx.T h.fT h.nT hB1 hB2 hin hin) (cellB h.mx.T h.fT h.nT hB1 hB2 hin hp)
 obtain ⟨r0,r1,r2⟩:=colP h.mx.H h.fH h.nH hA1 hA2 T.cs hin hp hpq
 obtain ⟨t0,t1,t2⟩:=colS h.mx.T h.fT h.nT hB1 hB2 hin hp hpq hin T
 obtain ⟨c0,c1,c2⟩:=colP h.mx.Z h.fZ h.nZ hZ1 hZ2 T.cs hin hp hpq
 have g:=T.cs.one
 have hf:finP (hcF n i s) (hcG n i s)=true:=by
  unfold finP hcF hcG
  exact decide_eq_true (fun hh=>hh.elim (h.fT _ _ hin hin) (h.fT _ _ hin hp))
 have u0:=uu_pos
 have qle:5/2*(1+uu*(16000+250*(m:Rat)))≤2501/1000:=Rat.le_trans hQ3 (by decide +kernel)
 have zle:5/2*(1+uu*(250*(m:Rat)))≤2501/1000:=Rat.le_trans hZ3 (by decide +kernel)
 have hle:a*(1+uu*(8000+250*(m:Rat)))≤1001/1000*a:=by grind
 have tle:b*(1+uu*(16000+250*(m:Rat)))≤1001/1000*b:=by grind
 have eA:=three_c hin hp hpq g h.nQ h.nH h.nZ qle hle a0 zle (k:=10) (by decide +kernel) (by decide +kernel) r2 c2 h.eA
 have eB:=three_c hin hp hpq g h.nQ h.nT h.nZ qle tle b0 zle (k:=134) (by decide +kernel) (by decide +kernel) t2 c2 h.eB
 obtain ⟨o1,o2⟩:=oz_mono a1 a2 b1 b2 hm hi hin (e:=uu*(200*(m:Rat))) rfl
 have oZ:=og_step hin hp hpq hn6 g h.nZ zle c2 h.oZ o2
 have hH:=(FN.cop hpq _ _ hin hp h.nH g).add r2
 have hT:=(FN.cop hpq _ _ hin hp h.nT g).add t2
 have hZ:=(FN.cop hpq _ _ hin hp h.nZ g).add c2
 have ua:=Rat.mul_nonneg u0 a0
 have ub:=Rat.mul_nonneg u0 b0
 refine ⟨hf,⟨⟨r0,t0,h.mx.Q,c0⟩,r1,t1,h.fQ,c1,?_,?_,?_,?_,eA.mono ?_,eB.mono ?_,?_,oZ.mono o1⟩⟩
 ·refine (hH.mono (Rat.le_trans (rat_le_of_eq ?_) (grow_le (m:=m) (by omega) (k:=8000) (c:=42) (by decide +kernel) (by decide +kernel) a0 (by decide +kernel)))).congr fun i k _ _ => ?_
  ·grind
  ·exact addsub _ _
 ·refine (hT.mono (Rat.le_trans (rat_le_of_eq ?_) (grow_le (m:=m) (by omega) (k:=16000) (c:=166) (by decide +kernel) (by decide +kernel) b0 (by decide +kernel)))).congr fun i k _ _ => ?_
  ·grind
  ·exact addsub _ _
 ·exact h.nQ.mono (up1 a1 a2 b1 b2 hm hi hin (by decide +kernel)).2.2.1
 ·refine (hZ.mono (Rat.le_trans (rat_le_of_eq ?_) (Rat.le_trans (grow_le (m:=m) (by omega) (k:=0) (c:=42) (by decide +kernel) (by decide +kernel) (show (0:Rat)≤5/2 by decide +kernel) (by decide +kernel)) (rat_le_of_eq ?_)))).congr fun i k _ _ => ?_
  ·grind
  ·grind
  ·exact addsub _ _
 ·clear eA eB oZ hH hT hZ T r0 r1 r2 t0 t1 t2 c0 c1 c2 h
  grind
 ·clear eA eB oZ hH hT hZ T r0 r1 r2 t0 t1 t2 c0 c1 c2 h
  grind
 ·exact h.oQ.mono (by have:=(up1 a1 a2 b1 b2 hm hi hin (e:=1) (by decide +kernel)).2.2.2; grind)
end
theorem el_set2 {n i1 k1 i2 k2 v1 v2:Nat} {y:List Nat} (h:Mx n n y) (a1:i1<n) (b1:k1<n) (a2:i2<n) (b2:k2<n) {i k:Nat} (hk:k<n):el ((y.set (ps i1 n k1) v1).set (ps i2 n k2) v2) (ps i n k)=if i=i2∧k=k2 then v2 else if i=i1∧k=k1 then v1 else el y (ps i n k):=by
 have l1:=h.lt a1 b1
 have l2:=h.lt a2 b2
 rw [el_set,el_set,List.length_set]
 by_cases q2:i=i2∧k=k2
 ·obtain ⟨rfl,rfl⟩:=q2
  rw [if_pos ⟨rfl,l2⟩,if_pos ⟨rfl,rfl⟩]
 ·rw [if_neg q2,if_neg (fun hh=>by have:=ps_inj b2 hk hh.1; omega)]
  by_cases q1:i=i1∧k=k1
  ·obtain ⟨rfl,rfl⟩:=q1
   rw [if_pos ⟨rfl,l1⟩,if_pos ⟨rfl,rfl⟩]
  ·rw [if_neg q1,if_neg (fun hh=>by have:=ps_inj b1 hk hh.1; omega)]
structure HZ (n j i:Nat) (PA PB:Prop) (s:Q4):Prop where
 zT:∀i' k,k<i'→i'<n→W (el s.T (ps i' n k))=0
 zH:∀i' k,i'<n→k<n→(k<j∧k+1<i')∨(k=j∧i≤i')→W (el s.H (ps i' n k))=0
 zA:PA→∀i' k,i'<n→k<n→W (el s.H (ps i' n k))=0
 zB:PB→∀i' k,i'<n→k<n→W (el s.T (ps i' n k))=0
theorem W0:W 0=0:=W_zero_of (by decide)
section
variable {n:Nat} {A B:Nat→Nat→Rat} {a b:Rat} (a1:P2 (-110)≤a) (a2:a≤P2 190) (b1:P2 (-110)≤b) (b2:b≤P2 190) {PA PB:Prop}
include a1 a2 b1 b2
theorem hs_step {m:Nat} (hm:m+2≤20) {α β:Rat} {s:Q4} (h:HI n A B a b m α β s) {i j:Nat} (hj:j+2≤i) (hin:i<n) (z:HZ n j (i+1) PA PB s) :
  ∃s',hsS n i j s=some s'∧HI n A B a b (m+2) (α+1450) (β+1450) s'∧HZ n j i PA PB s':=by
 have hp:i-1<n:=by omega
 have hjn:j<n:=by omega
 obtain ⟨f1,h1⟩:=hi_row a1 a2 b1 b2 (show m≤19 by omega) (show 1≤i by omega) hin h hjn
 obtain ⟨f2,h2⟩:=hi_col a1 a2 b1 b2 (show m+1≤19 by omega) (show 1≤i by omega) hin h1
 have T1:=turnG (h.mx.H.w.el (ps (i-1) n j)) (h.mx.H.w.el (ps i n j)) (h.fH _ _ hp hjn) (h.fH _ _ hin hjn) (by
  obtain ⟨x1,x2,-,-⟩:=hi_b (m:=m) (by omega) (k:=8000) (by decide +kernel) (by decide +kernel) a1 a2
  exact cellB h.mx.H h.fH h.nH x1 x2 hp hjn) (by
  obtain ⟨x1,x2,-,-⟩:=hi_b (m:=m) (by omega) (k:=8000) (by decide +kernel) (by decide +kernel) a1 a2
  exact cellB h.mx.H h.fH h.nH x1 x2 hin hjn)
 have T2:=turnG (h1.mx.T.w.el (ps i n i)) (h1.mx.T.w.el (ps i n (i-1))) (h1.fT _ _ hin hin) (h1.fT _ _ hin hp) (by
  obtain ⟨x1,x2,-,-⟩:=hi_b (m:=m+1) (by omega) (k:=16000) (by decide +kernel) (by decide +kernel) b1 b2
  exact cellB h1.mx.T h1.fT h1.nT x1 x2 hin hin) (by
  obtain ⟨x1,x2,-,-⟩:=hi_b (m:=m+1) (by omega) (k:=16000) (by decide +kernel) (by decide +kernel) b1 b2
  exact cellB h1.mx.T h1.fT h1.nT x1 x2 hin hp)
 have hpq:i-1≠i:=by omega
 have w1:=rowV_mx h.mx.H T1.cs.cl T1.cs.sl (i:=i-1) (k:=i) hp hin
 have H1:∀i' k,i'<n→k<n→el (hsR n i j s).H (ps i' n k)=if i'=i∧k=j then 0 else if i'=i-1∧k=j then turnR (hrF n i j s) (hrG n i j s) else el (rowV s.H n (i-1) i (turnC (hrF n i j s) (hrG n i j s)) (turnS (hrF n i j s) (hrG n i j s))) (ps i' n k):=fun i' k hi' hk =>
  el_set2 w1 hp hjn hin hjn hk
 have rH:∀i' k,i'<n→k<n→W (el s.H (ps i' n k))=0→(i'=i-1∨i'=i→W (el s.H (ps (i-1) n k))=0∧W (el s.H (ps i n k))=0)→W (el (rowV s.H n (i-1) i (turnC (hrF n i j s) (hrG n i j s)) (turnS (hrF n i j s) (hrG n i j s))) (ps i' n k))=0:=fun i' k hi' hk hx hz =>
  rowV_nought h.mx.H h.fH T1.cs.cf T1.cs.sf hp hin hpq hi' hk hx hz
 have rT:∀i' k,i'<n→k<n→W (el s.T (ps i' n k))=0→(i'=i-1∨i'=i→W (el s.T (ps (i-1) n k))=0∧W (el s.T (ps i n k))=0)→W (el (hsR n i j s).T (ps i' n k))=0:=fun i' k hi' hk hx hz =>
  rowV_nought h.mx.T h.fT T1.cs.cf T1.cs.sf hp hin hpq hi' hk hx hz
 have zT1:∀i' k,k<i'→i'<n→¬(i'=i∧k=i-1)→W (el (hsR n i j s).T (ps i' n k))=0:=fun i' k hk hi' hne =>
  rT i' k hi' (by omega) (z.zT i' k hk hi') fun hh=>⟨z.zT (i-1) k (by omega) hp,z.zT i k (by omega) hin⟩
 have zH1:∀i' k,i'<n→k<n→(k<j∧k+1<i')∨(k=j∧i≤i')→W (el (hsR n i j s).H (ps i' n k))=0:=fun i' k hi' hk hc=>by
  rw [H1 i' k hi' hk]
  by_cases q1:i'=i∧k=j
  ·rw [if_pos q1]; exact W0
  ·rw [if_neg q1,if_neg (by omega)]
   refine rH i' k hi' hk (z.zH i' k hi' hk (by omega)) fun hh => ?_
   have hkj:k<j:=by omega
   exact ⟨z.zH (i-1) k hp hk (by omega),z.zH i k hin hk (by omega)⟩
 have zA1:PA→∀i' k,i'<n→k<n→W (el (hsR n i j s).H (ps i' n k))=0:=fun hPA i' k hi' hk=>by
  have zz:=z.zA hPA
  rw [H1 i' k hi' hk]
  split
  ·exact W0
  ·split
   ·exact turnR_nought (h.fH _ _ hin hjn) (zz _ _ hp hjn) (zz _ _ hin hjn)
   ·exact rH i' k hi' hk (zz i' k hi' hk) fun _=>⟨zz _ k hp hk,zz _ k hin hk⟩
 have zB1:PB→∀i' k,i'<n→k<n→W (el (hsR n i j s).T (ps i' n k))=0:=fun hPB i' k hi' hk=>by
  have zz:=z.zB hPB
  exact rT i' k hi' hk (zz i' k hi' hk) fun _=>⟨zz _ k hp hk,zz _ k hin hk⟩
 have hS:hsS n i j s=some (hsC n i (hsR n i j s)):=by
  unfold hsS
  rw [if_pos f1,if_pos f2]
 generalize hsR n i j s=s1 at *
 have w2:=colV_mx h1.mx.T T2.cs.cl T2.cs.sl (i:=i) (k:=i-1) hin hp
 have hqp:i≠i-1:=by omega
 have T2e:∀i' k,i'<n→k<n→el (hsC n i s1).T (ps i' n k)=if i'=i∧k=i-1 then 0 else if i'=i∧k=i then turnR (hcF n i s1) (hcG n i s1) else el (colV n n s1.T i (i-1) (turnC (hcF n i s1) (hcG n i s1)) (turnS (hcF n i s1) (hcG n i s1))) (ps i' n k):=fun i' k hi' hk =>
  el_set2 w2 hin hin hin hp hk
 have cT:∀i' k,i'<n→k<n→W (el s1.T (ps i' n k))=0→(k=i∨k=i-1→W (el s1.T (ps i' n i))=0∧W (el s1.T (ps i' n (i-1)))=0)→W (el (colV n n s1.T i (i-1) (turnC (hcF n i s1) (hcG n i s1)) (turnS (hcF n i s1) (hcG n i s1))) (ps i' n k))=0:=fun i' k hi' hk hx hz =>
  colV_nought h1.mx.T h1.fT T2.cs.cf T2.cs.sf hin hp hqp hi' hk hx hz
 have cH:∀i' k,i'<n→k<n→W (el s1.H (ps i' n k))=0→(k=i∨k=i-1→W (el s1.H (ps i' n i))=0∧W (el s1.H (ps i' n (i-1)))=0)→W (el (hsC n i s1).H (ps i' n k))=0:=fun i' k hi' hk hx hz =>
  colV_nought h1.mx.H h1.fH T2.cs.cf T2.cs.sf hin hp hqp hi' hk hx hz
 refine ⟨hsC n i s1,?_,?_,⟨fun i' k hk hi' => ?_,fun i' k hi' hk hc => ?_,fun hPA i' k hi' hk => ?_,fun hPB i' k hi' hk => ?_⟩⟩
 ·exact hS
 ·have e1:α+1110+340=α+1450:=by grind
  have e2:β+340+1110=β+1450:=by grind
  rw [e1,e2] at h2
  exact h2
 ·rw [T2e i' k hi' (by omega)]
  by_cases q1:i'=i∧k=i-1
  ·rw [if_pos q1]; exact W0
  ·rw [if_neg q1,if_neg (by omega)]
   refine cT i' k hi' (by omega) (zT1 i' k hk hi' q1) fun hh => ?_
   exact ⟨zT1 i' i (by omega) hi' (by omega),zT1 i' (i-1) (by omega) hi' (by omega)⟩
 ·exact cH i' k hi' hk (zH1 i' k hi' hk hc) fun hh=>by omega
 ·have zz:=zA1 hPA
  exact cH i' k hi' hk (zz i' k hi' hk) fun _=>⟨zz i' i hi' hin,zz i' _ hi' hp⟩
 ·have zz:=zB1 hPB
  rw [T2e i' k hi' hk]
  split
  ·exact W0
  ·split
   ·exact turnR_nought (h1.fT _ _ hin hp) (zz _ _ hin hin) (zz _ _ hin hp)
   ·exact cT i' k hi' hk (zz i' k hi' hk) fun _=>⟨zz i' i hi' hin,zz i' _ hi' hp⟩
end
section
variable {n:Nat} {A B:Nat→Nat→Rat} {a b:Rat} (a1:P2 (-110)≤a) (a2:a≤P2 190) (b1:P2 (-110)≤b) (b2:b≤P2 190) {PA PB:Prop}
include a1 a2 b1 b2
theorem hs_in {j:Nat}:∀(k m:Nat) {α β:Rat} {s:Q4},j+2+k≤n→m+2*k≤20→HI n A B a b m α β s→HZ n j (j+2+k) PA PB s →
  ∃s',hsIn n j k s=some s'∧HI n A B a b (m+2*k) (α+1450*(k:Nat)) (β+1450*(k:Nat)) s'∧HZ n j (j+2) PA PB s'
 | 0,m,α,β,s,_,_,h,z=>by
  have e:((0:Nat):Rat)=0:=rfl
  refine ⟨s,rfl,?_,z⟩
  rw [e,show α+1450*0=α by grind,show β+1450*0=β by grind]
  exact h
 | k+1,m,α,β,s,hk,hm,h,z=>by
  obtain ⟨s1,q1,q2,q3⟩:=hs_step a1 a2 b1 b2 (m:=m) (by omega) h (i:=j+2+k) (j:=j) (by omega) (by omega) z
  obtain ⟨s2,r1,r2,r3⟩:=hs_in k (m+2) (by omega) (by omega) q2 q3
  refine ⟨s2,?_,?_,r3⟩
  ·unfold hsIn
   rw [q1]
   exact r1
  ·rw [show m+2*(k+1)=m+2+2*k by omega,nat_rat,show α+1450*((k:Rat)+1)=α+1450+1450*(k:Rat) by grind,show β+1450*((k:Rat)+1)=β+1450+1450*(k:Rat) by grind]
   exact r2
theorem hs_out:∀(k j m:Nat) {α β:Rat} {s:Q4},j+k=n-2→m+2*tri (k+1)≤20→HI n A B a b m α β s→HZ n j n PA PB s →
  ∃s',hsOut n k j s=some s'∧HI n A B a b (m+2*tri (k+1)) (α+1450*(tri (k+1):Nat)) (β+1450*(tri (k+1):Nat)) s'∧HZ n (j+k) n PA PB s'
 | 0,j,m,α,β,s,_,_,h,z=>by
  have e:((tri (0+1):Nat):Rat)=0:=rfl
  refine ⟨s,rfl,?_,z⟩
  rw [e,show α+1450*0=α by grind,show β+1450*0=β by grind]
  exact h
 | k+1,j,m,α,β,s,hk,hm,h,z=>by
  have ht:tri (k+1+1)=k+1+tri (k+1):=rfl
  rw [ht] at hm
  have hc:n-(j+2)=k+1:=by omega
  obtain ⟨s1,q1,q2,q3⟩:=hs_in a1 a2 b1 b2 (j:=j) (k+1) m (by omega) (by omega) h (by rw [show j+2+(k+1)=n by omega]; exact z)
  have z2:HZ n (j+1) n PA PB s1:=⟨q3.zT,fun i' k' hi' hk' hc=>q3.zH i' k' hi' hk' (by omega),q3.zA,q3.zB⟩
  obtain ⟨s2,r1,r2,r3⟩:=hs_out k (j+1) (m+2*(k+1)) (by omega) (by omega) q2 z2
  refine ⟨s2,?_,?_,by rw [show j+(k+1)=j+1+k by omega]; exact r3⟩
  ·unfold hsOut
   rw [hc,q1]
   exact r1
  ·rw [ht]
   have e:((k+1+tri (k+1):Nat):Rat)=((k+1:Nat):Rat)+((tri (k+1):Nat):Rat):=Rat.natCast_add _ _
   rw [show m+2*(k+1+tri (k+1))=m+2*(k+1)+2*tri (k+1) by omega,e,show ∀γ:Rat,γ+1450*(((k+1:Nat):Rat)+((tri (k+1):Nat):Rat))=γ+1450*((k+1:Nat):Rat)+1450*((tri (k+1):Nat):Rat) from fun γ=>by grind]
   rw [show β+1450*(((k+1:Nat):Rat)+((tri (k+1):Nat):Rat))=β+1450*((k+1:Nat):Rat)+1450*((tri (k+1):Nat):Rat) by grind]
   exact r2
end
theorem fn_W {r c:Nat} {x:List Nat} {b:Rat} (h:FN r c (mvl c x) b):FN r c (fun i k=>W (el x (ps i c k))) b:=FN.of h.1 (by
 rw [sum2_congr (Y:=fun i k=>mvl c x i k*mvl c x i k) fun i k _ _=>(sv_W _).symm]
 exact h.sq)
section
variable {n:Nat} {q x:List Nat} (hq:Mx n n q) (hx:Mx n n x) (fq:Fin2 n n q) (fx:Fin2 n n x)
include hq hx fq fx
theorem row_el {i l:Nat} (hi:i<n) (hl:l<n):el (rowL n (tpV n n q) i) l=el q (ps l n i):=by
 rw [rowL_mk (tpV_mx hq) hi,el_mkx hl,el_tpV hl hi]
theorem mul_err {b c:Rat} (hb:FN n n (mvl n q) b) (hc:FN n n (mvl n x) c) (b2:b≤P2 195) (c2:c≤P2 195) :
  Fin2 n n (muV n n (tpV n n q) n n x)∧FN n n (fun i k=>mvl n (muV n n (tpV n n q) n n x) i k-mm n (trp (mvl n q)) (mvl n x) i k) (20*uu*(b*c)+216*ee):=by
 have hn:=hq.hr
 have u0:=uu_pos
 have Q:=(fn_W hb).tr.mul (fn_W hc)
 have b0:=hb.1
 have c0:=hc.1
 have hbc:=Rat.mul_nonneg b0 c0
 have cell:∀i k,i<n→k<n→Fl (el (muV n n (tpV n n q) n n x) (ps i n k)) (mm n (trp (mvl n q)) (mvl n x) i k) (13*uu*mm n (trp fun i k=>W (el q (ps i n k))) (fun i k=>W (el x (ps i n k))) i k+24*ee):=fun i k hi hk=>by
  have e0:el (muV n n (tpV n n q) n n x) (ps i n k)=dotV (rowL n (tpV n n q) i) (colL n n x k 0):=by
   unfold muV; rw [el_matL _ hi hk]; rfl
  have hl:(rowL n (tpV n n q) i).length=n:=rowL_len (tpV_mx hq) hi
  have e1:dotX (rowL n (tpV n n q) i) (colL n n x k 0) n=mm n (trp (mvl n q)) (mvl n x) i k:=sumP_congr fun l hl=>by
   rw [row_el hq hx fq fx hi hl,el_colL (by omega),Nat.zero_add]; rfl
  have e2:dotQ (rowL n (tpV n n q) i) (colL n n x k 0) n=mm n (trp fun i k=>W (el q (ps i n k))) (fun i k=>W (el x (ps i n k))) i k:=sumP_congr fun l hl=>by
   rw [row_el hq hx fq fx hi hl,el_colL (by omega),Nat.zero_add]; rfl
  have hQ:dotQ (rowL n (tpV n n q) i) (colL n n x k 0) n≤P2 1000:=by
   rw [e2]
   have h1:=(Q.at hi hk).2
   have h2:=Rat.le_trans (Rat.mul_le_mul_of_nonneg_right b2 c0) (Rat.mul_le_mul_of_nonneg_left c2 (Rat.le_of_lt (P2_pos 195)))
   have h3:P2 195*P2 195≤P2 1000:=by decide +kernel
   exact Rat.le_trans h1 (Rat.le_trans h2 h3)
  have:=dotV_any (x:=rowL n (tpV n n q) i) (y:=colL n n x k 0) (fun l hl'=>by rw [hl] at hl'; rw [row_el hq hx fq fx hi hl']; exact fq l i hl' hi) (fun l hl'=>by rw [hl] at hl'; rw [el_colL (by omega),Nat.zero_add]; exact fx l k hl' hk) (by omega) (by rw [hl]; exact hQ)
  rw [hl,e1,e2] at this
  rw [e0]
  exact this
 refine ⟨fun i k hi hk=>(cell i k hi hk).fin,?_⟩
 have:=FN.cells hn hn (α:=13*uu) (β:=24*ee) (by grind) (by have:=ee0.1; grind) Q (X:=fun i k=>mvl n (muV n n (tpV n n q) n n x) i k-mm n (trp (mvl n q)) (mvl n x) i k) fun i k hi hk=>⟨_,rfl,(cell i k hi hk).er.ab⟩
 refine this.mono ?_
 have:=Rat.mul_nonneg u0 hbc
 grind
theorem mul_nought2 (z:∀i k,i<n→k<n→W (el x (ps i n k))=0) {i k:Nat} (hi:i<n) (hk:k<n):W (el (muV n n (tpV n n q) n n x) (ps i n k))=0:=by
 have e0:el (muV n n (tpV n n q) n n x) (ps i n k)=dotV (rowL n (tpV n n q) i) (colL n n x k 0):=by
  unfold muV; rw [el_matL _ hi hk]; rfl
 have hl:(rowL n (tpV n n q) i).length=n:=rowL_len (tpV_mx hq) hi
 rw [e0]
 refine W_zero_of (dot_nought (fun l hl'=>by rw [hl] at hl'; rw [row_el hq hx fq fx hi hl']; exact fq l i hl' hi) (fun l hl'=>by rw [hl] at hl'; rw [el_colL (by omega),Nat.zero_add]; exact ⟨fx l k hl' hk,z l k hl' hk⟩) (rowL n (tpV n n q) i).length (i:=0) (s:=0) (by omega) (by decide) (by decide)).2
end
theorem tr_mul_le {n:Nat} {Q X:Nat→Nat→Rat} {e x:Rat} (he:FN n n (fun i k=>mm n Q (trp Q) i k-one2 i k) e) (hx:FN n n X x):FN n n (mm n (trp Q) X) ((1+e)*x):=by
 have e0:=he.1
 have x0:=hx.1
 refine FN.of (Rat.mul_nonneg (by grind) x0) ?_
 have h1:=he.mul hx
 have h2:=NS.ip (pf_sum2 n n) hx h1
 have h3:=hx.sq
 have key:sum2 n n (fun i k=>mm n (trp Q) X i k*mm n (trp Q) X i k)=sum2 n n (fun i k=>X i k*X i k)+sum2 n n (fun i k=>X i k*mm n (fun i k=>mm n Q (trp Q) i k-one2 i k) X i k):=by
  have k1:sum2 n n (fun i k=>mm n (trp Q) X i k*mm n (trp Q) X i k)=sum2 n n (fun i k=>X i k*mm n Q (mm n (trp Q) X) i k):=by
   rw [sum2_swap]
   rw [sum2_swap n n fun i k=>X i k*mm n Q (mm n (trp Q) X) i k]
   refine sumP_congr fun k _ => ?_
   show sumP (fun i=>sumP (fun l=>Q l i*X l k) n*mm n (trp Q) X i k) n=sumP (fun i=>X i k*sumP (fun l=>Q i l*mm n (trp Q) X l k) n) n
   rw [sumP_congr (q:=fun i=>sumP (fun l=>X l k*Q l i*mm n (trp Q) X i k) n) fun i _=>by rw [←sumP_mulr]; exact sumP_congr fun l _=>by grind]
   rw [sumP_congr (p:=fun i=>X i k*sumP (fun l=>Q i l*mm n (trp Q) X l k) n) (q:=fun i=>sumP (fun l=>X i k*Q i l*mm n (trp Q) X l k) n) fun i _=>by rw [←sumP_mul]; exact sumP_congr fun l _=>by grind]
   exact sumP_swap (fun i l=>X l k*Q l i*mm n (trp Q) X i k) n n
  rw [k1]
  unfold sum2
  rw [←sumP_add]
  refine sumP_congr fun i hi => ?_
  rw [←sumP_add]
  refine sumP_congr fun k _ => ?_
  dsimp only
  rw [mm_subl,one_mm X hi,mm_assoc]
  grind
 rw [key]
 have h4:sum2 n n (fun i k=>X i k*mm n (fun i k=>mm n Q (trp Q) i k-one2 i k) X i k)≤x*(e*x):=h2.2
 have h5:=Rat.mul_nonneg x0 x0
 have h6:=Rat.mul_nonneg e0 h5
 have h7:=Rat.mul_nonneg e0 h6
 have ex:(1+e)*x*((1+e)*x)=x*x+2*(e*(x*x))+e*(e*(x*x)):=by grind
 rw [ex]
 grind
theorem gram_swap {n:Nat} {Q:Nat→Nat→Rat} {e:Rat} (he:FN n n (fun i k=>mm n Q (trp Q) i k-one2 i k) e):FN n n (fun i k=>mm n (trp Q) Q i k-one2 i k) e:=by
 refine FN.of he.1 ?_
 have h:=he.sq
 have key:∀R:Nat→Nat→Rat,sum2 n n (fun i k=>(mm n R (trp R) i k-one2 i k)*(mm n R (trp R) i k-one2 i k))=sum2 n n (fun i k=>mm n R (trp R) i k*mm n R (trp R) i k)-2*sum2 n n (fun i l=>R i l*R i l)+(n:Rat):=fun R=>by
  have k1:sum2 n n (fun i k=>(mm n R (trp R) i k-one2 i k)*(mm n R (trp R) i k-one2 i k))=sumP (fun i=>sumP (fun k=>mm n R (trp R) i k*mm n R (trp R) i k) n-2*mm n R (trp R) i i+1) n:=by
   unfold sum2
   refine sumP_congr fun i hi => ?_
   have k2:sumP (fun k=>(mm n R (trp R) i k-one2 i k)*(mm n R (trp R) i k-one2 i k)) n=sumP (fun k=>mm n R (trp R) i k*mm n R (trp R) i k+(-(2*(mm n R (trp R) i k*one2 i k))+one2 i k*one2 i k)) n:=sumP_congr fun k _=>by grind
   have k3:sumP (fun k => -(2*(mm n R (trp R) i k*one2 i k))+one2 i k*one2 i k) n = -(2*mm n R (trp R) i i)+1:=by
    rw [sum_pick hi (fun k _ hk=>by unfold one2; rw [if_neg (fun hh=>hk hh.symm)]; grind)]
    unfold one2; rw [if_pos rfl]; grind
   rw [k2,sumP_add,k3]; grind
  rw [k1,sumP_add,sumP_sub,sumP_mul,sumP_const]
  have k4:sumP (fun i=>mm n R (trp R) i i) n=sum2 n n (fun i l=>R i l*R i l):=rfl
  rw [k4]
  unfold sum2
  grind
 have hsw:sum2 n n (fun i k=>mm n (trp Q) Q i k*mm n (trp Q) Q i k)=sum2 n n (fun i k=>mm n Q (trp Q) i k*mm n Q (trp Q) i k):=by
  have ex:∀R:Nat→Nat→Rat,sum2 n n (fun i k=>mm n R (trp R) i k*mm n R (trp R) i k)=sumP (fun i=>sumP (fun k=>sumP (fun l=>sumP (fun m=>R i l*R k l*(R i m*R k m)) n) n) n) n:=fun R=>by
   unfold sum2
   refine sumP_congr fun i _=>sumP_congr fun k _ => ?_
   unfold mm trp
   dsimp only
   rw [←sumP_mulr]
   exact sumP_congr fun l _=>by rw [←sumP_mul]
  have hL:=ex (trp Q)
  have hR:=ex Q
  have e0:sum2 n n (fun i k=>mm n (trp Q) Q i k*mm n (trp Q) Q i k)=sum2 n n (fun i k=>mm n (trp Q) (trp (trp Q)) i k*mm n (trp Q) (trp (trp Q)) i k):=rfl
  rw [e0,hL,hR]
  have s1:∀F:Nat→Nat→Nat→Nat→Rat,sumP (fun i=>sumP (fun k=>sumP (fun l=>sumP (fun m=>F i k l m) n) n) n) n=sumP (fun l=>sumP (fun m=>sumP (fun i=>sumP (fun k=>F i k l m) n) n) n) n:=fun F=>by
   have a1:sumP (fun i=>sumP (fun k=>sumP (fun l=>sumP (fun m=>F i k l m) n) n) n) n=sumP (fun i=>sumP (fun l=>sumP (fun k=>sumP (fun m=>F i k l m) n) n) n) n:=sumP_congr fun i _=>sumP_swap (fun k l=>sumP (fun m=>F i k l m) n) n n
   have a2:sumP (fun i=>sumP (fun l=>sumP (fun k=>sumP (fun m=>F i k l m) n) n) n) n=sumP (fun l=>sumP (fun i=>sumP (fun k=>sumP (fun m=>F i k l m) n) n) n) n:=sumP_swap (fun i l=>sumP (fun k=>sumP (fun m=>F i k l m) n) n) n n
   rw [a1,a2]
   refine sumP_congr fun l _ => ?_
   have a3:sumP (fun i=>sumP (fun k=>sumP (fun m=>F i k l m) n) n) n=sumP (fun i=>sumP (fun m=>sumP (fun k=>F i k l m) n) n) n:=sumP_congr fun i _=>sumP_swap (fun k m=>F i k l m) n n
   rw [a3]
   exact sumP_swap (fun i m=>sumP (fun k=>F i k l m) n) n n
  rw [s1]
  refine sumP_congr fun l _=>sumP_congr fun m _=>sumP_congr fun i _=>sumP_congr fun k _ => ?_
  unfold trp
  grind
 have hswR:sum2 n n (fun i l=>trp Q i l*trp Q i l)=sum2 n n (fun i l=>Q i l*Q i l):=by
  unfold trp
  exact (sum2_swap n n fun i l=>Q i l*Q i l).symm
 have kQ:=key Q
 have kT:=key (trp Q)
 have e1:sum2 n n (fun i k=>(mm n (trp Q) Q i k-one2 i k)*(mm n (trp Q) Q i k-one2 i k))=sum2 n n (fun i k=>(mm n (trp Q) (trp (trp Q)) i k-one2 i k)*(mm n (trp Q) (trp (trp Q)) i k-one2 i k)):=rfl
 have e2:sum2 n n (fun i k=>mm n (trp Q) (trp (trp Q)) i k*mm n (trp Q) (trp (trp Q)) i k)=sum2 n n (fun i k=>mm n (trp Q) Q i k*mm n (trp Q) Q i k):=rfl
 rw [e1,kT,e2,hsw,hswR,←kQ]
 exact h
def AllZ (r c:Nat) (x:List Nat):Prop:=∀i k,i<r→k<c→W (el x (ps i c k))=0
theorem fn_zero {r c:Nat} {x:List Nat} (z:AllZ r c x):FN r c (mvl c x) 0:=(FN.zero r c).congr fun i k hi hk=>(zero_sv (z i k hi hk)).symm
theorem dnX_zero {r c j:Nat} {x:List Nat} (h:Mx r c x) (hf:Fin2 r c x) (z:AllZ r c x) (hj:j<c) (hjr:j<r) (E:DnE r c j x):AllZ r c (dnX r c j x):=by
 have hr:=h.hr
 have am:=dapply_mx h hj hjr
 have hm:=E.mp.ok
 have hl:(colL r c x j j).length=r-j:=colL_len _ _ _ _ _
 intro i k hi hk
 by_cases h1:k<j
 ·unfold dnX
  rw [clV_other hj hk (.inl (by omega)),apV_ahead (by omega) h1]
  exact z i k hi hk
 ·by_cases h3:i<j
  ·unfold dnX
   rw [clV_other hj hk (.inr h3),apV_above (by omega) h3 hk]
   exact z i k hi hk
  ·by_cases h2:j<k
   ·unfold dnX
    rw [clV_other hj hk (.inl (by omega))]
    obtain ⟨a,rfl⟩:∃a,i=j+a:=⟨i-j,by omega⟩
    rw [apV_at h (by rw [hm.len]; omega) (by omega) (by omega) hk (by rw [hm.len]; omega),take_all (by rw [colL_len,hm.len])]
    refine (col_nought E.mp.tf E.mp.vf (fun l hl2 => ?_) (by rw [hm.len]; omega)).2
    rw [hm.len] at hl2
    rw [el_colL hl2]
    exact ⟨hf _ _ (by omega) hk,z _ _ (by omega) hk⟩
   ·have hkj:k=j:=by omega
    subst hkj
    by_cases h4:i=k
    ·subst h4
     have:el (dnX r c i x) (ps i c i)=mkBeta (colL r c x i i):=clV_diag am hj hjr
     rw [this]
     have hn:nouV (colL r c x i i)=true:=by
      cases hn:nouV (colL r c x i i) with
      | true=>rfl
      | false =>
       obtain ⟨l,hl2,hm0⟩:=nou_false (by omega) hn
       rw [hl] at hl2
       exact absurd (mag_of_W (by rw [el_colL hl2]; exact z _ _ (by omega) hk)) hm0
     unfold mkBeta
     rw [if_pos hn,el_colL (by omega)]
     exact z _ _ (by omega) hk
    ·have:el (dnX r c k x) (ps i c k)=0:=clV_at am hm.b hj hjr (by omega) hi
     rw [this]; exact W0
theorem dnR_zero {r c:Nat}:∀(n j:Nat) (x:List Nat) (ms:List Mir),j+n≤c→j+n≤r→(n=0∨j<r)→Mx r c x→Fin2 r c x→AllZ r c x→UpTo r c j x→∃y ms2,dnR r c n j x ms=some (y,ms2)∧AllZ r c y
 | 0,j,x,ms,_,_,_,h,hf,z,hu=>⟨x,ms,rfl,z⟩
 | n+1,j,x,ms,hc,hr,h0,h,hf,z,hu=>by
  have E:=dn_err h hf (fun i k hi hk=>by rw [z i k hi hk]; exact Rat.le_of_lt (P2_pos _)) (show j<c by omega) (show j<r by omega) hu
  have hmx:=dnX_mx h (show j<c by omega) (show j<r by omega)
  obtain ⟨y,ms2,d1,d2⟩:=dnR_zero n (j+1) (dnX r c j x) (ms++[dnM r c j x]) (by omega) (by omega) (by omega) hmx E.fin (dnX_zero h hf z (by omega) (by omega) E) (dnX_up h (by omega) (by omega) hu)
  refine ⟨y,ms2,?_,d2⟩
  unfold dnR
  rw [if_pos E.ok]
  exact d1
theorem qr_zero {r c:Nat} {x q y:List Nat} (h:Mx r c x) (hf:Fin2 r c x) (z:AllZ r c x) (he:qrR r c x=some (q,y)):AllZ r c y:=by
 have hr:=h.hr
 obtain ⟨y',ms2,d1,d2⟩:=dnR_zero (min c (r-1)) 0 x [] (by omega) (by omega) (by omega) h hf z (fun a k hk=>by omega)
 unfold qrR dnA at he
 rw [d1] at he
 simp only at he
 split at he
 ·simp at he
  obtain ⟨-,rfl⟩:=he
  exact d2
 ·cases he
structure BrE (n:Nat) (A B:Nat→Nat→Rat) (a b:Rat) (PA PB:Prop) (s:Q4):Prop where
 mx:Mx4 n s
 fH:finV s.H=true
 fT:finV s.T=true
 fQ:finV s.Q=true
 fZ:finV s.Z=true
 eA:FN n n (fun i k=>A i k-mm n (mm n (mvl n s.Q) (mvl n s.H)) (trp (mvl n s.Z)) i k) (a*(uu*22500))
 eB:FN n n (fun i k=>B i k-mm n (mm n (mvl n s.Q) (mvl n s.T)) (trp (mvl n s.Z)) i k) (b*(uu*25000))
 oQ:FN n n (fun i k=>mm n (trp (mvl n s.Q)) (mvl n s.Q) i k-one2 i k) (uu*11500)
 oZ:FN n n (fun i k=>mm n (trp (mvl n s.Z)) (mvl n s.Z) i k-one2 i k) (uu*4000)
 zA:PA→AllZ n n s.H
 zB:PB→AllZ n n s.T
theorem br_err {n:Nat} {x y:List Nat} (hx:Mx n n x) (hy:Mx n n y) (fx:Fin2 n n x) (fy:Fin2 n n y) {a b:Rat} (a1:P2 (-110)≤a) (a2:a≤P2 190) (b1:P2 (-110)≤b) (b2:b≤P2 190) (hA:FN n n (mvl n x) a) (hB:FN n n (mvl n y) b) :
  ∃s,brR n x y=some s∧BrE n (mvl n x) (mvl n y) a b (AllZ n n x) (AllZ n n y) s:=by
 have hn:=hx.hr
 have u0:=uu_pos
 obtain ⟨q,t,hq,E⟩:=qr_err hy fy b1 b2 hB
 have z:((0:Nat):Rat)=0:=rfl
 have e5:((5:Nat):Rat)=5:=rfl
 have nq:=E.bq.nq
 have og:=E.bq.og
 rw [e5] at nq og
 have hmq:=E.bq.mx
 have a0:0≤a:=Rat.le_trans (Rat.le_of_lt (P2_pos _)) a1
 have b0:0≤b:=Rat.le_trans (Rat.le_of_lt (P2_pos _)) b1
 have ua:=Rat.mul_nonneg u0 a0
 have ub:=Rat.mul_nonneg u0 b0
 have hu:=show uu≤1/1000000000 by decide +kernel
 have uua:=Rat.mul_le_mul_of_nonneg_right hu ua
 have uuua:=Rat.mul_le_mul_of_nonneg_left uua u0
 have heb:=ee_b a1
 obtain ⟨ee0',-⟩:=ee0
 obtain ⟨m1,m2⟩:=mul_err hmq hx E.bq.fin fx nq hA (by
  have:5/2*(1+3000*uu*5)≤P2 195:=by decide +kernel
  exact this) (Rat.le_trans a2 (P2_mono (by omega)))
 have hH0:=muV_mx (tpV_mx hmq) hx (rfl:n=n)
 have tr:=tr_mul_le og hA
 have nH:=tr.add m2
 have Qm:=nq.mul m2
 have eA0:=(og.mul hA).neg.sub Qm
 have ey:=eyV_mx hn
 have fe:Fin2 n n (eyV n):=(bq_eye hn).fin
 have one_r:∀X:Nat→Nat→Rat,∀i k,i<n→k<n→mm n X (trp (mvl n (eyV n))) i k=X i k:=fun X i k hi hk=>by
  rw [←mm_one (n:=n) X (i:=i) hk]
  refine mm_congr (fun _ _=>rfl) fun j hj => ?_
  show mvl n (eyV n) k j=one2 j k
  rw [mvl_eye hk hj,one2_comm]
 have H0:HI n (mvl n x) (mvl n y) a b 0 8000 10500 ⟨muV n n (tpV n n q) n n x,t,q,eyV n⟩:=by
  refine ⟨⟨hH0,E.my,hmq,ey⟩,m1,E.fy,E.bq.fin,fe,?_,E.ny.mono ?_,nq.mono ?_,?_,?_,?_,?_,?_⟩
  ·refine (nH.mono ?_).congr fun i k _ _ => ?_
   ·rw [z]
    clear nH Qm eA0 tr m2 og nq
    generalize ee=e at *
    generalize uu=u at *
    grind
   ·exact addsub _ _
  ·rw [z]; grind
  ·rw [z]; grind
  ·refine ((fn_one hn).mono (by rw [z]; grind)).congr fun i k hi hk=>(mvl_eye hi hk).symm
  ·refine (eA0.mono ?_).congr fun i k hi hk => ?_
   ·have k1:5/2*(1+3000*uu*5)≤26/10:=by decide +kernel
    have k0:0≤5/2*(1+3000*uu*5):=by decide +kernel
    have k2:=m2.1
    have k3:=Rat.mul_le_mul_of_nonneg_right k1 k2
    have k4:=Rat.mul_le_mul_of_nonneg_right k1 ua
    clear nH Qm eA0 tr m2 og nq
    generalize 5/2*(1+3000*uu*5)=c at *
    generalize ee=e at *
    have k5:20*uu*(c*a)+216*e≤53*(uu*a):=by grind
    have k6:c*(20*uu*(c*a)+216*e)≤26/10*(53*(uu*a)):=by grind
    have k7:1500*uu*5*a=7500*(uu*a):=by grind
    rw [k7]
    have k8:a*(uu*8000)=8000*(uu*a):=by grind
    rw [k8]
    grind
   ·show -mm n (fun i j=>mm n (mvl n q) (trp (mvl n q)) i j-one2 i j) (mvl n x) i k-mm n (mvl n q) (fun i k=>mvl n (muV n n (tpV n n q) n n x) i k-mm n (trp (mvl n q)) (mvl n x) i k) i k=mvl n x i k-mm n (mm n (mvl n q) (mvl n (muV n n (tpV n n q) n n x))) (trp (mvl n (eyV n))) i k
    rw [one_r _ i k hi hk,mm_subl,mm_subr,one_mm _ hi,mm_assoc]
    grind
  ·refine (E.res.mono (by clear nH Qm eA0 tr m2 og nq; grind)).congr fun i k hi hk => ?_
   show _=mvl n y i k-mm n (mm n (mvl n q) (mvl n t)) (trp (mvl n (eyV n))) i k
   rw [one_r _ i k hi hk]
  ·exact (gram_swap og).mono (by rw [z]; grind)
  ·rw [z]
   refine ((FN.zero n n).mono (by grind)).congr fun i k hi hk => ?_
   show (0:Rat)=mm n (trp (mvl n (eyV n))) (mvl n (eyV n)) i k-one2 i k
   have e:mm n (trp (mvl n (eyV n))) (mvl n (eyV n)) i k=one2 i k:=by
    rw [←one_mm (n:=n) one2 (k:=k) hi]
    refine mm_congr (fun j hj => ?_) fun j hj=>mvl_eye hj hk
    show mvl n (eyV n) j i=one2 i j
    rw [mvl_eye hj hi,one2_comm]
   rw [e]; grind
 have Z0:HZ n 0 n (AllZ n n x) (AllZ n n y) ⟨muV n n (tpV n n q) n n x,t,q,eyV n⟩:=by
  refine ⟨fun i k hk hi => ?_,fun i k hi hk hc=>by omega,fun hz i k hi hk => ?_,fun hz i k hi hk => ?_⟩
  ·show W (el t (ps i n k))=0
   rw [qrR_up hy hq i k hk hi (by omega)]; exact W0
  ·exact mul_nought2 hmq hx E.bq.fin fx hz hi hk
  ·exact qr_zero hy fy hz hq i k hi hk
 have ht:2*tri (n-2+1)≤20:=by
  have h6:n-2+1≤5:=by omega
  generalize n-2+1=p at *
  match p,h6 with
  | 0,_=>decide
  | 1,_=>decide
  | 2,_=>decide
  | 3,_=>decide
  | 4,_=>decide
  | 5,_=>decide
 obtain ⟨s,s1,s2,s3⟩:=hs_out a1 a2 b1 b2 (n-2) 0 0 (by omega) (by omega) H0 Z0
 have t10:((tri (n-2+1):Nat):Rat)≤10:=by
  have:((tri (n-2+1):Nat):Rat)≤((10:Nat):Rat):=Rat.natCast_le_natCast.2 (by omega)
  exact this
 have t20:((0+2*tri (n-2+1):Nat):Rat)≤20:=by
  have:((0+2*tri (n-2+1):Nat):Rat)≤((20:Nat):Rat):=Rat.natCast_le_natCast.2 (by omega)
  exact this
 generalize ((tri (n-2+1):Nat):Rat)=τ at *
 obtain ⟨smx,sfH,sfT,sfQ,sfZ,-,-,-,-,seA,seB,soQ,soZ⟩:=s2
 generalize ((0+2*tri (n-2+1):Nat):Rat)=μ at *
 rw [Nat.zero_add] at s3
 have cH:∀i k,i<n→k<n→el (clH n 1 s.H) (ps i n k)=(if k+1<i then 0 else el s.H (ps i n k)):=fun i k hi hk=>by
  unfold clH
  rw [chI_at n 0 smx.H.len (by omega) i k hi hk]
  by_cases hc:k+1<i
  ·rw [if_pos ⟨Nat.zero_le _,hc⟩,if_pos hc]
  ·rw [if_neg (fun hh=>hc hh.2),if_neg hc]
 have cT:∀i k,i<n→k<n→el (clH n 0 s.T) (ps i n k)=(if k<i then 0 else el s.T (ps i n k)):=fun i k hi hk=>by
  unfold clH
  rw [chI_at n 0 smx.T.len (by omega) i k hi hk]
  by_cases hc:k<i
  ·rw [if_pos ⟨Nat.zero_le _,hc⟩,if_pos hc]
  ·rw [if_neg (fun hh=>hc hh.2),if_neg hc]
 have s0:sv 0=0:=sv_zero (by decide)
 have vH:∀i k,i<n→k<n→mvl n (clH n 1 s.H) i k=mvl n s.H i k:=fun i k hi hk=>by
  unfold mvl
  rw [cH i k hi hk]
  split
  ·rename_i hc
   rw [s0,zero_sv (s3.zH i k hi hk (by omega))]
  ·rfl
 have vT:∀i k,i<n→k<n→mvl n (clH n 0 s.T) i k=mvl n s.T i k:=fun i k hi hk=>by
  unfold mvl
  rw [cT i k hi hk]
  split
  ·rename_i hc
   rw [s0,zero_sv (s3.zT i k hc hi)]
  ·rfl
 have mH:=clH_mx (b:=1) smx.H
 have mT:=clH_mx (b:=0) smx.T
 have fH:finV (clH n 1 s.H)=true:=(fin2_iff mH).2 fun i k hi hk=>by
  rw [cH i k hi hk]; split
  ·decide
  ·exact sfH i k hi hk
 have fT:finV (clH n 0 s.T)=true:=(fin2_iff mT).2 fun i k hi hk=>by
  rw [cT i k hi hk]; split
  ·decide
  ·exact sfT i k hi hk
 have fQ:finV s.Q=true:=(fin2_iff smx.Q).2 sfQ
 have fZ:finV s.Z=true:=(fin2_iff smx.Z).2 sfZ
 have uat:=Rat.mul_le_mul_of_nonneg_left t10 ua
 have ubt:=Rat.mul_le_mul_of_nonneg_left t10 ub
 have uμ:=Rat.mul_le_mul_of_nonneg_left t20 u0
 refine ⟨⟨clH n 1 s.H,clH n 0 s.T,s.Q,s.Z⟩,?_,⟨⟨mH,mT,smx.Q,smx.Z⟩,fH,fT,fQ,fZ,?_,?_,soQ.mono ?_,soZ.mono ?_,fun hz i k hi hk => ?_,fun hz i k hi hk => ?_⟩⟩
 ·unfold brR
  rw [hq]
  simp only
  rw [s1]
  simp only
  rw [fH,fT,fQ,fZ]
  rfl
 ·refine (seA.mono (by clear seA seB soQ soZ H0 Z0 cH cT vH vT; grind)).congr fun i k hi hk => ?_
  have e:mm n (mm n (mvl n s.Q) (mvl n s.H)) (trp (mvl n s.Z)) i k=mm n (mm n (mvl n s.Q) (mvl n (clH n 1 s.H))) (trp (mvl n s.Z)) i k:=mm_congr (fun j hj=>mm_congr (fun _ _=>rfl) fun l hl=>(vH l j hl hj).symm) fun _ _=>rfl
  rw [e]
 ·refine (seB.mono (by clear seA seB soQ soZ H0 Z0 cH cT vH vT; grind)).congr fun i k hi hk => ?_
  have e:mm n (mm n (mvl n s.Q) (mvl n s.T)) (trp (mvl n s.Z)) i k=mm n (mm n (mvl n s.Q) (mvl n (clH n 0 s.T))) (trp (mvl n s.Z)) i k:=mm_congr (fun j hj=>mm_congr (fun _ _=>rfl) fun l hl=>(vT l j hl hj).symm) fun _ _=>rfl
  rw [e]
 ·clear seA seB soQ soZ H0 Z0 cH cT vH vT; grind
 ·clear seA seB soQ soZ H0 Z0 cH cT vH vT; grind
 ·show W (el (clH n 1 s.H) (ps i n k))=0
  rw [cH i k hi hk]; split
  ·exact W0
  ·exact s3.zA hz i k hi hk
 ·show W (el (clH n 0 s.T) (ps i n k))=0
  rw [cT i k hi hk]; split
  ·exact W0
  ·exact s3.zB hz i k hi hk
section
end
section
end
theorem shaped_ok {n:Nat} {h t q z:List Nat} (mh:Mx n n h) (mt:Mx n n t) (mq:Mx n n q) (mz:Mx n n z) (fh:finV h=true) (ft:finV t=true) (fq:finV q=true) (fz:finV z=true) :
  val 78 [Vi n,Vi n,Vl h,Vi n,Vi n,Vl t,Vi n,Vi n,Vl q,Vi n,Vi n,Vl z,Vi n]=some [Vb true]:=by
 refine val_of tab78 ?_
 have ck:∀m:List Nat,Mx n n m→finV m=true→val 178 [Vi n,Vi n,Vl m]=some [Vi 0]:=fun m hm hf=>by
  have:=ccheck9_ok (R:=n) (C:=n) hm.w (by have:=hm.small; omega)
  unfold chk at this
  rwa [if_pos (mx_right hm),if_pos hf] at this
 have c0:=ck h mh fh
 have c1:=ck t mt ft
 have c2:=ck q mq fq
 have c3:=ck z mz fz
 have bne:(B.ne.den (Vi n) (Vi n)).bool=false:=by simp
 have hs:∀(k:Nat),k<4→rounds (fun vs=>lo78_1.dv (Vi n::Vi n::Vl h::Vi n::Vi n::Vl t::Vi n::Vi n::Vl q::Vi n::Vi n::Vl z::Vi n::vs)) [Vb false,Vi k]=rounds (fun vs=>lo78_1.dv (Vi n::Vi n::Vl h::Vi n::Vi n::Vl t::Vi n::Vi n::Vl q::Vi n::Vi n::Vl z::Vi n::vs)) [Vb false,Vi ((k+1:Nat):Int)]:=fun k hk=>by
  refine rounds_cont ?_
  match k,hk with
  | 0,_ =>
   refine Eq.trans (st_t rfl) ?_
   refine Eq.trans (st_as rfl) ?_
   refine Eq.trans (st_as rfl) ?_
   refine Eq.trans (st_call rfl c0 rfl) ?_
   refine Eq.trans (st_as rfl) ?_
   refine Eq.trans (st_as rfl) ?_
   refine Eq.trans (st_as (show (if !(B.ne.den (Vi n) (Vi n)).bool then Vb true else Vb true).bool=true from by split<;>rfl)) ?_
   refine Eq.trans (st_as (show (if !(B.ne.den (Vi n) (Vi n)).bool then Vb true else Vb true).bool=true from by split<;>rfl)) ?_
   refine Eq.trans (st_f (show (if (B.ne.den (Vi n) (Vi n)).bool then Vb true else B.ne.den (Vi n) (Vi n)).bool=false from by rw [bne]; exact bne)) ?_
   rfl
  | 1,_ =>
   refine Eq.trans (st_t rfl) ?_
   refine Eq.trans (st_as rfl) ?_
   refine Eq.trans (st_as rfl) ?_
   refine Eq.trans (st_call rfl c1 rfl) ?_
   refine Eq.trans (st_as rfl) ?_
   refine Eq.trans (st_as rfl) ?_
   refine Eq.trans (st_as (show (if !(B.ne.den (Vi n) (Vi n)).bool then Vb true else Vb true).bool=true from by split<;>rfl)) ?_
   refine Eq.trans (st_as (show (if !(B.ne.den (Vi n) (Vi n)).bool then Vb true else Vb true).bool=true from by split<;>rfl)) ?_
   refine Eq.trans (st_f (show (if (B.ne.den (Vi n) (Vi n)).bool then Vb true else B.ne.den (Vi n) (Vi n)).bool=false from by rw [bne]; exact bne)) ?_
   rfl
  | 2,_ =>
   refine Eq.trans (st_t rfl) ?_
   refine Eq.trans (st_as rfl) ?_
   refine Eq.trans (st_as rfl) ?_
   refine Eq.trans (st_call rfl c2 rfl) ?_
   refine Eq.trans (st_as rfl) ?_
   refine Eq.trans (st_as rfl) ?_
   refine Eq.trans (st_as (show (if !(B.ne.den (Vi n) (Vi n)).bool then Vb true else Vb true).bool=true from by split<;>rfl)) ?_
   refine Eq.trans (st_as (show (if !(B.ne.den (Vi n) (Vi n)).bool then Vb true else Vb true).bool=true from by split<;>rfl)) ?_
   refine Eq.trans (st_f (show (if (B.ne.den (Vi n) (Vi n)).bool then Vb true else B.ne.den (Vi n) (Vi n)).bool=false from by rw [bne]; exact bne)) ?_
   rfl
  | 3,_ =>
   refine Eq.trans (st_t rfl) ?_
   refine Eq.trans (st_as rfl) ?_
   refine Eq.trans (st_as rfl) ?_
   refine Eq.trans (st_call rfl c3 rfl) ?_
   refine Eq.trans (st_as rfl) ?_
   refine Eq.trans (st_as rfl) ?_
   refine Eq.trans (st_as (show (if !(B.ne.den (Vi n) (Vi n)).bool then Vb true else Vb true).bool=true from by split<;>rfl)) ?_
   refine Eq.trans (st_as (show (if !(B.ne.den (Vi n) (Vi n)).bool then Vb true else Vb true).bool=true from by split<;>rfl)) ?_
   refine Eq.trans (st_f (show (if (B.ne.den (Vi n) (Vi n)).bool then Vb true else B.ne.den (Vi n) (Vi n)).bool=false from by rw [bne]; exact bne)) ?_
   rfl
 have he:rounds (fun vs=>lo78_1.dv (Vi n::Vi n::Vl h::Vi n::Vi n::Vl t::Vi n::Vi n::Vl q::Vi n::Vi n::Vl z::Vi n::vs)) [Vb false,Vi ((4:Nat):Int)]=some (.y (.ext 0) [Vb false]):=by
  refine rounds_exit ?_ (by simp)
  exact Eq.trans (st_f rfl) rfl
 have hall:=(hs 0 (by omega)).trans ((hs 1 (by omega)).trans ((hs 2 (by omega)).trans ((hs 3 (by omega)).trans he)))
 rw [show ((0:Nat):Int)=0 from rfl] at hall
 refine Eq.trans (st_loop hall) ?_
 refine Eq.trans (st_miss (by simp)) ?_
 refine Eq.trans st_hit ?_
 rfl
theorem tame_len {r c:Nat} {x:List Nat} (h:Mx r c x) (hT:TameP x 100) (h0:bigV x≠0):∃a,P2 (-110)≤a∧a≤P2 190∧FN r c (mvl c x) a∧a*a≤1001/1000*sum2 r c (fun i k=>mvl c x i k*mvl c x i k):=by
 have hs:=h.small
 have hfin:∀i,i<x.length→fPow (el x i)≠2047:=fun i hi=>(hT i hi).1
 obtain ⟨q1,q2⟩:=norm_err h.w (by omega) (tame_mono hT (show (100:Int)≤900 by omega))
 have hk:=tame_big hT h0
 obtain ⟨-,-,n3,i0,hi0,n4⟩:=norm_up h.w (by omega) hfin h0 (by omega)
 have w0:=W_nonneg (normV x)
 have hP:=P2_pos (expB (bigV x))
 have hPl:P2 (-100)≤P2 (expB (bigV x)):=P2_mono (by omega)
 have hPu:P2 (expB (bigV x))≤P2 100:=P2_mono (by omega)
 have hN1:P2 (-200)≤sumA (fun i=>W (el x i)) x.length:=by
  have a1:=sumA_ge (fun i=>W (el x i)) hi0
  have a2:=rat_sq_le (Rat.le_of_lt (P2_pos (-100))) (Rat.le_trans hPl n4)
  have e:P2 (-100)*P2 (-100)=P2 (-200):=by rw [←P2_add]; rfl
  rw [e] at a2
  exact Rat.le_trans a2 a1
 have hN2:sumA (fun i=>W (el x i)) x.length≤P2 208:=by
  have a1:sumA (fun i=>W (el x i)) x.length≤(x.length:Rat)*(4*P2 200):=by
   rw [sumA_sumP,←sumP_const]
   refine sumP_le fun i hi => ?_
   have a2:=rat_sq_le (W_nonneg (el x i)) (Rat.le_trans (n3 i hi) (Rat.mul_le_mul_of_nonneg_left hPu (by decide)))
   have e:2*P2 100*(2*P2 100)=4*P2 200:=by
    have:P2 200=P2 100*P2 100:=by rw [←P2_add]; rfl
    rw [this]; grind
   rw [e] at a2
   exact a2
  have a3:((x.length:Nat):Rat)≤((36:Nat):Rat):=Rat.natCast_le_natCast.2 hs
  have a4:=Rat.mul_le_mul_of_nonneg_right a3 (show 0≤4*P2 200 by decide +kernel)
  have a5:((36:Nat):Rat)*(4*P2 200)≤P2 208:=by decide +kernel
  exact Rat.le_trans a1 (Rat.le_trans a4 a5)
 have hN0:0≤sumA (fun i=>W (el x i)) x.length:=sumA_nonneg _ _
 have u1:=Rat.mul_le_mul_of_nonneg_right (show (1/9007199254740992:Rat)≤1/1000000000 by decide +kernel) hN0
 have hsum:=sum2_W h
 have e:W (normV x)*(1+1/1000000)*(W (normV x)*(1+1/1000000))=W (normV x)*W (normV x)*((1+1/1000000)*(1+1/1000000)):=by grind
 refine ⟨W (normV x)*(1+1/1000000),?_,?_,FN.of (Rat.mul_nonneg w0 (by decide +kernel)) ?_,?_⟩
 ·refine (Ab.of_sq (x:=P2 (-110)) (Rat.mul_nonneg w0 (by decide +kernel)) ?_).2
  rw [e]
  have a1:P2 (-110)*P2 (-110)≤1/2*P2 (-200):=by decide +kernel
  generalize W (normV x)*W (normV x)=nn at *
  generalize sumA (fun i=>W (el x i)) x.length=N at *
  generalize P2 (-110)*P2 (-110)=z at *
  generalize P2 (-200)=z2 at *
  grind
 ·refine (Ab.of_sq (a:=P2 190) (Rat.le_of_lt (P2_pos _)) ?_).2
  rw [e]
  have a1:2*P2 208≤P2 190*P2 190:=by decide +kernel
  generalize W (normV x)*W (normV x)=nn at *
  generalize sumA (fun i=>W (el x i)) x.length=N at *
  generalize P2 190*P2 190=z at *
  generalize P2 208=z2 at *
  grind
 ·rw [hsum,e]
  generalize W (normV x)*W (normV x)=nn at *
  generalize sumA (fun i=>W (el x i)) x.length=N at *
  grind
 ·rw [hsum,e]
  generalize W (normV x)*W (normV x)=nn at *
  generalize sumA (fun i=>W (el x i)) x.length=N at *
  grind
theorem allz_big {r c:Nat} {x:List Nat} (h:Mx r c x) (hT:TameP x 100) (h0:bigV x=0):AllZ r c x:=fun i k hi hk=>by
 have hfin:∀i,i<x.length→fPow (el x i)≠2047:=fun i hi=>(hT i hi).1
 obtain ⟨b1,b2,b3⟩:=bigR_mem (x:=x) x.length (i:=0) (m:=0) (fun j _ hj=>fin_nan (hfin j (by omega)))
 rw [show bigR x x.length 0 0=bigV x from rfl] at b1 b2 b3
 have:=b2 (ps i c k) (Nat.zero_le _) (by have:=h.lt hi hk; omega)
 rw [h0] at this
 rw [←W_abs,show absV (el x (ps i c k))=0 by omega]
 exact W0
theorem tame_any {r c:Nat} {x:List Nat} (h:Mx r c x) (hT:TameP x 100):∃a,P2 (-110)≤a∧a≤P2 190∧FN r c (mvl c x) a∧(AllZ r c x∨a*a≤1001/1000*sum2 r c (fun i k=>mvl c x i k*mvl c x i k)):=by
 by_cases h0:bigV x=0
 ·have z:=allz_big h hT h0
  exact ⟨P2 (-110),Rat.le_refl,P2_mono (by omega),(fn_zero z).mono (Rat.le_of_lt (P2_pos _)),.inl z⟩
 ·obtain ⟨a,h1,h2,h3,h4⟩:=tame_len h hT h0
  exact ⟨a,h1,h2,h3,.inr h4⟩
section
variable {R C:Int} {a:List Nat} {R' C':Int} {b:List Nat}
theorem hess_tame (ha:Words a) (hb:Words b) (hT:TameP a 100) (hT':TameP b 100) (h0:brE R C a R' C' b=0):∃(n:Nat) (s:Q4),R=n∧C=n∧R'=n∧C'=n∧Mx n n a∧Mx n n b∧val 233 [Vi R,Vi C,Vl a,Vi R',Vi C',Vl b]=some [Vi n,Vi n,Vl s.H,Vi n,Vi n,Vl s.T,Vi n,Vi n,Vl s.Q,Vi n,Vi n,Vl s.Z,Vi 0] ∧
  ∃α β,BrE n (mvl n a) (mvl n b) α β (AllZ n n a) (AllZ n n b) s∧(AllZ n n a∨α*α≤1001/1000*sum2 n n (fun i k=>mvl n a i k*mvl n a i k))∧(AllZ n n b∨β*β≤1001/1000*sum2 n n (fun i k=>mvl n b i k*mvl n b i k)):=by
 rcases br_cases (R:=R) (C:=C) (R':=R') (C':=C') ha hb with h | ⟨-,n,rfl,rfl,rfl,rfl,ma,mb,fa,fb⟩
 ·exact absurd h0 h
 ·obtain ⟨α,a1,a2,a3,a4⟩:=tame_any ma hT
  obtain ⟨β,b1,b2,b3,b4⟩:=tame_any mb hT'
  obtain ⟨s,s1,s2⟩:=br_err ma mb ((fin2_iff ma).1 fa) ((fin2_iff mb).1 fb) a1 a2 b1 b2 a3 b3
  have f:=bring_ok ma mb fa fb
  rw [s1] at f
  exact ⟨n,s,rfl,rfl,rfl,rfl,ma,mb,f,α,β,s2,a4,b4⟩
end
theorem law_HessUpright {R C:Int} (_ : -9223372036854775808≤R) (_:R<9223372036854775808) (_ : -9223372036854775808≤C) (_:C<9223372036854775808) {a:List Nat} (ha:Words a) (la:a.length≤17592186043904)
  {R' C':Int} (_ : -9223372036854775808≤R') (_:R'<9223372036854775808) (_ : -9223372036854775808≤C') (_:C'<9223372036854775808) {b:List Nat} (hb:Words b) (lb:b.length≤17592186043904) :
  val 74 [Vi R,Vi C,Vl a,Vi R',Vi C',Vl b]=some [Vb true]:=by
 refine val_of tab74 ?_
 obtain ⟨b1,t1,t2⟩:=tame11_ok R C ha la (K:=100) (by omega)
 obtain ⟨b2,u1,u2⟩:=tame11_ok R' C' hb lb (K:=100) (by omega)
 have ck:=check18_ok (R:=R) (C:=C) (R':=R') (C':=C') ha la hb lb
 cases b1
 ·refine Eq.trans (st_call rfl t1 rfl) ?_
  refine Eq.trans (st_skip rfl) ?_
  refine Eq.trans (st_skip rfl) ?_
  refine Eq.trans (st_t rfl) ?_
  refine Eq.trans (st_call rfl awake_18 rfl) ?_
  rfl
 cases b2
 ·refine Eq.trans (st_call rfl t1 rfl) ?_
  refine Eq.trans (st_call rfl u1 rfl) ?_
  refine Eq.trans (st_skip rfl) ?_
  refine Eq.trans (st_t rfl) ?_
  refine Eq.trans (st_call rfl awake_18 rfl) ?_
  rfl
 by_cases h0:brE R C a R' C' b=0
 ·obtain ⟨n,s,rfl,rfl,rfl,rfl,ma,mb,f,α,β,E,oa,ob⟩:=hess_tame ha hb (t2 rfl).2 (u2 rfl).2 h0
  rw [h0] at ck
  have sh:=shaped_ok E.mx.H E.mx.T E.mx.Q E.mx.Z E.fH E.fT E.fQ E.fZ
  obtain ⟨X,e,p1,p2,p3⟩:=ort_ok E.mx.Q
  obtain ⟨Y,f',q1,q2,q3⟩:=ort_ok E.mx.Z
  obtain ⟨o1,o2⟩:=one_d
  have k1:DV X e≤DV 1 0*P2 (-(2*38)):=by
   rw [p3,one_v]
   refine Rat.le_trans E.oQ.sq (by decide +kernel)
  have k2:DV Y f'≤DV 1 0*P2 (-(2*38)):=by
   rw [q3,one_v]
   refine Rat.le_trans E.oZ.sq (by decide +kernel)
  have w1:=within_ok p2 (one_b 4400 4600 (by omega)) (by omega) (by omega) (k:=38) (by omega) k1
  have w2:=within_ok q2 (one_b 4400 4600 (by omega)) (by omega) (by omega) (k:=38) (by omega) k2
  clear k1 k2 p2 p3 q2 q3 E oa ob
  generalize dS X e=x1 at *
  generalize dL X e=x2 at *
  generalize dE X e=x3 at *
  generalize dS Y f'=y1 at *
  generalize dL Y f'=y2 at *
  generalize dE Y f'=y3 at *
  generalize dS 1 0=m1 at *
  generalize dL 1 0=m2 at *
  generalize dE 1 0=m3 at *
  generalize bS 1=c1 at *
  generalize bL 1=c2 at *
  refine Eq.trans (st_call rfl t1 rfl) ?_
  refine Eq.trans (st_call rfl u1 rfl) ?_
  simp only [List.cons_append,List.nil_append]
  refine Eq.trans (st_call rfl ck rfl) ?_
  refine Eq.trans (st_f rfl) ?_
  simp only [List.cons_append,List.nil_append]
  refine Eq.trans (st_call rfl f rfl) ?_
  simp only [List.cons_append,List.nil_append]
  refine Eq.trans (st_call rfl sh rfl) ?_
  refine Eq.trans (st_f rfl) ?_
  simp only [List.cons_append,List.nil_append]
  refine Eq.trans (st_call rfl o1 rfl) ?_
  simp only [List.cons_append,List.nil_append]
  refine Eq.trans (st_call rfl o2 rfl) ?_
  simp only [List.cons_append,List.nil_append]
  refine Eq.trans (st_call rfl p1 rfl) ?_
  simp only [List.cons_append,List.nil_append]
  refine Eq.trans (st_call rfl w1 rfl) ?_
  simp only [List.cons_append,List.nil_append]
  refine Eq.trans (st_call rfl q1 rfl) ?_
  simp only [List.cons_append,List.nil_append]
  refine Eq.trans (st_call rfl w2 rfl) ?_
  simp only [List.cons_append,List.nil_append]
  refine Eq.trans (st_call rfl awake_18 rfl) ?_
  rfl
 ·refine Eq.trans (st_call rfl t1 rfl) ?_
  refine Eq.trans (st_call rfl u1 rfl) ?_
  simp only [List.cons_append,List.nil_append]
  refine Eq.trans (st_call rfl ck rfl) ?_
  generalize brE R C a R' C' b=be at *
  refine Eq.trans (st_t (by simp [h0])) ?_
  refine Eq.trans (st_call rfl awake_18 rfl) ?_
  rfl
end Go.Proofs.YthchhkghjfendaaGreat.Dx
