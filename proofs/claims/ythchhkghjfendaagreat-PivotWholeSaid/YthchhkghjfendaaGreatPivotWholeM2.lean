/- The pure meaning of the functions that the law reaches, and that the law is true of it. No conditions. -/
import Derived.Test.YthchhkghjfendaaGreatPivotWholeM1
set_option linter.all false
namespace Go.Proofs.YthchhkghjfendaaGreat.Dx
open Go
theorem normal_of_exp {b:Nat} (h:fPow b≠2047) (h0:fMag b≠0) (he : -1022≤expB b):fPow b≠0:=by
 intro hp
 have hl:(fMag b).log2<52:=by
  rw [Nat.log2_lt h0]; unfold fMag; rw [if_pos hp]; exact fFrac_lt b
 unfold expB at he
 rw [if_neg (by omega),log2_bl h0] at he
 unfold fPl at he
 rw [if_pos hp] at he
 omega
structure Parts (x:List Nat) (k:Int):Prop where
 fin:∀i,i<x.length→fPow (scaleV (el x i) (-k))≠2047
 w:∀i,i<x.length→absV (scaleV (el x i) (-k))=nearR (fMag (el x i)) (fPl (el x i)-k)
 le2:∀i,i<x.length→W (scaleV (el x i) (-k))≤2
theorem clamp_id {k:Int} (h : -2300≤k∧k≤2300):clamp k=k:=by unfold clamp; omega
theorem W_two:W 4611686018427387904=2:=by
 unfold W D
 rw [show fMag 4611686018427387904=2^52 from by decide,show fPl 4611686018427387904 = -51 from by decide,←P2_nat,←P2_add,show ((52:Nat):Int) + -51=((1:Nat):Int) by omega,P2_nat]; rfl
theorem parts_of {x:List Nat} (hx:Words x) {k:Int} (hk : -1100≤k∧k≤1100) (hf:∀i,i<x.length→fPow (el x i)≠2047) (hm:∀i,i<x.length→W (el x i)≤P2 (k+1)):Parts x k:=by
 have key:∀i,i<x.length→scaleV (el x i) (-k)=nearV (fNeg (el x i)) (fMag (el x i)) (fPl (el x i)-k)∧nearR (fMag (el x i)) (fPl (el x i)-k)≤4611686018427387904:=fun i hi=>by
  refine ⟨by rw [scaleV_fin (hx.el i) (hf i hi),clamp_id (by omega),Int.sub_eq_add_neg],near_le (by decide) ?_⟩
  rw [W_two,Int.sub_eq_add_neg,←D_shift]
  have h1:=Rat.mul_le_mul_of_nonneg_right (hm i hi) (Rat.le_of_lt (P2_pos (-k)))
  rw [←P2_add,show k+1 + -k=((1:Nat):Int) by omega,P2_nat] at h1
  exact h1
 refine ⟨fun i hi => ?_,fun i hi => ?_,fun i hi => ?_⟩
 ·obtain ⟨h1,h2⟩:=key i hi
  rw [h1]
  exact fin_near (Nat.lt_of_le_of_lt h2 (by decide))
 ·rw [(key i hi).1,absV_near]
 ·obtain ⟨h1,h2⟩:=key i hi
  rw [←W_abs,h1,absV_near,←W_two,W_le (by have:=nearR_le (fMag (el x i)) (fPl (el x i)-k); unfold infR at this; omega) (by decide)]
  exact h2
theorem sq_part {t:Nat} (h:fPow t≠2047):mulV t t=nearR (fMag t*fMag t) (fPl t+fPl t)∧D (fMag t*fMag t) (fPl t+fPl t)=W t*W t:=by
 refine ⟨?_,by unfold W; rw [D_mul]⟩
 rw [mulV_fin h h,show (fNeg t != fNeg t)=false by cases fNeg t<;>rfl]
 rfl
theorem sq_le4 {t:Nat} (h:fPow t≠2047) (h2:W t≤2):mulV t t≤4616189618054758400∧mulV t t<infR∧W (mulV t t)≤4:=by
 have hW4:W 4616189618054758400=4:=by
  unfold W D
  rw [show fMag 4616189618054758400=2^52 from by decide,show fPl 4616189618054758400 = -50 from by decide,←P2_nat,←P2_add,show ((52:Nat):Int) + -50=((2:Nat):Int) by omega,P2_nat]; rfl
 obtain ⟨h3,h4⟩:=sq_part h
 have h5:mulV t t≤4616189618054758400:=by
  rw [h3]
  refine near_le (by decide) ?_
  rw [h4,hW4]
  have h6:=W_nonneg t
  have h7:=Rat.mul_le_mul_of_nonneg_left h2 h6
  grind
 refine ⟨h5,Nat.lt_of_le_of_lt h5 (by decide),?_⟩
 rw [←hW4,W_le (by omega) (by decide)]; exact h5
theorem sums_ge {x:List Nat} {k:Int} (hP:Parts x k) (hl:x.length≤1000):∀(n:Nat) {i s:Nat},i+n=x.length→s<infR→W s≤((4*i:Nat):Rat) →
  sqrR x k n i s<infR∧W (sqrR x k n i s)≤((4*x.length:Nat):Rat)∧s≤sqrR x k n i s∧∀j,i≤j→j<x.length→mulV (scaleV (el x j) (-k)) (scaleV (el x j) (-k))≤sqrR x k n i s:=by
 intro n
 induction n with
 | zero =>
  intro i s hi hs hW
  have:i=x.length:=by omega
  subst this
  exact ⟨hs,hW,Nat.le_refl _,fun j h1 h2=>by omega⟩
 | succ n ih =>
  intro i s hi hs hW
  unfold sqrR
  have hlt:i<x.length:=by omega
  obtain ⟨q1,q2,q3⟩:=sq_le4 (hP.fin i hlt) (hP.le2 i hlt)
  generalize hq:mulV (scaleV (el x i) (-k)) (scaleV (el x i) (-k))=q at *
  obtain ⟨a1,a2,_⟩:=add_ge hs q2
  obtain ⟨N,p,e1,e2⟩:=add_pos hs q2
  obtain ⟨w1,w2⟩:=W_int (c:=4*(i+1)) (by omega)
  have hle:addV s q≤nearR (4*(i+1)) 0:=by
   rw [e1]
   refine near_le w1 ?_
   rw [e2,w2]
   have:((4*(i+1):Nat):Rat)=((4*i:Nat):Rat)+4:=by rw [Nat.mul_add,Rat.natCast_add]; rfl
   rw [this]
   grind
  have hs':addV s q<infR:=Nat.lt_of_le_of_lt hle w1
  have hW':W (addV s q)≤((4*(i+1):Nat):Rat):=by
   rw [←w2,W_le (by unfold infR at hs'; omega) (by unfold infR at w1; omega)]; exact hle
  obtain ⟨r1,r2,r3,r4⟩:=ih (i:=i+1) (s:=addV s q) (by omega) hs' hW'
  refine ⟨r1,r2,Nat.le_trans a1 r3,fun j h1 h2 => ?_⟩
  rcases Nat.eq_or_lt_of_le h1 with he | he
  ·subst he; rw [hq]; exact Nat.le_trans a2 r3
  ·exact r4 j (by omega) h2
theorem sqrt_pos {s:Nat} (h:s<infR):sqrtV s≤infR:=by
 have hn:fNeg s=false:=by unfold fNeg; unfold infR at h; simp; omega
 have hnan:¬nanB s:=by unfold nanB fPow; unfold infR at h; omega
 unfold sqrtV
 rw [if_neg hnan,hn]
 split
 ·omega
 ·simp only [Bool.false_eq_true,if_false]; exact nearR_le _ _
theorem le_inf_nan {s:Nat} (h:s≤infR):¬nanB s:=by
 rcases Nat.lt_or_eq_of_le h with h1 | h1
 ·unfold nanB fPow; unfold infR at h1; omega
 ·subst h1; decide
theorem sqrt_mono {a b:Nat} (ha:a≤b) (hb:b<infR):sqrtV a≤sqrtV b:=by
 have h1:=sqrt_pos (s:=a) (by omega)
 have h2:=sqrt_pos hb
 have hi:infR<9223372036854775808:=by decide
 have:=rise (a:=a) (b:=b) (by omega) (by omega) (by unfold ordOk; simp [le_inf_nan (show a≤infR by omega),le_inf_nan (show b≤infR by omega)])
  (by rw [rk_pos (by omega),rk_pos (by omega)]; omega) (by unfold ordOk; simp [le_inf_nan h1,le_inf_nan h2])
 rw [rk_pos (by omega),rk_pos (by omega)] at this
 omega
theorem mag_le2 (t:Nat):fMag t≤2*two52:=by have:=fMag_lt t; unfold two52; omega
theorem mag_normal {t:Nat} (h:fPow t≠0):two52≤fMag t:=by unfold fMag two52; rw [if_neg h]; omega
theorem min_id {z t:Nat} (h:min z infR=t) (h2:t<infR):z=t:=by omega
theorem sqrt_sq {t:Nat} (h:t<infR) (h0:fPow t≠0) (h1 : -480≤fPl t) (h2:fPl t≤330):sqrtV (mulV t t)=t:=by
 have hf:fPow t≠2047:=abs_fin (by unfold absV; unfold infR at h ⊢; omega)
 have hn:fNeg t=false:=by unfold fNeg; unfold infR at h; simp; omega
 have m1:=mag_normal h0
 obtain ⟨q,f,q1,q2,q3,q4,q5⟩:=squares_back m1 (fMag_lt t) h1 h2
 rw [(sq_part hf).1]
 rw [show nearV false (fMag t*fMag t) (fPl t+fPl t)=nearR (fMag t*fMag t) (fPl t+fPl t) from rfl] at q1 q2 q3
 have hneg:fNeg (nearR (fMag t*fMag t) (fPl t+fPl t))=false:=word_neg false _ _
 generalize nearR (fMag t*fMag t) (fPl t+fPl t)=Q at *
 unfold sqrtV
 rw [if_neg (fin_nan q3),hneg,q1,q2,if_neg (by
  intro hh
  rcases hh with hh | hh
  ·exact q4 hh.1
  ·rw [hh] at q3; exact q3 (by decide))]
 simp only [Bool.false_eq_true,if_false]
 show nearR _ _=_
 rw [q5]
 have:=near_W h
 unfold nearR at this
 rw [rung_fits (by omega) (mag_le2 t) (.inl m1)] at this
 generalize (fPl t+1074).toNat*two52+fMag t=z at *
 exact min_id this h
structure Root (x:List Nat) (m:Nat) (k:Int) (r:Nat):Prop where
 mf:m<infR
 normal:fPow m≠0
 hk : -900≤k∧k<900
 rf:r<infR
 one:1≤W r
 le:W r≤16
 ge:W m≤W r*P2 k
 eq:normV x=scaleV r k
 kx:k=expB m
 rx:r=sqrtV (sqrV x k)
 parts:Parts x k
 sums:sqrV x k<infR∧W (sqrV x k)≤((4*x.length:Nat):Rat)
theorem norm_root_g {x:List Nat} (hx:Words x) (hl:x.length≤64) (hfin:∀i,i<x.length→fPow (el x i)≠2047) (hexp0 : -900≤expB (bigV x)∧expB (bigV x)<900) (h0:bigV x≠0):∃k r,Root x (bigV x) k r:=by
 obtain ⟨b1,b2,b3⟩:=bigR_mem (x:=x) x.length (i:=0) (m:=0) (fun j _ hj=>fin_nan (hfin j (by omega)))
 have eB:bigR x x.length 0 0=bigV x:=rfl
 rw [eB] at b1 b2 b3
 obtain ⟨i0,-,i1,i2⟩:=b3.resolve_left h0
 clear b3
 have i1':i0<x.length:=by omega
 have hmf:bigV x<infR:=by rw [←i2]; exact fin_abs (hfin i0 i1')
 obtain ⟨f1,f2,f3,f4⟩:=fields_abs (el x i0)
 rw [i2] at f1 f2 f3 f4
 have hpm:fPow (bigV x)≠2047:=by rw [f3]; exact hfin i0 i1'
 have hm0:fMag (bigV x)≠0:=fun h=>by
  have:=(mag_zero (bigV x)).1 h
  unfold fPow fFrac at this; unfold infR at hmf; omega
 have hexp:=hexp0
 have hnorm:=normal_of_exp hpm hm0 (by omega)
 obtain ⟨w1,w2⟩:=expB_W hpm hm0
 have hWle:∀i,i<x.length→W (el x i)≤W (bigV x):=fun i hi=>by
  rw [←W_abs (el x i),W_le (absV_lt _) (by unfold infR at hmf; omega)]
  exact b2 i (Nat.zero_le _) (by omega)
 have hn:normV x=scaleV (sqrtV (sqrV x (expB (bigV x)))) (expB (bigV x)):=by unfold normV; rw [if_neg (by omega)]
 generalize hk:expB (bigV x)=k at *
 have hP:=parts_of hx (k:=k) (by omega) hfin (fun i hi=>Rat.le_trans (hWle i hi) (Rat.le_of_lt w2))
 obtain ⟨s1,s2,s3,s4⟩:=sums_ge hP (by omega) x.length (i:=0) (s:=0) (by omega) (by decide) (by rw [show W 0=0 by unfold W; rw [show fMag 0=0 from by decide,D_zero]]; exact Rat.le_refl)
 rw [show sqrR x k x.length 0 0=sqrV x k from rfl] at s1 s2 s3 s4
 have hq:=s4 i0 (Nat.zero_le _) i1'
 have ht:=hP.w i0 i1'
 have htf:=hP.fin i0 i1'
 generalize htt:scaleV (el x i0) (-k)=t at *
 have hpl:fPl (bigV x)=k-52:=by have:=expB_normal hnorm hpm; omega
 have hxr:exq (fMag (el x i0)) (fPl (el x i0)-k)=true:=by
  rw [←f1]
  exact exq_scaled hnorm (by rw [←f2]; omega)
 have hrf:nearR (fMag (el x i0)) (fPl (el x i0)-k)<infR:=by rw [←ht]; exact fin_abs htf
 have hWt:W (absV t)=W (bigV x)*P2 (-k):=by
  rw [ht,W_exact (by rw [←f1]; exact hm0) hxr hrf,←f1,←f2,Int.sub_eq_add_neg,←D_shift]; rfl
 have htword:absV t=nearR (fMag (bigV x)) (-52):=by rw [ht,←f1,←f2,hpl]; exact congrArg _ (by omega)
 have hm1:=mag_normal hnorm
 have hwd:=(near_normal hm1 (fMag_lt (bigV x)) (e := -52) (by omega) (by omega) false).1
 rw [show nearV false (fMag (bigV x)) (-52)=nearR (fMag (bigV x)) (-52) from rfl,←htword] at hwd
 have hfl:=fields_of (s:=false) (P:=1022) (q:=fMag (bigV x)) (by omega) hm1 (fMag_lt (bigV x))
 rw [show ((-52:Int)+1074).toNat=1022 from rfl] at hwd
 rw [←hwd] at hfl
 obtain ⟨g1,g2,g3,g4⟩:=hfl
 have hplt:fPl (absV t) = -52:=by unfold fPl; rw [g1]; rfl
 have hsq:mulV t t=mulV (absV t) (absV t):=by
  have hfa:fPow (absV t)≠2047:=by rw [(fields_abs t).2.2.1]; exact htf
  rw [(sq_part htf).1,(sq_part hfa).1,(fields_abs t).1,(fields_abs t).2.1]
 have hroot:sqrtV (mulV t t)=absV t:=by
  rw [hsq]
  exact sqrt_sq (by rw [ht]; exact hrf) (by omega) (by omega) (by omega)
 have hge:absV t≤sqrtV (sqrV x k):=by rw [←hroot]; exact sqrt_mono hq s1
 have hW256:W (nearR 256 0)=((256:Nat):Rat):=(W_int (by omega)).2
 have hle256:sqrV x k≤nearR 256 0:=by
  rw [←W_le (by unfold infR at s1; omega) (by decide),hW256]
  refine Rat.le_trans s2 (Rat.natCast_le_natCast.2 (by omega))
 have h16:sqrtV (nearR 256 0)=4625196817309499392:=by
  have h1:nearR 256 0=4643211215818981376:=by decide
  rw [h1]
  have h2:=sqrt_sq (t:=4625196817309499392) (by decide) (by decide) (by decide) (by decide)
  rw [←h2]
  exact congrArg sqrtV (by decide)
 have hr16:sqrtV (sqrV x k)≤4625196817309499392:=by rw [←h16]; exact sqrt_mono hle256 (by decide)
 have hx2:∃r,r=sqrtV (sqrV x k):=⟨_,rfl⟩
 obtain ⟨r,hr⟩:=hx2
 rw [←hr] at hge hr16 hn
 have hrf2:r<infR:=Nat.lt_of_le_of_lt hr16 (by decide)
 have hWr:W (absV t)≤W r:=by rw [W_le (absV_lt _) (by unfold infR at hrf2; omega)]; exact hge
 have hWr2:W r≤16:=by
  have h1:W 4625196817309499392=16:=by
   unfold W D
   rw [show fMag 4625196817309499392=2^52 from by decide,show fPl 4625196817309499392 = -48 from by decide,←P2_nat,←P2_add,show ((52:Nat):Int) + -48=((4:Nat):Int) by omega,P2_nat]; rfl
  rw [←h1,W_le (by unfold infR at hrf2; omega) (by decide)]; exact hr16
 have hone:1≤W (absV t):=by
  rw [hWt]
  have h1:=Rat.mul_le_mul_of_nonneg_right w1 (Rat.le_of_lt (P2_pos (-k)))
  rwa [←P2_add,show k + -k=0 by omega,P2_zero] at h1
 refine ⟨k,r,hmf,hnorm,hexp,hrf2,Rat.le_trans hone hWr,hWr2,?_,hn,hk.symm,hr,hP,s1,s2⟩
 have h1:=Rat.mul_le_mul_of_nonneg_right hWr (Rat.le_of_lt (P2_pos k))
 rw [hWt,Rat.mul_assoc,←P2_add,show -k+k=0 by omega,P2_zero,Rat.mul_one] at h1
 exact h1
theorem norm_zero {x:List Nat} (h0:bigV x=0):normV x=0:=by unfold normV; rw [if_pos (.inl h0),h0]
theorem word_pos {r:Nat} (h:r<infR):fPow r≠2047∧fNeg r=false∧r<18446744073709551616∧absV r=r:=by
 have hi:infR=9218868437227405312:=rfl
 rw [hi] at h
 exact ⟨abs_fin (by unfold absV; rw [hi]; omega),by unfold fNeg; simp; omega,by omega,by unfold absV; omega⟩
theorem norm_ge_g {x:List Nat} (hx:Words x) (hl:x.length≤64) (hfin:∀i,i<x.length→fPow (el x i)≠2047) (hexp:bigV x≠0 → -900≤expB (bigV x)∧expB (bigV x)<900):normV x<infR∧bigV x≤normV x:=by
 by_cases h0:bigV x=0
 ·rw [norm_zero h0,h0]; exact ⟨by decide,Nat.le_refl _⟩
 ·obtain ⟨k,r,R⟩:=norm_root_g hx hl hfin (hexp h0) h0
  obtain ⟨p1,p2,p3,p4⟩:=word_pos R.rf
  have hk:=R.hk
  rw [R.eq,scaleV_fin p3 p1,p2,clamp_id (by omega)]
  show nearR _ _<infR∧_≤nearR _ _
  constructor
  ·refine near_fin ?_
   rw [←D_shift]
   show W r*P2 k≤_
   have h1:=Rat.mul_le_mul_of_nonneg_right R.le (Rat.le_of_lt (P2_pos k))
   have h2:(16:Rat)*P2 k=P2 (((4:Nat):Int)+k):=by rw [P2_add,P2_nat]; rfl
   rw [h2] at h1
   exact Rat.le_trans h1 (P2_mono (by omega))
  ·refine near_ge R.mf ?_
   rw [←D_shift]
   exact R.ge
theorem rat_sq_le {a b:Rat} (h0:0≤a) (h:a≤b):a*a≤b*b:=by
 have h1:=Rat.mul_le_mul_of_nonneg_left h h0
 have h2:=Rat.mul_le_mul_of_nonneg_right h (Rat.le_trans h0 h)
 exact Rat.le_trans h1 h2
theorem rat_sq_nonneg (a:Rat):0≤a*a:=by
 rcases Rat.le_total (a:=0) (b:=a) with h | h
 ·exact Rat.mul_nonneg h h
 ·have:=Rat.mul_nonneg (a := -a) (b := -a) (by grind) (by grind)
  grind
theorem err_sq {a T η:Rat} (ha:0≤a) (ha2:a≤2) (hT:0≤T) (hη:0≤η) (hη1:η≤1/1000000) (h1:T≤a+a*(1/9007199254740992)+η) (h2:a≤T+a*(1/9007199254740992)+η) :
  T*T≤a*a+3*(1/9007199254740992)*(a*a)+10*η∧a*a≤T*T+3*(1/9007199254740992)*(a*a)+10*η:=by
 have e1:a*η≤2*η:=Rat.mul_le_mul_of_nonneg_right ha2 hη
 have e0:0≤a*η:=Rat.mul_nonneg ha hη
 have e2:η*η≤η:=by
  have:=Rat.mul_le_mul_of_nonneg_right hη1 hη
  grind
 have e3:=Rat.mul_nonneg hη hη
 have e4:=Rat.mul_nonneg ha ha
 constructor
 ·have:=rat_sq_le hT h1
  grind
 ·
  have e5:a*T≤a*(a+a*(1/9007199254740992)+η):=Rat.mul_le_mul_of_nonneg_left h1 ha
  have e6:a*a≤a*(T+a*(1/9007199254740992)+η):=Rat.mul_le_mul_of_nonneg_left h2 ha
  have e7:T*a≤T*(T+a*(1/9007199254740992)+η):=Rat.mul_le_mul_of_nonneg_left h2 hT
  have e8:T*η≤(a+a*(1/9007199254740992)+η)*η:=Rat.mul_le_mul_of_nonneg_right h1 hη
  grind
theorem near_err' {n:Nat} {p:Int} (h:nearR n p<infR):W (nearR n p)≤D n p+D n p*(1/9007199254740992)+P2 (-1075)∧D n p≤W (nearR n p)+D n p*(1/9007199254740992)+P2 (-1075):=by
 have hu:P2 (-53)=1/9007199254740992:=by decide +kernel
 have:=near_err h
 rwa [hu] at this
theorem eta_small:0≤P2 (-1075)∧P2 (-1075)≤1/1000000000000000000000000000000:=by
 refine ⟨Rat.le_of_lt (P2_pos _),?_⟩
 have h1:P2 (-1075)≤P2 (-120):=P2_mono (by omega)
 have h2:P2 (-120)≤1/1000000000000000000000000000000:=by decide +kernel
 exact Rat.le_trans h1 h2
theorem err_step {s A q aa s' c d η:Rat} (hA:0≤A) (haa:0≤aa) (hη:0≤η) (hc:5≤c) (hc2:c≤200) (hd:0≤d) (hd2:d≤1000)
  (h1:s≤A+c*(1/9007199254740992)*A+d*η) (h2:A≤s+c*(1/9007199254740992)*A+d*η)
  (h3:q≤aa+5*(1/9007199254740992)*aa+12*η) (h4:aa≤q+5*(1/9007199254740992)*aa+12*η)
  (h5:s'≤(s+q)+(s+q)*(1/9007199254740992)+η) (h6:s+q≤s'+(s+q)*(1/9007199254740992)+η) :
  s'≤(A+aa)+(c+2)*(1/9007199254740992)*(A+aa)+(d+14)*η∧A+aa≤s'+(c+2)*(1/9007199254740992)*(A+aa)+(d+14)*η:=by
 have e1:5*aa≤c*aa:=Rat.mul_le_mul_of_nonneg_right hc haa
 have e2:c*A≤200*A:=Rat.mul_le_mul_of_nonneg_right hc2 hA
 have e3:c*aa≤200*aa:=Rat.mul_le_mul_of_nonneg_right hc2 haa
 have e4:d*η≤1000*η:=Rat.mul_le_mul_of_nonneg_right hd2 hη
 have e5:0≤d*η:=Rat.mul_nonneg hd hη
 have e6:5*A≤c*A:=Rat.mul_le_mul_of_nonneg_right hc hA
 constructor<;>grind
def sumA (a:Nat→Rat):Nat→Rat
 | 0=>0
 | n+1=>sumA a n+a n*a n
theorem sumA_nonneg (a:Nat→Rat):∀n,0≤sumA a n
 | 0=>Rat.le_refl
 | n+1=>by
  unfold sumA
  have h1:=sumA_nonneg a n
  have h2:=rat_sq_nonneg (a n)
  grind
theorem sumA_ge (a:Nat→Rat):∀{n i:Nat},i<n→a i*a i≤sumA a n
 | 0,_,h=>by omega
 | n+1,i,h=>by
  unfold sumA
  have h2:=rat_sq_nonneg (a n)
  rcases Nat.lt_or_eq_of_le (Nat.le_of_lt_succ h) with h3 | h3
  ·have h1:=sumA_ge a h3
   grind
  ·subst h3
   have h1:=sumA_nonneg a i
   grind
theorem nat_rat (n:Nat):((n+1:Nat):Rat)=(n:Rat)+1:=by rw [Rat.natCast_add]; rfl
theorem part_err {x:List Nat} {k:Int} (hP:Parts x k) {i:Nat} (hi:i<x.length) (ha2:W (el x i)*P2 (-k)≤2) :
  let aa:=(W (el x i)*P2 (-k))*(W (el x i)*P2 (-k))
  W (mulV (scaleV (el x i) (-k)) (scaleV (el x i) (-k)))≤aa+5*(1/9007199254740992)*aa+12*P2 (-1075)∧aa≤W (mulV (scaleV (el x i) (-k)) (scaleV (el x i) (-k)))+5*(1/9007199254740992)*aa+12*P2 (-1075):=by
 intro aa
 have hw:=hP.w i hi
 have hf:=hP.fin i hi
 obtain ⟨q1,q2,q3⟩:=sq_le4 hf (hP.le2 i hi)
 obtain ⟨s1,s2⟩:=sq_part hf
 obtain ⟨n1,n2⟩:=eta_small
 generalize scaleV (el x i) (-k)=t at *
 have hr:nearR (fMag (el x i)) (fPl (el x i)-k)<infR:=by rw [←hw]; exact fin_abs hf
 have hD:D (fMag (el x i)) (fPl (el x i)-k)=W (el x i)*P2 (-k):=by rw [Int.sub_eq_add_neg,←D_shift]; rfl
 have ha0:0≤W (el x i)*P2 (-k):=Rat.mul_nonneg (W_nonneg _) (Rat.le_of_lt (P2_pos _))
 obtain ⟨e1,e2⟩:=near_err' hr
 rw [←hw,W_abs,hD] at e1 e2
 obtain ⟨f1,f2⟩:=err_sq ha0 ha2 (W_nonneg t) n1 (by grind) e1 e2
 rw [s1] at q2
 obtain ⟨g1,g2⟩:=near_err' q2
 rw [←s1,s2] at g1 g2
 have h0:=rat_sq_nonneg (W (el x i)*P2 (-k))
 have h1:=rat_sq_nonneg (W t)
 show W (mulV t t)≤aa+_*aa+_∧aa≤_+_*aa+_
 have haa:aa=(W (el x i)*P2 (-k))*(W (el x i)*P2 (-k)):=rfl
 rw [←haa] at f1 f2 h0
 clear haa
 generalize W t*W t=TT at *
 constructor<;>grind
theorem sums_err {x:List Nat} {k:Int} (hP:Parts x k) (hl:x.length≤64) (ha2:∀i,i<x.length→W (el x i)*P2 (-k)≤2):∀(n:Nat) {i s:Nat},i+n=x.length→s<infR→W s≤((4*i:Nat):Rat) →
  (W s≤sumA (fun i=>W (el x i)*P2 (-k)) i+(5+2*(i:Rat))*(1/9007199254740992)*sumA (fun i=>W (el x i)*P2 (-k)) i+(14*(i:Rat))*P2 (-1075)) →
  (sumA (fun i=>W (el x i)*P2 (-k)) i≤W s+(5+2*(i:Rat))*(1/9007199254740992)*sumA (fun i=>W (el x i)*P2 (-k)) i+(14*(i:Rat))*P2 (-1075)) →
  (W (sqrR x k n i s)≤sumA (fun i=>W (el x i)*P2 (-k)) x.length+(5+2*(x.length:Rat))*(1/9007199254740992)*sumA (fun i=>W (el x i)*P2 (-k)) x.length+(14*(x.length:Rat))*P2 (-1075)) ∧
  (sumA (fun i=>W (el x i)*P2 (-k)) x.length≤W (sqrR x k n i s)+(5+2*(x.length:Rat))*(1/9007199254740992)*sumA (fun i=>W (el x i)*P2 (-k)) x.length+(14*(x.length:Rat))*P2 (-1075)):=by
 intro n
 induction n with
 | zero =>
  intro i s hi hs hW h1 h2
  have:i=x.length:=by omega
  subst this
  exact ⟨h1,h2⟩
 | succ n ih =>
  intro i s hi hs hW h1 h2
  unfold sqrR
  have hlt:i<x.length:=by omega
  obtain ⟨q1,q2,q3⟩:=sq_le4 (hP.fin i hlt) (hP.le2 i hlt)
  obtain ⟨p1,p2⟩:=part_err hP hlt (ha2 i hlt)
  generalize hq:mulV (scaleV (el x i) (-k)) (scaleV (el x i) (-k))=q at *
  obtain ⟨N,p,e1,e2⟩:=add_pos hs q2
  obtain ⟨w1,w2⟩:=W_int (c:=4*(i+1)) (by omega)
  have hle:addV s q≤nearR (4*(i+1)) 0:=by
   rw [e1]
   refine near_le w1 ?_
   rw [e2,w2]
   have:((4*(i+1):Nat):Rat)=((4*i:Nat):Rat)+4:=by rw [Nat.mul_add,Rat.natCast_add]; rfl
   rw [this]
   grind
  have hs':addV s q<infR:=Nat.lt_of_le_of_lt hle w1
  have hW':W (addV s q)≤((4*(i+1):Nat):Rat):=by
   rw [←w2,W_le (by unfold infR at hs'; omega) (by unfold infR at w1; omega)]; exact hle
  rw [e1] at hs'
  obtain ⟨g1,g2⟩:=near_err' hs'
  rw [←e1,e2] at g1 g2
  rw [←e1] at hs'
  have hi64:(i:Rat)≤64:=by
   have:(i:Rat)≤((64:Nat):Rat):=Rat.natCast_le_natCast.2 (by omega)
   exact this
  have hi0:(0:Rat)≤i:=Rat.natCast_nonneg
  have hst:=err_step (s:=W s) (A:=sumA (fun i=>W (el x i)*P2 (-k)) i) (q:=W q) (aa:=(W (el x i)*P2 (-k))*(W (el x i)*P2 (-k))) (s':=W (addV s q)) (c:=5+2*(i:Rat)) (d:=14*(i:Rat)) (η:=P2 (-1075))
   (sumA_nonneg _ i) (rat_sq_nonneg _) eta_small.1 (by grind) (by grind) (by grind) (by grind) h1 h2 p1 p2 g1 g2
  have hA:sumA (fun i=>W (el x i)*P2 (-k)) i+(W (el x i)*P2 (-k))*(W (el x i)*P2 (-k))=sumA (fun i=>W (el x i)*P2 (-k)) (i+1):=rfl
  rw [hA,show (5+2*(i:Rat)+2)=5+2*((i+1:Nat):Rat) by rw [nat_rat]; grind,show (14*(i:Rat)+14)=14*((i+1:Nat):Rat) by rw [nat_rat]; grind] at hst
  exact ih (i:=i+1) (s:=addV s q) (by omega) hs' hW' hst.1 hst.2
theorem stk_sq {N w:Nat} (h:IsRoot N w) (hw:9007199254740992≤w) :
  ((stk N w*stk N w:Nat):Rat)≤(4*N:Nat)+(4*N:Nat)*(2*(1/9007199254740992))∧((4*N:Nat):Rat)≤(stk N w*stk N w:Nat)+(4*N:Nat)*(2*(1/9007199254740992)):=by
 obtain ⟨h1,h2⟩:=h
 have key:stk N w*stk N w≤4*N+4*w+1∧4*N≤stk N w*stk N w+4*w+4:=by
  unfold stk
  by_cases hx:w*w=N
  ·rw [decide_eq_false (by simp [hx])]
   have:(2*w+false.toNat)*(2*w+false.toNat)=4*(w*w):=by
    simp only [Bool.toNat_false,Nat.add_zero]; rw [Nat.mul_mul_mul_comm]
   rw [this,hx]; omega
  ·rw [decide_eq_true hx]
   have:(2*w+true.toNat)*(2*w+true.toNat)=4*(w*w)+4*w+1:=sq_exp w
   rw [this]
   have h3:(w+1)*(w+1)=w*w+2*w+1:=by rw [Nat.add_mul,Nat.mul_add]; omega
   omega
 have hww:9007199254740992*w≤w*w:=Nat.mul_le_mul_right w hw
 have k2:9007199254740992*w≤N:=Nat.le_trans hww h1
 have r1:((stk N w*stk N w:Nat):Rat)≤((4*N+4*w+1:Nat):Rat):=Rat.natCast_le_natCast.2 key.1
 have r2:((4*N:Nat):Rat)≤((stk N w*stk N w+4*w+4:Nat):Rat):=Rat.natCast_le_natCast.2 key.2
 have r3:((9007199254740992*w:Nat):Rat)≤(N:Rat):=Rat.natCast_le_natCast.2 k2
 have r4:((9007199254740992:Nat):Rat)≤(w:Rat):=Rat.natCast_le_natCast.2 hw
 simp only [Rat.natCast_add,Rat.natCast_mul] at r1 r2 r3 ⊢
 have c1:((4:Nat):Rat)=4:=rfl
 have c2:((1:Nat):Rat)=1:=rfl
 have c3:((9007199254740992:Nat):Rat)=9007199254740992:=rfl
 rw [c3] at r3 r4
 rw [c1] at r1 r2 ⊢
 rw [c2] at r1
 generalize (stk N w:Rat)*(stk N w:Rat)=z at *
 generalize (N:Rat)=n at *
 generalize (w:Rat)=y at *
 constructor<;>grind
theorem scale_near {b:Nat} (hb:b<18446744073709551616) (h:fPow b≠2047) {k:Int} (hk : -2300≤k∧k≤2300):absV (scaleV b k)=nearR (fMag b) (fPl b+k):=by
 rw [scaleV_fin hb h,clamp_id hk,absV_near]
theorem fPl_eq {w:Nat} (h:fPow w≠0):fPl w=(fPow w:Int)-1075:=by unfold fPl; rw [if_neg h]
theorem scale_exact {b:Nat} (hb:b<18446744073709551616) (h0:fPow b≠0) (h:fPow b≠2047) {k:Int} (hk : -2300≤k∧k≤2300) (h1 : -1022≤expB b+k) (h2:expB b+k≤1023) :
  fMag (scaleV b k)=fMag b∧fPl (scaleV b k)=fPl b+k∧fPow (scaleV b k)≠2047∧fPow (scaleV b k)≠0∧W (scaleV b k)=W b*P2 k∧absV (scaleV b k)=nearR (fMag b) (fPl b+k):=by
 have he:=expB_normal h0 h
 have m1:=mag_normal h0
 have hd:=(near_normal m1 (fMag_lt b) (e:=fPl b+k) (by omega) (by omega) (fNeg b)).1
 have hs:scaleV b k=nearV (fNeg b) (fMag b) (fPl b+k):=by rw [scaleV_fin hb h,clamp_id hk]
 have hw:=scale_near hb h hk
 rw [hs,hd]
 obtain ⟨g1,g2,g3,g4⟩:=fields_of (s:=fNeg b) (P:=(fPl b+k+1074).toNat) (q:=fMag b) (by omega) m1 (fMag_lt b)
 have g5:fPl (sgn (fNeg b) ((fPl b+k+1074).toNat*two52+fMag b))=fPl b+k:=by
  rw [fPl_eq (by rw [g1]; omega),g1]
  omega
 refine ⟨g2,g5,?_,by rw [g1]; omega,?_,?_⟩
 ·rw [g1]; clear hd hs hw g1 g2 g3 g4 g5; omega
 ·unfold W; rw [g2,g5,D_shift]
 ·rw [←hd,absV_near]
theorem W_zero_of {b:Nat} (h:fMag b=0):W b=0:=by unfold W; rw [h,D_zero]
theorem P2_le_iff {a b:Int}:P2 a≤P2 b↔a≤b:=by
 constructor
 ·intro h
  rcases Int.lt_or_le b a with h1 | h1
  ·have:=P2_lt h1; grind
  ·exact h1
 ·exact P2_mono
theorem root_exp {r:Nat} (hr:r<infR) (h1:1≤W r) (h2:W r≤16):fMag r≠0∧0≤expB r∧expB r≤4∧fPow r≠0:=by
 obtain ⟨p1,p2,p3,p4⟩:=word_pos hr
 have h0:fMag r≠0:=fun h=>by rw [W_zero_of h] at h1; grind
 obtain ⟨w1,w2⟩:=expB_W p1 h0
 have e1:P2 (expB r)≤P2 ((4:Nat):Int):=by rw [P2_nat]; exact Rat.le_trans w1 h2
 rw [P2_le_iff] at e1
 have e2:¬P2 (expB r+1)≤P2 0:=by rw [P2_zero]; grind
 rw [P2_le_iff] at e2
 exact ⟨h0,by omega,by omega,normal_of_exp p1 h0 (by omega)⟩
theorem err_sqB {a T η:Rat} (ha:0≤a) (ha2:a≤1000) (hT:0≤T) (hη:0≤η) (hη1:η≤1/1000000) (h1:T≤a+a*(1/9007199254740992)+η) (h2:a≤T+a*(1/9007199254740992)+η) :
  T*T≤a*a+3*(1/9007199254740992)*(a*a)+5000*η∧a*a≤T*T+3*(1/9007199254740992)*(a*a)+5000*η:=by
 have e1:a*η≤1000*η:=Rat.mul_le_mul_of_nonneg_right ha2 hη
 have e0:0≤a*η:=Rat.mul_nonneg ha hη
 have e2:η*η≤η:=by
  have:=Rat.mul_le_mul_of_nonneg_right hη1 hη
  grind
 have e3:=Rat.mul_nonneg hη hη
 have e4:=Rat.mul_nonneg ha ha
 constructor
 ·have:=rat_sq_le hT h1
  grind
 ·have e5:a*T≤a*(a+a*(1/9007199254740992)+η):=Rat.mul_le_mul_of_nonneg_left h1 ha
  have e6:a*a≤a*(T+a*(1/9007199254740992)+η):=Rat.mul_le_mul_of_nonneg_left h2 ha
  have e7:T*a≤T*(T+a*(1/9007199254740992)+η):=Rat.mul_le_mul_of_nonneg_left h2 hT
  have e8:T*η≤(a+a*(1/9007199254740992)+η)*η:=Rat.mul_le_mul_of_nonneg_right h1 hη
  grind
theorem root_err {s:Nat} (hs:s<infR) (h1:1/4≤W s) (h2:W s≤100000) (hr:sqrtV s<infR) :
  W (sqrtV s)*W (sqrtV s)≤W s+6*(1/9007199254740992)*W s∧W s≤W (sqrtV s)*W (sqrtV s)+6*(1/9007199254740992)*W s:=by
 obtain ⟨p1,p2,p3,p4⟩:=word_pos hs
 have h0:fMag s≠0:=fun h=>by rw [W_zero_of h] at h1; grind
 have hv:sqrtV s=nearR (sqN (fMag s) (fPl s)) (sqP (fPl s)):=by
  unfold sqrtV
  rw [if_neg (fin_nan p1),p2,if_neg (by
   intro hh
   rcases hh with hh | hh
   ·exact h0 hh.1
   ·rw [hh] at hs; omega)]
  rfl
 have hS:110≤sqS (fPl s)∧fPl s-sqS (fPl s)=2*((fPl s-sqS (fPl s))/2):=by
  unfold sqS
  by_cases h:fPl s%2=0
  ·rw [if_pos h]; omega
  ·rw [if_neg h]; omega
 have hroot:=isq_ok (fMag s*2^sqS (fPl s))
 have hbig:9007199254740992≤isq (fMag s*2^sqS (fPl s)):=root_ge hroot (by
  have h3:2^110≤2^sqS (fPl s):=Nat.pow_le_pow_right (by omega) hS.1
  have h4:=Nat.mul_le_mul (show 1≤fMag s by omega) h3
  have h5:(9007199254740992:Nat)*9007199254740992≤2^110:=by decide
  rw [Nat.one_mul] at h4
  exact Nat.le_trans h5 h4)
 obtain ⟨k1,k2⟩:=stk_sq hroot hbig
 have hW:((4*(fMag s*2^sqS (fPl s)):Nat):Rat)*P2 (fPl s-sqS (fPl s)-2)=W s:=by
  have e:=D_scale (fMag s) (fPl s) (sqS (fPl s)+2)
  rw [show fMag s*2^(sqS (fPl s)+2)=4*(fMag s*2^sqS (fPl s)) by rw [Nat.pow_add,show (2:Nat)^2=4 from rfl,←Nat.mul_assoc,Nat.mul_comm],show fPl s-((sqS (fPl s)+2:Nat):Int)=fPl s-sqS (fPl s)-2 by omega] at e
  exact e
 have hD:D (sqN (fMag s) (fPl s)) (sqP (fPl s))*D (sqN (fMag s) (fPl s)) (sqP (fPl s))=((stk (fMag s*2^sqS (fPl s)) (isq (fMag s*2^sqS (fPl s)))*stk (fMag s*2^sqS (fPl s)) (isq (fMag s*2^sqS (fPl s))):Nat):Rat)*P2 (fPl s-sqS (fPl s)-2):=by
  rw [D_mul]
  unfold D
  have e:sqP (fPl s)+sqP (fPl s)=fPl s-sqS (fPl s)-2:=by unfold sqP; omega
  rw [e]; rfl
 have hP:=Rat.le_of_lt (P2_pos (fPl s-sqS (fPl s)-2))
 have m1:=Rat.mul_le_mul_of_nonneg_right k1 hP
 have m2:=Rat.mul_le_mul_of_nonneg_right k2 hP
 rw [←hD] at m1
 have m1':D (sqN (fMag s) (fPl s)) (sqP (fPl s))*D (sqN (fMag s) (fPl s)) (sqP (fPl s))≤W s+W s*(2*(1/9007199254740992)):=by
  rw [←hW]; grind
 have m2':W s≤D (sqN (fMag s) (fPl s)) (sqP (fPl s))*D (sqN (fMag s) (fPl s)) (sqP (fPl s))+W s*(2*(1/9007199254740992)):=by
  rw [hD,←hW]; grind
 rw [hv] at hr ⊢
 obtain ⟨g1,g2⟩:=near_err' hr
 have hv0:=D_nonneg (sqN (fMag s) (fPl s)) (sqP (fPl s))
 generalize D (sqN (fMag s) (fPl s)) (sqP (fPl s))=v at *
 have hv2:v≤1000:=by
  rcases Rat.le_total (a:=v) (b:=1000) with h | h
  ·exact h
  ·have:=rat_sq_le (by grind) h
   grind
 obtain ⟨n1,n2⟩:=eta_small
 obtain ⟨q1,q2⟩:=err_sqB hv0 hv2 (W_nonneg (nearR (sqN (fMag s) (fPl s)) (sqP (fPl s)))) n1 (by grind) g1 g2
 clear hW hD m1 m2 k1 k2 hroot hbig g1 g2
 generalize W (nearR (sqN (fMag s) (fPl s)) (sqP (fPl s)))=T at *
 generalize W s=w at *
 generalize P2 (-1075)=η at *
 have hT:=rat_sq_nonneg T
 generalize T*T=TT at *
 generalize v*v=vv at *
 constructor<;>grind
theorem sumA_scale (x:List Nat) (k:Int):∀n,sumA (fun i=>W (el x i)*P2 (-k)) n*(P2 k*P2 k)=sumA (fun i=>W (el x i)) n
 | 0=>by unfold sumA; exact Rat.zero_mul _
 | n+1=>by
  unfold sumA
  rw [Rat.add_mul,sumA_scale x k n]
  have h:P2 (-k)*P2 k=1:=by rw [←P2_add,show -k+k=0 by omega,P2_zero]
  have:W (el x n)*P2 (-k)*(W (el x n)*P2 (-k))*(P2 k*P2 k)=W (el x n)*W (el x n):=by
   have e:W (el x n)*P2 (-k)*(W (el x n)*P2 (-k))*(P2 k*P2 k)=W (el x n)*W (el x n)*((P2 (-k)*P2 k)*(P2 (-k)*P2 k)):=by grind
   rw [e,h]; grind
  rw [this]
theorem norm_err_g {x:List Nat} (hx:Words x) (hl:x.length≤64) (hfin:∀i,i<x.length→fPow (el x i)≠2047) (hexp:bigV x≠0 → -900≤expB (bigV x)∧expB (bigV x)<900) :
  W (normV x)*W (normV x)≤sumA (fun i=>W (el x i)) x.length+150*(1/9007199254740992)*sumA (fun i=>W (el x i)) x.length ∧
  sumA (fun i=>W (el x i)) x.length≤W (normV x)*W (normV x)+150*(1/9007199254740992)*sumA (fun i=>W (el x i)) x.length:=by
 obtain ⟨b1,b2,b3⟩:=bigR_mem (x:=x) x.length (i:=0) (m:=0) (fun j _ hj=>fin_nan (hfin j (by omega)))
 rw [show bigR x x.length 0 0=bigV x from rfl] at b1 b2 b3
 by_cases h0:bigV x=0
 ·have hz:∀i,i<x.length→W (el x i)=0:=fun i hi=>by
   have:=b2 i (Nat.zero_le _) (by omega)
   rw [h0] at this
   rw [←W_abs,show absV (el x i)=0 by omega]
   exact W_zero_of (by decide)
  have hs:∀n,n≤x.length→sumA (fun i=>W (el x i)) n=0:=by
   intro n
   induction n with
   | zero=>intro _; rfl
   | succ n ih=>intro h; unfold sumA; rw [ih (by omega),hz n (by omega)]; grind
  rw [norm_zero h0,hs _ (Nat.le_refl _),W_zero_of (by decide)]
  grind
 ·obtain ⟨k,r,R⟩:=norm_root_g hx hl hfin (hexp h0) h0
  obtain ⟨i0,i1,i2⟩:∃i0,i0<x.length∧absV (el x i0)=bigV x:=by
   rcases b3 with b3 | ⟨i0,_,i1,i2⟩
   ·exact absurd b3 h0
   ·exact ⟨i0,by omega,i2⟩
  clear b3
  obtain ⟨m1,m2,m3,m4⟩:=word_pos R.mf
  have hmm:fMag (bigV x)≠0:=by have:=mag_normal R.normal; unfold two52 at this; omega
  obtain ⟨w1,w2⟩:=expB_W m1 hmm
  rw [←R.kx] at w1 w2
  have hPk:=Rat.le_of_lt (P2_pos (-k))
  have ha2:∀i,i<x.length→W (el x i)*P2 (-k)≤2:=fun i hi=>by
   have hle:W (el x i)≤W (bigV x):=by
    rw [←W_abs (el x i),W_le (absV_lt _) (bigV_lt x)]
    exact b2 i (Nat.zero_le _) (by omega)
   have h1:=Rat.mul_le_mul_of_nonneg_right (Rat.le_trans hle (Rat.le_of_lt w2)) hPk
   rw [←P2_add,show k+1 + -k=((1:Nat):Int) by omega,P2_nat] at h1
   exact h1
  have hone:1≤W (el x i0)*P2 (-k):=by
   rw [←W_abs,i2]
   have h1:=Rat.mul_le_mul_of_nonneg_right w1 hPk
   rwa [←P2_add,show k + -k=0 by omega,P2_zero] at h1
  have hA1:1≤sumA (fun i=>W (el x i)*P2 (-k)) x.length:=by
   have h1:=sumA_ge (fun i=>W (el x i)*P2 (-k)) i1
   have h2:=rat_sq_le (by grind) hone
   grind
  have z0:W 0=0:=W_zero_of (by decide)
  obtain ⟨s1,s2⟩:=sums_err R.parts hl ha2 x.length (i:=0) (s:=0) (by omega) (by decide) (by rw [z0]; exact Rat.le_refl)
   (by rw [z0]; show (0:Rat)≤0+_*_*0+14*((0:Nat):Rat)*_; rw [show ((0:Nat):Rat)=0 from rfl]; grind)
   (by rw [z0]; show (0:Rat)≤0+_*_*0+14*((0:Nat):Rat)*_; rw [show ((0:Nat):Rat)=0 from rfl]; grind)
  rw [show sqrR x k x.length 0 0=sqrV x k from rfl] at s1 s2
  obtain ⟨t1,t2⟩:=R.sums
  obtain ⟨n1,n2⟩:=eta_small
  have hn64:(x.length:Rat)≤64:=by
   have:(x.length:Rat)≤((64:Nat):Rat):=Rat.natCast_le_natCast.2 hl
   exact this
  have hn0:(0:Rat)≤x.length:=Rat.natCast_nonneg
  have hW256:W (sqrV x k)≤256:=by
   have:((4*x.length:Nat):Rat)≤((256:Nat):Rat):=Rat.natCast_le_natCast.2 (by omega)
   exact Rat.le_trans t2 this
  generalize hA:sumA (fun i=>W (el x i)*P2 (-k)) x.length=A at *
  generalize (x.length:Rat)=n at *
  have e1:n*A≤64*A:=Rat.mul_le_mul_of_nonneg_right hn64 (by grind)
  have e2:n*P2 (-1075)≤64*P2 (-1075):=Rat.mul_le_mul_of_nonneg_right hn64 n1
  have u1:W (sqrV x k)≤A+135*(1/9007199254740992)*A:=by grind
  have u2:A≤W (sqrV x k)+135*(1/9007199254740992)*A:=by grind
  have hr:=R.rf
  rw [R.rx] at hr
  obtain ⟨v1,v2⟩:=root_err t1 (by grind) (by grind) hr
  rw [←R.rx] at v1 v2
  obtain ⟨p1,p2,p3,p4⟩:=word_pos R.rf
  obtain ⟨q0,q1,q2,q3⟩:=root_exp R.rf R.one R.le
  have hk:=R.hk
  obtain ⟨c1,c2,c3,c4,c5,c6⟩:=scale_exact p3 q3 p1 (k:=k) (by omega) (by omega) (by omega)
  rw [←R.eq] at c5
  have hS:=sumA_scale x k x.length
  rw [hA] at hS
  rw [c5,←hS]
  have f1:W r*W r≤A+150*(1/9007199254740992)*A:=by
   generalize W r*W r=rr at *
   grind
  have f2:A≤W r*W r+150*(1/9007199254740992)*A:=by
   generalize W r*W r=rr at *
   grind
  have hPP:=rat_sq_nonneg (P2 k)
  have g1:=Rat.mul_le_mul_of_nonneg_right f1 hPP
  have g2:=Rat.mul_le_mul_of_nonneg_right f2 hPP
  have e3:W r*P2 k*(W r*P2 k)=W r*W r*(P2 k*P2 k):=by grind
  rw [e3]
  constructor<;>grind
theorem W_sx (b:Nat):DV (sx b) (fPl b)*DV (sx b) (fPl b)=W b*W b:=by
 have h:(sx b:Int)*sx b=((fMag b*fMag b:Nat):Int):=by unfold sx sg; split<;>simp [Int.neg_mul_neg]
 rw [←DV_mul,h]
 unfold W
 rw [D_mul]
 unfold DV D
 rw [Rat.intCast_natCast]
theorem quo_q {m n:Nat} (hm:m≠0) (hn:n≠0) (h:54+n.log2≥m.log2):2^53≤m*2^quoK m n/n:=by
 have hk:quoK m n=54+n.log2-m.log2:=rfl
 rw [Nat.le_div_iff_mul_le (Nat.pos_of_ne_zero hn)]
 have h1:=Nat.mul_le_mul_right (2^quoK m n) (Nat.log2_self_le hm)
 rw [←Nat.pow_add] at h1
 have h2:2^53*n≤2^53*2^(n.log2+1):=Nat.mul_le_mul_left _ (Nat.le_of_lt Nat.lt_log2_self)
 rw [←Nat.pow_add] at h2
 rw [show m.log2+quoK m n=53+(n.log2+1) by rw [hk]; omega] at h1
 exact Nat.le_trans h2 h1
theorem quo_val {m n:Nat} (hm:m≠0) (hn:n≠0) (hm2:m<9007199254740992) (i j:Int) :
  D (quoN m n (quoK m n)) (i-j-quoK m n-1)*D n j≤D m i+D m i*(1/18014398509481984)∧D m i≤D (quoN m n (quoK m n)) (i-j-quoK m n-1)*D n j+D m i*(1/18014398509481984):=by
 have hlm:m.log2≤52:=by have:=(Nat.log2_lt hm).2 (show m<2^53 from hm2); omega
 have hq:=quo_q hm hn (by omega)
 generalize hK:quoK m n=K at *
 have h1:=Nat.div_add_mod (m*2^K) n
 have h2:=Nat.mod_lt (m*2^K) (Nat.pos_of_ne_zero hn)
 have key:quoN m n K*n≤2*(m*2^K)+n∧2*(m*2^K)≤quoN m n K*n+n∧18014398509481984*n≤2*(m*2^K):=by
  unfold quoN
  have h3:9007199254740992*n≤m*2^K/n*n:=Nat.mul_le_mul_right n hq
  rw [Nat.mul_comm n] at h1
  generalize m*2^K=M at *
  have e1:(2*(M/n)+(decide (M%n≠0)).toNat)*n=2*(M/n*n)+(decide (M%n≠0)).toNat*n:=by rw [Nat.add_mul,Nat.mul_assoc]
  rw [e1]
  generalize M/n*n=qn at *
  by_cases hr:M%n=0
  ·simp only [hr,ne_eq,not_true_eq_false,decide_false,Bool.toNat_false,Nat.zero_mul]; omega
  ·simp only [hr,ne_eq,not_false_eq_true,decide_true,Bool.toNat_true,Nat.one_mul]; omega
 obtain ⟨k1,k2,k3⟩:=key
 have hM:((2*(m*2^K):Nat):Rat)*P2 (i-K-1)=D m i:=by
  have e:=D_scale m i (K+1)
  rw [show m*2^(K+1)=2*(m*2^K) by rw [Nat.pow_succ,←Nat.mul_assoc,Nat.mul_comm],show i-((K+1:Nat):Int)=i-K-1 by omega] at e
  exact e
 have hQ:D (quoN m n K) (i-j-K-1)*D n j=((quoN m n K*n:Nat):Rat)*P2 (i-K-1):=by
  rw [D_mul]; unfold D; exact congrArg _ (congrArg P2 (by omega))
 have r1:((quoN m n K*n:Nat):Rat)≤((2*(m*2^K)+n:Nat):Rat):=Rat.natCast_le_natCast.2 k1
 have r2:((2*(m*2^K):Nat):Rat)≤((quoN m n K*n+n:Nat):Rat):=Rat.natCast_le_natCast.2 k2
 have r3:((18014398509481984*n:Nat):Rat)≤((2*(m*2^K):Nat):Rat):=Rat.natCast_le_natCast.2 k3
 rw [Rat.natCast_add] at r1 r2
 rw [Rat.natCast_mul 18014398509481984 n,show ((18014398509481984:Nat):Rat)=18014398509481984 from rfl] at r3
 rw [hQ,←hM]
 generalize ((quoN m n K*n:Nat):Rat)=z at *
 generalize ((2*(m*2^K):Nat):Rat)=y at *
 generalize (n:Rat)=w at *
 have hP:=Rat.le_of_lt (P2_pos (i-K-1))
 have s1:z≤y+y*(1/18014398509481984):=by grind
 have s2:y≤z+y*(1/18014398509481984):=by grind
 have t1:=Rat.mul_le_mul_of_nonneg_right s1 hP
 have t2:=Rat.mul_le_mul_of_nonneg_right s2 hP
 constructor<;>grind
theorem div_err {a b:Nat} (ha:a<18446744073709551616) (hb:b<18446744073709551616) (fa:fPow a≠2047) (fb:fPow b≠2047) (h0:fMag b≠0) (h1:W a≤4*W b) (hb1:W b≤16) :
  fPow (divV a b)≠2047∧(fMag a≠0→fNeg (divV a b)=(fNeg a != fNeg b))∧(fMag a=0→W (divV a b)=0) ∧
  W (divV a b)*W b≤W a+W a*(2*(1/9007199254740992))+16*P2 (-1075)∧W a≤W (divV a b)*W b+W a*(2*(1/9007199254740992))+16*P2 (-1075):=by
 obtain ⟨n1,n2⟩:=eta_small
 have hWa:=W_nonneg a
 have hWb:=W_nonneg b
 have zb:¬zeroB b:=fun h=>h0 h.1
 by_cases hz:fMag a=0
 ·have za:zeroB a:=(zeroB_mag fa).2 hz
  have hv:divV a b=sgn (fNeg a != fNeg b) 0:=by
   unfold divV
   rw [if_neg (by simp [fin_nan fa,fin_nan fb]),if_neg (fin_inf fa),if_neg (fin_inf fb),if_neg zb,if_pos za]
  have hm:fMag (divV a b)=0:=by rw [hv]; cases (fNeg a != fNeg b)<;>decide
  have hp:fPow (divV a b)≠2047:=by rw [hv]; cases (fNeg a != fNeg b)<;>decide
  rw [W_zero_of hm,W_zero_of hz]
  exact ⟨hp,fun h=>absurd hz h,fun _=>rfl,by grind,by grind⟩
 ·have za:¬zeroB a:=fun h=>hz h.1
  have hv:divV a b=nearV (fNeg a != fNeg b) (quoN (fMag a) (fMag b) (quoK (fMag a) (fMag b))) (fPl a-fPl b-quoK (fMag a) (fMag b)-1):=by
   unfold divV
   rw [if_neg (by simp [fin_nan fa,fin_nan fb]),if_neg (fin_inf fa),if_neg (fin_inf fb),if_neg zb,if_neg za]
  obtain ⟨q1,q2⟩:=quo_val hz h0 (fMag_lt a) (fPl a) (fPl b)
  rw [show D (fMag a) (fPl a)=W a from rfl,show D (fMag b) (fPl b)=W b from rfl] at q1 q2
  generalize hN:quoN (fMag a) (fMag b) (quoK (fMag a) (fMag b))=N at *
  generalize hE:fPl a-fPl b-quoK (fMag a) (fMag b)-1=E at *
  have hbpos:0<W b:=Rat.mul_pos (by have:0<fMag b:=Nat.pos_of_ne_zero h0; exact Rat.natCast_pos.2 this) (P2_pos _)
  have hD5:D N E≤5:=by
   have:D N E*W b≤5*W b:=by grind
   exact Rat.le_of_mul_le_mul_right this hbpos
  have hf:nearR N E<infR:=near_fin (by
   have h8:(8:Rat)=P2 ((3:Nat):Int):=by rw [P2_nat]; rfl
   have:D N E≤P2 ((3:Nat):Int):=by rw [←h8]; grind
   exact Rat.le_trans this (P2_mono (by omega)))
  obtain ⟨g1,g2⟩:=near_err' hf
  have hWn:W (divV a b)=W (nearR N E):=by rw [hv,←W_abs,absV_near]
  refine ⟨by rw [hv]; exact fin_near hf,fun _=>by rw [hv]; exact word_neg _ _ _,fun h=>absurd h hz,?_,?_⟩
  ·rw [hWn]
   have m1:=Rat.mul_le_mul_of_nonneg_right g1 hWb
   have m2:P2 (-1075)*W b≤P2 (-1075)*16:=Rat.mul_le_mul_of_nonneg_left hb1 n1
   grind
  ·rw [hWn]
   have m1:=Rat.mul_le_mul_of_nonneg_right g2 hWb
   have m2:P2 (-1075)*W b≤P2 (-1075)*16:=Rat.mul_le_mul_of_nonneg_left hb1 n1
   grind
theorem err_sqC {a T η:Rat} (ha:0≤a) (ha2:a≤1000) (hT:0≤T) (hη:0≤η) (hη1:η≤1/1000000) (h1:T≤a+a*(2*(1/9007199254740992))+η) (h2:a≤T+a*(2*(1/9007199254740992))+η) :
  T*T≤a*a+5*(1/9007199254740992)*(a*a)+5000*η∧a*a≤T*T+5*(1/9007199254740992)*(a*a)+5000*η:=by
 have e1:a*η≤1000*η:=Rat.mul_le_mul_of_nonneg_right ha2 hη
 have e0:0≤a*η:=Rat.mul_nonneg ha hη
 have e2:η*η≤η:=by
  have:=Rat.mul_le_mul_of_nonneg_right hη1 hη
  grind
 have e3:=Rat.mul_nonneg hη hη
 have e4:=Rat.mul_nonneg ha ha
 constructor
 ·have:=rat_sq_le hT h1
  grind
 ·have e5:a*T≤a*(a+a*(2*(1/9007199254740992))+η):=Rat.mul_le_mul_of_nonneg_left h1 ha
  have e6:a*a≤a*(T+a*(2*(1/9007199254740992))+η):=Rat.mul_le_mul_of_nonneg_left h2 ha
  have e7:T*a≤T*(T+a*(2*(1/9007199254740992))+η):=Rat.mul_le_mul_of_nonneg_left h2 hT
  have e8:T*η≤(a+a*(2*(1/9007199254740992))+η)*η:=Rat.mul_le_mul_of_nonneg_right h1 hη
  grind
def sv (b:Nat):Rat:=DV (sx b) (fPl b)
theorem sv_pos {b:Nat} (h:fNeg b=false):sv b=W b:=DV_sx h
theorem sv_neg {b:Nat} (h:fNeg b=true):sv b = -W b:=by
 unfold sv DV sx sg W D; rw [h]; simp only [if_true]; rw [Rat.intCast_neg,Rat.intCast_natCast]; grind
theorem sv_zero {b:Nat} (h:fMag b=0):sv b=0:=by
 cases hn:fNeg b
 ·rw [sv_pos hn,W_zero_of h]
 ·rw [sv_neg hn,W_zero_of h]; grind
theorem sv_minus {b:Nat} (hb:b<18446744073709551616):sv (fMinus b) = -sv b:=by
 obtain ⟨m1,m2,m3,m4⟩:=minus_neg hb
 have hW:W (fMinus b)=W b:=by unfold W fMag fPl; rw [m2,m3]
 cases hn:fNeg b
 ·rw [hn] at m1; rw [sv_neg m1,sv_pos hn,hW]
 ·rw [hn] at m1; rw [sv_pos m1,sv_neg hn,hW]; grind
def sumP (p:Nat→Rat):Nat→Rat
 | 0=>0
 | n+1=>sumP p n+p n
theorem W_one:W 4607182418800017408=1:=by
 unfold W D
 rw [show fMag 4607182418800017408=2^52 from by decide,show fPl 4607182418800017408 = -52 from by decide,←P2_nat,←P2_add,show ((52:Nat):Int) + -52=0 by omega,P2_zero]
theorem sv_cases (b:Nat):(fNeg b=false∧sv b=W b)∨(fNeg b=true∧sv b = -W b):=by
 cases h:fNeg b
 ·exact .inl ⟨rfl,sv_pos h⟩
 ·exact .inr ⟨rfl,sv_neg h⟩
theorem sv_of {b:Nat} {s:Bool} (h:fNeg b=s):sv b=if s then -W b else W b:=by
 cases s
 ·exact sv_pos h
 ·exact sv_neg h
theorem sv_one:sv 4607182418800017408=1:=by rw [sv_pos (by decide),W_one]
def ps (i c k:Nat):Nat:=i*c+k
theorem ps_lt {i c k r:Nat} (hi:i<r) (hk:k<c):ps i c k<r*c:=by
 unfold ps
 have h1:(i+1)*c≤r*c:=Nat.mul_le_mul_right c hi
 rw [Nat.add_mul,Nat.one_mul] at h1
 omega
theorem ps_inj {i c k i' k':Nat} (hk:k<c) (hk':k'<c) (h:ps i c k=ps i' c k'):i=i'∧k=k':=by
 unfold ps at h
 have h1:(i*c+k)/c=i:=by rw [Nat.mul_comm,Nat.mul_add_div (by omega),Nat.div_eq_of_lt hk,Nat.add_zero]
 have h2:(i'*c+k')/c=i':=by rw [Nat.mul_comm,Nat.mul_add_div (by omega),Nat.div_eq_of_lt hk',Nat.add_zero]
 have h3:i=i':=by rw [←h1,←h2,h]
 subst h3
 exact ⟨rfl,by omega⟩
theorem pos_i {i c k:Nat} (hi:i<100) (hc:c≤100) (hk:k≤100):(B.add .i64).den ((B.mul .i64).den (Vi i) (Vi c)) (Vi k)=Vi (ps i c k):=by
 have h1:i*c≤100*100:=Nat.mul_le_mul (by omega) hc
 have h2:(i:Int)*c=((i*c:Nat):Int):=by rw [Int.natCast_mul]
 rw [mul_i (by rw [h2]; omega) (by rw [h2]; omega),h2,add_i (by omega) (by omega)]
 unfold ps
 exact congrArg Vi (by omega)
structure Mx (r c:Nat) (x:List Nat):Prop where
 hr:r≤6
 hc:c≤6
 len:x.length=r*c
 w:Words x
theorem Mx.lt {r c:Nat} {x:List Nat} (h:Mx r c x) {i k:Nat} (hi:i<r) (hk:k<c):ps i c k<x.length:=by rw [h.len]; exact ps_lt hi hk
theorem Mx.small {r c:Nat} {x:List Nat} (h:Mx r c x):x.length≤36:=by
 rw [h.len]; exact Nat.mul_le_mul h.hr h.hc
theorem Mx.set {r c:Nat} {x:List Nat} (h:Mx r c x) {p v:Nat} (hv:v<18446744073709551616):Mx r c (x.set p v):=⟨h.hr,h.hc,by rw [List.length_set,h.len],h.w.set hv⟩
def rightP (R C:Int) (x:List Nat):Prop:=0≤R∧R≤6∧0≤C∧C≤6∧(x.length:Int)=R*C
instance (R C:Int) (x:List Nat):Decidable (rightP R C x):=by unfold rightP; exact inferInstance
theorem mx_right {r c:Nat} {x:List Nat} (h:Mx r c x):rightP r c x :=
 ⟨by omega,by have:=h.hr; omega,by omega,by have:=h.hc; omega,by rw [h.len,Int.natCast_mul]⟩
theorem size_ok (n:Int):val 259 [Vi n]=some [Vb (decide (0≤n∧n≤6))]:=by
 refine val_of tab259 ?_
 simp [tr259,TT.dv]
theorem small_mul {R C:Int} (h1:0≤R∧R≤6) (h2:0≤C∧C≤6):(B.mul .i64).den (Vi R) (Vi C)=Vi (R*C):=by
 have h3:R*C≤6*6:=Int.mul_le_mul h1.2 h2.2 h2.1 (by omega)
 have h4:0≤R*C:=Int.mul_nonneg h1.1 h2.1
 exact mul_i (by omega) (by omega)
theorem check_ok (R C:Int) (x:List Nat):val 246 [Vi R,Vi C,Vl x]=some [Vi (if rightP R C x then 0 else 1)]:=by
 refine val_of tab246 ?_
 have s1:=size_ok R
 have s2:=size_ok C
 by_cases h1:0≤R∧R≤6
 ·rw [decide_eq_true h1] at s1
  by_cases h2:0≤C∧C≤6
  ·rw [decide_eq_true h2] at s2
   have hm:=small_mul h1 h2
   by_cases h3:(x.length:Int)=R*C
   ·rw [if_pos (show rightP R C x from ⟨h1.1,h1.2,h2.1,h2.2,h3⟩)]
    simp [tr246,TT.dv,s1,s2,hm,h3]
   ·rw [if_neg (show ¬rightP R C x from fun h=>h3 h.2.2.2.2)]
    simp [tr246,TT.dv,s1,s2,hm,h3]
  ·rw [decide_eq_false h2] at s2
   rw [if_neg (show ¬rightP R C x from fun h=>h2 ⟨h.2.2.1,h.2.2.2.1⟩)]
   simp [tr246,TT.dv,s1,s2]
 ·rw [decide_eq_false h1] at s1
  rw [if_neg (show ¬rightP R C x from fun h=>h1 ⟨h.1,h.2.1⟩)]
  simp [tr246,TT.dv,s1]
section
variable {r c:Nat} {x:List Nat} (h:Mx r c x)
include h
theorem at_ok {i k:Nat} (hi:i<r) (hk:k<c):val 166 [Vi r,Vi c,Vl x,Vi i,Vi k]=some [Vu (el x (ps i c k))]:=by
 refine val_of tab166 ?_
 have h1:=h.hr
 have h2:=h.hc
 have e1:=pos_i (i:=i) (c:=c) (k:=k) (by omega) (by omega) (by omega)
 have hl:=h.lt hi hk
 simp [tr166,TT.dv,e1,hl,get_V hl]
theorem get_ok {i k:Nat} (hi:i<r) (hk:k<c):val 257 [Vi r,Vi c,Vl x,Vi i,Vi k]=some [Vu (el x (ps i c k))]:=by
 refine val_of tab257 ?_
 have h1:=h.hr
 have h2:=h.hc
 have e1:=pos_i (i:=i) (c:=c) (k:=k) (by omega) (by omega) (by omega)
 have hl:=h.lt hi hk
 simp [tr257,TT.dv,e1,hl,get_V hl]
end
theorem rep_V (n a:Nat):B.rep.den (Vi n) (Vu a)=Vl (List.replicate n a):=by
 show PV.l (List.replicate (Vi n).int.toNat (Vu a))=_
 rw [int_I,Int.toNat_natCast,Vl,List.map_replicate]
theorem zeros_ok {r c:Nat} (hr:r≤6) (hc:c≤6):val 177 [Vi r,Vi c]=some [Vi r,Vi c,Vl (List.replicate (r*c) 0)]:=by
 refine val_of tab177 ?_
 have h1:=small_mul (R:=r) (C:=c) (by omega) (by omega)
 have h2:r*c≤36:=Nat.mul_le_mul hr hc
 rw [←Int.natCast_mul] at h1
 generalize r*c=n at *
 simp [tr177,TT.dv,h1,rep_V,show (n:Int)≤17592186044416 by omega]
theorem zeros_mx {r c:Nat} (hr:r≤6) (hc:c≤6):Mx r c (List.replicate (r*c) 0):=⟨hr,hc,by simp,fun a ha=>by rw [(List.mem_replicate.1 ha).2]; decide⟩
def matL (g:Nat→Nat→Nat) (r c:Nat):List Nat:=(List.range r).flatMap fun i=>mk (g i) c
theorem matL_succ (g:Nat→Nat→Nat) (r c:Nat):matL g r c++mk (g r) c=matL g (r+1) c:=by
 unfold matL; rw [List.range_succ,List.flatMap_append]; simp
theorem matL_len (g:Nat→Nat→Nat) (r c:Nat):(matL g r c).length=r*c:=by
 induction r with
 | zero=>simp [matL]
 | succ r ih=>rw [←matL_succ,List.length_append,ih,mk_len,Nat.add_mul,Nat.one_mul]
theorem el_app {x y:List Nat} (i:Nat):el (x++y) i=if i<x.length then el x i else el y (i-x.length):=by
 unfold el
 rw [List.getD_eq_getElem?_getD,List.getD_eq_getElem?_getD,List.getD_eq_getElem?_getD]
 by_cases h:i<x.length
 ·rw [if_pos h,List.getElem?_append_left h]
 ·rw [if_neg h,List.getElem?_append_right (by omega)]
theorem el_matL (g:Nat→Nat→Nat) {c:Nat}:∀{r i k:Nat},i<r→k<c→el (matL g r c) (ps i c k)=g i k:=by
 intro r
 induction r with
 | zero=>intro i k hi; omega
 | succ r ih =>
  intro i k hi hk
  rw [←matL_succ,el_app,matL_len]
  by_cases h:i<r
  ·rw [if_pos (ps_lt h hk)]; exact ih h hk
  ·have:i=r:=by omega
   subst this
   unfold ps
   rw [if_neg (by omega),Nat.add_sub_cancel_left]
   unfold el mk
   rw [List.getD_eq_getElem?_getD,List.getElem?_map,List.getElem?_range hk]; rfl
theorem mat_ext {x y:List Nat} {r c:Nat} (hx:x.length=r*c) (hy:y.length=r*c) (h:∀i k,i<r→k<c→el x (ps i c k)=el y (ps i c k)):x=y:=by
 refine List.ext_getElem (by omega) fun t h1 h2 => ?_
 have hc:0<c:=by
  rcases Nat.eq_zero_or_pos c with h0 | h0
  ·subst h0; omega
  ·exact h0
 have ht:t=ps (t/c) c (t%c):=by unfold ps; rw [Nat.mul_comm]; exact (Nat.div_add_mod t c).symm
 have:=h (t/c) (t%c) (by rw [Nat.div_lt_iff_lt_mul hc]; omega) (Nat.mod_lt _ hc)
 rw [←ht] at this
 unfold el at this
 rw [List.getD_eq_getElem?_getD,List.getD_eq_getElem?_getD,List.getElem?_eq_getElem h1,List.getElem?_eq_getElem h2] at this
 exact this
theorem matL_mx {g:Nat→Nat→Nat} {r c:Nat} (hr:r≤6) (hc:c≤6) (h:∀i k,i<r→k<c→g i k<18446744073709551616):Mx r c (matL g r c):=by
 refine ⟨hr,hc,matL_len g r c,fun a ha => ?_⟩
 unfold matL at ha
 obtain ⟨i,hi,h1⟩:=List.mem_flatMap.1 ha
 obtain ⟨k,hk,rfl⟩:=List.mem_map.1 h1
 exact h i k (by simpa using hi) (by simpa using hk)
section
variable {f r c:Nat} {caps:List PV} {g:Nat→Nat→Nat} (hr:r≤6) (hc:c≤6) (h:∀i k:Nat,i<r→k<c→val f (Vi i::Vi k::caps)=some [Vu (g i k)])
include hr hc h
theorem of_inner {x4:PV} {acc:List Nat} (ha:acc.length≤1000) {i:Nat} (hi:i<r):∀(n:Nat) {k:Nat},k+n=c →
  rounds (fun vs=>lo258_2.dv (Vi r::Vi c::fnP f caps::Vi i::x4::vs)) [Vi k,Vl (acc++mk (g i) k)]=some (.y (.ext 2) [Vl (acc++mk (g i) c)]):=by
 intro n
 induction n with
 | zero =>
  intro k hk
  have:k=c:=by omega
  subst this
  refine rounds_exit ?_ (by simp)
  simp [lo258_2,TT.dv]
 | succ n ih =>
  intro k hk
  refine Eq.trans (rounds_cont ?_) (ih (k:=k+1) (by omega))
  have e1:(B.add .i64).den (Vi k) (Vi 1)=Vi (k+1):=add_i (by omega) (by omega)
  have h1:=h i k hi (by omega)
  have a1:=app_V (acc++mk (g i) k) (g i k)
  rw [List.append_assoc,mk_succ] at a1
  have l2:((acc.length:Int)+(k+1))≤17592186044416:=by omega
  simp [lo258_2,TT.dv,fnP,show k<c by omega,h1,e1,a1,l2]
theorem of_outer:∀(n:Nat) {i:Nat},i+n=r →
  rounds (fun vs=>lo258_1.dv (Vi r::Vi c::fnP f caps::vs)) [Vi i,Vl (matL g i c)]=some (.y (.ext 0) [Vl (matL g r c)]):=by
 intro n
 induction n with
 | zero =>
  intro i hi
  have:i=r:=by omega
  subst this
  refine rounds_exit ?_ (by simp)
  simp [lo258_1,TT.dv]
 | succ n ih =>
  intro i hi
  refine Eq.trans (rounds_cont ?_) (ih (i:=i+1) (by omega))
  have e1:(B.add .i64).den (Vi i) (Vi 1)=Vi (i+1):=add_i (by omega) (by omega)
  have hl:(matL g i c).length≤1000:=by
   rw [matL_len]
   have:i*c≤6*6:=Nat.mul_le_mul (by omega) hc
   omega
  have hin:=of_inner hr hc h (x4:=Vl (matL g i c)) hl (i:=i) (by omega) c (k:=0) (by omega)
  rw [show ((0:Nat):Int)=0 from rfl,show mk (g i) 0=[] from rfl,List.append_nil,matL_succ] at hin
  simp [lo258_1,TT.dv,KS.dv,show i<r by omega,hin,e1]
theorem mof_ok:val 258 [Vi r,Vi c,fnP f caps]=some [Vi r,Vi c,Vl (matL g r c)]:=by
 refine val_of tab258 ?_
 have hlp:=of_outer hr hc h r (i:=0) (by omega)
 rw [show ((0:Nat):Int)=0 from rfl,show matL g 0 c=[] from rfl] at hlp
 simp [tr258,TT.dv,KS.dv,hlp]
end
theorem el_set (x:List Nat) (p v q:Nat):el (x.set p v) q=if p=q∧p<x.length then v else el x q:=by
 unfold el
 rw [List.getD_eq_getElem?_getD,List.getD_eq_getElem?_getD,List.getElem?_set]
 by_cases h:p=q
 ·subst h
  by_cases h2:p<x.length
  ·simp [h2]
  ·simp [h2,List.getElem?_eq_none (show x.length≤p by omega)]
 ·simp [h]
section
end
section
end
section
end
def colG (x:List Nat) (c k from_:Nat) (j:Nat):Nat:=el x (ps (from_+j) c k)
def colL (r c:Nat) (x:List Nat) (k from_:Nat):List Nat:=mk (colG x c k from_) (r-from_)
theorem colL_words {r c:Nat} {x:List Nat} (h:Mx r c x) (k from_:Nat):Words (colL r c x k from_):=mk_words fun _ _=>h.w.el _
@[simp] theorem colL_len (r c:Nat) (x:List Nat) (k from_:Nat):(colL r c x k from_).length=r-from_:=mk_len _ _
theorem el_colL {r c:Nat} {x:List Nat} {k f j:Nat} (h:j<r-f):el (colL r c x k f) j=el x (ps (f+j) c k):=by
 unfold colL; rw [show el (mk (colG x c k f) (r-f)) j=colG x c k f j from by
  unfold el mk; rw [List.getD_eq_getElem?_getD,List.getElem?_map,List.getElem?_range h]; rfl]; rfl
section
variable {r c:Nat} {x:List Nat} (h:Mx r c x) {k f:Nat} (hk:k<c) (hf:f≤r)
include h hk hf
theorem column_ok:val 247 [Vi r,Vi c,Vl x,Vi k,Vi f]=some [Vl (colL r c x k f)]:=by
 have hr:=h.hr
 have lp:∀(n:Nat) {j:Nat},j+n=r-f →
   rounds (fun vs=>lo247_1.dv (Vi r::Vi c::Vl x::Vi k::Vi f::vs)) [Vi ((f+j:Nat):Int),Vl (mk (colG x c k f) j)]=some (.y (.ext 0) [Vl (colL r c x k f)]):=by
  intro n
  induction n with
  | zero =>
   intro j hj
   have:j=r-f:=by omega
   subst this
   refine rounds_exit ?_ (by simp)
   have e:¬(((f+(r-f):Nat):Int)<(r:Int)):=by omega
   generalize ((f+(r-f):Nat):Int)=z at *
   simp [lo247_1,TT.dv,e,colL]
  | succ n ih =>
   intro j hj
   refine Eq.trans (rounds_cont ?_) (ih (j:=j+1) (by omega))
   have e1:(B.add .i64).den (Vi ((f+j:Nat):Int)) (Vi 1)=Vi ((f+(j+1):Nat):Int):=by rw [add_i (by omega) (by omega)]; exact congrArg Vi (by omega)
   have g1:=get_ok h (i:=f+j) (k:=k) (by omega) hk
   have a1:=app_V (mk (colG x c k f) j) (colG x c k f j)
   rw [mk_succ] at a1
   have e2:((f+j:Nat):Int)<(r:Int):=by omega
   have e3:((j:Int)+1)≤17592186044416:=by omega
   unfold colG at a1 ⊢
   generalize ((f+j:Nat):Int)=z at *
   generalize ((f+(j+1):Nat):Int)=z' at *
   simp [lo247_1,TT.dv,e1,e2,g1,a1,e3]
 refine val_of tab247 ?_
 have h0:=lp (r-f) (j:=0) (by omega)
 rw [Nat.add_zero,show mk (colG x c k f) 0=[] from rfl] at h0
 simp [tr247,TT.dv,KS.dv,h0]
end
theorem take_V (x:List Nat) (n:Nat):B.take.den (Vl x) (Vi n)=Vl (x.take n):=by
 rw [Vl,take_l _ rfl,Vl,List.map_take]
theorem el_take {x:List Nat} {n j:Nat} (h:j<n):el (x.take n) j=el x j:=by
 unfold el
 rw [List.getD_eq_getElem?_getD,List.getD_eq_getElem?_getD,List.getElem?_take,if_pos h]
theorem Words.take {x:List Nat} (h:Words x) (n:Nat):Words (x.take n):=fun a ha=>h a (List.mem_of_mem_take ha)
def apI (cl v:List Nat) (t i c cc:Nat):Nat→Nat→List Nat→List Nat
 | 0,_,m=>m
 | n+1,j,m=>apI cl v t i c cc n (j+1) (m.set (ps (i+j) c cc) (subV (el cl j) (mulV t (el v j))))
def apT (r c:Nat) (x v:List Nat) (tau i cc:Nat):Nat:=mulV tau (dotV v ((colL r c x cc i).take v.length))
def apO (r c:Nat) (x v:List Nat) (tau i:Nat):Nat→Nat→List Nat→List Nat
 | 0,_,m=>m
 | n+1,cc,m=>apO r c x v tau i n (cc+1) (apI (colL r c x cc i) v (apT r c x v tau i cc) i c cc v.length 0 m)
def apV (r c:Nat) (x:List Nat) (i k:Nat) (v:List Nat) (tau:Nat):List Nat:=apO r c x v tau i (c-k) k x
theorem apI_mx {r c:Nat} {cl v:List Nat} {t i cc:Nat} (hc:Words cl):∀(n j:Nat) {m:List Nat},Mx r c m→Mx r c (apI cl v t i c cc n j m)
 | 0,_,_,h=>h
 | n+1,j,m,h=>apI_mx hc n (j+1) (h.set (subV_lt (hc.el j) mulV_lt))
theorem apO_mx {r c:Nat} {x v:List Nat} {tau i:Nat} (hx:Mx r c x):∀(n cc:Nat) {m:List Nat},Mx r c m→Mx r c (apO r c x v tau i n cc m)
 | 0,_,_,h=>h
 | n+1,cc,m,h=>apO_mx hx n (cc+1) (apI_mx (colL_words hx cc i) _ _ h)
section
variable {r c:Nat} {x:List Nat} (h:Mx r c x) {v:List Nat} (hv:Words v) {tau:Nat} (ht:tau<18446744073709551616) {i:Nat} (hi:i+v.length≤r)
include h hv ht hi
theorem ap_inner {cc:Nat} (hcc:cc<c) {x3 x4 x7 x9 x11 x12:PV} {t:Nat} (htt:t<18446744073709551616):∀(n:Nat) {j:Nat} {m:List Nat},j+n=v.length→Mx r c m →
  rounds (fun vs=>lo238_2.dv (Vi r::Vi c::Vl x::Vi i::x4::Vl v::Vu tau::x7::Vi cc::x9::Vl (colL r c x cc i)::x11::x12::Vu t::vs)) [Vi j,Vl m]=some (.y (.ext 2) [Vl (apI (colL r c x cc i) v t i c cc n j m)]):=by
 intro n
 have hr:=h.hr
 have hc:=h.hc
 have htl:((colL r c x cc i).take v.length).length=v.length:=by rw [List.length_take,colL_len]; omega
 induction n with
 | zero =>
  intro j m hj hm
  have:j=v.length:=by omega
  subst this
  refine rounds_exit ?_ (by simp)
  simp [lo238_2,TT.dv,take_V,htl,apI]
 | succ n ih =>
  intro j m hj hm
  have hjl:j<v.length:=by omega
  refine Eq.trans (rounds_cont ?_) (ih (j:=j+1) (by omega) (hm.set (subV_lt ((colL_words h cc i).el j) (mulV_lt (a:=t) (b:=el v j)))))
  have e1:(B.add .i64).den (Vi j) (Vi 1)=Vi (j+1):=add_i (by omega) (by omega)
  have e2:(B.add .i64).den (Vi i) (Vi j)=Vi ((i+j:Nat):Int):=by rw [add_i (by omega) (by omega)]; exact congrArg Vi (by omega)
  have p1:=pos_i (i:=i+j) (c:=c) (k:=cc) (by omega) (by omega) (by omega)
  have l1:=hm.lt (show i+j<r by omega) hcc
  have g1:=get_V (x:=v) hjl
  have g2:=get_V (x:=(colL r c x cc i).take v.length) (i:=j) (by rw [htl]; exact hjl)
  rw [el_take hjl] at g2
  have m1:=vmul_ok htt (hv.el j)
  have s1:=vsub_ok ((colL_words h cc i).el j) (mulV_lt (a:=t) (b:=el v j))
  generalize ((i+j:Nat):Int)=z at *
  simp [lo238_2,TT.dv,take_V,htl,hjl,e1,e2,p1,l1,g1,g2,m1,s1,set_V]
theorem ap_outer {k:Nat} {x7:PV}:∀(n:Nat) {cc:Nat} {m:List Nat},cc+n=c→Mx r c m →
  rounds (fun vs=>lo238_1.dv (Vi r::Vi c::Vl x::Vi i::Vi k::Vl v::Vu tau::x7::vs)) [Vi cc,Vl m]=some (.y (.ext 0) [Vl (apO r c x v tau i n cc m)]):=by
 intro n
 have hr:=h.hr
 have hc:=h.hc
 induction n with
 | zero =>
  intro cc m hcc hm
  have:cc=c:=by omega
  subst this
  refine rounds_exit ?_ (by simp)
  simp [lo238_1,TT.dv,apO]
 | succ n ih =>
  intro cc m hcc hm
  have hlt:cc<c:=by omega
  have hcl:=colL_words h cc i
  refine Eq.trans (rounds_cont ?_) (ih (cc:=cc+1) (by omega) (apI_mx (v:=v) (t:=apT r c x v tau i cc) (i:=i) (cc:=cc) hcl v.length 0 hm))
  have e1:(B.add .i64).den (Vi cc) (Vi 1)=Vi (cc+1):=add_i (by omega) (by omega)
  have c1:=column_ok h hlt (show i≤r by omega)
  have htl:((colL r c x cc i).take v.length).length=v.length:=by rw [List.length_take,colL_len]; omega
  have d1:=dot_ok hv (hcl.take v.length)
  rw [if_pos ⟨htl.symm,by omega⟩] at d1
  have m1:=vmul_ok ht (b:=dotV v ((colL r c x cc i).take v.length)) (dotR_lt _ (by decide))
  have hin:=fun x4 x7 x9 x11 x12=>ap_inner h hv ht hi hlt (x3:=x4) (x4:=x4) (x7:=x7) (x9:=x9) (x11:=x11) (x12:=x12) (t:=apT r c x v tau i cc) mulV_lt v.length (j:=0) (by omega) hm
  simp only [show ((0:Nat):Int)=0 from rfl] at hin
  rw [show mulV tau (dotV v ((colL r c x cc i).take v.length))=apT r c x v tau i cc from rfl] at m1
  have hle:v.length≤r-i:=by omega
  simp [lo238_1,TT.dv,KS.dv,hlt,e1,c1,take_V,d1,m1,hin,hle]
theorem apply_ok {k:Nat} (hk:k≤c):val 238 [Vi r,Vi c,Vl x,Vi i,Vi k,Vl v,Vu tau]=some [Vi r,Vi c,Vl (apV r c x i k v tau),Vi 0]:=by
 refine val_of tab238 ?_
 have hr:=h.hr
 have hc:=h.hc
 have h1:=check_ok r c x
 rw [if_pos (mx_right h)] at h1
 have hs:=h.small
 have hlp:=ap_outer h hv ht hi (k:=k) (x7:=Vi 0) (c-k) (cc:=k) (m:=x) (by omega) h
 have e1:(B.sub .i64).den (Vi r) (Vi v.length)=Vi ((r:Int)-v.length):=sub_i (by omega) (by omega)
 simp [tr238,TT.dv,KS.dv,h1,e1,show ¬(i:Int)<0 by omega,show ¬r<v.length by omega,show ¬((r:Int)-v.length<i) by omega,show ¬(k:Int)<0 by omega,show ¬c<k by omega,show (x.length:Int)≤17592186044416 by omega,hlp,apV]
theorem apV_mx {k:Nat}:Mx r c (apV r c x i k v tau):=apO_mx h _ _ h
end
theorem el_mk' {g:Nat→Nat} {n i:Nat} (h:i<n):el (mk g n) i=g i:=by
 unfold el mk
 rw [List.getD_eq_getElem?_getD,List.getElem?_map,List.getElem?_range h]; rfl
theorem normV_lt (x:List Nat) (hx:Words x):normV x<18446744073709551616:=by
 unfold normV
 split
 ·have:=bigV_lt x; omega
 ·exact scaleV_lt (sqrtV_lt (sqrR_lt _ (by decide))) _
def nou (x:List Nat):Nat→Nat→Bool
 | 0,_=>true
 | n+1,i=>decide (fKind (el x i)=0)&&nou x n (i+1)
theorem el_drop (x:List Nat) (n i:Nat):el (x.drop n) i=el x (n+i):=by
 unfold el; rw [List.getD_eq_getElem?_getD,List.getD_eq_getElem?_getD,List.getElem?_drop]
theorem nou_drop (x:List Nat):∀(n i:Nat),nou (x.drop 1) n i=nou x n (i+1)
 | 0,_=>rfl
 | n+1,i=>by unfold nou; rw [el_drop,Nat.add_comm 1 i,nou_drop x n (i+1)]
theorem nou_loop {x:List Nat} {x1:PV} (h64:x.length<9000000000000000000):∀(n:Nat) {i:Nat},i+n=x.length →
  rounds (fun vs=>lo243_1.dv (Vl x::vs)) [x1,Vi i]=some (if nou x n i then .y (.ext 0) [x1] else .y .ret []):=by
 intro n
 induction n with
 | zero =>
  intro i hi
  refine rounds_exit ?_ (by simp [nou])
  simp [lo243_1,TT.dv,show ¬i<x.length by omega,nou]
 | succ n ih =>
  intro i hi
  have g1:=get_V (x:=x) (i:=i) (by omega)
  have k1:=kind_ok (el x i)
  unfold nou
  by_cases c:fKind (el x i)=0
  ·rw [decide_eq_true c,Bool.true_and]
   have e1:(B.add .i64).den (Vi i) (Vi 1)=Vi (i+1):=add_i (by omega) (by omega)
   refine Eq.trans (rounds_cont ?_) (ih (i:=i+1) (by omega))
   simp [lo243_1,TT.dv,show i<x.length by omega,g1,k1,c,e1]
  ·rw [decide_eq_false c,Bool.false_and]
   refine rounds_exit ?_ (by simp)
   simp [lo243_1,TT.dv,show i<x.length by omega,g1,k1,c]
def nouV (x:List Nat):Bool:=nou x (x.length-1) 1
theorem drop_V (x:List Nat) (n:Nat):B.drop.den (Vl x) (Vi n)=Vl (x.drop n):=by
 rw [Vl,drop_l _ rfl,Vl,List.map_drop]
theorem drop_V1 (x:List Nat):B.drop.den (Vl x) (Vi 1)=Vl x.tail:=by have:=drop_V x 1; rwa [List.drop_one] at this
theorem noughts_ok {x:List Nat} (h1:1≤x.length) (h64:x.length<9000000000000000000):val 243 [Vl (x.drop 1)]=some [Vb (nouV x)]:=by
 refine val_of tab243 ?_
 have h:=nou_loop (x:=x.drop 1) (x1:=Vb false) (by simp; omega) (x.length-1) (i:=0) (by simp)
 rw [nou_drop,show ((0:Nat):Int)=0 from rfl] at h
 unfold nouV
 rw [Nat.zero_add] at h
 cases hc:nou x (x.length-1) 1<;>rw [hc] at h<;>simp [tr243,TT.dv,KS.dv]<;>simp at h<;>simp [h,KS.dv]
def leadI (x:List Nat):Nat→Nat→Option Nat
 | 0,_=>none
 | n+1,i=>if fKind (el x i)≠0 then some i else leadI x n (i+1)
theorem leadI_lt {x:List Nat}:∀{n i j:Nat},leadI x n i=some j→j<i+n
 | 0,_,_,h=>by simp [leadI] at h
 | n+1,i,j,h=>by
  unfold leadI at h
  split at h
  ·simp at h; omega
  ·have:=leadI_lt h; omega
theorem nou_lead {x:List Nat}:∀{n i:Nat},nou x n i=false→∃j,leadI x n i=some j
 | 0,_,h=>by simp [nou] at h
 | n+1,i,h=>by
  unfold nou at h
  unfold leadI
  by_cases c:fKind (el x i)=0
  ·rw [decide_eq_true c,Bool.true_and] at h
   rw [if_neg (by simp [c])]
   exact nou_lead h
  ·rw [if_pos c]; exact ⟨i,rfl⟩
theorem lead_some {x:List Nat} (h1:1≤x.length) (h:nouV x=false):∃j,leadI x x.length 0=some j∧j<x.length:=by
 unfold nouV at h
 obtain ⟨n,hn⟩:∃n,x.length=n+1:=⟨x.length-1,by omega⟩
 rw [hn] at h ⊢
 unfold leadI
 by_cases c:fKind (el x 0)≠0
 ·rw [if_pos c]; exact ⟨0,rfl,by omega⟩
 ·rw [if_neg c]
  obtain ⟨j,hj⟩:=nou_lead h
  have:=leadI_lt hj
  exact ⟨j,hj,by omega⟩
theorem lead_loop {x:List Nat} {x1:PV} (h64:x.length<9000000000000000000):∀(n:Nat) {i j:Nat},i+n=x.length→leadI x n i=some j →
  rounds (fun vs=>lo242_1.dv (Vl x::vs)) [x1,Vi i]=some (.y .ret [Vu (el x j)]):=by
 intro n
 induction n with
 | zero=>intro i j _ h; simp [leadI] at h
 | succ n ih =>
  intro i j hi hj
  have g1:=get_V (x:=x) (i:=i) (by omega)
  have k1:=kind_ok (el x i)
  unfold leadI at hj
  by_cases c:fKind (el x i)=0
  ·rw [if_neg (by simp [c])] at hj
   have e1:(B.add .i64).den (Vi i) (Vi 1)=Vi (i+1):=add_i (by omega) (by omega)
   refine Eq.trans (rounds_cont ?_) (ih (i:=i+1) (by omega) hj)
   simp [lo242_1,TT.dv,show i<x.length by omega,g1,k1,c,e1]
  ·rw [if_pos c] at hj
   simp at hj; subst hj
   refine rounds_exit ?_ (by simp)
   simp [lo242_1,TT.dv,show i<x.length by omega,g1,k1,c]
theorem vlead_ok {x:List Nat} {j:Nat} (h64:x.length<9000000000000000000) (hj:leadI x x.length 0=some j):val 242 [Vl x]=some [Vu (el x j)]:=by
 refine val_of tab242 ?_
 have h:=lead_loop (x1:=Vu 0) h64 x.length (i:=0) (by omega) hj
 rw [show ((0:Nat):Int)=0 from rfl] at h
 simp [tr242,TT.dv,KS.dv,h]
def rowG (g:Nat→Nat) (i:Nat):Nat:=if i=0 then 4607182418800017408 else g i
theorem mk_one (g:Nat→Nat):mk (rowG g) 1=[4607182418800017408]:=rfl
theorem row_ok {f n:Nat} {caps:List PV} (g:Nat→Nat) (h1:1≤n) (hn:n≤1000) (h:∀i:Nat,1≤i→i<n→val f (Vi i::caps)=some [Vu (g i)]):val 244 [Vi n,fnP f caps]=some [Vl (mk (rowG g) n)]:=by
 have lp:∀(k:Nat) {i:Nat},1≤i→i+k=n→rounds (fun vs=>lo244_1.dv (Vi n::fnP f caps::vs)) [Vi i,Vl (mk (rowG g) i)]=some (.y (.ext 0) [Vl (mk (rowG g) n)]):=by
  intro k
  induction k with
  | zero =>
   intro i hi1 hi
   have:i=n:=by omega
   subst this
   refine rounds_exit ?_ (by simp)
   simp [lo244_1,TT.dv]
  | succ k ih =>
   intro i hi1 hi
   refine Eq.trans (rounds_cont ?_) (ih (i:=i+1) (by omega) (by omega))
   have e1:(B.add .i64).den (Vi i) (Vi 1)=Vi (i+1):=add_i (by omega) (by omega)
   have h1:=h i hi1 (by omega)
   have a1:=app_V (mk (rowG g) i) (g i)
   have hg:rowG g i=g i:=by unfold rowG; rw [if_neg (by omega)]
   have a2:=mk_succ (rowG g) i
   rw [hg] at a2
   rw [a2] at a1
   have e2:(i:Int)+1≤17592186044416:=by omega
   simp [lo244_1,TT.dv,show i<n by omega,e1,fnP,h1,a1,e2]
 refine val_of tab244 ?_
 have h0:=lp (n-1) (i:=1) (Nat.le_refl _) (by omega)
 rw [show ((1:Nat):Int)=1 from rfl,mk_one] at h0
 have d1:=drop_V (mk (rowG g) n) 0
 rw [show ((0:Nat):Int)=0 from rfl,List.drop_zero] at d1
 have t1:=take_V (mk (rowG g) n) n
 rw [show (mk (rowG g) n).take n=mk (rowG g) n from List.take_of_length_le (by simp)] at t1
 simp [tr244,TT.dv,KS.dv,cons_V,h0,d1,t1]
def shG (x:List Nat) (k:Int) (i:Nat):Nat:=scaleV (el x i) k
def shV (x:List Nat) (k:Int):List Nat:=mk (shG x k) x.length
theorem shV_words {x:List Nat} (hx:Words x) (k:Int):Words (shV x k):=mk_words fun i _=>scaleV_lt (hx.el i) k
@[simp] theorem shV_len (x:List Nat) (k:Int):(shV x k).length=x.length:=mk_len _ _
theorem shifted_ok {x:List Nat} (k:Int) (hl:x.length≤1000):val 245 [Vl x,Vi k]=some [Vl (shV x k)]:=by
 have lp:∀(n:Nat) {i:Nat},i+n=x.length→rounds (fun vs=>lo245_1.dv (Vl x::Vi k::vs)) [Vi i,Vl (mk (shG x k) i)]=some (.y (.ext 0) [Vl (shV x k)]):=by
  intro n
  induction n with
  | zero =>
   intro i hi
   have:i=x.length:=by omega
   subst this
   refine rounds_exit ?_ (by simp)
   simp [lo245_1,TT.dv,shV]
  | succ n ih =>
   intro i hi
   refine Eq.trans (rounds_cont ?_) (ih (i:=i+1) (by omega))
   have e1:(B.add .i64).den (Vi i) (Vi 1)=Vi (i+1):=add_i (by omega) (by omega)
   have g1:=get_V (x:=x) (i:=i) (by omega)
   have s1:=vshift_ok (el x i) k
   have a1:=app_V (mk (shG x k) i) (shG x k i)
   rw [mk_succ] at a1
   unfold shG at a1 ⊢
   have e2:(i:Int)+1≤17592186044416:=by omega
   simp [lo245_1,TT.dv,show i<x.length by omega,e1,g1,s1,a1,e2]
 refine val_of tab245 ?_
 have h0:=lp x.length (i:=0) (by omega)
 rw [show ((0:Nat):Int)=0 from rfl,show mk (shG x k) 0=[] from rfl] at h0
 simp [tr245,TT.dv,KS.dv,h0]
def hK (x:List Nat):Int:=expB (bigV x)
def hY (x:List Nat):List Nat:=shV x (-hK x)
def hMu (x:List Nat):Nat:=if fNeg (el x ((leadI x x.length 0).getD 0)) then normV (hY x) else fMinus (normV (hY x))
def hBeta (x:List Nat):Nat:=scaleV (hMu x) (hK x)
def hD (x:List Nat):Nat:=subV (el (hY x) 0) (hMu x)
def hVG (x:List Nat) (i:Nat):Nat:=divV (el (hY x) i) (hD x)
def hTau (x:List Nat):Nat:=divV (subV (hMu x) (el (hY x) 0)) (hMu x)
def mkOk (x:List Nat):Bool:=nouV x || decide (fPow (hBeta x)≠2047)
def mkV (x:List Nat):List Nat:=if nouV x then mk (rowG fun _=>0) x.length else mk (rowG (hVG x)) x.length
def mkTau (x:List Nat):Nat:=if nouV x then 0 else hTau x
def mkBeta (x:List Nat):Nat:=if nouV x then el x 0 else hBeta x
section
variable {x:List Nat} (hx:Words x) (h1:1≤x.length) (h64:x.length≤64)
include hx h1 h64
theorem hY_words:Words (hY x):=shV_words hx _
theorem hMu_lt:hMu x<18446744073709551616:=by
 unfold hMu
 have h:=normV_lt (hY x) (hY_words hx h1 h64)
 split
 ·exact h
 ·exact (minus_neg h).2.2.2
theorem hBeta_lt:hBeta x<18446744073709551616:=scaleV_lt (hMu_lt hx h1 h64) _
theorem hD_lt:hD x<18446744073709551616:=subV_lt ((hY_words hx h1 h64).el 0) (hMu_lt hx h1 h64)
theorem mkV_words:Words (mkV x):=by
 unfold mkV
 split
 ·exact mk_words fun i _=>by unfold rowG; split; decide; simp
 ·exact mk_words fun i _=>by unfold rowG; split; decide; exact divV_lt
theorem mkV_len:(mkV x).length=x.length:=by unfold mkV; split<;>simp
theorem mkTau_lt:mkTau x<18446744073709551616:=by unfold mkTau; split; decide; exact divV_lt
theorem mkBeta_lt:mkBeta x<18446744073709551616:=by unfold mkBeta; split; exact hx.el 0; exact hBeta_lt hx h1 h64
theorem make_ok (hf:finV x=true):val 239 [Vl x]=some (if mkOk x then [Vl (mkV x),Vu (mkTau x),Vu (mkBeta x),Vi 0] else [Vl [],Vu 0,Vu 0,Vi 2]):=by
 refine val_of tab239 ?_
 have f1:=finite_v_ok hx (by omega)
 rw [hf] at f1
 have n1:=noughts_ok (x:=x) h1 (by omega)
 rw [List.drop_one] at n1
 have l0:¬x.length=0:=by omega
 have l64:¬(64:Int)<x.length:=by omega
 have l1:(1:Int)≤x.length:=by omega
 have l2:0<x.length:=by omega
 have g0:=get_V (x:=x) l2
 rw [show ((0:Nat):Int)=0 from rfl] at g0
 unfold mkOk mkV mkTau mkBeta
 cases hn:nouV x
 ·rw [hn] at n1
  have b1:=biggest_ok hx (by omega)
  have e1:=exp_ok (b:=bigV x)
  have hk:=expB_bd (bigV x)
  rw [show expB (bigV x)=hK x from rfl] at e1 hk
  have ng:(U.neg .i64).den (Vi (hK x))=Vi (-hK x):=neg_i (by omega) (by omega)
  have s1:=shifted_ok (x:=x) (-hK x) (by omega)
  rw [show shV x (-hK x)=hY x from rfl] at s1
  have hyl:(hY x).length=x.length:=shV_len _ _
  have hyw:=hY_words hx h1 h64
  have nm:=norm_v_ok hyw (by omega)
  rw [if_pos (by omega)] at nm
  obtain ⟨j,hj,hjl⟩:=lead_some h1 hn
  have ld:=vlead_ok (x:=x) (by omega) hj
  have sg:=sign_ok (el x j)
  have mn:=minus_ok (normV_lt (hY x) hyw)
  have hmu:hMu x=if fNeg (el x j) then normV (hY x) else fMinus (normV (hY x)):=by unfold hMu; rw [hj]; rfl
  have sh2:=vshift_ok (hMu x) (hK x)
  rw [show scaleV (hMu x) (hK x)=hBeta x from rfl] at sh2
  have fb:=finite_ok (hBeta x)
  have gy:=get_V (x:=hY x) (i:=0) (by omega)
  rw [show ((0:Nat):Int)=0 from rfl] at gy
  have ly:0<(hY x).length:=by omega
  have sb:=vsub_ok (hyw.el 0) (hMu_lt hx h1 h64)
  rw [show subV (el (hY x) 0) (hMu x)=hD x from rfl] at sb
  have rw1:=row_ok (f:=241) (n:=(hY x).length) (caps:=[.a [Vl (hY x)],.a [Vu (hD x)]]) (hVG x) (by omega) (by omega) fun i i1 i2=>by
   refine val_of tab241 ?_
   have g1:=get_V (x:=hY x) i2
   have d1:=vdiv_ok (hyw.el i) (hD_lt hx h1 h64)
   simp [tr241,TT.dv,i2,g1,d1,hVG]
  have ec:B.cons.den (U.toA.den (B.cons.den (Vl (hY x)) (Vl []))) (B.cons.den (U.toA.den (B.cons.den (Vu (hD x)) (Vl []))) (Vl [])) = .l [.a [Vl (hY x)],.a [Vu (hD x)]]:=rfl
  have sb2:=vsub_ok (hMu_lt hx h1 h64) (hyw.el 0)
  have dv2:=vdiv_ok (subV_lt (hMu_lt hx h1 h64) (hyw.el 0)) (hMu_lt hx h1 h64)
  rw [show divV (subV (hMu x) (el (hY x) 0)) (hMu x)=hTau x from rfl] at dv2
  rw [hyl] at rw1
  by_cases hb:fPow (hBeta x)=2047
  ·rw [decide_eq_false (by simp [hb])]
   cases hs:fNeg (el x j)
   ·rw [hs] at sg hmu
    rw [if_neg (by simp)] at hmu
    rw [←hmu] at mn
    simp [tr239,TT.dv,KS.dv,l0,l64,l1,f1,drop_V1,n1,b1,e1,ng,s1,nm,ld,sg,mn,sh2,fb,hb]
   ·rw [hs] at sg hmu
    rw [if_pos rfl] at hmu
    rw [←hmu] at nm
    simp [tr239,TT.dv,KS.dv,l0,l64,l1,f1,drop_V1,n1,b1,e1,ng,s1,nm,ld,sg,sh2,fb,hb]
  ·rw [decide_eq_true (show fPow (hBeta x)≠2047 from hb)]
   cases hs:fNeg (el x j)
   ·rw [hs] at sg hmu
    rw [if_neg (by simp)] at hmu
    rw [←hmu] at mn
    simp [tr239,TT.dv,KS.dv,l0,l64,l1,l2,ly,hyl,f1,drop_V1,n1,b1,e1,ng,s1,nm,ld,sg,mn,sh2,fb,hb,gy,sb,ec,mkfn_l,rw1,sb2,dv2]
   ·rw [hs] at sg hmu
    rw [if_pos rfl] at hmu
    rw [←hmu] at nm
    simp [tr239,TT.dv,KS.dv,l0,l64,l1,l2,ly,hyl,f1,drop_V1,n1,b1,e1,ng,s1,nm,ld,sg,sh2,fb,hb,gy,sb,ec,mkfn_l,rw1,sb2,dv2]
 ·rw [hn] at n1
  have rw1:=row_ok (f:=240) (n:=x.length) (caps:=[]) (fun _=>0) h1 (by omega) fun i _ _=>val_of tab240 (by simp [tr240,TT.dv])
  have ec:(U.mkfn 240).den (Vl [])=fnP 240 []:=rfl
  simp [tr239,TT.dv,l0,l64,l1,l2,f1,drop_V1,n1,ec,rw1,g0]
end
theorem make_inf {x:List Nat} (hx:Words x) (h1:1≤x.length) (h64:x.length≤64) (hf:finV x=false):val 239 [Vl x]=some [Vl [],Vu 0,Vu 0,Vi 4]:=by
 refine val_of tab239 ?_
 have f1:=finite_v_ok hx (by omega)
 rw [hf] at f1
 simp [tr239,TT.dv,show ¬x.length=0 by omega,show ¬(64:Int)<x.length by omega,f1]
def Er (x y e:Rat):Prop:=x≤y+e∧y≤x+e
def Ab (x a:Rat):Prop := -a≤x∧x≤a
theorem Ab.nonneg {x a:Rat} (h:Ab x a):0≤a:=by obtain ⟨h1,h2⟩:=h; grind
theorem Ab.mono {x a b:Rat} (h:Ab x a) (hab:a≤b):Ab x b:=by obtain ⟨h1,h2⟩:=h; exact ⟨by grind,by grind⟩
theorem Ab.neg {x a:Rat} (h:Ab x a):Ab (-x) a:=by obtain ⟨h1,h2⟩:=h; exact ⟨by grind,by grind⟩
theorem Ab.add {x y a b:Rat} (h:Ab x a) (h':Ab y b):Ab (x+y) (a+b):=by
 obtain ⟨h1,h2⟩:=h; obtain ⟨h3,h4⟩:=h'; exact ⟨by grind,by grind⟩
theorem Ab.sub {x y a b:Rat} (h:Ab x a) (h':Ab y b):Ab (x-y) (a+b):=by
 obtain ⟨h1,h2⟩:=h; obtain ⟨h3,h4⟩:=h'; exact ⟨by grind,by grind⟩
theorem Ab.mul {x y a b:Rat} (h:Ab x a) (h':Ab y b):Ab (x*y) (a*b):=by
 obtain ⟨h1,h2⟩:=h
 obtain ⟨h3,h4⟩:=h'
 have p1:0≤(a-x)*(b+y):=Rat.mul_nonneg (by grind) (by grind)
 have p2:0≤(a+x)*(b-y):=Rat.mul_nonneg (by grind) (by grind)
 have p3:0≤(a-x)*(b-y):=Rat.mul_nonneg (by grind) (by grind)
 have p4:0≤(a+x)*(b+y):=Rat.mul_nonneg (by grind) (by grind)
 exact ⟨by grind,by grind⟩
theorem Ab.of_sq {x a:Rat} (ha:0≤a) (h:x*x≤a*a):Ab x a:=by
 constructor
 ·rcases Rat.le_total (a := -a) (b:=x) with h1 | h1
  ·exact h1
  ·rcases Rat.le_total (a:=a) (b := -x) with h2 | h2
   ·have:=rat_sq_le ha h2
    have e : -x * -x=x*x:=by grind
    rw [e] at this
    have e2:x*x=a*a:=by grind
    have p:0≤(-x-a)*(-x+a):=Rat.mul_nonneg (by grind) (by grind)
    rcases Rat.le_total (a := -x) (b:=a) with h3 | h3
    ·grind
    ·have p1:0≤(-x-a)*(-x-a):=rat_sq_nonneg _
     have p2:0≤(-x-a)*a:=Rat.mul_nonneg (by grind) ha
     have p3:(-x-a)*(-x+a)=0:=by grind
     have p4:(-x-a)*(-x-a)+2*((-x-a)*a)=(-x-a)*(-x+a):=by grind
     have p5:(-x-a)*(-x-a)=0:=by grind
     have p6 : -x-a=0:=by
      rcases Rat.mul_eq_zero.1 p5 with h | h<;>exact h
     grind
   ·grind
 ·rcases Rat.le_total (a:=x) (b:=a) with h1 | h1
  ·exact h1
  ·have p1:0≤(x-a)*(x-a):=rat_sq_nonneg _
   have p2:0≤(x-a)*a:=Rat.mul_nonneg (by grind) ha
   have p4:(x-a)*(x-a)+2*((x-a)*a)=x*x-a*a:=by grind
   have p5:(x-a)*(x-a)=0:=by grind
   have p6:x-a=0:=by
    rcases Rat.mul_eq_zero.1 p5 with h | h<;>exact h
   grind
theorem Er.refl (x:Rat):Er x x 0:=⟨by grind,by grind⟩
theorem Er.symm {x y e:Rat} (h:Er x y e):Er y x e:=⟨h.2,h.1⟩
theorem Er.mono {x y e f:Rat} (h:Er x y e) (hf:e≤f):Er x y f:=by obtain ⟨h1,h2⟩:=h; exact ⟨by grind,by grind⟩
theorem Er.trans {x y z e f:Rat} (h:Er x y e) (h':Er y z f):Er x z (e+f):=by
 obtain ⟨h1,h2⟩:=h; obtain ⟨h3,h4⟩:=h'; exact ⟨by grind,by grind⟩
theorem Er.add {x y e x' y' e':Rat} (h:Er x y e) (h':Er x' y' e'):Er (x+x') (y+y') (e+e'):=by
 obtain ⟨h1,h2⟩:=h; obtain ⟨h3,h4⟩:=h'; exact ⟨by grind,by grind⟩
theorem Er.sub {x y e x' y' e':Rat} (h:Er x y e) (h':Er x' y' e'):Er (x-x') (y-y') (e+e'):=by
 obtain ⟨h1,h2⟩:=h; obtain ⟨h3,h4⟩:=h'; exact ⟨by grind,by grind⟩
theorem Er.ab {x y e:Rat} (h:Er x y e):Ab (x-y) e:=by obtain ⟨h1,h2⟩:=h; exact ⟨by grind,by grind⟩
theorem Er.of_ab {x y e:Rat} (h:Ab (x-y) e):Er x y e:=by obtain ⟨h1,h2⟩:=h; exact ⟨by grind,by grind⟩
theorem Er.bound {x y e a:Rat} (h:Er x y e) (h':Ab y a):Ab x (a+e):=by
 obtain ⟨h1,h2⟩:=h; obtain ⟨h3,h4⟩:=h'; exact ⟨by grind,by grind⟩
theorem Er.mul {x y e x' y' e' a a':Rat} (h:Er x y e) (h':Er x' y' e') (ha:Ab y a) (ha':Ab x' a'):Er (x*x') (y*y') (e*a'+a*e'):=by
 have p1:=h.ab.mul ha'
 have p2:=ha.mul h'.ab
 obtain ⟨q1,q2⟩:=p1.add p2
 exact ⟨by grind,by grind⟩
theorem sumA_sumP (a:Nat→Rat):∀n,sumA a n=sumP (fun i=>a i*a i) n
 | 0=>rfl
 | n+1=>by unfold sumA sumP; rw [sumA_sumP a n]
theorem sumP_congr {p q:Nat→Rat}:∀{n:Nat},(∀i,i<n→p i=q i)→sumP p n=sumP q n
 | 0,_=>rfl
 | n+1,h=>by unfold sumP; rw [sumP_congr (fun i hi=>h i (by omega)),h n (by omega)]
theorem sumP_split (p:Nat→Rat) (m:Nat):∀n,sumP p (m+n)=sumP p m+sumP (fun i=>p (m+i)) n
 | 0=>by simp only [sumP]; rw [Nat.add_zero]; grind
 | n+1=>by
  rw [←Nat.add_assoc]
  simp only [sumP]
  rw [sumP_split p m n]; grind
theorem sumP_add (p q:Nat→Rat):∀n,sumP (fun i=>p i+q i) n=sumP p n+sumP q n
 | 0=>by simp only [sumP]; grind
 | n+1=>by simp only [sumP]; rw [sumP_add p q n]; grind
theorem sumP_mul (p:Nat→Rat) (k:Rat):∀n,sumP (fun i=>k*p i) n=k*sumP p n
 | 0=>by simp only [sumP]; grind
 | n+1=>by simp only [sumP]; rw [sumP_mul p k n]; grind
theorem sumP_mulr (p:Nat→Rat) (k:Rat):∀n,sumP (fun i=>p i*k) n=sumP p n*k
 | 0=>by simp only [sumP]; grind
 | n+1=>by simp only [sumP]; rw [sumP_mulr p k n]; grind
theorem sumP_zero:∀n,sumP (fun _=>0) n=0
 | 0=>rfl
 | n+1=>by simp only [sumP]; rw [sumP_zero n]; grind
theorem sumP_swap (g:Nat→Nat→Rat) (c:Nat):∀r,sumP (fun i=>sumP (g i) c) r=sumP (fun k=>sumP (fun i=>g i k) r) c
 | 0=>by simp only [sumP]; rw [sumP_zero]
 | r+1=>by
  simp only [sumP]
  rw [sumP_swap g c r,←sumP_add]
theorem sumP_nonneg {p:Nat→Rat}:∀{n:Nat},(∀i,i<n→0≤p i)→0≤sumP p n
 | 0,_=>by unfold sumP; exact Rat.le_refl
 | n+1,h=>by
  have h1:=sumP_nonneg (p:=p) (n:=n) (fun i hi=>h i (by omega))
  have h2:=h n (by omega)
  unfold sumP; grind
theorem sumP_le {p q:Nat→Rat}:∀{n:Nat},(∀i,i<n→p i≤q i)→sumP p n≤sumP q n
 | 0,_=>by unfold sumP; exact Rat.le_refl
 | n+1,h=>by
  have h1:=sumP_le (p:=p) (q:=q) (n:=n) (fun i hi=>h i (by omega))
  have h2:=h n (by omega)
  unfold sumP; grind
theorem sumP_mem {p:Nat→Rat}:∀{n:Nat},(∀i,i<n→0≤p i)→∀i,i<n→p i≤sumP p n
 | 0,_,i,hi=>by omega
 | n+1,h,i,hi=>by
  have h1:=sumP_nonneg (p:=p) (n:=n) (fun i hi=>h i (by omega))
  have h2:=h n (by omega)
  unfold sumP
  by_cases hn:i=n
  ·subst hn; grind
  ·have:=sumP_mem (p:=p) (n:=n) (fun i hi=>h i (by omega)) i (by omega)
   grind
theorem sumP_er {p q e:Nat→Rat}:∀{n:Nat},(∀i,i<n→Er (p i) (q i) (e i))→Er (sumP p n) (sumP q n) (sumP e n)
 | 0,_=>Er.refl 0
 | n+1,h=>(sumP_er (fun i hi=>h i (by omega))).add (h n (by omega))
theorem sumP_const (k:Rat):∀n:Nat,sumP (fun _=>k) n=(n:Rat)*k
 | 0=>by unfold sumP; simp
 | n+1=>by unfold sumP; rw [sumP_const k n,nat_rat]; grind
abbrev uu:Rat:=1/9007199254740992
abbrev ee:Rat:=P2 (-1075)
structure Fl (w:Nat) (v e:Rat):Prop where
 lt:w<18446744073709551616
 fin:fPow w≠2047
 er:Er (sv w) v e
theorem Fl.exact {w:Nat} (h:w<18446744073709551616) (hf:fPow w≠2047):Fl w (sv w) 0:=⟨h,hf,Er.refl _⟩
theorem Fl.mono {w:Nat} {v e f:Rat} (h:Fl w v e) (hf:e≤f):Fl w v f:=⟨h.lt,h.fin,h.er.mono hf⟩
theorem Fl.of {w:Nat} {v e v' e':Rat} (h:Fl w v e) (h':Er v v' e'):Fl w v' (e+e'):=⟨h.lt,h.fin,h.er.trans h'⟩
theorem sv_W (w:Nat):sv w*sv w=W w*W w:=W_sx w
theorem sv_ab (w:Nat):Ab (sv w) (W w):=by
 have h:=W_nonneg w
 rcases sv_cases w with ⟨_,h1⟩ | ⟨_,h1⟩<;>rw [h1]
 ·exact ⟨by grind,by grind⟩
 ·exact ⟨by grind,by grind⟩
theorem W_of_sv {w:Nat} {a:Rat} (h:Ab (sv w) a):W w≤a:=by
 obtain ⟨h1,h2⟩:=h
 rcases sv_cases w with ⟨_,h3⟩ | ⟨_,h3⟩<;>rw [h3] at h1 h2<;>grind
theorem fl_near {s:Bool} {n:Nat} {p:Int} {v:Rat} {A:Rat} (hv:v=if s then -D n p else D n p) (hA:Ab v A) (h:A≤P2 1023):Fl (nearV s n p) v (A*uu+ee):=by
 have hn:=D_nonneg n p
 have hD:D n p≤A:=by
  obtain ⟨h1,h2⟩:=hA
  cases s<;>simp only [if_true,if_false,Bool.false_eq_true] at hv<;>grind
 have hf:=near_fin (Rat.le_trans hD h)
 have hfin:=fin_near (s:=s) hf
 obtain ⟨e1,e2⟩:=near_err' hf
 obtain ⟨_,_,f3,f4,f5⟩:=sgn_fields s (nearR_le n p)
 have hW:W (nearV s n p)=W (nearR n p):=by
  rw [←W_abs,absV_near]
 refine ⟨f5,hfin,?_⟩
 have hs:=sv_of (b:=nearV s n p) (s:=s) f3
 rw [hs,hv,hW]
 have e3:D n p*(1/9007199254740992)≤A*(1/9007199254740992):=Rat.mul_le_mul_of_nonneg_right hD (by decide +kernel)
 generalize D n p=d at *
 generalize W (nearR n p)=w at *
 show Er _ _ (A*(1/9007199254740992)+P2 (-1075))
 generalize P2 (-1075)=η at *
 cases s<;>simp only [if_true,if_false,Bool.false_eq_true]<;>exact ⟨by grind,by grind⟩
theorem sv_D (w:Nat):sv w=if fNeg w then -D (fMag w) (fPl w) else D (fMag w) (fPl w):=sv_of rfl
theorem fl_mul {a b:Nat} (ha:fPow a≠2047) (hb:fPow b≠2047) {A:Rat} (h:Ab (sv a*sv b) A) (hA:A≤P2 1023):Fl (mulV a b) (sv a*sv b) (A*uu+ee):=by
 rw [mulV_fin ha hb]
 refine fl_near ?_ h hA
 rw [sv_D a,sv_D b,←D_mul]
 generalize D (fMag a) (fPl a)=x
 generalize D (fMag b) (fPl b)=y
 cases fNeg a<;>cases fNeg b<;>simp<;>grind
theorem DV_sg (s:Bool) (m:Nat) (p:Int):DV (sg s m) p=if s then -D m p else D m p:=by
 unfold DV sg D
 cases s
 ·simp only [Bool.false_eq_true,if_false]; rw [Rat.intCast_natCast]
 ·simp only [if_true]; rw [Rat.intCast_neg,Rat.intCast_natCast]; grind
theorem D_abs (x p:Int):DV x p=if decide (x<0) then -D x.natAbs p else D x.natAbs p:=by
 by_cases h:x<0
 ·rw [decide_eq_true h,if_pos rfl,show x=sg true x.natAbs by unfold sg; simp; omega,DV_sg]
  simp [sg]
 ·rw [decide_eq_false h,if_neg (by decide)]
  unfold DV D
  rw [show x=((x.natAbs:Nat):Int) by omega,Rat.intCast_natCast]
  simp
theorem fl_add {a b:Nat} (ha:fPow a≠2047) (hb:fPow b≠2047) {A:Rat} (h:Ab (sv a+sv b) A) (hA:A≤P2 1023):Fl (addV a b) (sv a+sv b) (A*uu+ee):=by
 rw [addV_fin ha hb]
 unfold sumV
 have key:sv a+sv b=DV (sg (fNeg a) (fMag a)*2^(fPl a-min (fPl a) (fPl b)).toNat+sg (fNeg b) (fMag b)*2^(fPl b-min (fPl a) (fPl b)).toNat) (min (fPl a) (fPl b)):=by
  have:=DV_dadd (sg (fNeg a) (fMag a)) (fPl a) (sg (fNeg b) (fMag b)) (fPl b)
  exact this.symm
 generalize sg (fNeg a) (fMag a)*2^(fPl a-min (fPl a) (fPl b)).toNat+sg (fNeg b) (fMag b)*2^(fPl b-min (fPl a) (fPl b)).toNat=X at *
 refine fl_near ?_ h hA
 rw [key]
 by_cases h0:X=0
 ·rw [if_pos h0,h0,show (0:Int).natAbs=0 from rfl,D_zero]
  unfold DV; rw [Rat.intCast_zero,Rat.zero_mul]
  split<;>grind
 ·rw [if_neg h0]; exact D_abs X _
theorem fl_sub {a b:Nat} (ha:fPow a≠2047) (hb:fPow b≠2047) (hbl:b<18446744073709551616) {A:Rat} (h:Ab (sv a-sv b) A) (hA:A≤P2 1023):Fl (subV a b) (sv a-sv b) (A*uu+ee):=by
 unfold subV
 have hm:=sv_minus hbl
 have e:sv a-sv b=sv a+sv (fMinus b):=by rw [hm]; grind
 obtain ⟨m1,m2,m3,m4⟩:=minus_neg hbl
 have hp:fPow (fMinus b)≠2047:=by rw [m2]; exact hb
 rw [e] at h ⊢
 exact fl_add ha hp h hA
theorem Fl.mul {a b:Nat} {v e A v' e' B C:Rat} (h:Fl a v e) (h':Fl b v' e') (hA:Ab v A) (hB:Ab (sv b) B) (hC:Ab (sv a*sv b) C) (hC2:C≤P2 1023):Fl (mulV a b) (v*v') (C*uu+ee+(e*B+A*e')) :=
 (fl_mul h.fin h'.fin hC hC2).of (h.er.mul h'.er hA hB)
theorem Fl.add {a b:Nat} {v e v' e' C:Rat} (h:Fl a v e) (h':Fl b v' e') (hC:Ab (sv a+sv b) C) (hC2:C≤P2 1023):Fl (addV a b) (v+v') (C*uu+ee+(e+e')) :=
 (fl_add h.fin h'.fin hC hC2).of (h.er.add h'.er)
theorem Fl.bound {a:Nat} {v e A:Rat} (h:Fl a v e) (hA:Ab v A):Ab (sv a) (A+e):=h.er.bound hA
section
variable {r c:Nat} {x:List Nat} (h:Mx r c x) {i:Nat} (hi:i<r)
include h hi
theorem row_end:(i+1)*c≤x.length:=by rw [h.len]; exact Nat.mul_le_mul_right c hi
theorem row_ints:(B.mul .i64).den (Vi i) (Vi c)=Vi ((i*c:Nat):Int)∧(B.mul .i64).den ((B.add .i64).den (Vi i) (Vi 1)) (Vi c)=Vi (((i+1)*c:Nat):Int):=by
 have h1:=h.hr
 have h2:=h.hc
 have h3:i*c≤6*6:=Nat.mul_le_mul (by omega) h2
 have h4:(i+1)*c≤6*6:=Nat.mul_le_mul (by omega) h2
 have e1:(i:Int)*c=((i*c:Nat):Int):=by rw [Int.natCast_mul]
 have e2:((i:Int)+1)*c=(((i+1)*c:Nat):Int):=by rw [Int.natCast_mul]; rfl
 rw [add_i (by omega) (by omega),mul_i (by rw [e1]; omega) (by rw [e1]; omega),mul_i (by rw [e2]; omega) (by rw [e2]; omega),e1,e2]
 exact ⟨rfl,rfl⟩
end
section
end
section
end
def eyG (i k:Nat):Nat:=if i=k then 4607182418800017408 else 0
def eyV (n:Nat):List Nat:=matL eyG n n
theorem eyV_mx {n:Nat} (hn:n≤6):Mx n n (eyV n):=matL_mx hn hn fun i k _ _=>by unfold eyG; split<;>decide
theorem eye_ok {n:Nat} (hn:n≤6):val 248 [Vi n]=some [Vi n,Vi n,Vl (eyV n),Vi 0]:=by
 refine val_of tab248 ?_
 have h1:=size_ok n
 rw [decide_eq_true (by omega)] at h1
 have h2:=mof_ok (f:=249) (r:=n) (c:=n) (caps:=[]) (g:=eyG) hn hn fun i k _ _=>by
  refine val_of tab249 ?_
  unfold eyG
  by_cases h:i=k
  ·simp [tr249,TT.dv,h]
  ·simp [tr249,TT.dv,h,show ¬(i:Int)=k by omega]
 have ec:(U.mkfn 249).den (Vl [])=fnP 249 []:=rfl
 simp [tr248,TT.dv,h1,ec,h2,eyV]
def chk (R C:Int) (x:List Nat):Int:=if rightP R C x then (if finV x then 0 else 4) else 1
theorem fin2_loop {x:List Nat} {x0 x1 x3 x4:PV} (h64:x.length<9000000000000000000):∀(n:Nat) {i:Nat},i+n=x.length →
  rounds (fun vs=>lo2_1.dv (x0::x1::Vl x::x3::vs)) [x4,Vi i]=some (if finR x n i then .y (.ext 0) [x4] else .y .ret []):=by
 intro n
 induction n with
 | zero =>
  intro i hi
  refine rounds_exit ?_ (by simp [finR])
  simp [lo2_1,TT.dv,show ¬i<x.length by omega,finR]
 | succ n ih =>
  intro i hi
  have g1:=get_V (x:=x) (i:=i) (by omega)
  have f1:=finite_ok (el x i)
  unfold finR
  by_cases c:fPow (el x i)=2047
  ·rw [if_pos c]
   refine rounds_exit ?_ (by simp)
   simp [lo2_1,TT.dv,show i<x.length by omega,g1,f1,c]
  ·rw [if_neg c]
   have e1:(B.add .i64).den (Vi i) (Vi 1)=Vi (i+1):=add_i (by omega) (by omega)
   refine Eq.trans (rounds_cont ?_) (ih (i:=i+1) (by omega))
   simp [lo2_1,TT.dv,show i<x.length by omega,g1,f1,c,e1]
theorem ccheck_ok (R C:Int) {x:List Nat} (h:x.length≤17592186043904):val 2 [Vi R,Vi C,Vl x]=some [Vi (chk R C x)]:=by
 refine val_of tab2 ?_
 have h1:=check_ok R C x
 unfold chk
 by_cases c:rightP R C x
 ·rw [if_pos c] at h1 ⊢
  have hl:=fun x0 x1 x3 x4=>fin2_loop (x:=x) (x0:=x0) (x1:=x1) (x3:=x3) (x4:=x4) (by omega) x.length (i:=0) (by omega)
  simp only [show ((0:Nat):Int)=0 from rfl] at hl
  unfold finV
  cases hc:finR x x.length 0
  ·simp only [hc] at hl
   simp [tr2,TT.dv,KS.dv,h1,hl]
  ·simp only [hc] at hl
   simp [tr2,TT.dv,KS.dv,h1,hl]
 ·rw [if_neg c] at h1 ⊢
  simp [tr2,TT.dv,h1]
def clI (c j:Nat):Nat→Nat→List Nat→List Nat
 | 0,_,m=>m
 | n+1,i,m=>clI c j n (i+1) (m.set (ps i c j) 0)
def clV (r c:Nat) (m:List Nat) (j beta:Nat):List Nat:=clI c j (r-(j+1)) (j+1) (m.set (ps j c j) beta)
theorem clI_mx {r c j:Nat}:∀(n i:Nat) {m:List Nat},Mx r c m→Mx r c (clI c j n i m)
 | 0,_,_,h=>h
 | n+1,i,m,h=>clI_mx n (i+1) (h.set (by decide))
theorem clV_mx {r c j beta:Nat} {m:List Nat} (h:Mx r c m) (hb:beta<18446744073709551616):Mx r c (clV r c m j beta):=clI_mx _ _ (h.set hb)
section
end
abbrev Mir:=List Nat × Nat × Nat
def mrP (m:Mir):PV := .a [Vl m.1,Vu m.2.1]
def dnOk (r c j:Nat) (x:List Nat):Bool:=finV (colL r c x j j)&&mkOk (colL r c x j j)
def dnM (r c j:Nat) (x:List Nat):Mir:=(mkV (colL r c x j j),mkTau (colL r c x j j),mkBeta (colL r c x j j))
def dnX (r c j:Nat) (x:List Nat):List Nat:=clV r c (apV r c x j j (dnM r c j x).1 (dnM r c j x).2.1) j (dnM r c j x).2.2
structure MirOK (r j:Nat) (m:Mir):Prop where
 len:m.1.length=r-j
 w:Words m.1
 t:m.2.1<18446744073709551616
 b:m.2.2<18446744073709551616
section
variable {r c j:Nat} {x:List Nat} (h:Mx r c x) (hj:j<c) (hjr:j<r)
include h hj hjr
theorem dnM_ok:MirOK r j (dnM r c j x):=by
 have hr:=h.hr
 have hw:=colL_words h j j
 have hl:(colL r c x j j).length=r-j:=colL_len _ _ _ _ _
 exact ⟨(mkV_len hw (by omega) (by omega)).trans hl,mkV_words hw (by omega) (by omega),mkTau_lt hw (by omega) (by omega),mkBeta_lt hw (by omega) (by omega)⟩
theorem dnX_mx:Mx r c (dnX r c j x):=by
 have hm:=dnM_ok h hj hjr
 exact clV_mx (apV_mx h hm.w hm.t (i:=j) (by rw [hm.len]; omega)) hm.b
theorem dmake_ok:val 239 [Vl (colL r c x j j)]=some (if dnOk r c j x then [Vl (dnM r c j x).1,Vu (dnM r c j x).2.1,Vu (dnM r c j x).2.2,Vi 0] else [Vl [],Vu 0,Vu 0,Vi (if finV (colL r c x j j) then 2 else 4)]):=by
 have hr:=h.hr
 have hw:=colL_words h j j
 have hl:(colL r c x j j).length=r-j:=colL_len _ _ _ _ _
 unfold dnOk dnM
 cases hf:finV (colL r c x j j)
 ·rw [make_inf hw (by omega) (by omega) hf]; simp
 ·rw [make_ok hw (by omega) (by omega) hf]; simp
theorem dapply_ok:val 238 [Vi r,Vi c,Vl x,Vi j,Vi j,Vl (dnM r c j x).1,Vu (dnM r c j x).2.1]=some [Vi r,Vi c,Vl (apV r c x j j (dnM r c j x).1 (dnM r c j x).2.1),Vi 0]:=by
 have hm:=dnM_ok h hj hjr
 exact apply_ok h hm.w hm.t (i:=j) (by rw [hm.len]; omega) (by omega)
theorem dapply_mx:Mx r c (apV r c x j j (dnM r c j x).1 (dnM r c j x).2.1):=by
 have hm:=dnM_ok h hj hjr
 exact apV_mx h hm.w hm.t (i:=j) (by rw [hm.len]; omega)
end
def ML (ms:List Mir):PV := .l (ms.map mrP)
theorem ML_nil:Vl []=ML []:=rfl
theorem len_ML (ms:List Mir):U.len.den (ML ms)=Vi ms.length:=by simp [ML]
theorem app_ML (ms:List Mir) (m:Mir):B.app.den (ML ms) (B.cons.den (U.toA.den (B.cons.den (Vl m.1) (B.cons.den (Vu m.2.1) (Vl [])))) (Vl []))=ML (ms++[m]):=by
 show PV.l (ms.map mrP++[.a [Vl m.1,Vu m.2.1]])=_
 unfold ML; rw [List.map_append]; rfl
def MsOK (r:Nat) (ms:List Mir):Prop:=∀j m,ms[j]? = some m→MirOK r j m
theorem MsOK.app {r:Nat} {ms:List Mir} (h:MsOK r ms) {m:Mir} (hm:MirOK r ms.length m):MsOK r (ms++[m]):=by
 intro j m' hj
 rcases Nat.lt_or_ge j ms.length with h1 | h1
 ·rw [List.getElem?_append_left h1] at hj; exact h j m' hj
 ·rw [List.getElem?_append_right h1] at hj
  have:j=ms.length:=by
   rcases Nat.eq_or_lt_of_le h1 with h2 | h2
   ·exact h2.symm
   ·rw [List.getElem?_eq_none (by simp; omega)] at hj; cases hj
  subst this
  simp at hj; subst hj; exact hm
def mir (ms:List Mir) (n:Nat):Mir:=ms.getD n ([],0,0)
theorem mir_some {ms:List Mir} {n:Nat} (h:n<ms.length):ms[n]? = some (mir ms n):=by
 unfold mir; rw [List.getD_eq_getElem?_getD,List.getElem?_eq_getElem h]; rfl
theorem get_ML {ms:List Mir} {n:Nat} (h:n<ms.length):B.get.den (ML ms) (Vi n) = .a [Vl (mir ms n).1,Vu (mir ms n).2.1]:=by
 show (PV.l (ms.map mrP)).list.getD (Vi n).int.toNat default=_
 rw [int_I,Int.toNat_natCast,PV.list,List.getD_eq_getElem?_getD,List.getElem?_map,mir_some h]; rfl
def backR (r:Nat) (ms:List Mir):Nat→List Nat→List Nat
 | 0,q=>q
 | n+1,q=>backR r ms n (apV r r q n 0 (mir ms n).1 (mir ms n).2.1)
section
variable {r:Nat} {ms:List Mir} (hms:MsOK r ms) (hml:ms.length≤r)
include hms hml
theorem mir_ok {n:Nat} (h:n<ms.length):MirOK r n (mir ms n):=hms n _ (mir_some h)
theorem back_step_mx {q:List Nat} (hq:Mx r r q) {n:Nat} (h:n<ms.length):Mx r r (apV r r q n 0 (mir ms n).1 (mir ms n).2.1):=by
 have hm:=mir_ok hms hml h
 exact apV_mx hq hm.w hm.t (i:=n) (by rw [hm.len]; omega)
theorem backR_mx:∀(n:Nat) {q:List Nat},n≤ms.length→Mx r r q→Mx r r (backR r ms n q)
 | 0,_,_,hq=>hq
 | n+1,q,h,hq=>backR_mx n (by omega) (back_step_mx hms hml hq (show n<ms.length by omega))
theorem back_ap {q:List Nat} (hq:Mx r r q) {n:Nat} (h:n<ms.length):val 238 [Vi r,Vi r,Vl q,Vi n,Vi 0,Vl (mir ms n).1,Vu (mir ms n).2.1]=some [Vi r,Vi r,Vl (apV r r q n 0 (mir ms n).1 (mir ms n).2.1),Vi 0]:=by
 have hm:=mir_ok hms hml h
 have:=apply_ok hq hm.w hm.t (i:=n) (by rw [hm.len]; omega) (k:=0) (by omega)
 exact this
end
def qrQ (r:Nat) (ms:List Mir):List Nat:=backR r ms ms.length (eyV r)
theorem apI_other {cl v:List Nat} {t i c cc q:Nat}:∀(n j:Nat) {m:List Nat},(∀j',ps (i+j') c cc≠q)→el (apI cl v t i c cc n j m) q=el m q
 | 0,_,_,_=>rfl
 | n+1,j,m,h=>by
  unfold apI
  rw [apI_other n (j+1) h,el_set,if_neg (fun hh=>h j hh.1)]
theorem apO_other {r c:Nat} {x v:List Nat} {tau i q:Nat}:∀(n cc:Nat) {m:List Nat},(∀j' cc',cc≤cc'→cc'<cc+n→ps (i+j') c cc'≠q)→el (apO r c x v tau i n cc m) q=el m q
 | 0,_,_,_=>rfl
 | n+1,cc,m,h=>by
  unfold apO
  rw [apO_other n (cc+1) (fun j' cc' h1 h2=>h j' cc' (by omega) (by omega)),apI_other _ _ (fun j'=>h j' cc (Nat.le_refl _) (by omega))]
theorem apV_ahead {r c:Nat} {x v:List Nat} {tau i k:Nat} (hk:k≤c) {a b:Nat} (hb:b<k):el (apV r c x i k v tau) (ps a c b)=el x (ps a c b):=by
 unfold apV
 refine apO_other (c-k) k fun j' cc' h1 h2 hh => ?_
 have:=(ps_inj (show cc'<c by omega) (show b<c by omega) hh).2
 omega
theorem apV_above {r c:Nat} {x v:List Nat} {tau i k:Nat} (hk:k≤c) {a b:Nat} (ha:a<i) (hb:b<c):el (apV r c x i k v tau) (ps a c b)=el x (ps a c b):=by
 unfold apV
 refine apO_other (c-k) k fun j' cc' h1 h2 hh => ?_
 have:=(ps_inj (show cc'<c by omega) hb hh).1
 omega
theorem clI_other {c j q:Nat}:∀(n i:Nat) {m:List Nat},(∀i',i≤i'→ps i' c j≠q)→el (clI c j n i m) q=el m q
 | 0,_,_,_=>rfl
 | n+1,i,m,h=>by
  unfold clI
  rw [clI_other n (i+1) (fun i' h1=>h i' (by omega)),el_set,if_neg (fun hh=>h i (Nat.le_refl _) hh.1)]
theorem clI_at {r c j:Nat} (hj:j<c):∀(n i:Nat) {m:List Nat},Mx r c m→i+n=r→∀a,i≤a→a<r→el (clI c j n i m) (ps a c j)=0
 | 0,i,m,_,he,a,h1,h2=>by omega
 | n+1,i,m,h,he,a,h1,h2=>by
  unfold clI
  rcases Nat.eq_or_lt_of_le h1 with h3 | h3
  ·subst h3
   rw [clI_other n (i+1) (fun i' h4 hh=>by have:=(ps_inj hj hj hh).1; omega),el_set,if_pos ⟨rfl,h.lt (by omega) hj⟩]
  ·exact clI_at hj n (i+1) (h.set (by decide)) (by omega) a (by omega) h2
theorem clV_at {r c j beta:Nat} {m:List Nat} (h:Mx r c m) (hb:beta<18446744073709551616) (hj:j<c) (hr:j<r) {a:Nat} (h1:j<a) (h2:a<r):el (clV r c m j beta) (ps a c j)=0 :=
 clI_at hj _ _ (h.set hb) (by omega) a h1 h2
theorem clV_diag {r c j beta:Nat} {m:List Nat} (h:Mx r c m) (hj:j<c) (hr:j<r):el (clV r c m j beta) (ps j c j)=beta:=by
 unfold clV
 rw [clI_other _ _ (fun i' h4 hh=>by have:=(ps_inj hj hj hh).1; omega),el_set,if_pos ⟨rfl,h.lt hr hj⟩]
theorem clV_other {r c j beta:Nat} {m:List Nat} (hj:j<c) {a b:Nat} (hb:b<c) (hne:b≠j∨a<j):el (clV r c m j beta) (ps a c b)=el m (ps a c b):=by
 unfold clV
 rw [clI_other _ _ (fun i' h4 hh=>by have:=ps_inj hj hb hh; omega),el_set,if_neg (fun hh=>by have:=ps_inj hj hb hh.1; omega)]
def UpTo (r c j:Nat) (x:List Nat):Prop:=∀a b,b<j→b<a→a<r→el x (ps a c b)=0
theorem dnX_up {r c j:Nat} {x:List Nat} (h:Mx r c x) (hj:j<c) (hjr:j<r) (hu:UpTo r c j x):UpTo r c (j+1) (dnX r c j x):=by
 intro a b h1 h2 h3
 have hm:=dnM_ok h hj hjr
 have am:=dapply_mx h hj hjr
 unfold dnX
 by_cases h4:b=j
 ·subst h4
  exact clV_at am hm.b hj hjr h2 h3
 ·rw [clV_other hj (by omega) (Or.inl h4),apV_ahead (by omega) (show b<j by omega)]
  exact hu a b (by omega) h2 h3
section
end
theorem finR_iff {x:List Nat}:∀(n i:Nat),finR x n i=true↔∀k,i≤k→k<i+n→fPow (el x k)≠2047
 | 0,i=>⟨fun _ k h1 h2=>by omega,fun _=>rfl⟩
 | n+1,i=>by
  unfold finR
  by_cases c:fPow (el x i)=2047
  ·rw [if_pos c]
   exact ⟨fun h=>(by cases h),fun h=>absurd c (h i (Nat.le_refl _) (by omega))⟩
  ·rw [if_neg c,finR_iff n (i+1)]
   refine ⟨fun h k h1 h2 => ?_,fun h k h1 h2=>h k (by omega) (by omega)⟩
   rcases Nat.eq_or_lt_of_le h1 with h3 | h3
   ·subst h3; exact c
   ·exact h k (by omega) (by omega)
theorem finV_iff {x:List Nat}:finV x=true↔∀k,k<x.length→fPow (el x k)≠2047:=by
 unfold finV
 rw [finR_iff]
 exact ⟨fun h k hk=>h k (Nat.zero_le _) (by omega),fun h k _ hk=>h k (by omega)⟩
theorem finV_mx {r c:Nat} {x:List Nat} (h:Mx r c x):finV x=true↔∀i k,i<r→k<c→fPow (el x (ps i c k))≠2047:=by
 rw [finV_iff]
 refine ⟨fun hh i k hi hk=>hh _ (h.lt hi hk),fun hh t ht => ?_⟩
 have hc:0<c:=by
  rcases Nat.eq_zero_or_pos c with h0 | h0
  ·subst h0; rw [h.len] at ht; omega
  ·exact h0
 have e:t=ps (t/c) c (t%c):=by unfold ps; rw [Nat.mul_comm]; exact (Nat.div_add_mod t c).symm
 have:=hh (t/c) (t%c) (by rw [Nat.div_lt_iff_lt_mul hc,←h.len]; exact ht) (Nat.mod_lt _ hc)
 rwa [←e] at this
section
end
section
end
section
end
theorem near_nought (s:Bool) (p:Int):sv (nearV s 0 p)=0∧fPow (nearV s 0 p)≠2047∧fMag (nearV s 0 p)=0:=by
 have h:nearR 0 p=0:=by
  have := @near_W 0 (by decide)
  rw [show fMag 0=0 from rfl] at this
  rw [near_eq (n:=0) (p:=p) (m:=0) (q:=fPl 0) (by rw [D_zero,D_zero])]; exact this
 unfold nearV
 rw [h]
 cases s
 ·exact ⟨sv_zero (by decide),by decide,by decide⟩
 ·exact ⟨sv_zero (by decide),by decide,by decide⟩
theorem mul_nought {a b:Nat} (ha:fPow a≠2047) (hb:fPow b≠2047) (h:fMag b=0):sv (mulV a b)=0∧fPow (mulV a b)≠2047∧fMag (mulV a b)=0:=by
 rw [mulV_fin ha hb,h,Nat.mul_zero]; exact near_nought _ _
theorem add_nought {a b:Nat} (ha:fPow a≠2047) (hb:fPow b≠2047) (h:fMag a=0) (h':fMag b=0):sv (addV a b)=0∧fPow (addV a b)≠2047∧fMag (addV a b)=0:=by
 rw [addV_fin ha hb]
 unfold sumV
 rw [h,h',show ∀s,sg s 0=0 from fun s=>by cases s<;>rfl,show ∀s,sg s 0=0 from fun s=>by cases s<;>rfl,Int.zero_mul,Int.zero_mul]
 exact near_nought _ _
theorem minus_fields {b:Nat} (hb:b<18446744073709551616):fPow (fMinus b)=fPow b∧fMag (fMinus b)=fMag b:=by
 obtain ⟨m1,m2,m3,m4⟩:=minus_neg hb
 exact ⟨m2,by unfold fMag; rw [m2,m3]⟩
theorem mag_of_W {b:Nat} (h:W b=0):fMag b=0:=by
 unfold W D at h
 rcases Rat.mul_eq_zero.1 h with h | h
 ·have h2:((fMag b:Nat):Rat)=((0:Nat):Rat):=h
  exact Rat.natCast_inj.1 h2
 ·have:=P2_pos (fPl b); rw [h] at this; exact absurd this Rat.lt_irrefl
def Re (x y k:Rat):Prop:=Er x y (k*uu*y)
theorem uu_pos:(0:Rat)≤uu:=by decide +kernel
theorem Re.mono {x y k k':Rat} (h:Re x y k) (hk:k≤k') (hy:0≤y):Re x y k':=by
 refine Er.mono h ?_
 exact Rat.mul_le_mul_of_nonneg_right (Rat.mul_le_mul_of_nonneg_right hk uu_pos) hy
theorem kk_small {k k':Rat} (hk:0≤k) (hk1:k≤1000) (hk1':k'≤1000):k*k'*uu≤1/1000:=by
 have h1:k*k'≤k*1000:=Rat.mul_le_mul_of_nonneg_left hk1' hk
 have h2:k*k'*uu≤1000000*uu:=Rat.mul_le_mul_of_nonneg_right (by grind) uu_pos
 exact Rat.le_trans h2 (by decide +kernel)
theorem Re.mul {x y k x' y' k':Rat} (h:Re x y k) (h':Re x' y' k') (hy:0≤y) (hy':0≤y') (hk:0≤k) (hk':0≤k') (hk1:k≤1000) (hk1':k'≤1000):Re (x*x') (y*y') (k+k'+1):=by
 have a1:Ab y y:=⟨by grind,Rat.le_refl⟩
 have a2:=Er.bound h' (a:=y') ⟨by grind,Rat.le_refl⟩
 have h1:=Er.mul h h' a1 a2
 refine h1.mono ?_
 have hz:0≤uu*(y*y'):=Rat.mul_nonneg uu_pos (Rat.mul_nonneg hy hy')
 have h3:=Rat.mul_le_mul_of_nonneg_right (kk_small hk hk1 hk1') hz
 generalize uu=u at *
 grind
theorem Re.trans {x y z k k':Rat} (h:Re x y k) (h':Re y z k') (hz:0≤z) (hk:0≤k) (hk1:k≤1000) (hk1':k'≤1000):Re x z (k+k'+1):=by
 refine Er.mono (Er.trans h h') ?_
 obtain ⟨h1,h2⟩:=h'
 have hkk:=Rat.mul_le_mul_of_nonneg_right (kk_small hk hk1 hk1') (Rat.mul_nonneg uu_pos hz)
 have h3:k*uu*y≤k*uu*(z+k'*uu*z):=Rat.mul_le_mul_of_nonneg_left h1 (Rat.mul_nonneg hk uu_pos)
 have h0:0≤uu*z:=Rat.mul_nonneg uu_pos hz
 generalize uu=u at *
 grind
theorem Re.symm {x y k:Rat} (h:Re x y k) (hy:0≤y) (hk:0≤k) (hk1:k≤900):Re y x (k+1):=by
 obtain ⟨h1,h2⟩:=h
 have h0:0≤uu*y:=Rat.mul_nonneg uu_pos hy
 have hkk:=Rat.mul_le_mul_of_nonneg_right (kk_small (k:=k) (k':=k+1) hk (by grind) (by grind)) h0
 have h3:(k+1)*uu*y≤(k+1)*uu*(x+k*uu*y):=Rat.mul_le_mul_of_nonneg_left h2 (Rat.mul_nonneg (by grind) uu_pos)
 have h4:k*uu*y≤(k+1)*uu*x:=by
  generalize uu=u at *
  grind
 exact ⟨by grind,by grind⟩
theorem Re.cancel {x y z k:Rat} (h:Re (x*z) (y*z) k) (hz:0<z):Re x y k:=by
 obtain ⟨h1,h2⟩:=h
 constructor
 ·refine Rat.le_of_mul_le_mul_right (c:=z) ?_ hz
  have:(y+k*uu*y)*z=y*z+k*uu*(y*z):=by grind
  rw [this]; exact h1
 ·refine Rat.le_of_mul_le_mul_right (c:=z) ?_ hz
  have:(x+k*uu*y)*z=x*z+k*uu*(y*z):=by grind
  rw [this]; exact h2
theorem Fl.sign {w:Nat} {v e:Rat} {s:Bool} (h:Fl w (if s then -v else v) e) (he:e<v):fNeg w=s∧Er (W w) v e:=by
 obtain ⟨h1,h2⟩:=h.er
 have hw:=W_nonneg w
 rcases sv_cases w with ⟨n,hs⟩ | ⟨n,hs⟩<;>rw [hs] at h1 h2<;>cases s<;>simp only [if_true,if_false,Bool.false_eq_true] at h1 h2
 ·exact ⟨n,h1,h2⟩
 ·exact absurd he (by grind)
 ·exact absurd he (by grind)
 ·exact ⟨n,by grind,by grind⟩
theorem leadI_kind {x:List Nat}:∀{n i j:Nat},leadI x n i=some j→fKind (el x j)≠0∧(fKind (el x i)≠0→j=i)
 | 0,i,j,h=>by simp [leadI] at h
 | n+1,i,j,h=>by
  unfold leadI at h
  by_cases c:fKind (el x i)≠0
  ·rw [if_pos c] at h
   simp at h; subst h
   exact ⟨c,fun _=>rfl⟩
  ·rw [if_neg c] at h
   exact ⟨(leadI_kind h).1,fun hh=>absurd hh c⟩
theorem kind_mag (b:Nat):fKind b≠0↔fMag b≠0:=by rw [Ne,kind_zero,←mag_zero]
def hσ (x:List Nat):Bool:=fNeg (el x ((leadI x x.length 0).getD 0))
def hR (x:List Nat):Nat:=normV (hY x)
structure HCore (x:List Nat):Prop where
 rf:hR x<infR
 one:1≤W (hR x)
 le:W (hR x)≤16
 yf:∀i,i<x.length→fPow (el (hY x) i)≠2047
 yle:∀i,i<x.length→W (el (hY x) i)≤W (hR x)
 y2:∀i,i<x.length→W (el (hY x) i)≤2
 sq:Re (W (hR x)*W (hR x)) (sumA (fun i=>W (el (hY x) i)) x.length) 150
 s0:sv (el (hY x) 0)=if hσ x then -W (el (hY x) 0) else W (el (hY x) 0)
theorem scaleV_nought {b:Nat} (h:fPow b≠2047) (hm:fMag b=0) (k:Int):scaleV b k=b:=by
 unfold scaleV; rw [if_neg (fin_nan h),if_pos (.inr hm)]
theorem Re.scale {x y k z:Rat} (h:Re x y k) (hz:0≤z):Re (x*z) (y*z) k:=by
 obtain ⟨h1,h2⟩:=h
 have p1:=Rat.mul_le_mul_of_nonneg_right h1 hz
 have p2:=Rat.mul_le_mul_of_nonneg_right h2 hz
 exact ⟨by grind,by grind⟩
theorem mag_pos {b:Nat} (h:0<W b):fMag b≠0:=fun hh=>by rw [W_zero_of hh] at h; exact absurd h Rat.lt_irrefl
theorem ee1:0≤ee∧ee≤uu*(1/1000000000):=⟨Rat.le_of_lt (P2_pos _),by decide +kernel⟩
theorem fl_div {a b:Nat} (ha:a<18446744073709551616) (hb:b<18446744073709551616) (fa:fPow a≠2047) (fb:fPow b≠2047) (h0:fMag b≠0) (h1:W a≤4*W b) (hb1:W b≤16) :
  fPow (divV a b)≠2047∧Er (sv (divV a b)*sv b) (sv a) (W a*(2*uu)+16*ee)∧Er (W (divV a b)*W b) (W a) (W a*(2*uu)+16*ee):=by
 obtain ⟨d1,d2,d3,d4,d5⟩:=div_err ha hb fa fb h0 h1 hb1
 have h2:Er (W (divV a b)*W b) (W a) (W a*(2*uu)+16*ee):=⟨by grind,by grind⟩
 refine ⟨d1,?_,h2⟩
 by_cases hz:fMag a=0
 ·rw [sv_zero hz,sv_zero (mag_of_W (d3 hz)),W_zero_of hz]
  have:=ee1.1
  exact ⟨by grind,by grind⟩
 ·have hs:=d2 hz
  rw [sv_of hs,sv_of (b:=a) rfl,sv_of (b:=b) rfl]
  obtain ⟨h3,h4⟩:=h2
  generalize W (divV a b)=q at *
  generalize W a=p at *
  generalize W b=s at *
  cases fNeg a<;>cases fNeg b<;>simp only [bne_self_eq_false,Bool.false_eq_true,if_true,if_false,Bool.true_bne,Bool.false_bne,Bool.not_false,Bool.not_true]<;>exact ⟨by grind,by grind⟩
section
variable {x:List Nat} (hx:Words x) (h1:1≤x.length) (h64:x.length≤64) (H:HCore x)
include hx h1 h64 H
theorem mu_ok:sv (hMu x)=(if hσ x then W (hR x) else -W (hR x))∧fPow (hMu x)≠2047∧W (hMu x)=W (hR x)∧fNeg (hMu x) = !hσ x:=by
 obtain ⟨p1,p2,p3,p4⟩:=word_pos H.rf
 obtain ⟨m1,m2,m3,m4⟩:=minus_neg p3
 have hW:W (fMinus (hR x))=W (hR x):=by unfold W fMag fPl; rw [m2,m3]
 have hdef:hMu x=if hσ x then hR x else fMinus (hR x):=rfl
 rw [hdef]
 cases hσ x
 ·simp only [Bool.false_eq_true,if_false]
  exact ⟨by rw [sv_minus p3,sv_pos p2],by rw [m2]; exact p1,hW,by rw [m1,p2]⟩
 ·simp only [if_true]
  exact ⟨sv_pos p2,p1,trivial,p2⟩
theorem dd_small:W (el (hY x) 0)+W (hR x)≤32∧1≤W (el (hY x) 0)+W (hR x)∧W (el (hY x) 0)≤W (hR x):=by
 have a:=H.yle 0 h1
 have b:=H.le
 have c:=H.one
 have d:=W_nonneg (el (hY x) 0)
 exact ⟨by grind,by grind,a⟩
theorem big32:(32:Rat)≤P2 1023:=by decide +kernel
theorem hD_ok:Fl (hD x) (if hσ x then -(W (el (hY x) 0)+W (hR x)) else W (el (hY x) 0)+W (hR x)) (2*uu*(W (el (hY x) 0)+W (hR x))):=by
 obtain ⟨m1,m2,m3,m4⟩:=mu_ok hx h1 h64 H
 obtain ⟨d1,d2,d3⟩:=dd_small hx h1 h64 H
 have e:sv (el (hY x) 0)-sv (hMu x)=if hσ x then -(W (el (hY x) 0)+W (hR x)) else W (el (hY x) 0)+W (hR x):=by
  rw [H.s0,m1]; cases hσ x<;>simp<;>grind
 have hAb:Ab (sv (el (hY x) 0)-sv (hMu x)) (W (el (hY x) 0)+W (hR x)):=by
  rw [e]; cases hσ x<;>simp only [Bool.false_eq_true,if_true,if_false]<;>exact ⟨by grind,by grind⟩
 have f:=fl_sub (H.yf 0 h1) m2 (hMu_lt hx h1 h64) hAb (Rat.le_trans d1 (big32 hx h1 h64 H))
 rw [e] at f
 refine f.mono ?_
 obtain ⟨n1,n2⟩:=ee1
 have h3:1*uu≤(W (el (hY x) 0)+W (hR x))*uu:=Rat.mul_le_mul_of_nonneg_right d2 uu_pos
 generalize W (el (hY x) 0)+W (hR x)=dd at *
 have:=uu_pos
 grind
theorem hE_ok:Fl (subV (hMu x) (el (hY x) 0)) (if !hσ x then -(W (el (hY x) 0)+W (hR x)) else W (el (hY x) 0)+W (hR x)) (2*uu*(W (el (hY x) 0)+W (hR x))):=by
 obtain ⟨m1,m2,m3,m4⟩:=mu_ok hx h1 h64 H
 obtain ⟨d1,d2,d3⟩:=dd_small hx h1 h64 H
 have e:sv (hMu x)-sv (el (hY x) 0)=if !hσ x then -(W (el (hY x) 0)+W (hR x)) else W (el (hY x) 0)+W (hR x):=by
  rw [H.s0,m1]; cases hσ x<;>simp<;>grind
 have hAb:Ab (sv (hMu x)-sv (el (hY x) 0)) (W (el (hY x) 0)+W (hR x)):=by
  rw [e]; cases hσ x<;>simp only [Bool.not_true,Bool.not_false,Bool.false_eq_true,if_true,if_false]<;>exact ⟨by grind,by grind⟩
 have f:=fl_sub m2 (H.yf 0 h1) ((hY_words hx h1 h64).el 0) hAb (Rat.le_trans d1 (big32 hx h1 h64 H))
 rw [e] at f
 refine f.mono ?_
 obtain ⟨n1,n2⟩:=ee1
 have h3:1*uu≤(W (el (hY x) 0)+W (hR x))*uu:=Rat.mul_le_mul_of_nonneg_right d2 uu_pos
 generalize W (el (hY x) 0)+W (hR x)=dd at *
 have:=uu_pos
 grind
theorem hD_W:fNeg (hD x)=hσ x∧Re (W (hD x)) (W (el (hY x) 0)+W (hR x)) 2:=by
 have f:=hD_ok hx h1 h64 H
 obtain ⟨d1,d2,d3⟩:=dd_small hx h1 h64 H
 refine f.sign ?_
 have h3:(W (el (hY x) 0)+W (hR x))*(2*uu)≤(W (el (hY x) 0)+W (hR x))*(1/1000):=Rat.mul_le_mul_of_nonneg_left (by decide +kernel) (by grind)
 generalize W (el (hY x) 0)+W (hR x)=dd at *
 generalize uu=u at *
 grind
theorem hTau_ok:fPow (hTau x)≠2047∧fNeg (hTau x)=false∧Re (W (hTau x)*W (hR x)) (W (el (hY x) 0)+W (hR x)) 6:=by
 obtain ⟨m1,m2,m3,m4⟩:=mu_ok hx h1 h64 H
 obtain ⟨d1,d2,d3⟩:=dd_small hx h1 h64 H
 have f:=hE_ok hx h1 h64 H
 have h3:(W (el (hY x) 0)+W (hR x))*(2*uu)≤(W (el (hY x) 0)+W (hR x))*(1/1000):=Rat.mul_le_mul_of_nonneg_left (by decide +kernel) (by grind)
 obtain ⟨s1,s2⟩:=f.sign (by
  generalize W (el (hY x) 0)+W (hR x)=dd at *
  generalize uu=u at *
  grind)
 have o:=H.one
 have hE1:1/2≤W (subV (hMu x) (el (hY x) 0))∧W (subV (hMu x) (el (hY x) 0))≤4*W (hR x):=by
  obtain ⟨a,b⟩:=s2
  generalize W (subV (hMu x) (el (hY x) 0))=E at *
  generalize W (hR x)=M at *
  generalize W (el (hY x) 0)=Y at *
  generalize uu=u at *
  exact ⟨by grind,by grind⟩
 have hm:fMag (hMu x)≠0:=mag_pos (by rw [m3]; grind)
 have hE0:fMag (subV (hMu x) (el (hY x) 0))≠0:=mag_pos (by have:=hE1.1; grind)
 obtain ⟨t1,t2,t3,t4,t5⟩:=div_err f.lt (hMu_lt hx h1 h64) f.fin m2 hm (by rw [m3]; exact hE1.2) (by rw [m3]; exact H.le)
 rw [m3] at t4 t5
 refine ⟨t1,by unfold hTau; rw [t2 hE0,s1,m4]; cases hσ x<;>rfl,?_⟩
 have r1:Re (W (hTau x)*W (hR x)) (W (subV (hMu x) (el (hY x) 0))) 3:=by
  obtain ⟨n1,n2⟩:=ee1
  have h4:(1/2)*uu≤W (subV (hMu x) (el (hY x) 0))*uu:=Rat.mul_le_mul_of_nonneg_right hE1.1 uu_pos
  unfold hTau
  generalize W (divV (subV (hMu x) (el (hY x) 0)) (hMu x))*W (hR x)=q at *
  generalize W (subV (hMu x) (el (hY x) 0))=E at *
  have t4':q≤E+E*(2*uu)+16*ee:=t4
  have t5':E≤q+E*(2*uu)+16*ee:=t5
  have:=uu_pos
  exact ⟨by grind,by grind⟩
 have s3:Re (W (subV (hMu x) (el (hY x) 0))) (W (el (hY x) 0)+W (hR x)) 2:=s2
 exact (r1.trans s3 (by grind) (by decide +kernel) (by decide +kernel) (by decide +kernel)).mono (by decide +kernel) (by grind)
theorem hTau_range:1≤W (hTau x)+6*uu∧W (hTau x)≤2+12*uu:=by
 obtain ⟨t1,t2,t3,t4⟩:=hTau_ok hx h1 h64 H
 obtain ⟨d1,d2,d3⟩:=dd_small hx h1 h64 H
 have o:=H.one
 have y0:=W_nonneg (el (hY x) 0)
 have hM:0<W (hR x):=by grind
 constructor
 ·refine Rat.le_of_mul_le_mul_right (c:=W (hR x)) ?_ hM
  have h6:W (hR x)*(6*uu)≤(W (el (hY x) 0)+W (hR x))*(6*uu):=Rat.mul_le_mul_of_nonneg_right (by grind) (by decide +kernel)
  have h7:(W (el (hY x) 0))*(6*uu)≤W (el (hY x) 0)*1:=Rat.mul_le_mul_of_nonneg_left (by decide +kernel) y0
  have:(W (hTau x)+6*uu)*W (hR x)=W (hTau x)*W (hR x)+6*uu*W (hR x):=by grind
  rw [this]
  generalize W (hTau x)*W (hR x)=q at *
  generalize W (hR x)=M at *
  generalize W (el (hY x) 0)=Y at *
  generalize uu=u at *
  grind
 ·refine Rat.le_of_mul_le_mul_right (c:=W (hR x)) ?_ hM
  have h6:(W (el (hY x) 0)+W (hR x))*(6*uu)≤(2*W (hR x))*(6*uu):=Rat.mul_le_mul_of_nonneg_right (by grind) (by decide +kernel)
  have:(2+12*uu)*W (hR x)=2*W (hR x)+12*uu*W (hR x):=by grind
  rw [this]
  generalize W (hTau x)*W (hR x)=q at *
  generalize W (hR x)=M at *
  generalize W (el (hY x) 0)=Y at *
  generalize uu=u at *
  grind
end
theorem sum_first (p:Nat→Rat) {n:Nat} (h:1≤n):sumP p n=p 0+sumP (fun i=>p (1+i)) (n-1):=by
 have h1:=sumP_split p 1 (n-1)
 rw [show 1+(n-1)=n by omega] at h1
 rw [h1]
 show 0+p 0+_=_
 grind
section
variable {x:List Nat} (hx:Words x) (h1:1≤x.length) (h6:x.length≤6) (H:HCore x)
include hx h1 h6 H
theorem r_small:W (hR x)≤5:=by
 have hs:=H.sq
 have hN:sumA (fun i=>W (el (hY x) i)) x.length≤24:=by
  rw [sumA_sumP]
  refine Rat.le_trans (sumP_le (q:=fun _=>4) fun i hi => ?_) ?_
  ·have:=rat_sq_le (W_nonneg (el (hY x) i)) (H.y2 i hi)
   grind
  ·rw [sumP_const]
   have:((x.length:Nat):Rat)≤((6:Nat):Rat):=Rat.natCast_le_natCast.2 h6
   have e:((6:Nat):Rat)=6:=rfl
   rw [e] at this
   grind
 obtain ⟨a,b⟩:=hs
 have h3:150*uu*sumA (fun i=>W (el (hY x) i)) x.length≤150*uu*24:=Rat.mul_le_mul_of_nonneg_left hN (by decide +kernel)
 have h4:150*uu*24≤1:=by decide +kernel
 have:=Ab.of_sq (x:=W (hR x)) (a:=5) (by decide +kernel) (by
  generalize W (hR x)*W (hR x)=z at *
  generalize sumA (fun i=>W (el (hY x) i)) x.length=N at *
  generalize uu=u at *
  grind)
 exact this.2
theorem hD_small:W (hD x)≤16∧1/2≤W (hD x)∧fMag (hD x)≠0∧fPow (hD x)≠2047∧hD x<18446744073709551616:=by
 have h64:x.length≤64:=by omega
 have f:=hD_ok hx h1 h64 H
 obtain ⟨n,a,b⟩:=hD_W hx h1 h64 H
 obtain ⟨d1,d2,d3⟩:=dd_small hx h1 h64 H
 have r5:=r_small hx h1 h6 H
 have h3:2*uu*(W (el (hY x) 0)+W (hR x))≤2*uu*32:=Rat.mul_le_mul_of_nonneg_left d1 (by decide +kernel)
 have h4:2*uu*32≤1/4:=by decide +kernel
 have k1:1/2≤W (hD x):=by
  generalize W (hD x)=D at *
  generalize W (el (hY x) 0)=Y at *
  generalize W (hR x)=M at *
  generalize uu=u at *
  grind
 refine ⟨?_,k1,mag_pos (by grind),f.fin,f.lt⟩
 generalize W (hD x)=D at *
 generalize W (el (hY x) 0)=Y at *
 generalize W (hR x)=M at *
 generalize uu=u at *
 grind
theorem hV_ok {i:Nat} (hi:i<x.length):fPow (hVG x i)≠2047∧Er (sv (hVG x i)*sv (hD x)) (sv (el (hY x) i)) (W (el (hY x) i)*(2*uu)+16*ee)∧Er (W (hVG x i)*W (hD x)) (W (el (hY x) i)) (W (el (hY x) i)*(2*uu)+16*ee)∧W (hVG x i)≤101/100:=by
 have h64:x.length≤64:=by omega
 obtain ⟨s1,s2,s3,s4,s5⟩:=hD_small hx h1 h6 H
 obtain ⟨n,a,b⟩:=hD_W hx h1 h64 H
 obtain ⟨d1,d2,d3⟩:=dd_small hx h1 h64 H
 have hyi:=H.yle i hi
 have hy0:=W_nonneg (el (hY x) i)
 have h00:=W_nonneg (el (hY x) 0)
 have o:=H.one
 obtain ⟨n1,n2⟩:=ee1
 have h3:2*uu*(W (el (hY x) 0)+W (hR x))≤1/1000*(W (el (hY x) 0)+W (hR x)):=Rat.mul_le_mul_of_nonneg_right (by decide +kernel) (by grind)
 have hyD:W (el (hY x) i)≤1001/1000*W (hD x)+1/1000*W (hD x):=by
  generalize W (hD x)=D at *
  generalize W (el (hY x) 0)=Y at *
  generalize W (hR x)=M at *
  generalize uu=u at *
  grind
 obtain ⟨q1,q2,q3⟩:=fl_div ((hY_words hx h1 h64).el i) s5 (H.yf i hi) s4 s3 (by grind) s1
 refine ⟨q1,q2,q3,?_⟩
 obtain ⟨q4,q5⟩:=q3
 have h4:W (el (hY x) i)*(2*uu)≤W (el (hY x) i)*(1/1000):=Rat.mul_le_mul_of_nonneg_left (by decide +kernel) hy0
 have h5:16*ee≤1/10000:=by decide +kernel
 refine Rat.le_of_mul_le_mul_right (c:=W (hD x)) ?_ (by grind)
 unfold hVG
 generalize W (divV (el (hY x) i) (hD x))*W (hD x)=q at *
 generalize W (hD x)=D at *
 generalize W (el (hY x) i)=y at *
 have q4':q≤y+(y*(2*uu)+16*ee):=q4
 generalize uu=u at *
 generalize ee=e at *
 grind
theorem hvv_ok:Re (W (hTau x)*(1+sumP (fun i=>W (hVG x (1+i))*W (hVG x (1+i))) (x.length-1))) 2 172:=by
 have h64:x.length≤64:=by omega
 obtain ⟨s1,s2,s3,s4,s5⟩:=hD_small hx h1 h6 H
 obtain ⟨n,hD2⟩:=hD_W hx h1 h64 H
 obtain ⟨d1,d2,d3⟩:=dd_small hx h1 h64 H
 obtain ⟨t1,t2,t3⟩:=hTau_ok hx h1 h64 H
 have o:=H.one
 have hsq:=H.sq
 have hY0:=W_nonneg (el (hY x) 0)
 obtain ⟨n1,n2⟩:=ee1
 have hA:Er (sumP (fun i=>W (hVG x (1+i))*W (hVG x (1+i))) (x.length-1)*(W (hD x)*W (hD x))) (sumP (fun i=>W (el (hY x) (1+i))*W (el (hY x) (1+i))) (x.length-1)) (5*uu*sumP (fun i=>W (el (hY x) (1+i))*W (el (hY x) (1+i))) (x.length-1)+((x.length-1:Nat):Rat)*(80000*ee)):=by
  rw [←sumP_mulr,←sumP_mul,←sumP_const,←sumP_add]
  refine sumP_er fun i hi => ?_
  obtain ⟨v1,v2,v3,v4⟩:=hV_ok hx h1 h6 H (i:=1+i) (by omega)
  obtain ⟨e1,e2⟩:=err_sqC (a:=W (el (hY x) (1+i))) (T:=W (hVG x (1+i))*W (hD x)) (η:=16*ee) (W_nonneg _) (Rat.le_trans (H.y2 _ (by omega)) (by decide +kernel)) (Rat.mul_nonneg (W_nonneg _) (W_nonneg _)) (by grind) (by
   have:(16:Rat)*(uu*(1/1000000000))≤1/1000000:=by decide +kernel
   grind) (by have:=v3.1; grind) (by have:=v3.2; grind)
  have e3:W (hVG x (1+i))*W (hD x)*(W (hVG x (1+i))*W (hD x))=W (hVG x (1+i))*W (hVG x (1+i))*(W (hD x)*W (hD x)):=by grind
  rw [e3] at e1 e2
  generalize W (hVG x (1+i))*W (hVG x (1+i))*(W (hD x)*W (hD x))=q at *
  generalize W (el (hY x) (1+i))*W (el (hY x) (1+i))=y at *
  exact ⟨by grind,by grind⟩
 have hN:sumA (fun i=>W (el (hY x) i)) x.length=W (el (hY x) 0)*W (el (hY x) 0)+sumP (fun i=>W (el (hY x) (1+i))*W (el (hY x) (1+i))) (x.length-1):=by
  rw [sumA_sumP,sum_first _ h1]
 have hB0:0≤sumP (fun i=>W (el (hY x) (1+i))*W (el (hY x) (1+i))) (x.length-1):=sumP_nonneg fun i _=>Rat.mul_nonneg (W_nonneg _) (W_nonneg _)
 have hV0:0≤sumP (fun i=>W (hVG x (1+i))*W (hVG x (1+i))) (x.length-1):=sumP_nonneg fun i _=>Rat.mul_nonneg (W_nonneg _) (W_nonneg _)
 rw [hN] at hsq
 have hnn:((x.length-1:Nat):Rat)*(80000*ee)≤uu:=by
  have a1:((x.length-1:Nat):Rat)≤((6:Nat):Rat):=Rat.natCast_le_natCast.2 (by omega)
  have a2:((6:Nat):Rat)=6:=rfl
  rw [a2] at a1
  have a3:=Rat.mul_le_mul_of_nonneg_right a1 (c:=80000*ee) (by grind)
  have a4:(6:Rat)*(80000*ee)≤uu:=by decide +kernel
  exact Rat.le_trans a3 a4
 have hT0:=W_nonneg (hTau x)
 generalize ((x.length-1:Nat):Rat)*(80000*ee)=tiny at *
 generalize sumP (fun i=>W (hVG x (1+i))*W (hVG x (1+i))) (x.length-1)=V at *
 generalize sumP (fun i=>W (el (hY x) (1+i))*W (el (hY x) (1+i))) (x.length-1)=B at *
 generalize W (hTau x)=T at *
 generalize W (hD x)=Dh at *
 generalize W (el (hY x) 0)=Y at *
 generalize W (hR x)=M at *
 clear hN H hx n s3 s4 s5 t1 t2 n1 n2
 have hdd0:0≤Y+M:=by grind
 have hd2:=hD2.mul hD2 hdd0 hdd0 (by decide +kernel) (by decide +kernel) (by decide +kernel) (by decide +kernel)
 have hd5:Re (Dh*Dh) ((Y+M)*(Y+M)) 5:=hd2.mono (by decide +kernel) (Rat.mul_nonneg hdd0 hdd0)
 have hdd1:1≤(Y+M)*(Y+M):=by have:=rat_sq_le (by decide +kernel) d2; grind
 have R2:Re ((1+V)*(Dh*Dh)) ((Y+M)*(Y+M)+B) 6:=by
  obtain ⟨a1,a2⟩:=hd5
  obtain ⟨b1,b2⟩:=hA
  have hu:uu*1≤uu*((Y+M)*(Y+M)):=Rat.mul_le_mul_of_nonneg_left hdd1 uu_pos
  have huB:0≤uu*B:=Rat.mul_nonneg uu_pos hB0
  have e:(1+V)*(Dh*Dh)=Dh*Dh+V*(Dh*Dh):=by grind
  show Er _ _ _
  rw [e]
  generalize V*(Dh*Dh)=q at *
  generalize Dh*Dh=p at *
  generalize (Y+M)*(Y+M)=d at *
  generalize uu=u at *
  exact ⟨by grind,by grind⟩
 have hMM:0≤M*M:=Rat.mul_nonneg (by grind) (by grind)
 have hYM:0≤Y*M:=Rat.mul_nonneg hY0 (by grind)
 have hYY:0≤Y*Y:=Rat.mul_nonneg hY0 hY0
 have R3:Re ((Y+M)*(Y+M)+B) (2*M*(Y+M)) 151:=by
  obtain ⟨a1,a2⟩:=(Re.symm hsq (by grind) (by decide +kernel) (by decide +kernel))
  have hu:0≤uu*(M*M):=Rat.mul_nonneg uu_pos hMM
  have hu2:0≤uu*(Y*M):=Rat.mul_nonneg uu_pos hYM
  have e1:(Y+M)*(Y+M)+B=2*(Y*M)+M*M+(Y*Y+B):=by grind
  have e2:2*M*(Y+M)=2*(Y*M)+2*(M*M):=by grind
  show Er _ _ _
  rw [e1,e2]
  generalize Y*Y+B=N at *
  generalize M*M=m at *
  generalize Y*M=ym at *
  generalize uu=u at *
  exact ⟨by grind,by grind⟩
 have h2Md:0≤2*M*(Y+M):=by
  have e2:2*M*(Y+M)=2*(Y*M)+2*(M*M):=by grind
  rw [e2]; grind
 have R4:Re ((1+V)*(Dh*Dh)) (2*M*(Y+M)) 158:=(R2.trans R3 h2Md (by decide +kernel) (by decide +kernel) (by decide +kernel)).mono (by decide +kernel) h2Md
 have R5:Re (T*M*((1+V)*(Dh*Dh))) ((Y+M)*(2*M*(Y+M))) 165:=(t3.mul R4 hdd0 h2Md (by decide +kernel) (by decide +kernel) (by decide +kernel) (by decide +kernel)).mono (by decide +kernel) (Rat.mul_nonneg hdd0 h2Md)
 have R6:Re ((Y+M)*(Y+M)) (Dh*Dh) 6:=(hd5.symm (by grind) (by decide +kernel) (by decide +kernel)).mono (by decide +kernel) (Rat.mul_nonneg (by grind) (by grind))
 have R7:=R6.scale (z:=2*M) (by grind)
 have hDD:0≤Dh*Dh*(2*M):=Rat.mul_nonneg (Rat.mul_nonneg (by grind) (by grind)) (by grind)
 have e3:(Y+M)*(2*M*(Y+M))=(Y+M)*(Y+M)*(2*M):=by grind
 rw [e3] at R5
 have R8:=(R5.trans R7 hDD (by decide +kernel) (by decide +kernel) (by decide +kernel)).mono (k':=172) (by decide +kernel) hDD
 have e4:T*M*((1+V)*(Dh*Dh))=T*(1+V)*(M*(Dh*Dh)):=by grind
 have e5:Dh*Dh*(2*M)=2*(M*(Dh*Dh)):=by grind
 rw [e4,e5] at R8
 exact R8.cancel (Rat.mul_pos (by grind) (Rat.mul_pos (by grind) (by grind)))
end
theorem sumP_ab {p:Nat→Rat} {a:Rat}:∀{n:Nat},(∀i,i<n→Ab (p i) a)→Ab (sumP p n) ((n:Rat)*a)
 | 0,_=>by unfold sumP; simp; exact ⟨by grind,by grind⟩
 | n+1,h=>by
  have h1:=sumP_ab (p:=p) (a:=a) (n:=n) (fun i hi=>h i (by omega))
  have h2:=h1.add (h n (by omega))
  unfold sumP
  rw [nat_rat]
  exact h2.mono (by grind)
def dotX (v z:List Nat) (n:Nat):Rat:=sumP (fun i=>sv (el v i)*sv (el z i)) n
def mirX (v z:List Nat) (tau:Nat) (j:Nat):Rat:=sv (el z j)-sv tau*dotX v z v.length*sv (el v j)
def mirF (v z:List Nat) (tau:Nat) (j:Nat):Nat:=subV (el z j) (mulV (mulV tau (dotV v z)) (el v j))
section
end
theorem dot_nought {v z:List Nat} (hv:∀j,j<v.length→fPow (el v j)≠2047) (hz:∀j,j<v.length→fPow (el z j)≠2047∧W (el z j)=0):∀(m:Nat) {i s:Nat},i+m=v.length→fPow s≠2047→fMag s=0→fPow (dotR v z m i s)≠2047∧fMag (dotR v z m i s)=0
 | 0,_,_,_,h1,h2=>⟨h1,h2⟩
 | m+1,i,s,hi,h1,h2=>by
  obtain ⟨a,b⟩:=hz i (by omega)
  obtain ⟨c1,c2,c3⟩:=mul_nought (hv i (by omega)) a (mag_of_W b)
  obtain ⟨d1,d2,d3⟩:=add_nought h1 c2 h2 c3
  exact dot_nought hv hz m (i:=i+1) (by omega) d2 d3
theorem col_nought {v z:List Nat} {tau:Nat} (ht:fPow tau≠2047) (hv:∀j,j<v.length→fPow (el v j)≠2047) (hz:∀j,j<v.length→fPow (el z j)≠2047∧W (el z j)=0) {j:Nat} (hj:j<v.length):fPow (mirF v z tau j)≠2047∧W (mirF v z tau j)=0:=by
 obtain ⟨a1,a2⟩:=dot_nought hv hz v.length (i:=0) (s:=0) (by omega) (by decide) (by decide)
 rw [show dotR v z v.length 0 0=dotV v z from rfl] at a1 a2
 obtain ⟨b1,b2,b3⟩:=mul_nought ht a1 a2
 obtain ⟨c1,c2,c3⟩:=mul_nought (hv j hj) b2 b3
 rw [mulV_comm] at c1 c2 c3
 obtain ⟨m1,m2⟩:=minus_fields (b:=mulV (mulV tau (dotV v z)) (el v j)) mulV_lt
 obtain ⟨z1,z2⟩:=hz j hj
 obtain ⟨d1,d2,d3⟩:=add_nought (a:=el z j) (b:=fMinus (mulV (mulV tau (dotV v z)) (el v j))) z1 (by rw [m1]; exact c2) (mag_of_W z2) (by rw [m2]; exact c3)
 exact ⟨d2,W_zero_of d3⟩
theorem apI_at {cl v:List Nat} {r t i c cc:Nat} (hcc:cc<c):∀(n j:Nat) {m:List Nat},m.length=r*c→i+j+n≤r→∀a,j≤a→a<j+n→el (apI cl v t i c cc n j m) (ps (i+a) c cc)=subV (el cl a) (mulV t (el v a))
 | 0,j,m,_,_,a,h1,h2=>by omega
 | n+1,j,m,hl,hr,a,h1,h2=>by
  unfold apI
  rcases Nat.eq_or_lt_of_le h1 with h3 | h3
  ·subst h3
   have key:∀(n' j':Nat) (m':List Nat),j<j'→el (apI cl v t i c cc n' j' m') (ps (i+j) c cc)=el m' (ps (i+j) c cc):=by
    intro n'
    induction n' with
    | zero=>intro j' m' _; rfl
    | succ n' ih =>
     intro j' m' hj'
     unfold apI
     rw [ih (j'+1) _ (by omega),el_set,if_neg (fun hh=>by have:=(ps_inj hcc hcc hh.1).1; omega)]
   rw [key n (j+1) _ (by omega),el_set,if_pos ⟨rfl,by rw [hl]; exact ps_lt (by omega) hcc⟩]
  ·exact apI_at hcc n (j+1) (by rw [List.length_set,hl]) (by omega) a (by omega) (by omega)
theorem apI_len {cl v:List Nat} {t i c cc:Nat}:∀(n j:Nat) (m:List Nat),(apI cl v t i c cc n j m).length=m.length
 | 0,_,_=>rfl
 | n+1,j,m=>by unfold apI; rw [apI_len n,List.length_set]
theorem apO_at {r c:Nat} {x v:List Nat} {tau i:Nat} (hi:i+v.length≤r):∀(n cc:Nat) {m:List Nat},cc+n=c→m.length=r*c→∀b,cc≤b→b<c→∀a,a<v.length→el (apO r c x v tau i n cc m) (ps (i+a) c b)=subV (el (colL r c x b i) a) (mulV (apT r c x v tau i b) (el v a))
 | 0,cc,m,h1,_,b,h2,h3,a,h4=>by omega
 | n+1,cc,m,h1,hl,b,h2,h3,a,h4=>by
  unfold apO
  rcases Nat.eq_or_lt_of_le h2 with h5 | h5
  ·subst h5
   rw [apO_other n (cc+1) (fun j' cc' h6 h7 hh=>by have:=(ps_inj (show cc'<c by omega) h3 hh).2; omega)]
   exact apI_at (r:=r) h3 v.length 0 hl (by omega) a (by omega) (by omega)
  ·exact apO_at hi n (cc+1) (by omega) (by rw [apI_len,hl]) b (by omega) h3 a h4
theorem apV_at {r c:Nat} {x v:List Nat} {tau i k:Nat} (h:Mx r c x) (hi:i+v.length≤r) (hk:k≤c) {b:Nat} (hb1:k≤b) (hb:b<c) {a:Nat} (ha:a<v.length) :
  el (apV r c x i k v tau) (ps (i+a) c b)=mirF v ((colL r c x b i).take v.length) tau a:=by
 unfold apV
 rw [apO_at hi (c-k) k (by omega) h.len b hb1 hb a ha]
 unfold mirF apT
 rw [el_take ha]
theorem take_all {z:List Nat} {n:Nat} (h:z.length=n):z.take n=z:=List.take_of_length_le (by omega)
section
end
theorem Ab.cancel {a b z:Rat} (h:Ab (a*z) (b*z)) (hz:0<z):Ab a b:=by
 obtain ⟨h1,h2⟩:=h
 constructor
 ·refine Rat.le_of_mul_le_mul_right (c:=z) ?_ hz
  rw [Rat.neg_mul]; exact h1
 ·exact Rat.le_of_mul_le_mul_right h2 hz
theorem nou_all {x:List Nat}:∀(n i:Nat),nou x n i=true→∀k,i≤k→k<i+n→fKind (el x k)=0
 | 0,i,_,k,h1,h2=>by omega
 | n+1,i,h,k,h1,h2=>by
  unfold nou at h
  by_cases c:fKind (el x i)=0
  ·rcases Nat.eq_or_lt_of_le h1 with h3 | h3
   ·subst h3; exact c
   ·exact nou_all n (i+1) (by simpa [c] using h) k (by omega) (by omega)
  ·simp [c] at h
theorem w1_lin {M2 YM Y2 B YD S U1 U2 U3 U4 u tiny:Rat} (h2:0≤U2) (h1:0≤U1) (c1:YD≤Y2+YM+2*(U3+U2)) (c2:Y2+YM≤YD+2*(U3+U2)) (f1:S≤B+2*U4+tiny) (f2:B≤S+2*U4+tiny)
  (a1:Y2+B≤M2+151*U1) (a2:M2≤Y2+B+151*U1) (k7:U3+U4≤U1+151/1000000*U1) (ht:tiny≤u) (hu:u≤U1+U2):YD+S≤M2+YM+160*(U1+U2)∧M2+YM≤YD+S+160*(U1+U2):=by
 constructor<;>grind
structure PF {ι:Type} (S:(ι→Rat)→Rat):Prop where
 add:∀f g:ι→Rat,S (fun i=>f i+g i)=S f+S g
 mul:∀(k:Rat) (f:ι→Rat),S (fun i=>k*f i)=k*S f
 nn:∀f:ι→Rat,(∀i,0≤f i)→0≤S f
theorem pf_sum (n:Nat):PF (fun f:Nat→Rat=>sumP f n):=⟨fun f g=>sumP_add f g n,fun k f=>sumP_mul f k n,fun _ h=>sumP_nonneg fun i _=>h i⟩
def sum2 (r c:Nat) (X:Nat→Nat→Rat):Rat:=sumP (fun i=>sumP (X i) c) r
theorem pf_sum2 (r c:Nat):PF (fun f:Nat × Nat→Rat=>sum2 r c fun i k=>f (i,k)):=by
 refine ⟨fun f g => ?_,fun k f => ?_,fun f h => ?_⟩
 ·unfold sum2
  rw [←sumP_add]
  exact sumP_congr fun i _=>sumP_add _ _ _
 ·unfold sum2
  rw [←sumP_mul]
  exact sumP_congr fun i _=>sumP_mul _ _ _
 ·exact sumP_nonneg fun i _=>sumP_nonneg fun k _=>h _
section
variable {ι:Type} {S:(ι→Rat)→Rat} (h:PF S)
include h
theorem PF.cs (x y:ι→Rat):S (fun i=>x i*y i)*S (fun i=>x i*y i)≤S (fun i=>x i*x i)*S (fun i=>y i*y i):=by
 have key:∀s t:Rat,0≤s*s*S (fun i=>x i*x i)+2*s*t*S (fun i=>x i*y i)+t*t*S (fun i=>y i*y i):=fun s t=>by
  have h1:=h.nn (fun i=>(s*x i+t*y i)*(s*x i+t*y i)) (fun i=>rat_sq_nonneg _)
  have e:(fun i=>(s*x i+t*y i)*(s*x i+t*y i))=fun i=>(s*s*(x i*x i)+2*s*t*(x i*y i))+t*t*(y i*y i):=by
   funext i; grind
  rw [e,h.add (fun i=>s*s*(x i*x i)+2*s*t*(x i*y i)) (fun i=>t*t*(y i*y i)),h.add (fun i=>s*s*(x i*x i)) (fun i=>2*s*t*(x i*y i)),h.mul,h.mul,h.mul] at h1
  exact h1
 have hA:=h.nn (fun i=>x i*x i) (fun i=>rat_sq_nonneg _)
 have hC:=h.nn (fun i=>y i*y i) (fun i=>rat_sq_nonneg _)
 generalize S (fun i=>x i*x i)=A at *
 generalize S (fun i=>x i*y i)=B at *
 generalize S (fun i=>y i*y i)=C at *
 rcases Rat.le_total (a:=C) (b:=0) with hc | hc
 ·have hc0:C=0:=by grind
  subst hc0
  by_cases hB:B=0
  ·subst hB; grind
  ·have hk:=key 1 (-((A+1)*B⁻¹))
   have e:B*B⁻¹=1:=Rat.mul_inv_cancel _ hB
   have e2:2*1 * -((A+1)*B⁻¹)*B = -(2*(A+1)):=by grind
   rw [e2] at hk
   grind
 ·by_cases hc0:C=0
  ·subst hc0
   by_cases hB:B=0
   ·subst hB; grind
   ·have hk:=key 1 (-((A+1)*B⁻¹))
    have e:B*B⁻¹=1:=Rat.mul_inv_cancel _ hB
    have e2:2*1 * -((A+1)*B⁻¹)*B = -(2*(A+1)):=by grind
    rw [e2] at hk
    grind
  ·have hcp:0<C:=by grind
   have hk:=key C (-B)
   refine Rat.le_of_mul_le_mul_right (c:=C) ?_ hcp
   grind
end
def NS {ι:Type} (S:(ι→Rat)→Rat) (x:ι→Rat) (b:Rat):Prop:=0≤b∧S (fun i=>x i*x i)≤b*b
theorem NS.mono {ι:Type} {S:(ι→Rat)→Rat} {x:ι→Rat} {b b':Rat} (h:NS S x b) (hb:b≤b'):NS S x b':=⟨Rat.le_trans h.1 hb,Rat.le_trans h.2 (rat_sq_le h.1 hb)⟩
section
variable {ι:Type} {S:(ι→Rat)→Rat} (h:PF S)
include h
theorem NS.ip {x y:ι→Rat} {a b:Rat} (hx:NS S x a) (hy:NS S y b):Ab (S fun i=>x i*y i) (a*b):=by
 refine Ab.of_sq (Rat.mul_nonneg hx.1 hy.1) ?_
 have h1:=h.cs x y
 have h2:=h.nn (fun i=>x i*x i) (fun i=>rat_sq_nonneg _)
 have h3:=Rat.mul_le_mul_of_nonneg_left hy.2 h2
 have h4:=Rat.mul_le_mul_of_nonneg_right hx.2 (Rat.mul_nonneg hy.1 hy.1)
 have e:a*b*(a*b)=a*a*(b*b):=by grind
 rw [e]
 exact Rat.le_trans h1 (Rat.le_trans h3 h4)
theorem NS.add {x y:ι→Rat} {a b:Rat} (hx:NS S x a) (hy:NS S y b):NS S (fun i=>x i+y i) (a+b):=by
 refine ⟨by have:=hx.1; have:=hy.1; grind,?_⟩
 have e:(fun i=>(x i+y i)*(x i+y i))=fun i=>(x i*x i+2*(x i*y i))+y i*y i:=by funext i; grind
 rw [e,h.add (fun i=>x i*x i+2*(x i*y i)) (fun i=>y i*y i),h.add (fun i=>x i*x i) (fun i=>2*(x i*y i)),h.mul]
 have h1:=(hx.ip h hy).2
 have h2:=hx.2
 have h3:=hy.2
 grind
theorem NS.smul {x:ι→Rat} {a:Rat} (k:Rat) {k':Rat} (hk:Ab k k') (hx:NS S x a):NS S (fun i=>k*x i) (k'*a):=by
 refine ⟨Rat.mul_nonneg hk.nonneg hx.1,?_⟩
 have e:(fun i=>k*x i*(k*x i))=fun i=>k*k*(x i*x i):=by funext i; grind
 rw [e,h.mul]
 have h1:=hk.mul hk
 have h2:=h.nn (fun i=>x i*x i) (fun i=>rat_sq_nonneg _)
 have h3:=Rat.mul_le_mul_of_nonneg_right h1.2 h2
 have h4:=Rat.mul_le_mul_of_nonneg_left hx.2 (Rat.mul_nonneg hk.nonneg hk.nonneg)
 have e2:k'*a*(k'*a)=k'*k'*(a*a):=by grind
 rw [e2]
 exact Rat.le_trans h3 h4
theorem NS.neg {x:ι→Rat} {a:Rat} (hx:NS S x a):NS S (fun i => -x i) a:=by
 refine ⟨hx.1,?_⟩
 have e:(fun i => -x i * -x i)=fun i=>x i*x i:=by funext i; grind
 rw [e]; exact hx.2
theorem NS.sub {x y:ι→Rat} {a b:Rat} (hx:NS S x a) (hy:NS S y b):NS S (fun i=>x i-y i) (a+b):=by
 have:=hx.add h (hy.neg h)
 have e:(fun i=>x i + -y i)=fun i=>x i-y i:=by funext i; grind
 rwa [e] at this
end
def Nm (n:Nat) (x:Nat→Rat) (b:Rat):Prop:=NS (fun f=>sumP f n) x b
theorem Nm.mono {n:Nat} {x:Nat→Rat} {b b':Rat} (h:Nm n x b) (hb:b≤b'):Nm n x b':=NS.mono h hb
theorem Nm.congr {n:Nat} {x y:Nat→Rat} {b:Rat} (h:Nm n x b) (hh:∀i,i<n→x i=y i):Nm n y b :=
 ⟨h.1,by
  have:sumP (fun i=>y i*y i) n=sumP (fun i=>x i*x i) n:=sumP_congr fun i hi=>by rw [hh i hi]
  show sumP (fun i=>y i*y i) n≤_
  rw [this]; exact h.2⟩
theorem Nm.at {n:Nat} {x:Nat→Rat} {b:Rat} (h:Nm n x b) {i:Nat} (hi:i<n):Ab (x i) b :=
 Ab.of_sq h.1 (Rat.le_trans (sumP_mem (p:=fun i=>x i*x i) (fun i _=>rat_sq_nonneg _) i hi) h.2)
def FN (r c:Nat) (X:Nat→Nat→Rat) (b:Rat):Prop:=NS (fun f:Nat × Nat→Rat=>sum2 r c fun i k=>f (i,k)) (fun p=>X p.1 p.2) b
theorem FN.sq {r c:Nat} {X:Nat→Nat→Rat} {b:Rat} (h:FN r c X b):sum2 r c (fun i k=>X i k*X i k)≤b*b:=h.2
theorem FN.mono {r c:Nat} {X:Nat→Nat→Rat} {b b':Rat} (h:FN r c X b) (hb:b≤b'):FN r c X b':=NS.mono h hb
theorem FN.of {r c:Nat} {X:Nat→Nat→Rat} {b:Rat} (h0:0≤b) (h:sum2 r c (fun i k=>X i k*X i k)≤b*b):FN r c X b:=⟨h0,h⟩
theorem sum2_congr {r c:Nat} {X Y:Nat→Nat→Rat} (h:∀i k,i<r→k<c→X i k=Y i k):sum2 r c X=sum2 r c Y:=sumP_congr fun i hi=>sumP_congr fun k hk=>h i k hi hk
theorem sum2_le {r c:Nat} {X Y:Nat→Nat→Rat} (h:∀i k,i<r→k<c→X i k≤Y i k):sum2 r c X≤sum2 r c Y:=sumP_le fun i hi=>sumP_le fun k hk=>h i k hi hk
theorem sum2_nonneg {r c:Nat} {X:Nat→Nat→Rat} (h:∀i k,i<r→k<c→0≤X i k):0≤sum2 r c X:=sumP_nonneg fun i hi=>sumP_nonneg fun k hk=>h i k hi hk
theorem sum2_swap (r c:Nat) (X:Nat→Nat→Rat):sum2 r c X=sum2 c r fun k i=>X i k:=sumP_swap X c r
theorem sum2_mem {r c:Nat} {X:Nat→Nat→Rat} (h:∀i k,i<r→k<c→0≤X i k) {i k:Nat} (hi:i<r) (hk:k<c):X i k≤sum2 r c X :=
 Rat.le_trans (sumP_mem (p:=X i) (fun k hk=>h i k hi hk) k hk) (sumP_mem (p:=fun i=>sumP (X i) c) (fun i hi=>sumP_nonneg fun k hk=>h i k hi hk) i hi)
theorem FN.congr {r c:Nat} {X Y:Nat→Nat→Rat} {b:Rat} (h:FN r c X b) (hh:∀i k,i<r→k<c→X i k=Y i k):FN r c Y b :=
 FN.of h.1 (by rw [←sum2_congr (X:=fun i k=>X i k*X i k) fun i k hi hk=>by rw [hh i k hi hk]]; exact h.2)
theorem FN.at {r c:Nat} {X:Nat→Nat→Rat} {b:Rat} (h:FN r c X b) {i k:Nat} (hi:i<r) (hk:k<c):Ab (X i k) b :=
 Ab.of_sq h.1 (Rat.le_trans (sum2_mem (X:=fun i k=>X i k*X i k) (fun i k _ _=>rat_sq_nonneg _) hi hk) h.2)
theorem FN.add {r c:Nat} {X Y:Nat→Nat→Rat} {a b:Rat} (hx:FN r c X a) (hy:FN r c Y b):FN r c (fun i k=>X i k+Y i k) (a+b):=NS.add (pf_sum2 r c) hx hy
def trp (X:Nat→Nat→Rat):Nat→Nat→Rat:=fun i k=>X k i
theorem FN.tr {r c:Nat} {X:Nat→Nat→Rat} {b:Rat} (h:FN r c X b):FN c r (trp X) b:=FN.of h.1 (by unfold trp; rw [←sum2_swap r c fun i k=>X i k*X i k]; exact h.2)
theorem FN.zero (r c:Nat):FN r c (fun _ _=>0) 0:=FN.of Rat.le_refl (by unfold sum2; simp [sumP_zero])
def mm (n:Nat) (X Y:Nat→Nat→Rat):Nat→Nat→Rat:=fun i k=>sumP (fun j=>X i j*Y j k) n
theorem mm_congr {n:Nat} {X Y X' Y':Nat→Nat→Rat} {i k:Nat} (h:∀j,j<n→X i j=X' i j) (h':∀j,j<n→Y j k=Y' j k):mm n X Y i k=mm n X' Y' i k:=sumP_congr fun j hj=>by rw [h j hj,h' j hj]
theorem mm_addl (n:Nat) (X X' Y:Nat→Nat→Rat) (i k:Nat):mm n (fun i k=>X i k+X' i k) Y i k=mm n X Y i k+mm n X' Y i k:=by
 unfold mm; rw [←sumP_add]; exact sumP_congr fun j _=>by grind
theorem mm_addr (n:Nat) (X Y Y':Nat→Nat→Rat) (i k:Nat):mm n X (fun i k=>Y i k+Y' i k) i k=mm n X Y i k+mm n X Y' i k:=by
 unfold mm; rw [←sumP_add]; exact sumP_congr fun j _=>by grind
theorem sumP_neg (p:Nat→Rat) (n:Nat):sumP (fun i => -p i) n = -sumP p n:=by
 have:=sumP_mul p (-1) n
 have e:(fun i => -1*p i)=fun i => -p i:=by funext i; grind
 rw [e] at this; rw [this]; grind
theorem sumP_sub (p q:Nat→Rat) (n:Nat):sumP (fun i=>p i-q i) n=sumP p n-sumP q n:=by
 have:=sumP_add p (fun i => -q i) n
 have e:(fun i=>p i + -q i)=fun i=>p i-q i:=by funext i; grind
 rw [e,sumP_neg] at this; rw [this]; grind
theorem mm_tr (n:Nat) (X Y:Nat→Nat→Rat) (i k:Nat):mm n X Y i k=mm n (trp Y) (trp X) k i:=sumP_congr fun j _=>by unfold trp; grind
theorem FN.mul {r n c:Nat} {X Y:Nat→Nat→Rat} {a b:Rat} (hx:FN r n X a) (hy:FN n c Y b):FN r c (mm n X Y) (a*b):=by
 refine FN.of (Rat.mul_nonneg hx.1 hy.1) ?_
 have h1:sum2 r c (fun i k=>mm n X Y i k*mm n X Y i k)≤sum2 r c (fun i k=>sumP (fun j=>X i j*X i j) n*sumP (fun j=>Y j k*Y j k) n):=sum2_le fun i k _ _=>(pf_sum n).cs (X i) (fun j=>Y j k)
 have h2:sum2 r c (fun i k=>sumP (fun j=>X i j*X i j) n*sumP (fun j=>Y j k*Y j k) n)=sum2 r n (fun i j=>X i j*X i j)*sum2 n c (fun j k=>Y j k*Y j k):=by
  rw [sum2_swap n c]
  unfold sum2
  rw [←sumP_mulr]
  exact sumP_congr fun i _=>sumP_mul _ _ _
 rw [h2] at h1
 have h3:0≤sum2 r n (fun i j=>X i j*X i j):=sum2_nonneg fun i k _ _=>rat_sq_nonneg _
 have h4:=Rat.mul_le_mul_of_nonneg_left hy.sq h3
 have h5:=Rat.mul_le_mul_of_nonneg_right hx.sq (Rat.mul_nonneg hy.1 hy.1)
 have e:a*b*(a*b)=a*a*(b*b):=by grind
 rw [e]
 exact Rat.le_trans h1 (Rat.le_trans h4 h5)
def skip (l k:Nat):Nat:=if k<l then k else k+1
theorem sum_skip {n l:Nat} (hl:l<n+1) (f:Nat→Rat):sumP f (n+1)=f l+sumP (fun k=>f (skip l k)) n:=by
 induction n with
 | zero =>
  have:l=0:=by omega
  subst this
  show sumP f 0+f 0=f 0+sumP _ 0
  show (0:Rat)+f 0=f 0+0
  grind
 | succ n ih =>
  show sumP f (n+1)+f (n+1)=f l+(sumP (fun k=>f (skip l k)) n+f (skip l n))
  by_cases h:l=n+1
  ·subst h
   have e:skip (n+1) n=n:=by unfold skip; rw [if_pos (by omega)]
   rw [e,sumP_congr (p:=fun k=>f (skip (n+1) k)) (q:=f) fun k hk=>by unfold skip; rw [if_pos (by omega)]]
   show sumP f n+f n+f (n+1)=_
   grind
  ·rw [ih (by omega)]
   have e:skip l n=n+1:=by unfold skip; rw [if_neg (by omega)]
   rw [e]; grind
def sgR (n:Nat):Rat:=if n%2=0 then 1 else -1
def det:Nat→(Nat→Nat→Rat)→Rat
 | 0,_=>1
 | n+1,M=>sumP (fun l=>sgR (n-l)*M n l*det n (fun i k=>M i (skip l k))) (n+1)
theorem sgR_ab (n:Nat) {x b:Rat} (h:Ab x b):Ab (sgR n*x) b:=by
 unfold sgR
 obtain ⟨h1,h2⟩:=h
 split
 ·exact ⟨by grind,by grind⟩
 ·exact ⟨by grind,by grind⟩
theorem det_le:∀(n:Nat) {M:Nat→Nat→Rat} {b f:Rat},(∀i k,Ab (M i k) b)→(n=0∧f=1∨n=1∧f=b∨n=2∧f=2*b*b∨n=3∧f=6*b*b*b∨n=4∧f=24*b*b*b*b)→Ab (det n M) f
 | 0,M,b,f,_,h=>by
  have:f=1:=by
   rcases h with ⟨_,h⟩ | ⟨h,_⟩ | ⟨h,_⟩ | ⟨h,_⟩ | ⟨h,_⟩
   ·exact h
   all_goals exact absurd h (by omega)
  rw [this]; show Ab (1:Rat) 1; exact ⟨by decide +kernel,by decide +kernel⟩
 | n+1,M,b,f,hM,h=>by
  have hb:0≤b:=(hM 0 0).nonneg
  have step:∀g,(∀l,Ab (det n (fun i k=>M i (skip l k))) g)→Ab (det (n+1) M) (((n+1:Nat):Rat)*(b*g)):=fun g hg=>by
   unfold det
   have:∀m,Ab (sumP (fun l=>sgR (n-l)*M n l*det n (fun i k=>M i (skip l k))) m) ((m:Rat)*(b*g)):=by
    intro m
    induction m with
    | zero=>exact ⟨by show -(((0:Nat):Rat)*(b*g))≤0; have:((0:Nat):Rat)=0:=rfl; rw [this]; grind,by show 0≤((0:Nat):Rat)*(b*g); have:((0:Nat):Rat)=0:=rfl; rw [this]; grind⟩
    | succ m ih =>
     have h1:=sgR_ab (n-m) ((hM n m).mul (hg m))
     have h2:=ih.add h1
     have e:sumP (fun l=>sgR (n-l)*M n l*det n (fun i k=>M i (skip l k))) m+sgR (n-m)*(M n m*det n (fun i k=>M i (skip m k)))=sumP (fun l=>sgR (n-l)*M n l*det n (fun i k=>M i (skip l k))) (m+1):=by
      show _=sumP (fun l=>sgR (n-l)*M n l*det n (fun i k=>M i (skip l k))) m+sgR (n-m)*M n m*det n (fun i k=>M i (skip m k))
      grind
     rw [e] at h2
     refine h2.mono ?_
     have:((m+1:Nat):Rat)=(m:Rat)+1:=by rw [Rat.natCast_add]; rfl
     rw [this]; grind
   exact this (n+1)
  rcases h with ⟨h,_⟩ | ⟨h,hf⟩ | ⟨h,hf⟩ | ⟨h,hf⟩ | ⟨h,hf⟩
  ·exact absurd h (by omega)
  ·have:n=0:=by omega
   subst this
   refine (step 1 fun l=>det_le 0 (fun i k=>hM i (skip l k)) (.inl ⟨rfl,rfl⟩)).mono ?_
   have:((0+1:Nat):Rat)=1:=rfl
   rw [this,hf]; grind
  ·have:n=1:=by omega
   subst this
   refine (step b fun l=>det_le 1 (fun i k=>hM i (skip l k)) (.inr (.inl ⟨rfl,rfl⟩))).mono ?_
   have:((1+1:Nat):Rat)=2:=rfl
   rw [this,hf]; grind
  ·have:n=2:=by omega
   subst this
   refine (step (2*b*b) fun l=>det_le 2 (fun i k=>hM i (skip l k)) (.inr (.inr (.inl ⟨rfl,rfl⟩)))).mono ?_
   have:((2+1:Nat):Rat)=3:=rfl
   rw [this,hf]; grind
  ·have:n=3:=by omega
   subst this
   refine (step (6*b*b*b) fun l=>det_le 3 (fun i k=>hM i (skip l k)) (.inr (.inr (.inr (.inl ⟨rfl,rfl⟩))))).mono ?_
   have:((3+1:Nat):Rat)=4:=rfl
   rw [this,hf]; grind
theorem det_dep {n:Nat} (hn:n≤3) {M:Nat→Nat→Rat} {v:Nat→Rat} {l:Nat} (hl:l≤n) (hv:v l≠0) (h:∀i,sumP (fun k=>M i k*v k) (n+1)=0):det (n+1) M=0:=by
 have e:∀i,M i l=sumP (fun k=>M i (skip l k)*(-(v (skip l k))/v l)) n:=fun i=>by
  have h1:=h i
  rw [sum_skip (show l<n+1 by omega)] at h1
  have h2:sumP (fun k=>M i (skip l k)*(-(v (skip l k))/v l)) n = -(1/v l)*sumP (fun k=>M i (skip l k)*v (skip l k)) n:=by
   rw [←sumP_mul]
   exact sumP_congr fun k _=>by grind
  rw [h2]
  generalize sumP (fun k=>M i (skip l k)*v (skip l k)) n=s at *
  grind
 generalize hw:(fun k => -(v (skip l k))/v l)=w at e
 have e':∀i,M i l=sumP (fun k=>M i (skip l k)*w k) n:=fun i=>by rw [e i]; exact sumP_congr fun k _=>by rw [←hw]
 clear e hw h hv
 match n,hn with
 | 0,_ =>
  have:l=0:=by omega
  subst this
  have:=e' 0
  show sumP _ 1=0
  show (0:Rat)+sgR 0*M 0 0*det 0 _=0
  rw [this]
  show (0:Rat)+sgR 0*0*_=0
  grind
 | 1,_ =>
  have a0:=e' 0
  have a1:=e' 1
  rcases (show l=0∨l=1 by omega) with rfl | rfl<;>simp [sumP,skip] at a0 a1<;>simp [det,sumP,skip,sgR,a0,a1]<;>grind
 | 2,_ =>
  have a0:=e' 0
  have a1:=e' 1
  have a2:=e' 2
  rcases (show l=0∨l=1∨l=2 by omega) with rfl | rfl | rfl<;>simp [sumP,skip] at a0 a1 a2<;>simp [det,sumP,skip,sgR,a0,a1,a2]<;>grind
 | 3,_ =>
  have a0:=e' 0
  have a1:=e' 1
  have a2:=e' 2
  have a3:=e' 3
  rcases (show l=0∨l=1∨l=2∨l=3 by omega) with rfl | rfl | rfl | rfl<;>simp [sumP,skip] at a0 a1 a2 a3<;>simp [det,sumP,skip,sgR,a0,a1,a2,a3]<;>grind
theorem ker_ex:∀(n:Nat) (Q:Nat→Nat→Rat),∃v:Nat→Rat,(∃l,l<n+1∧v l≠0)∧∀i,i<n→sumP (fun k=>Q i k*v k) (n+1)=0
 | 0,Q=>⟨fun _=>1,⟨0,by omega,by decide⟩,fun i hi=>absurd hi (by omega)⟩
 | n+1,Q=>by
  by_cases hz:∃k0,k0<n+2∧Q n k0≠0
  ·obtain ⟨k0,hk0,hne⟩:=hz
   obtain ⟨v,⟨l,hl,hv⟩,h⟩:=ker_ex n (fun i k=>Q i (skip k0 k)-Q i k0*(Q n (skip k0 k)/Q n k0))
   let s := -(sumP (fun k=>Q n (skip k0 k)*v k) (n+1))/Q n k0
   let w:Nat→Rat:=fun k=>if k=k0 then s else if k<k0 then v k else v (k-1)
   have w0:w k0=s:=by show (if k0=k0 then s else _)=s; rw [if_pos rfl]
   have ws:∀k,w (skip k0 k)=v k:=fun k=>by
    show (if skip k0 k=k0 then s else if skip k0 k<k0 then v (skip k0 k) else v (skip k0 k-1))=v k
    unfold skip
    by_cases hk:k<k0
    ·rw [if_pos hk,if_neg (by omega),if_pos hk]
    ·rw [if_neg hk,if_neg (by omega),if_neg (by omega),Nat.add_sub_cancel]
   refine ⟨w,⟨skip k0 l,by unfold skip; split<;>omega,by rw [ws]; exact hv⟩,fun i hi => ?_⟩
   rw [sum_skip (show k0<n+1+1 by omega),w0,sumP_congr (p:=fun k=>Q i (skip k0 k)*w (skip k0 k)) (q:=fun k=>Q i (skip k0 k)*v k) fun k _=>by rw [ws]]
   by_cases hin:i=n
   ·subst hin
    show Q i k0*(-(sumP (fun k=>Q i (skip k0 k)*v k) (i+1))/Q i k0)+_=0
    generalize sumP (fun k=>Q i (skip k0 k)*v k) (i+1)=z
    grind
   ·have h1:=h i (by omega)
    have e:sumP (fun k=>(Q i (skip k0 k)-Q i k0*(Q n (skip k0 k)/Q n k0))*v k) (n+1)=sumP (fun k=>Q i (skip k0 k)*v k) (n+1) + -(Q i k0/Q n k0)*sumP (fun k=>Q n (skip k0 k)*v k) (n+1):=by
     rw [←sumP_mul,←sumP_add]
     exact sumP_congr fun k _=>by grind
    rw [e] at h1
    show Q i k0*(-(sumP (fun k=>Q n (skip k0 k)*v k) (n+1))/Q n k0)+_=0
    generalize sumP (fun k=>Q n (skip k0 k)*v k) (n+1)=z at *
    generalize sumP (fun k=>Q i (skip k0 k)*v k) (n+1)=z2 at *
    grind
  ·obtain ⟨v,⟨l,hl,hv⟩,h⟩:=ker_ex n Q
   refine ⟨fun k=>if k<n+1 then v k else 0,⟨l,by omega,by show (if l<n+1 then v l else 0)≠0; rw [if_pos hl]; exact hv⟩,fun i hi => ?_⟩
   by_cases hin:i=n
   ·subst hin
    rw [sumP_congr (q:=fun _=>0) fun k hk=>by
     have:Q i k=0:=Classical.byContradiction fun hh=>hz ⟨k,hk,hh⟩
     rw [this]; grind,sumP_zero]
   ·have h1:=h i (by omega)
    show sumP (fun k=>Q i k*(if k<n+1 then v k else 0)) (n+1)+Q i (n+1)*(if n+1<n+1 then v (n+1) else 0)=0
    rw [if_neg (by omega),sumP_congr (q:=fun k=>Q i k*v k) fun k hk=>by rw [if_pos hk],h1]
    grind
theorem det_inner {n:Nat} (hn:n≤3) (P Q:Nat→Nat→Rat):det (n+1) (fun i k=>sumP (fun l=>P i l*Q l k) n)=0:=by
 obtain ⟨v,⟨l,hl,hv⟩,h⟩:=ker_ex n Q
 refine det_dep hn (show l≤n by omega) hv fun i => ?_
 have e:sumP (fun k=>sumP (fun l=>P i l*Q l k) n*v k) (n+1)=sumP (fun l=>P i l*sumP (fun k=>Q l k*v k) (n+1)) n:=by
  have e1:sumP (fun k=>sumP (fun l=>P i l*Q l k) n*v k) (n+1)=sumP (fun k=>sumP (fun l=>P i l*(Q l k*v k)) n) (n+1):=sumP_congr fun k _=>by
   rw [Rat.mul_comm,←sumP_mul]
   exact sumP_congr fun l _=>by grind
  rw [e1,sumP_swap]
  exact sumP_congr fun l _=>sumP_mul _ _ _
 rw [e,sumP_congr (q:=fun _=>0) fun l hl=>by rw [h l hl]; grind,sumP_zero]
theorem det_near:∀(n:Nat),n≤4→∀{X Y:Nat→Nat→Rat} {e:Rat},(∀i k,Ab (X i k) 5)→(∀i k,Ab (Y i k) 5)→(∀i k,Ab (X i k-Y i k) e)→Ab (det n X-det n Y) (12000*e)
 | 0,_,X,Y,e,hX,hY,h=>by
  have:=(h 0 0).nonneg
  show Ab ((1:Rat)-1) _
  exact ⟨by grind,by grind⟩
 | n+1,hn,X,Y,e,hX,hY,h=>by
  have he:=(h 0 0).nonneg
  have key:∀m,m≤4→∀X Y:Nat→Nat→Rat,(∀i k,Ab (X i k) 5)→(∀i k,Ab (Y i k) 5)→(∀i k,Ab (X i k-Y i k) e)→Ab (det m X-det m Y) ((if m=0 then 0 else if m=1 then 1 else if m=2 then 20 else if m=3 then 450 else 12000)*e):=by
   intro m
   induction m with
   | zero=>intro _ X Y _ _ _; show Ab ((1:Rat)-1) _; rw [if_pos rfl]; exact ⟨by grind,by grind⟩
   | succ m ih =>
    intro hm X Y hX hY h
    have step:∀f d:Rat,(∀l,Ab (det m (fun i k=>X i (skip l k))) f)→(∀l,Ab (det m (fun i k=>X i (skip l k))-det m (fun i k=>Y i (skip l k))) d)→∀q,Ab (sumP (fun l=>sgR (m-l)*X m l*det m (fun i k=>X i (skip l k))) q-sumP (fun l=>sgR (m-l)*Y m l*det m (fun i k=>Y i (skip l k))) q) ((q:Rat)*(e*f+5*d)):=by
     intro f d hf hd q
     induction q with
     | zero =>
      have z:((0:Nat):Rat)=0:=rfl
      rw [z]
      show Ab ((0:Rat)-0) _
      exact ⟨by grind,by grind⟩
     | succ q iq =>
      have h1:=sgR_ab (m-q) (((h m q).mul (hf q)).add ((hY m q).mul (hd q)))
      have h2:=iq.add h1
      have e1:((q+1:Nat):Rat)=(q:Rat)+1:=by rw [Rat.natCast_add]; rfl
      have e2:sumP (fun l=>sgR (m-l)*X m l*det m (fun i k=>X i (skip l k))) (q+1)-sumP (fun l=>sgR (m-l)*Y m l*det m (fun i k=>Y i (skip l k))) (q+1)=sumP (fun l=>sgR (m-l)*X m l*det m (fun i k=>X i (skip l k))) q-sumP (fun l=>sgR (m-l)*Y m l*det m (fun i k=>Y i (skip l k))) q+sgR (m-q)*((X m q-Y m q)*det m (fun i k=>X i (skip q k))+Y m q*(det m (fun i k=>X i (skip q k))-det m (fun i k=>Y i (skip q k)))):=by
       show sumP (fun l=>sgR (m-l)*X m l*det m (fun i k=>X i (skip l k))) q+sgR (m-q)*X m q*det m (fun i k=>X i (skip q k))-(sumP (fun l=>sgR (m-l)*Y m l*det m (fun i k=>Y i (skip l k))) q+sgR (m-q)*Y m q*det m (fun i k=>Y i (skip q k)))=_
       grind
      rw [e2,e1]
      exact h2.mono (by grind)
    have hd:=fun l=>ih (by omega) (fun i k=>X i (skip l k)) (fun i k=>Y i (skip l k)) (fun i k=>hX _ _) (fun i k=>hY _ _) (fun i k=>h _ _)
    have goal:∀f:Rat,(∀l,Ab (det m (fun i k=>X i (skip l k))) f)→Ab (det (m+1) X-det (m+1) Y) (((m+1:Nat):Rat)*(e*f+5*((if m=0 then 0 else if m=1 then 1 else if m=2 then 20 else if m=3 then 450 else 12000)*e))):=fun f hf=>step f _ hf hd (m+1)
    match m,hm,goal with
    | 0,_,goal =>
     refine (goal 1 fun l=>det_le 0 (b:=5) (fun i k=>hX _ _) (.inl ⟨rfl,rfl⟩)).mono ?_
     have:((0+1:Nat):Rat)=1:=rfl
     rw [this]; simp; grind
    | 1,_,goal =>
     refine (goal 5 fun l=>det_le 1 (b:=5) (fun i k=>hX _ _) (.inr (.inl ⟨rfl,rfl⟩))).mono ?_
     have:((1+1:Nat):Rat)=2:=rfl
     rw [this]; simp; grind
    | 2,_,goal =>
     refine (goal 50 fun l=>det_le 2 (b:=5) (fun i k=>hX _ _) (.inr (.inr (.inl ⟨rfl,by decide +kernel⟩)))).mono ?_
     have:((2+1:Nat):Rat)=3:=rfl
     rw [this]; simp; grind
    | 3,_,goal =>
     refine (goal 750 fun l=>det_le 3 (b:=5) (fun i k=>hX _ _) (.inr (.inr (.inr (.inl ⟨rfl,by decide +kernel⟩))))).mono ?_
     have:((3+1:Nat):Rat)=4:=rfl
     rw [this]; simp; grind
  refine (key (n+1) hn X Y hX hY h).mono ?_
  have hle:(if n+1=0 then (0:Rat) else if n+1=1 then 1 else if n+1=2 then 20 else if n+1=3 then 450 else 12000)≤12000:=by
   split; decide +kernel; split; decide +kernel; split; decide +kernel; split<;>decide +kernel
  exact Rat.mul_le_mul_of_nonneg_right hle he
theorem det_int:∀(n:Nat) {X:Nat→Nat→Rat},(∀i k,∃z:Int,X i k=z)→∃z:Int,det n X=z
 | 0,_,_=>⟨1,rfl⟩
 | n+1,X,h=>by
  have:∀q,∃z:Int,sumP (fun l=>sgR (n-l)*X n l*det n (fun i k=>X i (skip l k))) q=z:=by
   intro q
   induction q with
   | zero=>exact ⟨0,rfl⟩
   | succ q ih =>
    obtain ⟨a,ha⟩:=ih
    obtain ⟨b,hb⟩:=h n q
    obtain ⟨d,hd⟩:=det_int n (X:=fun i k=>X i (skip q k)) (fun i k=>h _ _)
    have hs:∃s:Int,sgR (n-q)=s:=by
     unfold sgR; split
     ·exact ⟨1,rfl⟩
     ·exact ⟨-1,rfl⟩
    obtain ⟨s,hs⟩:=hs
    refine ⟨a+s*b*d,?_⟩
    show sumP (fun l=>sgR (n-l)*X n l*det n (fun i k=>X i (skip l k))) q+sgR (n-q)*X n q*det n (fun i k=>X i (skip q k))=_
    rw [ha,hb,hd,hs,Rat.intCast_add,Rat.intCast_mul,Rat.intCast_mul]
  exact this (n+1)
theorem int_small {z:Int} (h:Ab (z:Rat) (3/4)):z=0:=by
 obtain ⟨h1,h2⟩:=h
 rcases Int.lt_or_le z 0 with hz | hz
 ·have:((z:Int):Rat)≤((-1:Int):Rat):=Rat.intCast_le_intCast.2 (by omega)
  have e:((-1:Int):Rat) = -1:=rfl
  grind
 ·rcases Int.lt_or_le 0 z with hz2 | hz2
  ·have:((1:Int):Rat)≤((z:Int):Rat):=Rat.intCast_le_intCast.2 (by omega)
   have e:((1:Int):Rat)=1:=rfl
   grind
  ·omega
theorem det_congr2:∀{n:Nat} {X Y:Nat→Nat→Rat},(∀i k,i<n→k<n→X i k=Y i k)→det n X=det n Y
 | 0,_,_,_=>rfl
 | n+1,X,Y,h=>by
  unfold det
  refine sumP_congr fun l hl => ?_
  rw [h n l (by omega) hl,det_congr2 (n:=n) (X:=fun i k=>X i (skip l k)) (Y:=fun i k=>Y i (skip l k)) fun i k hi hk=>h i _ (by omega) (by unfold skip; split<;>omega)]
theorem det_congr {n:Nat} {X Y:Nat→Nat→Rat} (h:∀i k,i<n→X i k=Y i k):det n X=det n Y:=det_congr2 fun i k hi _=>h i k hi
def Inner (m:Nat) (A:Nat→Nat→Rat):Prop:=∃P Q:Nat→Nat→Rat,∀i k,A i k=sumP (fun l=>P i l*Q l k) m
theorem Inner.mono {m m':Nat} {A:Nat→Nat→Rat} (h:Inner m A) (hm:m≤m'):Inner m' A:=by
 obtain ⟨P,Q,h⟩:=h
 refine ⟨fun i l=>if l<m then P i l else 0,Q,fun i k => ?_⟩
 have h1:=sumP_split (fun l=>(if l<m then P i l else 0)*Q l k) m (m'-m)
 rw [show m+(m'-m)=m' by omega] at h1
 rw [h1,h i k,sumP_congr (p:=fun l=>(if l<m then P i l else 0)*Q l k) (q:=fun l=>P i l*Q l k) fun l hl=>by rw [if_pos hl],sumP_congr (n:=m'-m) (q:=fun _=>0) fun l hl=>by rw [if_neg (by omega)]; grind,sumP_zero]
 grind
theorem minors {A:Nat→Nat→Rat}:∀(j:Nat),(∀s p:Nat→Nat,det (j+1) (fun i k=>A (s i) (p k))=0)→Inner j A
 | 0,h=>⟨fun _ _=>0,fun _ _=>0,fun i k=>by
  have:=h (fun _=>i) (fun _=>k)
  have e:det (0+1) (fun _ _=>A i k)=A i k:=by
   show (0:Rat)+sgR 0*A i k*1=_
   have:sgR 0=1:=rfl
   rw [this]; grind
  rw [e] at this
  rw [this]; rfl⟩
 | j+1,h=>by
  by_cases hz:∀s p:Nat→Nat,det (j+1) (fun i k=>A (s i) (p k))=0
  ·exact (minors j hz).mono (by omega)
  ·obtain ⟨s,hz⟩:=Classical.not_forall.1 hz
   obtain ⟨p,hz⟩:=Classical.not_forall.1 hz
   generalize hd:det (j+1) (fun i k=>A (s i) (p k))=d at hz
   refine ⟨fun i l=>A i (p l),fun l k => -(sgR (j+1-l)*det (j+1) (fun i' k'=>A (s i') (if skip l k'<j+1 then p (skip l k') else k)))/d,fun i k => ?_⟩
   have hb:=h (fun i'=>if i'<j+1 then s i' else i) (fun k'=>if k'<j+1 then p k' else k)
   unfold det at hb
   have hb2:sumP (fun l=>sgR (j+1-l)*A i (if l<j+1 then p l else k)*det (j+1) (fun i' k'=>A (s i') (if skip l k'<j+1 then p (skip l k') else k))) (j+1+1)=0:=by
    rw [←hb]
    refine sumP_congr fun l hl => ?_
    have e1:(if j+1<j+1 then s (j+1) else i)=i:=if_neg (by omega)
    have e2:=det_congr (n:=j+1) (X:=fun i' k'=>A (if i'<j+1 then s i' else i) (if skip l k'<j+1 then p (skip l k') else k)) (Y:=fun i' k'=>A (s i') (if skip l k'<j+1 then p (skip l k') else k)) (fun i' k' hi=>by rw [if_pos hi])
    simp only [e1]
    rw [e2]
   have hb3:sumP (fun l=>sgR (j+1-l)*A i (if l<j+1 then p l else k)*det (j+1) (fun i' k'=>A (s i') (if skip l k'<j+1 then p (skip l k') else k))) (j+1)+A i k*d=0:=by
    have e3:det (j+1) (fun i' k'=>A (s i') (if skip (j+1) k'<j+1 then p (skip (j+1) k') else k))=d:=by
     rw [←hd]
     refine det_congr2 (n:=j+1) fun i' k' _ hk => ?_
     have:skip (j+1) k'=k':=by unfold skip; rw [if_pos hk]
     rw [this,if_pos hk]
    have e4:sumP (fun l=>sgR (j+1-l)*A i (if l<j+1 then p l else k)*det (j+1) (fun i' k'=>A (s i') (if skip l k'<j+1 then p (skip l k') else k))) (j+1+1)=sumP (fun l=>sgR (j+1-l)*A i (if l<j+1 then p l else k)*det (j+1) (fun i' k'=>A (s i') (if skip l k'<j+1 then p (skip l k') else k))) (j+1)+sgR (j+1-(j+1))*A i (if j+1<j+1 then p (j+1) else k)*det (j+1) (fun i' k'=>A (s i') (if skip (j+1) k'<j+1 then p (skip (j+1) k') else k)):=rfl
    rw [e4,e3,if_neg (by omega),Nat.sub_self] at hb2
    have:sgR 0=1:=rfl
    rw [this] at hb2
    rw [←hb2]; grind
   have e5:sumP (fun l=>A i (p l)*(-(sgR (j+1-l)*det (j+1) (fun i' k'=>A (s i') (if skip l k'<j+1 then p (skip l k') else k)))/d)) (j+1) = -(1/d)*sumP (fun l=>sgR (j+1-l)*A i (if l<j+1 then p l else k)*det (j+1) (fun i' k'=>A (s i') (if skip l k'<j+1 then p (skip l k') else k))) (j+1):=by
    rw [←sumP_mul]
    exact sumP_congr fun l hl=>by rw [if_pos hl]; grind
   rw [e5]
   generalize sumP (fun l=>sgR (j+1-l)*A i (if l<j+1 then p l else k)*det (j+1) (fun i' k'=>A (s i') (if skip l k'<j+1 then p (skip l k') else k))) (j+1)=z at *
   grind
theorem near_inner {j:Nat} (hj:j≤3) {A P Q:Nat→Nat→Rat} (hA:∀i k,∃z:Int,A i k=z) (bA:∀i k,Ab (A i k) 4) (h:∀i k,Ab (A i k-sumP (fun l=>P i l*Q l k) j) (1/16000)):Inner j A:=by
 refine minors j fun s p => ?_
 have hY:∀i k,Ab (sumP (fun l=>P i l*Q l k) j) 5:=fun i k=>by
  have h1:=h i k
  have h2:=bA i k
  have h3:=h2.sub h1
  have e:A i k-(A i k-sumP (fun l=>P i l*Q l k) j)=sumP (fun l=>P i l*Q l k) j:=by grind
  rw [e] at h3
  exact h3.mono (by decide +kernel)
 have h1:=det_near (j+1) (by omega) (X:=fun i k=>A (s i) (p k)) (Y:=fun i k=>sumP (fun l=>P (s i) l*Q l (p k)) j) (e:=1/16000) (fun i k=>(bA _ _).mono (by decide +kernel)) (fun i k=>hY _ _) (fun i k=>h _ _)
 have h2:=det_inner hj (fun i l=>P (s i) l) (fun l k=>Q l (p k))
 rw [h2] at h1
 obtain ⟨z,hz⟩:=det_int (j+1) (X:=fun i k=>A (s i) (p k)) (fun i k=>hA _ _)
 rw [hz] at h1 ⊢
 have h3:Ab ((z:Int):Rat) (3/4):=by
  have e:((z:Int):Rat)-0=z:=by grind
  rw [e] at h1
  exact h1.mono (by decide +kernel)
 rw [int_small h3]; rfl
def InnR (r0 r c0 c m:Nat) (E:Nat→Nat→Rat):Prop:=∃P Q:Nat→Nat→Rat,∀i k,r0≤i→i<r→c0≤k→k<c→E i k=sumP (fun l=>P i l*Q l k) m
structure RkW (r0 r c0 c m:Nat) (E:Nat→Nat→Rat):Prop where
 inn:InnR r0 r c0 c m E
 least:∀n,InnR r0 r c0 c n E→m≤n
theorem rk_none {r0 r c0 c:Nat} {E:Nat→Nat→Rat} (h:r≤r0∨c≤c0):RkW r0 r c0 c 0 E :=
 ⟨⟨fun _ _=>0,fun _ _=>0,fun i k h1 h2 h3 h4=>by omega⟩,fun n _=>Nat.zero_le n⟩
theorem rk_col {r0 r c0 c m:Nat} {E:Nat→Nat→Rat} (hz:∀i,r0≤i→i<r→E i c0=0) (h:RkW r0 r (c0+1) c m E):RkW r0 r c0 c m E:=by
 obtain ⟨⟨P,Q,hi⟩,hl⟩:=h
 refine ⟨⟨P,fun l k=>if k=c0 then 0 else Q l k,fun i k h1 h2 h3 h4 => ?_⟩,fun n hn => ?_⟩
 ·by_cases hk:k=c0
  ·subst hk
   rw [hz i h1 h2,sumP_congr (q:=fun _=>0) fun l _=>by show P i l*(if k=k then 0 else Q l k)=0; rw [if_pos rfl]; grind,sumP_zero]
  ·rw [hi i k h1 h2 (by omega) h4]
   exact sumP_congr fun l _=>by show _=P i l*(if k=c0 then 0 else Q l k); rw [if_neg hk]
 ·obtain ⟨P',Q',h'⟩:=hn
  exact hl n ⟨P',Q',fun i k h1 h2 h3 h4=>h' i k h1 h2 (by omega) h4⟩
theorem rk_rows {r0 r c0 c m:Nat} {E:Nat→Nat→Rat} {σ:Nat→Nat} (hσ:∀i,r0≤i→i<r→r0≤σ i∧σ i<r) (hσ2:∀i,σ (σ i)=i) (h:RkW r0 r c0 c m (fun i k=>E (σ i) k)):RkW r0 r c0 c m E:=by
 obtain ⟨⟨P,Q,hi⟩,hl⟩:=h
 refine ⟨⟨fun i l=>P (σ i) l,Q,fun i k h1 h2 h3 h4 => ?_⟩,fun n hn=>hl n ?_⟩
 ·have:=hi (σ i) k (hσ i h1 h2).1 (hσ i h1 h2).2 h3 h4
  simp only [hσ2] at this
  exact this
 ·obtain ⟨P',Q',h'⟩:=hn
  exact ⟨fun i l=>P' (σ i) l,Q',fun i k h1 h2 h3 h4=>h' (σ i) k (hσ i h1 h2).1 (hσ i h1 h2).2 h3 h4⟩
theorem rk_piv {r0 r c0 c m:Nat} {E E':Nat→Nat→Rat} {t:Nat→Rat} (hr:r0<r) (hc:c0<c) (ha:E r0 c0≠0) (ht:∀i,t i≠0) (he:∀i k,r0<i→i<r→c0<k→k<c→E' i k=t i*(E i k-E i c0*E r0 k/E r0 c0))
  (h:RkW (r0+1) r (c0+1) c m E'):RkW r0 r c0 c (m+1) E:=by
 obtain ⟨⟨P,Q,hi⟩,hl⟩:=h
 refine ⟨⟨fun i l=>if l=m then E i c0/E r0 c0 else if i=r0 then 0 else P i l/t i,fun l k=>if l=m then E r0 k else if k=c0 then 0 else Q l k,fun i k h1 h2 h3 h4 => ?_⟩,fun n hn => ?_⟩
 ·show E i k=sumP (fun l=>(if l=m then E i c0/E r0 c0 else if i=r0 then 0 else P i l/t i)*(if l=m then E r0 k else if k=c0 then 0 else Q l k)) m+(if m=m then E i c0/E r0 c0 else if i=r0 then 0 else P i m/t i)*(if m=m then E r0 k else if k=c0 then 0 else Q m k)
  rw [if_pos rfl,if_pos rfl]
  by_cases hir:i=r0
  ·subst hir
   rw [sumP_congr (q:=fun _=>0) fun l hl=>by rw [if_neg (by omega),if_pos rfl]; grind,sumP_zero]
   grind
  ·by_cases hkc:k=c0
   ·subst hkc
    rw [sumP_congr (q:=fun _=>0) fun l hl=>by rw [if_neg (by omega),if_neg hir,if_neg (by omega),if_pos rfl]; grind,sumP_zero]
    grind
   ·have h5:=hi i k (by omega) h2 (by omega) h4
    rw [he i k (by omega) h2 (by omega) h4] at h5
    have h6:sumP (fun l=>(if l=m then E i c0/E r0 c0 else if i=r0 then 0 else P i l/t i)*(if l=m then E r0 k else if k=c0 then 0 else Q l k)) m=1/t i*sumP (fun l=>P i l*Q l k) m:=by
     rw [←sumP_mul]
     exact sumP_congr fun l hl=>by rw [if_neg (by omega),if_neg hir,if_neg (by omega),if_neg hkc]; grind
    rw [h6,←h5]
    have:=ht i
    grind
 ·
  obtain ⟨P',Q',h'⟩:=hn
  have h0:=h' r0 c0 (Nat.le_refl _) hr (Nat.le_refl _) hc
  have hex:∃l0,l0<n∧Q' l0 c0≠0:=Classical.byContradiction fun hh=>ha (by
   rw [h0,sumP_congr (q:=fun _=>0) fun l hl=>by
    have:Q' l c0=0:=Classical.byContradiction fun h2=>hh ⟨l,hl,h2⟩
    rw [this]; grind,sumP_zero])
  obtain ⟨l0,hl0,hq⟩:=hex
  match n,hl0,h',h0 with
  | 0,hl0,_,_=>exact absurd hl0 (by omega)
  | n+1,hl0,h',h0 =>
   refine Nat.succ_le_succ (hl n ⟨fun i l=>t i*(P' i (skip l0 l)-E i c0/E r0 c0*P' r0 (skip l0 l)),fun l k=>Q' (skip l0 l) k-Q' (skip l0 l) c0*Q' l0 k/Q' l0 c0,fun i k h1 h2 h3 h4 => ?_⟩)
   rw [he i k (by omega) h2 (by omega) h4]
   have row:∀i,r0≤i→i<r→E i k=sumP (fun l=>P' i (skip l0 l)*(Q' (skip l0 l) k-Q' (skip l0 l) c0*Q' l0 k/Q' l0 c0)) n+E i c0*(Q' l0 k/Q' l0 c0):=fun i h1 h2=>by
    have a1:=h' i k h1 h2 (by omega) h4
    have a2:=h' i c0 h1 h2 (Nat.le_refl _) hc
    rw [sum_skip hl0] at a1 a2
    have a3:sumP (fun l=>P' i (skip l0 l)*(Q' (skip l0 l) k-Q' (skip l0 l) c0*Q' l0 k/Q' l0 c0)) n=sumP (fun l=>P' i (skip l0 l)*Q' (skip l0 l) k) n + -(Q' l0 k/Q' l0 c0)*sumP (fun l=>P' i (skip l0 l)*Q' (skip l0 l) c0) n:=by
     rw [←sumP_mul,←sumP_add]
     exact sumP_congr fun l _=>by grind
    rw [a3,a1,a2]
    generalize sumP (fun l=>P' i (skip l0 l)*Q' (skip l0 l) k) n=x
    generalize sumP (fun l=>P' i (skip l0 l)*Q' (skip l0 l) c0) n=y
    grind
   have b1:=row i (by omega) h2
   have b2:=row r0 (Nat.le_refl _) hr
   have b3:sumP (fun l=>t i*(P' i (skip l0 l)-E i c0/E r0 c0*P' r0 (skip l0 l))*(Q' (skip l0 l) k-Q' (skip l0 l) c0*Q' l0 k/Q' l0 c0)) n=t i*(sumP (fun l=>P' i (skip l0 l)*(Q' (skip l0 l) k-Q' (skip l0 l) c0*Q' l0 k/Q' l0 c0)) n + -(E i c0/E r0 c0)*sumP (fun l=>P' r0 (skip l0 l)*(Q' (skip l0 l) k-Q' (skip l0 l) c0*Q' l0 k/Q' l0 c0)) n):=by
    rw [←sumP_mul,←sumP_add,←sumP_mul]
    exact sumP_congr fun l _=>by grind
   rw [b3,b1,b2]
   generalize sumP (fun l=>P' i (skip l0 l)*(Q' (skip l0 l) k-Q' (skip l0 l) c0*Q' l0 k/Q' l0 c0)) n=x
   generalize sumP (fun l=>P' r0 (skip l0 l)*(Q' (skip l0 l) k-Q' (skip l0 l) c0*Q' l0 k/Q' l0 c0)) n=y
   grind
def Zp (z:Int):PV := .a [bS z,bL z]
def Zr (l:List Int):PV := .l (l.map Zp)
def Zm (m:List (List Int)):PV := .l (m.map Zr)
def ez (l:List Int) (k:Nat):Int:=l.getD k 0
def er (m:List (List Int)) (i:Nat):List Int:=m.getD i []
@[simp] theorem len_Zr (l:List Int):U.len.den (Zr l)=Vi l.length:=by simp [Zr]
@[simp] theorem len_Zm (m:List (List Int)):U.len.den (Zm m)=Vi m.length:=by simp [Zm]
theorem get_Zr {l:List Int} {k:Nat} (h:k<l.length):B.get.den (Zr l) (Vi k)=Zp (ez l k):=by
 rw [Zr,get_l _ rfl]
 simp [ez,List.getD_eq_getElem?_getD,h]
theorem get_Zm {m:List (List Int)} {i:Nat} (h:i<m.length):B.get.den (Zm m) (Vi i)=Zr (er m i):=by
 rw [Zm,get_l _ rfl]
 simp [er,List.getD_eq_getElem?_getD,h]
theorem app_Zr (l:List Int) (z:Int):B.app.den (Zr l) (B.cons.den (U.toA.den (B.cons.den (bS z) (B.cons.den (bL z) (Vl [])))) (Vl []))=Zr (l++[z]):=by
 show PV.l (l.map Zp++[PV.a [bS z,bL z]])=_
 unfold Zr; rw [List.map_append]; rfl
theorem app_Zm (m:List (List Int)) (l:List Int):B.app.den (Zm m) (B.cons.den (Zr l) (Vl []))=Zm (m++[l]):=by
 show PV.l (m.map Zr++[Zr l])=_
 unfold Zm; rw [List.map_append]; rfl
theorem set_Zm (m:List (List Int)) (i:Nat) (l:List Int):T3.set.den (Zm m) (Vi i) (Zr l)=Zm (m.set i l):=by
 rw [Zm,set_l _ rfl,Zm,List.map_set]
theorem f0_Zp (z:Int):(U.fld 0).den (Zp z)=bS z:=rfl
theorem f1_Zp (z:Int):(U.fld 1).den (Zp z)=bL z:=rfl
theorem zero3_ok (z:Int):val 119 [bS z,bL z]=some [Vb (decide (z=0))]:=by
 refine val_of tab119 ?_
 have h:(dig z.natAbs=[])↔z=0:=by rw [←List.length_eq_zero_iff,dig_len_zero]; omega
 simp [tr119,TT.dv,len_bL]
 exact congrArg Vb (decide_eq_decide.2 h)
def ZB (K:Nat) (l:List Int):Prop:=∀k,bl (ez l k).natAbs≤K
def lessR (x:List Int) (p:Int) (y:List Int) (q:Int):List Int:=(List.range x.length).map fun k=>ez x k*p-ez y k*q
theorem lessR_len (x:List Int) (p:Int) (y:List Int) (q:Int):(lessR x p y q).length=x.length:=by simp [lessR]
theorem ez_lessR {x y:List Int} {p q:Int} {k:Nat} (hk:k<x.length):ez (lessR x p y q) k=ez x k*p-ez y k*q:=by
 unfold lessR
 rw [ez,List.getD_eq_getElem?_getD,List.getElem?_map,List.getElem?_range hk]; rfl
theorem ez_out {x:List Int} {k:Nat} (hk:x.length≤k):ez x k=0:=by
 rw [ez,List.getD_eq_getElem?_getD,List.getElem?_eq_none hk]; rfl
theorem lessR_bd {x y:List Int} {p q:Int} {K:Nat} (hx:ZB K x) (hy:ZB K y) (hp:bl p.natAbs≤K) (hq:bl q.natAbs≤K):ZB (2*K+1) (lessR x p y q):=fun k=>by
 by_cases hk:k<x.length
 ·rw [ez_lessR hk]
  have h1:=bl_int_mul (ez x k) p
  have h2:=bl_int_mul (ez y k) q
  have h3:=bl_int_sub (ez x k*p) (ez y k*q)
  have:=hx k
  have:=hy k
  omega
 ·rw [ez_out (by rw [lessR_len]; omega)]
  show bl 0≤_
  rw [bl_zero]; omega
theorem less_row_ok {x y:List Int} {p q:Int} {K:Nat} (hK:K≤900000000) (hl:x.length≤100) (hxy:x.length≤y.length) (hx:ZB K x) (hy:ZB K y) (hp:bl p.natAbs≤K) (hq:bl q.natAbs≤K):val 117 [Zr x,bS p,bL p,Zr y,bS q,bL q]=some [Zr (lessR x p y q)]:=by
 refine val_of tab117 ?_
 have lp:∀(n:Nat) {k:Nat},k+n=x.length→rounds (fun vs=>lo117_1.dv (Zr x::bS p::bL p::Zr y::bS q::bL q::vs)) [Vi k,Zr ((List.range k).map fun k=>ez x k*p-ez y k*q)]=some (.y (.ext 0) [Zr (lessR x p y q)]):=by
  intro n
  induction n with
  | zero =>
   intro k hk
   have:k=x.length:=by omega
   subst this
   refine rounds_exit ?_ (by simp)
   simp [lo117_1,TT.dv,lessR]
  | succ n ih =>
   intro k hk
   have hkx:k<x.length:=by omega
   have hky:k<y.length:=by omega
   refine Eq.trans (rounds_cont ?_) (ih (k:=k+1) (by omega))
   have g1:=get_Zr hkx
   have g2:=get_Zr hky
   have b1:=hx k
   have b2:=hy k
   have b3:=bl_int_mul (ez x k) p
   have b4:=bl_int_mul (ez y k) q
   have hSZ:SZ=2000000000:=rfl
   have m1:=mul_ok (x:=ez x k) (y:=p) (by omega) (by omega)
   have m2:=mul_ok (x:=ez y k) (y:=q) (by omega) (by omega)
   have m3:=sub_ok (x:=ez x k*p) (y:=ez y k*q) (by omega) (by omega)
   have e1:(B.add .i64).den (Vi k) (Vi 1)=Vi (k+1):=add_i (by omega) (by omega)
   have a1:=app_Zr ((List.range k).map fun k=>ez x k*p-ez y k*q) (ez x k*p-ez y k*q)
   have a2:(List.range k).map (fun k=>ez x k*p-ez y k*q)++[ez x k*p-ez y k*q]=(List.range (k+1)).map fun k=>ez x k*p-ez y k*q:=by
    rw [List.range_succ,List.map_append]; rfl
   rw [a2] at a1
   have l2:((((List.range (k+1)).map fun k=>ez x k*p-ez y k*q).length:Nat):Int)≤4398046511104:=by rw [List.length_map,List.length_range]; omega
   generalize (List.range (k+1)).map (fun k=>ez x k*p-ez y k*q)=w2 at *
   generalize (List.range k).map (fun k=>ez x k*p-ez y k*q)=w1 at *
   generalize ez x k*p-ez y k*q=z3 at *
   generalize ez x k*p=z1 at *
   generalize ez y k*q=z2 at *
   simp [lo117_1,TT.dv,hkx,hky,g1,g2,f0_Zp,f1_Zp,m1,m2,m3,e1,a1,l2]
 have h:=lp x.length (k:=0) (by omega)
 rw [show ((0:Nat):Int)=0 from rfl,show Zr ((List.range 0).map fun k=>ez x k*p-ez y k*q)=Vl [] from rfl] at h
 simp [tr117,TT.dv,KS.dv,h]
def pivI (m:List (List Int)) (c:Nat):Nat→Nat→Int
 | 0,_ => -1
 | n+1,i=>if ez (er m i) c=0 then pivI m c n (i+1) else i
theorem pivot3_ok {m:List (List Int)} {c r0:Nat} (hm:m.length≤100) (hr:r0≤m.length) (hc:∀i,i<m.length→c<(er m i).length):val 118 [Zm m,Vi r0,Vi c]=some [Vi (pivI m c (m.length-r0) r0)]:=by
 refine val_of tab118 ?_
 have lp:∀(n:Nat) {i:Nat},i+n=m.length→rounds (fun vs=>lo118_1.dv (Zm m::Vi r0::Vi c::vs)) [Vi 0,Vi i]=(if pivI m c n i<0 then some (.y (.ext 0) [Vi 0]) else some (.y .ret [Vi (pivI m c n i)])):=by
  intro n
  induction n with
  | zero =>
   intro i hi
   have:i=m.length:=by omega
   subst this
   unfold pivI
   rw [if_pos (by omega)]
   refine rounds_exit ?_ (by simp)
   simp [lo118_1,TT.dv]
  | succ n ih =>
   intro i hi
   have him:i<m.length:=by omega
   have hci:=hc i him
   have g1:=get_Zm him
   have g2:=get_Zr hci
   have z:=zero3_ok (ez (er m i) c)
   have e1:(B.add .i64).den (Vi i) (Vi 1)=Vi (i+1):=add_i (by omega) (by omega)
   unfold pivI
   by_cases h0:ez (er m i) c=0
   ·rw [if_pos h0]
    rw [decide_eq_true h0] at z
    refine Eq.trans (rounds_cont ?_) (ih (i:=i+1) (by omega))
    simp [lo118_1,TT.dv,him,hci,g1,g2,f0_Zp,f1_Zp,z,e1]
   ·rw [if_neg h0,if_neg (by omega)]
    rw [decide_eq_false h0] at z
    refine rounds_exit ?_ (by simp)
    simp [lo118_1,TT.dv,him,hci,g1,g2,f0_Zp,f1_Zp,z]
 have h:=lp (m.length-r0) (i:=r0) (by omega)
 by_cases hn:pivI m c (m.length-r0) r0<0
 ·rw [if_pos hn] at h
  have hm1:∀n i,pivI m c n i<0→pivI m c n i = -1:=by
   intro n
   induction n with
   | zero=>intro i _; rfl
   | succ n ih =>
    intro i hi
    unfold pivI at hi ⊢
    by_cases h0:ez (er m i) c=0
    ·rw [if_pos h0] at hi ⊢; exact ih _ hi
    ·rw [if_neg h0] at hi; omega
  rw [hm1 _ _ hn]
  simp [tr118,TT.dv,KS.dv,h]
 ·rw [if_neg hn] at h
  simp [tr118,TT.dv,KS.dv,h]
theorem width_ok {m:List (List Int)}:val 116 [Zm m]=some [Vi (er m 0).length]:=by
 refine val_of tab116 ?_
 cases m with
 | nil=>simp [tr116,TT.dv,er]
 | cons a m =>
  have g:=get_Zm (m:=a::m) (i:=0) (by simp)
  rw [show ((0:Nat):Int)=0 from rfl] at g
  simp [tr116,TT.dv,g]
  omega
theorem big1000:P2 1000*8≤P2 1023:=by decide +kernel
theorem ee0:0≤ee∧ee≤uu:=⟨Rat.le_of_lt (P2_pos _),by decide +kernel⟩
def dotQ (x y:List Nat) (n:Nat):Rat:=sumP (fun i=>W (el x i)*W (el y i)) n
theorem dotQ_nonneg (x y:List Nat) (n:Nat):0≤dotQ x y n:=sumP_nonneg fun i _=>Rat.mul_nonneg (W_nonneg _) (W_nonneg _)
theorem dotX_ab (x y:List Nat):∀n,Ab (dotX x y n) (dotQ x y n)
 | 0=>⟨by unfold dotX dotQ sumP; grind,by unfold dotX dotQ sumP; grind⟩
 | n+1=>(dotX_ab x y n).add ((sv_ab (el x n)).mul (sv_ab (el y n)))
theorem dotQ_mono (x y:List Nat) {m n:Nat} (h:m≤n):dotQ x y m≤dotQ x y n:=by
 obtain ⟨k,rfl⟩:∃k,n=m+k:=⟨n-m,by omega⟩
 have:=sumP_split (fun i=>W (el x i)*W (el y i)) m k
 have h2:0≤sumP (fun i=>W (el x (m+i))*W (el y (m+i))) k:=sumP_nonneg fun i _=>Rat.mul_nonneg (W_nonneg _) (W_nonneg _)
 unfold dotQ; rw [this]; grind
theorem dot_any {x y:List Nat} (hx:∀j,j<x.length→fPow (el x j)≠2047) (hy:∀j,j<x.length→fPow (el y j)≠2047) (hl:x.length≤6) (hQ:dotQ x y x.length≤P2 1000):∀(m:Nat) {i s:Nat},i+m=x.length →
  Fl s (dotX x y i) ((i:Rat)*(21/10*uu*dotQ x y x.length+4*ee))→Fl (dotR x y m i s) (dotX x y x.length) ((x.length:Rat)*(21/10*uu*dotQ x y x.length+4*ee))
 | 0,i,s,hi,hs=>by
  have:i=x.length:=by omega
  subst this; exact hs
 | m+1,i,s,hi,hs=>by
  have hlt:i<x.length:=by omega
  refine dot_any hx hy hl hQ m (i:=i+1) (by omega) ?_
  obtain ⟨e0,e1⟩:=ee0
  have hb:=big1000
  have u0:=uu_pos
  have hq0:=dotQ_nonneg x y x.length
  have hi5:((i:Nat):Rat)≤((5:Nat):Rat):=Rat.natCast_le_natCast.2 (by omega)
  have e5:((5:Nat):Rat)=5:=rfl
  rw [e5] at hi5
  have hi0:(0:Rat)≤(i:Rat):=Rat.natCast_nonneg
  have ap:=(sv_ab (el x i)).mul (sv_ab (el y i))
  have hle:dotQ x y (i+1)≤dotQ x y x.length:=dotQ_mono x y (by omega)
  have hsucc:dotQ x y (i+1)=dotQ x y i+W (el x i)*W (el y i):=rfl
  have hqi:=dotQ_nonneg x y i
  have hpi:0≤W (el x i)*W (el y i):=Rat.mul_nonneg (W_nonneg _) (W_nonneg _)
  have hd:=dotX_ab x y i
  have big:(1:Rat)≤P2 1000:=by decide +kernel
  generalize hQd:dotQ x y x.length=Q at *
  generalize hqd:W (el x i)*W (el y i)=q at *
  have p:=fl_mul (hx i hlt) (hy i hlt) ap (by generalize P2 1000=B at *; grind)
  have bs:=hs.bound hd
  have bp:=p.bound ap
  have hu1:uu*Q≤1/1000000*Q:=Rat.mul_le_mul_of_nonneg_right (by decide +kernel) hq0
  have huq:uu*q≤1/1000000*q:=Rat.mul_le_mul_of_nonneg_right (by decide +kernel) hpi
  have hK:(i:Rat)*(21/10*uu*Q+4*ee)≤5*(21/10*uu*Q+4*ee):=Rat.mul_le_mul_of_nonneg_right hi5 (by
   have:=Rat.mul_nonneg u0 hq0
   grind)
  have hee:ee≤1/1000000:=by decide +kernel
  have hC:Ab (sv s+sv (mulV (el x i) (el y i))) (1001/1000*Q+22*ee):=(bs.add bp).mono (by
   generalize (i:Rat)*(21/10*uu*Q+4*ee)=z at *
   generalize ee=e at *
   generalize uu=u at *
   grind)
  have r:=hs.add p hC (by generalize P2 1000=B at *; generalize P2 1023=B2 at *; grind)
  have hd2:dotX x y (i+1)=dotX x y i+sv (el x i)*sv (el y i):=rfl
  rw [hd2]
  refine r.mono ?_
  rw [nat_rat,Rat.add_mul (i:Rat) 1]
  have h3:uu*q≤uu*Q:=Rat.mul_le_mul_of_nonneg_left (by grind) u0
  have h4:ee*uu≤ee*(1/1000000):=Rat.mul_le_mul_of_nonneg_left (by decide +kernel) e0
  have h5:=Rat.mul_nonneg u0 hq0
  generalize (i:Rat)*(21/10*uu*Q+4*ee)=z at *
  generalize ee=e at *
  generalize uu=u at *
  grind
theorem dotV_any {x y:List Nat} (hx:∀j,j<x.length→fPow (el x j)≠2047) (hy:∀j,j<x.length→fPow (el y j)≠2047) (hl:x.length≤6) (hQ:dotQ x y x.length≤P2 1000):Fl (dotV x y) (dotX x y x.length) (13*uu*dotQ x y x.length+24*ee):=by
 have h:=dot_any hx hy hl hQ x.length (i:=0) (s:=0) (by omega) ⟨by decide,by decide,by
  rw [sv_zero (by decide)]
  refine Er.mono (Er.refl 0) ?_
  have:((0:Nat):Rat)=0:=rfl
  rw [this]; grind⟩
 refine h.mono ?_
 have hi5:((x.length:Nat):Rat)≤((6:Nat):Rat):=Rat.natCast_le_natCast.2 (by omega)
 have e5:((6:Nat):Rat)=6:=rfl
 rw [e5] at hi5
 have hq0:=dotQ_nonneg x y x.length
 have u0:=Rat.mul_nonneg uu_pos hq0
 have:=Rat.mul_le_mul_of_nonneg_right hi5 (c:=21/10*uu*dotQ x y x.length+4*ee) (by have:=ee0.1; grind)
 grind
theorem W_pos {b:Nat} (h:fMag b≠0):0<W b:=Rat.mul_pos (by have:0<fMag b:=Nat.pos_of_ne_zero h; exact Rat.natCast_pos.2 this) (P2_pos _)
theorem sum_pick {p:Nat} {d:Nat→Rat}:∀{n:Nat},p<n→(∀k,k<n→k≠p→d k=0)→sumP d n=d p
 | 0,h,_=>by omega
 | n+1,h,hd=>by
  unfold sumP
  by_cases hp:p=n
  ·subst hp
   have:sumP d p=sumP (fun _=>0) p:=sumP_congr fun k hk=>hd k (by omega) (by omega)
   rw [this,sumP_zero]; grind
  ·rw [sum_pick (n:=n) (by omega) (fun k hk hk2=>hd k (by omega) hk2),hd n (by omega) (by omega)]; grind
section
end
def mvl (c:Nat) (x:List Nat):Nat→Nat→Rat:=fun i k=>sv (el x (ps i c k))
def Fin2 (r c:Nat) (x:List Nat):Prop:=∀i k,i<r→k<c→fPow (el x (ps i c k))≠2047
theorem fin2_iff {r c:Nat} {x:List Nat} (h:Mx r c x):finV x=true↔Fin2 r c x:=finV_mx h
def Jl (l:List Int):PV := .l (l.map Vi)
def ei (l:List Int) (i:Nat):Int:=l.getD i 0
theorem Jl_nil:Vl []=Jl []:=rfl
@[simp] theorem len_J (l:List Int):U.len.den (Jl l)=Vi l.length:=by simp [Jl]
theorem get_J {l:List Int} {i:Nat} (h:i<l.length):B.get.den (Jl l) (Vi i)=Vi (ei l i):=by
 rw [Jl,get_l _ rfl]
 simp [ei,List.getD_eq_getElem?_getD,h]
theorem app_J (l:List Int) (a:Int):B.app.den (Jl l) (B.cons.den (Vi a) (Vl []))=Jl (l++[a]):=by
 show PV.l (l.map Vi++[Vi a])=_
 unfold Jl; rw [List.map_append]; rfl
theorem set_J (l:List Int) (i:Nat) (v:Int):T3.set.den (Jl l) (Vi i) (Vi v)=Jl (l.set i v):=by
 rw [Jl,set_l _ rfl,Jl,List.map_set]
def firL (n:Nat):List Int:=(List.range n).map fun (i:Nat)=>(i:Int)
@[simp] theorem firL_len (n:Nat):(firL n).length=n:=by simp [firL]
theorem firL_succ (n:Nat):firL n++[(n:Int)]=firL (n+1):=by unfold firL; rw [List.range_succ,List.map_append]; rfl
def swL (l:List Int) (i k:Nat):List Int:=(l.set i (ei l k)).set k (ei l i)
@[simp] theorem swL_len (l:List Int) (i k:Nat):(swL l i k).length=l.length:=by simp [swL]
def swN (a b k:Nat):Nat:=if k=b then a else if k=a then b else k
theorem swN_lt {a b k c:Nat} (ha:a<c) (hb:b<c) (hk:k<c):swN a b k<c:=by unfold swN; split; exact ha; split; exact hb; exact hk
def cnrm (r c:Nat) (x:List Nat) (j cc:Nat):Nat:=normV (colL r c x cc j)
def finN (b:Nat):Bool:=decide (fPow b<2047)
def grL (r c:Nat) (x:List Nat) (j:Nat):Nat→Nat→Nat→Bool→Nat × Bool
 | 0,_,at_,ok=>(at_,ok)
 | n+1,cc,at_,ok=>grL r c x j n (cc+1) (if cc=j∨ordI (cnrm r c x j at_) (cnrm r c x j cc)<0 then cc else at_) (ok&&finN (cnrm r c x j cc))
def grR (r c:Nat) (x:List Nat) (j:Nat):Nat × Bool:=grL r c x j (c-j) j j true
theorem grL_lt {r c:Nat} {x:List Nat} {j:Nat}:∀(n:Nat) {cc at_:Nat} {ok:Bool},cc+n=c→at_<c→j≤at_→j≤cc→(grL r c x j n cc at_ ok).1<c∧j≤(grL r c x j n cc at_ ok).1
 | 0,_,_,_,_,h,h2,_=>⟨h,h2⟩
 | n+1,cc,at_,ok,h1,h2,h3,h4=>by
  unfold grL
  split
  ·exact grL_lt n (by omega) (by omega) h4 (by omega)
  ·exact grL_lt n (by omega) h2 h3 (by omega)
theorem grR_lt {r c:Nat} {x:List Nat} {j:Nat} (hj:j<c):(grR r c x j).1<c∧j≤(grR r c x j).1:=grL_lt _ (by omega) hj (Nat.le_refl _) (Nat.le_refl _)
section
variable {r c:Nat} {x:List Nat} (h:Mx r c x) {j:Nat} (hj:j≤r)
include h hj
theorem cnrm_lt (cc:Nat):cnrm r c x j cc<18446744073709551616:=normV_lt _ (colL_words h cc j)
theorem cnrm_ok {cc:Nat}:val 314 [Vl (colL r c x cc j)]=some [Vu (cnrm r c x j cc),Vi 0]:=by
 have hr:=h.hr
 have hl:(colL r c x cc j).length=r-j:=colL_len _ _ _ _ _
 have:=norm_v_ok (colL_words h cc j) (by omega)
 rw [if_pos (by omega)] at this
 exact this
theorem look_ok {cc at_ m:Nat} {ok:Bool} (hcc:cc<c) (hm:m<18446744073709551616) :
  val 265 [Vi cc,.a [Vi r,Vi c,Vl x],.a [Vi j],.a [Vb ok],.a [Vu m],.a [Vi at_]]=some (if cc=j∨ordI m (cnrm r c x j cc)<0 then [.a [Vb (ok&&finN (cnrm r c x j cc))],.a [Vu (cnrm r c x j cc)],.a [Vi cc]] else [.a [Vb (ok&&finN (cnrm r c x j cc))],.a [Vu m],.a [Vi at_]]):=by
 refine val_of tab265 ?_
 have c1:=column_ok h hcc hj
 have n1:=cnrm_ok h hj (cc:=cc)
 have f1:=finite_ok (cnrm r c x j cc)
 have l1:=less_ok hm (cnrm_lt h hj cc)
 have fld:∀(i:Nat) (l:List PV),(U.fld i).den (PV.a l)=l.getD i default:=fun _ _=>rfl
 have ta:∀a:PV,U.toA.den (B.cons.den a (Vl []))=PV.a [a]:=fun _=>rfl
 have hf:decide (fPow (cnrm r c x j cc)≠2047)=finN (cnrm r c x j cc):=by
  unfold finN; have:=fPow_lt (cnrm r c x j cc); exact decide_eq_decide.2 (by omega)
 rw [hf] at f1
 generalize hn:cnrm r c x j cc=n at *
 by_cases e:cc=j
 ·rw [if_pos (.inl e)]
  subst e
  cases ok<;>simp [tr265,TT.dv,fld,c1,n1,f1,ta]
 ·have e':¬(cc:Int)=j:=by omega
  by_cases e2:ordI m n<0
  ·rw [if_pos (.inr e2)]
   rw [decide_eq_true e2] at l1
   cases ok<;>simp [tr265,TT.dv,fld,c1,n1,f1,ta,e,e',l1]
  ·rw [if_neg (by simp [e,e2])]
   rw [decide_eq_false e2] at l1
   cases ok<;>simp [tr265,TT.dv,fld,c1,n1,f1,ta,e,e',l1]
theorem gr_loop:∀(n:Nat) {cc at_:Nat} {ok:Bool} {m:Nat},cc+n=c→j≤cc→m<18446744073709551616→(cc=j∨m=cnrm r c x j at_) →
  rounds (fun vs=>lo264_1.dv (Vi r::Vi c::Vl x::Vi j::vs)) [Vi cc,Vu m,Vb ok,Vi at_]=some (.y (.ext 0) [Vb (grL r c x j n cc at_ ok).2,Vi (grL r c x j n cc at_ ok).1]):=by
 intro n
 have hc:=h.hc
 have ta:∀a:PV,U.toA.den (B.cons.den a (Vl []))=PV.a [a]:=fun _=>rfl
 have ta3:∀a b d:PV,U.toA.den (B.cons.den a (B.cons.den b (B.cons.den d (Vl []))))=PV.a [a,b,d]:=fun _ _ _=>rfl
 have fld:∀(a:PV),(U.fld 0).den (PV.a [a])=a:=fun _=>rfl
 induction n with
 | zero =>
  intro cc at_ ok m hcc hj2 hm hor
  have:cc=c:=by omega
  subst this
  refine rounds_exit ?_ (by simp)
  simp [lo264_1,TT.dv,grL]
 | succ n ih =>
  intro cc at_ ok m hcc hj2 hm hor
  have hlt:cc<c:=by omega
  have lk:=look_ok h hj (at_:=at_) (ok:=ok) hlt hm
  have e1:(B.add .i64).den (Vi cc) (Vi 1)=Vi (cc+1):=add_i (by omega) (by omega)
  have hcond:(cc=j∨ordI m (cnrm r c x j cc)<0)↔(cc=j∨ordI (cnrm r c x j at_) (cnrm r c x j cc)<0):=by
   rcases hor with h0 | h0
   ·exact ⟨fun _ => .inl h0,fun _ => .inl h0⟩
   ·rw [h0]
  unfold grL
  by_cases c1:cc=j∨ordI m (cnrm r c x j cc)<0
  ·rw [if_pos c1] at lk
   rw [if_pos (hcond.1 c1)]
   have h1:=ih (cc:=cc+1) (at_:=cc) (ok:=ok&&finN (cnrm r c x j cc)) (m:=cnrm r c x j cc) (by omega) (by omega) (cnrm_lt h hj cc) (.inr rfl)
   have key:rounds (fun vs=>lo264_1.dv (Vi r::Vi c::Vl x::Vi j::vs)) [Vi cc,Vu m,Vb ok,Vi at_]=rounds (fun vs=>lo264_1.dv (Vi r::Vi c::Vl x::Vi j::vs)) [Vi ((cc+1:Nat):Int),Vu (cnrm r c x j cc),Vb (ok&&finN (cnrm r c x j cc)),Vi cc]:=by
    refine rounds_cont ?_
    simp [lo264_1,TT.dv,hlt,ta,ta3,lk,fld,e1]
   rw [key]; exact h1
  ·rw [if_neg c1] at lk
   rw [if_neg (fun hh=>c1 (hcond.2 hh))]
   have h1:=ih (cc:=cc+1) (at_:=at_) (ok:=ok&&finN (cnrm r c x j cc)) (m:=m) (by omega) (by omega) hm (.inr (hor.resolve_left (fun hh=>c1 (.inl hh))))
   have key:rounds (fun vs=>lo264_1.dv (Vi r::Vi c::Vl x::Vi j::vs)) [Vi cc,Vu m,Vb ok,Vi at_]=rounds (fun vs=>lo264_1.dv (Vi r::Vi c::Vl x::Vi j::vs)) [Vi ((cc+1:Nat):Int),Vu m,Vb (ok&&finN (cnrm r c x j cc)),Vi at_]:=by
    refine rounds_cont ?_
    simp [lo264_1,TT.dv,hlt,ta,ta3,lk,fld,e1]
   rw [key]; exact h1
theorem greatest_ok (hjc:j<c):val 264 [Vi r,Vi c,Vl x,Vi j]=some [Vi (grR r c x j).1,Vb (grR r c x j).2]:=by
 refine val_of tab264 ?_
 have h1:=gr_loop h hj (c-j) (cc:=j) (at_:=j) (ok:=true) (m:=0) (by omega) (Nat.le_refl _) (by decide) (.inl rfl)
 unfold grR
 simp [tr264,TT.dv,KS.dv,h1]
end
section
end
def swG (c:Nat) (x:List Nat) (a b:Nat) (i k:Nat):Nat:=el x (ps i c (swN a b k))
def swV (r c:Nat) (x:List Nat) (a b:Nat):List Nat:=matL (swG c x a b) r c
theorem swV_mx {r c:Nat} {x:List Nat} (h:Mx r c x) (a b:Nat):Mx r c (swV r c x a b):=matL_mx h.hr h.hc fun _ _ _ _=>h.w.el _
theorem el_swV {r c:Nat} {x:List Nat} {a b i k:Nat} (hi:i<r) (hk:k<c):el (swV r c x a b) (ps i c k)=el x (ps i c (swN a b k)):=by
 unfold swV; rw [el_matL _ hi hk]; rfl
section
end
def swI (c a b:Nat):Nat→Nat→List Nat→List Nat
 | 0,_,m=>m
 | n+1,i,m=>swI c a b n (i+1) ((m.set (ps i c a) (el m (ps i c b))).set (ps i c b) (el m (ps i c a)))
theorem swI_len (c a b:Nat):∀(n i:Nat) (m:List Nat),(swI c a b n i m).length=m.length
 | 0,_,_=>rfl
 | n+1,i,m=>by unfold swI; rw [swI_len c a b n,List.length_set,List.length_set]
theorem swI_at {r c a b:Nat} (ha:a<c) (hb:b<c):∀(n i:Nat) {m:List Nat},m.length=r*c→i+n=r→∀i' k,i'<r→k<c→el (swI c a b n i m) (ps i' c k)=if i≤i' then el m (ps i' c (swN a b k)) else el m (ps i' c k)
 | 0,i,m,_,he,i',k,hi,hk=>by unfold swI; rw [if_neg (by omega)]
 | n+1,i,m,hl,he,i',k,hi,hk=>by
  have hir:i<r:=by omega
  have step:∀i' k,i'<r→k<c→el ((m.set (ps i c a) (el m (ps i c b))).set (ps i c b) (el m (ps i c a))) (ps i' c k)=if i=i' then el m (ps i' c (swN a b k)) else el m (ps i' c k):=fun i' k hi hk=>by
   rw [el_set,el_set,List.length_set]
   by_cases h1:i=i'
   ·subst h1
    rw [if_pos rfl]
    unfold swN
    by_cases h2:k=b
    ·subst h2
     rw [if_pos ⟨rfl,by rw [hl]; exact ps_lt hir hk⟩,if_pos rfl]
    ·rw [if_neg (fun hh=>h2 (ps_inj hb hk hh.1).2.symm),if_neg h2]
     by_cases h3:k=a
     ·subst h3
      rw [if_pos ⟨rfl,by rw [hl]; exact ps_lt hir hk⟩,if_pos rfl]
     ·rw [if_neg (fun hh=>h3 (ps_inj ha hk hh.1).2.symm),if_neg h3]
   ·rw [if_neg h1,if_neg (fun hh=>h1 (ps_inj hb hk hh.1).1),if_neg (fun hh=>h1 (ps_inj ha hk hh.1).1)]
  unfold swI
  rw [swI_at ha hb n (i+1) (by rw [List.length_set,List.length_set,hl]) (by omega) i' k hi hk,step _ _ hi (swN_lt ha hb hk),step _ _ hi hk]
  by_cases h1:i+1≤i'
  ·rw [if_pos h1,if_neg (by omega),if_pos (by omega)]
  ·rw [if_neg h1]
   by_cases h2:i=i'
   ·rw [if_pos h2,if_pos (by omega)]
   ·rw [if_neg h2,if_neg (by omega)]
theorem swI_swV {r c a b:Nat} {x:List Nat} (h:Mx r c x) (ha:a<c) (hb:b<c):swI c a b r 0 x=swV r c x a b:=by
 refine mat_ext (r:=r) (c:=c) (by rw [swI_len,h.len]) (matL_len _ _ _) fun i k hi hk => ?_
 rw [swI_at ha hb r 0 h.len (by omega) i k hi hk,if_pos (Nat.zero_le _),el_swV hi hk]
theorem copy_V (x:List Nat):B.copy.den (Vl (List.replicate x.length 0)) (Vl x)=Vl x:=by
 show PV.l ((x.map Vu).take ((List.replicate x.length 0).map Vu).length++((List.replicate x.length 0).map Vu).drop (x.map Vu).length)=_
 rw [List.length_map,List.length_replicate,List.length_map,List.take_of_length_le (by simp),List.drop_of_length_le (by simp),List.append_nil]
 rfl
section
variable {r c:Nat} {a b:Nat} (ha:a<c) (hb:b<c)
include ha hb
theorem sw_loop {x2:PV}:∀(n:Nat) {i:Nat} {m:List Nat},i+n=r→Mx r c m →
  rounds (fun vs=>lo267_1.dv (Vi r::Vi c::x2::Vi a::Vi b::vs)) [Vi i,Vl m]=some (.y (.ext 0) [Vl (swI c a b n i m)]):=by
 intro n
 induction n with
 | zero =>
  intro i m hi h
  have:i=r:=by omega
  subst this
  refine rounds_exit ?_ (by simp)
  simp [lo267_1,TT.dv,swI]
 | succ n ih =>
  intro i m hi h
  have hir:i<r:=by omega
  have hr:=h.hr
  have hc:=h.hc
  obtain ⟨m1,m2⟩:=row_ints h hir
  have hend:=row_end h hir
  refine Eq.trans (rounds_cont ?_) (ih (i:=i+1) (by omega) ((h.set (h.w.el _)).set (h.w.el _)))
  have hz:(i+1)*c=i*c+c:=by rw [Nat.add_mul,Nat.one_mul]
  unfold ps
  have e1:(B.add .i64).den (Vi i) (Vi 1)=Vi (i+1):=add_i (by omega) (by omega)
  rw [e1] at m2
  rw [hz] at m2 hend
  have hy:i*c≤6*6:=Nat.mul_le_mul (by omega) hc
  generalize i*c=y at *
  have g1:B.get.den (Vl m) (Vi ((y:Int)+a))=Vu (el m (y+a)):=by have:=get_V (x:=m) (i:=y+a) (by omega); rwa [show ((y+a:Nat):Int)=(y:Int)+a by omega] at this
  have g2:B.get.den (Vl m) (Vi ((y:Int)+b))=Vu (el m (y+b)):=by have:=get_V (x:=m) (i:=y+b) (by omega); rwa [show ((y+b:Nat):Int)=(y:Int)+b by omega] at this
  have st:∀(z:List Nat) (v d:Nat),T3.set.den (Vl z) (Vi ((y:Int)+d)) (Vu v)=Vl (z.set (y+d) v):=fun z v d=>by have:=set_V z (y+d) v; rwa [show ((y+d:Nat):Int)=(y:Int)+d by omega] at this
  have e2:((y+c:Nat):Int)-(y:Int)=(c:Int):=by omega
  have e3:((y+c:Nat):Int)≤(m.length:Int):=by omega
  have e4:(y:Int)≤((y+c:Nat):Int):=by omega
  have e5:(0:Int)≤((y+c:Nat):Int):=by omega
  have t1:∀z:List Nat,B.take.den (Vl z) (Vi c)=Vl (z.take c):=fun z=>take_V z c
  have d1:∀z:List Nat,B.drop.den (Vl z) (Vi y)=Vl (z.drop y):=fun z=>drop_V z y
  have l1:a<min c (m.length-y):=by omega
  have l2:b<min c (m.length-y):=by omega
  generalize ((y+c:Nat):Int)=w at *
  simp [lo267_1,TT.dv,hir,e1,m1,m2,e2,e3,e4,e5,d1,t1,g1,g2,st]
  omega
theorem swap_ok {x:List Nat} (h:Mx r c x):val 267 [Vi r,Vi c,Vl x,Vi a,Vi b]=some [Vi r,Vi c,Vl (swV r c x a b)]:=by
 refine val_of tab267 ?_
 have hs:=h.small
 have lp:=fun x2=>sw_loop ha hb (x2:=x2) r (i:=0) (m:=x) (by omega) h
 simp only [show ((0:Nat):Int)=0 from rfl,swI_swV h ha hb] at lp
 simp [tr267,TT.dv,KS.dv,rep_V,copy_V,lp,show (x.length:Int)≤17592186044416 by omega]
end
section
variable {r c j:Nat} (hjr:j<r) (hjc:j<c)
include hjr hjc
theorem cl266_loop {x2 x4 x5 x6 x7 x8 x9 x10 x11 x12:PV}:∀(n:Nat) {i:Nat} {m:List Nat},i+n=r→Mx r c m →
  rounds (fun vs=>lo266_1.dv (Vi r::Vi c::x2::Vi j::x4::x5::x6::x7::x8::x9::x10::x11::x12::vs)) [Vi i,Vl m]=some (.y (.ext 0) [Vl (clI c j n i m)]):=by
 intro n
 induction n with
 | zero =>
  intro i m hi hm
  have:i=r:=by omega
  subst this
  refine rounds_exit ?_ (by simp)
  simp [lo266_1,TT.dv,clI]
 | succ n ih =>
  intro i m hi hm
  have hir:i<r:=by omega
  have h1:=hm.hr
  have h2:=hm.hc
  refine Eq.trans (rounds_cont ?_) (ih (i:=i+1) (by omega) (hm.set (p:=ps i c j) (v:=0) (by decide)))
  have e1:(B.add .i64).den (Vi i) (Vi 1)=Vi (i+1):=add_i (by omega) (by omega)
  have p1:=pos_i (i:=i) (c:=c) (k:=j) (by omega) (by omega) (by omega)
  have l1:=hm.lt hir hjc
  simp [lo266_1,TT.dv,hir,e1,p1,l1,set_V]
theorem step_ok {x:List Nat} (h:Mx r c x):val 266 [Vi r,Vi c,Vl x,Vi j]=some (if dnOk r c j x then [Vi r,Vi c,Vl (dnX r c j x),Vl (dnM r c j x).1,Vu (dnM r c j x).2.1,Vb true] else [Vi 0,Vi 0,Vl [],Vl [],Vu 0,Vb false]):=by
 refine val_of tab266 ?_
 have hr:=h.hr
 have hc:=h.hc
 have cl:=column_ok h hjc (show j≤r by omega)
 have mk1:=dmake_ok h hjc hjr
 cases hok:dnOk r c j x
 ·rw [hok] at mk1
  simp only [Bool.false_eq_true,if_false] at mk1 ⊢
  by_cases hf:finV (colL r c x j j)=true
  ·rw [if_pos hf] at mk1
   simp [tr266,TT.dv,cl,mk1]
  ·rw [if_neg hf] at mk1
   simp [tr266,TT.dv,cl,mk1]
 ·rw [hok] at mk1
  simp only [if_true] at mk1 ⊢
  have ap:=dapply_ok h hjc hjr
  have am:=dapply_mx h hjc hjr
  have dm:=dnM_ok h hjc hjr
  have p1:=pos_i (i:=j) (c:=c) (k:=j) (by omega) (by omega) (by omega)
  have l1:=am.lt hjr hjc
  have e1:(B.add .i64).den (Vi j) (Vi 1)=Vi ((j+1:Nat):Int):=by rw [add_i (by omega) (by omega)]; rfl
  have lp:=fun x2 x4 x5 x6 x7 x8 x9 x10 x11 x12=>cl266_loop hjr hjc (x2:=x2) (x4:=x4) (x5:=x5) (x6:=x6) (x7:=x7) (x8:=x8) (x9:=x9) (x10:=x10) (x11:=x11) (x12:=x12) (r-(j+1)) (i:=j+1) (by omega) (am.set (p:=ps j c j) dm.b)
  unfold dnX clV
  generalize ((j+1:Nat):Int)=z at *
  simp [tr266,TT.dv,KS.dv,cl,mk1,ap,p1,l1,e1,set_V,lp]
end
def pvR (r c:Nat):Nat→Nat→List Int→List Nat→List Mir→Option (List Int × List Nat × List Mir)
 | 0,_,pl,x,ms=>some (pl,x,ms)
 | n+1,j,pl,x,ms =>
  if (grR r c x j).2 then
   (if j=r-1 then some (swL pl j (grR r c x j).1,swV r c x j (grR r c x j).1,ms) else
    if dnOk r c j (swV r c x j (grR r c x j).1) then pvR r c n (j+1) (swL pl j (grR r c x j).1) (dnX r c j (swV r c x j (grR r c x j).1)) (ms++[dnM r c j (swV r c x j (grR r c x j).1)]) else none)
  else none
theorem pvR_mx {r c:Nat}:∀(n:Nat) {j:Nat} {pl pl':List Int} {x y:List Nat} {ms ms':List Mir},j+n≤c→j+n≤r→Mx r c x→MsOK r ms→ms.length=j→pvR r c n j pl x ms=some (pl',y,ms')→Mx r c y∧MsOK r ms'∧ms'.length≤r∧pl'.length=pl.length
 | 0,j,pl,pl',x,y,ms,ms',_,h2,h,hm,hl,he=>by
  simp [pvR] at he; obtain ⟨rfl,rfl,rfl⟩:=he
  exact ⟨h,hm,by omega,rfl⟩
 | n+1,j,pl,pl',x,y,ms,ms',h1,h2,h,hm,hl,he=>by
  unfold pvR at he
  split at he
  ·have hs:=swV_mx h j (grR r c x j).1
   split at he
   ·simp at he; obtain ⟨rfl,rfl,rfl⟩:=he
    exact ⟨hs,hm,by omega,by simp⟩
   ·split at he
    ·have hd:=dnM_ok hs (show j<c by omega) (show j<r by omega)
     obtain ⟨a,b,d,e⟩:=pvR_mx n (j:=j+1) (by omega) (by omega) (dnX_mx hs (by omega) (by omega)) (hm.app (by rw [hl]; exact hd)) (by simp [hl]) he
     exact ⟨a,b,d,by rw [e,swL_len]⟩
    ·cases he
  ·cases he
theorem pv_loop {r c:Nat} {x0 x2 x3 x4:PV}:∀(n:Nat) {j:Nat} {pl:List Int} {x:List Nat} {ms:List Mir},j+n=min c r→Mx r c x→ms.length=j→pl.length=c →
  match pvR r c n j pl x ms with
  | some (pl',y,ms')=>rounds (fun vs=>lo262_2.dv (Vi r::Vi c::x2::x3::x4::vs)) [x0,Vi j,ML ms,Jl pl,Vi r,Vi c,Vl x]=some (.y (.ext 2) [x0,ML ms',Jl pl',Vi r,Vi c,Vl y])
  | none=>∃q,rounds (fun vs=>lo262_2.dv (Vi r::Vi c::x2::x3::x4::vs)) [x0,Vi j,ML ms,Jl pl,Vi r,Vi c,Vl x]=some (.y .ret [q]):=by
 intro n
 induction n with
 | zero =>
  intro j pl x ms hj h hl hp
  have hr:=h.hr
  have hc:=h.hc
  simp only [pvR]
  refine rounds_exit ?_ (by simp)
  by_cases c1:j<c
  ·simp [lo262_2,TT.dv,c1,show ¬j<r by omega]
  ·simp [lo262_2,TT.dv,c1]
 | succ n ih =>
  intro j pl x ms hj h hl hp
  have hr:=h.hr
  have hc:=h.hc
  have hjc:j<c:=by omega
  have hjr:j<r:=by omega
  have gr:=greatest_ok h (j:=j) (by omega) hjc
  obtain ⟨ga,gb⟩:=grR_lt (r:=r) (x:=x) hjc
  unfold pvR
  generalize grR r c x j=g at *
  obtain ⟨a,ok⟩:=g
  simp only at gr ga gb ⊢
  cases ok
  ·simp only [Bool.false_eq_true,if_false]
   exact ⟨ML ms,rounds_exit (by simp [lo262_2,TT.dv,hjc,hjr,gr]) (by simp)⟩
  ·simp only [if_true]
   have sw:=swap_ok (a:=j) (b:=a) hjc ga h
   have hs:=swV_mx h j a
   have s1:(B.sub .i64).den (Vi r) (Vi 1)=Vi ((r:Int)-1):=sub_i (by omega) (by omega)
   have g1:=get_J (l:=pl) (i:=a) (by omega)
   have g2:=get_J (l:=pl) (i:=j) (by omega)
   have hla:a<pl.length:=by omega
   have hlj:j<pl.length:=by omega
   have hswL:(pl.set j (ei pl a)).set a (ei pl j)=swL pl j a:=rfl
   by_cases hlast:j=r-1
   ·rw [if_pos hlast]
    have hlast':(j:Int)=r-1:=by omega
    refine rounds_exit ?_ (by simp)
    rw [←hlast'] at s1
    simp [lo262_2,TT.dv,hjc,hjr,gr,sw,hla,hlj,g1,g2,set_J,s1,hswL]
   ·rw [if_neg hlast]
    have hlast':¬(j:Int)=r-1:=by omega
    have st:=step_ok hjr hjc hs
    cases hok:dnOk r c j (swV r c x j a)
    ·rw [hok] at st
     simp only [Bool.false_eq_true,if_false] at st ⊢
     exact ⟨ML ms,rounds_exit (by simp [lo262_2,TT.dv,hjc,hjr,gr,sw,hla,hlj,g1,g2,set_J,s1,hlast',st]) (by simp)⟩
    ·rw [hok] at st
     simp only [if_true] at st ⊢
     have e1:(B.add .i64).den (Vi j) (Vi 1)=Vi ((j+1:Nat):Int):=by rw [add_i (by omega) (by omega)]; rfl
     have hap:=app_ML ms (dnM r c j (swV r c x j a))
     have l2:((ms.length+1:Nat):Int)≤4398046511104:=by omega
     have hlen:=len_ML (ms++[dnM r c j (swV r c x j a)])
     rw [List.length_append,show [dnM r c j (swV r c x j a)].length=1 from rfl] at hlen
     have key:rounds (fun vs=>lo262_2.dv (Vi r::Vi c::x2::x3::x4::vs)) [x0,Vi j,ML ms,Jl pl,Vi r,Vi c,Vl x]=rounds (fun vs=>lo262_2.dv (Vi r::Vi c::x2::x3::x4::vs)) [x0,Vi ((j+1:Nat):Int),ML (ms++[dnM r c j (swV r c x j a)]),Jl (swL pl j a),Vi r,Vi c,Vl (dnX r c j (swV r c x j a))]:=by
      refine rounds_cont ?_
      generalize ((j+1:Nat):Int)=z at *
      generalize ((ms.length+1:Nat):Int)=w at *
      generalize dnX r c j (swV r c x j a)=y at *
      generalize dnM r c j (swV r c x j a)=mm at *
      generalize swV r c x j a=xx at *
      simp [lo262_2,TT.dv,hjc,hjr,gr,sw,hla,hlj,g1,g2,set_J,s1,hlast',st,e1,hap,hlen,l2,hswL]
     rw [key]
     exact ih (j:=j+1) (by omega) (dnX_mx hs hjc hjr) (by simp [hl]) (by simpa using hp)
theorem awake_16:val 69 []=some [Vb true]:=val_iff.2 ⟨4000,by kernel_rfl⟩
def pfR (r c:Nat) (x:List Nat):Option (List Nat × List Nat × List Int) :=
 match pvR r c (min c r) 0 (firL c) x [] with
 | none=>none
 | some (pl,y,ms)=>if finV (qrQ r ms)&&finV y then some (qrQ r ms,y,pl) else none
theorem pv_mx {r c:Nat} {x y:List Nat} {pl:List Int} {ms:List Mir} (h:Mx r c x) (he:pvR r c (min c r) 0 (firL c) x []=some (pl,y,ms)):Mx r c y∧MsOK r ms∧ms.length≤r∧pl.length=c:=by
 obtain ⟨a,b,d,e⟩:=pvR_mx (min c r) (j:=0) (by omega) (by omega) h (fun j m hj=>by simp at hj) rfl he
 exact ⟨a,b,d,by simpa using e⟩
theorem pl_loop {c:Nat} (hc:c≤6) {x0 x2 x3:PV}:∀(n:Nat) {i:Nat},i+n=c→rounds (fun vs=>lo262_1.dv (x0::Vi c::x2::x3::vs)) [Vi i,Jl (firL i)]=some (.y (.ext 0) [Jl (firL c)]):=by
 intro n
 induction n with
 | zero =>
  intro i hi
  have:i=c:=by omega
  subst this
  refine rounds_exit ?_ (by simp)
  simp [lo262_1,TT.dv]
 | succ n ih =>
  intro i hi
  refine Eq.trans (rounds_cont ?_) (ih (i:=i+1) (by omega))
  have e1:(B.add .i64).den (Vi i) (Vi 1)=Vi (i+1):=add_i (by omega) (by omega)
  have a1:=app_J (firL i) i
  rw [firL_succ] at a1
  simp [lo262_1,TT.dv,show i<c by omega,e1,a1,show (i:Int)+1≤17592186044416 by omega]
section
variable {r:Nat} {ms:List Mir} (hms:MsOK r ms) (hml:ms.length≤r)
include hms hml
theorem back262_loop {x0 x1 x2 x3 x4 x5 x7 x8 x9 x10 x11 x12 x13 x14:PV}:∀(n:Nat) {q:List Nat},n≤ms.length→Mx r r q →
  rounds (fun vs=>lo262_3.dv (x0::x1::x2::x3::x4::x5::ML ms::x7::x8::x9::x10::x11::x12::x13::x14::vs)) [Vi ((n:Int)-1),Vi r,Vi r,Vl q]=some (.y (.ext 4) [Vi r,Vi r,Vl (backR r ms n q)]):=by
 intro n
 induction n with
 | zero =>
  intro q hn hq
  refine rounds_exit ?_ (by simp)
  simp [lo262_3,TT.dv,backR]
 | succ n ih =>
  intro q hn hq
  have hlt:n<ms.length:=by omega
  refine Eq.trans (rounds_cont ?_) (ih (by omega) (back_step_mx hms hml hq hlt))
  have hr:=hq.hr
  have e0:((n+1:Nat):Int)-1=(n:Int):=by omega
  have e1:(B.sub .i64).den (Vi n) (Vi 1)=Vi ((n:Int)-1):=sub_i (by omega) (by omega)
  have a1:=back_ap hms hml hq hlt
  have g1:=get_ML hlt
  have l1:=len_ML ms
  have f0:∀a b:PV,(U.fld 0).den (PV.a [a,b])=a:=fun _ _=>rfl
  have f1:∀a b:PV,(U.fld 1).den (PV.a [a,b])=b:=fun _ _=>rfl
  rw [e0]
  simp [lo262_3,TT.dv,hlt,e1,a1,g1,l1,f0,f1]
end
theorem pfactor_ok {r c:Nat} {x:List Nat} (h:Mx r c x) (hf:finV x=true):val 262 [Vi r,Vi c,Vl x]=some (match pfR r c x with | some (q,y,pl)=>[Vi r,Vi r,Vl q,Vi r,Vi c,Vl y,Jl pl,Vi 0] | none=>[Vi 0,Vi 0,Vl [],Vi 0,Vi 0,Vl [],Jl [],Vi 2]):=by
 refine val_of tab262 ?_
 have hr:=h.hr
 have hs:=h.small
 have h1:=ccheck_ok r c (x:=x) (by omega)
 unfold chk at h1
 rw [if_pos (mx_right h),if_pos hf] at h1
 have lp1:=fun x0 x2 x3=>pl_loop h.hc (x0:=x0) (x2:=x2) (x3:=x3) c (i:=0) (by omega)
 simp only [show ((0:Nat):Int)=0 from rfl,show Jl (firL 0)=Vl [] from rfl] at lp1
 have lp2:=fun x0 x2 x3 x4=>pv_loop (x0:=x0) (x2:=x2) (x3:=x3) (x4:=x4) (min c r) (j:=0) (pl:=firL c) (x:=x) (ms:=[]) (by omega) h rfl (by simp)
 unfold pfR
 cases hd:pvR r c (min c r) 0 (firL c) x [] with
 | none =>
  rw [hd] at lp2
  obtain ⟨q,lp2⟩:=lp2 (Vi 0) (Vl x) (Vi 0) (Jl (firL c))
  rw [show ((0:Nat):Int)=0 from rfl,←ML_nil] at lp2
  simp [tr262,TT.dv,KS.dv,h1,lp1,lp2,show (x.length:Int)≤17592186044416 by omega,←Jl_nil]
 | some p =>
  obtain ⟨pl,y,ms⟩:=p
  rw [hd] at lp2
  have lp2:=lp2 (Vi 0) (Vl x) (Vi 0) (Jl (firL c))
  simp only [show ((0:Nat):Int)=0 from rfl,←ML_nil] at lp2
  obtain ⟨hy,hms,hml,hpl⟩:=pv_mx h hd
  have h3:=eye_ok hr
  have hq:Mx r r (qrQ r ms):=backR_mx hms hml _ (Nat.le_refl _) (eyV_mx h.hr)
  have lp3:=fun x0 x1 x2 x3 x4 x5 x7 x8 x9 x10 x11 x12 x13 x14=>back262_loop hms hml (x0:=x0) (x1:=x1) (x2:=x2) (x3:=x3) (x4:=x4) (x5:=x5) (x7:=x7) (x8:=x8) (x9:=x9) (x10:=x10) (x11:=x11) (x12:=x12) (x13:=x13) (x14:=x14) ms.length (Nat.le_refl _) (eyV_mx hr)
  rw [show backR r ms ms.length (eyV r)=qrQ r ms from rfl] at lp3
  have f1:=finite_v_ok hq.w (by have:=hq.small; omega)
  have f2:=finite_v_ok hy.w (by have:=hy.small; omega)
  have l1:=len_ML ms
  have s1:(B.sub .i64).den (Vi ms.length) (Vi 1)=Vi ((ms.length:Int)-1):=sub_i (by omega) (by omega)
  cases c1:finV (qrQ r ms)
  ·rw [c1] at f1
   simp [tr262,TT.dv,KS.dv,h1,lp1,lp2,h3,show (x.length:Int)≤17592186044416 by omega,lp3,l1,s1,f1,c1,←Jl_nil]
  ·cases c2:finV y<;>rw [c1] at f1<;>rw [c2] at f2 <;>
   simp [tr262,TT.dv,KS.dv,h1,lp1,lp2,h3,show (x.length:Int)≤17592186044416 by omega,lp3,l1,s1,f1,f2,c1,c2,←Jl_nil]
def Ints (l:List Int):Prop:=∀a∈l,-9223372036854775808≤a∧a<9223372036854775808
theorem pv_li {p:PV} (h:PvT (.sl .i64) p):∃l:List Int,p=Jl l∧Ints l∧l.length≤17592186043904:=by
 obtain ⟨zs,rfl,hw,hl⟩:=h
 refine ⟨zs,rfl,fun a ha=>wf_i64 (hw a ha),?_⟩
 have:IntKind.i64.bits/8=8:=rfl
 rw [this] at hl
 unfold reachBytes at hl
 omega
def tdP (c:Nat) (x:List Nat) (j:Nat):Bool:=decide (ordI (scaleV (absV (el x 0)) (-40)) (absV (el x (ps j c j)))<0)
def tdR (c:Nat) (x:List Nat):Nat→Nat→Nat
 | 0,j=>j
 | n+1,j=>if tdP c x j then tdR c x n (j+1) else j
section
variable {r c:Nat} {x:List Nat} (h:Mx r c x)
include h
theorem td_less {j:Nat} (hj:j<c) (hjr:j<r):val 7 [Vu (scaleV (absV (el x 0)) (-40)),Vu (absV (el x (ps j c j)))]=some [Vb (tdP c x j)]:=less_ok (scaleV_lt (by have:=absV_lt (el x 0); omega) _) (by have:=absV_lt (el x (ps j c j)); omega)
theorem td_loop {x3:PV}:∀(n:Nat) {j:Nat},j+n=min r c →
  rounds (fun vs=>lo263_1.dv (Vi r::Vi c::Vl x::x3::vs)) [Vi j,Vi j]=some (.y (.ext 0) [Vi (tdR c x n j)]):=by
 intro n
 have hr:=h.hr
 have hc:=h.hc
 induction n with
 | zero =>
  intro j hj
  refine rounds_exit ?_ (by simp)
  by_cases c1:j<r
  ·simp [lo263_1,TT.dv,c1,show ¬j<c by omega,tdR]
  ·simp [lo263_1,TT.dv,c1,tdR]
 | succ n ih =>
  intro j hj
  have c1:j<r:=by omega
  have c2:j<c:=by omega
  have l1:=h.lt c1 c2
  have l0:0<x.length:=by omega
  have g1:=get_V l1
  have g0:=get_V l0
  rw [show ((0:Nat):Int)=0 from rfl] at g0
  have a0:val 3 [Vu (el x 0)]=some [Vu (absV (el x 0))]:=abs_ok _
  have a1:val 3 [Vu (el x (ps j c j))]=some [Vu (absV (el x (ps j c j)))]:=abs_ok _
  have s0:=vshift_ok (absV (el x 0)) (-40)
  have ls:=td_less h c2 c1
  have p1:=pos_i (i:=j) (c:=c) (k:=j) (by omega) (by omega) (by omega)
  have e1:(B.add .i64).den (Vi j) (Vi 1)=Vi ((j+1:Nat):Int):=by rw [add_i (by omega) (by omega)]; rfl
  unfold tdR
  cases ht:tdP c x j
  ·rw [ht] at ls
   refine rounds_exit ?_ (by simp)
   simp [lo263_1,TT.dv,c1,c2,l0,l1,g0,g1,a0,a1,s0,ls,p1]
  ·rw [ht] at ls
   simp only [if_true]
   rw [←ih (j:=j+1) (by omega)]
   refine rounds_cont ?_
   generalize ((j+1:Nat):Int)=z at *
   simp [lo263_1,TT.dv,c1,c2,l0,l1,g0,g1,a0,a1,s0,ls,p1,e1]
theorem ptold_ok (hf:finV x=true):val 263 [Vi r,Vi c,Vl x]=some [Vi (tdR c x (min r c) 0),Vi 0]:=by
 refine val_of tab263 ?_
 have hs:=h.small
 have h1:=ccheck_ok r c (x:=x) (by omega)
 unfold chk at h1
 rw [if_pos (mx_right h),if_pos hf] at h1
 have lp:=fun x3=>td_loop h (x3:=x3) (min r c) (j:=0) (by omega)
 simp only [show ((0:Nat):Int)=0 from rfl] at lp
 simp [tr263,TT.dv,KS.dv,h1,lp]
end
section
end
section
end
section
end
def one8:Nat:=4607182418800017408
section
end
section
end
theorem swN_swN {a b k:Nat}:swN a b (swN a b k)=k:=by
 unfold swN
 by_cases h1:k=b
 ·subst h1
  rw [if_pos rfl]
  by_cases h2:a=k
  ·rw [if_pos h2,h2]
  ·rw [if_neg h2,if_pos rfl]
 ·rw [if_neg h1]
  by_cases h2:k=a
  ·subst h2; rw [if_pos rfl,if_pos rfl]
  ·rw [if_neg h2,if_neg h1,if_neg h2]
section
end
section
end
section
end
section
end
section
end
section
end
section
end
section
end
section
end
theorem W_one8:W one8=1:=W_one
theorem one8_inf:one8<infR:=by decide
theorem fl_scale {b:Nat} (hb:b<18446744073709551616) (h:fPow b≠2047) {k:Int} (hk : -2300≤k∧k≤2300) {A:Rat} (hA:W b*P2 k≤A) (hA2:A≤P2 1023):Fl (scaleV b k) (sv b*P2 k) (A*uu+ee):=by
 rw [scaleV_fin hb h,clamp_id hk]
 refine fl_near ?_ ?_ hA2
 ·rw [sv_D b,←D_shift]
  cases fNeg b<;>simp<;>grind
 ·have hP:=Rat.le_of_lt (P2_pos k)
  have:=(sv_ab b).mul (y:=P2 k) (b:=P2 k) ⟨by grind,Rat.le_refl⟩
  exact this.mono hA
theorem norm_up {x:List Nat} (hx:Words x) (hl:x.length≤64) (hfin:∀i,i<x.length→fPow (el x i)≠2047) (h0:bigV x≠0) (hk:expB (bigV x)≤850) :
  normV x<infR∧W (normV x)≤17*P2 (expB (bigV x))+ee∧(∀i,i<x.length→W (el x i)≤2*P2 (expB (bigV x)))∧∃i,i<x.length∧P2 (expB (bigV x))≤W (el x i):=by
 obtain ⟨b1,b2,b3⟩:=bigR_mem (x:=x) x.length (i:=0) (m:=0) (fun j _ hj=>fin_nan (hfin j (by omega)))
 rw [show bigR x x.length 0 0=bigV x from rfl] at b1 b2 b3
 obtain ⟨i0,-,i1,i2⟩:=b3.resolve_left h0
 clear b3
 have i1':i0<x.length:=by omega
 have hmf:bigV x<infR:=by rw [←i2]; exact fin_abs (hfin i0 i1')
 obtain ⟨f1,f2,f3,f4⟩:=fields_abs (el x i0)
 rw [i2] at f1 f2 f3 f4
 have hpm:fPow (bigV x)≠2047:=by rw [f3]; exact hfin i0 i1'
 have hm0:fMag (bigV x)≠0:=fun h=>by
  have:=(mag_zero (bigV x)).1 h
  unfold fPow fFrac at this; unfold infR at hmf; omega
 obtain ⟨w1,w2⟩:=expB_W hpm hm0
 have hbd:=expB_bd (bigV x)
 have hWle:∀i,i<x.length→W (el x i)≤W (bigV x):=fun i hi=>by
  rw [←W_abs (el x i),W_le (absV_lt _) (by unfold infR at hmf; omega)]
  exact b2 i (Nat.zero_le _) (by omega)
 have hn:normV x=scaleV (sqrtV (sqrV x (expB (bigV x)))) (expB (bigV x)):=by unfold normV; rw [if_neg (by omega)]
 have two:P2 (expB (bigV x)+1)=2*P2 (expB (bigV x)):=by
  rw [P2_add,show (1:Int)=((1:Nat):Int) from rfl,P2_nat]
  have:((2^1:Nat):Rat)=2:=rfl
  rw [this]; grind
 rw [two] at w2
 refine ⟨?_,?_,fun i hi=>Rat.le_trans (hWle i hi) (Rat.le_of_lt w2),i0,i1',by rw [←W_abs,i2]; exact w1⟩
 all_goals
  generalize hk2:expB (bigV x)=k at *
  have hP:=parts_of hx (k:=k) (by omega) hfin (fun i hi=>Rat.le_trans (hWle i hi) (by rw [two]; exact Rat.le_of_lt w2))
  obtain ⟨s1,s2,s3,s4⟩:=sums_ge hP (by omega) x.length (i:=0) (s:=0) (by omega) (by decide) (by rw [show W 0=0 by unfold W; rw [show fMag 0=0 from by decide,D_zero]]; exact Rat.le_refl)
  rw [show sqrR x k x.length 0 0=sqrV x k from rfl] at s1 s2
  have hW256:W (nearR 256 0)=((256:Nat):Rat):=(W_int (by omega)).2
  have hle256:sqrV x k≤nearR 256 0:=by
   rw [←W_le (by unfold infR at s1; omega) (by decide),hW256]
   refine Rat.le_trans s2 (Rat.natCast_le_natCast.2 (by omega))
  have h16:sqrtV (nearR 256 0)=4625196817309499392:=by
   have h1:nearR 256 0=4643211215818981376:=by decide
   rw [h1]
   have h2:=sqrt_sq (t:=4625196817309499392) (by decide) (by decide) (by decide) (by decide)
   rw [←h2]
   exact congrArg sqrtV (by decide)
  have hr16:sqrtV (sqrV x k)≤4625196817309499392:=by rw [←h16]; exact sqrt_mono hle256 (by decide)
  have hrf:sqrtV (sqrV x k)<infR:=Nat.lt_of_le_of_lt hr16 (by decide)
  have hWr2:W (sqrtV (sqrV x k))≤16:=by
   have h1:W 4625196817309499392=16:=by
    unfold W D
    rw [show fMag 4625196817309499392=2^52 from by decide,show fPl 4625196817309499392 = -48 from by decide,←P2_nat,←P2_add,show ((52:Nat):Int) + -48=((4:Nat):Int) by omega,P2_nat]; rfl
   rw [←h1,W_le (by unfold infR at hrf; omega) (by decide)]; exact hr16
  rw [hn]
  generalize sqrtV (sqrV x k)=r at *
  obtain ⟨p1,p2,p3,p4⟩:=word_pos hrf
  have hPk:=Rat.le_of_lt (P2_pos k)
  have hm:=Rat.mul_le_mul_of_nonneg_right hWr2 hPk
  have hD:D (fMag r) (fPl r+k)=W r*P2 k:=by rw [←D_shift]; rfl
  have hb:nearR (fMag r) (fPl r+k)<infR:=near_fin (by
   rw [hD]
   have a1:P2 k≤P2 850:=P2_mono hk
   have a2:16*P2 850≤P2 1023:=by decide +kernel
   generalize P2 850=z at *
   generalize P2 1023=z2 at *
   grind)
  obtain ⟨e1,e2⟩:=near_err' hb
  rw [scaleV_fin p3 p1,p2,clamp_id (by omega)]
  rw [hD] at e1
 ·exact hb
 ·show W (nearR _ _)≤17*P2 k+P2 (-1075)
  have:=Rat.mul_nonneg (W_nonneg r) hPk
  grind
theorem norm_any {x:List Nat} (hx:Words x) (hl:x.length≤64) (hfin:∀i,i<x.length→fPow (el x i)≠2047) (hb:∀i,i<x.length→W (el x i)≤P2 800) :
  normV x<infR∧(∀M,(∀i,i<x.length→W (el x i)≤M)→0≤M→W (normV x)≤17*M+ee) ∧
  ((P2 (-800)≤W (normV x)∨P2 (-1600)≤sumA (fun i=>W (el x i)) x.length)→Er (W (normV x)*W (normV x)) (sumA (fun i=>W (el x i)) x.length) (150*uu*sumA (fun i=>W (el x i)) x.length)):=by
 by_cases h0:bigV x=0
 ·have hn:=norm_zero h0
  have:=norm_err_g hx hl hfin (fun h=>absurd h0 h)
  rw [hn]
  refine ⟨by decide,fun M _ hM=>by rw [W_zero_of (by decide)]; have:=ee0.1; grind,fun _ => ?_⟩
  rw [hn] at this
  exact this
 ·have hk:expB (bigV x)≤850:=by
   obtain ⟨b1,b2,b3⟩:=bigR_mem (x:=x) x.length (i:=0) (m:=0) (fun j _ hj=>fin_nan (hfin j (by omega)))
   rw [show bigR x x.length 0 0=bigV x from rfl] at b1 b2 b3
   obtain ⟨i0,-,i1,i2⟩:=b3.resolve_left h0
   clear b3
   have i1':i0<x.length:=by omega
   have hmf:bigV x<infR:=by rw [←i2]; exact fin_abs (hfin i0 i1')
   obtain ⟨f1,f2,f3,f4⟩:=fields_abs (el x i0)
   rw [i2] at f1 f2 f3 f4
   have hpm:fPow (bigV x)≠2047:=by rw [f3]; exact hfin i0 i1'
   have hm0:fMag (bigV x)≠0:=fun h=>by
    have:=(mag_zero (bigV x)).1 h
    unfold fPow fFrac at this; unfold infR at hmf; omega
   obtain ⟨w1,w2⟩:=expB_W hpm hm0
   have h2:=hb i0 i1'
   rw [←W_abs,i2] at h2
   have:=P2_le_iff.1 (Rat.le_trans w1 h2)
   omega
  obtain ⟨c1,c2,c3,i,hi,c4⟩:=norm_up hx hl hfin h0 hk
  refine ⟨c1,fun M hM hM0 => ?_,fun hor => ?_⟩
  ·have:=Rat.le_trans c4 (hM i hi)
   grind
  ·by_cases hk2 : -900≤expB (bigV x)
   ·exact norm_err_g hx hl hfin (fun _=>⟨hk2,by omega⟩)
   ·exfalso
    have a1:P2 (expB (bigV x))≤P2 (-901):=P2_mono (by omega)
    rcases hor with hor | hor
    ·have a2:17*P2 (-901)+ee<P2 (-800):=by decide +kernel
     grind
    ·have a3:sumA (fun i=>W (el x i)) x.length≤(x.length:Rat)*(4*(P2 (-901)*P2 (-901))):=by
      rw [sumA_sumP,←sumP_const]
      refine sumP_le fun i hi => ?_
      have a4:=rat_sq_le (W_nonneg (el x i)) (Rat.le_trans (c3 i hi) (Rat.mul_le_mul_of_nonneg_left a1 (by decide)))
      grind
     have a5:((x.length:Nat):Rat)≤((64:Nat):Rat):=Rat.natCast_le_natCast.2 hl
     have a6:0≤4*(P2 (-901)*P2 (-901)):=by decide +kernel
     have a7:=Rat.mul_le_mul_of_nonneg_right a5 a6
     have a8:((64:Nat):Rat)*(4*(P2 (-901)*P2 (-901)))<P2 (-1600):=by decide +kernel
     have a9:=Rat.le_trans hor (Rat.le_trans a3 a7)
     generalize P2 (-1600)=z at *
     generalize ((64:Nat):Rat)*(4*(P2 (-901)*P2 (-901)))=z2 at *
     grind
theorem ord_lt {a b:Nat} (ha:a<9223372036854775808) (hb:b<9223372036854775808) (h:ordI a b<0):a<b:=by
 unfold ordI at h
 split at h
 ·rw [rk_pos ha,rk_pos hb] at h
  unfold cmp3 at h
  split at h
  ·omega
  ·split at h<;>omega
 ·omega
theorem ord_ge {a b:Nat} (ha:a≤infR) (hb:b≤infR) (h:¬ordI a b<0):b≤a:=by
 unfold ordI at h
 rw [show ordOk a b=true by unfold ordOk; simp [le_inf_nan ha,le_inf_nan hb],if_pos rfl,rk_pos (by unfold infR at ha; omega),rk_pos (by unfold infR at hb; omega)] at h
 unfold cmp3 at h
 split at h
 ·omega
 ·omega
theorem W_mono {a b:Nat} (hb:b<9223372036854775808) (h:a≤b):W a≤W b:=(W_le (by omega) hb).2 h
def one2:Nat→Nat→Rat:=fun i k=>if i=k then 1 else 0
theorem mm_one {n:Nat} (X:Nat→Nat→Rat) {i k:Nat} (hk:k<n):mm n X one2 i k=X i k:=by
 unfold mm one2
 rw [sum_pick hk (fun j _ h=>by rw [if_neg h]; grind),if_pos rfl]; grind
theorem fn_one {n:Nat} (h:n≤6):FN n n one2 (5/2):=by
 refine FN.of (by decide +kernel) ?_
 have e:sum2 n n (fun i k=>one2 i k*one2 i k)=(n:Rat):=by
  unfold sum2
  rw [sumP_congr (q:=fun _=>1) fun i hi=>by
   rw [sum_pick hi (fun k _ hk=>by dsimp only; unfold one2; rw [if_neg (fun hh=>hk hh.symm)]; grind)]
   dsimp only
   unfold one2
   rw [if_pos rfl]
   grind,sumP_const]
  grind
 rw [e]
 have a1:((n:Nat):Rat)≤((6:Nat):Rat):=Rat.natCast_le_natCast.2 h
 have a2:((6:Nat):Rat)=6:=rfl
 rw [a2] at a1
 grind
theorem mvl_eye {n i k:Nat} (hi:i<n) (hk:k<n):mvl n (eyV n) i k=one2 i k:=by
 unfold mvl eyV one2
 rw [el_matL _ hi hk]
 unfold eyG
 split
 ·exact sv_one
 ·exact sv_zero (by decide)
theorem um_small {m:Nat} (hm:m≤900):0≤uu*(m:Rat)∧uu*(m:Rat)≤1/1000000000∧(0:Rat)≤m:=by
 have h0:(0:Rat)≤m:=Rat.natCast_nonneg
 have h1:(m:Rat)≤((900:Nat):Rat):=Rat.natCast_le_natCast.2 hm
 have h2:=Rat.mul_le_mul_of_nonneg_left h1 uu_pos
 have h3:uu*((900:Nat):Rat)≤1/1000000000:=by decide +kernel
 exact ⟨Rat.mul_nonneg uu_pos h0,Rat.le_trans h2 h3,h0⟩
section
end
section
end
section
end
section
end
section
end
theorem mirY {x:List Nat} (hx:Words x) (h1:1≤x.length) (h6:x.length≤6) (H:HCore x) (hn:nouV x=false) (j:Nat) (hj:j<x.length):Er (mirX (mkV x) (hY x) (mkTau x) j) (if j=0 then sv (hMu x) else 0) (350*(uu*W (hR x))):=by
  have h64:x.length≤64:=by omega
  have vl:=mkV_len hx h1 h64
  obtain ⟨m1,m2,m3,m4⟩:=mu_ok hx h1 h64 H
  obtain ⟨t1,t2,t3⟩:=hTau_ok hx h1 h64 H
  obtain ⟨s1,s2,s3,s4,s5⟩:=hD_small hx h1 h6 H
  obtain ⟨sD,hD2⟩:=hD_W hx h1 h64 H
  obtain ⟨d1,d2,d3⟩:=dd_small hx h1 h64 H
  have hn':¬nouV x=true:=by simp [hn]
  have e1:mkTau x=hTau x:=by unfold mkTau; rw [if_neg hn']
  have e3:∀j,j<x.length→el (mkV x) j=if j=0 then 4607182418800017408 else hVG x j:=fun j hj=>by
   unfold mkV; rw [if_neg hn',el_mk' hj]; rfl
  have o:=H.one
  have r5:=r_small hx h1 h6 H
  have hY0:=W_nonneg (el (hY x) 0)
  obtain ⟨n1,n2⟩:=ee1
  have hS:Er (sumP (fun i=>sv (hVG x (1+i))*sv (hD x)*sv (el (hY x) (1+i))) (x.length-1)) (sumP (fun i=>W (el (hY x) (1+i))*W (el (hY x) (1+i))) (x.length-1)) (2*uu*sumP (fun i=>W (el (hY x) (1+i))*W (el (hY x) (1+i))) (x.length-1)+((x.length-1:Nat):Rat)*(32*ee)):=by
   rw [←sumP_mul,←sumP_const,←sumP_add]
   refine sumP_er fun i hi => ?_
   obtain ⟨v1,v2,v3,v4⟩:=hV_ok hx h1 h6 H (i:=1+i) (by omega)
   have:=v2.mul (Er.refl (sv (el (hY x) (1+i)))) (sv_ab _) (sv_ab _)
   rw [sv_W] at this
   refine this.mono ?_
   have y2:=H.y2 (1+i) (by omega)
   have a1:=Rat.mul_le_mul_of_nonneg_right y2 (c:=16*ee) (by grind)
   generalize W (el (hY x) (1+i))=y at *
   generalize uu=u at *
   grind
  have hdot:dotX (mkV x) (hY x) x.length*sv (hD x)=W (el (hY x) 0)*W (hD x)+sumP (fun i=>sv (hVG x (1+i))*sv (hD x)*sv (el (hY x) (1+i))) (x.length-1):=by
   unfold dotX
   rw [sum_first _ h1,e3 0 h1,if_pos rfl,sv_one]
   have e4:sumP (fun i=>sv (el (mkV x) (1+i))*sv (el (hY x) (1+i))) (x.length-1)*sv (hD x)=sumP (fun i=>sv (hVG x (1+i))*sv (hD x)*sv (el (hY x) (1+i))) (x.length-1):=by
    rw [←sumP_mulr]
    refine sumP_congr fun i hi => ?_
    rw [e3 (1+i) (by omega),if_neg (by omega)]
    grind
   have e5:sv (el (hY x) 0)*sv (hD x)=W (el (hY x) 0)*W (hD x):=by
    rw [H.s0,sv_of sD]
    cases hσ x<;>simp<;>grind
   generalize sumP (fun i=>sv (el (mkV x) (1+i))*sv (el (hY x) (1+i))) (x.length-1)=z1 at *
   generalize sumP (fun i=>sv (hVG x (1+i))*sv (hD x)*sv (el (hY x) (1+i))) (x.length-1)=z2 at *
   generalize sv (hD x)=D at *
   generalize sv (el (hY x) 0)=y0 at *
   grind
  have hN:sumA (fun i=>W (el (hY x) i)) x.length=W (el (hY x) 0)*W (el (hY x) 0)+sumP (fun i=>W (el (hY x) (1+i))*W (el (hY x) (1+i))) (x.length-1):=by
   rw [sumA_sumP,sum_first _ h1]
  have hsq:=H.sq
  rw [hN] at hsq
  have hB0:0≤sumP (fun i=>W (el (hY x) (1+i))*W (el (hY x) (1+i))) (x.length-1):=sumP_nonneg fun i _=>Rat.mul_nonneg (W_nonneg _) (W_nonneg _)
  have htiny:((x.length-1:Nat):Rat)*(32*ee)≤uu:=by
   have a1:((x.length-1:Nat):Rat)≤((6:Nat):Rat):=Rat.natCast_le_natCast.2 (by omega)
   have a2:((6:Nat):Rat)=6:=rfl
   rw [a2] at a1
   have a3:=Rat.mul_le_mul_of_nonneg_right a1 (c:=32*ee) (by grind)
   exact Rat.le_trans a3 (by decide +kernel)
  generalize ((x.length-1:Nat):Rat)*(32*ee)=tiny at *
  generalize sumP (fun i=>sv (hVG x (1+i))*sv (hD x)*sv (el (hY x) (1+i))) (x.length-1)=S at *
  generalize sumP (fun i=>W (el (hY x) (1+i))*W (el (hY x) (1+i))) (x.length-1)=B at *
  have hdd0:0≤W (el (hY x) 0)+W (hR x):=by grind
  have hMdd:1≤W (hR x)*(W (el (hY x) 0)+W (hR x)):=by
   have:=Rat.mul_le_mul_of_nonneg_left d2 (c:=W (hR x)) (by grind)
   grind
  have hYY:0≤W (el (hY x) 0)*W (el (hY x) 0):=Rat.mul_nonneg hY0 hY0
  have hYM:0≤W (el (hY x) 0)*W (hR x):=Rat.mul_nonneg hY0 (by grind)
  have hMM:0≤W (hR x)*W (hR x):=Rat.mul_nonneg (by grind) (by grind)
  have hw1:Re (W (el (hY x) 0)*W (hD x)+S) (W (hR x)*(W (el (hY x) 0)+W (hR x))) 160:=by
   obtain ⟨a1,a2⟩:=Re.symm hsq (by grind) (by decide +kernel) (by decide +kernel)
   obtain ⟨c1,c2⟩:=hD2
   obtain ⟨f1,f2⟩:=hS
   have g1:=Rat.mul_le_mul_of_nonneg_left c1 hY0
   have g2:=Rat.mul_le_mul_of_nonneg_left c2 hY0
   have k1:uu*1≤uu*(W (hR x)*(W (el (hY x) 0)+W (hR x))):=Rat.mul_le_mul_of_nonneg_left hMdd uu_pos
   have k2:=Rat.mul_nonneg uu_pos hYY
   have k3:=Rat.mul_nonneg uu_pos hYM
   have k4:=Rat.mul_nonneg uu_pos hMM
   have k5:=Rat.mul_nonneg uu_pos hB0
   have k6:uu*(uu*(W (hR x)*W (hR x)))≤1/1000000*(uu*(W (hR x)*W (hR x))):=Rat.mul_le_mul_of_nonneg_right (by decide +kernel) k4
   have k7:uu*(W (el (hY x) 0)*W (el (hY x) 0)+B)≤uu*(W (hR x)*W (hR x)+(150+1)*uu*(W (hR x)*W (hR x))):=Rat.mul_le_mul_of_nonneg_left a1 uu_pos
   clear hdot m1 m3 hN
   show Er _ _ (160*uu*(W (hR x)*(W (el (hY x) 0)+W (hR x))))
   generalize W (hR x)=M at *
   generalize W (el (hY x) 0)=Y at *
   generalize W (hD x)=Dh at *
   generalize uu=u at *
   have hl:=w1_lin (M2:=M*M) (YM:=Y*M) (Y2:=Y*Y) (B:=B) (YD:=Y*Dh) (S:=S) (U1:=u*(M*M)) (U2:=u*(Y*M)) (U3:=u*(Y*Y)) (U4:=u*B) (u:=u) (tiny:=tiny) k3 k4
    (by clear g2 k1 k6 k7 f1 f2 a1 a2; grind) (by clear g1 k1 k6 k7 f1 f2 a1 a2; grind) (by clear g1 g2 k1 k6 k7 a1 a2; grind) (by clear g1 g2 k1 k6 k7 a1 a2; grind) (by clear g1 g2 k1 k6 k7 f1 f2; grind) (by clear g1 g2 k1 k6 k7 f1 f2; grind)
    (by clear g1 g2 k1 f1 f2 a1 a2; grind) htiny (by clear g1 g2 k6 k7 f1 f2 a1 a2; grind)
   obtain ⟨l1,l2⟩:=hl
   clear g1 g2 k1 k6 k7 f1 f2 a1 a2
   exact ⟨by grind,by grind⟩
  have hTw:Re (W (hTau x)*(W (el (hY x) 0)*W (hD x)+S)) ((W (el (hY x) 0)+W (hR x))*(W (el (hY x) 0)+W (hR x))) 167:=by
   have h3:=(t3.mul hw1 hdd0 (by grind) (by decide +kernel) (by decide +kernel) (by decide +kernel) (by decide +kernel)).mono (k':=167) (by decide +kernel) (Rat.mul_nonneg hdd0 (by grind))
   have e4:W (hTau x)*W (hR x)*(W (el (hY x) 0)*W (hD x)+S)=W (hTau x)*(W (el (hY x) 0)*W (hD x)+S)*W (hR x):=by grind
   have e5:(W (el (hY x) 0)+W (hR x))*(W (hR x)*(W (el (hY x) 0)+W (hR x)))=(W (el (hY x) 0)+W (hR x))*(W (el (hY x) 0)+W (hR x))*W (hR x):=by grind
   rw [e4,e5] at h3
   exact h3.cancel (by grind)
  have hTs:sv (mkTau x)=W (hTau x):=by rw [e1]; exact sv_pos t2
  have hDD:=hD2.mul hD2 hdd0 hdd0 (by decide +kernel) (by decide +kernel) (by decide +kernel) (by decide +kernel)
  have hDh:0<W (hD x):=by grind
  have hds:∀q b:Rat,Ab (q*sv (hD x)) (b*W (hD x))→Ab q b:=fun q b hh=>by
   refine Ab.cancel (z:=W (hD x)) ?_ hDh
   rw [sv_of sD] at hh
   by_cases hs:hσ x=true
   ·rw [if_pos hs] at hh
    have:=hh.neg
    have e : -(q * -W (hD x))=q*W (hD x):=by grind
    rwa [e] at this
   ·rw [if_neg hs] at hh; exact hh
  have hsD2:sv (hD x)*sv (hD x)=W (hD x)*W (hD x):=sv_W _
  have hdl:dotX (mkV x) (hY x) (mkV x).length=dotX (mkV x) (hY x) x.length:=by rw [vl]
  refine Er.of_ab ?_
  by_cases hj0:j=0
  ·subst hj0
   rw [if_pos rfl]
   refine hds _ _ ?_
   have key:(mirX (mkV x) (hY x) (mkTau x) 0-sv (hMu x))*sv (hD x)=(W (el (hY x) 0)+W (hR x))*W (hD x)-W (hTau x)*(W (el (hY x) 0)*W (hD x)+S):=by
    unfold mirX
    rw [hdl,e3 0 h1,if_pos rfl,sv_one,hTs,m1]
    have e5:sv (el (hY x) 0)*sv (hD x)=W (el (hY x) 0)*W (hD x):=by
     rw [H.s0,sv_of sD]
     cases hσ x<;>simp<;>grind
    have e6:(if hσ x=true then W (hR x) else -W (hR x))*sv (hD x) = -(W (hR x)*W (hD x)):=by
     rw [sv_of sD]
     cases hσ x<;>simp<;>grind
    generalize (if hσ x=true then W (hR x) else -W (hR x))=mm at *
    generalize dotX (mkV x) (hY x) x.length=dx at *
    generalize sv (hD x)=D at *
    have:(sv (el (hY x) 0)-W (hTau x)*dx*1-mm)*D=sv (el (hY x) 0)*D-W (hTau x)*(dx*D)-mm*D:=by grind
    rw [this,e5,hdot,e6]
    grind
   rw [key]
   obtain ⟨c1,c2⟩:=hD2
   obtain ⟨f1,f2⟩:=hTw
   have g1:=Rat.mul_le_mul_of_nonneg_left c1 hdd0
   have g2:=Rat.mul_le_mul_of_nonneg_left c2 hdd0
   have q1:Ab ((W (el (hY x) 0)+W (hR x))*W (hD x)-W (hTau x)*(W (el (hY x) 0)*W (hD x)+S)) (169*uu*((W (el (hY x) 0)+W (hR x))*(W (el (hY x) 0)+W (hR x)))):=by
    generalize W (hTau x)*(W (el (hY x) 0)*W (hD x)+S)=tw at *
    generalize W (hR x)=M at *
    generalize W (el (hY x) 0)=Y at *
    generalize W (hD x)=Dh at *
    generalize uu=u at *
    exact ⟨by grind,by grind⟩
   have q2:169*uu*((W (el (hY x) 0)+W (hR x))*(W (el (hY x) 0)+W (hR x)))≤350*(uu*(W (hR x)*W (hD x))):=by
    have k0:(W (el (hY x) 0)+W (hR x))*(2*uu)≤(W (el (hY x) 0)+W (hR x))*(1/1000):=Rat.mul_le_mul_of_nonneg_left (by decide +kernel) hdd0
    have k1:W (el (hY x) 0)+W (hR x)≤101/100*W (hD x):=by
     generalize W (hR x)=M at *
     generalize W (el (hY x) 0)=Y at *
     generalize W (hD x)=Dh at *
     generalize uu=u at *
     grind
    have k2:(W (el (hY x) 0)+W (hR x))*(W (el (hY x) 0)+W (hR x))≤(2*W (hR x))*(W (el (hY x) 0)+W (hR x)):=Rat.mul_le_mul_of_nonneg_right (by grind) hdd0
    have k3:(2*W (hR x))*(W (el (hY x) 0)+W (hR x))≤(2*W (hR x))*(101/100*W (hD x)):=Rat.mul_le_mul_of_nonneg_left k1 (by grind)
    have k4:=Rat.mul_le_mul_of_nonneg_left (Rat.le_trans k2 k3) uu_pos
    have k5:0≤uu*(W (hR x)*W (hD x)):=Rat.mul_nonneg uu_pos (Rat.mul_nonneg (by grind) (Rat.le_of_lt hDh))
    generalize (W (el (hY x) 0)+W (hR x))*(W (el (hY x) 0)+W (hR x))=dd at *
    generalize W (hR x)=M at *
    generalize W (hD x)=Dh at *
    generalize uu=u at *
    grind
   exact (q1.mono q2).mono (by
    generalize W (hR x)=M at *
    generalize W (hD x)=Dh at *
    generalize uu=u at *
    grind)
  ·rw [if_neg hj0]
   have hj1:1≤j:=by omega
   obtain ⟨v1,v2,v3,v4⟩:=hV_ok hx h1 h6 H hj
   have hDD0:0<W (hD x)*W (hD x):=Rat.mul_pos hDh hDh
   refine Ab.cancel (z:=W (hD x)*W (hD x)) ?_ hDD0
   have key:(mirX (mkV x) (hY x) (mkTau x) j-0)*(W (hD x)*W (hD x))=sv (el (hY x) j)*(W (hD x)*W (hD x))-W (hTau x)*(W (el (hY x) 0)*W (hD x)+S)*(sv (hVG x j)*sv (hD x)):=by
    unfold mirX
    rw [hdl,e3 j hj,if_neg hj0,hTs,←hsD2]
    have:(sv (el (hY x) j)-W (hTau x)*dotX (mkV x) (hY x) x.length*sv (hVG x j)-0)*(sv (hD x)*sv (hD x))=sv (el (hY x) j)*(sv (hD x)*sv (hD x))-W (hTau x)*(dotX (mkV x) (hY x) x.length*sv (hD x))*(sv (hVG x j)*sv (hD x)):=by grind
    rw [this,hdot]
   rw [key]
   have yj:=H.yle j hj
   have hyj:=W_nonneg (el (hY x) j)
   have hyu:W (el (hY x) j)*(2*uu)≤W (hR x)*(2*uu):=Rat.mul_le_mul_of_nonneg_right yj (by decide +kernel)
   have hMu:1*uu≤W (hR x)*uu:=Rat.mul_le_mul_of_nonneg_right o uu_pos
   have v5:Er (sv (hVG x j)*sv (hD x)) (sv (el (hY x) j)) (3*uu*W (hR x)):=v2.mono (by
    generalize W (hR x)=M at *
    generalize W (el (hY x) j)=y at *
    have:=uu_pos
    generalize uu=u at *
    grind)
   have ay:Ab (sv (el (hY x) j)) (W (hR x)):=(sv_ab _).mono yj
   have a1:=v5.bound ay
   have hM3:3*uu*W (hR x)≤1/100*W (hR x):=Rat.mul_le_mul_of_nonneg_right (by decide +kernel) (by grind)
   have hd20:0≤(W (el (hY x) 0)+W (hR x))*(W (el (hY x) 0)+W (hR x)):=Rat.mul_nonneg hdd0 hdd0
   have p1:=Er.mul hTw v5 (a:=(W (el (hY x) 0)+W (hR x))*(W (el (hY x) 0)+W (hR x))) (a':=101/100*W (hR x)) ⟨by grind,Rat.le_refl⟩ (a1.mono (by grind))
   have p2:=Er.mul (Er.refl (sv (el (hY x) j))) hDD ay (a':=(1+1/100)*((W (el (hY x) 0)+W (hR x))*(W (el (hY x) 0)+W (hR x)))) (by
    have:=Er.bound hDD (a:=(W (el (hY x) 0)+W (hR x))*(W (el (hY x) 0)+W (hR x))) ⟨by grind,Rat.le_refl⟩
    refine this.mono ?_
    have h5:(2+2+1)*uu*((W (el (hY x) 0)+W (hR x))*(W (el (hY x) 0)+W (hR x)))≤1/100*((W (el (hY x) 0)+W (hR x))*(W (el (hY x) 0)+W (hR x))):=Rat.mul_le_mul_of_nonneg_right (by decide +kernel) hd20
    grind)
   have p3:=(p2.sub p1).ab
   have e7:sv (el (hY x) j)*((W (el (hY x) 0)+W (hR x))*(W (el (hY x) 0)+W (hR x)))-(W (el (hY x) 0)+W (hR x))*(W (el (hY x) 0)+W (hR x))*sv (el (hY x) j)=0:=by grind
   rw [e7] at p3
   have hdD:(W (el (hY x) 0)+W (hR x))*(W (el (hY x) 0)+W (hR x))≤101/100*(W (hD x)*W (hD x)):=by
    obtain ⟨x1,x2⟩:=hDD
    have h5:(2+2+1)*uu*((W (el (hY x) 0)+W (hR x))*(W (el (hY x) 0)+W (hR x)))≤1/1000*((W (el (hY x) 0)+W (hR x))*(W (el (hY x) 0)+W (hR x))):=Rat.mul_le_mul_of_nonneg_right (by decide +kernel) hd20
    generalize (W (el (hY x) 0)+W (hR x))*(W (el (hY x) 0)+W (hR x))=dd at *
    generalize W (hD x)*W (hD x)=DD at *
    generalize uu=u at *
    grind
   have hfin:Ab (sv (el (hY x) j)*(W (hD x)*W (hD x))-W (hTau x)*(W (el (hY x) 0)*W (hD x)+S)*(sv (hVG x j)*sv (hD x))) (350*(uu*(W (hR x)*(W (hD x)*W (hD x))))):=by
    have p4:Ab (sv (el (hY x) j)*(W (hD x)*W (hD x))-W (hTau x)*(W (el (hY x) 0)*W (hD x)+S)*(sv (hVG x j)*sv (hD x))) (180*uu*(W (hR x)*((W (el (hY x) 0)+W (hR x))*(W (el (hY x) 0)+W (hR x))))):=by
     have e8:∀q:Rat,q-0=q:=fun q=>by grind
     rw [e8] at p3
     refine p3.mono ?_
     have h7:0≤uu*(W (hR x)*((W (el (hY x) 0)+W (hR x))*(W (el (hY x) 0)+W (hR x)))):=Rat.mul_nonneg uu_pos (Rat.mul_nonneg (by grind) hd20)
     generalize (W (el (hY x) 0)+W (hR x))*(W (el (hY x) 0)+W (hR x))=dd at *
     generalize W (hR x)=M at *
     generalize uu=u at *
     grind
    refine p4.mono ?_
    have h8:=Rat.mul_le_mul_of_nonneg_left hdD (c:=W (hR x)) (by grind)
    have h9:=Rat.mul_le_mul_of_nonneg_left h8 uu_pos
    have h10:0≤uu*(W (hR x)*(W (hD x)*W (hD x))):=Rat.mul_nonneg uu_pos (Rat.mul_nonneg (by grind) (Rat.le_of_lt hDD0))
    generalize (W (el (hY x) 0)+W (hR x))*(W (el (hY x) 0)+W (hR x))=dd at *
    generalize W (hD x)*W (hD x)=DD at *
    generalize W (hR x)=M at *
    generalize uu=u at *
    grind
   exact hfin.mono (by
    generalize W (hD x)*W (hD x)=DD at *
    generalize W (hR x)=M at *
    generalize uu=u at *
    grind)
theorem two_pow1 (k:Int):P2 (k+1)=2*P2 k:=by
 rw [P2_add,show (1:Int)=((1:Nat):Int) from rfl,P2_nat]
 have:((2^1:Nat):Rat)=2:=rfl
 rw [this]; grind
theorem big_facts {x:List Nat} (hfin:∀i,i<x.length→fPow (el x i)≠2047) (h0:∃i,i<x.length∧fMag (el x i)≠0) :
  fPow (bigV x)≠2047∧fMag (bigV x)≠0∧(∀i,i<x.length→W (el x i)≤W (bigV x))∧∃i,i<x.length∧W (el x i)=W (bigV x):=by
 obtain ⟨b1,b2,b3⟩:=bigR_mem (x:=x) x.length (i:=0) (m:=0) (fun j _ hj=>fin_nan (hfin j (by omega)))
 rw [show bigR x x.length 0 0=bigV x from rfl] at b1 b2 b3
 have hle:∀i,i<x.length→W (el x i)≤W (bigV x):=fun i hi=>by
  rw [←W_abs (el x i)]
  exact W_mono (bigV_lt x) (b2 i (Nat.zero_le _) (by omega))
 obtain ⟨i,hi,hm⟩:=h0
 have hpos:=W_pos hm
 have hb0:bigV x≠0:=fun h=>by
  have:=hle i hi
  rw [h,W_zero_of (b:=0) (by decide)] at this
  grind
 obtain ⟨i0,-,j1,j2⟩:=b3.resolve_left hb0
 clear b3
 have i1:i0<x.length:=by omega
 obtain ⟨f1,f2,f3,f4⟩:=fields_abs (el x i0)
 rw [j2] at f1 f2 f3
 refine ⟨by rw [f3]; exact hfin i0 i1,fun h => ?_,hle,i0,i1,by rw [←j2,W_abs]⟩
 have:=hle i hi
 rw [W_zero_of h] at this
 grind
theorem nou_false {x:List Nat} (h1:1≤x.length) (hn:nouV x=false):∃i,i<x.length∧fMag (el x i)≠0:=by
 obtain ⟨j,hj,hjl⟩:=lead_some h1 hn
 exact ⟨j,by omega,(kind_mag _).1 (leadI_kind hj).1⟩
structure Sized (x:List Nat):Prop where
 pos:0<P2 (hK x)
 fin:∀i,i<x.length→fPow (el (hY x) i)≠2047
 le2:∀i,i<x.length→W (el (hY x) i)≤2
 neg:∀i,i<x.length→fNeg (el (hY x) i)=fNeg (el x i)
 er:∀i,i<x.length→Er (W (el x i)) (W (el (hY x) i)*P2 (hK x)) (uu*W (el x i)+ee*P2 (hK x))
 sv:∀i,i<x.length→Er (sv (el x i)) (sv (el (hY x) i)*P2 (hK x)) (uu*W (el x i)+ee*P2 (hK x))
 one:∃i,i<x.length∧1≤W (el (hY x) i)
theorem hY_len (x:List Nat):(hY x).length=x.length:=by unfold hY; simp
theorem sized {x:List Nat} (hx:Words x) (hfin:∀i,i<x.length→fPow (el x i)≠2047) (h0:∃i,i<x.length∧fMag (el x i)≠0):Sized x:=by
 obtain ⟨g1,g2,g3,i0,g4,g5⟩:=big_facts hfin h0
 obtain ⟨w1,w2⟩:=expB_W g1 g2
 have hkb:=expB_bd (bigV x)
 rw [show expB (bigV x)=hK x from rfl] at w1 w2 hkb
 have hPt:=parts_of hx (k:=hK x) (by omega) hfin fun i hi=>Rat.le_trans (g3 i hi) (Rat.le_of_lt w2)
 have yel:∀i,i<x.length→el (hY x) i=scaleV (el x i) (-hK x):=fun i hi=>by unfold hY shV; rw [el_mk' hi]; rfl
 have hPk:=Rat.le_of_lt (P2_pos (-hK x))
 have hP0:=Rat.le_of_lt (P2_pos (hK x))
 have hPP:P2 (-hK x)*P2 (hK x)=1:=by rw [←P2_add,show -hK x+hK x=0 by omega,P2_zero]
 have hD:∀i,D (fMag (el x i)) (fPl (el x i)-hK x)=W (el x i)*P2 (-hK x):=fun i=>by rw [Int.sub_eq_add_neg,←D_shift]; rfl
 have hneg:∀i,i<x.length→fNeg (el (hY x) i)=fNeg (el x i):=fun i hi=>by
  rw [yel i hi,scaleV_fin (hx.el i) (hfin i hi)]; exact word_neg _ _ _
 have her:∀i,i<x.length→Er (W (el x i)) (W (el (hY x) i)*P2 (hK x)) (uu*W (el x i)+ee*P2 (hK x)):=fun i hi=>by
  have hw:=hPt.w i hi
  obtain ⟨a1,a2⟩:=near_err' (n:=fMag (el x i)) (p:=fPl (el x i)-hK x) (by rw [←hw]; exact fin_abs (hPt.fin i hi))
  rw [←hw,W_abs,hD,←yel i hi] at a1 a2
  have b1:=Rat.mul_le_mul_of_nonneg_right a1 hP0
  have b2:=Rat.mul_le_mul_of_nonneg_right a2 hP0
  have e:W (el x i)*P2 (-hK x)*P2 (hK x)=W (el x i):=by rw [Rat.mul_assoc,hPP,Rat.mul_one]
  show Er _ _ (1/9007199254740992*W (el x i)+P2 (-1075)*P2 (hK x))
  exact ⟨by grind,by grind⟩
 refine ⟨P2_pos _,fun i hi=>by rw [yel i hi]; exact hPt.fin i hi,fun i hi=>by rw [yel i hi]; exact hPt.le2 i hi,hneg,her,fun i hi => ?_,i0,g4,?_⟩
 ·obtain ⟨a1,a2⟩:=her i hi
  rw [sv_of (b:=el (hY x) i) rfl,sv_of (b:=el x i) rfl,hneg i hi]
  cases fNeg (el x i)<;>simp only [if_true,if_false,Bool.false_eq_true]<;>exact ⟨by grind,by grind⟩
 ·have h1:=Rat.mul_le_mul_of_nonneg_right w1 hPk
  rw [Rat.mul_comm (P2 (hK x)),hPP,←g5,←hD] at h1
  have h2:=near_ge (n:=fMag (el x i0)) (p:=fPl (el x i0)-hK x) one8_inf (by rw [W_one8]; exact h1)
  rw [←hPt.w i0 g4,←yel i0 g4] at h2
  have h3:=W_mono (absV_lt (el (hY x) i0)) h2
  rwa [W_one8,W_abs] at h3
theorem hcore {x:List Nat} (hx:Words x) (h1:1≤x.length) (h6:x.length≤6) (hfin:∀i,i<x.length→fPow (el x i)≠2047) (hn:nouV x=false):HCore x:=by
 have S:=sized hx hfin (nou_false h1 hn)
 have hl:=hY_len x
 have hyw:Words (hY x):=shV_words hx _
 have hyf:∀i,i<(hY x).length→fPow (el (hY x) i)≠2047:=fun i hi=>S.fin i (by omega)
 obtain ⟨i0,hi0,ho⟩:=S.one
 obtain ⟨g1,g2,g3,i1,g4,g5⟩:=big_facts hyf ⟨i0,by omega,mag_pos (by grind)⟩
 obtain ⟨w1,w2⟩:=expB_W g1 g2
 have hb1:1≤W (bigV (hY x)):=Rat.le_trans ho (g3 i0 (by omega))
 have hb2:W (bigV (hY x))≤2:=by rw [←g5]; exact S.le2 i1 (by omega)
 have he1:expB (bigV (hY x))≤1:=by
  have e:P2 1=2:=by rw [show (1:Int)=((1:Nat):Int) from rfl,P2_nat]; rfl
  exact P2_le_iff.1 (Rat.le_trans w1 (by rw [e]; exact hb2))
 have he0 : -1≤expB (bigV (hY x)):=by
  have h:¬P2 (expB (bigV (hY x))+1)≤P2 (-1):=by
   have e:P2 (-1)≤1:=by decide +kernel
   grind
  rw [P2_le_iff] at h
  omega
 have hex:bigV (hY x)≠0 → -900≤expB (bigV (hY x))∧expB (bigV (hY x))<900:=fun _=>by omega
 obtain ⟨n1,n2⟩:=norm_ge_g hyw (by omega) hyf hex
 have n3:=norm_err_g hyw (by omega) hyf hex
 rw [hl] at n3
 have hle:=W_mono (by unfold infR at n1; omega) n2
 have hN:sumA (fun i=>W (el (hY x) i)) x.length≤24:=by
  rw [sumA_sumP]
  refine Rat.le_trans (sumP_le (q:=fun _=>4) fun i hi => ?_) ?_
  ·have:=rat_sq_le (W_nonneg (el (hY x) i)) (S.le2 i hi)
   grind
  ·rw [sumP_const]
   have:((x.length:Nat):Rat)≤((6:Nat):Rat):=Rat.natCast_le_natCast.2 h6
   have e:((6:Nat):Rat)=6:=rfl
   rw [e] at this
   grind
 refine ⟨n1,Rat.le_trans hb1 hle,?_,S.fin,fun i hi=>Rat.le_trans (g3 i (by omega)) hle,S.le2,n3,?_⟩
 ·refine (Ab.of_sq (x:=W (hR x)) (a:=16) (by decide +kernel) ?_).2
  have h3:150*uu*sumA (fun i=>W (el (hY x) i)) x.length≤150*uu*24:=Rat.mul_le_mul_of_nonneg_left hN (by decide +kernel)
  have h4:150*uu*24≤1:=by decide +kernel
  have n4:=n3.1
  rw [show normV (hY x)=hR x from rfl] at n4
  generalize W (hR x)*W (hR x)=z at *
  generalize sumA (fun i=>W (el (hY x) i)) x.length=N at *
  have n5:z≤N+150*uu*N:=n4
  generalize uu=u at *
  clear n3
  grind
 ·obtain ⟨j,hj,hjl⟩:=lead_some h1 hn
  obtain ⟨kj,kj0⟩:=leadI_kind hj
  by_cases h:fMag (el x 0)=0
  ·have hz:el (hY x) 0=el x 0:=by
    unfold hY shV
    rw [el_mk' (by omega)]
    exact scaleV_nought (hfin 0 h1) h _
   rw [hz,sv_zero h,W_zero_of h]; split<;>grind
  ·have hj0:=kj0 ((kind_mag _).2 h)
   have:hσ x=fNeg (el (hY x) 0):=by
    unfold hσ
    rw [hj,S.neg 0 h1]
    show fNeg (el x j)=_
    rw [hj0]
   rw [this]
   exact sv_of rfl
structure MirG (x:List Nat) (bh:Rat):Prop where
 ok:mkOk x=true
 tf:fPow (mkTau x)≠2047
 tn:sv (mkTau x)=W (mkTau x)
 t2:W (mkTau x)≤201/100
 vf:∀j,j<x.length→fPow (el (mkV x) j)≠2047
 v1:∀j,j<x.length→W (el (mkV x) j)≤101/100
 bal:W (mkTau x)=0∨Re (W (mkTau x)*sumA (fun i=>W (el (mkV x) i)) x.length) 2 172
 bf:fPow (mkBeta x)≠2047
 b0:0≤bh
 own:∀j,j<x.length→Ab (mirX (mkV x) x (mkTau x) j-if j=0 then sv (mkBeta x) else 0) (371*uu*bh+20*ee)
 len:bh*bh≤1002/1000*sumP (fun i=>W (el x i)*W (el x i)) x.length
theorem dotX_diff {v x y δ:List Nat} {P d:Rat} {n:Nat} (_:δ=[]) (hv:∀i,i<n→W (el v i)≤101/100) (hd:∀i,i<n→Er (sv (el x i)) (sv (el y i)*P) d):Ab (dotX v x n-P*dotX v y n) ((n:Rat)*(101/100*d)):=by
 have e:dotX v x n-P*dotX v y n=sumP (fun i=>sv (el v i)*(sv (el x i)-sv (el y i)*P)) n:=by
  unfold dotX
  rw [←sumP_mul,←sumP_sub]
  exact sumP_congr fun i _=>by grind
 rw [e]
 exact sumP_ab fun i hi=>((sv_ab (el v i)).mono (hv i hi)).mul (hd i hi).ab
theorem len_lin {Y X t b2 q:Rat} (k1:Y≤10003/10000*X+t) (k2:t≤6*(1/1000000*b2)) (k3:b2≤Y+q) (k4:q≤1/1000000*Y) (hX:0≤X):b2≤1002/1000*X:=by grind
theorem mirG {x:List Nat} (hx:Words x) (h1:1≤x.length) (h6:x.length≤6) (hfin:∀i,i<x.length→fPow (el x i)≠2047) (hb:∀i,i<x.length→W (el x i)≤P2 300):∃bh,MirG x bh:=by
 have h64:x.length≤64:=by omega
 have one:W 4607182418800017408=1:=W_one
 have u0:=uu_pos
 obtain ⟨e0,e1⟩:=ee1
 have vl:=mkV_len hx h1 h64
 by_cases hn:nouV x=true
 ·have q1:mkTau x=0:=by unfold mkTau; rw [if_pos hn]
  have q2:mkBeta x=el x 0:=by unfold mkBeta; rw [if_pos hn]
  have q3:∀j,j<x.length→el (mkV x) j=if j=0 then 4607182418800017408 else 0:=fun j hj=>by
   unfold mkV; rw [if_pos hn,el_mk' hj]; rfl
  have hz:∀i,i<x.length→i≠0→fMag (el x i)=0:=fun i hi hi0=>(mag_zero _).2 ((kind_zero _).1 (nou_all _ 1 hn i (by omega) (by omega)))
  have s0:sv 0=0:=sv_zero (by decide)
  refine ⟨W (el x 0),⟨by unfold mkOk; rw [hn]; rfl,by rw [q1]; decide,by rw [q1]; exact sv_pos (by decide),by rw [q1,W_zero_of (by decide)]; decide +kernel,fun j hj => ?_,fun j hj => ?_,.inl (by rw [q1]; exact W_zero_of (by decide)),by rw [q2]; exact hfin 0 h1,W_nonneg _,fun j hj => ?_,?_⟩⟩
  ·rw [q3 j hj]; split<;>decide
  ·rw [q3 j hj]; split
   ·rw [one]; decide +kernel
   ·rw [W_zero_of (by decide)]; decide +kernel
  ·have hw:=Rat.mul_nonneg u0 (W_nonneg (el x 0))
   unfold mirX
   rw [q1,s0,q2]
   by_cases hj0:j=0
   ·subst hj0; rw [if_pos rfl]; exact ⟨by grind,by grind⟩
   ·rw [if_neg hj0,sv_zero (hz j hj hj0)]; exact ⟨by grind,by grind⟩
  ·have:=sumP_mem (p:=fun i=>W (el x i)*W (el x i)) (n:=x.length) (fun i _=>rat_sq_nonneg _) 0 (by omega)
   have h0:=rat_sq_nonneg (W (el x 0))
   grind
 ·have hn':nouV x=false:=by simpa using hn
  have S:=sized hx hfin (nou_false h1 hn')
  have H:=hcore hx h1 h6 hfin hn'
  obtain ⟨m1,m2,m3,m4⟩:=mu_ok hx h1 h64 H
  obtain ⟨t1,t2,t3⟩:=hTau_ok hx h1 h64 H
  obtain ⟨t4,t5⟩:=hTau_range hx h1 h64 H
  have r5:=r_small hx h1 h6 H
  have o:=H.one
  have q1:mkTau x=hTau x:=by unfold mkTau; rw [if_neg hn]
  have q2:mkBeta x=hBeta x:=by unfold mkBeta; rw [if_neg hn]
  have q3:∀j,j<x.length→el (mkV x) j=if j=0 then 4607182418800017408 else hVG x j:=fun j hj=>by
   unfold mkV; rw [if_neg hn,el_mk' hj]; rfl
  have hP:=Rat.le_of_lt S.pos
  have hkb:=expB_bd (bigV x)
  rw [show expB (bigV x)=hK x from rfl] at hkb
  have v1:∀j,j<x.length→W (el (mkV x) j)≤101/100:=fun j hj=>by
   rw [q3 j hj]; split
   ·rw [one]; decide +kernel
   ·exact (hV_ok hx h1 h6 H hj).2.2.2
  have hPb:P2 (hK x)≤P2 301:=by
   obtain ⟨i0,hi0,ho⟩:=S.one
   obtain ⟨a1,a2⟩:=S.er i0 hi0
   have b1:=hb i0 hi0
   have b2:=Rat.mul_le_mul_of_nonneg_right ho hP
   have b3:P2 301=2*P2 300:=two_pow1 300
   have b4:uu*W (el x i0)≤1/1000*W (el x i0):=Rat.mul_le_mul_of_nonneg_right (by decide +kernel) (W_nonneg _)
   have b5:ee*P2 (hK x)≤1/1000*P2 (hK x):=Rat.mul_le_mul_of_nonneg_right (by decide +kernel) hP
   have b6:=W_nonneg (el x i0)
   generalize P2 (hK x)=P at *
   generalize P2 300=Z at *
   rw [b3]
   grind
  have hPM:P2 (hK x)≤W (hR x)*P2 (hK x):=by
   have:=Rat.mul_le_mul_of_nonneg_right o hP
   grind
  have hMW:W (hMu x)*P2 (hK x)≤P2 1023:=by
   rw [m3]
   have a1:=Rat.mul_le_mul_of_nonneg_right r5 hP
   have a2:5*P2 301≤P2 1023:=by decide +kernel
   generalize P2 1023=Z at *
   generalize P2 301=Z2 at *
   grind
  have hβ:=fl_scale (hMu_lt hx h1 h64) m2 (k:=hK x) (by omega) (A:=W (hMu x)*P2 (hK x)) Rat.le_refl hMW
  rw [show scaleV (hMu x) (hK x)=hBeta x from rfl,m3] at hβ
  generalize hbh:W (hR x)*P2 (hK x)=bh at *
  have bh0:0≤bh:=by rw [←hbh]; exact Rat.mul_nonneg (W_nonneg _) hP
  have hub:=Rat.mul_nonneg u0 bh0
  have hub2:=Rat.mul_le_mul_of_nonneg_right (show uu≤1/1000000000 by decide +kernel) bh0
  have hePb:ee*P2 (hK x)≤uu*(1/1000000000)*bh:=Rat.le_trans (Rat.mul_le_mul_of_nonneg_right e1 hP) (Rat.mul_le_mul_of_nonneg_left hPM (by decide +kernel))
  have hd:∀i,i<x.length→Er (sv (el x i)) (sv (el (hY x) i)*P2 (hK x)) (102/100*(uu*bh)):=fun i hi=>by
   refine (S.sv i hi).mono ?_
   obtain ⟨a1,a2⟩:=S.er i hi
   have a3:=Rat.mul_le_mul_of_nonneg_right (H.yle i hi) hP
   rw [hbh] at a3
   have a4:=W_nonneg (el x i)
   have a5:=Rat.mul_le_mul_of_nonneg_right (show uu≤1/1000000000 by decide +kernel) a4
   have a6:W (el x i)≤1001/1000*bh:=by
    generalize P2 (hK x)=P at *
    generalize ee*P=ep at *
    generalize W (el (hY x) i)*P=yp at *
    clear hβ hMW hPb
    grind
   have a7:=Rat.mul_le_mul_of_nonneg_left a6 u0
   have a8:uu*(1/1000000000)*bh=1/1000000000*(uu*bh):=by grind
   rw [a8] at hePb
   generalize uu*bh=ub at *
   grind
  refine ⟨bh,⟨?_,by rw [q1]; exact t1,by rw [q1]; exact sv_pos t2,by rw [q1]; exact Rat.le_trans t5 (by decide +kernel),fun j hj => ?_,v1,.inr ?_,by rw [q2]; exact hβ.fin,bh0,fun j hj => ?_,?_⟩⟩
  ·unfold mkOk
   rw [decide_eq_true hβ.fin]; simp
  ·rw [q3 j hj]; split
   ·decide
   ·exact (hV_ok hx h1 h6 H hj).1
  ·rw [q1,sumA_sumP,sum_first _ h1,q3 0 h1,if_pos rfl,one,sumP_congr (q:=fun i=>W (hVG x (1+i))*W (hVG x (1+i))) fun i hi=>by rw [q3 (1+i) (by omega),if_neg (by omega)]]
   have:=hvv_ok hx h1 h6 H
   rwa [Rat.one_mul]
  ·have hy:=mirY hx h1 h6 H hn' j hj
   have k1:=hy.mul (Er.refl (P2 (hK x))) (a:=W (hR x)*1000+1000) (a':=P2 (hK x)) (by
    have:=W_nonneg (hR x)
    by_cases hj0:j=0
    ·rw [if_pos hj0]
     exact ((sv_ab (hMu x)).mono (b:=W (hR x)*1000+1000) (by rw [m3]; grind))
    ·rw [if_neg hj0]; exact ⟨by grind,by grind⟩) ⟨by grind,Rat.le_refl⟩
   have k2:=dotX_diff (v:=mkV x) (x:=x) (y:=hY x) (δ:=[]) (P:=P2 (hK x)) (d:=102/100*(uu*bh)) (n:=x.length) rfl v1 hd
   have n6:((x.length:Nat):Rat)≤6:=by
    have:((x.length:Nat):Rat)≤((6:Nat):Rat):=Rat.natCast_le_natCast.2 h6
    exact this
   have k3:=k2.mono (b:=7*(uu*bh)) (by
    have:=Rat.mul_le_mul_of_nonneg_right n6 (show 0≤101/100*(102/100*(uu*bh)) by grind)
    grind)
   have hT:Ab (sv (mkTau x)) (201/100):=(sv_ab _).mono (by rw [q1]; exact Rat.le_trans t5 (by decide +kernel))
   have k4:=(hT.mul k3).mul ((sv_ab (el (mkV x) j)).mono (v1 j hj))
   have k5:=(hd j hj).ab.sub k4
   have e2:sv (el x j)-sv (el (hY x) j)*P2 (hK x)-sv (mkTau x)*(dotX (mkV x) x x.length-P2 (hK x)*dotX (mkV x) (hY x) x.length)*sv (el (mkV x) j)=mirX (mkV x) x (mkTau x) j-mirX (mkV x) (hY x) (mkTau x) j*P2 (hK x):=by
    unfold mirX
    rw [vl]
    grind
   rw [e2] at k5
   have k6:Ab (mirX (mkV x) (hY x) (mkTau x) j*P2 (hK x)-(if j=0 then sv (hMu x) else 0)*P2 (hK x)) (350*(uu*bh)):=k1.ab.mono (by rw [←hbh]; grind)
   have k7:Ab ((if j=0 then sv (hMu x) else 0)*P2 (hK x)-(if j=0 then sv (mkBeta x) else 0)) (uu*bh+ee):=by
    by_cases hj0:j=0
    ·rw [if_pos hj0,if_pos hj0,q2]
     have:=hβ.er.symm.ab
     exact this.mono (by grind)
    ·rw [if_neg hj0,if_neg hj0]; exact ⟨by grind,by grind⟩
   have k8:=k5.add (k6.add k7)
   have e3:mirX (mkV x) x (mkTau x) j-mirX (mkV x) (hY x) (mkTau x) j*P2 (hK x)+(mirX (mkV x) (hY x) (mkTau x) j*P2 (hK x)-(if j=0 then sv (hMu x) else 0)*P2 (hK x)+((if j=0 then sv (hMu x) else 0)*P2 (hK x)-(if j=0 then sv (mkBeta x) else 0)))=mirX (mkV x) x (mkTau x) j-(if j=0 then sv (mkBeta x) else 0):=by grind
   rw [e3] at k8
   refine k8.mono ?_
   have e4:371*uu*bh=371*(uu*bh):=by grind
   rw [e4]
   generalize uu*bh=ub at *
   generalize ee=e at *
   clear k1 k2 k3 k4 k5 k6 k7 k8 e2 e3 e4 hβ hMW hPb hy hT hd
   grind
  ·obtain ⟨s1,s2⟩:=H.sq
   rw [sumA_sumP] at s1 s2
   have hPP:=Rat.mul_nonneg hP hP
   have k1:sumP (fun i=>P2 (hK x)*P2 (hK x)*(W (el (hY x) i)*W (el (hY x) i))) x.length≤sumP (fun i=>10003/10000*(W (el x i)*W (el x i))+1/1000000*(bh*bh)) x.length:=sumP_le fun i hi=>by
    obtain ⟨a1,a2⟩:=S.er i hi
    have a3:=W_nonneg (el x i)
    have a4:W (el (hY x) i)*P2 (hK x)≤10001/10000*W (el x i)+1/100000000*bh:=by
     have a5:=Rat.mul_le_mul_of_nonneg_right (show uu≤1/1000000000 by decide +kernel) a3
     have a6:=Rat.mul_le_mul_of_nonneg_right (show uu*(1/1000000000)≤1/1000000000 by decide +kernel) bh0
     generalize P2 (hK x)=P at *
     generalize ee*P=ep at *
     generalize W (el (hY x) i)*P=yp at *
     clear hβ hMW hPb
     grind
    have a7:=rat_sq_le (Rat.mul_nonneg (W_nonneg _) hP) a4
    have a8:=rat_sq_nonneg (W (el x i)-bh)
    have a9:=rat_sq_nonneg bh
    have a10:=rat_sq_nonneg (W (el x i))
    have e:P2 (hK x)*P2 (hK x)*(W (el (hY x) i)*W (el (hY x) i))=W (el (hY x) i)*P2 (hK x)*(W (el (hY x) i)*P2 (hK x)):=by grind
    rw [e]
    refine Rat.le_trans a7 ?_
    clear hβ hMW hPb a7 e a4 a1 a2
    generalize W (el x i)=w at *
    grind
   rw [sumP_mul,sumP_add,sumP_mul,sumP_const] at k1
   have n6:((x.length:Nat):Rat)≤6:=by
    have:((x.length:Nat):Rat)≤((6:Nat):Rat):=Rat.natCast_le_natCast.2 h6
    exact this
   have k2:=Rat.mul_le_mul_of_nonneg_right n6 (show 0≤1/1000000*(bh*bh) by have:=rat_sq_nonneg bh; grind)
   have k3:=Rat.mul_le_mul_of_nonneg_left s1 hPP
   have e:P2 (hK x)*P2 (hK x)*(W (hR x)*W (hR x))=bh*bh:=by rw [←hbh]; grind
   rw [e] at k3
   have hS0:0≤sumP (fun i=>W (el x i)*W (el x i)) x.length:=sumP_nonneg fun i _=>rat_sq_nonneg _
   have k4:=Rat.mul_le_mul_of_nonneg_right (show 150*uu≤1/1000000 by decide +kernel) (show 0≤P2 (hK x)*P2 (hK x)*sumP (fun i=>W (el (hY x) i)*W (el (hY x) i)) x.length from Rat.mul_nonneg hPP (sumP_nonneg fun i _=>rat_sq_nonneg _))
   have hbb:=rat_sq_nonneg bh
   have e5:P2 (hK x)*P2 (hK x)*(sumP (fun i=>W (el (hY x) i)*W (el (hY x) i)) x.length+150*uu*sumP (fun i=>W (el (hY x) i)*W (el (hY x) i)) x.length)=P2 (hK x)*P2 (hK x)*sumP (fun i=>W (el (hY x) i)*W (el (hY x) i)) x.length+150*uu*(P2 (hK x)*P2 (hK x)*sumP (fun i=>W (el (hY x) i)*W (el (hY x) i)) x.length):=by grind
   rw [e5] at k3
   exact len_lin k1 k2 k3 k4 hS0
def hv (r:Nat) (t:Rat) (w x:Nat→Rat):Nat→Rat:=fun i=>x i-t*w i*sumP (fun l=>w l*x l) r
def hmm (r:Nat) (t:Rat) (w:Nat→Rat) (X:Nat→Nat→Rat):Nat→Nat→Rat:=fun i k=>hv r t w (fun l=>X l k) i
structure MirW (r j:Nat) (t:Rat) (w:Nat→Rat):Prop where
 z:∀i,i<j→w i=0
 t0:0≤t
 t2:t≤201/100
 bal:t=0∨Ab (t*sumP (fun i=>w i*w i) r-2) (344*uu)
theorem MirW.kap {r j:Nat} {t:Rat} {w:Nat→Rat} (h:MirW r j t w):Ab (t*(t*sumP (fun i=>w i*w i) r-2)*sumP (fun i=>w i*w i) r) (690*uu)∧(t*sumP (fun i=>w i*w i) r)*(t*sumP (fun i=>w i*w i) r)≤401/100:=by
 rcases h.bal with h0 | h0
 ·rw [h0]
  exact ⟨⟨by have:=uu_pos; grind,by have:=uu_pos; grind⟩,by grind⟩
 ·generalize sumP (fun i=>w i*w i) r=s at *
  have h1:Ab (t*s) (2+344*uu):=by
   obtain ⟨a,b⟩:=h0
   exact ⟨by grind,by grind⟩
  have h2:=h0.mul h1
  have e:(t*s-2)*(t*s)=t*(t*s-2)*s:=by grind
  rw [e] at h2
  refine ⟨h2.mono (by decide +kernel),Rat.le_trans (h1.mul h1).2 (by decide +kernel)⟩
section
variable {r j:Nat} {t:Rat} {w:Nat→Rat} (h:MirW r j t w)
include h
theorem hv_sq (x:Nat→Rat):sumP (fun i=>hv r t w x i*hv r t w x i) r=sumP (fun i=>x i*x i) r+t*(t*sumP (fun i=>w i*w i) r-2)*(sumP (fun i=>w i*x i) r*sumP (fun i=>w i*x i) r):=by
 have e:sumP (fun i=>hv r t w x i*hv r t w x i) r=sumP (fun i=>x i*x i+(-2*t*sumP (fun l=>w l*x l) r)*(w i*x i)+(t*t*(sumP (fun l=>w l*x l) r*sumP (fun l=>w l*x l) r))*(w i*w i)) r:=sumP_congr fun i _=>by unfold hv; grind
 rw [e,sumP_add,sumP_add,sumP_mul,sumP_mul]
 grind
theorem hv_hv (x:Nat→Rat) (i:Nat):hv r t w (hv r t w x) i-x i=t*(t*sumP (fun i=>w i*w i) r-2)*w i*sumP (fun i=>w i*x i) r:=by
 have e:sumP (fun l=>w l*hv r t w x l) r=sumP (fun l=>w l*x l) r-t*sumP (fun l=>w l*x l) r*sumP (fun l=>w l*w l) r:=by
  have e1:sumP (fun l=>w l*hv r t w x l) r=sumP (fun l=>w l*x l-t*sumP (fun l=>w l*x l) r*(w l*w l)) r:=sumP_congr fun l _=>by unfold hv; grind
  rw [e1,sumP_sub,sumP_mul]
 show hv r t w x i-t*w i*sumP (fun l=>w l*hv r t w x l) r-x i=_
 rw [e]
 unfold hv
 grind
theorem hv_le (x:Nat→Rat):sumP (fun i=>hv r t w x i*hv r t w x i) r≤(1+690*uu)*sumP (fun i=>x i*x i) r:=by
 rw [hv_sq h]
 have c:=(pf_sum r).cs w x
 have d:=rat_sq_nonneg (sumP (fun i=>w i*x i) r)
 have k:=h.kap.1
 have hww:0≤sumP (fun i=>w i*w i) r:=sumP_nonneg fun i _=>rat_sq_nonneg _
 have hxx:0≤sumP (fun i=>x i*x i) r:=sumP_nonneg fun i _=>rat_sq_nonneg _
 generalize sumP (fun i=>w i*x i) r*sumP (fun i=>w i*x i) r=wx at *
 generalize sumP (fun i=>w i*w i) r=ww at *
 generalize sumP (fun i=>x i*x i) r=xx at *
 generalize t*(t*ww-2)=κ at *
 rcases Rat.le_total (a:=κ) (b:=0) with hk | hk
 ·have:=Rat.mul_nonneg (show 0 ≤ -κ by grind) d
  have h2:=Rat.mul_nonneg uu_pos hxx
  grind
 ·have h2:=Rat.mul_le_mul_of_nonneg_left c hk
  have h3:=Rat.mul_le_mul_of_nonneg_right k.2 hxx
  grind
theorem FN.mir {c:Nat} {X:Nat→Nat→Rat} {b:Rat} (hX:FN r c X b):FN r c (hmm r t w X) ((1+690*uu)*b):=by
 have u0:=uu_pos
 refine FN.of (Rat.mul_nonneg (by grind) hX.1) ?_
 rw [sum2_swap]
 have h1:sumP (fun k=>sumP (fun i=>hmm r t w X i k*hmm r t w X i k) r) c≤sumP (fun k=>(1+690*uu)*sumP (fun i=>X i k*X i k) r) c:=sumP_le fun k _=>hv_le h (fun l=>X l k)
 rw [sumP_mul] at h1
 have h2:=hX.sq
 rw [sum2_swap] at h2
 have h3:=Rat.mul_le_mul_of_nonneg_left h2 (show 0≤1+690*uu by grind)
 have h4:=Rat.mul_nonneg hX.1 hX.1
 have h5:=Rat.mul_nonneg u0 h4
 have h6:=Rat.mul_nonneg u0 h5
 have h7:sumP (fun k=>sumP (fun i=>hmm r t w X i k*hmm r t w X i k) r) c≤(1+690*uu)*(b*b):=Rat.le_trans h1 h3
 refine Rat.le_trans h7 ?_
 grind
theorem FN.mir2 {c:Nat} {X:Nat→Nat→Rat} {b:Rat} (hX:FN r c X b):FN r c (fun i k=>hmm r t w (hmm r t w X) i k-X i k) (690*uu*b):=by
 have u0:=uu_pos
 refine FN.of (Rat.mul_nonneg (by grind) hX.1) ?_
 rw [sum2_swap]
 have hww:0≤sumP (fun i=>w i*w i) r:=sumP_nonneg fun i _=>rat_sq_nonneg _
 have kk:=h.kap.1
 have k2:=(kk.mul kk).2
 have h1:sumP (fun k=>sumP (fun i=>(hmm r t w (hmm r t w X) i k-X i k)*(hmm r t w (hmm r t w X) i k-X i k)) r) c≤sumP (fun k=>(690*uu*(690*uu))*sumP (fun i=>X i k*X i k) r) c:=sumP_le fun k _=>by
  have e:sumP (fun i=>(hmm r t w (hmm r t w X) i k-X i k)*(hmm r t w (hmm r t w X) i k-X i k)) r=t*(t*sumP (fun i=>w i*w i) r-2)*(t*(t*sumP (fun i=>w i*w i) r-2))*(sumP (fun i=>w i*X i k) r*sumP (fun i=>w i*X i k) r)*sumP (fun i=>w i*w i) r:=by
   rw [←sumP_mul]
   refine sumP_congr fun i _ => ?_
   have:=hv_hv h (fun l=>X l k) i
   show (hv r t w (hv r t w fun l=>X l k) i-X i k)*(hv r t w (hv r t w fun l=>X l k) i-X i k)=_
   rw [this]
   grind
  rw [e]
  have c1:=(pf_sum r).cs w (fun i=>X i k)
  have hxx:0≤sumP (fun i=>X i k*X i k) r:=sumP_nonneg fun i _=>rat_sq_nonneg _
  generalize sumP (fun i=>w i*X i k) r*sumP (fun i=>w i*X i k) r=wx at *
  generalize sumP (fun i=>w i*w i) r=ww at *
  generalize sumP (fun i=>X i k*X i k) r=xx at *
  generalize t*(t*ww-2)=κ at *
  have q1:=Rat.mul_le_mul_of_nonneg_left c1 (Rat.mul_nonneg (rat_sq_nonneg κ) hww)
  have q2:=Rat.mul_le_mul_of_nonneg_right k2 hxx
  grind
 rw [sumP_mul] at h1
 have h2:=hX.sq
 rw [sum2_swap] at h2
 have h3:=Rat.mul_le_mul_of_nonneg_left h2 (Rat.mul_nonneg (show 0≤690*uu by grind) (show 0≤690*uu by grind))
 refine Rat.le_trans (Rat.le_trans h1 h3) ?_
 grind
end
theorem mir_cell {v z:List Nat} {tau:Nat} (vf:∀i,i<v.length→fPow (el v i)≠2047) (v1:∀i,i<v.length→W (el v i)≤101/100) (zf:∀i,i<v.length→fPow (el z i)≠2047) (zb:∀i,i<v.length→W (el z i)≤P2 300) (h6:v.length≤6) (tl:tau<18446744073709551616) (tf:fPow tau≠2047) (t2:W tau≤201/100) {a:Nat} (ha:a<v.length) :
  Fl (mirF v z tau a) (mirX v z tau a) (33/2*uu*(W tau*dotQ v z v.length*W (el v a))+2*uu*W (el z a)+80*ee):=by
 have u0:=uu_pos
 obtain ⟨e0,e1⟩:=ee0
 have hu:uu≤1/1000000:=by decide +kernel
 have hQ0:=dotQ_nonneg v z v.length
 have hQ:dotQ v z v.length≤P2 304:=by
  have h1:dotQ v z v.length≤sumP (fun _=>2*P2 300) v.length:=sumP_le fun i hi=>by
   have a1:=v1 i hi
   have a2:=Rat.mul_le_mul_of_nonneg_right a1 (W_nonneg (el z i))
   have a3:=zb i hi
   have a4:(0:Rat)≤P2 300:=Rat.le_of_lt (P2_pos _)
   generalize P2 300=p at *
   grind
  rw [sumP_const] at h1
  have n6:((v.length:Nat):Rat)≤((6:Nat):Rat):=Rat.natCast_le_natCast.2 h6
  have h2:=Rat.mul_le_mul_of_nonneg_right n6 (show 0≤2*P2 300 by decide +kernel)
  have h3:((6:Nat):Rat)*(2*P2 300)≤P2 304:=by decide +kernel
  exact Rat.le_trans h1 (Rat.le_trans h2 h3)
 have hd:=dotV_any vf zf h6 (Rat.le_trans hQ (P2_mono (by omega)))
 have hdx:=dotX_ab v z v.length
 have T0:=W_nonneg tau
 have big:1000*P2 304+1000≤P2 1023:=by decide +kernel
 have huQ:=Rat.mul_le_mul_of_nonneg_right hu hQ0
 have hTQ0:=Rat.mul_nonneg T0 hQ0
 have hTQ:=Rat.mul_le_mul_of_nonneg_right t2 hQ0
 have huTQ:=Rat.mul_nonneg u0 hTQ0
 have heu:ee*uu≤ee*(1/1000000):=Rat.mul_le_mul_of_nonneg_left hu e0
 have hTe:=Rat.mul_le_mul_of_nonneg_right t2 e0
 have hee:ee≤1/1000000:=by decide +kernel
 have hva:=v1 a ha
 have hza:=zb a ha
 have hV0:=W_nonneg (el v a)
 have hZ0:=W_nonneg (el z a)
 have p300:P2 300≤P2 304:=P2_mono (by omega)
 have av:=sv_ab (el v a)
 have az:=sv_ab (el z a)
 have atau:=sv_ab tau
 have bd:=hd.bound hdx
 show Fl (subV (el z a) (mulV (mulV tau (dotV v z)) (el v a))) (sv (el z a)-sv tau*dotX v z v.length*sv (el v a)) _
 generalize dotQ v z v.length=Q at *
 generalize dotX v z v.length=d at *
 generalize W (el v a)=V at *
 generalize W (el z a)=Z at *
 generalize W tau=T at *
 have hTQu:T*Q*uu≤T*Q*(1/1000000):=Rat.mul_le_mul_of_nonneg_left hu hTQ0
 have bd2:=bd.mono (b:=1001/1000*Q+24*ee) (by generalize ee=e at *; generalize uu=u at *; grind)
 have aC:=(atau.mul bd2).mono (b:=1001/1000*(T*Q)+50*ee) (by generalize ee=e at *; grind)
 have t1:=((Fl.exact tl tf).mul hd atau bd2 aC (by
  generalize P2 1023=w at *; generalize P2 304=w2 at *
  generalize ee=e at *
  grind)).mono (f:=141/10*uu*(T*Q)+53*ee) (by
   generalize ee=e at *
   generalize hTq:T*Q=q at *
   have k1:T*(13*uu*Q)=13*(uu*q):=by rw [←hTq]; grind
   have k2:q*uu=uu*q:=by grind
   generalize uu=u at *
   grind)
 have at1:Ab (sv tau*d) (T*Q):=atau.mul hdx
 have bt1:=(t1.bound at1).mono (b:=1001/1000*(T*Q)+53*ee) (by generalize T*Q=q at *; generalize ee=e at *; generalize uu=u at *; grind)
 have hTQV0:=Rat.mul_nonneg hTQ0 hV0
 have hTQV:=Rat.mul_le_mul_of_nonneg_left hva hTQ0
 have hVe:=Rat.mul_le_mul_of_nonneg_right hva e0
 have aD:=(bt1.mul av).mono (b:=1001/1000*(T*Q*V)+54*ee) (by generalize T*Q=q at *; generalize ee=e at *; grind)
 have m1:=fl_mul t1.fin (vf a ha) aD (by
  generalize P2 1023=w at *; generalize P2 304=w2 at *
  generalize T*Q*V=x at *
  generalize T*Q=q at *
  generalize ee=e at *
  grind)
 have m2:=t1.er.mul (Er.refl (sv (el v a))) at1 av
 have m3:=(m1.of m2).mono (f:=152/10*uu*(T*Q*V)+56*ee) (by
  have k1:(141/10*uu*(T*Q)+53*ee)*V=141/10*(uu*(T*Q*V))+53*(V*ee):=by grind
  have k2:=Rat.mul_nonneg u0 hTQV0
  rw [k1]
  generalize hx:T*Q*V=x at *
  generalize V*ee=ve at *
  generalize ee=e at *
  generalize uu=u at *
  grind)
 have am:Ab (sv tau*d*sv (el v a)) (T*Q*V):=at1.mul av
 have bm:=(m3.bound am).mono (b:=1001/1000*(T*Q*V)+56*ee) (by
  have:=Rat.mul_le_mul_of_nonneg_right hu hTQV0
  generalize T*Q*V=x at *; generalize ee=e at *; generalize uu=u at *; grind)
 have aE:=az.sub bm
 have s1:=fl_sub (zf a ha) m3.fin m3.lt aE (by
  generalize P2 1023=w at *; generalize P2 304=w2 at *; generalize P2 300=w3 at *
  generalize T*Q*V=x at *
  generalize T*Q=q at *
  generalize ee=e at *
  grind)
 have s2:=(Er.refl (sv (el z a))).sub m3.er
 refine (s1.of s2).mono ?_
 have k2:=Rat.mul_nonneg u0 hTQV0
 have k3:=Rat.mul_nonneg u0 hZ0
 generalize T*Q*V=x at *
 generalize ee=e at *
 generalize uu=u at *
 clear s1 s2 aE bm am m1 m2 m3 aD bt1 at1 t1 aC bd2 bd hd
 grind
def wvec (j:Nat) (v:List Nat):Nat→Rat:=fun i=>if i<j then 0 else sv (el v (i-j))
theorem sum_from {f:Nat→Rat} {j r:Nat} (hj:j≤r) (h:∀i,i<j→f i=0):sumP f r=sumP (fun a=>f (j+a)) (r-j):=by
 have h1:=sumP_split f j (r-j)
 rw [show j+(r-j)=r by omega] at h1
 rw [h1,sumP_congr (q:=fun _=>0) h,sumP_zero]; grind
theorem wvec_at (j:Nat) (v:List Nat) (a:Nat):wvec j v (j+a)=sv (el v a):=by
 unfold wvec; rw [if_neg (by omega),Nat.add_sub_cancel_left]
theorem sum_wvec {j r:Nat} (hj:j≤r) (v:List Nat) (X:Nat→Rat):sumP (fun l=>wvec j v l*X l) r=sumP (fun a=>sv (el v a)*X (j+a)) (r-j):=by
 rw [sum_from hj (fun i hi=>by unfold wvec; rw [if_pos hi]; grind)]
 exact sumP_congr fun a _=>by rw [wvec_at]
structure MirP (r j:Nat) (m:Mir):Prop where
 ok:MirOK r j m
 vf:∀i,i<m.1.length→fPow (el m.1 i)≠2047
 v1:∀i,i<m.1.length→W (el m.1 i)≤101/100
 tf:fPow m.2.1≠2047
 tn:sv m.2.1=W m.2.1
 t2:W m.2.1≤201/100
 mw:MirW r j (sv m.2.1) (wvec j m.1)
def csq (r c:Nat) (x:List Nat) (k:Nat):Rat:=sumP (fun i=>mvl c x i k*mvl c x i k) r
theorem csq_nonneg (r c:Nat) (x:List Nat) (k:Nat):0≤csq r c x k:=sumP_nonneg fun i _=>rat_sq_nonneg _
section
variable {r c j:Nat} {x:List Nat} (h:Mx r c x) (hf:Fin2 r c x) (hb:∀i k,i<r→k<c→W (el x (ps i c k))≤P2 300) {m:Mir} (M:MirP r j m) (hj:j≤r)
include h hf hb M hj
theorem col_hv {k a:Nat} (hk:k<c) (ha:a<r-j):hmm r (sv m.2.1) (wvec j m.1) (mvl c x) (j+a) k=mirX m.1 (colL r c x k j) m.2.1 a:=by
 unfold hmm hv mirX dotX
 rw [sum_wvec hj,wvec_at,M.ok.len,el_colL ha]
 have e:sumP (fun a=>sv (el m.1 a)*mvl c x (j+a) k) (r-j)=sumP (fun i=>sv (el m.1 i)*sv (el (colL r c x k j) i)) (r-j):=sumP_congr fun i hi=>by rw [el_colL hi]; rfl
 rw [e]
 show sv _-_=_
 grind
theorem app_cell {k0 k a:Nat} (hk0:k0≤k) (hk:k<c) (ha:a<r-j) :
  Fl (el (apV r c x j k0 m.1 m.2.1) (ps (j+a) c k)) (hmm r (sv m.2.1) (wvec j m.1) (mvl c x) (j+a) k) (33/2*uu*(W m.2.1*dotQ m.1 (colL r c x k j) (r-j)*W (el m.1 a))+2*uu*W (el x (ps (j+a) c k))+80*ee):=by
 have hl:=M.ok.len
 have hr:=h.hr
 have hcl:(colL r c x k j).length=r-j:=colL_len _ _ _ _ _
 rw [apV_at h (by omega) (by omega) hk0 hk (by omega),take_all (by omega),col_hv h hf hb M hj hk ha]
 have:=mir_cell (v:=m.1) (z:=colL r c x k j) (tau:=m.2.1) M.vf M.v1 (fun i hi=>by rw [el_colL (by omega)]; exact hf _ _ (by omega) hk) (fun i hi=>by rw [el_colL (by omega)]; exact Rat.le_trans (hb _ _ (by omega) hk) (P2_mono (by omega))) (by omega) M.ok.t M.tf M.t2 (a:=a) (by omega)
 rw [hl,el_colL ha] at this
 exact this
theorem hmm_above {k i:Nat} (hi:i<j):hmm r (sv m.2.1) (wvec j m.1) (mvl c x) i k=mvl c x i k:=by
 unfold hmm hv wvec
 rw [if_pos hi]; grind
theorem app_err {k0 k:Nat} (hk0:k0≤k) (hk:k<c):(∀i,i<r→fPow (el (apV r c x j k0 m.1 m.2.1) (ps i c k))≠2047) ∧
  sumP (fun i=>(mvl c (apV r c x j k0 m.1 m.2.1) i k-hmm r (sv m.2.1) (wvec j m.1) (mvl c x) i k)*(mvl c (apV r c x j k0 m.1 m.2.1) i k-hmm r (sv m.2.1) (wvec j m.1) (mvl c x) i k)) r≤3300*uu*uu*csq r c x k+120000*ee*ee:=by
 have hr:=h.hr
 have u0:=uu_pos
 have above:∀i,i<j→el (apV r c x j k0 m.1 m.2.1) (ps i c k)=el x (ps i c k):=fun i hi=>apV_above (by omega) hi hk
 have cell:=fun a (ha:a<r-j)=>app_cell h hf hb M hj hk0 hk ha
 refine ⟨fun i hi => ?_,?_⟩
 ·by_cases hi2:i<j
  ·rw [above i hi2]; exact hf i k hi hk
  ·obtain ⟨a,rfl⟩:∃a,i=j+a:=⟨i-j,by omega⟩
   exact (cell a (by omega)).fin
 ·rw [sum_from hj (fun i hi=>by
   have:mvl c (apV r c x j k0 m.1 m.2.1) i k=mvl c x i k:=by unfold mvl; rw [above i hi]
   rw [this,hmm_above h hf hb M hj hi]; grind)]
  have hQ0:=dotQ_nonneg m.1 (colL r c x k j) (r-j)
  have T0:=W_nonneg m.2.1
  have k1:sumP (fun a=>(mvl c (apV r c x j k0 m.1 m.2.1) (j+a) k-hmm r (sv m.2.1) (wvec j m.1) (mvl c x) (j+a) k)*(mvl c (apV r c x j k0 m.1 m.2.1) (j+a) k-hmm r (sv m.2.1) (wvec j m.1) (mvl c x) (j+a) k)) (r-j) ≤
    sumP (fun a=>817*(uu*uu)*(W m.2.1*dotQ m.1 (colL r c x k j) (r-j)*(W m.2.1*dotQ m.1 (colL r c x k j) (r-j)))*(W (el m.1 a)*W (el m.1 a))+12*(uu*uu)*(W (el x (ps (j+a) c k))*W (el x (ps (j+a) c k)))+19200*(ee*ee)) (r-j):=sumP_le fun a ha=>by
   have hab:=(cell a ha).er.ab
   have h2:=(hab.mul hab).2
   show (sv (el (apV r c x j k0 m.1 m.2.1) (ps (j+a) c k))-_)*(sv (el (apV r c x j k0 m.1 m.2.1) (ps (j+a) c k))-_)≤_
   refine Rat.le_trans h2 ?_
   generalize W m.2.1*dotQ m.1 (colL r c x k j) (r-j)=q
   generalize W (el m.1 a)=V
   generalize W (el x (ps (j+a) c k))=Z
   have q1:=rat_sq_nonneg (33/2*uu*(q*V)-2*uu*Z)
   have q2:=rat_sq_nonneg (33/2*uu*(q*V)-80*ee)
   have q3:=rat_sq_nonneg (2*uu*Z-80*ee)
   have q4:=rat_sq_nonneg (uu*(q*V))
   generalize ee=e at *
   generalize uu=u at *
   grind
  rw [sumP_add,sumP_add,sumP_mul,sumP_mul,sumP_const] at k1
  have hz:sumP (fun a=>W (el x (ps (j+a) c k))*W (el x (ps (j+a) c k))) (r-j)≤csq r c x k:=by
   unfold csq
   have h1:=sumP_split (fun i=>mvl c x i k*mvl c x i k) j (r-j)
   rw [show j+(r-j)=r by omega] at h1
   rw [h1]
   have h2:0≤sumP (fun i=>mvl c x i k*mvl c x i k) j:=sumP_nonneg fun i _=>rat_sq_nonneg _
   have h3:sumP (fun a=>W (el x (ps (j+a) c k))*W (el x (ps (j+a) c k))) (r-j)=sumP (fun a=>mvl c x (j+a) k*mvl c x (j+a) k) (r-j):=sumP_congr fun a _=>(sv_W _).symm
   rw [h3]; grind
  have hvv:sumP (fun a=>W (el m.1 a)*W (el m.1 a)) (r-j)=sumP (fun i=>wvec j m.1 i*wvec j m.1 i) r:=by
   rw [sum_wvec hj]
   exact sumP_congr fun a _=>by rw [wvec_at,sv_W]
  have hcs:=(pf_sum (r-j)).cs (fun a=>W (el m.1 a)) (fun a=>W (el (colL r c x k j) a))
  have hcz:sumP (fun a=>W (el (colL r c x k j) a)*W (el (colL r c x k j) a)) (r-j)=sumP (fun a=>W (el x (ps (j+a) c k))*W (el x (ps (j+a) c k))) (r-j):=sumP_congr fun a ha=>by rw [el_colL ha]
  have hcs2:dotQ m.1 (colL r c x k j) (r-j)*dotQ m.1 (colL r c x k j) (r-j)≤sumP (fun a=>W (el m.1 a)*W (el m.1 a)) (r-j)*sumP (fun a=>W (el x (ps (j+a) c k))*W (el x (ps (j+a) c k))) (r-j):=by
   rw [←hcz]; exact hcs
  have hk:=M.mw.kap.2
  rw [M.tn,←hvv] at hk
  have hr6:(((r-j:Nat):Nat):Rat)≤((6:Nat):Rat):=Rat.natCast_le_natCast.2 (by omega)
  have e6:((6:Nat):Rat)=6:=rfl
  rw [e6] at hr6
  have hee:=rat_sq_nonneg ee
  have k2:=Rat.mul_le_mul_of_nonneg_right hr6 (show 0≤19200*(ee*ee) by grind)
  have hzz0:0≤sumP (fun a=>W (el x (ps (j+a) c k))*W (el x (ps (j+a) c k))) (r-j):=sumP_nonneg fun i _=>rat_sq_nonneg _
  have hvv0:0≤sumP (fun a=>W (el m.1 a)*W (el m.1 a)) (r-j):=sumP_nonneg fun i _=>rat_sq_nonneg _
  have k3:W m.2.1*dotQ m.1 (colL r c x k j) (r-j)*(W m.2.1*dotQ m.1 (colL r c x k j) (r-j))*sumP (fun a=>W (el m.1 a)*W (el m.1 a)) (r-j)≤401/100*sumP (fun a=>W (el x (ps (j+a) c k))*W (el x (ps (j+a) c k))) (r-j):=by
   have a1:=Rat.mul_le_mul_of_nonneg_left hcs2 (Rat.mul_nonneg (rat_sq_nonneg (W m.2.1)) hvv0)
   have a2:=Rat.mul_le_mul_of_nonneg_right hk hzz0
   generalize sumP (fun a=>W (el m.1 a)*W (el m.1 a)) (r-j)=vv at *
   generalize sumP (fun a=>W (el x (ps (j+a) c k))*W (el x (ps (j+a) c k))) (r-j)=zz at *
   generalize dotQ m.1 (colL r c x k j) (r-j)=Q at *
   generalize W m.2.1=T at *
   grind
  have uu0:=rat_sq_nonneg uu
  have k4:=Rat.mul_le_mul_of_nonneg_left k3 (show 0≤817*(uu*uu) by grind)
  have k5:=Rat.mul_le_mul_of_nonneg_left hz uu0
  refine Rat.le_trans k1 ?_
  generalize sumP (fun a=>W (el m.1 a)*W (el m.1 a)) (r-j)=vv at *
  generalize sumP (fun a=>W (el x (ps (j+a) c k))*W (el x (ps (j+a) c k))) (r-j)=zz at *
  generalize W m.2.1*dotQ m.1 (colL r c x k j) (r-j)*(W m.2.1*dotQ m.1 (colL r c x k j) (r-j))=TQ at *
  generalize ((r-j:Nat):Rat)*(19200*(ee*ee))=t at *
  have hcq:=csq_nonneg r c x k
  generalize csq r c x k=cq at *
  have e1:120000*ee*ee=120000*(ee*ee):=by grind
  have e2:3300*uu*uu*cq=3300*(uu*uu*cq):=by grind
  rw [e1,e2]
  generalize ee*ee=e2 at *
  generalize uu*uu=u2 at *
  clear cell above hf hb hcs hcs2 hcz hvv
  have k6:=Rat.mul_nonneg uu0 hcq
  grind
end
structure DnE (r c j:Nat) (x:List Nat):Prop where
 ok:dnOk r c j x=true
 mp:MirP r j (dnM r c j x)
 fin:Fin2 r c (dnX r c j x)
 oth:∀k,k<c→k≠j→sumP (fun i=>(mvl c (dnX r c j x) i k-hmm r (sv (dnM r c j x).2.1) (wvec j (dnM r c j x).1) (mvl c x) i k)*(mvl c (dnX r c j x) i k-hmm r (sv (dnM r c j x).2.1) (wvec j (dnM r c j x).1) (mvl c x) i k)) r≤3300*uu*uu*csq r c x k+120000*ee*ee
 own:sumP (fun i=>(mvl c (dnX r c j x) i j-hmm r (sv (dnM r c j x).2.1) (wvec j (dnM r c j x).1) (mvl c x) i j)*(mvl c (dnX r c j x) i j-hmm r (sv (dnM r c j x).2.1) (wvec j (dnM r c j x).1) (mvl c x) i j)) r≤840000*uu*uu*csq r c x j+250000*ee*ee
 tail:sumP (fun i=>(mvl c (dnX r c j x) i j-hmm r (sv (dnM r c j x).2.1) (wvec j (dnM r c j x).1) (mvl c x) i j)*(mvl c (dnX r c j x) i j-hmm r (sv (dnM r c j x).2.1) (wvec j (dnM r c j x).1) (mvl c x) i j)) r≤840000*uu*uu*sumP (fun a=>mvl c x (j+a) j*mvl c x (j+a) j) (r-j)+250000*ee*ee
theorem dn_err {r c j:Nat} {x:List Nat} (h:Mx r c x) (hf:Fin2 r c x) (hb:∀i k,i<r→k<c→W (el x (ps i c k))≤P2 300) (hj:j<c) (hjr:j<r) (hu:UpTo r c j x):DnE r c j x:=by
 have hr:=h.hr
 have hw:=colL_words h j j
 have hl:(colL r c x j j).length=r-j:=colL_len _ _ _ _ _
 have hcf:∀i,i<(colL r c x j j).length→fPow (el (colL r c x j j) i)≠2047:=fun i hi=>by rw [el_colL (by omega)]; exact hf _ _ (by omega) hj
 have hcb:∀i,i<(colL r c x j j).length→W (el (colL r c x j j) i)≤P2 300:=fun i hi=>by rw [el_colL (by omega)]; exact hb _ _ (by omega) hj
 obtain ⟨bh,G⟩:=mirG hw (by omega) (by omega) hcf hcb
 have hm:=dnM_ok h hj hjr
 have vl:=mkV_len hw (show 1≤(colL r c x j j).length by omega) (by omega)
 have mw:MirW r j (sv (dnM r c j x).2.1) (wvec j (dnM r c j x).1):=by
  refine ⟨fun i hi=>by unfold wvec; rw [if_pos hi],?_,?_,?_⟩
  ·show 0≤sv (mkTau _); rw [G.tn]; exact W_nonneg _
  ·show sv (mkTau _)≤_; rw [G.tn]; exact G.t2
  ·rcases G.bal with h0 | h0
   ·left; show sv (mkTau _)=0; rw [G.tn,h0]
   ·right
    rw [sum_wvec (by omega)]
    have e:sumP (fun a=>sv (el (dnM r c j x).1 a)*wvec j (dnM r c j x).1 (j+a)) (r-j)=sumA (fun i=>W (el (mkV (colL r c x j j)) i)) (colL r c x j j).length:=by
     rw [sumA_sumP,hl]
     exact sumP_congr fun a _=>by rw [wvec_at,sv_W]; rfl
    rw [e]
    show Ab (sv (mkTau _)*_-2) _
    rw [G.tn]
    exact (Er.ab h0).mono (by grind)
 have M:MirP r j (dnM r c j x):=⟨hm,fun i hi=>G.vf i (by rw [hm.len] at hi; omega),fun i hi=>G.v1 i (by rw [hm.len] at hi; omega),G.tf,G.tn,G.t2,mw⟩
 have am:=dapply_mx h hj hjr
 have above:∀i k,i<j→k<c→el (dnX r c j x) (ps i c k)=el x (ps i c k):=fun i k hi hk=>by
  unfold dnX
  rw [clV_other hj hk (.inr hi),apV_above (by omega) hi hk]
 have ahead:∀i k,k<j→el (dnX r c j x) (ps i c k)=el x (ps i c k):=fun i k hk=>by
  unfold dnX
  rw [clV_other hj (by omega) (.inl (by omega)),apV_ahead (by omega) hk]
 have behind:∀i k,j<k→k<c→el (dnX r c j x) (ps i c k)=el (apV r c x j j (dnM r c j x).1 (dnM r c j x).2.1) (ps i c k):=fun i k hk hkc=>by
  unfold dnX
  rw [clV_other hj hkc (.inl (by omega))]
 have ownc:∀a,a<r-j→el (dnX r c j x) (ps (j+a) c j)=if a=0 then mkBeta (colL r c x j j) else 0:=fun a ha=>by
  unfold dnX
  by_cases h0:a=0
  ·subst h0; rw [if_pos rfl,Nat.add_zero]; exact clV_diag am hj hjr
  ·rw [if_neg h0]; exact clV_at am hm.b hj hjr (by omega) (by omega)
 have app:=fun k (hk:k<c) (hkj:j<k)=>app_err h hf hb M (by omega) (k0:=j) (show j≤k by omega) hk
 have tl:sumP (fun i=>(mvl c (dnX r c j x) i j-hmm r (sv (dnM r c j x).2.1) (wvec j (dnM r c j x).1) (mvl c x) i j)*(mvl c (dnX r c j x) i j-hmm r (sv (dnM r c j x).2.1) (wvec j (dnM r c j x).1) (mvl c x) i j)) r≤840000*uu*uu*sumP (fun a=>mvl c x (j+a) j*mvl c x (j+a) j) (r-j)+250000*ee*ee:=by
   rw [sum_from (j:=j) (by omega) (fun i hi=>by
    have e1:mvl c (dnX r c j x) i j=mvl c x i j:=by unfold mvl; rw [above i j hi hj]
    rw [e1,hmm_above h hf hb M (by omega) hi]; grind)]
   have k1:sumP (fun a=>(mvl c (dnX r c j x) (j+a) j-hmm r (sv (dnM r c j x).2.1) (wvec j (dnM r c j x).1) (mvl c x) (j+a) j)*(mvl c (dnX r c j x) (j+a) j-hmm r (sv (dnM r c j x).2.1) (wvec j (dnM r c j x).1) (mvl c x) (j+a) j)) (r-j)≤sumP (fun _=>101/100*(371*371*(uu*uu)*(bh*bh))+101*(400*(ee*ee))) (r-j):=sumP_le fun a ha=>by
    have e1:mvl c (dnX r c j x) (j+a) j=if a=0 then sv (mkBeta (colL r c x j j)) else 0:=by
     unfold mvl
     rw [ownc a ha]
     split
     ·rfl
     ·exact sv_zero (by decide)
    have e2:=col_hv h hf hb M (by omega) hj ha
    rw [e1,e2]
    have g:=G.own a (by omega)
    have h2:=(g.mul g).2
    have q1:=rat_sq_nonneg (371*uu*bh*(1/10)-10*(20*ee))
    have e3:(((if a=0 then sv (mkBeta (colL r c x j j)) else 0)-mirX (dnM r c j x).1 (colL r c x j j) (dnM r c j x).2.1 a)*((if a=0 then sv (mkBeta (colL r c x j j)) else 0)-mirX (dnM r c j x).1 (colL r c x j j) (dnM r c j x).2.1 a))=(mirX (mkV (colL r c x j j)) (colL r c x j j) (mkTau (colL r c x j j)) a-(if a=0 then sv (mkBeta (colL r c x j j)) else 0))*(mirX (mkV (colL r c x j j)) (colL r c x j j) (mkTau (colL r c x j j)) a-(if a=0 then sv (mkBeta (colL r c x j j)) else 0)):=by
     show (_-mirX (mkV (colL r c x j j)) (colL r c x j j) (mkTau (colL r c x j j)) a)*(_-mirX (mkV (colL r c x j j)) (colL r c x j j) (mkTau (colL r c x j j)) a)=_
     grind
    rw [e3]
    refine Rat.le_trans h2 ?_
    generalize ee=e at *
    generalize uu=u at *
    clear e1 e2 e3 h2 g
    grind
   rw [sumP_const] at k1
   have hr6:(((r-j:Nat):Nat):Rat)≤((6:Nat):Rat):=Rat.natCast_le_natCast.2 (by omega)
   have e6:((6:Nat):Rat)=6:=rfl
   rw [e6] at hr6
   have hbb:=rat_sq_nonneg bh
   have u2:=rat_sq_nonneg uu
   have e2:=rat_sq_nonneg ee
   have hub:=Rat.mul_nonneg u2 hbb
   have k2:=Rat.mul_le_mul_of_nonneg_right hr6 (show 0≤101/100*(371*371*(uu*uu)*(bh*bh))+101*(400*(ee*ee)) by grind)
   have hlen:=G.len
   rw [hl] at hlen
   have hz:sumP (fun i=>W (el (colL r c x j j) i)*W (el (colL r c x j j) i)) (r-j)=sumP (fun a=>mvl c x (j+a) j*mvl c x (j+a) j) (r-j):=sumP_congr fun a ha=>by rw [el_colL ha,←sv_W]; rfl
   rw [hz] at hlen
   have hcq0:0≤sumP (fun a=>mvl c x (j+a) j*mvl c x (j+a) j) (r-j):=sumP_nonneg fun a _=>rat_sq_nonneg _
   have k3:=Rat.mul_le_mul_of_nonneg_left hlen u2
   have hcq:=Rat.mul_nonneg u2 hcq0
   refine Rat.le_trans (Rat.le_trans k1 k2) ?_
   generalize sumP (fun a=>mvl c x (j+a) j*mvl c x (j+a) j) (r-j)=cq at *
   have f1:250000*ee*ee=250000*(ee*ee):=by grind
   have f2:840000*uu*uu*cq=840000*(uu*uu*cq):=by grind
   have f3:371*371*(uu*uu)*(bh*bh)=137641*(uu*uu*(bh*bh)):=by grind
   have f4:uu*uu*(1002/1000*cq)=1002/1000*(uu*uu*cq):=by grind
   rw [f1,f2,f3]
   rw [f4] at k3
   generalize uu*uu*(bh*bh)=X at *
   generalize uu*uu*cq=Y at *
   generalize ee*ee=E at *
   clear k1 k2 app ownc behind ahead above hf hb
   grind
 refine ⟨?_,M,?_,?_,?_,?_⟩
 ·unfold dnOk
  rw [finV_iff.2 hcf,G.ok]; rfl
 ·intro i k hi hk
  by_cases h1:k<j
  ·rw [ahead i k h1]; exact hf i k hi hk
  ·by_cases h2:j<k
   ·rw [behind i k h2 hk]; exact (app k hk h2).1 i hi
   ·have:k=j:=by omega
    subst this
    by_cases h3:i<k
    ·rw [above i k h3 hk]; exact hf i k hi hk
    ·obtain ⟨a,rfl⟩:∃a,i=k+a:=⟨i-k,by omega⟩
     rw [ownc a (by omega)]
     split
     ·exact G.bf
     ·decide
 ·intro k hk hkj
  by_cases h1:k<j
  ·rw [sumP_congr (q:=fun _=>0) fun i hi=>by
    have e1:mvl c (dnX r c j x) i k=mvl c x i k:=by unfold mvl; rw [ahead i k h1]
    have e2:hmm r (sv (dnM r c j x).2.1) (wvec j (dnM r c j x).1) (mvl c x) i k=mvl c x i k:=by
     unfold hmm hv
     rw [sum_wvec (by omega),sumP_congr (q:=fun _=>0) fun a ha=>by
      have:mvl c x (j+a) k=0:=by
       unfold mvl; rw [hu (j+a) k h1 (by omega) (by omega)]; exact sv_zero (by decide)
      rw [this]; grind,sumP_zero]
     grind
    rw [e1,e2]; grind,sumP_zero]
   have:=Rat.mul_nonneg (rat_sq_nonneg uu) (csq_nonneg r c x k)
   have:=rat_sq_nonneg ee
   grind
  ·have h2:j<k:=by omega
   have e:=(app k hk h2).2
   rw [sumP_congr (q:=fun i=>(mvl c (dnX r c j x) i k-hmm r (sv (dnM r c j x).2.1) (wvec j (dnM r c j x).1) (mvl c x) i k)*(mvl c (dnX r c j x) i k-hmm r (sv (dnM r c j x).2.1) (wvec j (dnM r c j x).1) (mvl c x) i k)) fun i _=>by
    have e1:mvl c (dnX r c j x) i k=mvl c (apV r c x j j (dnM r c j x).1 (dnM r c j x).2.1) i k:=by unfold mvl; rw [behind i k h2 hk]
    rw [e1]] at e
   exact e
 ·refine Rat.le_trans tl ?_
  have h1:=sumP_split (fun i=>mvl c x i j*mvl c x i j) j (r-j)
  rw [show j+(r-j)=r by omega] at h1
  have h2:0≤sumP (fun i=>mvl c x i j*mvl c x i j) j:=sumP_nonneg fun i _=>rat_sq_nonneg _
  have h3:sumP (fun a=>mvl c x (j+a) j*mvl c x (j+a) j) (r-j)≤csq r c x j:=by
   show _≤sumP (fun i=>mvl c x i j*mvl c x i j) r
   rw [h1]; grind
  have h4:=Rat.mul_le_mul_of_nonneg_left h3 (show 0≤840000*uu*uu by decide +kernel)
  grind
 ·exact tl
theorem hmm_mm {r n:Nat} {t:Rat} {w:Nat→Rat} (X Y:Nat→Nat→Rat) (i k:Nat):hmm r t w (mm n X Y) i k=mm n (hmm r t w X) Y i k:=by
 unfold hmm hv mm
 have e1:sumP (fun l=>w l*sumP (fun j=>X l j*Y j k) n) r=sumP (fun j=>sumP (fun l=>w l*X l j) r*Y j k) n:=by
  rw [sumP_congr (q:=fun l=>sumP (fun j=>w l*X l j*Y j k) n) fun l _=>by rw [←sumP_mul]; exact sumP_congr fun j _=>by grind]
  rw [sumP_swap (fun l j=>w l*X l j*Y j k) n r]
  exact sumP_congr fun j _=>sumP_mulr _ _ _
 rw [e1,←sumP_mul,←sumP_sub]
 exact sumP_congr fun j _=>by grind
theorem hmm_add {r:Nat} {t:Rat} {w:Nat→Rat} (X Y:Nat→Nat→Rat) (i k:Nat):hmm r t w (fun i k=>X i k+Y i k) i k=hmm r t w X i k+hmm r t w Y i k:=by
 unfold hmm hv
 have e:sumP (fun l=>w l*(X l k+Y l k)) r=sumP (fun l=>w l*X l k) r+sumP (fun l=>w l*Y l k) r:=by rw [←sumP_add]; exact sumP_congr fun l _=>by grind
 rw [e]; grind
theorem hmm_sub {r:Nat} {t:Rat} {w:Nat→Rat} (X Y:Nat→Nat→Rat) (i k:Nat):hmm r t w (fun i k=>X i k-Y i k) i k=hmm r t w X i k-hmm r t w Y i k:=by
 unfold hmm hv
 have e:sumP (fun l=>w l*(X l k-Y l k)) r=sumP (fun l=>w l*X l k) r-sumP (fun l=>w l*Y l k) r:=by rw [←sumP_sub]; exact sumP_congr fun l _=>by grind
 rw [e]; grind
theorem hmm_congr {r:Nat} {t:Rat} {w:Nat→Rat} {X Y:Nat→Nat→Rat} {k:Nat} (h:∀l,l<r→X l k=Y l k) {i:Nat} (hi:i<r):hmm r t w X i k=hmm r t w Y i k:=by
 unfold hmm hv
 dsimp only
 rw [h i hi,sumP_congr (p:=fun l=>w l*X l k) (q:=fun l=>w l*Y l k) fun l hl=>by rw [h l hl]]
theorem hmm_one {r:Nat} {t:Rat} {w:Nat→Rat} {i k:Nat} (hk:k<r):hmm r t w one2 i k=one2 i k-t*(w i*w k):=by
 unfold hmm hv
 have e:sumP (fun l=>w l*one2 l k) r=w k:=by
  rw [sum_pick hk (fun l _ hl=>by unfold one2; rw [if_neg hl]; grind)]
  unfold one2; rw [if_pos rfl]; grind
 rw [e]; grind
theorem one2_comm (i k:Nat):one2 i k=one2 k i:=by
 unfold one2
 by_cases h:i=k
 ·rw [if_pos h,if_pos h.symm]
 ·rw [if_neg h,if_neg (fun hh=>h hh.symm)]
theorem mir_one {r j:Nat} {t:Rat} {w:Nat→Rat} (h:MirW r j t w):FN r r (fun i k=>hmm r t w (hmm r t w one2) i k-one2 i k) (690*uu):=by
 have u0:=uu_pos
 refine FN.of (by grind) ?_
 have hww:0≤sumP (fun i=>w i*w i) r:=sumP_nonneg fun i _=>rat_sq_nonneg _
 have kk:=(h.kap.1.mul h.kap.1).2
 have e:sum2 r r (fun i k=>(hmm r t w (hmm r t w one2) i k-one2 i k)*(hmm r t w (hmm r t w one2) i k-one2 i k))=t*(t*sumP (fun i=>w i*w i) r-2)*(t*(t*sumP (fun i=>w i*w i) r-2))*(sumP (fun i=>w i*w i) r*sumP (fun i=>w i*w i) r):=by
  unfold sum2
  rw [sumP_congr (q:=fun i=>t*(t*sumP (fun i=>w i*w i) r-2)*(t*(t*sumP (fun i=>w i*w i) r-2))*sumP (fun i=>w i*w i) r*(w i*w i)) fun i _=>by
   rw [sumP_congr (q:=fun k=>t*(t*sumP (fun i=>w i*w i) r-2)*(t*(t*sumP (fun i=>w i*w i) r-2))*(w i*w i)*(w k*w k)) fun k hk=>by
    have h1:=hv_hv h (fun l=>one2 l k) i
    have h2:sumP (fun l=>w l*one2 l k) r=w k:=by
     rw [sum_pick hk (fun l _ hl=>by unfold one2; rw [if_neg hl]; grind)]
     unfold one2; rw [if_pos rfl]; grind
    rw [h2] at h1
    show (hv r t w (hv r t w fun l=>one2 l k) i-one2 i k)*(hv r t w (hv r t w fun l=>one2 l k) i-one2 i k)=_
    rw [h1]; grind]
   rw [sumP_mul]
   grind]
  rw [sumP_mul]
  grind
 rw [e]
 generalize sumP (fun i=>w i*w i) r=ww at *
 grind
structure BQ (r k:Nat) (q:List Nat):Prop where
 mx:Mx r r q
 fin:Fin2 r r q
 nq:FN r r (mvl r q) (5/2*(1+3000*uu*k))
 og:FN r r (fun i j=>mm r (mvl r q) (trp (mvl r q)) i j-one2 i j) (1500*uu*k)
theorem bq_eye {r:Nat} (hr:r≤6):BQ r 0 (eyV r):=by
 have z:((0:Nat):Rat)=0:=rfl
 refine ⟨eyV_mx hr,fun i k hi hk => ?_,((fn_one hr).congr fun i k hi hk=>(mvl_eye hi hk).symm).mono (by rw [z]; grind),?_⟩
 ·unfold eyV
  rw [el_matL _ hi hk]
  unfold eyG
  split<;>decide
 ·rw [z]
  refine ((FN.zero r r).mono (by grind)).congr fun i k hi hk => ?_
  have e:mm r (mvl r (eyV r)) (trp (mvl r (eyV r))) i k=one2 i k:=by
   rw [←mm_one (n:=r) one2 (i:=i) hk]
   refine mm_congr (fun j hj=>mvl_eye hi hj) fun j hj => ?_
   show mvl r (eyV r) k j=one2 j k
   rw [mvl_eye hk hj,one2_comm]
  rw [e]; grind
theorem k5 {k:Nat} (hk:k≤5):0≤uu*(k:Rat)∧uu*(k:Rat)≤1/1000000000∧(0:Rat)≤k∧(k:Rat)≤5:=by
 obtain ⟨a,b,c⟩:=um_small (m:=k) (by omega)
 have h1:(k:Rat)≤((5:Nat):Rat):=Rat.natCast_le_natCast.2 hk
 exact ⟨a,b,c,h1⟩
theorem FN.cols {r c:Nat} (hc:c≤6) {F X:Nat→Nat→Rat} {α β b:Rat} (hα:0≤α) (hβ:0≤β) (hX:FN r c X b) (h:∀k,k<c→sumP (fun i=>F i k*F i k) r≤α*α*sumP (fun i=>X i k*X i k) r+β*β):FN r c F (α*b+5/2*β):=by
 have h0:=Rat.mul_nonneg hα hX.1
 refine FN.of (by grind) ?_
 rw [sum2_swap]
 have h1:sumP (fun k=>sumP (fun i=>F i k*F i k) r) c≤sumP (fun k=>α*α*sumP (fun i=>X i k*X i k) r+β*β) c:=sumP_le fun k hk=>h k hk
 rw [sumP_add,sumP_mul,sumP_const] at h1
 have h2:=hX.sq
 rw [sum2_swap] at h2
 have h3:=Rat.mul_le_mul_of_nonneg_left h2 (rat_sq_nonneg α)
 have hc6:((c:Nat):Rat)≤((6:Nat):Rat):=Rat.natCast_le_natCast.2 hc
 have e6:((6:Nat):Rat)=6:=rfl
 rw [e6] at hc6
 have h4:=Rat.mul_le_mul_of_nonneg_right hc6 (rat_sq_nonneg β)
 have h5:=Rat.mul_nonneg h0 hβ
 have h6:sumP (fun k=>sumP (fun i=>F i k*F i k) r) c≤α*α*(b*b)+6*(β*β):=by
  unfold sum2 at h3
  grind
 refine Rat.le_trans h6 ?_
 have h7:=rat_sq_nonneg β
 grind
theorem bq_step {r k n:Nat} {q:List Nat} (hk:k≤5) (h:BQ r k q) {m:Mir} (M:MirP r n m) (hn:n≤r):BQ r (k+1) (apV r r q n 0 m.1 m.2.1) ∧
  FN r r (fun i j=>mvl r (apV r r q n 0 m.1 m.2.1) i j-hmm r (sv m.2.1) (wvec n m.1) (mvl r q) i j) (150*uu):=by
 have u0:=uu_pos
 obtain ⟨e0,e1⟩:=ee1
 obtain ⟨t0,t1,k0,k5'⟩:=k5 hk
 have hW:∀i j,i<r→j<r→W (el q (ps i r j))≤P2 300:=fun i j hi hj=>W_of_sv ((h.nq.at hi hj).mono (by
  have:(10:Rat)≤P2 300:=by decide +kernel
  generalize P2 300=p at *
  generalize (k:Rat)=K at *
  generalize uu=u at *
  grind))
 have app:=fun j (hj:j<r)=>app_err h.mx h.fin hW M hn (k0:=0) (Nat.zero_le _) hj
 have hF:FN r r (fun i j=>mvl r (apV r r q n 0 m.1 m.2.1) i j-hmm r (sv m.2.1) (wvec n m.1) (mvl r q) i j) (150*uu):=by
  have:=FN.cols h.mx.hc (α:=58*uu) (β:=350*ee) (by grind) (by grind) h.nq (fun j hj=>Rat.le_trans (app j hj).2 (by
   have a1:=Rat.mul_nonneg (rat_sq_nonneg uu) (csq_nonneg r r q j)
   have a2:=rat_sq_nonneg ee
   show 3300*uu*uu*csq r r q j+120000*ee*ee≤58*uu*(58*uu)*csq r r q j+350*ee*(350*ee)
   grind))
  refine this.mono ?_
  have a1:uu*(uu*(k:Rat))≤uu*(1/1000000000):=Rat.mul_le_mul_of_nonneg_left t1 u0
  generalize (k:Rat)=K at *
  generalize ee=e at *
  generalize uu=u at *
  grind
 have hM:=FN.mir M.mw h.nq
 have eq:∀i j,mvl r (apV r r q n 0 m.1 m.2.1) i j=hmm r (sv m.2.1) (wvec n m.1) (mvl r q) i j+(mvl r (apV r r q n 0 m.1 m.2.1) i j-hmm r (sv m.2.1) (wvec n m.1) (mvl r q) i j):=fun i j=>by grind
 have hcast:((k+1:Nat):Rat)=(k:Rat)+1:=nat_rat k
 refine ⟨⟨apV_mx h.mx M.ok.w M.ok.t (i:=n) (by rw [M.ok.len]; omega),fun i j hi hj=>(app j hj).1 i hi,?_,?_⟩,hF⟩
 ·refine ((hM.add hF).mono ?_).congr fun i j _ _=>(eq i j).symm
  rw [hcast]
  have a1:uu*(uu*(k:Rat))≤uu*(1/1000000000):=Rat.mul_le_mul_of_nonneg_left t1 u0
  generalize (k:Rat)=K at *
  generalize uu=u at *
  grind
 ·
  have p1:=FN.mir M.mw (FN.mir M.mw h.og).tr
  have p2:=mir_one M.mw
  have p3:=hM.mul hF.tr
  have p4:=hF.mul hM.tr
  have p5:=hF.mul hF.tr
  refine ((p1.add (p2.add (p3.add (p4.add p5)))).mono ?_).congr fun i j hi hj => ?_
  ·rw [hcast]
   have a1:uu*(uu*(k:Rat))≤uu*(1/1000000000):=Rat.mul_le_mul_of_nonneg_left t1 u0
   have a2:uu*(uu*(uu*(k:Rat)))≤uu*(uu*(1/1000000000)):=Rat.mul_le_mul_of_nonneg_left a1 u0
   have a3:=Rat.mul_le_mul_of_nonneg_left (show uu≤1/1000000000 by decide +kernel) u0
   have a4:=Rat.mul_le_mul_of_nonneg_left a3 u0
   generalize (k:Rat)=K at *
   generalize uu=u at *
   grind
  ·have e1:mm r (mvl r (apV r r q n 0 m.1 m.2.1)) (trp (mvl r (apV r r q n 0 m.1 m.2.1))) i j=mm r (fun i j=>hmm r (sv m.2.1) (wvec n m.1) (mvl r q) i j+(mvl r (apV r r q n 0 m.1 m.2.1) i j-hmm r (sv m.2.1) (wvec n m.1) (mvl r q) i j)) (fun i j=>trp (hmm r (sv m.2.1) (wvec n m.1) (mvl r q)) i j+trp (fun i j=>mvl r (apV r r q n 0 m.1 m.2.1) i j-hmm r (sv m.2.1) (wvec n m.1) (mvl r q) i j) i j) i j :=
    mm_congr (fun l _=>eq i l) (fun l _=>eq j l)
   rw [e1,mm_addl,mm_addr,mm_addr]
   have e2:mm r (hmm r (sv m.2.1) (wvec n m.1) (mvl r q)) (trp (hmm r (sv m.2.1) (wvec n m.1) (mvl r q))) i j=hmm r (sv m.2.1) (wvec n m.1) (trp (hmm r (sv m.2.1) (wvec n m.1) (mm r (mvl r q) (trp (mvl r q))))) i j:=by
    rw [←hmm_mm]
    refine hmm_congr (fun l _ => ?_) hi
    show mm r (mvl r q) (trp (hmm r (sv m.2.1) (wvec n m.1) (mvl r q))) l j=hmm r (sv m.2.1) (wvec n m.1) (mm r (mvl r q) (trp (mvl r q))) j l
    rw [hmm_mm,mm_tr]
    rfl
   have e3:hmm r (sv m.2.1) (wvec n m.1) (trp (hmm r (sv m.2.1) (wvec n m.1) (mm r (mvl r q) (trp (mvl r q))))) i j=hmm r (sv m.2.1) (wvec n m.1) (trp (hmm r (sv m.2.1) (wvec n m.1) (fun i j=>mm r (mvl r q) (trp (mvl r q)) i j-one2 i j))) i j+hmm r (sv m.2.1) (wvec n m.1) (hmm r (sv m.2.1) (wvec n m.1) one2) i j:=by
    rw [←hmm_add]
    refine hmm_congr (fun l hl => ?_) hi
    show hmm r (sv m.2.1) (wvec n m.1) (mm r (mvl r q) (trp (mvl r q))) j l=hmm r (sv m.2.1) (wvec n m.1) (fun i j=>mm r (mvl r q) (trp (mvl r q)) i j-one2 i j) j l+hmm r (sv m.2.1) (wvec n m.1) one2 l j
    rw [hmm_sub,hmm_one hl,hmm_one hj,one2_comm l j]
    grind
   rw [e2,e3]
   grind
def bq (r:Nat):List Mir→Nat→List Nat
 | [],_=>eyV r
 | m::ms,j=>apV r r (bq r ms (j+1)) j 0 m.1 m.2.1
theorem backR_bq {r:Nat}:∀(n:Nat) (ms ms2:List Mir),ms.length=n→backR r (ms++ms2) n (bq r ms2 n)=bq r (ms++ms2) 0
 | 0,ms,ms2,h=>by rw [List.eq_nil_of_length_eq_zero h]; rfl
 | n+1,ms,ms2,h=>by
  obtain ⟨ms',m,rfl⟩:∃ms' m,ms=ms'++[m]:=⟨ms.dropLast,ms.getLast (by intro hh; rw [hh] at h; simp at h),(List.dropLast_concat_getLast _).symm⟩
  have hl:ms'.length=n:=by simp at h; omega
  have ih:=backR_bq (r:=r) n ms' (m::ms2) hl
  have e:mir (ms'++[m]++ms2) n=m:=by
   unfold mir
   rw [List.getD_eq_getElem?_getD,List.append_assoc,List.getElem?_append_right (by omega),hl,Nat.sub_self]
   rfl
  unfold backR
  rw [e,List.append_assoc]
  exact ih
theorem qrQ_bq (r:Nat) (ms:List Mir):qrQ r ms=bq r ms 0:=by
 have:=backR_bq (r:=r) ms.length ms [] rfl
 rw [List.append_nil] at this
 exact this
section
end
section
end
section
end
section
end
section
end
section
end
section
end
theorem W0:W 0=0:=W_zero_of (by decide)
section
end
section
end
section
end
def AllZ (r c:Nat) (x:List Nat):Prop:=∀i k,i<r→k<c→W (el x (ps i c k))=0
theorem dnX_zero {r c j:Nat} {x:List Nat} (h:Mx r c x) (hf:Fin2 r c x) (z:AllZ r c x) (hj:j<c) (hjr:j<r) (E:DnE r c j x):AllZ r c (dnX r c j x):=by
 have hr:=h.hr
 have am:=dapply_mx h hj hjr
 have hm:=E.mp.ok
 have hl:(colL r c x j j).length=r-j:=colL_len _ _ _ _ _
 intro i k hi hk
 by_cases h1:k<j
 ·unfold dnX
  rw [clV_other hj hk (.inl (by omega)),apV_ahead (by omega) h1]
  exact z i k hi hk
 ·by_cases h3:i<j
  ·unfold dnX
   rw [clV_other hj hk (.inr h3),apV_above (by omega) h3 hk]
   exact z i k hi hk
  ·by_cases h2:j<k
   ·unfold dnX
    rw [clV_other hj hk (.inl (by omega))]
    obtain ⟨a,rfl⟩:∃a,i=j+a:=⟨i-j,by omega⟩
    rw [apV_at h (by rw [hm.len]; omega) (by omega) (by omega) hk (by rw [hm.len]; omega),take_all (by rw [colL_len,hm.len])]
    refine (col_nought E.mp.tf E.mp.vf (fun l hl2 => ?_) (by rw [hm.len]; omega)).2
    rw [hm.len] at hl2
    rw [el_colL hl2]
    exact ⟨hf _ _ (by omega) hk,z _ _ (by omega) hk⟩
   ·have hkj:k=j:=by omega
    subst hkj
    by_cases h4:i=k
    ·subst h4
     have:el (dnX r c i x) (ps i c i)=mkBeta (colL r c x i i):=clV_diag am hj hjr
     rw [this]
     have hn:nouV (colL r c x i i)=true:=by
      cases hn:nouV (colL r c x i i) with
      | true=>rfl
      | false =>
       obtain ⟨l,hl2,hm0⟩:=nou_false (by omega) hn
       rw [hl] at hl2
       exact absurd (mag_of_W (by rw [el_colL hl2]; exact z _ _ (by omega) hk)) hm0
     unfold mkBeta
     rw [if_pos hn,el_colL (by omega)]
     exact z _ _ (by omega) hk
    ·have:el (dnX r c k x) (ps i c k)=0:=clV_at am hm.b hj hjr (by omega) hi
     rw [this]; exact W0
def tsq (r c:Nat) (x:List Nat) (m k:Nat):Rat:=sumP (fun a=>mvl c x (m+a) k*mvl c x (m+a) k) (r-m)
theorem tsq_nonneg (r c:Nat) (x:List Nat) (m k:Nat):0≤tsq r c x m k:=sumP_nonneg fun i _=>rat_sq_nonneg _
theorem tsq_zero (r c:Nat) (x:List Nat) (k:Nat):tsq r c x 0 k=csq r c x k:=by
 unfold tsq csq
 exact sumP_congr fun a _=>by rw [Nat.zero_add]
theorem csq_split {r c:Nat} {x:List Nat} {m k:Nat} (hm:m≤r):csq r c x k=sumP (fun i=>mvl c x i k*mvl c x i k) m+tsq r c x m k:=by
 unfold csq tsq
 have h1:=sumP_split (fun i=>mvl c x i k*mvl c x i k) m (r-m)
 rwa [show m+(r-m)=r by omega] at h1
theorem tsq_succ (r c:Nat) (x:List Nat) {m k:Nat} (hm:m<r):tsq r c x m k=mvl c x m k*mvl c x m k+tsq r c x (m+1) k:=by
 have h1:=csq_split (r:=r) (c:=c) (x:=x) (k:=k) (show m≤r by omega)
 have h2:=csq_split (r:=r) (c:=c) (x:=x) (k:=k) (show m+1≤r by omega)
 have h3:=sumP_split (fun i=>mvl c x i k*mvl c x i k) m 1
 have h4:sumP (fun i=>mvl c x (m+i) k*mvl c x (m+i) k) 1=mvl c x m k*mvl c x m k:=by
  show 0+mvl c x (m+0) k*mvl c x (m+0) k=_
  rw [Nat.add_zero]; grind
 rw [h4] at h3
 rw [h3] at h2
 grind
theorem sq_near {n:Nat} {x y:Nat→Rat} {B E t:Rat} (ht:0<t) (hx:sumP (fun i=>x i*x i) n≤B) (he:sumP (fun i=>(y i-x i)*(y i-x i)) n≤t*(t*E)) :
  Ab (sumP (fun i=>y i*y i) n-sumP (fun i=>x i*x i) n) (t*(B+E)+t*(t*E)):=by
 have e1:sumP (fun i=>y i*y i) n=sumP (fun i=>x i*x i) n+2*sumP (fun i=>x i*(y i-x i)) n+sumP (fun i=>(y i-x i)*(y i-x i)) n:=by
  rw [←sumP_mul,←sumP_add,←sumP_add]
  exact sumP_congr fun i _=>by grind
 have h0:0≤sumP (fun i=>(y i-x i)*(y i-x i)) n:=sumP_nonneg fun i _=>rat_sq_nonneg _
 have e2:0≤sumP (fun i=>(t*x i-(y i-x i))*(t*x i-(y i-x i))) n:=sumP_nonneg fun i _=>rat_sq_nonneg _
 have e3:0≤sumP (fun i=>(t*x i+(y i-x i))*(t*x i+(y i-x i))) n:=sumP_nonneg fun i _=>rat_sq_nonneg _
 have e4:sumP (fun i=>(t*x i-(y i-x i))*(t*x i-(y i-x i))) n=t*t*sumP (fun i=>x i*x i) n + -(2*t)*sumP (fun i=>x i*(y i-x i)) n+sumP (fun i=>(y i-x i)*(y i-x i)) n:=by
  rw [←sumP_mul,←sumP_mul,←sumP_add,←sumP_add]
  exact sumP_congr fun i _=>by grind
 have e5:sumP (fun i=>(t*x i+(y i-x i))*(t*x i+(y i-x i))) n=t*t*sumP (fun i=>x i*x i) n+(2*t)*sumP (fun i=>x i*(y i-x i)) n+sumP (fun i=>(y i-x i)*(y i-x i)) n:=by
  rw [←sumP_mul,←sumP_mul,←sumP_add,←sumP_add]
  exact sumP_congr fun i _=>by grind
 rw [e4] at e2
 rw [e5] at e3
 rw [e1]
 generalize sumP (fun i=>x i*(y i-x i)) n=z at *
 generalize sumP (fun i=>(y i-x i)*(y i-x i)) n=f at *
 have hX:=Rat.mul_le_mul_of_nonneg_left hx (show 0≤t*t by exact Rat.mul_nonneg (Rat.le_of_lt ht) (Rat.le_of_lt ht))
 generalize sumP (fun i=>x i*x i) n=X at *
 clear e1 e4 e5 hx
 have k1:t*(2*z)≤t*(t*(B+E)):=by grind
 have k2:t*(-(t*(B+E)))≤t*(2*z):=by grind
 have k3:=Rat.le_of_mul_le_mul_left k1 ht
 have k4:=Rat.le_of_mul_le_mul_left k2 ht
 exact ⟨by grind,by grind⟩
theorem dn_tsq {r c j:Nat} {x:List Nat} (hjr:j<r) (E:DnE r c j x) {B:Rat} (hB:P2 (-430)≤B) {k m:Nat} (hk:k<c) (hm:m≤j) (hx:csq r c x k≤B):Ab (tsq r c (dnX r c j x) m k-tsq r c x m k) (4000*uu*B):=by
 have u0:=uu_pos
 have u1:(0:Rat)<1000*uu:=by decide +kernel
 have hu:uu≤1/1000000000:=by decide +kernel
 have M:=E.mp.mw
 have s1:csq r c x k=sumP (fun i=>mvl c x i k*mvl c x i k) r:=rfl
 have hs:=hv_sq M (fun l=>mvl c x l k)
 have hkap:=M.kap.1
 have hcs:=(pf_sum r).cs (wvec j (dnM r c j x).1) (fun l=>mvl c x l k)
 have hww:0≤sumP (fun i=>wvec j (dnM r c j x).1 i*wvec j (dnM r c j x).1 i) r:=sumP_nonneg fun i _=>rat_sq_nonneg _
 have hwx:=rat_sq_nonneg (sumP (fun i=>wvec j (dnM r c j x).1 i*mvl c x i k) r)
 have hxx:=csq_nonneg r c x k
 have hA:Ab (sumP (fun i=>hmm r (sv (dnM r c j x).2.1) (wvec j (dnM r c j x).1) (mvl c x) i k*hmm r (sv (dnM r c j x).2.1) (wvec j (dnM r c j x).1) (mvl c x) i k) r-csq r c x k) (690*uu*B):=by
  have e:sumP (fun i=>hmm r (sv (dnM r c j x).2.1) (wvec j (dnM r c j x).1) (mvl c x) i k*hmm r (sv (dnM r c j x).2.1) (wvec j (dnM r c j x).1) (mvl c x) i k) r=sumP (fun i=>hv r (sv (dnM r c j x).2.1) (wvec j (dnM r c j x).1) (fun l=>mvl c x l k) i*hv r (sv (dnM r c j x).2.1) (wvec j (dnM r c j x).1) (fun l=>mvl c x l k) i) r:=rfl
  rw [e,hs,s1]
  rw [s1] at hx hxx
  generalize sumP (fun i=>wvec j (dnM r c j x).1 i*mvl c x i k) r*sumP (fun i=>wvec j (dnM r c j x).1 i*mvl c x i k) r=wx at *
  generalize sumP (fun i=>wvec j (dnM r c j x).1 i*wvec j (dnM r c j x).1 i) r=ww at *
  generalize sumP (fun i=>mvl c x i k*mvl c x i k) r=xx at *
  generalize sv (dnM r c j x).2.1*(sv (dnM r c j x).2.1*ww-2)=κ at *
  have h9:690*uu*xx≤690*uu*B:=Rat.mul_le_mul_of_nonneg_left hx (by grind)
  have q:Ab (κ*wx) (690*uu*xx):=by
   rcases Rat.le_total (a:=κ) (b:=0) with hk | hk
   ·have h1:=Rat.mul_le_mul_of_nonneg_left hcs (show 0 ≤ -κ by grind)
    have h2:=Rat.mul_le_mul_of_nonneg_right hkap.1 hxx
    have h3:=Rat.mul_nonneg (show 0 ≤ -κ by grind) hwx
    have h4:=Rat.mul_nonneg u0 hxx
    exact ⟨by grind,by grind⟩
   ·have h1:=Rat.mul_le_mul_of_nonneg_left hcs hk
    have h2:=Rat.mul_le_mul_of_nonneg_right hkap.2 hxx
    have h3:=Rat.mul_nonneg hk hwx
    have h4:=Rat.mul_nonneg u0 hxx
    exact ⟨by grind,by grind⟩
  have e2:xx+κ*wx-xx=κ*wx:=by grind
  rw [e2]
  exact q.mono h9
 have hB0:0≤B:=Rat.le_trans (Rat.le_of_lt (P2_pos _)) hB
 have hee:ee*ee≤uu*(uu*(1/1000000*B)):=by
  have a1:ee*ee≤uu*(uu*(1/1000000*P2 (-430))):=by decide +kernel
  have a2:=Rat.mul_le_mul_of_nonneg_left hB (Rat.mul_nonneg u0 u0)
  grind
 have hF:sumP (fun i=>(mvl c (dnX r c j x) i k-hmm r (sv (dnM r c j x).2.1) (wvec j (dnM r c j x).1) (mvl c x) i k)*(mvl c (dnX r c j x) i k-hmm r (sv (dnM r c j x).2.1) (wvec j (dnM r c j x).1) (mvl c x) i k)) r≤1000*uu*(1000*uu*B):=by
  have hc:=Rat.mul_le_mul_of_nonneg_left hx (Rat.mul_nonneg u0 u0)
  have hc0:=Rat.mul_nonneg (Rat.mul_nonneg u0 u0) hB0
  by_cases hkj:k=j
  ·subst hkj
   have:=E.own
   grind
  ·have:=E.oth k hk hkj
   have:=Rat.mul_nonneg (Rat.mul_nonneg u0 u0) hxx
   grind
 have hab:∀i,i<m→hmm r (sv (dnM r c j x).2.1) (wvec j (dnM r c j x).1) (mvl c x) i k=mvl c x i k:=fun i hi=>by
  unfold hmm hv wvec
  rw [if_pos (by omega)]; grind
 have t1:sumP (fun i=>hmm r (sv (dnM r c j x).2.1) (wvec j (dnM r c j x).1) (mvl c x) i k*hmm r (sv (dnM r c j x).2.1) (wvec j (dnM r c j x).1) (mvl c x) i k) r-csq r c x k=sumP (fun a=>hmm r (sv (dnM r c j x).2.1) (wvec j (dnM r c j x).1) (mvl c x) (m+a) k*hmm r (sv (dnM r c j x).2.1) (wvec j (dnM r c j x).1) (mvl c x) (m+a) k) (r-m)-tsq r c x m k:=by
  have h1:=sumP_split (fun i=>hmm r (sv (dnM r c j x).2.1) (wvec j (dnM r c j x).1) (mvl c x) i k*hmm r (sv (dnM r c j x).2.1) (wvec j (dnM r c j x).1) (mvl c x) i k) m (r-m)
  rw [show m+(r-m)=r by omega] at h1
  rw [h1,csq_split (show m≤r by omega),sumP_congr (n:=m) (q:=fun i=>mvl c x i k*mvl c x i k) fun i hi=>by rw [hab i hi]]
  grind
 rw [t1] at hA
 have hF2:sumP (fun a=>(mvl c (dnX r c j x) (m+a) k-hmm r (sv (dnM r c j x).2.1) (wvec j (dnM r c j x).1) (mvl c x) (m+a) k)*(mvl c (dnX r c j x) (m+a) k-hmm r (sv (dnM r c j x).2.1) (wvec j (dnM r c j x).1) (mvl c x) (m+a) k)) (r-m)≤1000*uu*(1000*uu*B):=by
  refine Rat.le_trans ?_ hF
  have h1:=sumP_split (fun i=>(mvl c (dnX r c j x) i k-hmm r (sv (dnM r c j x).2.1) (wvec j (dnM r c j x).1) (mvl c x) i k)*(mvl c (dnX r c j x) i k-hmm r (sv (dnM r c j x).2.1) (wvec j (dnM r c j x).1) (mvl c x) i k)) m (r-m)
  rw [show m+(r-m)=r by omega] at h1
  rw [h1]
  have h2:0≤sumP (fun i=>(mvl c (dnX r c j x) i k-hmm r (sv (dnM r c j x).2.1) (wvec j (dnM r c j x).1) (mvl c x) i k)*(mvl c (dnX r c j x) i k-hmm r (sv (dnM r c j x).2.1) (wvec j (dnM r c j x).1) (mvl c x) i k)) m:=sumP_nonneg fun i _=>rat_sq_nonneg _
  grind
 have ht:tsq r c x m k≤B:=by
  have:=csq_split (r:=r) (c:=c) (x:=x) (k:=k) (show m≤r by omega)
  have h2:0≤sumP (fun i=>mvl c x i k*mvl c x i k) m:=sumP_nonneg fun i _=>rat_sq_nonneg _
  grind
 have hub:=Rat.mul_le_mul_of_nonneg_right hu hB0
 have hub0:=Rat.mul_nonneg u0 hB0
 have hup:=hA.2
 have q:=sq_near (x:=fun a=>hmm r (sv (dnM r c j x).2.1) (wvec j (dnM r c j x).1) (mvl c x) (m+a) k) (y:=fun a=>mvl c (dnX r c j x) (m+a) k) (t:=1000*uu) (B:=11/10*B) (E:=B) u1 (by grind) hF2
 have q2:=q.add hA
 have hq:sumP (fun i=>mvl c (dnX r c j x) (m+i) k*mvl c (dnX r c j x) (m+i) k) (r-m)=tsq r c (dnX r c j x) m k:=rfl
 rw [hq] at q2
 have e3:=fun (a b d:Rat)=>show a-b+(b-d)=a-d by grind
 rw [e3] at q2
 refine q2.mono ?_
 have k1:=Rat.mul_le_mul_of_nonneg_left hub u0
 clear q q2 hA hF hF2 t1 hs hcs
 generalize uu=u at *
 grind
end Go.Proofs.YthchhkghjfendaaGreat.Dx
