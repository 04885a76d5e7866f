/- Lemmas for the proof. No condition. -/
import Derived.Test.YtneajphgfdlmhaaGreatDoorUB08
import Derived.WalkMore
import Derived.Deep.RegionHeld
set_option linter.unusedVariables false
set_option linter.unusedSimpArgs false
set_option maxRecDepth 100000
set_option maxHeartbeats 16000000
open Go.Ending renaming returned → ah
open Go.IntKind renaming i64 → I
open Go.Value renaming agg → au, bool → ak, int → Z, pointer → aA, slice → aj, tuple → aD
open List renaming all_eq_true → eZ, getElem_mem → fq, replicate → bW, take_append_drop → kL, take_length → fP, take_succ_eq_append_getElem → fV
open Nat renaming add_assoc → kI, add_comm → iO, add_mul → dL, add_sub_cancel → dS, add_zero → fU, div_add_mod → dB, div_eq_of_lt → fQ, div_lt_iff_lt_mul → dz, eq_zero_or_pos → aX, le_refl → aC, le_trans → ay, lt_of_lt_of_le → aI, lt_or_ge → aR, min_eq_left → kD, mod_eq_of_lt → gU, mod_lt → fI, mul_add → aZ, mul_assoc → dA, mul_comm → aL, mul_le_mul → fA, mul_le_mul_left → aT, mul_le_mul_right → bf, mul_left_comm → dM, mul_pos → iP, one_mul → iw, pow_add → gG, pow_succ → cZ, zero_add → dJ
namespace Go.Num
theorem qm {B:Nat} {v:List Nat} {k:Nat} (hv:v.length=k+2):val B v=val B (v.take k)+B^k*(v.getD k 0+B*v.getD (k+1) 0):=by
 have h1:=dO B (l:=v) (k:=k) zo;have h2:=dO B (l:=v) (k:=k+1) zo;rw [show k+1+1=v.length by omega,fP] at h2;rw [h2,h1,aZ,cZ,dA,kI]
theorem wW {B:Nat} {u:List Nat} {k:Nat} (hu:u.length=k+3):val B u=val B (u.take k)+B^k*(u.getD k 0+B*(u.getD (k+1) 0+B*u.getD (k+2) 0)):=by
 have h1:=dO B (l:=u) (k:=k) zo;have h2:=dO B (l:=u) (k:=k+1) zo;have h3:=dO B (l:=u) (k:=k+2) zo;rw [show k+2+1=u.length by omega,fP] at h3;rw [h3,h2,h1];simp only [aZ,cZ,dA];omega
structure Lp (B U V top head q r:Nat):Prop where
 split:q*top+r=head
 high:U / V≤q
 bound:q≤B+1
section
variable {B:Nat} {u v:List Nat} {k:Nat}
theorem Kq (hB:1<B) (hu:u.length=k+3) (hv:v.length=k+2) (du:gT B u) (ht:B≤2*v.getD (k+1) 0) (hlt:val B u<val B v*B) (dv:gT B v) :
  Lp B (val B u) (val B v) (v.getD (k+1) 0) (u.getD (k+2) 0*B+u.getD (k+1) 0) ((u.getD (k+2) 0*B+u.getD (k+1) 0) / v.getD (k+1) 0) ((u.getD (k+2) 0*B+u.getD (k+1) 0)%v.getD (k+1) 0):=by
 have eu:=wW (B:=B) hu;have ev:=qm (B:=B) hv;have lu:=iZ zo (du.take k);have lv:=iZ zo (dv.take k);rw [show (u.take k).length=k by simp;omega] at lu;rw [show (v.take k).length=k by simp;omega] at lv;have d0:=du.getD zo k;have d1:=du.getD zo (k+1);have f0:=dv.getD zo k;generalize u.getD k 0=u2 at *;generalize u.getD (k+1) 0=u1 at *;generalize u.getD (k+2) 0=un at *;generalize v.getD k 0=v2 at *;generalize v.getD (k+1) 0=top at *;generalize val B (u.take k)=a at *;generalize val B (v.take k)=b at *;have hp:0<B^k:=Nat.pow_pos zo;generalize B^k=p at *;have htop:0<top:=by omega
 have hV:0<val B v:=by
  rw [ev];have:0<p*(v2+B*top):=iP hp (by have:=iP (by omega:0<B) htop;omega);omega
 have Np:=dB (un*B+u1) top;have hml:=fI (un*B+u1) htop;refine ⟨by rw [aL];exact Np,?_,?_⟩
 ·rw [← Nat.lt_succ_iff,dz hV,eu,ev];generalize (un*B+u1) / top=q at *;have h1:un*B+u1+1≤(q+1)*top:=by rw [dL,iw,aL q];omega
  have h2:p*(B*(un*B+u1+1))≤p*(B*((q+1)*top)):=aT _ (aT _ h1)
  have h3:a+p*(u2+B*(u1+B*un))<p*(B*(un*B+u1+1)):=by
   have:p*(u2+B*(u1+B*un)+1)≤p*(B*(un*B+u1+1)):=aT _ (by rw [aZ B (un*B+u1),Nat.mul_one,iO u1,aL B un];omega);rw [aZ,Nat.mul_one] at this;omega
  have h4:p*(B*((q+1)*top))≤Nat.succ q*(b+p*(v2+B*top)):=by
   rw [Nat.succ_eq_add_one,show p*(B*((q+1)*top))=(q+1)*(p*(B*top)) by rw [dM B,dM p]];refine aT _ ?_;rw [aZ p];omega
  omega
 ·-- the highest digit of u is at most that of v
  have h1:un≤top:=by
   rcases aR top un with h|h
   ·exfalso
    rw [eu,ev] at hlt;have h2:p*(B*(B*(top+1)))≤p*(B*(B*un)):=aT _ (aT _ (aT _ h))
    have h3:(b+p*(v2+B*top))*B≤p*(B*(B*(top+1))):=by
     have:b+p*(v2+B*top)≤p*(B*(top+1)):=by
      have h5:p*(v2+1+B*top)≤p*(B*(top+1)):=aT _ (by rw [aZ B top,Nat.mul_one];omega);simp only [aZ,Nat.mul_one] at h5 ⊢;omega
     calc (b+p*(v2+B*top))*B≤p*(B*(top+1))*B:=bf _ this
      _=p*(B*(B*(top+1))):=by rw [dA,aL (B*(top+1)) B]
    have h4:p*(B*(B*un))≤a+p*(u2+B*(u1+B*un)):=by simp only [aZ];omega
    omega
   ·exact h
  have h2:(un*B+u1) / top<B+2:=by
   rw [dz htop];have h3:un*B≤top*B:=bf _ h1;rw [dL,aL B top];omega
  omega
theorem Nv (hB:1<B) (hu:u.length=k+3) (hv:v.length=k+2) (du:gT B u) {q r:Nat} (ht:0<v.getD (k+1) 0) (hlt:val B u<val B v*B)
  (g:Lp B (val B u) (val B v) (v.getD (k+1) 0) (u.getD (k+2) 0*B+u.getD (k+1) 0) q r) (hc:B≤q∨r*B+u.getD k 0<q*v.getD k 0) :
  1≤q∧Lp B (val B u) (val B v) (v.getD (k+1) 0) (u.getD (k+2) 0*B+u.getD (k+1) 0) (q - 1) (r+v.getD (k+1) 0):=by
 have eu:=wW (B:=B) hu;have ev:=qm (B:=B) hv;have lu:=iZ zo (du.take k);rw [show (u.take k).length=k by simp;omega] at lu;obtain ⟨g1,g2,g3⟩:=g;generalize u.getD k 0=u2 at *;generalize u.getD (k+1) 0=u1 at *;generalize u.getD (k+2) 0=un at *;generalize v.getD k 0=v2 at *;generalize v.getD (k+1) 0=top at *;generalize val B (u.take k)=a at *;generalize val B (v.take k)=b at *;have hp:0<B^k:=Nat.pow_pos zo;generalize B^k=p at *
 have hV:0<val B v:=by
  rw [ev];have:0<p*(v2+B*top):=iP hp (by have:=iP (by omega:0<B) ht;omega);omega
 have hq:val B u / val B v<q:=by
  rcases hc with hc|hc
  ·have:val B u / val B v<B:=by rw [dz hV,aL];exact hlt
   omega
  ·rw [dz hV,eu,ev]
   have h1:u2+B*(u1+B*un)+1≤q*(v2+B*top):=by
    have:B*(q*top+r)=B*(un*B+u1):=by rw [g1]
    rw [aZ B (q*top)] at this;rw [aZ q,dM q B top];rw [aZ B u1,← aL un B];rw [aZ B (un*B)] at this;rw [aL r B] at hc;omega
   have h2:=aT p h1;rw [aZ p,Nat.mul_one] at h2
   have h3:p*(q*(v2+B*top))≤q*(b+p*(v2+B*top)):=by
    rw [dM];exact aT _ zo
   omega
 have hq0:=Nat.zero_le (val B u / val B v);obtain ⟨q,rfl⟩:∃ q',q=q'+1:=⟨q - 1,by omega⟩;refine ⟨by omega,?_,by simp only [dS];omega,by omega⟩;rw [dL,iw] at g1;simp only [dS];omega
theorem Sq (hB:1<B) (hu:u.length=k+3) (hv:v.length=k+2) (dv:gT B v) {q r:Nat} (ht:0<v.getD (k+1) 0)
  (g:Lp B (val B u) (val B v) (v.getD (k+1) 0) (u.getD (k+2) 0*B+u.getD (k+1) 0) q r) (hc:q≤B) (hc2:q*v.getD k 0≤r*B+u.getD k 0):q≤val B u / val B v+1:=by
 have eu:=wW (B:=B) hu;have ev:=qm (B:=B) hv;have lv:=iZ zo (dv.take k);rw [show (v.take k).length=k by simp;omega] at lv;obtain ⟨g1,g2,g3⟩:=g;generalize u.getD k 0=u2 at *;generalize u.getD (k+1) 0=u1 at *;generalize u.getD (k+2) 0=un at *;generalize v.getD k 0=v2 at *;generalize v.getD (k+1) 0=top at *;generalize val B (u.take k)=a at *;generalize val B (v.take k)=b at *;have hp:0<B^k:=Nat.pow_pos zo;generalize B^k=p at *
 have hV:0<val B v:=by
  rw [ev];have:0<p*(v2+B*top):=iP hp (by have:=iP (by omega:0<B) ht;omega);omega
 have hq0:=Nat.zero_le (val B u / val B v)
 rcases aX q with h0|h0
 ·omega
 obtain ⟨q',rfl⟩:∃ q',q=q'+1:=⟨q - 1,by omega⟩;rw [Nat.add_le_add_iff_right,Nat.le_div_iff_mul_le hV]
 have h1:(q'+1)*(v2+B*top)≤u2+B*(u1+B*un):=by
  have:B*((q'+1)*top+r)=B*(un*B+u1):=by rw [g1]
  rw [aZ B ((q'+1)*top)] at this;rw [aZ (q'+1),dM (q'+1) B top];rw [aZ B u1,← aL un B];rw [aZ B (un*B)] at this;rw [aL r B] at hc2;omega
 have h2:=aT p h1;have h3:(q'+1)*b≤B*p:=fA hc zo
 have h4:B*p≤p*(v2+B*top):=by
  rw [aL B p];refine aT _ ?_;have:B*1≤B*top:=aT _ ht;omega
 have h5:(q'+1)*val B v≤val B u+val B v:=by
  rw [eu,ev,aZ,dM (q'+1) p];omega
 rw [dL,iw] at h5;omega
end
theorem U1 {B:Nat} {u v s:List Nat} {i q c b d c' b':Nat} (hiu:i<u.length) (hiv:i<v.length) (hs:s.length=i)
  (he:val B s+q*val B (v.take i)=val B (u.take i)+(b+c)*B^i) (h:d+b+(c+q*v.getD i 0)%B=u.getD i 0+b'*B) (hc:c'=(c+q*v.getD i 0) / B) :
  val B (s++[d])+q*val B (v.take (i+1))=val B (u.take (i+1))+(b'+c')*B^(i+1):=by
 rw [jk,dO B hiu,dO B hiv,hs,cZ];have h1:B*c'+(c+q*v.getD i 0)%B=c+q*v.getD i 0:=by rw [hc];exact dB _ _
 generalize (c+q*v.getD i 0)%B=m at *;have h2:d+b+(c+q*v.getD i 0)=u.getD i 0+(b'+c')*B:=by rw [dL,aL c' B];omega
 have h3:=congrArg (B^i* ·) h2;simp only [aZ] at h3 he ⊢;rw [show (b'+c')*(B^i*B)=B^i*((b'+c')*B) by rw [dM]];rw [show q*(B^i*v.getD i 0)=B^i*(q*v.getD i 0) by rw [dM]];rw [aL (b+c),aZ] at he;omega
theorem U3 {B:Nat} {u v s:List Nat} {n q b c un:Nat} (hB:1<B) (hv:v.length=n) (dv:gT B v) (hV:0<val B v)
  (he:val B s+q*val B v=val B (u.take n)+(b+c)*B^n) (hu:val B u=val B (u.take n)+B^n*un) (hc:b+c≤un) (hq1:val B u / val B v≤q) :
  q=val B u / val B v∧val B s=val B u%val B v:=by
 have h1:val B u=q*val B v+(val B s+B^n*(un - (b+c))):=by
  obtain ⟨t,rfl⟩:=Nat.le.dest hc;rw [hu,Nat.add_sub_cancel_left,aZ,aL (B^n) (b+c)];omega
 have h2:q*val B v≤val B u:=by omega
 have h3:q≤val B u / val B v:=(Nat.le_div_iff_mul_le hV).2 h2;have hq:q=val B u / val B v:=by omega
 refine ⟨hq,?_⟩;have h4:=dB (val B u) (val B v);rw [← hq,aL] at h4;have h5:val B s+B^n*(un - (b+c))=val B u%val B v:=by omega
 have h6:=fI (val B u) hV;have h7:=iZ zo dv;rw [hv] at h7
 rcases aX (un - (b+c)) with h8|h8
 ·rw [h8] at h5;omega
 ·have:B^n*1≤B^n*(un - (b+c)):=aT _ h8;omega
theorem U2 {B:Nat} {u v s:List Nat} {n q b c un:Nat} (hB:1<B) (hs:s.length=n) (ds:gT B s) (hv:v.length=n) (dv:gT B v) (hV:0<val B v)
  (he:val B s+q*val B v=val B (u.take n)+(b+c)*B^n) (hu:val B u=val B (u.take n)+B^n*un) (hc:un<b+c) (hq2:q≤val B u / val B v+1) :
  q=val B u / val B v+1∧val B s+val B v=val B u%val B v+B^n:=by
 have hp:0<B^n:=Nat.pow_pos zo;have h7:=iZ zo dv;rw [hv] at h7;have h8:=iZ zo ds;rw [hs] at h8;have h4:=dB (val B u) (val B v);have h6:=fI (val B u) hV;obtain ⟨t,ht⟩:=Nat.le.dest hc
 have h1:val B u+B^n*(t+1)=q*val B v+val B s:=by
  rw [hu,kI,← aZ,show un+(t+1)=b+c by omega,aL (B^n)];omega
 have hpt:B^n*(t+1)=B^n*t+B^n:=by rw [aZ,Nat.mul_one]
 have hq3:val B u / val B v+1≤q:=by
  rcases aR (val B u / val B v) q with h|h
  ·exact h
  ·exfalso
   have:q*val B v≤val B u / val B v*val B v:=bf _ h;rw [aL (val B u / val B v)] at this;omega
 have hq:q=val B u / val B v+1:=by omega
 refine ⟨hq,?_⟩;rw [hq,dL,iw,aL (val B u / val B v)] at h1;have h9:val B u%val B v+B^n*(t+1)=val B v+val B s:=by omega
 rcases aX t with h|h
 ·rw [h,dJ,Nat.mul_one] at h9;omega
 ·have:B^n*1≤B^n*t:=aT _ h;omega
theorem JA {B t:Nat} (hB:B=1000000000) (ht:0<t) (htB:t<B):B≤2*(t*(B / (t+1))):=by
 have hd:=dB B (t+1);have hm:=fI B (Nat.succ_pos t);have hs:0<B / (t+1):=Nat.div_pos zo zo;generalize B / (t+1)=s at *;generalize B%(t+1)=m at *;obtain ⟨s',rfl⟩:∃ s',s=s'+1:=⟨s - 1,by omega⟩;rw [dL t 1,iw] at hd;have h1:t*(s'+1)=t*s'+t:=by rw [aZ,Nat.mul_one]
 have h2:m≤t:=by omega
 rcases aX s' with h|h
 ·subst h;omega
 ·obtain ⟨t',rfl⟩:∃ t',t=t'+1:=⟨t - 1,by omega⟩;obtain ⟨r,rfl⟩:∃ r,s'=r+1:=⟨s' - 1,by omega⟩;have h3:(t'+1)*(r+1+1)=t'*r+2*t'+r+2:=by simp only [dL,aZ];omega
  have h4:0≤t'*r:=Nat.zero_le _;rw [h3] at hd ⊢
  rcases aX t' with h5|h5
  ·subst h5;omega
  ·have h6:r≤t'*r:=by have:=bf r h5;omega
   omega
theorem Fj (B:Nat) {l:List Nat} {t:Nat} (ht:t≤l.length):val B l=val B (l.take t)+B^t*val B (l.drop t):=by
 conv=>lhs;rw [← kL t l,val_append]
 rw [List.length_take,kD ht]
theorem JB {b k:Nat} (hs:sz 1000000000 b=k+2) :
  let t:=(d9 1000000000 b).getD (k+1) 0
  let s:=1000000000 / (t+1)
  0<t∧t<1000000000∧0<s∧s≤500000000∧sz 1000000000 (b*s)=k+2∧1000000000≤2*(d9 1000000000 (b*s)).getD (k+1) 0:=by
 intro t s;have hB:1<1000000000:=by omega
 have hl:(d9 1000000000 b).length=k+2:=hs;have ht0:0<t:=Nat.pos_of_ne_zero (oH hB b (k+1) hl);have htB:t<1000000000:=(dw hB b).getD zo (k+1);have hs0:0<s:=Nat.div_pos zo zo
 have hs5:s≤500000000:=by
  have:s≤1000000000 / 2:=Nat.div_le_div_left zo zo;omega
 have hsd:s*(t+1)≤1000000000:=Nat.div_mul_le_self _ _;have hp:0<1000000000^(k+1):=Nat.pow_pos zo
 have hb:b=val 1000000000 ((d9 1000000000 b).take (k+1))+1000000000^(k+1)*t:=by
  have h1:=dO 1000000000 (l:=d9 1000000000 b) (k:=k+1) zo;rw [show k+1+1=(d9 1000000000 b).length by omega,fP,bY hB] at h1;exact h1
 have hlow:val 1000000000 ((d9 1000000000 b).take (k+1))<1000000000^(k+1):=by
  have:=iZ zo ((dw hB b).take (k+1))
  rwa [show ((d9 1000000000 b).take (k+1)).length=k+1 by simp;omega] at this
 have h1:b*s<1000000000^(k+2):=by
  have h2:b<1000000000^(k+1)*(t+1):=by rw [aZ,Nat.mul_one];omega
  have h3:b*s<1000000000^(k+1)*(t+1)*s:=Nat.mul_lt_mul_of_pos_right h2 hs0;have h4:1000000000^(k+1)*((t+1)*s)≤1000000000^(k+1)*1000000000:=aT _ (by rw [aL];exact hsd);rw [dA] at h3;rw [cZ 1000000000 (k+1)];omega
 have h2:sz 1000000000 (b*s)=k+2:=by
  have h3:=dH hB _ _ h1;have h4:sz 1000000000 b≤sz 1000000000 (b*s):=fB hB (Nat.le_mul_of_pos_right _ hs0);omega
 refine ⟨ht0,htB,hs0,hs5,h2,?_⟩;have hl2:(d9 1000000000 (b*s)).length=k+2:=h2
 have hb2:b*s=val 1000000000 ((d9 1000000000 (b*s)).take (k+1))+1000000000^(k+1)*(d9 1000000000 (b*s)).getD (k+1) 0:=by
  have h1:=dO 1000000000 (l:=d9 1000000000 (b*s)) (k:=k+1) zo;rw [show k+1+1=(d9 1000000000 (b*s)).length by omega,fP,bY hB] at h1;exact h1
 have aQ2:val 1000000000 ((d9 1000000000 (b*s)).take (k+1))<1000000000^(k+1):=by
  have:=iZ zo ((dw hB (b*s)).take (k+1))
  rwa [show ((d9 1000000000 (b*s)).take (k+1)).length=k+1 by simp;omega] at this
 have hge:=JA (B:=1000000000) rfl ht0 htB;generalize (d9 1000000000 (b*s)).getD (k+1) 0=t2 at *
 have h5:t*s≤t2:=by
  rcases aR t2 (t*s) with h|h
  ·exfalso
   have h6:1000000000^(k+1)*(t2+1)≤1000000000^(k+1)*(t*s):=aT _ h;rw [aZ,Nat.mul_one,← dA] at h6;have h7:1000000000^(k+1)*t*s≤b*s:=bf _ zo;omega
  ·exact h
 have h8:1000000000≤2*(t*s):=hge;omega
theorem dividend {a b s k:Nat} (hs0:0<s) (hs1:s<1000000000) (hb:sz 1000000000 b=k+2) (hab:k+2≤sz 1000000000 a) :
  let us:=d9 1000000000 (a*s)++bW (sz 1000000000 a+1 - sz 1000000000 (a*s)) 0
  sz 1000000000 (a*s)≤sz 1000000000 a+1∧us.length=sz 1000000000 a+1∧gT 1000000000 us∧val 1000000000 us=a*s∧val 1000000000 (us.drop (sz 1000000000 a - (k+2)+1))<b*s:=by
 intro us;have hB:1<1000000000:=by omega
 have h1:sz 1000000000 (a*s)≤sz 1000000000 a+1:=by
  have:=mR hB a s;have h2:=dH hB 1 s zo;omega
 have h2:us.length=sz 1000000000 a+1:=by simp only [us,List.length_append,List.length_replicate];unfold sz at*; omega
 have h3:val 1000000000 us=a*s:=by simp only [us];rw [val_append,vN,bY hB];simp
 refine ⟨h1,h2,(dw hB _).append fun x hx=>by rw [List.eq_of_mem_replicate hx];omega,h3,?_⟩;have h4:=Fj 1000000000 (l:=us) (t:=sz 1000000000 a - (k+2)+1) zo;rw [h3] at h4;have h5:=Ic hB (n:=b) (k:=k+1) zo;have h6:=jE hB a;have h7:1000000000^sz 1000000000 a=1000000000^(k+1)*1000000000^(sz 1000000000 a - (k+2)+1):=by rw [← gG];congr 1;omega
 generalize 1000000000^(sz 1000000000 a - (k+2)+1)=p at *
 have h8:a<b*p:=by
  have:1000000000^(k+1)*p≤b*p:=bf _ h5;omega
 rcases aR (val 1000000000 (us.drop (sz 1000000000 a - (k+2)+1))) (b*s) with h|h
 ·exact h
 ·exfalso
  have h9:p*(b*s)≤a*s:=by have:=aT p h;omega
  have h10:a*s<b*p*s:=Nat.mul_lt_mul_of_pos_right h8 hs0;rw [show p*(b*s)=b*p*s by rw [← dA,aL p b]] at h9;omega
theorem R8 {B:Nat} {us s s' qs:List Nat} {j V q:Nat} (hj:j<us.length) (he:val B (us.drop (j+1))=V*val B qs+val B s)
  (hq:q=val B (us.getD j 0::s) / V) (hs:val B s'=val B (us.getD j 0::s)%V):val B (us.drop j)=V*val B (q::qs)+val B s':=by
 rw [jZ hj];have h:=dB (val B (us.getD j 0::s)) V;rw [← hq,← hs] at h;simp only [val] at h ⊢;rw [he,aZ V,aZ B,dM V B];omega
theorem Qq {B x V:Nat} {s:List Nat} (hx:x<B) (hs:val B s<V):val B (x::s)<V*B:=by
 have h:B*(val B s+1)≤B*V:=aT _ hs;rw [aZ,Nat.mul_one,aL B V] at h;simp only [val];omega
theorem VP {a b s q r:Nat} (hs:0<s) (he:a*s=b*s*q+r) (hr:r<b*s):q=a / b∧r / s=a%b:=by
 have h1:a*s / (b*s)=a / b:=Nat.mul_div_mul_right _ _ hs;have h2:a*s%(b*s)=a%b*s:=Nat.mul_mod_mul_right _ _ _;have hp:0<b*s:=by omega
 rw [he,Nat.mul_add_div hp,fQ hr,fU] at h1;rw [he,Nat.mul_add_mod,gU hr] at h2;exact ⟨h1,by rw [h2,Nat.mul_div_cancel _ hs]⟩
end Go.Num
namespace Go.Fx
open Go Go.RowKit Go.SW Go.Mem
def Kept (l:List TypeId) (w w':World):Prop:=∀ b cs T,T∉l→aB w b cs T→aB w' b cs T
theorem Row.keep {l:List TypeId} {w w':World} {T:TypeId} {v:Value} {xs:List Value} (h:Row w T v xs) (k:Kept l w w') (hT:T∉l):Row w' T v xs:=by
 obtain ⟨a,cap,h1,h2,h3,h4,h5⟩:=h;refine ⟨a,cap,h1,h2,h3,h4,fun ad had=>?_⟩;obtain ⟨h6,arr,h7,h8⟩:=h5 ad had;exact ⟨h6,arr,k _ _ _ hT h7,h8⟩
theorem VE {l:List TypeId} {T:TypeId} (h:l.contains T=false):T∉l:=by simpa using h
theorem bZ.keep {l:List TypeId} {w w':World} {v:Value} {n:Nat} (h:bZ w v n) (k:Kept l w w') (hT:l.contains 61=false:=by kernel_rfl):bZ w' v n:=Row.keep h k (VE hT)
def hold (L:Mm):List Nat:=(L.filter (·.o)).map (·.b)
def tys (L:Mm):List TypeId:=(L.filter (·.o)).map (·.T)
theorem VH {L:Mm} {j:Nat} {x:Bx} (h:L[j]? =some x) (ho:x.o=true):x.b∈hold L:=List.mem_map.2 ⟨x,List.mem_filter.2 ⟨List.mem_of_getElem? h,ho⟩,rfl⟩
structure Fa (w w0:World) (H:List Nat):Prop where
 below:Below w.heap.size w w0
 old:∀ b∈H,w.heap.size≤b
theorem Fa.nil (w:World):Fa w w []:=⟨Below.refl _ _,fun _ h=>by cases h⟩
section
variable {P:Program} {n:Nat} {R:Post} {w0 w1:World} {H0:List Nat} {p:Pos} {S:Sl} {L L0:Mm}
theorem Fa.at {w W:World} (B:Fa w w0 H0) (M:Mem w0 H0 L W):Below w.heap.size w W:=M.vH.below B.below B.old
theorem Fa.next {w:World} (B:Fa w w0 H0) (M:Mem w0 H0 L w1):Fa w w1 (hold L):=⟨B.at M,fun b hb=>by
 obtain ⟨x,hx,rfl⟩:=List.mem_map.1 hb;obtain ⟨hx,ho⟩:=List.mem_filter.1 hx;obtain ⟨j,hj⟩:=List.getElem?_of_mem hx
 rcases M.own j x hj ho with h|h
 ·exact B.old _ h
 ·exact ay B.below.size h⟩
theorem Mem.aB5 {w:World} (h:Mem w0 H0 L w):Mem w (hold L) L w:=⟨h.all,h.XZ,fun _ _ hx ho=>.inl (VH hx ho),nW.refl w⟩
theorem Mem.keep (M1:Mem w0 H0 L0 w1) {W:World} (M:Mem w1 (hold L0) L W):Kept (tys L0) w1 W:=fun b cs T hT hX=>by
 by_cases hb:b∈hold L0
 ·obtain ⟨x,hx,rfl⟩:=List.mem_map.1 hb;have hx2:=hx;obtain ⟨hx,ho⟩:=List.mem_filter.1 hx;obtain ⟨j,hj⟩:=List.getElem?_of_mem hx;have h2:=M1.all j x hj;unfold aB at h2 hX;rw [h2] at hX;cases hX
  exact absurd (List.mem_map.2 ⟨x,hx2,rfl⟩) hT
 ·exact M.vH.box hX hb
def aD6 (P:Program) (n:Nat) (R:Post) (w0:World) (H0:List Nat) (p:Pos) (d:Nat) (S:Sl) (L:Mm) (w w1:World):Ending→Prop
 | ah v=>Below w.heap.size w w1∧(Mem w0 H0 L w1→G P n R w1 (hold L) p.past ((d,v)::S) L)
 | _=>False
theorem je (hs:List Nat) (d:Nat) (St:Sl) (U:List (Nat × Array Value)) {f:FuncId} {args:Array Value} {E:World→Ending→World→Prop} (hC:∀ w,Mem w0 H0 (upd L U) w→Calls P f args w (E w))
  (hc:∀ w w1 e,Mem w0 H0 (upd L U) w→E w e w1→aD6 P n R w0 H0 (tr 4000 hs p).2 d (St++S) (upd L U) w w1 e)
  (h:GU P n w0 (tr 4000 hs p).1 S L St (upd L U):=by intro _;kernel_rfl) (hx:∀ w,rG P n w (zB P n w0 (tr 4000 hs p).1 S L) (tr 4000 hs p).2=some (d,f,args,w):=by intro _;kernel_rfl) (hal:(tr 4000 hs p).2.past.FC=true:=by kernel_rfl):G P n R w0 H0 p S L:=by
 refine Zm hs St _ h ?_;have hsub:=h.sub;have hh:=sD (hx w0);generalize zB P n w0 (tr 4000 hs p).1 S L=F at hx hsub ⊢;generalize (tr 4000 hs p).2=q at hc hx hal hh;generalize upd L U=L at hC hc;generalize St++S=S at hc hsub;obtain ⟨ops,o,hn,hf,hw,hd,hlt, -⟩:=mD (h:=hx w0);refine place hn hf hw (Y:=fun N H w a a' w1=>∃ v,a'=a.put (some d) v∧Below w.heap.size w w1∧Mem w0 H0 L w1∧G P n R w1 (hold L) q.past ((d,v)::F) L) (fun w N H hM hok a ha K hK k=>?_) fun w N H hM hok a a' w' ha hy=>?_
 ·obtain ⟨ops',o',hn', -, -, -, -, hr⟩:=mD (h:=hx w);rw [hn] at hn';cases hn'
  unfold Oper.wp;rw [ha.exec hf,hr];simp only [Oper.upon];refine (hC w hM).mono fun e w' he=>?_;have:=hc w w' e hM he;cases e with
  | returned v =>
   rw [hd];exact hK _ _ ⟨v,rfl,this.1,hM.later this.1,(this.2 (hM.later this.1)).of (oI hsub d v) hh⟩
  | _=>exact this.elim
 ·obtain ⟨v,rfl,h1,h2,h3⟩:=hy;refine ⟨fun _ _ _ _ _ _=>.of h1,_,ha.put hlt v,h3.out w' N H h2.aB5 ?_⟩;cases q with
  | uO ops Hj is A k =>
   cases is with
   | nil=>cases hn
   | cons x is =>
    obtain ⟨k1,k2,k3,k4⟩:=hok;refine ⟨fun hx=>?_,fun hx=>?_,k3,k4⟩<;>simp only [Pos.past,Pos.FC,hx] at hal<;>cases hal
  | reg ops is k=>cases is<;>exact trivial
  | _=>exact trivial
end
end Go.Fx
namespace Go.Proofs.aW
open Go Go.RowKit Go.SW Go.Num Go.Mem Go.Proofs
def dZ (x:(Int × Int) × Int):Value:=aD #[au #[Z I x.1.1,Z I x.1.2],Z I x.2]
def gM (lo hi:Int):Bool:=decide (-1000000000000000000≤lo)&&(decide (lo≤hi)&&decide (hi≤1000000000000000000))
theorem nN (lo hi:Int) (w:World):Calls Tryz.prog 116 #[Z I lo,Z I hi] w (fun e w'=>e= ah (ak (gM lo hi))∧Below w.heap.size w w'):=by
 unfold gM;cases h1:decide (-1000000000000000000≤lo)<;>cases h2:decide (lo≤hi)<;>cases h3:decide (hi≤1000000000000000000)
 all_goals
  go_enter Tryz.func116,Tryz.ntmps116
  go_wp2_with fail
  go_ret
  exact ⟨rfl,Below.refl _ _⟩
theorem iT (lo hi:Int) (w:World):Calls Tryz.prog 151 #[au #[Z I lo,Z I hi]] w (fun e w'=>e= ah (Z I (if gM lo hi then 0 else 30))∧Below w.heap.size w w'):=by
 have H:=zh (fun W=>nN lo hi W);generalize gM lo hi=b at *;cases b
 all_goals
  go_enter Tryz.func151,Tryz.ntmps151
  go_wp2_with fail
  refine (H.out _).mono ?_;rintro e w1 ⟨rfl,hb1⟩;have hw:=Bt (show Below w.heap.size w (w.alloc (.cells #[Z I lo,Z I hi] 40)) from aJ) hb1;go_wp2_with fail
  go_ret
  exact ⟨rfl,hw⟩
theorem mE (lo hi:Int) (w:World):Calls Tryz.prog 183 #[Z I lo,Z I hi] w (fun e w'=>e= ah (if gM lo hi then aD #[au #[Z I lo,Z I hi],Z I 0] else aD #[au #[Z I 0,Z I 0],Z I 30])∧Below w.heap.size w w'):=by
 have H:=zh (fun W=>nN lo hi W);generalize gM lo hi=b at *;cases b
 all_goals
  go_enter Tryz.func183,Tryz.ntmps183
  go_wp2_with fail
  refine (H.out _).mono ?_;rintro e w1 ⟨rfl,hb1⟩;have hx:=aB.later (aB.new w #[Z I 0,Z I 0] 40) hb1;have cx:=hx.cell;have fx:=hx.free;have lx:=hx.lt;have hw:=Bt (show Below w.heap.size w (w.alloc (.cells #[Z I 0,Z I 0] 40)) from aJ) hb1;go_wp2_with fail
  refine bK rfl rfl bI Tryz.underlying40 rfl zk ?_;exact ⟨rfl,aJ⟩
end Go.Proofs.aW
namespace Go.SW
open Go Go.RowKit
variable {P:Program} {ops:Array Oper} {Q:Exit→Act→World→Prop} {o:Oper} {i:Nat} {is:List (K × Nat)} {a:Act} {w:World} {N:Nat} {A:List Nat}
theorem Cg (ho:ops[i]? =some o) (hw:Region.wanted o (yielded ops a.tmps)=true) (h:∀ J:Act→Prop,(∀ a,walk P ops Q N is A a w→J a)→∃ v,(∀ w',(execOp a.eval o).run P w'= .ok (.value v) w')∧J (a.put o.dst v)):walk P ops Q N ((.pure,i)::is) A a w:=by
 refine Qt ho fun J hJ=>?_;rw [if_pos hw];exact h J hJ
theorem Ch {T:TypeId} {x:Operand} {p:Addr} (ho:ops[i]? =some o) (hw:Region.wanted o (yielded ops a.tmps)=true) (hop:o.op= .load T x) (hx:a.eval x= aA (some p))
  (h:∀ J:Value→Prop,(∀ v,walk P ops Q N is A (a.put o.dst v) w→J v)→(w.cell? p).isSome=true∧∃ v,(loadVar T p).run P w= .ok v w∧J v):walk P ops Q N ((.read,i)::is) A a w:=by
 unfold walk;simp only [ho,hw,if_true];obtain ⟨h1,v,h2,h3⟩:=h (fun v=>walk P ops Q N is A (a.put o.dst v) w) fun _ h=>h;refine ⟨v,fun w' hb=>?_,h3⟩;simp only [execOp,hop,hx,Instr.loadAt,Instr.sureAddr,Sem.run_bind,Sem.run_pure,Result.andThen_ok,wP hb h1 h2]
theorem Qu (ho:ops[i]? =some o) (hw:Region.wanted o (yielded ops a.tmps)=true) (h:∀ w',Below w.heap.size w w'→∀ J:Act→World→Prop,(∀ a' w'',Below w'.heap.size w' w''→walk P ops Q N is A a' w''→J a' w'')→o.wp P a w' J Q):walk P ops Q N ((.ext,i)::is) A a w:=by
 unfold walk;simp only [ho,hw,if_true];exact fun w' hb=>h w' hb _ fun a' w'' h1 h2=>⟨h1,h2⟩
def K.soft:K→Bool
 | .pure=>true
 | .read=>true
 | .ext=>true
 | _=>false
theorem vM {k:K} (hk:k.soft=true) (ho:ops[i]? =some o) (hw:Region.wanted o (yielded ops a.tmps)=false) (h:∀ J:Act→Prop,(∀ a,walk P ops Q N is A a w→J a)→J (a.put o.dst undef)):walk P ops Q N ((k,i)::is) A a w:=by
 have h':=h (fun a=>walk P ops Q N is A a w) fun _ h=>h;cases k with
 | pure=>unfold walk;simp only [ho,hw];exact h'
 | read=>unfold walk;simp only [ho,hw];exact h'
 | ext=>unfold walk;simp only [ho,hw];exact h'
 | alloc _ _=>cases hk
 | fin=>cases hk
end Go.SW
namespace Go.gB
open Go Go.RowKit Go.Num Go.Mem
def zG (w:World) (_T:TypeId) (v:Value) (l:List (Int × Int)):Prop :=
 ∃ a cap,v= aj a l.length cap∧l.length≤cap∧cap≤9223372036854775807∧∀ k (_:k<l.length),∃ b off,a=some ⟨b,off,none⟩∧b<w.heap.size∧w.cell? ⟨b,off+k*2,none⟩=some (.int .i64 l[k].1)∧w.cell? ⟨b,off+k*2+1,none⟩=some (.int .i64 l[k].2)
theorem zG.later {w w':World} {T:TypeId} {v:Value} {l:List (Int × Int)} (h:zG w T v l) (hb:Below w.heap.size w w'):zG w' T v l:=by
 obtain ⟨a,cap,h1,h2,h3,h4⟩:=h;refine ⟨a,cap,h1,h2,h3,fun k hk=>?_⟩;obtain ⟨b,off,h5,h6,h7,h8⟩:=h4 k hk;exact ⟨b,off,h5,aI h6 hb.size,(hb.cell (p:=⟨b,off+k*2,none⟩) h6).trans h7,(hb.cell (p:=⟨b,off+k*2+1,none⟩) h6).trans h8⟩
theorem zG.read {w:World} {T:TypeId} {v:Value} {l:List (Int × Int)} (h:zG w T v l) :
  ∃ a cap,v= aj a l.length cap∧l.length≤cap∧cap≤9223372036854775807∧∀ k (_:k<l.length),∃ b off,a=some ⟨b,off,none⟩∧b<w.heap.size∧w.cell? ⟨b,off+k*2,none⟩=some (.int .i64 l[k].1)∧w.cell? ⟨b,off+k*2+1,none⟩=some (.int .i64 l[k].2):=h
theorem zG.xD {w:World} {T:TypeId} {b n c:Nat} {arr:Array Value} {l:List (Int × Int)} (h:aB w b arr T) (hn:l.length=n) (hc:n≤c) (hm:c≤9223372036854775807) (k:∀ i (h:i<l.length),arr[i*2]? =some (.int .i64 l[i].1)∧arr[i*2+1]? =some (.int .i64 l[i].2)):zG w T (aj (some ⟨b,0,none⟩) n c) l:=by
 subst hn;refine ⟨_,_,rfl,hc,hm,fun i hi=>⟨b,0,rfl,h.lt,?_,?_⟩⟩
 ·rw [h.cell,dJ];exact (k i hi).1
 ·rw [h.cell,dJ];exact (k i hi).2
def okB (l:List (Int × Int)):Bool:=l.all fun b=>Go.Proofs.aW.gM b.1 b.2
theorem zG.one {w:World} {T:TypeId} {b:Nat} {lo hi:Int} (h:aB w b #[Z I lo,Z I hi] T):zG w T (aj (some ⟨b,0,none⟩) 1 1) [(lo,hi)] :=
 zG.xD h rfl (aC _) zo fun i hi=>by
  have:i<1:=hi;obtain rfl:i=0:=by omega
  exact ⟨rfl,rfl⟩
theorem zG.two {w:World} {T:TypeId} {b:Nat} {x1 x2 x3 x4:Int} (h:aB w b #[Z I x1,Z I x2,Z I x3,Z I x4] T):zG w T (aj (some ⟨b,0,none⟩) 2 2) [(x1,x2),(x3,x4)] :=
 zG.xD h rfl (aC _) zo fun i hi=>by
  have:i<2:=hi;obtain rfl|rfl:i=0∨i=1:=by omega
  ·exact ⟨rfl,rfl⟩
  ·exact ⟨rfl,rfl⟩
end Go.gB
namespace Go.Proofs.aW
open Go Go.RowKit Go.SW Go.Num Go.Mem Go.Proofs Go.gB
def gN (lo hi:Int):(Int × Int) × Int:=if gM lo hi then ((lo,hi),0) else ((0,0),6)
theorem mo (lo hi:Int) (w:World):Calls Tryz.prog 96 #[Z I lo,Z I hi] w (fun e w'=>e= ah (dZ (gN lo hi))∧Below w.heap.size w w'):=by
 have H:=zh (fun W=>nN lo hi W);unfold gN;generalize gM lo hi=b at *;unfold dZ;cases b
 all_goals
  go_enter Tryz.func96,Tryz.ntmps96
  go_wp2_with fail
  refine (H.out _).mono ?_;rintro e w1 ⟨rfl,hb1⟩;have hx:=aB.later (aB.new w #[Z I 0,Z I 0] 40) hb1;have cx:=hx.cell;have fx:=hx.free;have lx:=hx.lt;have hw:=Bt (show Below w.heap.size w (w.alloc (.cells #[Z I 0,Z I 0] 40)) from aJ) hb1;go_wp2_with fail
  refine bK rfl rfl bI Tryz.underlying40 rfl zk ?_;exact ⟨rfl,aJ⟩
theorem ap7 (b c:Nat) (zs:List Int) (z0:Int) (h0:zs[0]? =some z0) (arr:Array Value) (T:TypeId) (w:World) (hx:aB w b arr T) (hc:∀ j (h:j<zs.length),arr[j]? =some (.int .i64 zs[j])) (hl:zs.length≤9223372036854775807) :
  Calls Tryz.prog 241 #[aj (some ⟨b,0,none⟩) zs.length c] w (fun e w'=>e= ah (Z I (zs.foldl max z0))∧Below w.heap.size w w'):=by
 have hn:0<zs.length:=by
  rcases aX zs.length with h|h
  ·rw [List.getElem?_eq_none zo] at h0;cases h0
  ·exact h
 have hz0:zs[0]=z0:=by
  rw [List.getElem?_eq_getElem hn] at h0;exact Option.some.inj h0
 have h00:w.cell? ⟨b,0,none⟩=some (.int .i64 z0):=by
  rw [hx.cell,hc 0 hn,hz0]
 have lb:=hx.lt;have g1:decide ((zs.length:Int)<1)=false:=by simp;omega
 have HX:=zh hx;have HC:=zh hc;clear hx hc;go_enter Tryz.func241,Tryz.ntmps241
 go_wp2_with fail
 go_loopw [3,4] (fun m i wr=>∃ k:Nat,0<k∧k≤zs.length∧i= Z I (k:Int)∧m= Z I ((zs.take k).foldl max z0)∧Below w.heap.size w wr) (fun _ i _=>zs.length - (intOf i).toNat)
 case atStart =>
  refine ⟨1,by omega,hn,rfl,?_,Below.refl _ _⟩;cases zs with
  | nil=>simp at hn
  | cons x t =>
   simp only [List.getElem_cons_zero] at hz0;subst hz0;simp
 case round =>
  obtain ⟨k,hk0,hk,rfl,rfl,hb⟩:=hrel
  by_cases hlt:k<zs.length
  ·have hcell:=((HX.out.later hb).cell k).trans (HC.out k hlt)
   have hstep:(zs.take (k+1)).foldl max z0=max ((zs.take k).foldl max z0) zs[k]:=by
    rw [fV hlt,List.foldl_append];rfl
   have HS:=zh hstep;clear hstep;generalize zs[k]=zk at *;generalize (zs.take k).foldl max z0=mk at *;go_wp2_with fail
   go_roundw
   case rel=>exact ⟨k+1,by omega,by omega,by go_num,by rw [HS.out]<;>go_num,hb⟩
   case measure=>exact zM
  ·obtain rfl:k=zs.length:=by omega
   rw [fP];go_wp2_with fail
   go_ret
   exact ⟨rfl,hb⟩
theorem uZ (b c:Nat) (zs:List Int) (z0:Int) (h0:zs[0]? =some z0) (arr:Array Value) (T:TypeId) (w:World) (hx:aB w b arr T) (hc:∀ j (h:j<zs.length),arr[j]? =some (.int .i64 zs[j])) (hl:zs.length≤9223372036854775807) :
  Calls Tryz.prog 175 #[aj (some ⟨b,0,none⟩) zs.length c] w (fun e w'=>e= ah (Z I (zs.foldl max z0))∧Below w.heap.size w w'):=by
 have H:=zh (ap7 b c zs z0 h0 arr T w hx hc hl);clear h0 hx hc hl;generalize zs.length=n at *;generalize zs.foldl max z0=z at *;go_enter Tryz.func175,Tryz.ntmps175
 go_wp2_with fail
 refine H.out.mono ?_;rintro e w1 ⟨rfl,hb1⟩;go_wp2_with fail
 go_ret
 exact ⟨rfl,hb1⟩
theorem mY (F:FuncId) (free:Array Value) (z:(Int × Int) × Int) (T:TypeId) (v:Value) (l:List (Int × Int)) (w:World) (hv:zG w T v l)
  (h1:okB l=true→∀ W,Below w.heap.size w W→Calls Tryz.prog F free W (fun e w'=>e= ah (dZ z)∧Below W.heap.size W w'))
  (hen:∀ args W,(callFunc F args).run Tryz.prog W= .ok (.enter F args) W) :
  Calls Tryz.prog 97 #[.func (.func F) #[] free,v] w (fun e w'=>e= ah (dZ (if okB l then z else ((0,0),30)))∧Below w.heap.size w w'):=by
 obtain ⟨a,cap,rfl,hc1,hc2,hread⟩:=hv.read;have HR:=zh hread;have H1:=zh h1;clear h1 hv hread;obtain ⟨z',EZ⟩:∃ y,(if okB l then z else ((0,0),30))=y:=⟨_,rfl⟩;rw [EZ];have HZ:=zh EZ;clear EZ;obtain ⟨⟨z1,z2⟩,z3⟩:=z';unfold dZ at *;simp only at *;go_enter Tryz.func97,Tryz.ntmps97
 go_wp2_with fail
 obtain ⟨wx,EW,hz,R⟩:=zD w #[Z I 0,Z I 0] 40;rw [EW];clear EW;have HB:=zh hz;clear hz;obtain ⟨bx,eb⟩:∃ y,w.heap.size=y:=⟨_,rfl⟩;rw [eb] at R ⊢;go_wp2_with fail
 go_loopw [11] (fun iv wr=>∃ k:Nat,iv= Z I (k:Int)∧k≤l.length∧Hid (∀ j (h:j<l.length),j<k→gM l[j].1 l[j].2=true)∧Below wx.heap.size wx wr) (fun iv _=>l.length - (intOf iv).toNat)
 case atStart=>exact ⟨0,rfl,by omega,zh (fun j _ h=>by omega),Below.refl _ _⟩
 case round =>
  obtain ⟨k,rfl,hk,HK,hb⟩:=hrel
  rcases aR k l.length with hlt|hge
  ·obtain ⟨b,off,rfl,hbl,hx1,hx2⟩:=HR.out k hlt;have hB:=Bt HB.out hb;have hc1:=(hB.cell (p:=⟨b,off+k*2,none⟩) hbl).trans hx1;have hc2:=(hB.cell (p:=⟨b,off+k*2+1,none⟩) hbl).trans hx2;clear hx1 hx2;have HV:=zh (fun W=>nN l[k].1 l[k].2 W);obtain ⟨bk,EK⟩:∃ y,gM l[k].1 l[k].2=y:=⟨_,rfl⟩;have HE:=zh EK;rw [EK] at HV;clear EK;generalize hlk:l[k]=lk at *;have HLK:=zh hlk;clear hlk;obtain ⟨y1,y2⟩:=lk;simp only at *;replace R:=R.bl hb;go_wp2_with fail
   obtain ⟨wy,EW,hz,Y⟩:=zD wr #[Z I y1,Z I y2] 40;rw [EW];clear EW;refine (HV.out _).mono ?_;rintro e w1 ⟨rfl,hb1⟩;have hw:=Bt hb (Bt hz hb1);replace R:=(R.bl hz).bl hb1;clear hc1 hc2 hz hb1 Y HV;cases bk
   ·have hx:=R.out;have cx:=hx.cell;have fx:=hx.free;have lx:=hx.lt;go_wp2_with fail
    refine bK rfl rfl bI Tryz.underlying40 rfl zk ?_
    have hno:okB l=false:=by
     unfold okB;rw [List.all_eq_false];refine ⟨l[k],fq _,?_⟩;rw [HLK.out,HE.out];simp
    have he:=HZ.out;rw [hno] at he;cases he
    have hB2:=Bt HB.out hw;exact ⟨rfl,aJ⟩
   ·go_wp2_with fail
    go_roundw
    case rel =>
     refine ⟨k+1,by go_num,by omega,zh fun j hj hjk=>?_,hw⟩
     rcases aR j k with h|h
     ·exact HK.out j hj h
     ·obtain rfl:j=k:=by omega
      rw [HLK.out,HE.out]
    case measure=>exact zM
  ·obtain rfl:k=l.length:=by omega
   have hyes:okB l=true:=by
    unfold okB;rw [eZ];intro x hx;obtain ⟨j,hj,rfl⟩:=List.getElem_of_mem hx;exact HK.out j hj hj
   have he:=HZ.out;rw [if_pos hyes] at he;subst he;have HH:=zh (H1.out hyes);simp only at HH;clear hyes H1;replace R:=R.bl hb;have hB:=Bt HB.out hb;go_wp2_with fail
   refine (HH.out _ hB).mono ?_;rintro e w1 ⟨rfl,hb1⟩;have hw:=Bt hB hb1;replace R:=R.bl hb1;have hx:=R.out;have cx:=hx.cell;have fx:=hx.free;have lx:=hx.lt;clear hb1;go_wp2_with fail
   refine bK rfl rfl bI Tryz.underlying40 rfl zk ?_;exact ⟨rfl,aJ⟩
def Xp (lo hi:Int):(Int × Int) × Int:=if gM lo hi then gN (max (max lo (-hi)) 0) (max (-lo) hi) else ((0,0),30)
theorem ab4 (lo hi:Int) (h0:gM lo hi=true) (b:Nat) (w:World) (h:aB w b #[Z I lo,Z I hi] 40):Calls Tryz.prog 174 #[aA (some ⟨b,0,none⟩)] w (fun e w'=>e= ah (dZ (gN (max (max lo (-hi)) 0) (max (-lo) hi)))∧Below w.heap.size w w'):=by
 obtain ⟨hk1,hk2,hk3⟩: -1000000000000000000≤lo∧lo≤hi∧hi≤1000000000000000000:=by simpa [gM] using h0
 have H:=zh (fun W=>mo (max (max lo (-hi)) 0) (max (-lo) hi) W)
 have G1:Hid (∀ W c,aB W c #[Z I lo,Z I (-hi),Z I 0] 3→Calls Tryz.prog 175 #[aj (some ⟨c,0,none⟩) 3 3] W (fun e w'=>e= ah (Z I (max (max lo (-hi)) 0))∧Below W.heap.size W w')):=zh fun W c hc=>by
  have:=uZ c 3 [lo, -hi,0] lo rfl _ _ W hc (fun j hj=>by
   have:j<3:=hj;have hj:j=0∨j=1∨j=2:=by omega
   rcases hj with rfl|rfl|rfl<;>rfl) zi
  simpa using this
 have G2:Hid (∀ W c,aB W c #[Z I (-lo),Z I hi] 3→Calls Tryz.prog 175 #[aj (some ⟨c,0,none⟩) 2 2] W (fun e w'=>e= ah (Z I (max (-lo) hi))∧Below W.heap.size W w')):=zh fun W c hc=>by
  have:=uZ c 2 [-lo,hi] (-lo) rfl _ _ W hc (fun j hj=>by
   have:j<2:=hj;have hj:j=0∨j=1:=by omega
   rcases hj with rfl|rfl<;>rfl) zi
  simpa using this
 generalize gN (max (max lo (-hi)) 0) (max (-lo) hi)=z at *;generalize max (max lo (-hi)) 0=m1 at *;generalize max (-lo) hi=m2 at *;obtain ⟨⟨z1,z2⟩,z3⟩:=z;unfold dZ at *;simp only at *;go_enter Tryz.func174,Tryz.ntmps174
 go_wp2_with fail
 obtain ⟨wx,EW,hz,R⟩:=zD w #[Z I 0,Z I 0] 40;rw [EW];clear EW;have hcell:∀ W,Below w.heap.size w W→∀ o v,(#[Value.int .i64 lo,Z I hi]:Array Value)[o]? =some v→W.cell? ⟨b,o,none⟩=some v:=fun W hW o v hv=>((h.later hW).cell o).trans hv;have B:=h.later hz;have HB:=zh hz;clear hz h;obtain ⟨bx,eb⟩:∃ y,w.heap.size=y:=⟨_,rfl⟩;rw [eb] at R ⊢;have cB:=B.cell;have lB:=B.lt;have R:=R.out;have n1: -9223372036854775808≤ -hi:=by omega
 have W:Hid (∀ a:Int, -1000000000000000000≤a→a≤1000000000000000000→I.wrap (-a)= -a):=zh fun a h1 h2=>by rw [IntKind.wrap_i64];omega
 have w1:=W.out hi zo hk3;have w2:=W.out lo hk1 zo;have hB0:=HB.out
 go_region_held (fun w'=>w'.cell? ⟨b,0,none⟩=some (.int .i64 lo)∧w'.cell? ⟨b,1,none⟩=some (.int .i64 hi)∧Below w.heap.size w w')
  ((refine ⟨hcell _ ?_ 0 _ rfl,hcell _ ?_ 1 _ rfl,?_⟩<;>exact aJ))
  (first
  | (go_at_call 175;first|(with_reducible refine (G1.out _ _ ?_).mono ?_;exact bI;rintro e wa ⟨rfl,hba⟩;have Ra:aB wa bx #[Z I 0,Z I 0] 40:=bI)|(with_reducible refine (G2.out _ _ ?_).mono ?_;exact bI;rintro e wb ⟨rfl,hbb⟩;have Rb:aB wb bx #[Z I 0,Z I 0] 40:=bI))
  | (go_at_call 96;refine (H.out _).mono ?_;rintro e wc ⟨rfl,hbc⟩;have hx:aB wc bx #[Z I 0,Z I 0] 40:=bI;have cx:=hx.cell;have fx:=hx.free;have lx:=hx.lt))
 all_goals
  go_wp2_with fail
  refine bK rfl rfl bI Tryz.underlying40 rfl zk ?_;exact ⟨rfl,aJ⟩
theorem aq4 (lo hi:Int) (w:World):Calls Tryz.prog 94 #[au #[Z I lo,Z I hi]] w (fun e w'=>e= ah (dZ (Xp lo hi))∧Below w.heap.size w w'):=by
 have H:Hid (∀ W b c,aB W b #[Z I lo,Z I hi] 40→aB W c #[Z I lo,Z I hi] 40→Calls Tryz.prog 97 #[.func (.func 174) #[] #[aA (some ⟨b,0,none⟩)],aj (some ⟨c,0,none⟩) 1 1] W (fun e w'=>e= ah (dZ (Xp lo hi))∧Below W.heap.size W w')):=zh fun W b c h1 h2=>by
  have:=mY 174 #[aA (some ⟨b,0,none⟩)] _ _ _ _ W (zG.one h2) (fun h W' hW'=>ab4 lo hi (by simpa [okB] using h) b W' (h1.later hW')) (fun args W=>by rfl);have e:okB [(lo,hi)]=gM lo hi:=by simp [okB]
  rw [e] at this;exact this
 generalize Xp lo hi=z at *;obtain ⟨⟨z1,z2⟩,z3⟩:=z;unfold dZ at *;simp only at *;go_enter Tryz.func94,Tryz.ntmps94
 go_wp2_with fail
 obtain ⟨wx,EW,hz,X,R,dX⟩:=LK w #[Z I lo,Z I hi] 40 #[Z I 0,Z I 0] 40 #[Z I lo,Z I hi] 40;rw [EW];clear EW;have HB:=zh hz;clear hz;refine (H.out _ _ _ X.out dX.out).mono ?_;rintro e w1 ⟨rfl,hb1⟩;replace R:=R.bl hb1;replace HB:=zh (Bt HB.out hb1);clear hb1 H;have hx:=R.out;have cx:=hx.cell;have fx:=hx.free;have lx:=hx.lt;have hw:=HB.out;go_wp2_with fail
 refine bK rfl rfl bI Tryz.underlying40 rfl zk ?_;exact ⟨rfl,aJ⟩
end Go.Proofs.aW
