/- Lemmas for the proof. No condition. -/
import Derived.Test.YtbngfhgoeoncmaaGreatDoorWB01
import Derived.KernelRfl
set_option linter.unusedVariables false
set_option linter.unusedSimpArgs false
set_option maxRecDepth 100000
set_option maxHeartbeats 16000000
open Array renaming getD_eq_getD_getElem? → ji
open Bool renaming and_eq_true → aF
open Go.Ending renaming returned → aj
open Go.IntKind renaming i64 → I
open Go.Value renaming agg → aB, bool → ak, int → Z, pointer → ay, tuple → aD
open List renaming all_cons → gD, cons_append → bP, getElem?_append_left → eO, getElem?_append_right → fC, length_cons → aV, map_cons → bH, range → dB, replicate → bJ, take_append_drop → gJ, take_length → eX
open List.cons renaming injEq → jc
open Nat renaming add_assoc → kY, add_comm → iH, add_mul → dM, add_zero → fZ, div_add_mod → dG, div_eq_of_lt → fD, div_lt_iff_lt_mul → dz, eq_zero_or_pos → aY, le_refl → aC, le_trans → au, lt_of_lt_of_le → aP, lt_or_ge → aH, min_eq_left → kU, mod_eq_of_lt → fQ, mod_lt → gH, mul_add → aX, mul_assoc → dA, mul_comm → aJ, mul_le_mul → fq, mul_le_mul_left → aT, mul_le_mul_right → aU, mul_left_comm → dN, mul_pos → gV, one_mul → iL, pow_add → gy, pow_succ → bS, zero_add → dP
open Prod.mk renaming injEq → fP
namespace Go.Num
theorem qE {B:Nat} {v:List Nat} {k:Nat} (hv:v.length=k+2):val B v=val B (v.take k)+B^k*(v.getD k 0+B*v.getD (k+1) 0):=by
 have h1:=dR B (l:=v) (k:=k) zo;have h2:=dR B (l:=v) (k:=k+1) zo;rw [show k+1+1=v.length by omega,eX] at h2;rw [h2,h1,aX,bS,dA,kY]
theorem yx {B:Nat} {u:List Nat} {k:Nat} (hu:u.length=k+3):val B u=val B (u.take k)+B^k*(u.getD k 0+B*(u.getD (k+1) 0+B*u.getD (k+2) 0)):=by
 have h1:=dR B (l:=u) (k:=k) zo;have h2:=dR B (l:=u) (k:=k+1) zo;have h3:=dR B (l:=u) (k:=k+2) zo;rw [show k+2+1=u.length by omega,eX] at h3;rw [h3,h2,h1];simp only [aX,bS,dA];omega
structure NW (B U V top head q r:Nat):Prop where
 split:q*top+r=head
 high:U / V≤q
 bound:q≤B+1
section
variable {B:Nat} {u v:List Nat} {k:Nat}
theorem MF (hB:1<B) (hu:u.length=k+3) (hv:v.length=k+2) (du:fV B u) (ht:B≤2*v.getD (k+1) 0) (hlt:val B u<val B v*B) (dv:fV B v) :
  NW B (val B u) (val B v) (v.getD (k+1) 0) (u.getD (k+2) 0*B+u.getD (k+1) 0) ((u.getD (k+2) 0*B+u.getD (k+1) 0) / v.getD (k+1) 0) ((u.getD (k+2) 0*B+u.getD (k+1) 0)%v.getD (k+1) 0):=by
 have eu:=yx (B:=B) hu;have ev:=qE (B:=B) hv;have lu:=jd zo (du.take k);have lv:=jd zo (dv.take k);rw [show (u.take k).length=k by simp;omega] at lu;rw [show (v.take k).length=k by simp;omega] at lv;have d0:=du.getD zo k;have d1:=du.getD zo (k+1);have f0:=dv.getD zo k;generalize u.getD k 0=u2 at *;generalize u.getD (k+1) 0=u1 at *;generalize u.getD (k+2) 0=un at *;generalize v.getD k 0=v2 at *;generalize v.getD (k+1) 0=top at *;generalize val B (u.take k)=a at *;generalize val B (v.take k)=b at *;have hp:0<B^k:=Nat.pow_pos zo;generalize B^k=p at *;have htop:0<top:=by omega
 have hV:0<val B v:=by
  rw [ev];have:0<p*(v2+B*top):=gV hp (by have:=gV (by omega:0<B) htop;omega);omega
 have Ta:=dG (un*B+u1) top;have hml:=gH (un*B+u1) htop;refine ⟨by rw [aJ];exact Ta,?_,?_⟩
 ·rw [← Nat.lt_succ_iff,dz hV,eu,ev];generalize (un*B+u1) / top=q at *;have h1:un*B+u1+1≤(q+1)*top:=by rw [dM,iL,aJ q];omega
  have h2:p*(B*(un*B+u1+1))≤p*(B*((q+1)*top)):=aT _ (aT _ h1)
  have h3:a+p*(u2+B*(u1+B*un))<p*(B*(un*B+u1+1)):=by
   have:p*(u2+B*(u1+B*un)+1)≤p*(B*(un*B+u1+1)):=aT _ (by rw [aX B (un*B+u1),Nat.mul_one,iH u1,aJ B un];omega);rw [aX,Nat.mul_one] at this;omega
  have h4:p*(B*((q+1)*top))≤Nat.succ q*(b+p*(v2+B*top)):=by
   rw [Nat.succ_eq_add_one,show p*(B*((q+1)*top))=(q+1)*(p*(B*top)) by rw [dN B,dN p]];refine aT _ ?_;rw [aX p];omega
  omega
 ·-- the highest digit of u is at most that of v
  have h1:un≤top:=by
   rcases aH top un with h|h
   ·exfalso
    rw [eu,ev] at hlt;have h2:p*(B*(B*(top+1)))≤p*(B*(B*un)):=aT _ (aT _ (aT _ h))
    have h3:(b+p*(v2+B*top))*B≤p*(B*(B*(top+1))):=by
     have:b+p*(v2+B*top)≤p*(B*(top+1)):=by
      have h5:p*(v2+1+B*top)≤p*(B*(top+1)):=aT _ (by rw [aX B top,Nat.mul_one];omega);simp only [aX,Nat.mul_one] at h5 ⊢;omega
     calc (b+p*(v2+B*top))*B≤p*(B*(top+1))*B:=aU _ this
      _=p*(B*(B*(top+1))):=by rw [dA,aJ (B*(top+1)) B]
    have h4:p*(B*(B*un))≤a+p*(u2+B*(u1+B*un)):=by simp only [aX];omega
    omega
   ·exact h
  have h2:(un*B+u1) / top<B+2:=by
   rw [dz htop];have h3:un*B≤top*B:=aU _ h1;rw [dM,aJ B top];omega
  omega
theorem Po (hB:1<B) (hu:u.length=k+3) (hv:v.length=k+2) (du:fV B u) {q r:Nat} (ht:0<v.getD (k+1) 0) (hlt:val B u<val B v*B)
  (g:NW B (val B u) (val B v) (v.getD (k+1) 0) (u.getD (k+2) 0*B+u.getD (k+1) 0) q r) (hc:B≤q∨r*B+u.getD k 0<q*v.getD k 0) :
  1≤q∧NW B (val B u) (val B v) (v.getD (k+1) 0) (u.getD (k+2) 0*B+u.getD (k+1) 0) (q - 1) (r+v.getD (k+1) 0):=by
 have eu:=yx (B:=B) hu;have ev:=qE (B:=B) hv;have lu:=jd zo (du.take k);rw [show (u.take k).length=k by simp;omega] at lu;obtain ⟨g1,g2,g3⟩:=g;generalize u.getD k 0=u2 at *;generalize u.getD (k+1) 0=u1 at *;generalize u.getD (k+2) 0=un at *;generalize v.getD k 0=v2 at *;generalize v.getD (k+1) 0=top at *;generalize val B (u.take k)=a at *;generalize val B (v.take k)=b at *;have hp:0<B^k:=Nat.pow_pos zo;generalize B^k=p at *
 have hV:0<val B v:=by
  rw [ev];have:0<p*(v2+B*top):=gV hp (by have:=gV (by omega:0<B) ht;omega);omega
 have hq:val B u / val B v<q:=by
  rcases hc with hc|hc
  ·have:val B u / val B v<B:=by rw [dz hV,aJ];exact hlt
   omega
  ·rw [dz hV,eu,ev]
   have h1:u2+B*(u1+B*un)+1≤q*(v2+B*top):=by
    have:B*(q*top+r)=B*(un*B+u1):=by rw [g1]
    rw [aX B (q*top)] at this;rw [aX q,dN q B top];rw [aX B u1,← aJ un B];rw [aX B (un*B)] at this;rw [aJ r B] at hc;omega
   have h2:=aT p h1;rw [aX p,Nat.mul_one] at h2
   have h3:p*(q*(v2+B*top))≤q*(b+p*(v2+B*top)):=by
    rw [dN];exact aT _ zo
   omega
 have hq0:=Nat.zero_le (val B u / val B v);obtain ⟨q,rfl⟩:∃ q',q=q'+1:=⟨q - 1,by omega⟩;refine ⟨by omega,?_,by simp only [Nat.add_sub_cancel];omega,by omega⟩;rw [dM,iL] at g1;simp only [Nat.add_sub_cancel];omega
theorem Td (hB:1<B) (hu:u.length=k+3) (hv:v.length=k+2) (dv:fV B v) {q r:Nat} (ht:0<v.getD (k+1) 0)
  (g:NW B (val B u) (val B v) (v.getD (k+1) 0) (u.getD (k+2) 0*B+u.getD (k+1) 0) q r) (hc:q≤B) (hc2:q*v.getD k 0≤r*B+u.getD k 0):q≤val B u / val B v+1:=by
 have eu:=yx (B:=B) hu;have ev:=qE (B:=B) hv;have lv:=jd zo (dv.take k);rw [show (v.take k).length=k by simp;omega] at lv;obtain ⟨g1,g2,g3⟩:=g;generalize u.getD k 0=u2 at *;generalize u.getD (k+1) 0=u1 at *;generalize u.getD (k+2) 0=un at *;generalize v.getD k 0=v2 at *;generalize v.getD (k+1) 0=top at *;generalize val B (u.take k)=a at *;generalize val B (v.take k)=b at *;have hp:0<B^k:=Nat.pow_pos zo;generalize B^k=p at *
 have hV:0<val B v:=by
  rw [ev];have:0<p*(v2+B*top):=gV hp (by have:=gV (by omega:0<B) ht;omega);omega
 have hq0:=Nat.zero_le (val B u / val B v)
 rcases aY q with h0|h0
 ·omega
 obtain ⟨q',rfl⟩:∃ q',q=q'+1:=⟨q - 1,by omega⟩;rw [Nat.add_le_add_iff_right,Nat.le_div_iff_mul_le hV]
 have h1:(q'+1)*(v2+B*top)≤u2+B*(u1+B*un):=by
  have:B*((q'+1)*top+r)=B*(un*B+u1):=by rw [g1]
  rw [aX B ((q'+1)*top)] at this;rw [aX (q'+1),dN (q'+1) B top];rw [aX B u1,← aJ un B];rw [aX B (un*B)] at this;rw [aJ r B] at hc2;omega
 have h2:=aT p h1;have h3:(q'+1)*b≤B*p:=fq hc zo
 have h4:B*p≤p*(v2+B*top):=by
  rw [aJ B p];refine aT _ ?_;have:B*1≤B*top:=aT _ ht;omega
 have h5:(q'+1)*val B v≤val B u+val B v:=by
  rw [eu,ev,aX,dN (q'+1) p];omega
 rw [dM,iL] at h5;omega
end
theorem UF {B:Nat} {u v s:List Nat} {i q c b d c' b':Nat} (hiu:i<u.length) (hiv:i<v.length) (hs:s.length=i)
  (he:val B s+q*val B (v.take i)=val B (u.take i)+(b+c)*B^i) (h:d+b+(c+q*v.getD i 0)%B=u.getD i 0+b'*B) (hc:c'=(c+q*v.getD i 0) / B) :
  val B (s++[d])+q*val B (v.take (i+1))=val B (u.take (i+1))+(b'+c')*B^(i+1):=by
 rw [jy,dR B hiu,dR B hiv,hs,bS];have h1:B*c'+(c+q*v.getD i 0)%B=c+q*v.getD i 0:=by rw [hc];exact dG _ _
 generalize (c+q*v.getD i 0)%B=m at *;have h2:d+b+(c+q*v.getD i 0)=u.getD i 0+(b'+c')*B:=by rw [dM,aJ c' B];omega
 have h3:=congrArg (B^i* ·) h2;simp only [aX] at h3 he ⊢;rw [show (b'+c')*(B^i*B)=B^i*((b'+c')*B) by rw [dN]];rw [show q*(B^i*v.getD i 0)=B^i*(q*v.getD i 0) by rw [dN]];rw [aJ (b+c),aX] at he;omega
theorem UK {B:Nat} {u v s:List Nat} {n q b c un:Nat} (hB:1<B) (hv:v.length=n) (dv:fV B v) (hV:0<val B v)
  (he:val B s+q*val B v=val B (u.take n)+(b+c)*B^n) (hu:val B u=val B (u.take n)+B^n*un) (hc:b+c≤un) (hq1:val B u / val B v≤q) :
  q=val B u / val B v∧val B s=val B u%val B v:=by
 have h1:val B u=q*val B v+(val B s+B^n*(un - (b+c))):=by
  obtain ⟨t,rfl⟩:=Nat.le.dest hc;rw [hu,Nat.add_sub_cancel_left,aX,aJ (B^n) (b+c)];omega
 have h2:q*val B v≤val B u:=by omega
 have h3:q≤val B u / val B v:=(Nat.le_div_iff_mul_le hV).2 h2;have hq:q=val B u / val B v:=by omega
 refine ⟨hq,?_⟩;have h4:=dG (val B u) (val B v);rw [← hq,aJ] at h4;have h5:val B s+B^n*(un - (b+c))=val B u%val B v:=by omega
 have h6:=gH (val B u) hV;have h7:=jd zo dv;rw [hv] at h7
 rcases aY (un - (b+c)) with h8|h8
 ·rw [h8] at h5;omega
 ·have:B^n*1≤B^n*(un - (b+c)):=aT _ h8;omega
theorem UH {B:Nat} {u v s:List Nat} {n q b c un:Nat} (hB:1<B) (hs:s.length=n) (ds:fV B s) (hv:v.length=n) (dv:fV B v) (hV:0<val B v)
  (he:val B s+q*val B v=val B (u.take n)+(b+c)*B^n) (hu:val B u=val B (u.take n)+B^n*un) (hc:un<b+c) (hq2:q≤val B u / val B v+1) :
  q=val B u / val B v+1∧val B s+val B v=val B u%val B v+B^n:=by
 have hp:0<B^n:=Nat.pow_pos zo;have h7:=jd zo dv;rw [hv] at h7;have h8:=jd zo ds;rw [hs] at h8;have h4:=dG (val B u) (val B v);have h6:=gH (val B u) hV;obtain ⟨t,ht⟩:=Nat.le.dest hc
 have h1:val B u+B^n*(t+1)=q*val B v+val B s:=by
  rw [hu,kY,← aX,show un+(t+1)=b+c by omega,aJ (B^n)];omega
 have hpt:B^n*(t+1)=B^n*t+B^n:=by rw [aX,Nat.mul_one]
 have hq3:val B u / val B v+1≤q:=by
  rcases aH (val B u / val B v) q with h|h
  ·exact h
  ·exfalso
   have:q*val B v≤val B u / val B v*val B v:=aU _ h;rw [aJ (val B u / val B v)] at this;omega
 have hq:q=val B u / val B v+1:=by omega
 refine ⟨hq,?_⟩;rw [hq,dM,iL,aJ (val B u / val B v)] at h1;have h9:val B u%val B v+B^n*(t+1)=val B v+val B s:=by omega
 rcases aY t with h|h
 ·rw [h,dP,Nat.mul_one] at h9;omega
 ·have:B^n*1≤B^n*t:=aT _ h;omega
theorem Lr {B t:Nat} (hB:B=1000000000) (ht:0<t) (htB:t<B):B≤2*(t*(B / (t+1))):=by
 have hd:=dG B (t+1);have hm:=gH B (Nat.succ_pos t);have hs:0<B / (t+1):=Nat.div_pos zo zo;generalize B / (t+1)=s at *;generalize B%(t+1)=m at *;obtain ⟨s',rfl⟩:∃ s',s=s'+1:=⟨s - 1,by omega⟩;rw [dM t 1,iL] at hd;have h1:t*(s'+1)=t*s'+t:=by rw [aX,Nat.mul_one]
 have h2:m≤t:=by omega
 rcases aY s' with h|h
 ·subst h;omega
 ·obtain ⟨t',rfl⟩:∃ t',t=t'+1:=⟨t - 1,by omega⟩;obtain ⟨r,rfl⟩:∃ r,s'=r+1:=⟨s' - 1,by omega⟩;have h3:(t'+1)*(r+1+1)=t'*r+2*t'+r+2:=by simp only [dM,aX];omega
  have h4:0≤t'*r:=Nat.zero_le _;rw [h3] at hd ⊢
  rcases aY t' with h5|h5
  ·subst h5;omega
  ·have h6:r≤t'*r:=by have:=aU r h5;omega
   omega
theorem GQ (B:Nat) {l:List Nat} {t:Nat} (ht:t≤l.length):val B l=val B (l.take t)+B^t*val B (l.drop t):=by
 conv=>lhs;rw [← gJ t l,val_append]
 rw [List.length_take,kU ht]
theorem Ls {b k:Nat} (hs:sz 1000000000 b=k+2) :
  let t:=(d9 1000000000 b).getD (k+1) 0
  let s:=1000000000 / (t+1)
  0<t∧t<1000000000∧0<s∧s≤500000000∧sz 1000000000 (b*s)=k+2∧1000000000≤2*(d9 1000000000 (b*s)).getD (k+1) 0:=by
 intro t s;have hB:1<1000000000:=by omega
 have hl:(d9 1000000000 b).length=k+2:=hs;have ht0:0<t:=Nat.pos_of_ne_zero (oU hB b (k+1) hl);have htB:t<1000000000:=(dw hB b).getD zo (k+1);have hs0:0<s:=Nat.div_pos zo zo
 have hs5:s≤500000000:=by
  have:s≤1000000000 / 2:=Nat.div_le_div_left zo zo;omega
 have hsd:s*(t+1)≤1000000000:=Nat.div_mul_le_self _ _;have hp:0<1000000000^(k+1):=Nat.pow_pos zo
 have hb:b=val 1000000000 ((d9 1000000000 b).take (k+1))+1000000000^(k+1)*t:=by
  have h1:=dR 1000000000 (l:=d9 1000000000 b) (k:=k+1) zo;rw [show k+1+1=(d9 1000000000 b).length by omega,eX,bN hB] at h1;exact h1
 have hlow:val 1000000000 ((d9 1000000000 b).take (k+1))<1000000000^(k+1):=by
  have:=jd zo ((dw hB b).take (k+1))
  rwa [show ((d9 1000000000 b).take (k+1)).length=k+1 by simp;omega] at this
 have h1:b*s<1000000000^(k+2):=by
  have h2:b<1000000000^(k+1)*(t+1):=by rw [aX,Nat.mul_one];omega
  have h3:b*s<1000000000^(k+1)*(t+1)*s:=Nat.mul_lt_mul_of_pos_right h2 hs0;have h4:1000000000^(k+1)*((t+1)*s)≤1000000000^(k+1)*1000000000:=aT _ (by rw [aJ];exact hsd);rw [dA] at h3;rw [bS 1000000000 (k+1)];omega
 have h2:sz 1000000000 (b*s)=k+2:=by
  have h3:=dF hB _ _ h1;have h4:sz 1000000000 b≤sz 1000000000 (b*s):=iJ hB (Nat.le_mul_of_pos_right _ hs0);omega
 refine ⟨ht0,htB,hs0,hs5,h2,?_⟩;have hl2:(d9 1000000000 (b*s)).length=k+2:=h2
 have hb2:b*s=val 1000000000 ((d9 1000000000 (b*s)).take (k+1))+1000000000^(k+1)*(d9 1000000000 (b*s)).getD (k+1) 0:=by
  have h1:=dR 1000000000 (l:=d9 1000000000 (b*s)) (k:=k+1) zo;rw [show k+1+1=(d9 1000000000 (b*s)).length by omega,eX,bN hB] at h1;exact h1
 have bc9:val 1000000000 ((d9 1000000000 (b*s)).take (k+1))<1000000000^(k+1):=by
  have:=jd zo ((dw hB (b*s)).take (k+1))
  rwa [show ((d9 1000000000 (b*s)).take (k+1)).length=k+1 by simp;omega] at this
 have hge:=Lr (B:=1000000000) rfl ht0 htB;generalize (d9 1000000000 (b*s)).getD (k+1) 0=t2 at *
 have h5:t*s≤t2:=by
  rcases aH t2 (t*s) with h|h
  ·exfalso
   have h6:1000000000^(k+1)*(t2+1)≤1000000000^(k+1)*(t*s):=aT _ h;rw [aX,Nat.mul_one,← dA] at h6;have h7:1000000000^(k+1)*t*s≤b*s:=aU _ zo;omega
  ·exact h
 have h8:1000000000≤2*(t*s):=hge;omega
theorem dividend {a b s k:Nat} (hs0:0<s) (hs1:s<1000000000) (hb:sz 1000000000 b=k+2) (hab:k+2≤sz 1000000000 a) :
  let us:=d9 1000000000 (a*s)++bJ (sz 1000000000 a+1 - sz 1000000000 (a*s)) 0
  sz 1000000000 (a*s)≤sz 1000000000 a+1∧us.length=sz 1000000000 a+1∧fV 1000000000 us∧val 1000000000 us=a*s∧val 1000000000 (us.drop (sz 1000000000 a - (k+2)+1))<b*s:=by
 intro us;have hB:1<1000000000:=by omega
 have h1:sz 1000000000 (a*s)≤sz 1000000000 a+1:=by
  have:=mR hB a s;have h2:=dF hB 1 s zo;omega
 have h2:us.length=sz 1000000000 a+1:=by simp only [us,List.length_append,List.length_replicate];unfold sz at*; omega
 have h3:val 1000000000 us=a*s:=by simp only [us];rw [val_append,xk,bN hB];simp
 refine ⟨h1,h2,(dw hB _).append fun x hx=>by rw [List.eq_of_mem_replicate hx];omega,h3,?_⟩;have h4:=GQ 1000000000 (l:=us) (t:=sz 1000000000 a - (k+2)+1) zo;rw [h3] at h4;have h5:=JH hB (n:=b) (k:=k+1) zo;have h6:=jM hB a;have h7:1000000000^sz 1000000000 a=1000000000^(k+1)*1000000000^(sz 1000000000 a - (k+2)+1):=by rw [← gy];congr 1;omega
 generalize 1000000000^(sz 1000000000 a - (k+2)+1)=p at *
 have h8:a<b*p:=by
  have:1000000000^(k+1)*p≤b*p:=aU _ h5;omega
 rcases aH (val 1000000000 (us.drop (sz 1000000000 a - (k+2)+1))) (b*s) with h|h
 ·exact h
 ·exfalso
  have h9:p*(b*s)≤a*s:=by have:=aT p h;omega
  have h10:a*s<b*p*s:=Nat.mul_lt_mul_of_pos_right h8 hs0;rw [show p*(b*s)=b*p*s by rw [← dA,aJ p b]] at h9;omega
theorem SN {B:Nat} {us s s' qs:List Nat} {j V q:Nat} (hj:j<us.length) (he:val B (us.drop (j+1))=V*val B qs+val B s)
  (hq:q=val B (us.getD j 0::s) / V) (hs:val B s'=val B (us.getD j 0::s)%V):val B (us.drop j)=V*val B (q::qs)+val B s':=by
 rw [kF hj];have h:=dG (val B (us.getD j 0::s)) V;rw [← hq,← hs] at h;simp only [val] at h ⊢;rw [he,aX V,aX B,dN V B];omega
theorem RP {B x V:Nat} {s:List Nat} (hx:x<B) (hs:val B s<V):val B (x::s)<V*B:=by
 have h:B*(val B s+1)≤B*V:=aT _ hs;rw [aX,Nat.mul_one,aJ B V] at h;simp only [val];omega
theorem VR {a b s q r:Nat} (hs:0<s) (he:a*s=b*s*q+r) (hr:r<b*s):q=a / b∧r / s=a%b:=by
 have h1:a*s / (b*s)=a / b:=Nat.mul_div_mul_right _ _ hs;have h2:a*s%(b*s)=a%b*s:=Nat.mul_mod_mul_right _ _ _;have hp:0<b*s:=by omega
 rw [he,Nat.mul_add_div hp,fD hr,fZ] at h1;rw [he,Nat.mul_add_mod,fQ hr] at h2;exact ⟨h1,by rw [h2,Nat.mul_div_cancel _ hs]⟩
end Go.Num
namespace Go.Fx
open Go Go.RowKit Go.SW Go.Mem
abbrev Sl:=List (Nat × Value)
def look:Sl→Nat→Option Value
 | [],_=>none
 | p::S,j=>bif Nat.beq j p.1 then some p.2 else look S j
theorem qB (p:Nat × Value) (S:Sl) (j:Nat):look (p::S) j=bif Nat.beq j p.1 then some p.2 else look S j:=rfl
def ev (S:Sl):Operand→Value
 | .tmp t=>(look S t).getD undef
 | .const v=>v
 | .global g=>ay (some ⟨g,0,none⟩)
 | .func f=>.func (.func f) #[] #[]
def known (S:Sl):Operand→Bool
 | .tmp t=>(look S t).isSome
 | _=>true
structure xK (n:Nat) (S:Sl) (a:Act):Prop where
 size:a.tmps.size=n
 get:∀ i v,look S i=some v→a.tmps.getD i undef=v
 defers:a.defers=[]
theorem xK.eval {n:Nat} {S:Sl} {a:Act} (h:xK n S a) {x:Operand} (hx:known S x=true):a.eval x=ev S x:=by
 cases x with
 | tmp t =>
  obtain ⟨v,hv⟩:=Option.isSome_iff_exists.1 hx;exact (h.get t v hv).trans (by simp [ev,hv])
 | const v=>rfl
 | global g=>rfl
 | func f=>rfl
theorem xK.of {n:Nat} {S S':Sl} {a:Act} (h:xK n S a) (hs:∀ i v,look S' i=some v→look S i=some v):xK n S' a:=⟨h.size,fun i v hv=>h.get i v (hs i v hv),h.defers⟩
theorem xK.put {n:Nat} {S:Sl} {a:Act} (h:xK n S a) {d:Nat} (hd:d<n) (v:Value):xK n ((d,v)::S) (a.put (some d) v):=by
 refine ⟨by simpa [Act.put] using h.size,fun i u hu=>?_,h.defers⟩;rw [qB] at hu
 show (a.tmps.setIfInBounds d v).getD i undef=u
 have hs:=h.size;cases hi:Nat.beq i d with
 | true =>
  obtain rfl:=Nat.eq_of_beq_eq_true hi;simp only [hi,cond_true,Option.some.injEq] at hu;subst hu;simp [Array.getD,hs,hd]
 | false =>
  have hne:d≠i:=fun e=>by subst e;simp at hi
  simp only [hi,cond_false] at hu;rw [← h.get i u hu];simp [ji, hne]
def ql (n:Nat) (S:Sl) (d:Option Nat) (v:Value):Option Sl:=match d with
 | some d=>bif Nat.blt d n then some ((d,v)::S) else none
 | none=>some S
theorem xK.ql {n:Nat} {S S':Sl} {a:Act} (h:xK n S a) {d:Option Nat} {v:Value} (hs:Fx.ql n S d v=some S'):xK n S' (a.put d v):=by
 cases d with
 | none=>cases hs;exact h
 | some d =>
  unfold Fx.ql at hs;cases hb:Nat.blt d n with
  | true=>simp only [hb,cond_true,Option.some.injEq] at hs;subst hs;exact h.put (Nat.le_of_ble_eq_true hb) v
  | false=>simp only [hb,cond_false] at hs;cases hs
def yl (ops:Array Oper) (S:Sl) (j:Nat):Option Bool:=match (ops[j]?).bind (·.dst) with
 | some d=>(match look S d with|some (.bool b)=>some b| _=>none)
 | none=>none
def gk (ops:Array Oper) (S:Sl) (o:Oper):Bool:=match o.guard with
 | none=>true
 | some (g,_)=>(match (ops[g]?).bind (·.dst) with|some d=>(look S d).isSome|none=>true)
theorem xK.wanted {n:Nat} {S:Sl} {a:Act} (h:xK n S a) {ops:Array Oper} {o:Oper} (hg:gk ops S o=true):Region.wanted o (yielded ops a.tmps)=Region.wanted o (yl ops S):=by
 unfold Region.wanted;unfold gk at hg;cases ho:o.guard with
 | none=>rfl
 | some gw =>
  obtain ⟨g,w⟩:=gw;simp only [ho] at hg ⊢
  congr 1
  unfold yielded Fx.yl;cases hd:(ops[g]?).bind (·.dst) with
  | none=>rfl
  | some d =>
   simp only [hd] at hg;obtain ⟨v,hv⟩:=Option.isSome_iff_exists.1 hg;have hgt:=h.get d v hv;simp only [Option.bind_some,hv];rw [ji] at hgt;cases ht:a.tmps[d]? with
   | none=>rw [ht] at hgt;rw [← hgt];rfl
   | some v'=>rw [ht] at hgt;rw [← hgt];cases v'<;>rfl
/-! ### What stands behind -/
inductive Kt|seq (c:Code)|block (id:Nat)|again (c:Code) (m:Nat)
abbrev Post:=Exit→Sl→World→Prop
def lift (n:Nat) (Q:Post):Exit→Act→World→Prop
 | .panic c,a,w=>a.defers=[]∧∃ S,Q (.panic c) S w
 | e,a,w=>∃ S,xK n S a∧Q e S w
theorem xD {n:Nat} {Q:Post} {e:Exit} {a:Act} {w:World} {S:Sl} (h:xK n S a) (hq:Q e S w):lift n Q e a w:=by
 cases e with
 | panic c=>exact ⟨h.defers,S,hq⟩
 | _=>exact ⟨S,h,hq⟩
theorem Fu {n:Nat} {Q:Post} (c:List PanicEntry) (a s:Act) (w:World) (hs:s.defers=a.defers) (h:lift n Q (.panic c) a w):lift n Q (.panic c) s w:=⟨hs.trans h.1,h.2⟩
section
variable (P:Program) (n:Nat)
def rounds (c:Code) (Q:Post):Nat→Sl→World→Prop
 | 0,_,_=>False
 | m+1,S,w=>∀ a,xK n S a→c.wp P (lift n (fun e S w=>match e with| .normal=>rounds c Q m S w|e=>Q e S w)) a w
def Cont (R:Post):List Kt→Post
 | [],e,S,w=>R e S w
 | .seq c::k,.normal,S,w=>∀ a,xK n S a→c.wp P (lift n (Cont R k)) a w
 | .seq _::k,e,S,w=>Cont R k e S w
 | .block id::k,.exit id',S,w=>if id'=id then Cont R k .normal S w else Cont R k (.exit id') S w
 | .block _::k,e,S,w=>Cont R k e S w
 | .again c m::k,.normal,S,w=>rounds P n c (Cont R k) m S w
 | .again _ _::k,e,S,w=>Cont R k e S w
structure Wc (R:Post) (c:Code) (k:List Kt) (S:Sl) (w:World):Prop where
 out:∀ a,xK n S a→c.wp P (lift n (Cont P n R k)) a w
structure Nx (R:Post) (e:Exit) (k:List Kt) (S:Sl) (w:World):Prop where
 out:Cont P n R k e S w
end
section
variable {P:Program} {n:Nat} {R:Post} {k:List Kt} {S:Sl} {w:World} {c c1 c2:Code} {e:Exit}
theorem seq (h:Wc P n R c1 (.seq c2::k) S w):Wc P n R (.seq c1 c2) k S w:=⟨fun a ha=>wp_seq (wp_mono (h.out a ha) fun e a w hq=>by
 cases e with
 | normal=>obtain ⟨S,hs,hq⟩:=hq;exact hq a hs
 | exit id=>obtain ⟨S,hs,hq⟩:=hq;exact ⟨S,hs,hq⟩
 | goto id=>obtain ⟨S,hs,hq⟩:=hq;exact ⟨S,hs,hq⟩
 | ret=>obtain ⟨S,hs,hq⟩:=hq;exact ⟨S,hs,hq⟩
 | panic ch=>obtain ⟨hd,S,hq⟩:=hq;exact ⟨hd,S,hq⟩
 | outgrown=>obtain ⟨S,hs,hq⟩:=hq;exact ⟨S,hs,hq⟩)⟩
theorem block {id:Nat} (h:Wc P n R c (.block id::k) S w):Wc P n R (.block id c) k S w:=⟨fun a ha=>wp_block (wp_mono (h.out a ha) fun e a w hq=>by
 cases e with
 | normal=>obtain ⟨S,hs,hq⟩:=hq;exact ⟨S,hs,hq⟩
 | exit id' =>
  obtain ⟨S,hs,hq⟩:=hq;simp only [Cont] at hq;simp only [Exit.inBlock];split at hq
  ·rename_i h;rw [if_pos h];exact ⟨S,hs,hq⟩
  ·rename_i h;rw [if_neg h];exact ⟨S,hs,hq⟩
 | goto id=>obtain ⟨S,hs,hq⟩:=hq;exact ⟨S,hs,hq⟩
 | ret=>obtain ⟨S,hs,hq⟩:=hq;exact ⟨S,hs,hq⟩
 | panic ch=>obtain ⟨hd,S,hq⟩:=hq;exact ⟨hd,S,hq⟩
 | outgrown=>obtain ⟨S,hs,hq⟩:=hq;exact ⟨S,hs,hq⟩)⟩
theorem skip (h:Nx P n R .normal k S w):Wc P n R .skip k S w:=⟨fun _ ha=>wp_skip (xD ha h.out)⟩
theorem exit {id:Nat} (h:Nx P n R (.exit id) k S w):Wc P n R (.exit id) k S w:=⟨fun _ ha=>wp_exit (xD ha h.out)⟩
theorem ret (h:Nx P n R .ret k S w):Wc P n R .ret k S w:=⟨fun _ ha=>wp_ret (xD ha h.out)⟩
theorem cond {x:Operand} {b:Bool} (hk:known S x=true) (hx:ev S x= ak b) (h:Wc P n R (if b then c1 else c2) k S w):Wc P n R (.cond x c1 c2) k S w:=by
 cases b with
 | true=>exact ⟨fun a ha=>wp_cond_true (by rw [ha.eval hk,hx]) (h.out a ha)⟩
 | false=>exact ⟨fun a ha=>wp_cond_false (by rw [ha.eval hk,hx]) (h.out a ha)⟩
theorem Lv (m:Nat) {Q:Post} {a:Act} (h:rounds P n c Q m S w) (ha:xK n S a):Code.rounds P c (lift n Q) m a w:=by
 induction m generalizing S a w with
 | zero=>exact h.elim
 | succ m ih =>
  refine wp_mono (h a ha) fun e a w hq=>?_;cases e with
  | normal=>obtain ⟨S,hs,hq⟩:=hq;exact ih hq hs
  | exit id=>obtain ⟨S,hs,hq⟩:=hq;exact ⟨S,hs,hq⟩
  | goto id=>obtain ⟨S,hs,hq⟩:=hq;exact ⟨S,hs,hq⟩
  | ret=>obtain ⟨S,hs,hq⟩:=hq;exact ⟨S,hs,hq⟩
  | panic ch=>obtain ⟨hd,S,hq⟩:=hq;exact ⟨hd,S,hq⟩
  | outgrown=>obtain ⟨S,hs,hq⟩:=hq;exact ⟨S,hs,hq⟩
theorem again {m:Nat} (h:Wc P n R c (.again c m::k) S w):Nx P n R .normal (.again c (m+1)::k) S w:=⟨fun a ha=>wp_mono (h.out a ha) fun e a w hq=>by
 cases e with
 | normal=>obtain ⟨S,hs,hq⟩:=hq;exact ⟨S,hs,hq⟩
 | exit id=>obtain ⟨S,hs,hq⟩:=hq;exact ⟨S,hs,hq⟩
 | goto id=>obtain ⟨S,hs,hq⟩:=hq;exact ⟨S,hs,hq⟩
 | ret=>obtain ⟨S,hs,hq⟩:=hq;exact ⟨S,hs,hq⟩
 | panic ch=>obtain ⟨hd,S,hq⟩:=hq;exact ⟨hd,S,hq⟩
 | outgrown=>obtain ⟨S,hs,hq⟩:=hq;exact ⟨S,hs,hq⟩⟩
theorem loop (m:Nat) (h:Wc P n R c (.again c m::k) S w):Wc P n R (.loop c) k S w :=
 ⟨fun _ ha=>wp_loop_rounds (m+1) (Lv (m+1) (again h).out ha)⟩
theorem ap7 (h:Wc P n R c k S w):Nx P n R .normal (.seq c::k) S w:=⟨h.out⟩
theorem Ze {id:Nat} (h:Nx P n R (.exit id) k S w):Nx P n R (.exit id) (.seq c::k) S w:=⟨h.out⟩
theorem Vy {id:Nat} (h:Nx P n R .normal k S w):Nx P n R .normal (.block id::k) S w:=⟨h.out⟩
theorem Zg {id:Nat} (h:Nx P n R .normal k S w):Nx P n R (.exit id) (.block id::k) S w:=⟨by unfold Cont;rw [if_pos rfl];exact h.out⟩
theorem Zf {id id':Nat} (hne:id'≠id) (h:Nx P n R (.exit id') k S w):Nx P n R (.exit id') (.block id::k) S w:=⟨by unfold Cont;rw [if_neg hne];exact h.out⟩
theorem SH {id m:Nat} (h:Nx P n R (.exit id) k S w):Nx P n R (.exit id) (.again c m::k) S w:=⟨h.out⟩
end
/-! ### Entry and end -/
def Ends (P:Program) (n:Nat) (fn:Func) (E:Ending→World→Prop):Post
 | .normal,S,w=>∀ a,xK n S a→∃ v,(results fn a.tmps).run P w= .ok v w∧E (aj v) w
 | .ret,S,w=>∀ a,xK n S a→∃ v,(results fn a.tmps).run P w= .ok v w∧E (aj v) w
 | .panic c,_,w=>E (.panicked c) w
 | _,_,_=>False
def start:List Value→Nat→Sl
 | [],_=>[]
 | v::l,i=>(i,v)::start l (i+1)
theorem OZ (l:List Value):∀ i j v,look (start l i) j=some v→i≤j∧l[j - i]? =some v:=by
 induction l with
 | nil=>intro i j v h;cases h
 | cons v l ih =>
  intro i j u h;simp only [start,qB] at h;cases hb:Nat.beq j i with
  | true=>obtain rfl:=Nat.eq_of_beq_eq_true hb;simp only [hb,cond_true] at h;exact ⟨aC _,by simpa using h⟩
  | false =>
   simp only [hb,cond_false] at h;obtain ⟨h1,h2⟩:=ih (i+1) j u h;exact ⟨by omega,by rw [show j - i=(j - (i+1))+1 by omega];simpa using h2⟩
theorem enter {P:Program} {f:FuncId} {fn:Func} {c:Code} {l:List Value} {w:World} {E:Ending→World→Prop} {n:Nat} (hf:P.funcs[f]? =some fn) (hb:fn.body=some c) (hn:fn.ntmps=n) (hl':Nat.ble l.length n=true)
  (h:Wc P n (Ends P n fn E) c [] (start l 0) w):Calls P f l.toArray w E:=by
 have hl:l.length≤n:=Nat.le_of_ble_eq_true hl';refine calls_of_wp hf hb (wp_mono (h.out _ ⟨?_,fun i v hv=>?_,rfl⟩) fun e a w hq=>?_)
 ·simp [hn];omega
 ·have:=(OZ l 0 i v hv).2;simp only [Nat.sub_zero] at this;rw [ji, Array.getElem?_append];have hi:=(List.getElem?_eq_some_iff.1 this).1;simp [hi]
  have:=(List.getElem?_eq_some_iff.1 this).2
  simpa using this
 ·cases e with
  | normal=>obtain ⟨S,hs,hq⟩:=hq;obtain ⟨v,h1,h2⟩:=hq a hs;exact ⟨hs.defers,v,h1,h2⟩
  | ret=>obtain ⟨S,hs,hq⟩:=hq;obtain ⟨v,h1,h2⟩:=hq a hs;exact ⟨hs.defers,v,h1,h2⟩
  | panic ch=>obtain ⟨hd,S,hq⟩:=hq;exact ⟨hd,hq⟩
  | exit id=>obtain ⟨S,hs,hq⟩:=hq;exact hq.elim
  | goto id=>obtain ⟨S,hs,hq⟩:=hq;exact hq.elim
  | outgrown=>obtain ⟨S,hs,hq⟩:=hq;exact hq.elim
end Go.Fx
namespace Go.Fx
open Go Go.RowKit Go.SW Go.Mem
def PV:TypeDesc→Bool
 | .struct _| .array _ _=>true
 | _=>false
def rdv (P:Program) (T:TypeId) (cs:Array Value) (off:Nat):Option Value:=match P.underlying T with
 | some d=>(match PV d with
  | true=>(match P.info? T with
   | some i=>(match Nat.ble (off+i.size) cs.size with
    | true=>some (.agg (cs.extract off (off+i.size)))
    | false=>none)
   | none=>none)
  | false=>cs[off]?)
 | none=>none
theorem VT {P:Program} {w:World} {b:Nat} {cs:Array Value} {T0 T:TypeId} {off:Nat} {v:Value} (hX:aA w b cs T0) (h:rdv P T cs off=some v):(loadVar T ⟨b,off,none⟩).run P w= .ok v w:=by
 have hl:∀ (m i:Nat) (acc:Array Value),off+i+m≤cs.size→(loadCellsFrom ⟨b,off,none⟩ i m acc).run P w= .ok (acc++cs.extract (off+i) (off+i+m)) w:=by
  intro m
  induction m with
  | zero=>intro i acc _;simp [loadCellsFrom];omega
  | succ m ih =>
   intro i acc hm;have hadd:(⟨b,off,none⟩:Addr).add i=⟨b,off+i,none⟩:=by unfold Addr.add;simp
   have hc:w.cell? ⟨b,off+i,none⟩=some cs[off+i]:=by rw [hX.cell];simp
   unfold loadCellsFrom;simp only [Sem.run_bind,hadd,run_load,hc];rw [show Result.andThen _ _=(loadCellsFrom ⟨b,off,none⟩ (i+1) m (acc.push cs[off+i])).run P w from rfl,ih (i+1) _ zo]
   congr 1
   apply Array.ext_getElem?
   intro j;simp only [Array.getElem?_append,Array.getElem?_push,Array.size_push,Array.getElem?_extract]
   rcases Nat.lt_trichotomy j acc.size with h1|h1|h1
   ·simp [h1,Nat.lt_succ_of_lt h1,Nat.ne_of_lt h1]
   ·subst h1;simp
    omega
   ·have h2:¬ j<acc.size:=by omega
    have h3:¬ j<acc.size+1:=by omega
    have h4:j≠acc.size:=by omega
    simp only [h2,h3,if_false];have e1:off+(i+1)+(j - (acc.size+1))=off+i+(j - acc.size):=by omega
    rw [e1];have e2:(j - (acc.size+1)<min (off+(i+1)+m) cs.size - (off+(i+1)))↔(j - acc.size<min (off+i+(m+1)) cs.size - (off+i)):=by omega
    simp only [e2]
 unfold rdv at h;cases hu:P.underlying T with
 | none=>rw [hu] at h;cases h
 | some d =>
  rw [hu] at h;cases hd:PV d with
  | true =>
   simp only [hd] at h;cases hi:P.info? T with
   | none=>rw [hi] at h;cases h
   | some i =>
    rw [hi] at h;cases hb:Nat.ble (off+i.size) cs.size with
    | false=>simp only [hb] at h;cases h
    | true =>
     simp only [hb] at h;cases h
     have h1:=hl i.size 0 #[] (by have:=Nat.le_of_ble_eq_true hb;omega);simp only [fZ,Array.empty_append] at h1;cases d<;>simp [PV] at hd<;>simp [loadVar,isAgg,underlying,hu,loadCells,sizeOf,typeInfo,hi,h1]
  | false =>
   simp only [hd] at h;have hc:w.cell? ⟨b,off,none⟩=some v:=by rw [hX.cell,h]
   cases d<;>simp [PV] at hd<;>simp [loadVar,isAgg,underlying,hu,run_load,hc]
structure Stored (w w':World) (b:Nat):Prop where
 os:w'.os=w.os
 tape:w'.tape=w.tape
 output:w'.output=w.output
 size:w'.heap.size=w.heap.size
 block:∀ j,j≠b→w'.heap[j]? =w.heap[j]?
theorem Stored.refl (w:World) (b:Nat):Stored w w b:=⟨rfl,rfl,rfl,rfl,fun _ _=>rfl⟩
theorem Stored.set {w w':World} {b:Nat} (h:Stored w w' b) (o:Nat) (u:Value):Stored w (w'.setCell ⟨b,o,none⟩ u) b :=
 ⟨h.os,h.tape,h.output,by simp [World.setCell,h.size],fun j hj=>(Below.heap_setCell w' ⟨b,o,none⟩ u j hj).trans (h.block j hj)⟩
theorem Stored.below {a w w':World} {b:Nat} (h:Stored w w' b) (ha:Bw a w) (hb:a.heap.size≤b):Bw a w' :=
 ⟨h.os.trans ha.os,h.tape.trans ha.tape,h.output.trans ha.output,by rw [h.size];exact ha.size,fun j hj=>(h.block j zo).trans (ha.block j hj)⟩
theorem Stored.box {w w':World} {b b':Nat} {cs:Array Value} {T:TypeId} (h:Stored w w' b) (hX:aA w b' cs T) (hne:b'≠b):aA w' b' cs T:=(h.block b' hne).trans hX
def putCells (cs:Array Value) (off:Nat):List Value→Array Value
 | []=>cs
 | v::l=>putCells (cs.setIfInBounds off v) (off+1) l
theorem R8 {P:Program} {b:Nat} {T0:TypeId}:∀ (vs:List Value) (off i:Nat) (cs:Array Value) (w:World),aA w b cs T0→off+i+vs.length≤cs.size→(vs.all (·.oneCell'))=true →
  ∃ w',(storeCells ⟨b,off,none⟩ vs i).run P w= .ok () w'∧Stored w w' b∧aA w' b (putCells cs (off+i) vs) T0:=by
 intro vs
 induction vs with
 | nil=>intro off i cs w hX _ _;exact ⟨w,by simp [storeCells],Stored.refl w b,hX⟩
 | cons v vs ih =>
  intro off i cs w hX hl h1;simp only [gD,aF] at h1;simp only [aV] at hl;have hadd:(⟨b,off,none⟩:Addr).add i=⟨b,off+i,none⟩:=by unfold Addr.add;simp
  obtain ⟨w',e1,e2,e3⟩:=ih off (i+1) (cs.setIfInBounds (off+i) v) (w.setCell ⟨b,off+i,none⟩ v) (hX.set _ _) (by simp;omega) h1.2;refine ⟨w',?_,⟨e2.os,e2.tape,e2.output,e2.size.trans (by simp [World.setCell]),fun j hj=>(e2.block j hj).trans (Below.heap_setCell w ⟨b,off+i,none⟩ v j hj)⟩,?_⟩
  ·have hcell:w.cell? ⟨b,off+i,none⟩=some cs[off+i]:=by rw [hX.cell];simp
   have hfro:w.frozen? ⟨b,off+i,none⟩=false:=hX.free _
   have hst:(store (⟨b,off+i,none⟩:Addr) v).run P w= .ok () (w.setCell ⟨b,off+i,none⟩ v):=by
    rw [run_store P w _ v _ h1.1,hcell];simp [hfro]
   unfold storeCells;simp only [Sem.run_bind,hadd,hst,Result.andThen_ok,e1]
  ·exact e3
structure vg (H:List Nat) (w w':World):Prop where
 os:w'.os=w.os
 tape:w'.tape=w.tape
 output:w'.output=w.output
 size:w.heap.size≤w'.heap.size
 block:∀ k,k<w.heap.size→k∉H→w'.heap[k]? =w.heap[k]?
theorem vg.refl {H:List Nat} (w:World):vg H w w:=⟨rfl,rfl,rfl,aC _,fun _ _ _=>rfl⟩
theorem vg.trans {H:List Nat} {a b c:World} (h:vg H a b) (k:vg H b c):vg H a c :=
 ⟨k.os.trans h.os,k.tape.trans h.tape,k.output.trans h.output,au h.size k.size,fun i hi hn=>(k.block i (aP hi h.size) hn).trans (h.block i hi hn)⟩
theorem vg.of {H:List Nat} {a b:World} (h:Bw a b):vg H a b:=⟨h.os,h.tape,h.output,h.size,fun i hi _=>h.block i hi⟩
theorem vg.stored {a b:World} {x:Nat} (h:Stored a b x):vg [x] a b:=⟨h.os,h.tape,h.output,Nat.le_of_eq h.size.symm,fun i _ hn=>h.block i (fun e=>hn (by simp [e]))⟩
theorem vg.box {H:List Nat} {w w':World} {b:Nat} {cs:Array Value} {T:TypeId} (h:vg H w w') (hX:aA w b cs T) (hn:b∉H):aA w' b cs T:=(h.block b hX.lt hn).trans hX
theorem vg.aZ5 {x:Nat} {w w':World} {b:Nat} {cs:Array Value} {T:TypeId} (h:vg [x] w w') (hX:aA w b cs T) (hn:b≠x):aA w' b cs T:=h.box hX (by simpa using hn)
theorem vg.below {H:List Nat} {a w w':World} (h:vg H w w') (ha:Bw a w) (hn:∀ b∈H,a.heap.size≤b):Bw a w' :=
 ⟨h.os.trans ha.os,h.tape.trans ha.tape,h.output.trans ha.output,au ha.size h.size,fun i hi=>(h.block i (aP hi ha.size) (fun hm=>by have:=hn i hm;omega)).trans (ha.block i hi)⟩
theorem lax {H:List Nat} {N:Nat} (hH:∀ h∈H,h<N):Ic.Lax N (vg H):=⟨.refl,.trans,.of,fun h=>h.size,fun h b h1 h2=>h.block b h2 fun hm=>by have:=hH b hm;omega⟩
theorem vg.own {H:List Nat} {a w w':World} {b:Nat} (h:vg H a w) (k:Stored w w' b) (hb:a.heap.size≤b):vg H a w' :=
 ⟨k.os.trans h.os,k.tape.trans h.tape,k.output.trans h.output,by rw [k.size];exact h.size,fun i hi hn=>(k.block i zo).trans (h.block i hi hn)⟩
theorem vg.aS2 {H:List Nat} {a w w':World} {b:Nat} (h:vg H a w) (k:vg [b] w w') (hb:a.heap.size≤b):vg H a w' :=
 ⟨k.os.trans h.os,k.tape.trans h.tape,k.output.trans h.output,au h.size k.size,fun i hi hn=>(k.block i (aP hi h.size) (by simp;omega)).trans (h.block i hi hn)⟩
/-! ### aZ8 -/
structure Bx where
 b:Nat
 cs:Array Value
 T:TypeId
 o:Bool
abbrev Mm:=List Bx
structure Mem (w0:World) (H:List Nat) (L:Mm) (w:World):Prop where
 all:∀ (j:Nat) (x:Bx),L[j]? =some x→aA w x.b x.cs x.T
 Yg:∀ (i j:Nat) (x y:Bx),L[i]? =some x→L[j]? =some y→i≠j→x.o=true→x.b≠y.b
 own:∀ (j:Nat) (x:Bx),L[j]? =some x→x.o=true→x.b∈H∨w0.heap.size≤x.b
 GK:vg H w0 w
def yI:Mm→Nat→Array Value→Mm
 | [],_,_=>[]
 | x::L,0,cs=>⟨x.b,cs,x.T,x.o⟩::L
 | x::L,j+1,cs=>x::yI L j cs
theorem qJ (cs:Array Value):∀ (L:Mm) (j i:Nat),(yI L j cs)[i]? =(L[i]?).map fun x=>if i=j then ⟨x.b,cs,x.T,x.o⟩ else x
 | [],_,_=>by simp [yI]
 | x::L,0,0=>by simp [yI]
 | x::L,0,i+1=>by simp [yI]
 | x::L,j+1,0=>by simp [yI]
 | x::L,j+1,i+1=>by simp [yI,qJ cs L j i]
def upd:Mm→List (Nat × Array Value)→Mm
 | L,[]=>L
 | L,u::U=>upd (yI L u.1 u.2) U
section
variable {w0:World} {H:List Nat} {L:Mm} {w w':World}
theorem Mem.later (h:Mem w0 H L w) (hb:Bw w w'):Mem w0 H L w':=⟨fun j x hx=>(h.all j x hx).later hb,h.Yg,h.own,h.GK.trans (.of hb)⟩
theorem Mem.set (h:Mem w0 H L w) {j:Nat} {x:Bx} (hj:L[j]? =some x) (ho:x.o=true) (hw:vg [x.b] w w') {cs:Array Value} (hX:aA w' x.b cs x.T):Mem w0 H (yI L j cs) w':=by
 refine ⟨fun i y hy=>?_,fun i k y z hy hz hne SY=>?_,fun i y hy SY=>?_,?_⟩
 ·rw [qJ] at hy;cases hi:L[i]? with
  | none=>rw [hi] at hy;cases hy
  | some u =>
   rw [hi] at hy;simp only [Option.map_some,Option.some.injEq] at hy
   by_cases hij:i=j
   ·rw [if_pos hij] at hy;rw [hij,hj] at hi;cases hi
    subst hy;exact hX
   ·rw [if_neg hij] at hy;subst hy;exact hw.aZ5 (h.all i u hi) fun e=>h.Yg j i x u hj hi (fun e=>hij e.symm) ho e.symm
 ·rw [qJ] at hy hz;cases hi:L[i]? with
  | none=>rw [hi] at hy;cases hy
  | some u =>
   cases hk:L[k]? with
   | none=>rw [hk] at hz;cases hz
   | some v =>
    rw [hi] at hy;rw [hk] at hz;simp only [Option.map_some,Option.some.injEq] at hy hz;have e1:y.b=u.b:=by subst hy;split<;>rfl
    have e2:z.b=v.b:=by subst hz;split<;>rfl
    have e3:y.o=u.o:=by subst hy;split<;>rfl
    rw [e1,e2];exact h.Yg i k u v hi hk hne (by rw [← e3];exact SY)
 ·rw [qJ] at hy;cases hi:L[i]? with
  | none=>rw [hi] at hy;cases hy
  | some u =>
   rw [hi] at hy;simp only [Option.map_some,Option.some.injEq] at hy;have e1:y.b=u.b:=by subst hy;split<;>rfl
   have e2:y.o=u.o:=by subst hy;split<;>rfl
   rw [e1];exact h.own i u hi (by rw [← e2];exact SY)
 ·rcases h.own j x hj ho with hm|hm
  ·exact h.GK.trans ⟨hw.os,hw.tape,hw.output,hw.size,fun i hi hn=>hw.block i hi (by simp;intro e;exact hn (e ▸ hm))⟩
  ·exact h.GK.aS2 hw hm
theorem Mem.push (h:Mem w0 H L w) {b:Nat} {cs:Array Value} {T:TypeId} (hb:Bw w w') (h1:∀ (j:Nat) (x:Bx),L[j]? =some x→x.b≠b) (h2:w0.heap.size≤b) (hX:aA w' b cs T):Mem w0 H (L++[⟨b,cs,T,true⟩]) w':=by
 have key:∀ i (y:Bx),(L++[(⟨b,cs,T,true⟩:Bx)])[i]? =some y→L[i]? =some y∨(i=L.length∧y=⟨b,cs,T,true⟩):=fun i y hy=>by
  rcases Nat.lt_trichotomy i L.length with hi|hi|hi
  ·rw [eO hi] at hy;exact .inl hy
  ·subst hi;simp at hy;exact .inr ⟨rfl,hy.symm⟩
  ·rw [fC zo,List.getElem?_eq_none (by simp;omega)] at hy;cases hy
 have hm:=h.later hb;refine ⟨fun i y hy=>?_,fun i k y z hy hz hne SY=>?_,fun i y hy SY=>?_,hm.GK⟩
 ·rcases key i y hy with hy|⟨-, rfl⟩
  ·exact hm.all i y hy
  ·exact hX
 ·rcases key i y hy with hy|⟨hi,rfl⟩<;>rcases key k z hz with hz|⟨hk,rfl⟩
  ·exact h.Yg i k y z hy hz hne SY
  ·exact h1 i y hy
  ·exact fun e=>h1 k z hz e.symm
  ·omega
 ·rcases key i y hy with hy|⟨-, rfl⟩
  ·exact h.own i y hy SY
  ·exact .inr h2
theorem Mem.below (h:Mem w0 [] L w):Bw w0 w:=⟨h.GK.os,h.GK.tape,h.GK.output,h.GK.size,fun i hi=>h.GK.block i hi zi⟩
theorem Mem.nil (w:World) (H:List Nat):Mem w H [] w:=⟨fun j x h=>by simp at h,fun i j x y h=>by simp at h,fun j x h=>by simp at h,vg.refl w⟩
end
/-! ### What is done -/
inductive Do
 | op (ops:Array Oper) (o:Oper)
 | no (ops:Array Oper) (o:Oper)
 | ld (ops:Array Oper) (o:Oper) (j:Nat)
 | st (ops:Array Oper) (o:Oper) (j:Nat)
 | br (x:Operand) (b:Bool)
structure Ex where
 S:Sl
 L:Mm
 rs:List (Sem Next × Value)
 us:List Nat
 vs:List Nat
def aS4:Op→Bool
 | .select _ _=>false
 | _=>true
def fit (ops:Array Oper) (S:Sl) (o:Oper):Bool:=gk ops S o&&(aS4 o.op&&o.op.operands.toList.all (known S))
theorem xK.exec {n:Nat} {S:Sl} {a:Act} (h:xK n S a) {ops:Array Oper} {o:Oper} (hf:fit ops S o=true):execOp a.eval o=execOp (ev S) o:=by
 unfold fit at hf;simp only [aF] at hf;refine execOp_congr o (fun cs b e=>?_) fun x hx=>h.eval ?_
 ·rw [e] at hf;cases hf.2.1
 ·exact List.all_eq_true.1 hf.2.2 x (by simpa using hx)
def wJ (P:Program) (n:Nat) (w:World) (S:Sl) (L:Mm):Do→Option Ex
 | .op ops o=>(match fit ops S o with
  | true=>(match Region.wanted o (yl ops S) with
   | true=>(match (execOp (ev S) o).run P w with
    | .ok (.value v) _=>(ql n S o.dst v).map fun S'=>⟨S',L,[(execOp (ev S) o,v)],[],[]⟩
    | _=>none)
   | false=>(ql n S o.dst undef).map fun S'=>⟨S',L,[],[],[]⟩)
  | false=>none)
 | .no ops o=>(match gk ops S o,Region.wanted o (yl ops S) with
  | true,false=>(ql n S o.dst undef).map fun S'=>⟨S',L,[],[],[]⟩
  | _,_=>none)
 | .ld ops o j=>(match fit ops S o,Region.wanted o (yl ops S),o.op with
  | true,true,.load T x=>(match ev S x,L[j]? with
   | ay (some ⟨b,off,none⟩),some y=>(match rdv P T y.cs off with
    | some v=>(ql n S o.dst v).map fun S'=>⟨S',L,[],[b],[y.b]⟩
    | none=>none)
   | _,_=>none)
  | _,_,_=>none)
 | .st ops o j=>(match fit ops S o,Region.wanted o (yl ops S),o.dst,o.op with
  | true,true,none,.store T x y=>(match ev S x,L[j]?, P.info? T with
   | ay (some ⟨b,off,none⟩),some z,some f=>(match z.o,Nat.beq (ev S y).cells.size f.size,Nat.ble (off+f.size) z.cs.size,(ev S y).cells.toList.all (·.oneCell') with
    | true,true,true,true=>some ⟨S,yI L j (putCells z.cs off (ev S y).cells.toList),[],[b],[z.b]⟩
    | _,_,_,_=>none)
   | _,_,_=>none)
  | _,_,_,_=>none)
 | .br x b=>(match known S x,ev S x with
  | true,ak c=>(match c == b with
   | true=>some ⟨S,L,[],[],[]⟩
   | false=>none)
  | _,_=>none)
def exec (P:Program) (n:Nat) (w:World):List Do→Sl→Mm→Option Ex
 | [],S,L=>some ⟨S,L,[],[],[]⟩
 | d::ds,S,L=>match wJ P n w S L d with
  | some e=>(match exec P n w ds e.S e.L with
   | some r=>some ⟨r.S,r.L,e.rs++r.rs,e.us++r.us,e.vs++r.vs⟩
   | none=>none)
  | none=>none
def Bears (P:Program) (rs:List (Sem Next × Value)):Prop:=∀ w,rs.map (fun p=>p.1.run P w)=rs.map fun p=>.ok (.value p.2) w
theorem Bears.left {P:Program} {a b:List (Sem Next × Value)} (h:Bears P (a++b)):Bears P a:=fun w=>(List.append_inj (by simpa using h w) zi).1
theorem Bears.right {P:Program} {a b:List (Sem Next × Value)} (h:Bears P (a++b)):Bears P b:=fun w=>(List.append_inj (by simpa using h w) zi).2
theorem Bears.one {P:Program} {x:Sem Next} {v:Value} (h:Bears P [(x,v)]) (w:World):x.run P w= .ok (.value v) w:=by simpa using h w
/-! ### Where the walk stands -/
inductive Pos
 | code (c:Code) (k:List Kt)
 | nx (e:Exit) (k:List Kt)
 | reg (ops:Array Oper) (is:List Nat) (k:List Kt)
 | vH (ops:Array Oper) (Hj:List Nat) (is:List (K × Nat)) (A:List Nat) (k:List Kt)
def cls:Op→Nat
 | .load _ _=>1
 | .store _ _ _=>2
 | .alloc _| .box _ _| .buildSlice _ _ _| .makeSlice _ _ _=>3
 | .call c=>(match c.callee with
  | .builtin _=>0
  | _=>3)
 | _=>0
def Fp:List Nat→Pos→Option (Option Do × List Nat × Pos)
 | hs,.code c k=>(match c with
  | .seq a b=>some (none,hs,.code a (.seq b::k))
  | .block id c=>some (none,hs,.code c (.block id::k))
  | .loop c=>some (none,hs,.code c (.again c 255::k))
  | .skip=>some (none,hs,.nx .normal k)
  | .exit id=>some (none,hs,.nx (.exit id) k)
  | .region _ ops false=>some (none,hs,.reg ops (dB ops.size) k)
  | .cond x c1 c2=>(match hs with
   | 1::hs=>some (some (.br x true),hs,.code c1 k)
   | 2::hs=>some (some (.br x false),hs,.code c2 k)
   | _=>none)
  | _=>none)
 | hs,.nx e k=>(match e,k with
  | .normal,.seq c::k=>some (none,hs,.code c k)
  | .normal,.block _::k=>some (none,hs,.nx .normal k)
  | .normal,.again c (m+1)::k=>some (none,hs,.code c (.again c m::k))
  | .exit id,.seq _::k=>some (none,hs,.nx (.exit id) k)
  | .exit id,.again _ _::k=>some (none,hs,.nx (.exit id) k)
  | .exit id,.block id'::k=>(match Nat.beq id id' with
   | true=>some (none,hs,.nx .normal k)
   | false=>some (none,hs,.nx (.exit id) k))
  | _,_=>none)
 | hs,.reg ops is k=>(match is with
  | []=>some (none,hs,.nx .normal k)
  | i::is=>(match ops[i]? with
   | none=>none
   | some o=>(match cls o.op,hs with
    | 0,hs=>some (some (.op ops o),hs,.reg ops is k)
    | _,0::hs=>some (some (.no ops o),hs,.reg ops is k)
    | 1,(j+3)::hs=>some (some (.ld ops o j),hs,.reg ops is k)
    | 2,(j+3)::hs=>some (some (.st ops o j),hs,.reg ops is k)
    | _,_=>none)))
 | hs,.vH ops Hj is A k=>(match is with
  | []=>some (none,hs,.nx .normal k)
  | (kd,i)::is=>(match ops[i]? with
   | none=>none
   | some o=>(match kd,hs with
    | .pure,hs=>some (some (.op ops o),hs,.vH ops Hj is A k)
    | .read,0::hs=>some (some (.no ops o),hs,.vH ops Hj is A k)
    | .read,(j+3)::hs=>(match Hj.contains j with
     | false=>some (some (.ld ops o j),hs,.vH ops Hj is A k)
     | true=>none)
    | .ext,0::hs=>some (some (.no ops o),hs,.vH ops Hj is A k)
    | .ext,1::hs=>some (some (.op ops o),hs,.vH ops Hj is A k)
    | .ext,(j+3)::hs=>(match Hj.contains j with
     | true=>some (some (.st ops o j),hs,.vH ops Hj is A k)
     | false=>none)
    | .fin,hs=>some (none,hs,.reg ops (i::is.map (·.2)) k)
    | _,_=>none)))
def tr:Nat→List Nat→Pos→List Do × Pos
 | 0,_,p=>([],p)
 | m+1,hs,p=>match Fp hs p with
  | none=>([],p)
  | some (none,hs',p')=>tr m hs' p'
  | some (some d,hs',p')=>(d::(tr m hs' p').1,(tr m hs' p').2)
end Go.Fx
namespace Go.Fx
open Go Go.RowKit Go.SW Go.Mem
section
variable (P:Program) (n:Nat) (R:Post)
def W (N:Nat) (H:List Nat):Pos→Sl→World→Prop
 | .code c k,S,w=>∀ a,xK n S a→c.wp P (lift n (Cont P n R k)) a w
 | .nx e k,S,w=>Cont P n R k e S w
 | .reg ops is k,S,w=>∀ a,xK n S a→wpOps P ops (lift n (Cont P n R k)) is a w
 | .vH ops _ is A k,S,w=>∀ a,xK n S a→Ic.walk (vg H) P ops (lift n (Cont P n R k)) N is A a w
end
def blk (L:Mm) (j:Nat):Option Nat:=(L[j]?).map (·.b)
theorem Ni {L:Mm} {j:Nat} {cs:Array Value}:blk (yI L j cs)=blk L:=by
 funext i
 unfold blk;rw [qJ];cases L[i]? with
 | none=>rfl
 | some x=>simp;split<;>rfl
def O5:K→Bool
 | .alloc _ _=>true
 | _=>false
def wrt (L:Mm) (j:Nat):Bool:=match L[j]? with
 | some x=>x.o
 | none=>false
theorem Lc {L:Mm} {j:Nat} {cs:Array Value}:wrt (yI L j cs)=wrt L:=by
 funext i
 unfold wrt;rw [qJ];cases L[i]? with
 | none=>rfl
 | some x=>simp;split<;>rfl
def ok (w0:World) (N:Nat) (H:List Nat):Pos→Mm→Prop
 | .vH _ Hj is A _,L=>(is.any (fun x=>O5 x.1)=true→w0.heap.size≤N)∧(is.any (fun x=>O5 x.1)=true→∀ (j:Nat) (x:Bx),L[j]? =some x→x.b<N∨x.b∈A)∧(∀ h∈H,h<N)∧H=Hj.filterMap (blk L)∧∀ j∈Hj,wrt L j=true
 | _,_=>True
structure G (P:Program) (n:Nat) (R:Post) (w0:World) (H0:List Nat) (p:Pos) (S:Sl) (L:Mm):Prop where
 out:∀ w N H,Mem w0 H0 L w→ok w0 N H p L→W P n R N H p S w
section
variable {P:Program} {n:Nat} {R:Post} {w0:World} {H0:List Nat} {S S':Sl} {L L':Mm}
theorem JL {ops:Array Oper} {o:Oper} {a:Act} {w:World} {v:Value} (ha:xK n S a) (hf:fit ops S o=true) (hr:(execOp (ev S) o).run P w= .ok (.value v) w) {K:Act→World→Prop} {Q:Exit→Act→World→Prop} (hK:K (a.put o.dst v) w):o.wp P a w K Q:=by
 unfold Oper.wp;rw [ha.exec hf,hr];exact hK
theorem qQ {ops:Array Oper} {o:Oper} (hf:fit ops S o=true):gk ops S o=true:=by
 unfold fit at hf;simp only [aF] at hf;exact hf.1
theorem W9 {ops:Array Oper} {o:Oper} {w:World} {e:Ex} (h:wJ P n w S L (.op ops o)=some e) (hb:Bears P e.rs) :
  fit ops S o=true∧e.L=L∧((∃ v,Region.wanted o (yl ops S)=true∧(∀ w,(execOp (ev S) o).run P w= .ok (.value v) w)∧ql n S o.dst v=some e.S)∨(Region.wanted o (yl ops S)=false∧ql n S o.dst undef=some e.S)):=by
 rw [wJ] at h;split at h
 ·rename_i hf;split at h
  ·rename_i hw;split at h
   ·rename_i v w1 hr;obtain ⟨S1,h1,h2⟩:=Option.map_eq_some_iff.1 h;subst h2;exact ⟨hf,rfl,.inl ⟨v,hw,hb.one,h1⟩⟩
   ·cases h
  ·rename_i hw;obtain ⟨S1,h1,h2⟩:=Option.map_eq_some_iff.1 h;subst h2;exact ⟨hf,rfl,.inr ⟨hw,h1⟩⟩
 ·cases h
theorem Xa {ops:Array Oper} {o:Oper} {w:World} {e:Ex} (h:wJ P n w S L (.no ops o)=some e) :
  gk ops S o=true∧e.L=L∧Region.wanted o (yl ops S)=false∧ql n S o.dst undef=some e.S:=by
 rw [wJ] at h;split at h
 ·rename_i hf hw;obtain ⟨S1,h1,h2⟩:=Option.map_eq_some_iff.1 h;subst h2;exact ⟨hf,rfl,hw,h1⟩
 ·cases h
theorem ag5 {ops:Array Oper} {o:Oper} {j:Nat} {w:World} {e:Ex} (h:wJ P n w S L (.ld ops o j)=some e) (hb:e.us=e.vs) :
  fit ops S o=true∧e.L=L∧Region.wanted o (yl ops S)=true∧∃ y v,L[j]? =some y∧ql n S o.dst v=some e.S∧∀ w,aA w y.b y.cs y.T→(execOp (ev S) o).run P w= .ok (.value v) w:=by
 rw [wJ] at h;split at h
 ·rename_i T x hf hw hop;split at h
  ·rename_i b off y hx hy;split at h
   ·rename_i v hv;obtain ⟨S1,h1,h2⟩:=Option.map_eq_some_iff.1 h;subst h2;simp only [jc,and_true] at hb;refine ⟨hf,rfl,hw,y,v,hy,h1,fun w hX=>?_⟩;rw [← hb] at hX;simp only [execOp,hop,hx,Instr.loadAt,Instr.sureAddr,Sem.run_bind,Sem.run_pure,Result.andThen_ok,VT hX hv]
   ·cases h
  ·cases h
 ·cases h
theorem ag4 {ops:Array Oper} {o:Oper} {j:Nat} {w:World} {e:Ex} (h:wJ P n w S L (.st ops o j)=some e) (hb:e.us=e.vs) :
  fit ops S o=true∧e.S=S∧Region.wanted o (yl ops S)=true∧o.dst=none∧∃ y cs,L[j]? =some y∧y.o=true∧e.L=yI L j cs∧∀ w,aA w y.b y.cs y.T→∃ w',(execOp (ev S) o).run P w= .ok .skip w'∧Stored w w' y.b∧aA w' y.b cs y.T:=by
 rw [wJ] at h;split at h
 ·rename_i T x y hf hw hd hop;split at h
  ·rename_i b off z f hx hz hi;split at h
   ·rename_i ho h1 h2 h3;cases h
    simp only [jc,and_true] at hb;refine ⟨hf,rfl,hw,hd,z,_,hz,ho,rfl,fun w hX=>?_⟩;have hs:(ev S y).cells.size=f.size:=Nat.eq_of_beq_eq_true h1;have hle:=Nat.le_of_ble_eq_true h2;obtain ⟨w',e1,e2,e3⟩:=R8 (P:=P) (ev S y).cells.toList off 0 z.cs w hX (by simp;omega) h3;refine ⟨w',?_,e2,e3⟩;simp [execOp,hop,hx,hb,Instr.storeAt,Instr.sureAddr,storeVar,sizeOf,typeInfo,hi,hs,e1]
   ·cases h
  ·cases h
 ·cases h
theorem aK7 {x:Operand} {b:Bool} {w:World} {e:Ex} (h:wJ P n w S L (.br x b)=some e):e.S=S∧e.L=L∧known S x=true∧ev S x= ak b:=by
 rw [wJ] at h;split at h
 ·rename_i c hk hx;split at h
  ·rename_i hc;cases h
   have:c=b:=by simpa using hc
   exact ⟨rfl,rfl,hk,this ▸ hx⟩
  ·cases h
 ·cases h
theorem ay6 {w:World} (hM:Mem w0 H0 L w) {Hj:List Nat} (hw:∀ j∈Hj,wrt L j=true) {j:Nat} {y:Bx} (hj:L[j]? =some y) (hn:Hj.contains j=false):y.b∉Hj.filterMap (blk L):=by
 intro hm;obtain ⟨i,hi,he⟩:=List.mem_filterMap.1 hm;unfold blk at he;obtain ⟨x,hx,hxb⟩:=Option.map_eq_some_iff.1 he;refine hM.Yg i j x y hx hj (fun e=>?_) (by have:=hw i hi;unfold wrt at this;rw [hx] at this;exact this) hxb;subst e;simp at hn
 exact hn hi
theorem Ru {Hj:List Nat} {j:Nat} {y:Bx} (hj:L[j]? =some y) (hn:Hj.contains j=true):y.b∈Hj.filterMap (blk L) :=
 List.mem_filterMap.2 ⟨j,by simpa using hn,by simp [blk,hj]⟩
theorem BX {hs hs':List Nat} {p p':Pos} {d:Option Do} (hm:Fp hs p=some (d,hs',p'))
  (hd:match d with|none=>S'=S∧L'=L|some d=>∃ e,wJ P n w0 S L d=some e∧e.S=S'∧e.L=L'∧Bears P e.rs∧e.us=e.vs)
  (hc:G P n R w0 H0 p' S' L'):G P n R w0 H0 p S L:=by
 refine ⟨fun w N H hM hok=>?_⟩;cases p with
 | code c k =>
  cases c with
  | seq a b=>cases hm;obtain ⟨rfl,rfl⟩:=hd;exact (seq ⟨hc.out w N H hM trivial⟩).out
  | block id c=>cases hm;obtain ⟨rfl,rfl⟩:=hd;exact (block ⟨hc.out w N H hM trivial⟩).out
  | loop c=>cases hm;obtain ⟨rfl,rfl⟩:=hd;exact (loop 255 ⟨hc.out w N H hM trivial⟩).out
  | skip=>cases hm;obtain ⟨rfl,rfl⟩:=hd;exact (skip ⟨hc.out w N H hM trivial⟩).out
  | exit id=>cases hm;obtain ⟨rfl,rfl⟩:=hd;exact (exit ⟨hc.out w N H hM trivial⟩).out
  | region id ops draw =>
   cases draw with
   | true=>cases hm
   | false=>cases hm;obtain ⟨rfl,rfl⟩:=hd;exact fun a ha=>wp_region (hc.out w N H hM trivial a ha)
  | cond x c1 c2 =>
   have key:∀ (b:Bool) (hs0:List Nat),hs=(if b then 1 else 2)::hs0→d=some (.br x b)∧hs'=hs0∧p'= .code (if b then c1 else c2) k:=fun b hs0 he=>by
    subst he;cases b<;>cases hm<;>exact ⟨rfl,rfl,rfl⟩
   have:∃ (b:Bool) (hs0:List Nat),hs=(if b then 1 else 2)::hs0:=by
    simp only [Fp] at hm;split at hm
    ·exact ⟨true,_,rfl⟩
    ·exact ⟨false,_,rfl⟩
    ·cases hm
   obtain ⟨b,hs0,he⟩:=this;obtain ⟨rfl,rfl,rfl⟩:=key b hs0 he;obtain ⟨e,h1,rfl,rfl, -, -⟩:=hd;obtain ⟨e1,e2,hk,hx⟩:=aK7 h1;rw [e1,e2] at hc;exact (cond hk hx ⟨hc.out w N H hM trivial⟩).out
  | _=>cases hm
 | nx e k =>
  cases k with
  | nil=>cases e<;>cases hm
  | cons x k =>
   cases e with
   | normal =>
    cases x with
    | seq c=>cases hm;obtain ⟨rfl,rfl⟩:=hd;exact (ap7 ⟨hc.out w N H hM trivial⟩).out
    | block id=>cases hm;obtain ⟨rfl,rfl⟩:=hd;exact (Vy (id:=id) ⟨hc.out w N H hM trivial⟩).out
    | again c m =>
     cases m with
     | zero=>cases hm
     | succ m=>cases hm;obtain ⟨rfl,rfl⟩:=hd;exact (again ⟨hc.out w N H hM trivial⟩).out
   | exit id =>
    cases x with
    | seq c=>cases hm;obtain ⟨rfl,rfl⟩:=hd;exact (Ze (c:=c) ⟨hc.out w N H hM trivial⟩).out
    | block id' =>
     simp only [Fp] at hm;split at hm
     ·rename_i hb;cases hm
      obtain ⟨rfl,rfl⟩:=hd;obtain rfl:=Nat.eq_of_beq_eq_true hb;exact (Zg ⟨hc.out w N H hM trivial⟩).out
     ·rename_i hb;cases hm
      obtain ⟨rfl,rfl⟩:=hd;exact (Zf (Nat.ne_of_beq_eq_false hb) ⟨hc.out w N H hM trivial⟩).out
    | again c m=>cases hm;obtain ⟨rfl,rfl⟩:=hd;exact (SH (c:=c) (m:=m) ⟨hc.out w N H hM trivial⟩).out
   | _=>cases x<;>cases hm
 | reg ops is k =>
  cases is with
  | nil=>cases hm;obtain ⟨rfl,rfl⟩:=hd;exact fun a ha=>xD ha (hc.out w N H hM trivial)
  | cons i is =>
   simp only [Fp] at hm;split at hm
   ·cases hm
   ·rename_i o ho
    have hop:d=some (.op ops o)→p'= .reg ops is k→W P n R N H (.reg ops (i::is) k) S w:=by
     rintro rfl rfl;obtain ⟨e,h1,rfl,rfl,h4, -⟩:=hd;obtain ⟨hf,hL,hx⟩:=W9 h1 h4;rw [hL] at hc;intro a ha;unfold wpOps;simp only [ho,ha.wanted (qQ hf)]
     rcases hx with ⟨v,hw,hr,hp⟩|⟨hw,hp⟩
     ·rw [if_pos hw];exact .inl (JL ha hf (hr w) (hc.out w N H hM trivial _ (ha.ql hp)))
     ·rw [if_neg (by rw [hw];decide)];exact hc.out w N H hM trivial _ (ha.ql hp)
    have hno:d=some (.no ops o)→p'= .reg ops is k→W P n R N H (.reg ops (i::is) k) S w:=by
     rintro rfl rfl;obtain ⟨e,h1,rfl,rfl, -, -⟩:=hd;obtain ⟨hf,hL,hw,hp⟩:=Xa h1;rw [hL] at hc;intro a ha;unfold wpOps;simp only [ho,ha.wanted hf];rw [if_neg (by rw [hw];decide)];exact hc.out w N H hM trivial _ (ha.ql hp)
    split at hm
    ·cases hm;exact hop rfl rfl
    ·cases hm;exact hno rfl rfl
    ·rename_i j hs1 hcl;cases hm
     obtain ⟨e,h1,rfl,rfl, -, h5⟩:=hd;obtain ⟨hf,hL,hw,y,v,hj,hp,hr⟩:=ag5 h1 h5;rw [hL] at hc;intro a ha;unfold wpOps;simp only [ho,ha.wanted (qQ hf)];rw [if_pos hw];exact .inl (JL ha hf (hr w (hM.all _ y hj)) (hc.out w N H hM trivial _ (ha.ql hp)))
    ·rename_i j hs1 hcl;cases hm
     obtain ⟨e,h1,rfl,rfl, -, h5⟩:=hd;obtain ⟨hf,hS,hw,hdn,y,cs,hj,SY,hL,hr⟩:=ag4 h1 h5;rw [hL,hS] at hc;intro a ha;unfold wpOps;simp only [ho,ha.wanted (qQ hf)];rw [if_pos hw];obtain ⟨w',e1,e2,e3⟩:=hr w (hM.all _ y hj);refine .inl ?_;unfold Oper.wp;rw [ha.exec hf,e1];simp only [Oper.upon,hdn];exact hc.out w' N H (hM.set hj SY (.stored e2) e3) trivial _ ha
    ·cases hm
 | vH ops Hj is A k =>
  obtain ⟨k1,k2,k3,k4⟩:=hok;cases is with
  | nil =>
   cases hm
   obtain ⟨rfl,rfl⟩:=hd;exact fun a ha=>fun w' hb=>xD ha (hc.out w' N H (hM.later hb) trivial)
  | cons x is =>
   obtain ⟨kd,i⟩:=x;simp only [Fp] at hm;split at hm
   ·cases hm
   ·rename_i o ho;have k1:is.any (fun x=>O5 x.1)=true→w0.heap.size≤N:=fun h=>k1 (by rw [List.any_cons,h,Bool.or_true]);have k2:is.any (fun x=>O5 x.1)=true→∀ (j:Nat) (x:Bx),L[j]? =some x→x.b<N∨x.b∈A:=fun h=>k2 (by rw [List.any_cons,h,Bool.or_true]);have okk:ok w0 N H (.vH ops Hj is A k) L:=⟨k1,k2,k3,k4⟩;split at hm
    ·cases hm
     obtain ⟨e,h1,rfl,rfl,h4, -⟩:=hd;obtain ⟨hf,hL,hx⟩:=W9 h1 h4;rw [hL] at hc;intro a ha;unfold Ic.walk;simp only [ho,ha.wanted (qQ hf)]
     rcases hx with ⟨v,hw,hr,hp⟩|⟨hw,hp⟩
     ·rw [if_pos hw];exact ⟨v,fun w'=>by rw [ha.exec hf];exact hr w',hc.out w N H hM okk _ (ha.ql hp)⟩
     ·rw [if_neg (by rw [hw];decide)];exact hc.out w N H hM okk _ (ha.ql hp)
    ·cases hm
     obtain ⟨e,h1,rfl,rfl, -, -⟩:=hd;obtain ⟨hf,hL,hw,hp⟩:=Xa h1;rw [hL] at hc;intro a ha;unfold Ic.walk;simp only [ho,ha.wanted hf];rw [if_neg (by rw [hw];decide)];exact hc.out w N H hM okk _ (ha.ql hp)
    ·split at hm
     ·rename_i j hs1 hcj;cases hm
      obtain ⟨e,h1,rfl,rfl, -, h5⟩:=hd;obtain ⟨hf,hL,hw,y,v,hj,hp,hr⟩:=ag5 h1 h5;rw [hL] at hc;intro a ha;unfold Ic.walk;simp only [ho,ha.wanted (qQ hf)];rw [if_pos hw];refine ⟨v,fun w' hb=>?_,hc.out w N H hM okk _ (ha.ql hp)⟩;rw [ha.exec hf];exact hr w' (hb.box (hM.all _ y hj) (k4.1 ▸ ay6 hM k4.2 hj hcj))
     ·cases hm
    ·cases hm
     obtain ⟨e,h1,rfl,rfl, -, -⟩:=hd;obtain ⟨hf,hL,hw,hp⟩:=Xa h1;rw [hL] at hc;intro a ha;unfold Ic.walk;simp only [ho,ha.wanted hf];rw [if_neg (by rw [hw];decide)];exact hc.out w N H hM okk _ (ha.ql hp)
    ·cases hm
     obtain ⟨e,h1,rfl,rfl,h4, -⟩:=hd;obtain ⟨hf,hL,hx⟩:=W9 h1 h4;rw [hL] at hc;intro a ha;unfold Ic.walk;simp only [ho,ha.wanted (qQ hf)]
     rcases hx with ⟨v,hw,hr,hp⟩|⟨hw,hp⟩
     ·rw [if_pos hw];exact fun w' hb=>JL ha hf (hr w') ⟨.refl w',hc.out w' N H (hM.later hb) okk _ (ha.ql hp)⟩
     ·rw [if_neg (by rw [hw];decide)];exact hc.out w N H hM okk _ (ha.ql hp)
    ·split at hm
     ·rename_i j hs1 hcj;cases hm
      obtain ⟨e,h1,rfl,rfl, -, h5⟩:=hd;obtain ⟨hf,hS,hw,hdn,y,cs,hj,SY,hL,hr⟩:=ag4 h1 h5;rw [hL,hS] at hc;intro a ha;unfold Ic.walk;simp only [ho,ha.wanted (qQ hf)];rw [if_pos hw];intro w' hb;have hM':=hM.later hb;obtain ⟨w2,e1,e2,e3⟩:=hr w' (hM'.all _ y hj);unfold Oper.wp;rw [ha.exec hf,e1];simp only [Oper.upon,hdn];have hin:y.b∈H:=k4.1 ▸ Ru hj hcj;refine ⟨⟨e2.os,e2.tape,e2.output,Nat.le_of_eq e2.size.symm,fun i _ hn=>e2.block i fun e=>hn (e ▸ hin)⟩,hc.out w2 N H (hM'.set hj SY (.stored e2) e3) ⟨k1,fun hal i x hx=>?_,k3,by rw [Ni,Lc];exact k4⟩ _ ha⟩;rw [qJ] at hx;cases hi:L[i]? with
      | none=>rw [hi] at hx;cases hx
      | some u =>
       rw [hi] at hx;simp only [Option.map_some,Option.some.injEq] at hx;have e1:x.b=u.b:=by subst hx;split<;>rfl
       rw [e1];exact k2 hal i u hi
     ·cases hm
    ·cases hm
     obtain ⟨rfl,rfl⟩:=hd;intro a ha;unfold Ic.walk;simp only [ho];exact fun w' hb=>hc.out w' N H (hM.later hb) trivial a ha
    ·cases hm
theorem Dz:∀ (m:Nat) (hs:List Nat) (p:Pos) (S:Sl) (L:Mm) (r:Ex),exec P n w0 (tr m hs p).1 S L=some r→Bears P r.rs→r.us=r.vs→G P n R w0 H0 (tr m hs p).2 r.S r.L→G P n R w0 H0 p S L
 | 0,hs,p,S,L,r,h,h1,h2,hc=>by cases h;exact hc
 | m+1,hs,p,S,L,r,h,h1,h2,hc=>by
  unfold tr at h hc;cases hm:Fp hs p with
  | none=>simp only [hm] at h hc;cases h;exact hc
  | some x =>
   obtain ⟨d,hs',p'⟩:=x;cases d with
   | none =>
    simp only [hm] at h hc;exact BX hm ⟨rfl,rfl⟩ (Dz m hs' p' S L r h h1 h2 hc)
   | some d =>
    simp only [hm] at h hc;unfold exec at h;cases he:wJ P n w0 S L d with
    | none=>simp only [he] at h;cases h
    | some e =>
     simp only [he] at h;cases hr:exec P n w0 (tr m hs' p').1 e.S e.L with
     | none=>simp only [hr] at h;cases h
     | some r' =>
      simp only [hr,Option.some.injEq] at h;subst h
      have hl:e.us.length=e.vs.length:=by
       cases d<;>unfold wJ at he<;>(repeat' split at he)<;>first|cases he<;>rfl|(obtain ⟨S1, -, rfl⟩:=Option.map_eq_some_iff.1 he;rfl)
      have h3:=List.append_inj h2 hl;exact BX hm ⟨e,he,rfl,rfl,h1.left,h3.1⟩ (Dz m hs' p' e.S e.L r' hr h1.right h3.2 hc)
end
end Go.Fx
namespace Go.Fx
open Go Go.RowKit Go.SW Go.Mem
def fits (S1 St S:Sl):Bool:=(S1.take (S1.length - S.length)).all fun p=>(look St p.1).isSome || !(look S p.1).isSome
def Gy (P:Program) (n:Nat) (w0:World) (ds:List Do) (S:Sl) (L:Mm) (St:Sl) (L':Mm):Prop :=
 ∀ w,(exec P n w0 ds S L).map (fun r=>(St.map (fun p=>look r.S p.1),r.L,r.us,r.rs.map (fun p=>p.1.run P w),fits r.S St S)) =
  some (St.map (fun p=>some p.2),L',((exec P n w0 ds S L).getD ⟨[],[],[],[],[]⟩).vs,((exec P n w0 ds S L).getD ⟨[],[],[],[],[]⟩).rs.map (fun p=>.ok (.value p.2) w),true)
theorem BZ (A B:Sl) (i:Nat):look (A++B) i=(look A i).or (look B i):=by
 induction A with
 | nil=>simp [look]
 | cons x A ih =>
  simp only [bP,qB];cases Nat.beq i x.1 with
  | true=>rfl
  | false=>exact ih
theorem Mi {A:Sl} {i:Nat} {v:Value} (h:look A i=some v):(i,v)∈A:=by
 induction A with
 | nil=>cases h
 | cons x A ih =>
  rw [qB] at h;cases hb:Nat.beq i x.1 with
  | true =>
   obtain rfl:=Nat.eq_of_beq_eq_true hb;simp only [hb,cond_true,Option.some.injEq] at h;subst h;exact List.mem_cons_self
  | false =>
   simp only [hb,cond_false] at h;exact List.mem_cons_of_mem _ (ih h)
def Pos.here:Pos→Bool
 | .nx _ _=>false
 | _=>true
section
variable {P:Program} {n:Nat} {R:Post} {w0:World} {H0:List Nat} {p:Pos} {S:Sl} {L:Mm}
theorem Vi {S':Sl} {d:Option Nat} {v:Value} (h:ql n S d v=some S'):∃ A,S'=A++S:=by
 cases d with
 | none=>cases h;exact ⟨[],rfl⟩
 | some d =>
  unfold ql at h;cases hb:Nat.blt d n with
  | true=>simp only [hb,cond_true,Option.some.injEq] at h;subst h;exact ⟨[(d,v)],rfl⟩
  | false=>simp only [hb,cond_false] at h;cases h
theorem WZ {d:Do} {e:Ex} {w:World} (h:wJ P n w S L d=some e):∃ A,e.S=A++S:=by
 cases d<;>rw [wJ] at h<;>(repeat' split at h)<;>first|(cases h;done)|(cases h;exact ⟨[],rfl⟩)|(obtain ⟨S1,h1,rfl⟩:=Option.map_eq_some_iff.1 h;exact Vi h1)
theorem ML {w:World}:∀ (ds:List Do) (S:Sl) (L:Mm) (r:Ex),exec P n w ds S L=some r→∃ A,r.S=A++S
 | [],S,L,r,h=>by cases h;exact ⟨[],rfl⟩
 | d::ds,S,L,r,h=>by
  unfold exec at h;cases he:wJ P n w S L d with
  | none=>simp only [he] at h;cases h
  | some e =>
   simp only [he] at h;cases hr:exec P n w ds e.S e.L with
   | none=>simp only [hr] at h;cases h
   | some r' =>
    simp only [hr,Option.some.injEq] at h;subst h;obtain ⟨A,hA⟩:=WZ he;obtain ⟨B,hB⟩:=ML ds e.S e.L r' hr;exact ⟨B++A,by simp [hB,hA]⟩
theorem G.of {S':Sl} (h:G P n R w0 H0 p S' L) (hs:∀ i v,look S' i=some v→look S i=some v) (hp:p.here=true):G P n R w0 H0 p S L:=⟨fun w N H hM hok=>by
 have:=h.out w N H hM hok;cases p with
 | nx e k=>cases hp
 | code c k=>exact fun a ha=>this a (ha.of hs)
 | reg ops is k=>exact fun a ha=>this a (ha.of hs)
 | vH ops Hj is A k=>exact fun a ha=>this a (ha.of hs)⟩
theorem Zh {α β:Type} {f g:α→β} {l:List α} (h:l.map f=l.map g) {x:α} (hx:x∈l):f x=g x:=by
 induction l with
 | nil=>cases hx
 | cons y l ih =>
  simp only [bH,jc] at h
  rcases List.mem_cons.1 hx with rfl|hx
  ·exact h.1
  ·exact ih h.2 hx
def AO (P:Program) (n:Nat) (w0:World) (ds:List Do) (S:Sl) (L:Mm):Sl:=match exec P n w0 ds S L with
 | some r=>r.S
 | none=>[]
def N8 (P:Program) (n:Nat) (w0:World) (ds:List Do) (S:Sl) (L L':Mm):Prop :=
 ∀ w,(exec P n w0 ds S L).map (fun r=>(r.L,r.us,r.rs.map (fun p=>p.1.run P w))) =
  some (L',((exec P n w0 ds S L).getD ⟨[],[],[],[],[]⟩).vs,((exec P n w0 ds S L).getD ⟨[],[],[],[],[]⟩).rs.map (fun p=>.ok (.value p.2) w))
theorem goR (hs:List Nat) {m:Nat} (L':Mm) (h:N8 P n w0 (tr m hs p).1 S L L') (hc:G P n R w0 H0 (tr m hs p).2 (AO P n w0 (tr m hs p).1 S L) L'):G P n R w0 H0 p S L:=by
 have h0:=h w0;obtain ⟨r,hr,he⟩:=Option.map_eq_some_iff.1 h0;simp only [fP] at he;obtain ⟨e2,e3, -⟩:=he
 have hB:Bears P r.rs:=fun w=>by
  have:=h w;rw [hr] at this;simp only [Option.map_some,Option.some.injEq,fP,Option.getD_some] at this;exact this.2.2
 rw [hr] at e3;subst e2;unfold AO at hc;rw [hr] at hc;exact Dz m hs p S L r hr hB e3 hc
theorem Gy.plain {ds:List Do} {St:Sl} {L':Mm} (h:Gy P n w0 ds S L St L'):N8 P n w0 ds S L L':=fun w=>by
 obtain ⟨r,hr,he⟩:=Option.map_eq_some_iff.1 (h w);simp only [fP] at he;obtain ⟨-, e2,e3,e4, -⟩:=he;rw [hr] at e3 e4 ⊢;simp only [Option.map_some,Option.some.injEq,fP];exact ⟨e2,e3,e4⟩
theorem WL (hs:List Nat) (St:Sl) {m:Nat} (L':Mm) (h:Gy P n w0 (tr m hs p).1 S L St L') (hc:G P n R w0 H0 (tr m hs p).2 (AO P n w0 (tr m hs p).1 S L) L'):G P n R w0 H0 p S L:=goR hs L' h.plain hc
theorem Gy.sub {ds:List Do} {St:Sl} {L':Mm} (h:Gy P n w0 ds S L St L'):∀ i v,look (St++S) i=some v→look (AO P n w0 ds S L) i=some v:=by
 intro i v hv;have h0:=h w0;obtain ⟨r,hr,he⟩:=Option.map_eq_some_iff.1 h0;simp only [fP] at he;obtain ⟨e1, -, -, -, e5⟩:=he;unfold AO;rw [hr]
 show look r.S i=some v
 obtain ⟨A,hA⟩:=ML _ _ _ _ hr;rw [BZ] at hv;cases hl:look St i with
 | some u =>
  rw [hl] at hv;simp only [Option.or] at hv;cases hv
  exact Zh e1 (Mi hl)
 | none =>
  rw [hl] at hv;simp only [Option.or] at hv;rw [hA,BZ];cases hAi:look A i with
  | none=>exact hv
  | some u =>
   exfalso
   unfold fits at e5;rw [hA] at e5;have:=List.all_eq_true.1 e5 (i,u) (by simp;exact Mi hAi);simp [hl,hv] at this
theorem go (hs:List Nat) (St:Sl) {m:Nat} (L':Mm) (h:Gy P n w0 (tr m hs p).1 S L St L') (hp:(tr m hs p).2.here=true) (hc:G P n R w0 H0 (tr m hs p).2 (St++S) L'):G P n R w0 H0 p S L :=
 WL hs St L' h (hc.of h.sub hp)
end
end Go.Fx
namespace Go.Fx
open Go Go.RowKit Go.SW Go.Mem
def Pos.next:Pos→Option (Array Oper × Oper)
 | .reg ops (i:: _) _=>(ops[i]?).map fun o=>(ops,o)
 | .vH ops _ ((.ext,i):: _) _ _=>(ops[i]?).map fun o=>(ops,o)
 | _=>none
def Pos.past:Pos→Pos
 | .reg ops (_::is) k=>.reg ops is k
 | .vH ops Hj (_::is) A k=>.vH ops Hj is A k
 | p=>p
def sJ (P:Program) (n:Nat) (w:World) (S:Sl) (p:Pos):Option (Nat × FuncId × Array Value × World):=match p.next with
 | some (ops,o)=>(match fit ops S o,Region.wanted o (yl ops S),o.dst with
  | true,true,some d=>(match Nat.blt d n with
   | true=>(match (execOp (ev S) o).run P w with
    | .ok (.enter f args) w'=>some (d,f,args,w')
    | _=>none)
   | false=>none)
  | _,_,_=>none)
 | none=>none
def yF (P:Program) (n:Nat) (w:World) (S:Sl) (p:Pos):Option (Nat × Value × World):=match p.next with
 | some (ops,o)=>(match fit ops S o,Region.wanted o (yl ops S),o.dst with
  | true,true,some d=>(match Nat.blt d n with
   | true=>(match (execOp (ev S) o).run P w with
    | .ok (.value v) w'=>some (d,v,w')
    | _=>none)
   | false=>none)
  | _,_,_=>none)
 | none=>none
def Pos.may (j:Nat):Pos→Bool
 | .vH _ Hj _ _ _=>Hj.contains j
 | _=>true
def Pos.G7:Pos→Bool
 | .vH _ _ is _ _=> !is.any (fun x=>O5 x.1)
 | _=>true
def Pos.noH:Pos→Bool
 | .vH _ Hj _ _ _=>Hj.isEmpty
 | _=>true
section
variable {P:Program} {n:Nat} {R:Post} {w0:World} {H0:List Nat} {p:Pos} {S:Sl} {L L':Mm}
theorem kG {w w':World} {d:Nat} {f:FuncId} {args:Array Value} (h:sJ P n w S p=some (d,f,args,w')) :
  ∃ ops o,p.next=some (ops,o)∧fit ops S o=true∧Region.wanted o (yl ops S)=true∧o.dst=some d∧d<n∧(execOp (ev S) o).run P w= .ok (.enter f args) w':=by
 unfold sJ at h;split at h
 ·rename_i ops o ho;split at h
  ·rename_i d' hf hw hd;split at h
   ·rename_i hb;split at h
    ·rename_i hr;cases h
     exact ⟨ops,o,ho,hf,hw,hd,Nat.le_of_ble_eq_true hb,hr⟩
    ·cases h
   ·cases h
  ·cases h
 ·cases h
theorem A9 {w w':World} {d:Nat} {v:Value} (h:yF P n w S p=some (d,v,w')) :
  ∃ ops o,p.next=some (ops,o)∧fit ops S o=true∧Region.wanted o (yl ops S)=true∧o.dst=some d∧d<n∧(execOp (ev S) o).run P w= .ok (.value v) w':=by
 unfold yF at h;split at h
 ·rename_i ops o ho;split at h
  ·rename_i d' hf hw hd;split at h
   ·rename_i hb;split at h
    ·rename_i hr;cases h
     exact ⟨ops,o,ho,hf,hw,hd,Nat.le_of_ble_eq_true hb,hr⟩
    ·cases h
   ·cases h
  ·cases h
 ·cases h
theorem place {ops:Array Oper} {o:Oper} (hn:p.next=some (ops,o)) (hf:fit ops S o=true) (hw:Region.wanted o (yl ops S)=true) {Y:Nat→List Nat→World→Act→Act→World→Prop}
  (h:∀ w N H,Mem w0 H0 L w→ok w0 N H p L→∀ a,xK n S a→∀ K:Act→World→Prop,(∀ a' w',Y N H w a a' w'→K a' w')→∀ k,o.wp P a w K (lift n (Cont P n R k)))
  (hY:∀ w N H,Mem w0 H0 L w→ok w0 N H p L→∀ a a' w',xK n S a→Y N H w a a' w'→(∀ ops Hj is A k,p= .vH ops Hj is A k→vg H w w')∧∃ S',xK n S' a'∧W P n R N H p.past S' w'):G P n R w0 H0 p S L:=⟨fun w N H hM hok=>by
 cases p with
 | code c k=>cases hn
 | nx e k=>cases hn
 | reg ops' is k =>
  cases is with
  | nil=>cases hn
  | cons i is =>
   obtain ⟨o',ho,he⟩:=Option.map_eq_some_iff.1 hn;cases he
   intro a ha;unfold wpOps;simp only [ho,ha.wanted (qQ hf)];rw [if_pos hw];refine .inl (h w N H hM hok a ha _ (fun a' w' hy=>?_) k);obtain ⟨-, S',h1,h2⟩:=hY w N H hM hok a a' w' ha hy;exact h2 a' h1
 | vH ops' Hj is A k =>
  cases is with
  | nil=>cases hn
  | cons x is =>
   obtain ⟨kd,i⟩:=x;cases kd with
   | ext =>
    obtain ⟨o',ho,he⟩:=Option.map_eq_some_iff.1 hn;cases he
    intro a ha;unfold Ic.walk;simp only [ho,ha.wanted (qQ hf)];rw [if_pos hw];intro w1 hb;refine h w1 N H (hM.later hb) hok a ha _ (fun a' w' hy=>?_) k;obtain ⟨h0,S',h1,h2⟩:=hY w1 N H (hM.later hb) hok a a' w' ha hy;exact ⟨h0 _ _ _ _ _ rfl,h2 a' h1⟩
   | _=>cases hn⟩
theorem zN {N:Nat} {H:List Nat} (hok:ok w0 N H p L) (hb:∀ j,blk L' j=blk L j) (hwr:wrt L'=wrt L):ok w0 N H p.past L':=by
 have hbl:blk L'=blk L:=funext hb;cases p with
 | reg ops is k=>cases is<;>exact trivial
 | vH ops Hj is A k =>
  obtain ⟨k1,k2,k3,k4⟩:=hok
  have key:∀ (j:Nat) (x:Bx),L'[j]? =some x→∃ y,L[j]? =some y∧y.b=x.b:=fun j x hx=>by
   have:=hb j;unfold blk at this;rw [hx] at this;obtain ⟨y,h1,h2⟩:=Option.map_eq_some_iff.1 this.symm;exact ⟨y,h1,h2⟩
  cases is with
  | nil=>exact ⟨fun h=>by simp at h,fun h=>by simp at h,k3,by rw [hbl,hwr];exact k4⟩
  | cons x is =>
   refine ⟨fun hal=>k1 (by rw [List.any_cons,hal,Bool.or_true]),fun hal j x hx=>?_,k3,by rw [hbl,hwr];exact k4⟩;obtain ⟨y,h1,h2⟩:=key j x hx;rw [← h2];exact k2 (by rw [List.any_cons,hal,Bool.or_true]) j y h1
 | _=>exact trivial
theorem TB {d:Nat} {f:FuncId} {args:Array Value} {v:Value} {B:List Nat} (hC:∀ w,Mem w0 H0 L w→Calls P f args w (fun e w'=>e= aj v∧vg B w w'∧Mem w0 H0 L' w')) (h:∀ w,sJ P n w S p=some (d,f,args,w))
  (hB:∀ ops Hj is A k,p= .vH ops Hj is A k→∀ b∈B,b∈Hj.filterMap (blk L)) (hb:∀ j,blk L' j=blk L j) (hwr:wrt L'=wrt L) (hc:G P n R w0 H0 p.past ((d,v)::S) L'):G P n R w0 H0 p S L:=by
 obtain ⟨ops,o,hn,hf,hw,hd,hlt, -⟩:=kG (h w0);refine place hn hf hw (Y:=fun N H w a a' w'=>a'=a.put (some d) v∧vg B w w'∧Mem w0 H0 L' w') (fun w N H hM hok a ha K hK k=>?_) fun w N H hM hok a a' w' ha hy=>?_
 ·obtain ⟨ops',o',hn', -, -, -, -, hr⟩:=kG (h w);rw [hn] at hn';cases hn'
  unfold Oper.wp;rw [ha.exec hf,hr];simp only [Oper.upon];refine (hC w hM).mono fun e w' he=>?_;obtain ⟨rfl,h1,h2⟩:=he;rw [hd];exact hK _ _ ⟨rfl,h1,h2⟩
 ·obtain ⟨rfl,h1,h2⟩:=hy;refine ⟨fun ops Hj is A k e=>?_,_,ha.put hlt v,hc.out w' N H h2 (zN hok hb hwr)⟩;subst e;exact ⟨h1.os,h1.tape,h1.output,h1.size,fun i hi hnm=>h1.block i hi fun hm=>hnm (by rw [hok.2.2.2.1];exact hB _ _ _ _ _ rfl i hm)⟩
theorem Bg {x:Array Oper × Oper} (h:p.next=some x):p.past.here=true:=by
 cases p with
 | reg ops is k=>cases is<;>first|cases h|rfl
 | vH ops Hj is A k=>cases is<;>first|cases h|rfl
 | _=>cases h
theorem mY {S':Sl} (h:∀ i v,look S' i=some v→look S i=some v) (d:Nat) (u:Value):∀ i v,look ((d,u)::S') i=some v→look ((d,u)::S) i=some v:=fun i v hv=>by
 rw [qB] at hv ⊢;cases hb:Nat.beq i d with
 | true=>simp only [hb,cond_true] at hv ⊢;exact hv
 | false=>simp only [hb,cond_false] at hv ⊢;exact h i v hv
theorem tT {w w':World} {d:Nat} {f:FuncId} {args:Array Value} (h:sJ P n w S p=some (d,f,args,w')):p.past.here=true:=by
 obtain ⟨_,_,hn, -⟩:=kG h;exact Bg hn
theorem Io {w w':World} {d:Nat} {v:Value} (h:yF P n w S p=some (d,v,w')):p.past.here=true:=by
 obtain ⟨_,_,hn, -⟩:=A9 h;exact Bg hn
theorem call (hs:List Nat) (d:Nat) (St:Sl) (U:List (Nat × Array Value)) {f:FuncId} {args:Array Value} {v:Value} (hC:∀ w,Mem w0 H0 (upd L U) w→Calls P f args w (fun e w'=>e= .returned v∧Bw w w'))
  (hc:G P n R w0 H0 (tr 4000 hs p).2.past ((d,v)::(St++S)) (upd L U))
  (h:Gy P n w0 (tr 4000 hs p).1 S L St (upd L U):=by intro _;kernel_rfl) (hx:∀ w,sJ P n w (AO P n w0 (tr 4000 hs p).1 S L) (tr 4000 hs p).2=some (d,f,args,w):=by intro _;kernel_rfl):G P n R w0 H0 p S L :=
 WL hs St _ h (TB (B:=[]) (fun w hM=>(hC w hM).mono fun e w' he=>⟨he.1,.of he.2,hM.later he.2⟩) hx (fun _ _ _ _ _ _ b hb=>by cases hb) (fun _=>rfl) rfl (hc.of (mY h.sub d v) (tT (hx w0))))
theorem gX (hs:List Nat) (d:Nat) (St:Sl) (U:List (Nat × Array Value)) {f:FuncId} {args:Array Value} {v:Value} (hC:∀ w,Calls P f args w (fun e w'=>e= .returned v∧Bw w w'))
  (hc:G P n R w0 H0 (tr 4000 hs p).2.past ((d,v)::(St++S)) (upd L U))
  (h:Gy P n w0 (tr 4000 hs p).1 S L St (upd L U):=by intro _;kernel_rfl) (hx:∀ w,sJ P n w (AO P n w0 (tr 4000 hs p).1 S L) (tr 4000 hs p).2=some (d,f,args,w):=by intro _;kernel_rfl):G P n R w0 H0 p S L:=call hs d St U (fun w _=>hC w) hc h hx
theorem Nr {j:Nat} {x:Bx} (h:wrt L j=true):blk (L++[x]) j=blk L j∧wrt (L++[x]) j=wrt L j:=by
 unfold wrt at h;unfold blk wrt;cases hl:L[j]? with
 | none=>rw [hl] at h;cases h
 | some y=>rw [eO (List.getElem?_eq_some_iff.1 hl).1,hl];exact ⟨rfl,rfl⟩
def ro (L:Mm):Mm:=L.map fun x=>⟨x.b,x.cs,x.T,false⟩
def ba9 (P:Program) (n:Nat) (R:Post) (w0:World) (p:Pos) (d:Nat) (S:Sl) (L:Mm) (w w1:World):Ending→Prop
 | aj v=>Bw w w1∧(Mem w0 [] L w1→G P n R w1 [] p.past ((d,v)::S) (ro L))
 | _=>False
theorem Ou {L:Mm} {j:Nat} {x:Bx} (h:(ro L)[j]? =some x):∃ y,L[j]? =some y∧x=⟨y.b,y.cs,y.T,false⟩:=by
 unfold ro at h;rw [List.getElem?_map] at h;obtain ⟨y,h1,h2⟩:=Option.map_eq_some_iff.1 h;exact ⟨y,h1,h2.symm⟩
theorem Mem.anew {w:World} (h:Mem w0 H0 L w):Mem w [] (ro L) w:=by
 refine ⟨fun j x hx=>?_,fun i j x y hx hy hne ho=>?_,fun j x hx ho=>?_,vg.refl w⟩
 ·obtain ⟨y,hy,rfl⟩:=Ou hx;exact h.all j y hy
 ·obtain ⟨u,hu,rfl⟩:=Ou hx;cases ho
 ·obtain ⟨u,hu,rfl⟩:=Ou hx;cases ho
theorem rR (hs:List Nat) (d:Nat) (St:Sl) (U:List (Nat × Array Value)) {f:FuncId} {args:Array Value} {E:World→Ending→World→Prop} (hC:∀ w,Mem w0 [] (upd L U) w→Calls P f args w (E w))
  (hc:∀ w w1 e,Mem w0 [] (upd L U) w→E w e w1→ba9 P n R w0 (tr 4000 hs p).2 d (St++S) (upd L U) w w1 e)
  (h:Gy P n w0 (tr 4000 hs p).1 S L St (upd L U):=by intro _;kernel_rfl) (hx:∀ w,sJ P n w (AO P n w0 (tr 4000 hs p).1 S L) (tr 4000 hs p).2=some (d,f,args,w):=by intro _;kernel_rfl) (hal:((tr 4000 hs p).2.past.G7,(tr 4000 hs p).2.noH)=(true,true):=by kernel_rfl):G P n R w0 [] p S L:=by
 refine WL hs St _ h ?_;have hsub:=h.sub;have hh:=tT (hx w0);simp only [Prod.mk.injEq] at hal;generalize AO P n w0 (tr 4000 hs p).1 S L=F at hx hsub ⊢;generalize (tr 4000 hs p).2=q at hc hx hal hh;generalize upd L U=L at hC hc;generalize St++S=S at hc hsub;obtain ⟨ops,o,hn,hf,hw,hd,hlt, -⟩:=kG (h:=hx w0);refine place hn hf hw (Y:=fun N H w a a' w1=>∃ v,a'=a.put (some d) v∧Bw w w1∧Mem w0 [] L w1∧G P n R w1 [] q.past ((d,v)::F) (ro L)) (fun w N H hM hok a ha K hK k=>?_) fun w N H hM hok a a' w' ha hy=>?_
 ·obtain ⟨ops',o',hn', -, -, -, -, hr⟩:=kG (h:=hx w);rw [hn] at hn';cases hn'
  unfold Oper.wp;rw [ha.exec hf,hr];simp only [Oper.upon];refine (hC w hM).mono fun e w' he=>?_;have:=hc w w' e hM he;cases e with
  | returned v =>
   rw [hd];exact hK _ _ ⟨v,rfl,this.1,hM.later this.1,(this.2 (hM.later this.1)).of (mY hsub d v) hh⟩
  | _=>exact this.elim
 ·obtain ⟨v,rfl,h1,h2,h3⟩:=hy;refine ⟨fun _ _ _ _ _ _=>.of h1,_,ha.put hlt v,h3.out w' N H h2.anew ?_⟩;cases q with
  | vH ops Hj is A k =>
   cases is with
   | nil=>cases hn
   | cons x is =>
    obtain ⟨k1,k2,k3,k4⟩:=hok;have aI9:=hal.1;have aI8:=hal.2;simp only [Pos.noH,List.isEmpty_iff] at aI8;subst aI8;refine ⟨fun hx=>?_,fun hx=>?_,k3,k4.1,fun j hj=>by cases hj⟩<;>simp only [Pos.past,Pos.G7,hx] at aI9<;>cases aI9
  | reg ops is k=>cases is<;>exact trivial
  | _=>exact trivial
theorem back {w1:World} {L0:Mm} (M1:Mem w0 [] L0 w1) (hc:G P n R w0 [] p S (L0++L.drop L0.length)) (h':(L.take L0.length,(L.drop L0.length).all (·.o))=(ro L0,true):=by kernel_rfl):G P n R w1 [] p S L:=by
 simp only [Prod.mk.injEq] at h';obtain ⟨h,hall⟩:=h'
 have hlt:∀ j,j<L0.length→∀ x,L0[j]? =some x→L[j]? =some ⟨x.b,x.cs,x.T,false⟩:=fun j hj x hx=>by
  have:(L.take L0.length)[j]? =L[j]? :=by rw [List.getElem?_take];simp [hj]
  rw [← this,h];unfold ro;rw [List.getElem?_map,hx];rfl
 have key:∀ (j:Nat) (x:Bx),(L0++L.drop L0.length)[j]? =some x→(j<L0.length∧L0[j]? =some x∧L[j]? =some ⟨x.b,x.cs,x.T,false⟩)∨(L[j]? =some x):=fun j x hx=>by
  rcases Nat.lt_or_ge j L0.length with hj|hj
  ·rw [List.getElem?_append_left hj] at hx;exact .inl ⟨hj,hx,hlt j hj x hx⟩
  ·rw [List.getElem?_append_right hj,List.getElem?_drop,show L0.length+(j - L0.length)=j by omega] at hx;exact .inr hx
 have hblk:blk (L0++L.drop L0.length)=blk L:=by
  funext j
  unfold blk
  rcases Nat.lt_or_ge j L0.length with hj|hj
  ·have hx:L0[j]? =some L0[j]:=by simp [hj]
   rw [List.getElem?_append_left hj,hx,hlt j hj _ hx];rfl
  ·rw [List.getElem?_append_right hj,List.getElem?_drop,show L0.length+(j - L0.length)=j by omega]
 have aU6:∀ j,wrt L j=true→wrt (L0++L.drop L0.length) j=true:=fun j h=>by
  unfold wrt at h ⊢
  rcases Nat.lt_or_ge j L0.length with hj|hj
  ·have hx:L0[j]? =some L0[j]:=by simp [hj]
   rw [hlt j hj _ hx] at h;cases h
  ·rw [List.getElem?_append_right hj,List.getElem?_drop,show L0.length+(j - L0.length)=j by omega];exact h
 have hb:∀ (j:Nat) (x:Bx),(L0++L.drop L0.length)[j]? =some x→∃ y,L[j]? =some y∧y.b=x.b:=fun j x hx=>by
  rcases key j x hx with ⟨-, -, h⟩|h
  ·exact ⟨_,h,rfl⟩
  ·exact ⟨_,h,rfl⟩
 refine ⟨fun w N H hM hok=>hc.out w N H ⟨fun j x hx=>?_,fun i j x y hx hy hne hxo=>?_,fun j x hx ho=>?_,M1.GK.trans hM.GK⟩ ?_⟩
 ·rcases key j x hx with ⟨-, h1, -⟩|h1
  ·exact (M1.later hM.below).all j x h1
  ·exact hM.all j x h1
 ·obtain ⟨v,hv,ev⟩:=hb j y hy;rw [← ev]
  rcases key i x hx with ⟨-, h1,h2⟩|h1
  ·rcases key j y hy with ⟨-, h3, -⟩|h3
   ·rw [ev];exact M1.Yg i j x y h1 h3 hne hxo
   ·rcases Nat.lt_or_ge j L0.length with hj|hj
    ·have hx:L0[j]? =some L0[j]:=by simp [hj]
     have:=hlt j hj _ hx;rw [this] at hv;cases hv
     exact M1.Yg i j x L0[j] h1 hx hne hxo
    ·have SY:y.o=true:=List.all_eq_true.1 hall y (List.mem_of_getElem? (i:=j - L0.length) (by rw [List.getElem?_drop,show L0.length+(j - L0.length)=j by omega];exact h3))
     rcases hM.own j y h3 SY with hm|hm
     ·cases hm
     ·rw [ev];exact Nat.ne_of_lt (Nat.lt_of_lt_of_le (M1.all i x h1).lt hm)
  ·exact hM.Yg i j x v h1 hv hne hxo
 ·rcases key j x hx with ⟨-, h1, -⟩|h1
  ·exact M1.own j x h1 ho
  ·rcases hM.own j x h1 ho with hm|hm
   ·cases hm
   ·exact .inr (Nat.le_trans M1.GK.size hm)
 ·cases p with
  | vH ops Hj is A k =>
   obtain ⟨k1,k2,k3,k4⟩:=hok;refine ⟨fun h=>Nat.le_trans M1.GK.size (k1 h),fun h j x hx=>?_,k3,by rw [hblk];exact k4.1,fun j hj=>aU6 j (k4.2 j hj)⟩;obtain ⟨u,hu,eu⟩:=hb j x hx;rw [← eu];exact k2 h j u hu
  | _=>exact trivial
theorem FQ {α β:Type} {f g:α→Option β} {l:List α} (h:∀ x∈l,f x=g x):l.filterMap f=l.filterMap g:=by
 induction l with
 | nil=>rfl
 | cons x l ih=>simp only [List.filterMap_cons,h x List.mem_cons_self,ih fun y hy=>h y (List.mem_cons_of_mem _ hy)]
theorem L6 {d:Nat} {mk:Nat→Value} {cs:Array Value} {T:TypeId} (h:∀ w,yF P n w S p=some (d,mk w.heap.size,w.alloc (.cells cs T (0,0)))) (hal:p.past.G7=true)
  (hc:∀ b,G P n R w0 H0 p.past ((d,mk b)::S) (L++[⟨b,cs,T,true⟩])):G P n R w0 H0 p S L:=by
 obtain ⟨ops,o,hn,hf,hw,hd,hlt, -⟩:=A9 (h w0);refine place hn hf hw (Y:=fun N H w a a' w'=>a'=a.put (some d) (mk w.heap.size)∧w'=w.alloc (.cells cs T (0,0))) (fun w N H hM hok a ha K hK k=>?_) fun w N H hM hok a a' w' ha hy=>?_
 ·obtain ⟨ops',o',hn', -, -, -, -, hr⟩:=A9 (h w);rw [hn] at hn';cases hn'
  unfold Oper.wp;rw [ha.exec hf,hr];simp only [Oper.upon];rw [hd];exact hK _ _ ⟨rfl,rfl⟩
 ·obtain ⟨rfl,rfl⟩:=hy;have hB:Below w.heap.size w (w.alloc (.cells cs T (0,0))):=(Below.refl _ _).alloc (aC _) _;have hM':=hM.push hB (b:=w.heap.size) (cs:=cs) (T:=T) (fun j x hx=>Nat.ne_of_lt (hM.all j x hx).lt) hM.GK.size (aA.new _ _ _);refine ⟨fun _ _ _ _ _ _=>.of hB,_,ha.put hlt _,(hc w.heap.size).out _ N H hM' ?_⟩;cases p with
  | vH ops Hj is A k =>
   cases is with
   | nil=>cases hn
   | cons x is =>
    obtain ⟨k1,k2,k3,k4⟩:=hok;refine ⟨fun hx=>?_,fun hx=>?_,k3,?_⟩
    ·simp only [Pos.past,Pos.G7,hx] at hal;cases hal
    ·simp only [Pos.past,Pos.G7,hx] at hal;cases hal
    ·have key:∀ j∈Hj,blk (L++[(⟨w.heap.size,cs,T,true⟩:Bx)]) j=blk L j∧wrt (L++[(⟨w.heap.size,cs,T,true⟩:Bx)]) j=wrt L j:=fun j hj=>Nr (k4.2 j hj);exact ⟨k4.1.trans (FQ fun j hj=>(key j hj).1.symm),fun j hj=>by rw [(key j hj).2];exact k4.2 j hj⟩
  | reg ops is k=>cases is<;>exact trivial
  | _=>exact trivial
theorem new (hs:List Nat) (d:Nat) (cs:Array Value) (T:TypeId) (St:Sl) (U:List (Nat × Array Value)) (hc:∀ b,G P n R w0 H0 (tr 4000 hs p).2.past ((d,.pointer (some ⟨b,0,none⟩))::(St++S)) (upd L U++[⟨b,cs,T,true⟩]))
  (h:Gy P n w0 (tr 4000 hs p).1 S L St (upd L U):=by intro _;kernel_rfl) (hx:∀ w,yF P n w (AO P n w0 (tr 4000 hs p).1 S L) (tr 4000 hs p).2=some (d,.pointer (some ⟨w.heap.size,0,none⟩),w.alloc (.cells cs T (0,0))):=by intro _;kernel_rfl) (hal:(tr 4000 hs p).2.past.G7=true:=by kernel_rfl):G P n R w0 H0 p S L :=
 WL hs St _ h (L6 (mk:=fun b=>.pointer (some ⟨b,0,none⟩)) hx hal fun b=>(hc b).of (mY h.sub d _) (Io (hx w0)))
theorem newS (hs:List Nat) (d l c:Nat) (cs:Array Value) (T:TypeId) (St:Sl) (U:List (Nat × Array Value)) (hc:∀ b,G P n R w0 H0 (tr 4000 hs p).2.past ((d,.slice (some ⟨b,0,none⟩) l c)::(St++S)) (upd L U++[⟨b,cs,T,true⟩]))
  (h:Gy P n w0 (tr 4000 hs p).1 S L St (upd L U):=by intro _;kernel_rfl) (hx:∀ w,yF P n w (AO P n w0 (tr 4000 hs p).1 S L) (tr 4000 hs p).2=some (d,.slice (some ⟨w.heap.size,0,none⟩) l c,w.alloc (.cells cs T (0,0))):=by intro _;kernel_rfl) (hal:(tr 4000 hs p).2.past.G7=true:=by kernel_rfl):G P n R w0 H0 p S L :=
 WL hs St _ h (L6 (mk:=fun b=>.slice (some ⟨b,0,none⟩) l c) hx hal fun b=>(hc b).of (mY h.sub d _) (Io (hx w0)))
def newP (n:Nat):Pos→Option (Nat × Array Value × TypeId)
 | .vH ops _ ((.alloc cs T,i):: _) _ _=>(match (ops[i]?).bind (·.dst) with
  | some d=>(match Nat.blt d n with
   | true=>some (d,cs,T)
   | false=>none)
  | none=>none)
 | _=>none
def Pos.Vm (b:Nat):Pos→Pos
 | .vH ops Hj (_::is) A k=>.vH ops Hj is (b::A) k
 | p=>p
theorem SI {d:Nat} {cs:Array Value} {T:TypeId} (h:newP n p=some (d,cs,T)) (hc:∀ b,G P n R w0 H0 (p.Vm b) ((d,ay (some ⟨b,0,none⟩))::S) (L++[⟨b,cs,T,true⟩])):G P n R w0 H0 p S L:=⟨fun w N H hM hok=>by
 cases p with
 | vH ops Hj is A k =>
  cases is with
  | nil=>cases h
  | cons x is =>
   obtain ⟨kd,i⟩:=x;cases kd with
   | alloc cs' T' =>
    simp only [newP] at h;split at h
    ·rename_i d' hd;split at h
     ·rename_i hb;cases h
      obtain ⟨o,ho,hod⟩:=Option.bind_eq_some_iff.1 hd;obtain ⟨k1,k2,k3,k4⟩:=hok;intro a ha;refine Ic.dU ho fun b w' h1 h2 h3 h4 h5=>?_;rw [hod];have kk:=k2 (by simp [O5]);have k1:=k1 (by simp [O5])
      have hne:∀ (j:Nat) (x:Bx),L[j]? =some x→x.b≠b:=fun j x hx e=>by
       rcases kk j x hx with hlt|hm
       ·omega
       ·exact h4 (e ▸ hm)
      refine (hc b).out w' N H (hM.push h1 hne (au k1 h2) h5) ⟨fun _=>k1,fun _ j x hx=>?_,k3,?_⟩ _ (ha.put (Nat.le_of_ble_eq_true hb) _)
      ·rcases Nat.lt_trichotomy j L.length with hl|hl|hl
       ·rw [eO hl] at hx
        rcases kk j x hx with hlt|hm
        ·exact .inl hlt
        ·exact .inr (List.mem_cons_of_mem _ hm)
       ·subst hl;simp at hx
        subst hx;exact .inr List.mem_cons_self
       ·rw [List.getElem?_eq_none (by simp;omega)] at hx;cases hx
      ·have key:∀ j∈Hj,blk (L++[(⟨b,cs,T,true⟩:Bx)]) j=blk L j∧wrt (L++[(⟨b,cs,T,true⟩:Bx)]) j=wrt L j:=fun j hj=>Nr (k4.2 j hj);exact ⟨k4.1.trans (FQ fun j hj=>(key j hj).1.symm),fun j hj=>by rw [(key j hj).2];exact k4.2 j hj⟩
     ·cases h
    ·cases h
   | _=>cases h
 | _=>cases h⟩
theorem aS5 (hs:List Nat) (d:Nat) (cs:Array Value) (T:TypeId) (St:Sl) (U:List (Nat × Array Value)) (hc:∀ b,G P n R w0 H0 ((tr 4000 hs p).2.Vm b) ((d,.pointer (some ⟨b,0,none⟩))::(St++S)) (upd L U++[⟨b,cs,T,true⟩]))
  (h:Gy P n w0 (tr 4000 hs p).1 S L St (upd L U):=by intro _;kernel_rfl) (hp:(tr 4000 hs p).2.here=true:=by kernel_rfl) (hx:newP n (tr 4000 hs p).2=some (d,cs,T):=by kernel_rfl):G P n R w0 H0 p S L :=
 go hs St _ h hp (SI hx hc)
def zer (P:Program) (T:TypeId):Array Value:=(xI P T).getD #[]
theorem bK (hs:List Nat) (d:Nat) (T:TypeId) (St:Sl) (U:List (Nat × Array Value)) (hc:∀ b,G P n R w0 H0 (tr 4000 hs p).2.past ((d,.pointer (some ⟨b,0,none⟩))::(St++S)) (upd L U++[⟨b,zer P T,T,true⟩]))
  (h:Gy P n w0 (tr 4000 hs p).1 S L St (upd L U):=by intro _;kernel_rfl) (hx:∀ w,yF P n w (AO P n w0 (tr 4000 hs p).1 S L) (tr 4000 hs p).2=some (d,.pointer (some ⟨w.heap.size,0,none⟩),w.alloc (.cells (zer P T) T (0,0))):=by intro _;kernel_rfl) (hal:(tr 4000 hs p).2.past.G7=true:=by kernel_rfl):G P n R w0 H0 p S L:=new hs d (zer P T) T St U hc h hx hal
theorem iU (hs:List Nat) (d:Nat) (T:TypeId) (St:Sl) (U:List (Nat × Array Value)) (hc:∀ b,G P n R w0 H0 ((tr 4000 hs p).2.Vm b) ((d,.pointer (some ⟨b,0,none⟩))::(St++S)) (upd L U++[⟨b,zer P T,T,true⟩]))
  (h:Gy P n w0 (tr 4000 hs p).1 S L St (upd L U):=by intro _;kernel_rfl) (hp:(tr 4000 hs p).2.here=true:=by kernel_rfl) (hx:newP n (tr 4000 hs p).2=some (d,zer P T,T):=by kernel_rfl):G P n R w0 H0 p S L:=aS5 hs d (zer P T) T St U hc h hp hx
def kindOf (P:Program) (o:Oper):K:=match o.op with
 | .load _ _=>.read
 | .store _ _ _=>.fin
 | .alloc T=>.alloc ((xI P T).getD #[]) T
 | .call c=>(match c.callee with
  | .builtin _=>.pure
  | _=>.ext)
 | .box _ _| .buildSlice _ _ _| .makeSlice _ _ _=>.ext
 | _=>.pure
def plan (P:Program) (ops:Array Oper) (l:List Nat):List (K × Nat):=l.filterMap fun x=>(ops[x%1000]?).map fun o=>((match x / 1000 with|0=>kindOf P o|1=>.pure|2=>.read|3=>.ext|5=>.fin| _=>kindOf P o),x%1000)
def Pos.draw (P:Program) (Hj l:List Nat):Pos→Pos
 | .code (.region _ ops true) k=>.vH ops Hj (plan P ops l) [] k
 | p=>p
def Pos.av8 (P:Program) (l:List Nat):Pos→Bool
 | .code (.region _ ops true) _=>check ops (plan P ops l)
 | _=>false
def Pos.probes (P:Program) (l:List Nat):Pos→List (Bool × Option (Array Value))
 | .code (.region _ ops true) _=>(plan P ops l).map (probe P ops)
 | _=>[]
def Pos.wants (P:Program) (l:List Nat):Pos→List (Bool × Option (Array Value))
 | .code (.region _ ops true) _=>(plan P ops l).map want
 | _=>[]
theorem draw (hs l Hj:List Nat) (St:Sl) (U:List (Nat × Array Value)) (hc:G P n R w0 H0 ((tr 4000 hs p).2.draw P Hj l) (St++S) (upd L U))
  (h:Gy P n w0 (tr 4000 hs p).1 S L St (upd L U):=by intro _;kernel_rfl) (hp:(tr 4000 hs p).2.here=true:=by kernel_rfl) (hm:P.follows .mixedOrders=true:=by kernel_rfl)
  (hd:(tr 4000 hs p).2.av8 P l=true:=by kernel_rfl) (hq:(tr 4000 hs p).2.probes P l=(tr 4000 hs p).2.wants P l:=by kernel_rfl) (hj:Hj.all (wrt (upd L U))=true:=by kernel_rfl):G P n R w0 H0 p S L:=by
 refine go hs St _ h hp ?_;generalize (tr 4000 hs p).2=q at hc hd hq;generalize upd L U=L at hc hj;generalize St++S=S at hc;refine ⟨fun w N H hM hok=>?_⟩;cases q with
 | code c k =>
  cases c with
  | region id ops dr =>
   cases dr with
   | false=>cases hd
   | true =>
    intro a ha
    have hH:∀ h∈Hj.filterMap (blk L),h<w.heap.size:=fun h hh=>by
     obtain ⟨j, -, hj⟩:=List.mem_filterMap.1 hh;obtain ⟨x,hx,rfl⟩:=Option.map_eq_some_iff.1 hj;exact (hM.all j x hx).lt
    refine Ic.aO (plan P ops l) (lax hH) rfl hm hd (uZ hq) (fun c a s w hs h=>Fu c a s w hs h) ?_;have hb:Below w.heap.size w w.drew:=Below.drew (Below.refl _ _);exact hc.out w.drew w.heap.size _ (hM.later hb) ⟨fun _=>hM.GK.size,fun _ j x hx=>.inl (hM.all j x hx).lt,hH,rfl,fun j hjm=>List.all_eq_true.1 hj j hjm⟩ a ha
  | _=>cases hd
 | _=>cases hd
theorem part (m:Nat) (hs:List Nat) (St:Sl) (U:List (Nat × Array Value)) (hc:G P n R w0 H0 (tr m hs p).2 (St++S) (upd L U))
  (h:Gy P n w0 (tr m hs p).1 S L St (upd L U):=by intro _;kernel_rfl) (hp:(tr m hs p).2.here=true:=by kernel_rfl):G P n R w0 H0 p S L:=go hs St _ h hp hc
theorem Bb {d:Nat} {b:Bool} (c:Bool) (hb:b=c) (h:G P n R w0 H0 p ((d,ak c)::S) L):G P n R w0 H0 p ((d,ak b)::S) L:=hb ▸ h
theorem jJ {d:Nat} {u:Value} (v:Value) (hb:u=v) (h:G P n R w0 H0 p ((d,v)::S) L):G P n R w0 H0 p ((d,u)::S) L:=hb ▸ h
theorem splitB {d:Nat} {b:Bool} (h1:b=true→G P n R w0 H0 p ((d,ak true)::S) L) (h2:b=false→G P n R w0 H0 p ((d,ak false)::S) L):G P n R w0 H0 p ((d,ak b)::S) L:=by
 cases b
 ·exact h2 rfl
 ·exact h1 rfl
theorem wrap_i64 {z:Int} (h1: -9223372036854775808≤z) (h2:z≤9223372036854775807):Value.int .i64 (I.wrap z)= Z I z:=by
 rw [show I.wrap z=z by unfold IntKind.wrap;simp [IntKind.bits,IntKind.signed];omega]
def Pos.cmp:Pos→Option (Array Oper × Oper)
 | .reg ops (i:: _) _=>(ops[i]?).map fun o=>(ops,o)
 | .vH ops _ ((.pure,i):: _) _ _=>(ops[i]?).map fun o=>(ops,o)
 | _=>none
def Tn (P:Program) (n:Nat) (S:Sl) (p:Pos):Option (Bool × TypeId × Value × Value × Nat):=match p.cmp with
 | some (ops,o)=>(match fit ops S o,Region.wanted o (yl ops S),o.dst,o.op with
  | true,true,some d,.binOp op T x y _=>(match Nat.blt d n,P.eqGuardType P.depth T,ev S x,ev S y with
   | true,false,aB u,aB v=>(match op with
    | .eql=>some (true,T,aB u,aB v,d)
    | .neq=>some (false,T,aB u,aB v,d)
    | _=>none)
   | _,_,_,_=>none)
  | _,_,_,_=>none)
 | none=>none
theorem Z9 {T:TypeId} {x y:Value} {d:Nat} {b e:Bool} (h:Tn P n S p=some (b,T,x,y,d)) (he:∀ w,(Op.equal T x y).run P w= .ok e w) :
  ∃ ops o,p.cmp=some (ops,o)∧fit ops S o=true∧Region.wanted o (yl ops S)=true∧o.dst=some d∧d<n∧∀ w,(execOp (ev S) o).run P w= .ok (.value (ak (b == e))) w:=by
 unfold Tn at h;split at h
 ·rename_i ops o ho;split at h
  ·rename_i d' op T' xo yo pos hf hw hd hop;split at h
   ·rename_i u v hb hg hx hy;refine ⟨ops,o,ho,hf,hw,?_⟩;split at h<;>cases h<;>refine ⟨hd,Nat.le_of_ble_eq_true hb,fun w=>?_⟩<;>have:=he w<;>simp only [execOp,hop,hx,hy,eqGuard,binOp]<;>simp [hg,this]
   ·cases h
  ·cases h
 ·cases h
theorem WU {T:TypeId} {x y:Value} {d:Nat} {b e:Bool} (h:Tn P n S p=some (b,T,x,y,d)) (he:∀ w,(Op.equal T x y).run P w= .ok e w) (hc:G P n R w0 H0 p.past ((d,ak (b == e))::S) L):G P n R w0 H0 p S L:=by
 obtain ⟨ops,o,hn,hf,hw,hd,hlt,hr⟩:=Z9 h he;refine ⟨fun w N H hM hok=>?_⟩;have aG1:=zN (p:=p) hok (fun _=>rfl) rfl;cases p with
 | reg ops' is k =>
  cases is with
  | nil=>cases hn
  | cons i is =>
   obtain ⟨o',ho,he⟩:=Option.map_eq_some_iff.1 hn;cases he
   intro a ha;unfold wpOps;simp only [ho,ha.wanted (qQ hf)];rw [if_pos hw];have:=ha.put hlt (ak (b == e));rw [← hd] at this;exact .inl (JL ha hf (hr w) (hc.out w N H hM aG1 _ this))
 | vH ops' Hj is A k =>
  cases is with
  | nil=>cases hn
  | cons x is =>
   obtain ⟨kd,i⟩:=x;cases kd with
   | pure =>
    obtain ⟨o',ho,he⟩:=Option.map_eq_some_iff.1 hn;cases he
    intro a ha;unfold Ic.walk;simp only [ho,ha.wanted (qQ hf)];rw [if_pos hw];have:=ha.put hlt (ak (b == e));rw [← hd] at this;exact ⟨_,fun w'=>by rw [ha.exec hf];exact hr w',hc.out w N H hM aG1 _ this⟩
   | _=>cases hn
 | _=>cases hn
theorem aa0 {T:TypeId} {x y:Value} {d:Nat} {b:Bool} (h:Tn P n S p=some (b,T,x,y,d)):p.past.here=true:=by
 unfold Tn at h;split at h
 ·rename_i ops o ho;cases p with
  | reg ops is k=>cases is<;>first|cases ho|rfl
  | vH ops Hj is A k=>cases is<;>first|cases ho|rfl
  | _=>cases ho
 ·cases h
theorem eql (m:Nat) (hs:List Nat) (d:Nat) (b e:Bool) (T:TypeId) (x y:Value) (St:Sl) (U:List (Nat × Array Value)) (he:∀ w,(Op.equal T x y).run P w= .ok e w) (hc:G P n R w0 H0 (tr m hs p).2.past ((d,.bool (b == e))::(St++S)) (upd L U))
  (h:Gy P n w0 (tr m hs p).1 S L St (upd L U):=by intro _;kernel_rfl) (hx:Tn P n (AO P n w0 (tr m hs p).1 S L) (tr m hs p).2=some (b,T,x,y,d):=by kernel_rfl):G P n R w0 H0 p S L :=
 WL hs St _ h (WU hx he (hc.of (mY h.sub d _) (aa0 hx)))
/-! ### The end -/
def Pos.IQ:Pos→Bool
 | .code .ret _=>true
 | _=>false
theorem EF {w:World} {tmps:Array Value} {fn:Func} {p u:Tmp} {ty t:TypeId} {g:Nat} {cs:Array Value} {d:TypeDesc} (h:fn.results=#[.cell p ty,.tmp u])
  (hp:tmps.getD p undef= ay (some ⟨g,0,none⟩)) (hg:aA w g cs t) (hu:P.underlying ty=some d)
  (hd:(match d with| .struct _| .array _ _=>true| _=>false)=true) (hi:(P.info? ty).map (·.size)=some cs.size) :
  (results fn tmps).run P w= .ok (aD #[aB cs,tmps.getD u undef]) w:=by
 rw [results_cell_tmp h,hp];simp only [asAddr,Sem.run_pure,Result.andThen_ok];rw [run_loadVar_row w g t ty cs (0,0) d hg hu hd hi];rfl
theorem vU (hp:p.IQ=true) (h:∀ w,Mem w0 H0 L w→R .ret S w):G P n R w0 H0 p S L:=⟨fun w N H hM hok=>by
 cases p with
 | code c k =>
  cases c with
  | ret =>
   intro a ha
   have key:∀ k,Cont P n R k .ret S w:=fun k=>by
    induction k with
    | nil=>exact h w hM
    | cons x k ih=>cases x<;>exact ih
   exact wp_ret (xD ha (key k))
  | _=>cases hp
 | _=>cases hp⟩
theorem Cn (hs:List Nat) (U:List (Nat × Array Value)) {fn:Func} {E:Ending→World→Prop} {t:Tmp} {v:Value} (hE:∀ w,Mem w0 H0 (upd L U) w→E (.returned v) w) (hr:fn.results=#[.tmp t]:=by rfl)
  (h:N8 P n w0 (tr 4000 hs p).1 S L (upd L U):=by intro _;kernel_rfl) (hv:((tr 4000 hs p).2.IQ,look (AO P n w0 (tr 4000 hs p).1 S L) t)=(true,some v):=by kernel_rfl):G P n (Ends P n fn E) w0 H0 p S L:=by
 simp only [Prod.mk.injEq] at hv;exact goR hs _ h (vU hv.1 fun w hM a ha=>⟨v,by rw [results_tmp hr,ha.get t v hv.2],hE w hM⟩)
theorem aD6 (hs:List Nat) (U:List (Nat × Array Value)) {fn:Func} {E:Ending→World→Prop} {t u:Tmp} {x y:Value} (hE:∀ w,Mem w0 H0 (upd L U) w→E (.returned (.tuple #[x,y])) w) (hr:fn.results=#[.tmp t,.tmp u]:=by rfl)
  (h:N8 P n w0 (tr 4000 hs p).1 S L (upd L U):=by intro _;kernel_rfl) (hv:((tr 4000 hs p).2.IQ,look (AO P n w0 (tr 4000 hs p).1 S L) t,look (AO P n w0 (tr 4000 hs p).1 S L) u)=(true,some x,some y):=by kernel_rfl):G P n (Ends P n fn E) w0 H0 p S L:=by
 simp only [Prod.mk.injEq] at hv;exact goR hs _ h (vU hv.1 fun w hM a ha=>⟨.tuple #[x,y],by rw [results_tmp2 hr,ha.get t x hv.2.1,ha.get u y hv.2.2],hE w hM⟩)
def U5 (P:Program) (S:Sl) (L:Mm) (t j:Nat) (ty:TypeId):Option (Option Value × Array Value × Bool × Option Nat):=(L[j]?).map fun x=>(look S t,x.cs,(match P.underlying ty with|some (.struct _)=>true|some (.array _ _)=>true| _=>false),(P.info? ty).map (·.size))
theorem uY {w:World} (hM:Mem w0 H0 L w) {a:Act} (ha:xK n S a) {t j b:Nat} {ty:TypeId} {cs:Array Value} (hb:blk L j=some b) (hv:U5 P S L t j ty=some (some (.pointer (some ⟨b,0,none⟩)),cs,true,some cs.size)) :
  ∃ d T,a.tmps.getD t undef= ay (some ⟨b,0,none⟩)∧aA w b cs T∧P.underlying ty=some d∧PV d=true∧(P.info? ty).map (·.size)=some cs.size:=by
 obtain ⟨x,hx,he⟩:=Option.map_eq_some_iff.1 hv;simp only [fP] at he;obtain ⟨e1,rfl,e3,e4⟩:=he;have hb:x.b=b:=by unfold blk at hb;rw [hx] at hb;simpa using hb
 have hX:=hM.all j x hx;rw [hb] at hX;cases hu:P.underlying ty with
 | none=>simp [hu] at e3
 | some d=>exact ⟨d,x.T,ha.get t _ e1,hX,rfl,by rw [hu] at e3;cases d<;>first|rfl|(simp at e3),e4⟩
theorem mU (j b:Nat) (hs:List Nat) (U:List (Nat × Array Value)) {fn:Func} {E:Ending→World→Prop} {t:Tmp} {ty:TypeId} {cs:Array Value} (hE:∀ w,Mem w0 H0 (upd L U) w→E (.returned (.agg cs)) w) (hr:fn.results=#[.cell t ty]:=by rfl)
  (h:N8 P n w0 (tr 4000 hs p).1 S L (upd L U):=by intro _;kernel_rfl) (hp:((tr 4000 hs p).2.IQ,blk (upd L U) j)=(true,some b):=by kernel_rfl) (hv:U5 P (AO P n w0 (tr 4000 hs p).1 S L) (upd L U) t j ty=some (some (.pointer (some ⟨b,0,none⟩)),cs,true,some cs.size):=by kernel_rfl):G P n (Ends P n fn E) w0 H0 p S L:=by
 simp only [Prod.mk.injEq] at hp;refine goR hs _ h (vU hp.1 fun w hM a ha=>⟨.agg cs,?_,hE w hM⟩);obtain ⟨d,T,a1,a2,a3,a4,a5⟩:=uY hM ha hp.2 hv;exact results_cell_row hr a.tmps w b T cs (0,0) d a1 a2 a3 (by cases d<;>exact a4) a5
theorem jm (j b:Nat) (hs:List Nat) (U:List (Nat × Array Value)) {fn:Func} {E:Ending→World→Prop} {t u:Tmp} {ty:TypeId} {cs:Array Value} {y:Value} (hE:∀ w,Mem w0 H0 (upd L U) w→E (.returned (.tuple #[.agg cs,y])) w) (hr:fn.results=#[.cell t ty,.tmp u]:=by rfl)
  (h:N8 P n w0 (tr 4000 hs p).1 S L (upd L U):=by intro _;kernel_rfl) (hp:((tr 4000 hs p).2.IQ,blk (upd L U) j,look (AO P n w0 (tr 4000 hs p).1 S L) u)=(true,some b,some y):=by kernel_rfl) (hv:U5 P (AO P n w0 (tr 4000 hs p).1 S L) (upd L U) t j ty=some (some (.pointer (some ⟨b,0,none⟩)),cs,true,some cs.size):=by kernel_rfl):G P n (Ends P n fn E) w0 H0 p S L:=by
 simp only [Prod.mk.injEq] at hp;refine goR hs _ h (vU hp.1 fun w hM a ha=>⟨.tuple #[.agg cs,y],?_,hE w hM⟩);obtain ⟨d,T,a1,a2,a3,a4,a5⟩:=uY hM ha hp.2.1 hv;rw [EF hr a1 a2 a3 (by cases d<;>exact a4) a5,ha.get u y hp.2.2]
theorem door {f:FuncId} {fn:Func} {c:Code} {l:List Value} {w:World} {E:Ending→World→Prop} (hf:P.funcs[f]? =some fn) (hb:fn.body=some c) (hM:Mem w H0 L w) (h:G P fn.ntmps (Ends P fn.ntmps fn E) w H0 (.code c []) (start l 0) L)
  (hl:Nat.ble l.length fn.ntmps=true:=by kernel_rfl):Calls P f l.toArray w E:=enter hf hb rfl hl ⟨h.out w 0 [] hM trivial⟩
theorem Mem.ro {w:World} {b:Nat} {cs:Array Value} {T:TypeId} (hX:aA w b cs T) (h:Mem w0 H0 L w) (hn:∀ x∈L,x.o=true→x.b≠b:=by simp):Mem w0 H0 (⟨b,cs,T,false⟩::L) w:=by
 have key:∀ (j:Nat) (x:Bx),((⟨b,cs,T,false⟩:Bx)::L)[j]? =some x→(j=0∧x=⟨b,cs,T,false⟩)∨∃ i,j=i+1∧L[i]? =some x:=fun j x h=>by
  cases j with
  | zero=>simp at h;exact .inl ⟨rfl,h.symm⟩
  | succ j=>simp at h;exact .inr ⟨j,rfl,h⟩
 refine ⟨fun j x hx=>?_,fun i j x y hx hy hne ho=>?_,fun j x hx ho=>?_,h.GK⟩
 ·rcases key j x hx with ⟨-, rfl⟩|⟨i, -, hi⟩
  ·exact hX
  ·exact h.all i x hi
 ·rcases key i x hx with ⟨-, rfl⟩|⟨i',rfl,hi⟩
  ·cases ho
  ·rcases key j y hy with ⟨-, rfl⟩|⟨j',rfl,hj⟩
   ·exact hn x (List.mem_of_getElem? hi) ho
   ·exact h.Yg i' j' x y hi hj zo ho
 ·rcases key j x hx with ⟨-, rfl⟩|⟨i, -, hi⟩
  ·cases ho
  ·exact h.own i x hi ho
theorem Mem.one {w:World} {b:Nat} {cs:Array Value} {T:TypeId} (hX:aA w b cs T):Mem w [b] [⟨b,cs,T,true⟩] w:=by
 have key:∀ (j:Nat) (x:Bx),[(⟨b,cs,T,true⟩:Bx)][j]? =some x→j=0∧x=⟨b,cs,T,true⟩:=fun j x h=>by
  cases j with
  | zero=>simp at h;exact ⟨rfl,h.symm⟩
  | succ j=>simp at h
 refine ⟨fun j x h=>?_,fun i j x y hi hj hne _=>?_,fun j x h _=>?_,vg.refl w⟩
 ·obtain ⟨-, rfl⟩:=key j x h;exact hX
 ·exact absurd ((key i x hi).1.trans (key j y hj).1.symm) hne
 ·obtain ⟨-, rfl⟩:=key j x h;simp
theorem Mem.box {w:World} {b:Nat} {cs:Array Value} {T:TypeId} (h:Mem w0 H0 L w) (j:Nat) (hj:(L[j]?).map (fun x=>(x.b,x.cs,x.T))=some (b,cs,T):=by kernel_rfl):aA w b cs T:=by
 obtain ⟨x,hx,he⟩:=Option.map_eq_some_iff.1 hj;simp only [Prod.mk.injEq] at he;obtain ⟨rfl,rfl,rfl⟩:=he;exact h.all j x hx
end
end Go.Fx
