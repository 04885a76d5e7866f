/- Lemmas for the proof. No condition. -/
import Derived.Test.YtbngfhgoeoncmaaGreatDoorTB03
import Derived.KernelRfl
set_option linter.unusedVariables false
set_option linter.unusedSimpArgs false
set_option maxRecDepth 100000
set_option maxHeartbeats 16000000
open Array renaming getD_eq_getD_getElem? → iw
open Go.Ending renaming returned → ah
open Go.Value renaming bool → aC, pointer → au
open List renaming replicate → bP, take_append_drop → gy, take_length → eX
open Nat renaming add_mul → dH, add_zero → gL, div_add_mod → bU, div_eq_of_lt → iB, div_lt_iff_lt_mul → bO, eq_zero_or_pos → bA, le_refl → aG, lt_or_ge → aH, mod_eq_of_lt → gH, mod_lt → iD, mul_add → aU, mul_assoc → bV, mul_comm → aL, mul_le_mul → dU, mul_le_mul_left → aM, mul_le_mul_right → aZ, mul_left_comm → dz, mul_pos → fV, one_mul → jE, pow_add → eG, pow_succ → bF, zero_add → dS
namespace Go.Num
theorem pV {B:Nat} {v:List Nat} {k:Nat} (hv:v.length=k+2):val B v=val B (v.take k)+B^k*(v.getD k 0+B*v.getD (k+1) 0):=by
 have h1:=cO B (l:=v) (k:=k) zo;have h2:=cO B (l:=v) (k:=k+1) zo;rw [show k+1+1=v.length by omega,eX] at h2;rw [h2,h1,aU,bF,bV,Nat.add_assoc]
theorem tV {B:Nat} {u:List Nat} {k:Nat} (hu:u.length=k+3):val B u=val B (u.take k)+B^k*(u.getD k 0+B*(u.getD (k+1) 0+B*u.getD (k+2) 0)):=by
 have h1:=cO B (l:=u) (k:=k) zo;have h2:=cO B (l:=u) (k:=k+1) zo;have h3:=cO B (l:=u) (k:=k+2) zo;rw [show k+2+1=u.length by omega,eX] at h3;rw [h3,h2,h1];simp only [aU,bF,bV];omega
structure H9 (B U V top head q r:Nat):Prop where
 split:q*top+r=head
 high:U / V≤q
 bound:q≤B+1
section
variable {B:Nat} {u v:List Nat} {k:Nat}
theorem FV (hB:1<B) (hu:u.length=k+3) (hv:v.length=k+2) (du:gF B u) (ht:B≤2*v.getD (k+1) 0) (hlt:val B u<val B v*B) (dv:gF B v) :
  H9 B (val B u) (val B v) (v.getD (k+1) 0) (u.getD (k+2) 0*B+u.getD (k+1) 0) ((u.getD (k+2) 0*B+u.getD (k+1) 0) / v.getD (k+1) 0) ((u.getD (k+2) 0*B+u.getD (k+1) 0)%v.getD (k+1) 0):=by
 have eu:=tV (B:=B) hu;have ev:=pV (B:=B) hv;have lu:=jF zo (du.take k);have lv:=jF zo (dv.take k);rw [show (u.take k).length=k by simp;omega] at lu;rw [show (v.take k).length=k by simp;omega] at lv;have d0:=du.getD zo k;have d1:=du.getD zo (k+1);have f0:=dv.getD zo k;generalize u.getD k 0=u2 at *;generalize u.getD (k+1) 0=u1 at *;generalize u.getD (k+2) 0=un at *;generalize v.getD k 0=v2 at *;generalize v.getD (k+1) 0=top at *;generalize val B (u.take k)=a at *;generalize val B (v.take k)=b at *;have hp:0<B^k:=Nat.pow_pos zo;generalize B^k=p at *;have htop:0<top:=by omega
 have hV:0<val B v:=by
  rw [ev];have:0<p*(v2+B*top):=fV hp (by have:=fV (by omega:0<B) htop;omega);omega
 have Te:=bU (un*B+u1) top;have hml:=iD (un*B+u1) htop;refine ⟨by rw [aL];exact Te,?_,?_⟩
 ·rw [← Nat.lt_succ_iff,bO hV,eu,ev];generalize (un*B+u1) / top=q at *;have h1:un*B+u1+1≤(q+1)*top:=by rw [dH,jE,aL q];omega
  have h2:p*(B*(un*B+u1+1))≤p*(B*((q+1)*top)):=aM _ (aM _ h1)
  have h3:a+p*(u2+B*(u1+B*un))<p*(B*(un*B+u1+1)):=by
   have:p*(u2+B*(u1+B*un)+1)≤p*(B*(un*B+u1+1)):=aM _ (by rw [aU B (un*B+u1),Nat.mul_one,Nat.add_comm u1,aL B un];omega);rw [aU,Nat.mul_one] at this;omega
  have h4:p*(B*((q+1)*top))≤Nat.succ q*(b+p*(v2+B*top)):=by
   rw [Nat.succ_eq_add_one,show p*(B*((q+1)*top))=(q+1)*(p*(B*top)) by rw [dz B,dz p]];refine aM _ ?_;rw [aU p];omega
  omega
 ·-- the highest digit of u is at most that of v
  have h1:un≤top:=by
   rcases aH top un with h|h
   ·exfalso
    rw [eu,ev] at hlt;have h2:p*(B*(B*(top+1)))≤p*(B*(B*un)):=aM _ (aM _ (aM _ h))
    have h3:(b+p*(v2+B*top))*B≤p*(B*(B*(top+1))):=by
     have:b+p*(v2+B*top)≤p*(B*(top+1)):=by
      have h5:p*(v2+1+B*top)≤p*(B*(top+1)):=aM _ (by rw [aU B top,Nat.mul_one];omega);simp only [aU,Nat.mul_one] at h5 ⊢;omega
     calc (b+p*(v2+B*top))*B≤p*(B*(top+1))*B:=aZ _ this
      _=p*(B*(B*(top+1))):=by rw [bV,aL (B*(top+1)) B]
    have h4:p*(B*(B*un))≤a+p*(u2+B*(u1+B*un)):=by simp only [aU];omega
    omega
   ·exact h
  have h2:(un*B+u1) / top<B+2:=by
   rw [bO htop];have h3:un*B≤top*B:=aZ _ h1;rw [dH,aL B top];omega
  omega
theorem Jd (hB:1<B) (hu:u.length=k+3) (hv:v.length=k+2) (du:gF B u) {q r:Nat} (ht:0<v.getD (k+1) 0) (hlt:val B u<val B v*B)
  (g:H9 B (val B u) (val B v) (v.getD (k+1) 0) (u.getD (k+2) 0*B+u.getD (k+1) 0) q r) (hc:B≤q∨r*B+u.getD k 0<q*v.getD k 0) :
  1≤q∧H9 B (val B u) (val B v) (v.getD (k+1) 0) (u.getD (k+2) 0*B+u.getD (k+1) 0) (q - 1) (r+v.getD (k+1) 0):=by
 have eu:=tV (B:=B) hu;have ev:=pV (B:=B) hv;have lu:=jF zo (du.take k);rw [show (u.take k).length=k by simp;omega] at lu;obtain ⟨g1,g2,g3⟩:=g;generalize u.getD k 0=u2 at *;generalize u.getD (k+1) 0=u1 at *;generalize u.getD (k+2) 0=un at *;generalize v.getD k 0=v2 at *;generalize v.getD (k+1) 0=top at *;generalize val B (u.take k)=a at *;generalize val B (v.take k)=b at *;have hp:0<B^k:=Nat.pow_pos zo;generalize B^k=p at *
 have hV:0<val B v:=by
  rw [ev];have:0<p*(v2+B*top):=fV hp (by have:=fV (by omega:0<B) ht;omega);omega
 have hq:val B u / val B v<q:=by
  rcases hc with hc|hc
  ·have:val B u / val B v<B:=by rw [bO hV,aL];exact hlt
   omega
  ·rw [bO hV,eu,ev]
   have h1:u2+B*(u1+B*un)+1≤q*(v2+B*top):=by
    have:B*(q*top+r)=B*(un*B+u1):=by rw [g1]
    rw [aU B (q*top)] at this;rw [aU q,dz q B top];rw [aU B u1,← aL un B];rw [aU B (un*B)] at this;rw [aL r B] at hc;omega
   have h2:=aM p h1;rw [aU p,Nat.mul_one] at h2
   have h3:p*(q*(v2+B*top))≤q*(b+p*(v2+B*top)):=by
    rw [dz];exact aM _ zo
   omega
 have hq0:=Nat.zero_le (val B u / val B v);obtain ⟨q,rfl⟩:∃ q',q=q'+1:=⟨q - 1,by omega⟩;refine ⟨by omega,?_,by simp only [Nat.add_sub_cancel];omega,by omega⟩;rw [dH,jE] at g1;simp only [Nat.add_sub_cancel];omega
theorem MB (hB:1<B) (hu:u.length=k+3) (hv:v.length=k+2) (dv:gF B v) {q r:Nat} (ht:0<v.getD (k+1) 0)
  (g:H9 B (val B u) (val B v) (v.getD (k+1) 0) (u.getD (k+2) 0*B+u.getD (k+1) 0) q r) (hc:q≤B) (hc2:q*v.getD k 0≤r*B+u.getD k 0):q≤val B u / val B v+1:=by
 have eu:=tV (B:=B) hu;have ev:=pV (B:=B) hv;have lv:=jF zo (dv.take k);rw [show (v.take k).length=k by simp;omega] at lv;obtain ⟨g1,g2,g3⟩:=g;generalize u.getD k 0=u2 at *;generalize u.getD (k+1) 0=u1 at *;generalize u.getD (k+2) 0=un at *;generalize v.getD k 0=v2 at *;generalize v.getD (k+1) 0=top at *;generalize val B (u.take k)=a at *;generalize val B (v.take k)=b at *;have hp:0<B^k:=Nat.pow_pos zo;generalize B^k=p at *
 have hV:0<val B v:=by
  rw [ev];have:0<p*(v2+B*top):=fV hp (by have:=fV (by omega:0<B) ht;omega);omega
 have hq0:=Nat.zero_le (val B u / val B v)
 rcases bA q with h0|h0
 ·omega
 obtain ⟨q',rfl⟩:∃ q',q=q'+1:=⟨q - 1,by omega⟩;rw [Nat.add_le_add_iff_right,Nat.le_div_iff_mul_le hV]
 have h1:(q'+1)*(v2+B*top)≤u2+B*(u1+B*un):=by
  have:B*((q'+1)*top+r)=B*(un*B+u1):=by rw [g1]
  rw [aU B ((q'+1)*top)] at this;rw [aU (q'+1),dz (q'+1) B top];rw [aU B u1,← aL un B];rw [aU B (un*B)] at this;rw [aL r B] at hc2;omega
 have h2:=aM p h1;have h3:(q'+1)*b≤B*p:=dU hc zo
 have h4:B*p≤p*(v2+B*top):=by
  rw [aL B p];refine aM _ ?_;have:B*1≤B*top:=aM _ ht;omega
 have h5:(q'+1)*val B v≤val B u+val B v:=by
  rw [eu,ev,aU,dz (q'+1) p];omega
 rw [dH,jE] at h5;omega
end
theorem N8 {B:Nat} {u v s:List Nat} {i q c b d c' b':Nat} (hiu:i<u.length) (hiv:i<v.length) (hs:s.length=i)
  (he:val B s+q*val B (v.take i)=val B (u.take i)+(b+c)*B^i) (h:d+b+(c+q*v.getD i 0)%B=u.getD i 0+b'*B) (hc:c'=(c+q*v.getD i 0) / B) :
  val B (s++[d])+q*val B (v.take (i+1))=val B (u.take (i+1))+(b'+c')*B^(i+1):=by
 rw [jX,cO B hiu,cO B hiv,hs,bF];have h1:B*c'+(c+q*v.getD i 0)%B=c+q*v.getD i 0:=by rw [hc];exact bU _ _
 generalize (c+q*v.getD i 0)%B=m at *;have h2:d+b+(c+q*v.getD i 0)=u.getD i 0+(b'+c')*B:=by rw [dH,aL c' B];omega
 have h3:=congrArg (B^i* ·) h2;simp only [aU] at h3 he ⊢;rw [show (b'+c')*(B^i*B)=B^i*((b'+c')*B) by rw [dz]];rw [show q*(B^i*v.getD i 0)=B^i*(q*v.getD i 0) by rw [dz]];rw [aL (b+c),aU] at he;omega
theorem Oa {B:Nat} {u v s:List Nat} {n q b c un:Nat} (hB:1<B) (hv:v.length=n) (dv:gF B v) (hV:0<val B v)
  (he:val B s+q*val B v=val B (u.take n)+(b+c)*B^n) (hu:val B u=val B (u.take n)+B^n*un) (hc:b+c≤un) (hq1:val B u / val B v≤q) :
  q=val B u / val B v∧val B s=val B u%val B v:=by
 have h1:val B u=q*val B v+(val B s+B^n*(un - (b+c))):=by
  obtain ⟨t,rfl⟩:=Nat.le.dest hc;rw [hu,Nat.add_sub_cancel_left,aU,aL (B^n) (b+c)];omega
 have h2:q*val B v≤val B u:=by omega
 have h3:q≤val B u / val B v:=(Nat.le_div_iff_mul_le hV).2 h2;have hq:q=val B u / val B v:=by omega
 refine ⟨hq,?_⟩;have h4:=bU (val B u) (val B v);rw [← hq,aL] at h4;have h5:val B s+B^n*(un - (b+c))=val B u%val B v:=by omega
 have h6:=iD (val B u) hV;have h7:=jF zo dv;rw [hv] at h7
 rcases bA (un - (b+c)) with h8|h8
 ·rw [h8] at h5;omega
 ·have:B^n*1≤B^n*(un - (b+c)):=aM _ h8;omega
theorem N9 {B:Nat} {u v s:List Nat} {n q b c un:Nat} (hB:1<B) (hs:s.length=n) (ds:gF B s) (hv:v.length=n) (dv:gF B v) (hV:0<val B v)
  (he:val B s+q*val B v=val B (u.take n)+(b+c)*B^n) (hu:val B u=val B (u.take n)+B^n*un) (hc:un<b+c) (hq2:q≤val B u / val B v+1) :
  q=val B u / val B v+1∧val B s+val B v=val B u%val B v+B^n:=by
 have hp:0<B^n:=Nat.pow_pos zo;have h7:=jF zo dv;rw [hv] at h7;have h8:=jF zo ds;rw [hs] at h8;have h4:=bU (val B u) (val B v);have h6:=iD (val B u) hV;obtain ⟨t,ht⟩:=Nat.le.dest hc
 have h1:val B u+B^n*(t+1)=q*val B v+val B s:=by
  rw [hu,Nat.add_assoc,← aU,show un+(t+1)=b+c by omega,aL (B^n)];omega
 have hpt:B^n*(t+1)=B^n*t+B^n:=by rw [aU,Nat.mul_one]
 have hq3:val B u / val B v+1≤q:=by
  rcases aH (val B u / val B v) q with h|h
  ·exact h
  ·exfalso
   have:q*val B v≤val B u / val B v*val B v:=aZ _ h;rw [aL (val B u / val B v)] at this;omega
 have hq:q=val B u / val B v+1:=by omega
 refine ⟨hq,?_⟩;rw [hq,dH,jE,aL (val B u / val B v)] at h1;have h9:val B u%val B v+B^n*(t+1)=val B v+val B s:=by omega
 rcases bA t with h|h
 ·rw [h,dS,Nat.mul_one] at h9;omega
 ·have:B^n*1≤B^n*t:=aM _ h;omega
theorem EU {B t:Nat} (hB:B=1000000000) (ht:0<t) (htB:t<B):B≤2*(t*(B / (t+1))):=by
 have hd:=bU B (t+1);have hm:=iD B (Nat.succ_pos t);have hs:0<B / (t+1):=Nat.div_pos zo zo;generalize B / (t+1)=s at *;generalize B%(t+1)=m at *;obtain ⟨s',rfl⟩:∃ s',s=s'+1:=⟨s - 1,by omega⟩;rw [dH t 1,jE] at hd;have h1:t*(s'+1)=t*s'+t:=by rw [aU,Nat.mul_one]
 have h2:m≤t:=by omega
 rcases bA s' with h|h
 ·subst h;omega
 ·obtain ⟨t',rfl⟩:∃ t',t=t'+1:=⟨t - 1,by omega⟩;obtain ⟨r,rfl⟩:∃ r,s'=r+1:=⟨s' - 1,by omega⟩;have h3:(t'+1)*(r+1+1)=t'*r+2*t'+r+2:=by simp only [dH,aU];omega
  have h4:0≤t'*r:=Nat.zero_le _;rw [h3] at hd ⊢
  rcases bA t' with h5|h5
  ·subst h5;omega
  ·have h6:r≤t'*r:=by have:=aZ r h5;omega
   omega
theorem A9 (B:Nat) {l:List Nat} {t:Nat} (ht:t≤l.length):val B l=val B (l.take t)+B^t*val B (l.drop t):=by
 conv=>lhs;rw [← gy t l,val_append]
 rw [List.length_take,Nat.min_eq_left ht]
theorem EY {b k:Nat} (hs:sz 1000000000 b=k+2) :
  let t:=(fG 1000000000 b).getD (k+1) 0
  let s:=1000000000 / (t+1)
  0<t∧t<1000000000∧0<s∧s≤500000000∧sz 1000000000 (b*s)=k+2∧1000000000≤2*(fG 1000000000 (b*s)).getD (k+1) 0:=by
 intro t s;have hB:1<1000000000:=by omega
 have hl:(fG 1000000000 b).length=k+2:=hs;have ht0:0<t:=Nat.pos_of_ne_zero (qU hB b (k+1) hl);have htB:t<1000000000:=(eH hB b).getD zo (k+1);have hs0:0<s:=Nat.div_pos zo zo
 have hs5:s≤500000000:=by
  have:s≤1000000000 / 2:=Nat.div_le_div_left zo zo;omega
 have hsd:s*(t+1)≤1000000000:=Nat.div_mul_le_self _ _;have hp:0<1000000000^(k+1):=Nat.pow_pos zo
 have hb:b=val 1000000000 ((fG 1000000000 b).take (k+1))+1000000000^(k+1)*t:=by
  have h1:=cO 1000000000 (l:=fG 1000000000 b) (k:=k+1) zo;rw [show k+1+1=(fG 1000000000 b).length by omega,eX,dh hB] at h1;exact h1
 have hlow:val 1000000000 ((fG 1000000000 b).take (k+1))<1000000000^(k+1):=by
  have:=jF zo ((eH hB b).take (k+1))
  rwa [show ((fG 1000000000 b).take (k+1)).length=k+1 by simp;omega] at this
 have h1:b*s<1000000000^(k+2):=by
  have h2:b<1000000000^(k+1)*(t+1):=by rw [aU,Nat.mul_one];omega
  have h3:b*s<1000000000^(k+1)*(t+1)*s:=Nat.mul_lt_mul_of_pos_right h2 hs0;have h4:1000000000^(k+1)*((t+1)*s)≤1000000000^(k+1)*1000000000:=aM _ (by rw [aL];exact hsd);rw [bV] at h3;rw [bF 1000000000 (k+1)];omega
 have h2:sz 1000000000 (b*s)=k+2:=by
  have h3:=cZ hB _ _ h1;have h4:sz 1000000000 b≤sz 1000000000 (b*s):=jK hB (Nat.le_mul_of_pos_right _ hs0);omega
 refine ⟨ht0,htB,hs0,hs5,h2,?_⟩;have hl2:(fG 1000000000 (b*s)).length=k+2:=h2
 have hb2:b*s=val 1000000000 ((fG 1000000000 (b*s)).take (k+1))+1000000000^(k+1)*(fG 1000000000 (b*s)).getD (k+1) 0:=by
  have h1:=cO 1000000000 (l:=fG 1000000000 (b*s)) (k:=k+1) zo;rw [show k+1+1=(fG 1000000000 (b*s)).length by omega,eX,dh hB] at h1;exact h1
 have aq4:val 1000000000 ((fG 1000000000 (b*s)).take (k+1))<1000000000^(k+1):=by
  have:=jF zo ((eH hB (b*s)).take (k+1))
  rwa [show ((fG 1000000000 (b*s)).take (k+1)).length=k+1 by simp;omega] at this
 have hge:=EU (B:=1000000000) rfl ht0 htB;generalize (fG 1000000000 (b*s)).getD (k+1) 0=t2 at *
 have h5:t*s≤t2:=by
  rcases aH t2 (t*s) with h|h
  ·exfalso
   have h6:1000000000^(k+1)*(t2+1)≤1000000000^(k+1)*(t*s):=aM _ h;rw [aU,Nat.mul_one,← bV] at h6;have h7:1000000000^(k+1)*t*s≤b*s:=aZ _ zo;omega
  ·exact h
 have h8:1000000000≤2*(t*s):=hge;omega
theorem dividend {a b s k:Nat} (hs0:0<s) (hs1:s<1000000000) (hb:sz 1000000000 b=k+2) (hab:k+2≤sz 1000000000 a) :
  let us:=fG 1000000000 (a*s)++bP (sz 1000000000 a+1 - sz 1000000000 (a*s)) 0
  sz 1000000000 (a*s)≤sz 1000000000 a+1∧us.length=sz 1000000000 a+1∧gF 1000000000 us∧val 1000000000 us=a*s∧val 1000000000 (us.drop (sz 1000000000 a - (k+2)+1))<b*s:=by
 intro us;have hB:1<1000000000:=by omega
 have h1:sz 1000000000 (a*s)≤sz 1000000000 a+1:=by
  have:=kg hB a s;have h2:=cZ hB 1 s zo;omega
 have h2:us.length=sz 1000000000 a+1:=by simp only [us,List.length_append,List.length_replicate];unfold sz at*; omega
 have h3:val 1000000000 us=a*s:=by simp only [us];rw [val_append,vI,dh hB];simp
 refine ⟨h1,h2,(eH hB _).append fun x hx=>by rw [List.eq_of_mem_replicate hx];omega,h3,?_⟩;have h4:=A9 1000000000 (l:=us) (t:=sz 1000000000 a - (k+2)+1) zo;rw [h3] at h4;have h5:=CS hB (n:=b) (k:=k+1) zo;have h6:=jO hB a;have h7:1000000000^sz 1000000000 a=1000000000^(k+1)*1000000000^(sz 1000000000 a - (k+2)+1):=by rw [← eG];congr 1;omega
 generalize 1000000000^(sz 1000000000 a - (k+2)+1)=p at *
 have h8:a<b*p:=by
  have:1000000000^(k+1)*p≤b*p:=aZ _ h5;omega
 rcases aH (val 1000000000 (us.drop (sz 1000000000 a - (k+2)+1))) (b*s) with h|h
 ·exact h
 ·exfalso
  have h9:p*(b*s)≤a*s:=by have:=aM p h;omega
  have h10:a*s<b*p*s:=Nat.mul_lt_mul_of_pos_right h8 hs0;rw [show p*(b*s)=b*p*s by rw [← bV,aL p b]] at h9;omega
theorem Mk {B:Nat} {us s s' qs:List Nat} {j V q:Nat} (hj:j<us.length) (he:val B (us.drop (j+1))=V*val B qs+val B s)
  (hq:q=val B (us.getD j 0::s) / V) (hs:val B s'=val B (us.getD j 0::s)%V):val B (us.drop j)=V*val B (q::qs)+val B s':=by
 rw [kF hj];have h:=bU (val B (us.getD j 0::s)) V;rw [← hq,← hs] at h;simp only [val] at h ⊢;rw [he,aU V,aU B,dz V B];omega
theorem Lf {B x V:Nat} {s:List Nat} (hx:x<B) (hs:val B s<V):val B (x::s)<V*B:=by
 have h:B*(val B s+1)≤B*V:=aM _ hs;rw [aU,Nat.mul_one,aL B V] at h;simp only [val];omega
theorem Pb {a b s q r:Nat} (hs:0<s) (he:a*s=b*s*q+r) (hr:r<b*s):q=a / b∧r / s=a%b:=by
 have h1:a*s / (b*s)=a / b:=Nat.mul_div_mul_right _ _ hs;have h2:a*s%(b*s)=a%b*s:=Nat.mul_mod_mul_right _ _ _;have hp:0<b*s:=by omega
 rw [he,Nat.mul_add_div hp,iB hr,gL] at h1;rw [he,Nat.mul_add_mod,gH hr] at h2;exact ⟨h1,by rw [h2,Nat.mul_div_cancel _ hs]⟩
end Go.Num
namespace Go.Fx
open Go Go.RowKit Go.SW Go.Mem
abbrev Sl:=List (Nat × Value)
def look:Sl→Nat→Option Value
 | [],_=>none
 | p::S,j=>bif Nat.beq j p.1 then some p.2 else look S j
theorem nE (p:Nat × Value) (S:Sl) (j:Nat):look (p::S) j=bif Nat.beq j p.1 then some p.2 else look S j:=rfl
def ev (S:Sl):Operand→Value
 | .tmp t=>(look S t).getD undef
 | .const v=>v
 | .global g=>au (some ⟨g,0,none⟩)
 | .func f=>.func (.func f) #[] #[]
def known (S:Sl):Operand→Bool
 | .tmp t=>(look S t).isSome
 | _=>true
structure sK (n:Nat) (S:Sl) (a:Act):Prop where
 size:a.tmps.size=n
 get:∀ i v,look S i=some v→a.tmps.getD i undef=v
 defers:a.defers=[]
theorem sK.eval {n:Nat} {S:Sl} {a:Act} (h:sK n S a) {x:Operand} (hx:known S x=true):a.eval x=ev S x:=by
 cases x with
 | tmp t =>
  obtain ⟨v,hv⟩:=Option.isSome_iff_exists.1 hx;exact (h.get t v hv).trans (by simp [ev,hv])
 | const v=>rfl
 | global g=>rfl
 | func f=>rfl
theorem sK.of {n:Nat} {S S':Sl} {a:Act} (h:sK n S a) (hs:∀ i v,look S' i=some v→look S i=some v):sK n S' a:=⟨h.size,fun i v hv=>h.get i v (hs i v hv),h.defers⟩
theorem sK.put {n:Nat} {S:Sl} {a:Act} (h:sK n S a) {d:Nat} (hd:d<n) (v:Value):sK n ((d,v)::S) (a.put (some d) v):=by
 refine ⟨by simpa [Act.put] using h.size,fun i u hu=>?_,h.defers⟩;rw [nE] at hu
 show (a.tmps.setIfInBounds d v).getD i undef=u
 have hs:=h.size;cases hi:Nat.beq i d with
 | true =>
  obtain rfl:=Nat.eq_of_beq_eq_true hi;simp only [hi,cond_true,Option.some.injEq] at hu;subst hu;simp [Array.getD,hs,hd]
 | false =>
  have hne:d≠i:=fun e=>by subst e;simp at hi
  simp only [hi,cond_false] at hu;rw [← h.get i u hu];simp [iw, hne]
def nA (n:Nat) (S:Sl) (d:Option Nat) (v:Value):Option Sl:=match d with
 | some d=>bif Nat.blt d n then some ((d,v)::S) else none
 | none=>some S
theorem sK.nA {n:Nat} {S S':Sl} {a:Act} (h:sK n S a) {d:Option Nat} {v:Value} (hs:Fx.nA n S d v=some S'):sK n S' (a.put d v):=by
 cases d with
 | none=>cases hs;exact h
 | some d =>
  unfold Fx.nA at hs;cases hb:Nat.blt d n with
  | true=>simp only [hb,cond_true,Option.some.injEq] at hs;subst hs;exact h.put (Nat.le_of_ble_eq_true hb) v
  | false=>simp only [hb,cond_false] at hs;cases hs
def yl (ops:Array Oper) (S:Sl) (j:Nat):Option Bool:=match (ops[j]?).bind (·.dst) with
 | some d=>(match look S d with|some (.bool b)=>some b| _=>none)
 | none=>none
def gk (ops:Array Oper) (S:Sl) (o:Oper):Bool:=match o.guard with
 | none=>true
 | some (g,_)=>(match (ops[g]?).bind (·.dst) with|some d=>(look S d).isSome|none=>true)
theorem sK.wanted {n:Nat} {S:Sl} {a:Act} (h:sK n S a) {ops:Array Oper} {o:Oper} (hg:gk ops S o=true):Region.wanted o (yielded ops a.tmps)=Region.wanted o (yl ops S):=by
 unfold Region.wanted;unfold gk at hg;cases ho:o.guard with
 | none=>rfl
 | some gw =>
  obtain ⟨g,w⟩:=gw;simp only [ho] at hg ⊢
  congr 1
  unfold yielded Fx.yl;cases hd:(ops[g]?).bind (·.dst) with
  | none=>rfl
  | some d =>
   simp only [hd] at hg;obtain ⟨v,hv⟩:=Option.isSome_iff_exists.1 hg;have hgt:=h.get d v hv;simp only [Option.bind_some,hv];rw [iw] at hgt;cases ht:a.tmps[d]? with
   | none=>rw [ht] at hgt;rw [← hgt];rfl
   | some v'=>rw [ht] at hgt;rw [← hgt];cases v'<;>rfl
/-! ### What stands behind -/
inductive Kt|seq (c:Code)|block (id:Nat)|again (c:Code) (m:Nat)
abbrev Post:=Exit→Sl→World→Prop
def lift (n:Nat) (Q:Post):Exit→Act→World→Prop
 | .panic c,a,w=>a.defers=[]∧∃ S,Q (.panic c) S w
 | e,a,w=>∃ S,sK n S a∧Q e S w
theorem su {n:Nat} {Q:Post} {e:Exit} {a:Act} {w:World} {S:Sl} (h:sK n S a) (hq:Q e S w):lift n Q e a w:=by
 cases e with
 | panic c=>exact ⟨h.defers,S,hq⟩
 | _=>exact ⟨S,h,hq⟩
theorem zN {n:Nat} {Q:Post} (c:List PanicEntry) (a s:Act) (w:World) (hs:s.defers=a.defers) (h:lift n Q (.panic c) a w):lift n Q (.panic c) s w:=⟨hs.trans h.1,h.2⟩
section
variable (P:Program) (n:Nat)
def rounds (c:Code) (Q:Post):Nat→Sl→World→Prop
 | 0,_,_=>False
 | m+1,S,w=>∀ a,sK n S a→c.wp P (lift n (fun e S w=>match e with| .normal=>rounds c Q m S w|e=>Q e S w)) a w
def Cont (R:Post):List Kt→Post
 | [],e,S,w=>R e S w
 | .seq c::k,.normal,S,w=>∀ a,sK n S a→c.wp P (lift n (Cont R k)) a w
 | .seq _::k,e,S,w=>Cont R k e S w
 | .block id::k,.exit id',S,w=>if id'=id then Cont R k .normal S w else Cont R k (.exit id') S w
 | .block _::k,e,S,w=>Cont R k e S w
 | .again c m::k,.normal,S,w=>rounds P n c (Cont R k) m S w
 | .again _ _::k,e,S,w=>Cont R k e S w
structure Wc (R:Post) (c:Code) (k:List Kt) (S:Sl) (w:World):Prop where
 out:∀ a,sK n S a→c.wp P (lift n (Cont P n R k)) a w
structure Nx (R:Post) (e:Exit) (k:List Kt) (S:Sl) (w:World):Prop where
 out:Cont P n R k e S w
end
section
variable {P:Program} {n:Nat} {R:Post} {k:List Kt} {S:Sl} {w:World} {c c1 c2:Code} {e:Exit}
theorem seq (h:Wc P n R c1 (.seq c2::k) S w):Wc P n R (.seq c1 c2) k S w:=⟨fun a ha=>wp_seq (wp_mono (h.out a ha) fun e a w hq=>by
 cases e with
 | normal=>obtain ⟨S,hs,hq⟩:=hq;exact hq a hs
 | exit id=>obtain ⟨S,hs,hq⟩:=hq;exact ⟨S,hs,hq⟩
 | goto id=>obtain ⟨S,hs,hq⟩:=hq;exact ⟨S,hs,hq⟩
 | ret=>obtain ⟨S,hs,hq⟩:=hq;exact ⟨S,hs,hq⟩
 | panic ch=>obtain ⟨hd,S,hq⟩:=hq;exact ⟨hd,S,hq⟩
 | outgrown=>obtain ⟨S,hs,hq⟩:=hq;exact ⟨S,hs,hq⟩)⟩
theorem block {id:Nat} (h:Wc P n R c (.block id::k) S w):Wc P n R (.block id c) k S w:=⟨fun a ha=>wp_block (wp_mono (h.out a ha) fun e a w hq=>by
 cases e with
 | normal=>obtain ⟨S,hs,hq⟩:=hq;exact ⟨S,hs,hq⟩
 | exit id' =>
  obtain ⟨S,hs,hq⟩:=hq;simp only [Cont] at hq;simp only [Exit.inBlock];split at hq
  ·rename_i h;rw [if_pos h];exact ⟨S,hs,hq⟩
  ·rename_i h;rw [if_neg h];exact ⟨S,hs,hq⟩
 | goto id=>obtain ⟨S,hs,hq⟩:=hq;exact ⟨S,hs,hq⟩
 | ret=>obtain ⟨S,hs,hq⟩:=hq;exact ⟨S,hs,hq⟩
 | panic ch=>obtain ⟨hd,S,hq⟩:=hq;exact ⟨hd,S,hq⟩
 | outgrown=>obtain ⟨S,hs,hq⟩:=hq;exact ⟨S,hs,hq⟩)⟩
theorem skip (h:Nx P n R .normal k S w):Wc P n R .skip k S w:=⟨fun _ ha=>wp_skip (su ha h.out)⟩
theorem exit {id:Nat} (h:Nx P n R (.exit id) k S w):Wc P n R (.exit id) k S w:=⟨fun _ ha=>wp_exit (su ha h.out)⟩
theorem ret (h:Nx P n R .ret k S w):Wc P n R .ret k S w:=⟨fun _ ha=>wp_ret (su ha h.out)⟩
theorem cond {x:Operand} {b:Bool} (hk:known S x=true) (hx:ev S x= aC b) (h:Wc P n R (if b then c1 else c2) k S w):Wc P n R (.cond x c1 c2) k S w:=by
 cases b with
 | true=>exact ⟨fun a ha=>wp_cond_true (by rw [ha.eval hk,hx]) (h.out a ha)⟩
 | false=>exact ⟨fun a ha=>wp_cond_false (by rw [ha.eval hk,hx]) (h.out a ha)⟩
theorem E5 (m:Nat) {Q:Post} {a:Act} (h:rounds P n c Q m S w) (ha:sK n S a):Code.rounds P c (lift n Q) m a w:=by
 induction m generalizing S a w with
 | zero=>exact h.elim
 | succ m ih =>
  refine wp_mono (h a ha) fun e a w hq=>?_;cases e with
  | normal=>obtain ⟨S,hs,hq⟩:=hq;exact ih hq hs
  | exit id=>obtain ⟨S,hs,hq⟩:=hq;exact ⟨S,hs,hq⟩
  | goto id=>obtain ⟨S,hs,hq⟩:=hq;exact ⟨S,hs,hq⟩
  | ret=>obtain ⟨S,hs,hq⟩:=hq;exact ⟨S,hs,hq⟩
  | panic ch=>obtain ⟨hd,S,hq⟩:=hq;exact ⟨hd,S,hq⟩
  | outgrown=>obtain ⟨S,hs,hq⟩:=hq;exact ⟨S,hs,hq⟩
theorem again {m:Nat} (h:Wc P n R c (.again c m::k) S w):Nx P n R .normal (.again c (m+1)::k) S w:=⟨fun a ha=>wp_mono (h.out a ha) fun e a w hq=>by
 cases e with
 | normal=>obtain ⟨S,hs,hq⟩:=hq;exact ⟨S,hs,hq⟩
 | exit id=>obtain ⟨S,hs,hq⟩:=hq;exact ⟨S,hs,hq⟩
 | goto id=>obtain ⟨S,hs,hq⟩:=hq;exact ⟨S,hs,hq⟩
 | ret=>obtain ⟨S,hs,hq⟩:=hq;exact ⟨S,hs,hq⟩
 | panic ch=>obtain ⟨hd,S,hq⟩:=hq;exact ⟨hd,S,hq⟩
 | outgrown=>obtain ⟨S,hs,hq⟩:=hq;exact ⟨S,hs,hq⟩⟩
theorem loop (m:Nat) (h:Wc P n R c (.again c m::k) S w):Wc P n R (.loop c) k S w :=
 ⟨fun _ ha=>wp_loop_rounds (m+1) (E5 (m+1) (again h).out ha)⟩
theorem Ws (h:Wc P n R c k S w):Nx P n R .normal (.seq c::k) S w:=⟨h.out⟩
theorem Sr {id:Nat} (h:Nx P n R (.exit id) k S w):Nx P n R (.exit id) (.seq c::k) S w:=⟨h.out⟩
theorem OT {id:Nat} (h:Nx P n R .normal k S w):Nx P n R .normal (.block id::k) S w:=⟨h.out⟩
theorem Sw {id:Nat} (h:Nx P n R .normal k S w):Nx P n R (.exit id) (.block id::k) S w:=⟨by unfold Cont;rw [if_pos rfl];exact h.out⟩
theorem Sv {id id':Nat} (hne:id'≠id) (h:Nx P n R (.exit id') k S w):Nx P n R (.exit id') (.block id::k) S w:=⟨by unfold Cont;rw [if_neg hne];exact h.out⟩
theorem L9 {id m:Nat} (h:Nx P n R (.exit id) k S w):Nx P n R (.exit id) (.again c m::k) S w:=⟨h.out⟩
end
/-! ### Entry and end -/
def Ends (P:Program) (n:Nat) (fn:Func) (E:Ending→World→Prop):Post
 | .normal,S,w=>∀ a,sK n S a→∃ v,(results fn a.tmps).run P w= .ok v w∧E (ah v) w
 | .ret,S,w=>∀ a,sK n S a→∃ v,(results fn a.tmps).run P w= .ok v w∧E (ah v) w
 | .panic c,_,w=>E (.panicked c) w
 | _,_,_=>False
def start:List Value→Nat→Sl
 | [],_=>[]
 | v::l,i=>(i,v)::start l (i+1)
theorem IW (l:List Value):∀ i j v,look (start l i) j=some v→i≤j∧l[j - i]? =some v:=by
 induction l with
 | nil=>intro i j v h;cases h
 | cons v l ih =>
  intro i j u h;simp only [start,nE] at h;cases hb:Nat.beq j i with
  | true=>obtain rfl:=Nat.eq_of_beq_eq_true hb;simp only [hb,cond_true] at h;exact ⟨aG _,by simpa using h⟩
  | false =>
   simp only [hb,cond_false] at h;obtain ⟨h1,h2⟩:=ih (i+1) j u h;exact ⟨by omega,by rw [show j - i=(j - (i+1))+1 by omega];simpa using h2⟩
theorem enter {P:Program} {f:FuncId} {fn:Func} {c:Code} {l:List Value} {w:World} {E:Ending→World→Prop} {n:Nat} (hf:P.funcs[f]? =some fn) (hb:fn.body=some c) (hn:fn.ntmps=n) (hl':Nat.ble l.length n=true)
  (h:Wc P n (Ends P n fn E) c [] (start l 0) w):Calls P f l.toArray w E:=by
 have hl:l.length≤n:=Nat.le_of_ble_eq_true hl';refine calls_of_wp hf hb (wp_mono (h.out _ ⟨?_,fun i v hv=>?_,rfl⟩) fun e a w hq=>?_)
 ·simp [hn];omega
 ·have:=(IW l 0 i v hv).2;simp only [Nat.sub_zero] at this;rw [iw, Array.getElem?_append];have hi:=(List.getElem?_eq_some_iff.1 this).1;simp [hi]
  have:=(List.getElem?_eq_some_iff.1 this).2
  simpa using this
 ·cases e with
  | normal=>obtain ⟨S,hs,hq⟩:=hq;obtain ⟨v,h1,h2⟩:=hq a hs;exact ⟨hs.defers,v,h1,h2⟩
  | ret=>obtain ⟨S,hs,hq⟩:=hq;obtain ⟨v,h1,h2⟩:=hq a hs;exact ⟨hs.defers,v,h1,h2⟩
  | panic ch=>obtain ⟨hd,S,hq⟩:=hq;exact ⟨hd,hq⟩
  | exit id=>obtain ⟨S,hs,hq⟩:=hq;exact hq.elim
  | goto id=>obtain ⟨S,hs,hq⟩:=hq;exact hq.elim
  | outgrown=>obtain ⟨S,hs,hq⟩:=hq;exact hq.elim
end Go.Fx
