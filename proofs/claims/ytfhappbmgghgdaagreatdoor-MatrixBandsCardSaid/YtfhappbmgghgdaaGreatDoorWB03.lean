/- Lemmas for the proof. No condition. -/
import Derived.Test.YtfhappbmgghgdaaGreatDoorWB01
import Derived.Test.YtfhappbmgghgdaaGreatDoorWB02
import Derived.Test.YtfhappbmgghgdaaGreatDoorProg
import Derived.RangeFuncCalls
import Derived.OrdersIn
import Derived.KernelRfl
import Derived.WalkMore
import Derived.Deep.RegionHeld
set_option linter.unusedVariables false
set_option linter.unusedSimpArgs false
set_option maxRecDepth 100000
set_option maxHeartbeats 16000000
namespace Go.Num
theorem mK {B:Nat} {v:List Nat} {k:Nat} (hv:v.length=k+2):val B v=val B (v.take k)+B^k*(v.getD k 0+B*v.getD (k+1) 0):=by
 have h1:=aY B (l:=v) (k:=k) zo;have h2:=aY B (l:=v) (k:=k+1) zo;rw [show k+1+1=v.length by omega,List.take_length] at h2;rw [h2,h1,Nat.mul_add,Nat.pow_succ,Nat.mul_assoc,Nat.add_assoc]
theorem sP {B:Nat} {u:List Nat} {k:Nat} (hu:u.length=k+3):val B u=val B (u.take k)+B^k*(u.getD k 0+B*(u.getD (k+1) 0+B*u.getD (k+2) 0)):=by
 have h1:=aY B (l:=u) (k:=k) zo;have h2:=aY B (l:=u) (k:=k+1) zo;have h3:=aY B (l:=u) (k:=k+2) zo;rw [show k+2+1=u.length by omega,List.take_length] at h3;rw [h3,h2,h1];simp only [Nat.mul_add,Nat.pow_succ,Nat.mul_assoc];omega
structure IU (B U V top head q r:Nat):Prop where
 split:q*top+r=head
 high:U / V≤q
 bound:q≤B+1
section
variable {B:Nat} {u v:List Nat} {k:Nat}
theorem Ho (hB:1<B) (hu:u.length=k+3) (hv:v.length=k+2) (du:dz B u) (ht:B≤2*v.getD (k+1) 0) (hlt:val B u<val B v*B) (dv:dz B v) :
  IU B (val B u) (val B v) (v.getD (k+1) 0) (u.getD (k+2) 0*B+u.getD (k+1) 0) ((u.getD (k+2) 0*B+u.getD (k+1) 0) / v.getD (k+1) 0) ((u.getD (k+2) 0*B+u.getD (k+1) 0)%v.getD (k+1) 0):=by
 have eu:=sP (B:=B) hu;have ev:=mK (B:=B) hv;have lu:=eD zo (du.take k);have lv:=eD zo (dv.take k);rw [show (u.take k).length=k by simp;omega] at lu;rw [show (v.take k).length=k by simp;omega] at lv;have d0:=du.getD zo k;have d1:=du.getD zo (k+1);have f0:=dv.getD zo k;generalize u.getD k 0=u2 at *;generalize u.getD (k+1) 0=u1 at *;generalize u.getD (k+2) 0=un at *;generalize v.getD k 0=v2 at *;generalize v.getD (k+1) 0=top at *;generalize val B (u.take k)=a at *;generalize val B (v.take k)=b at *;have hp:0<B^k:=Nat.pow_pos zo;generalize B^k=p at *;have htop:0<top:=by omega
 have hV:0<val B v:=by
  rw [ev];have:0<p*(v2+B*top):=Nat.mul_pos hp (by have:=Nat.mul_pos (by omega:0<B) htop;omega);omega
 have JU:=Nat.div_add_mod (un*B+u1) top;have hml:=Nat.mod_lt (un*B+u1) htop;refine ⟨by rw [Nat.mul_comm];exact JU,?_,?_⟩
 ·rw [← Nat.lt_succ_iff,Nat.div_lt_iff_lt_mul hV,eu,ev];generalize (un*B+u1) / top=q at *;have h1:un*B+u1+1≤(q+1)*top:=by rw [Nat.add_mul,Nat.one_mul,Nat.mul_comm q];omega
  have h2:p*(B*(un*B+u1+1))≤p*(B*((q+1)*top)):=Nat.mul_le_mul_left _ (Nat.mul_le_mul_left _ h1)
  have h3:a+p*(u2+B*(u1+B*un))<p*(B*(un*B+u1+1)):=by
   have:p*(u2+B*(u1+B*un)+1)≤p*(B*(un*B+u1+1)):=Nat.mul_le_mul_left _ (by rw [Nat.mul_add B (un*B+u1),Nat.mul_one,Nat.add_comm u1,Nat.mul_comm B un];omega);rw [Nat.mul_add,Nat.mul_one] at this;omega
  have h4:p*(B*((q+1)*top))≤Nat.succ q*(b+p*(v2+B*top)):=by
   rw [Nat.succ_eq_add_one,show p*(B*((q+1)*top))=(q+1)*(p*(B*top)) by rw [Nat.mul_left_comm B,Nat.mul_left_comm p]];refine Nat.mul_le_mul_left _ ?_;rw [Nat.mul_add p];omega
  omega
 ·-- the highest digit of u is at most that of v
  have h1:un≤top:=by
   rcases Nat.lt_or_ge top un with h|h
   ·exfalso
    rw [eu,ev] at hlt;have h2:p*(B*(B*(top+1)))≤p*(B*(B*un)):=Nat.mul_le_mul_left _ (Nat.mul_le_mul_left _ (Nat.mul_le_mul_left _ h))
    have h3:(b+p*(v2+B*top))*B≤p*(B*(B*(top+1))):=by
     have:b+p*(v2+B*top)≤p*(B*(top+1)):=by
      have h5:p*(v2+1+B*top)≤p*(B*(top+1)):=Nat.mul_le_mul_left _ (by rw [Nat.mul_add B top,Nat.mul_one];omega);simp only [Nat.mul_add,Nat.mul_one] at h5 ⊢;omega
     calc (b+p*(v2+B*top))*B≤p*(B*(top+1))*B:=Nat.mul_le_mul_right _ this
      _=p*(B*(B*(top+1))):=by rw [Nat.mul_assoc,Nat.mul_comm (B*(top+1)) B]
    have h4:p*(B*(B*un))≤a+p*(u2+B*(u1+B*un)):=by simp only [Nat.mul_add];omega
    omega
   ·exact h
  have h2:(un*B+u1) / top<B+2:=by
   rw [Nat.div_lt_iff_lt_mul htop];have h3:un*B≤top*B:=Nat.mul_le_mul_right _ h1;rw [Nat.add_mul,Nat.mul_comm B top];omega
  omega
theorem J5 (hB:1<B) (hu:u.length=k+3) (hv:v.length=k+2) (du:dz B u) {q r:Nat} (ht:0<v.getD (k+1) 0) (hlt:val B u<val B v*B)
  (g:IU B (val B u) (val B v) (v.getD (k+1) 0) (u.getD (k+2) 0*B+u.getD (k+1) 0) q r) (hc:B≤q∨r*B+u.getD k 0<q*v.getD k 0) :
  1≤q∧IU B (val B u) (val B v) (v.getD (k+1) 0) (u.getD (k+2) 0*B+u.getD (k+1) 0) (q - 1) (r+v.getD (k+1) 0):=by
 have eu:=sP (B:=B) hu;have ev:=mK (B:=B) hv;have lu:=eD zo (du.take k);rw [show (u.take k).length=k by simp;omega] at lu;obtain ⟨g1,g2,g3⟩:=g;generalize u.getD k 0=u2 at *;generalize u.getD (k+1) 0=u1 at *;generalize u.getD (k+2) 0=un at *;generalize v.getD k 0=v2 at *;generalize v.getD (k+1) 0=top at *;generalize val B (u.take k)=a at *;generalize val B (v.take k)=b at *;have hp:0<B^k:=Nat.pow_pos zo;generalize B^k=p at *
 have hV:0<val B v:=by
  rw [ev];have:0<p*(v2+B*top):=Nat.mul_pos hp (by have:=Nat.mul_pos (by omega:0<B) ht;omega);omega
 have hq:val B u / val B v<q:=by
  rcases hc with hc|hc
  ·have:val B u / val B v<B:=by rw [Nat.div_lt_iff_lt_mul hV,Nat.mul_comm];exact hlt
   omega
  ·rw [Nat.div_lt_iff_lt_mul hV,eu,ev]
   have h1:u2+B*(u1+B*un)+1≤q*(v2+B*top):=by
    have:B*(q*top+r)=B*(un*B+u1):=by rw [g1]
    rw [Nat.mul_add B (q*top)] at this;rw [Nat.mul_add q,Nat.mul_left_comm q B top];rw [Nat.mul_add B u1,← Nat.mul_comm un B];rw [Nat.mul_add B (un*B)] at this;rw [Nat.mul_comm r B] at hc;omega
   have h2:=Nat.mul_le_mul_left p h1;rw [Nat.mul_add p,Nat.mul_one] at h2
   have h3:p*(q*(v2+B*top))≤q*(b+p*(v2+B*top)):=by
    rw [Nat.mul_left_comm];exact Nat.mul_le_mul_left _ zo
   omega
 have hq0:=Nat.zero_le (val B u / val B v);obtain ⟨q,rfl⟩:∃ q',q=q'+1:=⟨q - 1,by omega⟩;refine ⟨by omega,?_,by simp only [Nat.add_sub_cancel];omega,by omega⟩;rw [Nat.add_mul,Nat.one_mul] at g1;simp only [Nat.add_sub_cancel];omega
theorem Oi (hB:1<B) (hu:u.length=k+3) (hv:v.length=k+2) (dv:dz B v) {q r:Nat} (ht:0<v.getD (k+1) 0)
  (g:IU B (val B u) (val B v) (v.getD (k+1) 0) (u.getD (k+2) 0*B+u.getD (k+1) 0) q r) (hc:q≤B) (hc2:q*v.getD k 0≤r*B+u.getD k 0):q≤val B u / val B v+1:=by
 have eu:=sP (B:=B) hu;have ev:=mK (B:=B) hv;have lv:=eD zo (dv.take k);rw [show (v.take k).length=k by simp;omega] at lv;obtain ⟨g1,g2,g3⟩:=g;generalize u.getD k 0=u2 at *;generalize u.getD (k+1) 0=u1 at *;generalize u.getD (k+2) 0=un at *;generalize v.getD k 0=v2 at *;generalize v.getD (k+1) 0=top at *;generalize val B (u.take k)=a at *;generalize val B (v.take k)=b at *;have hp:0<B^k:=Nat.pow_pos zo;generalize B^k=p at *
 have hV:0<val B v:=by
  rw [ev];have:0<p*(v2+B*top):=Nat.mul_pos hp (by have:=Nat.mul_pos (by omega:0<B) ht;omega);omega
 have hq0:=Nat.zero_le (val B u / val B v)
 rcases Nat.eq_zero_or_pos q with h0|h0
 ·omega
 obtain ⟨q',rfl⟩:∃ q',q=q'+1:=⟨q - 1,by omega⟩;rw [Nat.add_le_add_iff_right,Nat.le_div_iff_mul_le hV]
 have h1:(q'+1)*(v2+B*top)≤u2+B*(u1+B*un):=by
  have:B*((q'+1)*top+r)=B*(un*B+u1):=by rw [g1]
  rw [Nat.mul_add B ((q'+1)*top)] at this;rw [Nat.mul_add (q'+1),Nat.mul_left_comm (q'+1) B top];rw [Nat.mul_add B u1,← Nat.mul_comm un B];rw [Nat.mul_add B (un*B)] at this;rw [Nat.mul_comm r B] at hc2;omega
 have h2:=Nat.mul_le_mul_left p h1;have h3:(q'+1)*b≤B*p:=Nat.mul_le_mul hc zo
 have h4:B*p≤p*(v2+B*top):=by
  rw [Nat.mul_comm B p];refine Nat.mul_le_mul_left _ ?_;have:B*1≤B*top:=Nat.mul_le_mul_left _ ht;omega
 have h5:(q'+1)*val B v≤val B u+val B v:=by
  rw [eu,ev,Nat.mul_add,Nat.mul_left_comm (q'+1) p];omega
 rw [Nat.add_mul,Nat.one_mul] at h5;omega
end
theorem P7 {B:Nat} {u v s:List Nat} {i q c b d c' b':Nat} (hiu:i<u.length) (hiv:i<v.length) (hs:s.length=i)
  (he:val B s+q*val B (v.take i)=val B (u.take i)+(b+c)*B^i) (h:d+b+(c+q*v.getD i 0)%B=u.getD i 0+b'*B) (hc:c'=(c+q*v.getD i 0) / B) :
  val B (s++[d])+q*val B (v.take (i+1))=val B (u.take (i+1))+(b'+c')*B^(i+1):=by
 rw [fU,aY B hiu,aY B hiv,hs,Nat.pow_succ];have h1:B*c'+(c+q*v.getD i 0)%B=c+q*v.getD i 0:=by rw [hc];exact Nat.div_add_mod _ _
 generalize (c+q*v.getD i 0)%B=m at *;have h2:d+b+(c+q*v.getD i 0)=u.getD i 0+(b'+c')*B:=by rw [Nat.add_mul,Nat.mul_comm c' B];omega
 have h3:=congrArg (B^i* ·) h2;simp only [Nat.mul_add] at h3 he ⊢;rw [show (b'+c')*(B^i*B)=B^i*((b'+c')*B) by rw [Nat.mul_left_comm]];rw [show q*(B^i*v.getD i 0)=B^i*(q*v.getD i 0) by rw [Nat.mul_left_comm]];rw [Nat.mul_comm (b+c),Nat.mul_add] at he;omega
theorem P9 {B:Nat} {u v s:List Nat} {n q b c un:Nat} (hB:1<B) (hv:v.length=n) (dv:dz B v) (hV:0<val B v)
  (he:val B s+q*val B v=val B (u.take n)+(b+c)*B^n) (hu:val B u=val B (u.take n)+B^n*un) (hc:b+c≤un) (hq1:val B u / val B v≤q) :
  q=val B u / val B v∧val B s=val B u%val B v:=by
 have h1:val B u=q*val B v+(val B s+B^n*(un - (b+c))):=by
  obtain ⟨t,rfl⟩:=Nat.le.dest hc;rw [hu,Nat.add_sub_cancel_left,Nat.mul_add,Nat.mul_comm (B^n) (b+c)];omega
 have h2:q*val B v≤val B u:=by omega
 have h3:q≤val B u / val B v:=(Nat.le_div_iff_mul_le hV).2 h2;have hq:q=val B u / val B v:=by omega
 refine ⟨hq,?_⟩;have h4:=Nat.div_add_mod (val B u) (val B v);rw [← hq,Nat.mul_comm] at h4;have h5:val B s+B^n*(un - (b+c))=val B u%val B v:=by omega
 have h6:=Nat.mod_lt (val B u) hV;have h7:=eD zo dv;rw [hv] at h7
 rcases Nat.eq_zero_or_pos (un - (b+c)) with h8|h8
 ·rw [h8] at h5;omega
 ·have:B^n*1≤B^n*(un - (b+c)):=Nat.mul_le_mul_left _ h8;omega
theorem P8 {B:Nat} {u v s:List Nat} {n q b c un:Nat} (hB:1<B) (hs:s.length=n) (ds:dz B s) (hv:v.length=n) (dv:dz B v) (hV:0<val B v)
  (he:val B s+q*val B v=val B (u.take n)+(b+c)*B^n) (hu:val B u=val B (u.take n)+B^n*un) (hc:un<b+c) (hq2:q≤val B u / val B v+1) :
  q=val B u / val B v+1∧val B s+val B v=val B u%val B v+B^n:=by
 have hp:0<B^n:=Nat.pow_pos zo;have h7:=eD zo dv;rw [hv] at h7;have h8:=eD zo ds;rw [hs] at h8;have h4:=Nat.div_add_mod (val B u) (val B v);have h6:=Nat.mod_lt (val B u) hV;obtain ⟨t,ht⟩:=Nat.le.dest hc
 have h1:val B u+B^n*(t+1)=q*val B v+val B s:=by
  rw [hu,Nat.add_assoc,← Nat.mul_add,show un+(t+1)=b+c by omega,Nat.mul_comm (B^n)];omega
 have hpt:B^n*(t+1)=B^n*t+B^n:=by rw [Nat.mul_add,Nat.mul_one]
 have hq3:val B u / val B v+1≤q:=by
  rcases Nat.lt_or_ge (val B u / val B v) q with h|h
  ·exact h
  ·exfalso
   have:q*val B v≤val B u / val B v*val B v:=Nat.mul_le_mul_right _ h;rw [Nat.mul_comm (val B u / val B v)] at this;omega
 have hq:q=val B u / val B v+1:=by omega
 refine ⟨hq,?_⟩;rw [hq,Nat.add_mul,Nat.one_mul,Nat.mul_comm (val B u / val B v)] at h1;have h9:val B u%val B v+B^n*(t+1)=val B v+val B s:=by omega
 rcases Nat.eq_zero_or_pos t with h|h
 ·rw [h,Nat.zero_add,Nat.mul_one] at h9;omega
 ·have:B^n*1≤B^n*t:=Nat.mul_le_mul_left _ h;omega
theorem Gm {B t:Nat} (hB:B=1000000000) (ht:0<t) (htB:t<B):B≤2*(t*(B / (t+1))):=by
 have hd:=Nat.div_add_mod B (t+1);have hm:=Nat.mod_lt B (Nat.succ_pos t);have hs:0<B / (t+1):=Nat.div_pos zo zo;generalize B / (t+1)=s at *;generalize B%(t+1)=m at *;obtain ⟨s',rfl⟩:∃ s',s=s'+1:=⟨s - 1,by omega⟩;rw [Nat.add_mul t 1,Nat.one_mul] at hd;have h1:t*(s'+1)=t*s'+t:=by rw [Nat.mul_add,Nat.mul_one]
 have h2:m≤t:=by omega
 rcases Nat.eq_zero_or_pos s' with h|h
 ·subst h;omega
 ·obtain ⟨t',rfl⟩:∃ t',t=t'+1:=⟨t - 1,by omega⟩;obtain ⟨r,rfl⟩:∃ r,s'=r+1:=⟨s' - 1,by omega⟩;have h3:(t'+1)*(r+1+1)=t'*r+2*t'+r+2:=by simp only [Nat.add_mul,Nat.mul_add];omega
  have h4:0≤t'*r:=Nat.zero_le _;rw [h3] at hd ⊢
  rcases Nat.eq_zero_or_pos t' with h5|h5
  ·subst h5;omega
  ·have h6:r≤t'*r:=by have:=Nat.mul_le_mul_right r h5;omega
   omega
theorem Bp (B:Nat) {l:List Nat} {t:Nat} (ht:t≤l.length):val B l=val B (l.take t)+B^t*val B (l.drop t):=by
 conv=>lhs;rw [← List.take_append_drop t l,val_append]
 rw [List.length_take,Nat.min_eq_left ht]
theorem Gn {b k:Nat} (hs:sz 1000000000 b=k+2) :
  let t:=(bg 1000000000 b).getD (k+1) 0
  let s:=1000000000 / (t+1)
  0<t∧t<1000000000∧0<s∧s≤500000000∧sz 1000000000 (b*s)=k+2∧1000000000≤2*(bg 1000000000 (b*s)).getD (k+1) 0:=by
 intro t s;have hB:1<1000000000:=by omega
 have hl:(bg 1000000000 b).length=k+2:=hs;have ht0:0<t:=Nat.pos_of_ne_zero (kC hB b (k+1) hl);have htB:t<1000000000:=(aR hB b).getD zo (k+1);have hs0:0<s:=Nat.div_pos zo zo
 have hs5:s≤500000000:=by
  have:s≤1000000000 / 2:=Nat.div_le_div_left zo zo;omega
 have hsd:s*(t+1)≤1000000000:=Nat.div_mul_le_self _ _;have hp:0<1000000000^(k+1):=Nat.pow_pos zo
 have hb:b=val 1000000000 ((bg 1000000000 b).take (k+1))+1000000000^(k+1)*t:=by
  have h1:=aY 1000000000 (l:=bg 1000000000 b) (k:=k+1) zo;rw [show k+1+1=(bg 1000000000 b).length by omega,List.take_length,aM hB] at h1;exact h1
 have hlow:val 1000000000 ((bg 1000000000 b).take (k+1))<1000000000^(k+1):=by
  have:=eD zo ((aR hB b).take (k+1))
  rwa [show ((bg 1000000000 b).take (k+1)).length=k+1 by simp;omega] at this
 have h1:b*s<1000000000^(k+2):=by
  have h2:b<1000000000^(k+1)*(t+1):=by rw [Nat.mul_add,Nat.mul_one];omega
  have h3:b*s<1000000000^(k+1)*(t+1)*s:=Nat.mul_lt_mul_of_pos_right h2 hs0;have h4:1000000000^(k+1)*((t+1)*s)≤1000000000^(k+1)*1000000000:=Nat.mul_le_mul_left _ (by rw [Nat.mul_comm];exact hsd);rw [Nat.mul_assoc] at h3;rw [Nat.pow_succ 1000000000 (k+1)];omega
 have h2:sz 1000000000 (b*s)=k+2:=by
  have h3:=aW hB _ _ h1;have h4:sz 1000000000 b≤sz 1000000000 (b*s):=dM hB (Nat.le_mul_of_pos_right _ hs0);omega
 refine ⟨ht0,htB,hs0,hs5,h2,?_⟩;have hl2:(bg 1000000000 (b*s)).length=k+2:=h2
 have hb2:b*s=val 1000000000 ((bg 1000000000 (b*s)).take (k+1))+1000000000^(k+1)*(bg 1000000000 (b*s)).getD (k+1) 0:=by
  have h1:=aY 1000000000 (l:=bg 1000000000 (b*s)) (k:=k+1) zo;rw [show k+1+1=(bg 1000000000 (b*s)).length by omega,List.take_length,aM hB] at h1;exact h1
 have aF0:val 1000000000 ((bg 1000000000 (b*s)).take (k+1))<1000000000^(k+1):=by
  have:=eD zo ((aR hB (b*s)).take (k+1))
  rwa [show ((bg 1000000000 (b*s)).take (k+1)).length=k+1 by simp;omega] at this
 have hge:=Gm (B:=1000000000) rfl ht0 htB;generalize (bg 1000000000 (b*s)).getD (k+1) 0=t2 at *
 have h5:t*s≤t2:=by
  rcases Nat.lt_or_ge t2 (t*s) with h|h
  ·exfalso
   have h6:1000000000^(k+1)*(t2+1)≤1000000000^(k+1)*(t*s):=Nat.mul_le_mul_left _ h;rw [Nat.mul_add,Nat.mul_one,← Nat.mul_assoc] at h6;have h7:1000000000^(k+1)*t*s≤b*s:=Nat.mul_le_mul_right _ zo;omega
  ·exact h
 have h8:1000000000≤2*(t*s):=hge;omega
theorem dividend {a b s k:Nat} (hs0:0<s) (hs1:s<1000000000) (hb:sz 1000000000 b=k+2) (hab:k+2≤sz 1000000000 a) :
  let us:=bg 1000000000 (a*s)++List.replicate (sz 1000000000 a+1 - sz 1000000000 (a*s)) 0
  sz 1000000000 (a*s)≤sz 1000000000 a+1∧us.length=sz 1000000000 a+1∧dz 1000000000 us∧val 1000000000 us=a*s∧val 1000000000 (us.drop (sz 1000000000 a - (k+2)+1))<b*s:=by
 intro us;have hB:1<1000000000:=by omega
 have h1:sz 1000000000 (a*s)≤sz 1000000000 a+1:=by
  have:=jC hB a s;have h2:=aW hB 1 s zo;omega
 have h2:us.length=sz 1000000000 a+1:=by simp only [us,List.length_append,List.length_replicate];unfold sz at*; omega
 have h3:val 1000000000 us=a*s:=by simp only [us];rw [val_append,vR,aM hB];simp
 refine ⟨h1,h2,(aR hB _).append fun x hx=>by rw [List.eq_of_mem_replicate hx];omega,h3,?_⟩;have h4:=Bp 1000000000 (l:=us) (t:=sz 1000000000 a - (k+2)+1) zo;rw [h3] at h4;have h5:=Dy hB (n:=b) (k:=k+1) zo;have h6:=fO hB a;have h7:1000000000^sz 1000000000 a=1000000000^(k+1)*1000000000^(sz 1000000000 a - (k+2)+1):=by rw [← Nat.pow_add];congr 1;omega
 generalize 1000000000^(sz 1000000000 a - (k+2)+1)=p at *
 have h8:a<b*p:=by
  have:1000000000^(k+1)*p≤b*p:=Nat.mul_le_mul_right _ h5;omega
 rcases Nat.lt_or_ge (val 1000000000 (us.drop (sz 1000000000 a - (k+2)+1))) (b*s) with h|h
 ·exact h
 ·exfalso
  have h9:p*(b*s)≤a*s:=by have:=Nat.mul_le_mul_left p h;omega
  have h10:a*s<b*p*s:=Nat.mul_lt_mul_of_pos_right h8 hs0;rw [show p*(b*s)=b*p*s by rw [← Nat.mul_assoc,Nat.mul_comm p b]] at h9;omega
theorem NW {B:Nat} {us s s' qs:List Nat} {j V q:Nat} (hj:j<us.length) (he:val B (us.drop (j+1))=V*val B qs+val B s)
  (hq:q=val B (us.getD j 0::s) / V) (hs:val B s'=val B (us.getD j 0::s)%V):val B (us.drop j)=V*val B (q::qs)+val B s':=by
 rw [gJ hj];have h:=Nat.div_add_mod (val B (us.getD j 0::s)) V;rw [← hq,← hs] at h;simp only [val] at h ⊢;rw [he,Nat.mul_add V,Nat.mul_add B,Nat.mul_left_comm V B];omega
theorem MQ {B x V:Nat} {s:List Nat} (hx:x<B) (hs:val B s<V):val B (x::s)<V*B:=by
 have h:B*(val B s+1)≤B*V:=Nat.mul_le_mul_left _ hs;rw [Nat.mul_add,Nat.mul_one,Nat.mul_comm B V] at h;simp only [val];omega
theorem Rb {a b s q r:Nat} (hs:0<s) (he:a*s=b*s*q+r) (hr:r<b*s):q=a / b∧r / s=a%b:=by
 have h1:a*s / (b*s)=a / b:=Nat.mul_div_mul_right _ _ hs;have h2:a*s%(b*s)=a%b*s:=Nat.mul_mod_mul_right _ _ _;have hp:0<b*s:=by omega
 rw [he,Nat.mul_add_div hp,Nat.div_eq_of_lt hr,Nat.add_zero] at h1;rw [he,Nat.mul_add_mod,Nat.mod_eq_of_lt hr] at h2;exact ⟨h1,by rw [h2,Nat.mul_div_cancel _ hs]⟩
end Go.Num
namespace Go.Mem
open Go Go.RowKit Go.SW Go.Num
def Nm (w:World) (v:Value) (n:Nat):Prop:=Row w 3 v (ints (bg 10000 n))
theorem Nm.later {w w':World} {v:Value} {n:Nat} (h:Nm w v n) (hb:Below w.heap.size w w'):Nm w' v n:=Row.later h hb
theorem Nm.setOther {w:World} {v:Value} {n:Nat} (h:Nm w v n) {b:Nat} {cs:Array Value} {T':TypeId} (hx:au w b cs T') (hT:3≠T') (o:Nat) (u:Value):Nm (w.setCell ⟨b,o,none⟩ u) v n:=Row.setOther h hx hT o u
def Gs (w:World) (v:Value) (l:List Nat):Prop:=Row w 3 v (ints l)
theorem Gs.later {w w':World} {v:Value} {l:List Nat} (h:Gs w v l) (hb:Below w.heap.size w w'):Gs w' v l:=Row.later h hb
theorem Gs.cases {w:World} {v:Value} {l:List Nat} (h:Gs w v l) :
  (v= .slice none 0 0∧l=[])∨∃ b off cap,v= .slice (some ⟨b,off,none⟩) l.length cap∧l.length≤cap∧cap≤9223372036854775807∧b<w.heap.size∧(∃ arr,au w b arr 3)∧∀ i,i<l.length→w.cell? ⟨b,off+i,none⟩=some (.int .i64 (l.getD i 0:Nat)):=by
 rcases Row.cases h with ⟨h1,h2⟩|⟨b,off,cap,arr,h1,h2,h3,h4,h5⟩
 ·refine .inl ⟨h1,?_⟩;unfold ints at h2
  simpa using h2
 ·refine .inr ⟨b,off,cap,by rw [h1,aU],by rwa [aU] at h2,h3,h4.lt,⟨arr,h4⟩,fun i hi=>?_⟩;rw [h4.cell,h5 i (by rw [aU];exact hi)];simp [ints,hi]
theorem Gs.read {w:World} {v:Value} {l:List Nat} (h:Gs w v l) :
  ∃ a cap,v= .slice a l.length cap∧l.length≤cap∧cap≤9223372036854775807∧∀ k,k<l.length→∃ b off,a=some ⟨b,off,none⟩∧b<w.heap.size∧w.cell? ⟨b,off+k,none⟩=some (.int .i64 (l.getD k 0:Nat)):=by
 rcases Gs.cases h with ⟨rfl,rfl⟩|⟨b,off,cap,rfl,h1,h2,h3,_,h5⟩
 ·exact ⟨none,0,rfl,by simp,by simp,fun k hk=>by cases hk⟩
 ·exact ⟨some ⟨b,off,none⟩,cap,rfl,h1,h2,fun k hk=>⟨b,off,rfl,h3,h5 k hk⟩⟩
theorem Nm.QF {w:World} {v:Value} {l:List Nat} (h:Gs w v l) (hd:dz 10000 l) (ht:Top l):Nm w v (val 10000 l):=by
 unfold Nm;rw [Ar zo hd ht];exact h
theorem Nm.gs {w:World} {v:Value} {n:Nat} (h:Nm w v n):Gs w v (bg 10000 n):=h
theorem Gs.dN {w:World} {base k:Nat} {v:Value} {s:List Nat} (h:w.ownsRow base 3 1 v k (ints s)):Gs w v s:=Row.dN h
theorem oH (n:Nat):(madeCells #[Value.int .i64 0] n).toList=ints (List.replicate n 0):=by
 rw [toList_madeCells_one];simp [ints]
theorem ints_set (l:List Nat) (k d:Nat):(ints l).set k (.int .i64 (d:Int))=ints (l.set k d):=by simp [ints,List.map_set]
theorem oI {l:List Nat} {k:Nat} (h:k<l.length):(ints l)[k]? =some (.int .i64 (l.getD k 0:Nat)):=by simp [ints,h]
theorem Gs.pz {w:World} {g n m:Nat} {l post:List Nat} (h:au w g (ints (l++post)).toArray 3) (hl:l.length=n) (hm:n≤m) (hm2:m≤9223372036854775807):Gs w (.slice (some ⟨g,0,none⟩) n m) l:=by
 refine Row.mk (by rw [aU];omega) (by rw [aU];omega) hm2 h fun i hi=>?_;rw [aU] at hi;rw [Nat.zero_add,List.getElem?_toArray];simp [ints,hi,List.getElem?_append_left]
theorem Nm.lit {w:World} {d:Nat} (h0:0<d) (h1:d<10000):Nm (w.alloc (.cells #[.int .i64 d] 3 (0,0))) (.slice (some ⟨w.heap.size,0,none⟩) 1 1) d:=by
 have e:bg 10000 d=[d]:=by rw [iL zo h0,Nat.mod_eq_of_lt h1,Nat.div_eq_of_lt h1,dS]
 unfold Nm;rw [e];refine Row.mk rfl (by simp [ints]) zo (au.new _ _ _) fun i hi=>?_
 match i,hi with
 | 0,_=>rfl
theorem Nm.zero (w:World):Nm w (.slice none 0 0) 0:=by unfold Nm;rw [dS];exact Row.nil _ _
theorem ints_oneCell (l:List Nat):∀ v∈ints l,v.oneCell'=true:=fun v hv=>by
 obtain ⟨d,_,rfl⟩:=List.mem_map.1 hv;rfl
theorem Gs.src {w:World} {a:Option Addr} {l:List Nat} (h:∀ k,k<l.length→∃ b off,a=some ⟨b,off,none⟩∧b<w.heap.size∧w.cell? ⟨b,off+k,none⟩=some (.int .i64 (l.getD k 0:Nat))) (hl:0<(ints l).length) :
  ∃ ad,a=some ad∧∀ j v,(ints l)[j]? =some v→w.cell? (ad.add j)=some v:=by
 rw [aU] at hl;obtain ⟨b,off,rfl,_,_⟩:=h 0 hl;refine ⟨_,rfl,fun j v hv=>?_⟩
 have hj:j<l.length:=by
  have:=(List.getElem?_eq_some_iff.1 hv).1;rwa [aU] at this
 obtain ⟨b',off',h1,_,h3⟩:=h j hj;simp only [Option.some.injEq,Addr.mk.injEq,and_true] at h1;obtain ⟨rfl,rfl⟩:=h1;rw [oI hj] at hv;rw [Addr.add_lit,h3,← hv]
theorem Nm.slice {w:World} {v:Value} {n:Nat} (h:Nm w v n):∃ pa l ca,v= .slice pa l ca:=by
 obtain ⟨a,cap,h1, -⟩:=h;exact ⟨_,_,_,h1⟩
def Pl (w:World) (v:Value) (z:Int):Prop:=∃ pa l ca,v= .agg #[.bool (decide (z<0)),.slice pa l ca]∧Nm w (.slice pa l ca) z.natAbs
theorem Pl.later {w w':World} {v:Value} {z:Int} (h:Pl w v z) (hb:Below w.heap.size w w'):Pl w' v z:=by
 obtain ⟨pa,l,ca,h1,h2⟩:=h;exact ⟨pa,l,ca,h1,h2.later hb⟩
theorem Pl.mk {w:World} {m:Value} {z:Int} {b:Bool} {n:Nat} (h:Nm w m n) (hn:n=z.natAbs) (hb:b=decide (z<0)):Pl w (.agg #[.bool b,m]) z:=by
 obtain ⟨pa,l,ca,rfl⟩:=h.slice;exact ⟨pa,l,ca,by rw [hb],hn ▸ h⟩
theorem Pl.cast {w:World} {v:Value} {y z:Int} (h:Pl w v y) (e:y=z):Pl w v z:=e ▸ h
theorem Nm.alloc {w:World} {v:Value} {n:Nat} (h:Nm w v n) (o:Obj):Nm (w.alloc o) v n:=h.later ((Below.refl _ _).alloc (Nat.le_refl _) _)
theorem Gs.alloc {w:World} {v:Value} {n:List Nat} (h:Gs w v n) (o:Obj):Gs (w.alloc o) v n:=h.later ((Below.refl _ _).alloc (Nat.le_refl _) _)
theorem Pl.agg {w:World} {v:Value} {z:Int} (h:Pl w v z):∃ b pa l ca,v= .agg #[.bool b,.slice pa l ca]:=by
 obtain ⟨pa,l,ca,h1, -⟩:=h;exact ⟨_,_,_,_,h1⟩
theorem Pl.setOther {w:World} {v:Value} {z:Int} (h:Pl w v z) {b:Nat} {cs:Array Value} {T':TypeId} (hx:au w b cs T') (hT:3≠T') (o:Nat) (u:Value):Pl (w.setCell ⟨b,o,none⟩ u) v z:=by
 obtain ⟨pa,l,ca,h1,h2⟩:=h;exact ⟨pa,l,ca,h1,h2.setOther hx hT o u⟩
theorem Pl.set2 {w:World} {v:Value} {z:Int} (h:Pl w v z) {b:Nat} {cs:Array Value} {T':TypeId} (hx:au w b cs T') (hT:3≠T') (o1 o2:Nat) (u1 u2:Value):Pl ((w.setCell ⟨b,o1,none⟩ u1).setCell ⟨b,o2,none⟩ u2) v z :=
 (h.setOther hx hT o1 u1).setOther (hx.set o1 u1) hT o2 u2
theorem Pl.nm {w:World} {b:Bool} {pa:Option Addr} {l ca:Nat} {z:Int} (h:Pl w (.agg #[.bool b,.slice pa l ca]) z):Nm w (.slice pa l ca) z.natAbs∧b=decide (z<0):=by
 obtain ⟨pa',l',Po,e,h2⟩:=h;simp only [Value.agg.injEq,Array.mk.injEq,List.cons.injEq,Value.bool.injEq,and_true] at e;obtain ⟨e1,e2⟩:=e;rw [e2];exact ⟨h2,e1⟩
theorem Qb (z:Int):gB z.natAbs (!decide (z<0))= -z:=Lc z
theorem Qc (z:Int):gB z.natAbs (decide (z<0))=z:=by
 unfold gB
 by_cases h:z<0<;>simp [h]<;>omega
theorem Qd (n:Nat) (b:Bool):(b&&decide (0<n))=decide (gB n b<0):=by
 rw [← Ld,Bool.eq_iff_iff];simp
 omega
theorem Nm.read {w:World} {v:Value} {n:Nat} (h:Nm w v n):∃ a cap,v= .slice a (sz 10000 n) cap∧sz 10000 n≤cap∧cap≤9223372036854775807∧∀ k,k<sz 10000 n→∃ b off,a=some ⟨b,off,none⟩∧b<w.heap.size∧w.cell? ⟨b,off+k,none⟩=some (.int .i64 ((bg 10000 n).getD k 0:Nat)):=Gs.read h.gs
theorem Nm.Zp {w:World} {pa:Option Addr} {l c n:Nat} (h:Nm w (.slice pa l c) n) (hn:0<n):0<l:=by
 obtain ⟨a,cap,e, -⟩:=h.read;simp only [Value.slice.injEq] at e;rw [e.2.1];unfold sz;rw [List.length_pos_iff,Ne,kH zo];omega
theorem Nm.Zq {w:World} {pa:Option Addr} {l c n:Nat} (h:Nm w (.slice pa l c) n) (hn:n=0):l=0:=by
 obtain ⟨a,cap,e, -⟩:=h.read;simp only [Value.slice.injEq] at e;rw [e.2.1,hn,iB]
end Go.Mem
namespace Go.cK
open Go Go.Num
def bI (qs:List Rat):Nat:=qs.foldl (fun a q=>a*(q.den / a.gcd q.den)) 1
def ji (D:Nat) (q:Rat):Int:=q.num*((D / q.den:Nat):Int)
theorem wM (qs:List Rat) (q:Rat):bI (qs++[q])=bI qs*(q.den / (bI qs).gcd q.den):=by simp [bI]
theorem Ov {qs:List Rat} {k:Nat} (h:k<qs.length):bI (qs.take (k+1))=bI (qs.take k)*(qs[k].den / (bI (qs.take k)).gcd qs[k].den):=by
 rw [List.take_succ_eq_append_getElem h,wM]
theorem ql {α:Type} {Q:List α→Prop} (h0:Q []) (h1:∀ l a,Q l→Q (l++[a])) (l:List α):Q l:=by
 have:∀ n (l:List α),l.length=n→Q l:=by
  intro n
  induction n with
  | zero=>intro l hl;rw [List.length_eq_zero_iff] at hl;subst hl;exact h0
  | succ n ih =>
   intro l hl;have hne:l≠[]:=fun e=>by subst e;simp at hl
   rw [← List.dropLast_concat_getLast hne];exact h1 _ _ (ih _ (by simp [hl]))
 exact this _ l rfl
theorem gU (qs:List Rat):0<bI qs∧(∀ q∈qs,q.den ∣ bI qs):=by
 induction qs using ql with
 | h0=>exact ⟨by simp [bI],fun q h=>by cases h⟩
 | h1 l a ih =>
  obtain ⟨h1,h2⟩:=ih;rw [wM];have hg:(bI l).gcd a.den ∣ a.den:=Nat.gcd_dvd_right _ _;refine ⟨Nat.mul_pos h1 (Nat.div_pos (Nat.le_of_dvd a.den_pos hg) (Nat.gcd_pos_of_pos_right _ a.den_pos)),fun q hq=>?_⟩
  rcases List.mem_append.1 hq with h|h
  ·exact Nat.dvd_trans (h2 q h) (Nat.dvd_mul_right _ _)
  ·rw [List.mem_singleton] at h;subst h;obtain ⟨c,hc⟩:=Nat.gcd_dvd_left (bI l) q.den;rw [← Nat.mul_div_assoc _ hg,Nat.mul_div_right_comm (Nat.gcd_dvd_left _ _)];exact Nat.dvd_mul_left _ _
theorem lK (qs:List Rat) (h:∀ q∈qs,iR q=true):sz 1000000000 (bI qs)≤67*qs.length+1:=by
 induction qs using ql with
 | h0=>exact aW zo 1 _ (by simp [bI])
 | h1 l a ih =>
  rw [wM,List.length_append,List.length_singleton];have h1:=ih (fun q hq=>h q (by simp [hq]));have h2:=(qC (h a zi)).2;have h3:=jC (B:=1000000000) zo (bI l) (a.den / (bI l).gcd a.den);have h4:= @iG a.den ((bI l).gcd a.den);omega
theorem Md {D:Nat} {q:Rat} (hD:0<D) (h:q.den ∣ D):((ji D q:Int):Rat) / ((D:Nat):Rat)=q:=by
 obtain ⟨c,rfl⟩:=h;have hc:0<c:=by rcases Nat.eq_zero_or_pos c with e|e;subst e;simp at hD;exact e
 unfold ji;rw [Nat.mul_div_cancel_left _ q.den_pos]
 have e:q=(q.num:Rat) / ((q.den:Nat):Rat):=by
  rw [← Rat.mkRat_eq_div,Rat.mkRat_self]
 have h1:((q.den:Nat):Rat)≠0:=by
  rw [Ne,Rat.natCast_eq_zero_iff];exact q.den_nz
 have h2:((c:Nat):Rat)≠0:=by
  rw [Ne,Rat.natCast_eq_zero_iff];omega
 rw [Rat.intCast_mul,Rat.natCast_mul,Rat.intCast_natCast];generalize hn:(q.num:Rat)=n at *;generalize hd:((q.den:Nat):Rat)=d at *;generalize hcc:((c:Nat):Rat)=c' at *;rw [e]
 grind
end Go.cK
namespace Go.SW
open Go Go.RowKit
section
variable {P:Program} {ops:Array Oper} {Q:Exit→Act→World→Prop}
theorem IC {a:Act} {w:World} (is:List (K × Nat)) (hc:check ops is=true) (hal:mI P ops is)
  (hQ:∀ c (a s:Act) w,s.defers=a.defers→Q (.panic c) a w→Q (.panic c) s w)
  (h:walk P ops Q w.heap.size is [] a w.drew):wpAny P .any ops Q ops.size (Array.replicate ops.size false) a w.drew:=by
 unfold check at hc;simp only [Bool.and_eq_true,decide_eq_true_eq] at hc;obtain ⟨⟨⟨⟨⟨h1,h2⟩,h3⟩,h4⟩,h5⟩,h6⟩:=hc;refine sW h1 (Rj h2) hQ w.heap.size ops.size is [] [] [] _ a a w.drew ?_ ?_ h3 h4 zi zi hal ?_ h
 ·rw [iw];exact h5
 ·refine ⟨by simp,fun i hi=>?_,fun j o hj hl=>?_,rfl,rfl,fun t _ _=>rfl,by simp,by simp,by simp,by simp⟩
  ·have hmem:i∈is.map (·.2):=by simpa using List.all_eq_true.1 h6 i (List.mem_range.2 hi)
   simp [hi] 
   simpa using hmem
  ·have hj':=(Array.getElem?_eq_some_iff.1 hj).1;simp [hj'] at hl
 ·exact ⟨by simp,by simp,by simp,by simp,Nat.le_refl _⟩
end
theorem Gp {n l:Nat} {P:Program} {row:String} {args:Array Value} {w:World} {R:Value→World→Prop} (h:Rows P row args w R):RowsIn (Fence.wide.inRound l) n P row args w R :=
 fun c cs _=>let ⟨v,w',r,s⟩:=h c cs;⟨v,w',r,stepsIn_wide.2 s⟩
theorem yL {P:Program} {n l:Nat} {o:Oper} {a:Act} {K:Act→World→Prop} {Q:Exit→Act→World→Prop} {r:Result Next} (h:o.upon P a K Q r):o.uponIn (Fence.wide.inRound l) n P a K Q r:=by
 cases r with
 | ok x w' =>
  cases x<;>simp only [Oper.upon,Oper.uponIn] at h ⊢<;>first|exact h|exact ⟨fun e=>(by cases e),CallsIn.inRound l (callsIn_wide.2 h)⟩|exact ⟨fun e=>(by cases e),Gp h⟩|exact h.elim
 | halt x w'=>cases x<;>simp only [Oper.upon,Oper.uponIn] at h ⊢<;>first|exact h|exact h.elim
theorem Ja {P:Program} {n l:Nat} {o:Oper} {a:Act} {w:World} {K:Act→World→Prop} {Q:Exit→Act→World→Prop} (hd:∀ c,o.op≠ .defer c) (h:o.wp P a w K Q):o.wpIn (Fence.wide.inRound l) n P a w K Q:=by
 refine ⟨fun _ _=>trivial,?_⟩;have e:o.semAt (Fence.wide.inRound l).round a.eval=execOp a.eval o:=Oper.semAt_eq _ _ _ hd;rw [e];exact yL h
theorem yG {P:Program} {n l:Nat} {ops:Array Oper} {i:Nat} {a:Act} {w:World} {K:Act→World→Prop} {Q:Exit→Act→World→Prop} (hd:∀ (i:Nat) o,ops[i]? =some o→∀ c,o.op≠ .defer c) (hQ:¬ LetsOut Q) (h:wpOp P ops Q i K a w):wpOpIn (Fence.wide.inRound l) n P ops Q i K a w:=by
 unfold wpOp at h;unfold wpOpIn;split
 ·rename_i e;simpa [e] using h
 ·rename_i o e;simp only [e] at h;split
  ·rename_i hw;simp only [hw,if_true] at h
   rcases h with h|h
   ·exact Ja (hd i o e) h
   ·exact absurd h.2 hQ
  ·rename_i hw;simp only [hw] at h;exact ⟨fun _ _=>trivial,h⟩
theorem oC {P:Program} {n l:Nat} {ops:Array Oper} {md:Region.Mode} {Q:Exit→Act→World→Prop} (hd:∀ (i:Nat) o,ops[i]? =some o→∀ c,o.op≠ .defer c) (hQ:¬ LetsOut Q):∀ (fuel:Nat) (listed:Array Bool) (a:Act) (w:World),wpAny P md ops Q fuel listed a w→wpAnyIn (Fence.wide.inRound l) n P md ops Q fuel listed a w
 | 0,_,_,_,h=>h
 | fuel+1,_,_,_,h=>⟨h.1,fun i hi=>wpOpIn_mono (fun a w h=>oC hd hQ fuel _ a w h) (yG hd hQ (h.2 i hi))⟩
def Lm (ops:Array Oper):Bool:=ops.all fun o=>match o.op with| .defer _=>false| _=>true
theorem DR {ops:Array Oper} (h:Lm ops=true):∀ (i:Nat) o,ops[i]? =some o→∀ c,o.op≠ .defer c:=fun i o e c hc=>by
 have h2:=Array.getElem?_eq_some_iff.1 e;obtain ⟨hi,rfl⟩:=h2;have:=Array.all_eq_true.1 h i hi;rw [hc] at this;cases this
theorem vO {P:Program} {n l id:Nat} {ops:Array Oper} {Q:Exit→Act→World→Prop} {a:Act} {w:World} (is:List (K × Nat)) (hm:P.follows .mixedOrders=true) (hd:Lm ops=true) (hc:check ops is=true) (hal:mI P ops is) (hQ0:¬ LetsOut Q)
  (hQ:∀ c (a s:Act) w,s.defers=a.defers→Q (.panic c) a w→Q (.panic c) s w)
  (h:walk P ops Q w.heap.size is [] a w.drew):(Code.region id ops true).wpIn (Fence.wide.inRound l) n P Q a w :=
 wpIn_region_any hm (oC (DR hd) hQ0 _ _ _ _ (IC is hc hal hQ h))
end Go.SW
namespace Go.cK
open Go Go.Num
def jh (r s:List Rat):Rat:=(List.zipWith (· * ·) r s).foldl (· + ·) 0
def uH (f:Nat→Int):Nat→Int
 | 0=>0
 | k+1=>uH f k+f k
def qz (f:Nat→Rat):Nat→Rat
 | 0=>0
 | k+1=>qz f k+f k
theorem nO {f g:Nat→Rat}:∀ {n:Nat},(∀ i,i<n→f i=g i)→qz f n=qz g n
 | 0,_=>rfl
 | n+1,h=>by simp only [qz];rw [nO (fun i hi=>h i zo),h n zo]
theorem Ce (f:Nat→Int) (d:Rat):∀ n,((uH f n:Int):Rat) / d=qz (fun i=>((f i:Int):Rat) / d) n
 | 0=>by simp [uH,qz,Rat.div_def]
 | n+1=>by
  simp only [uH,qz];rw [← Ce f d n,Rat.intCast_add,Rat.div_def,Rat.div_def,Rat.div_def,Rat.add_mul]
theorem H8 (xs:List Rat):xs.foldl (· + ·) 0=qz (fun i=>xs.getD i 0) xs.length:=by
 induction xs using ql with
 | h0=>rfl
 | h1 l a ih =>
  rw [List.foldl_append,ih,List.length_append,List.length_singleton];simp only [List.foldl_cons,List.foldl_nil,qz]
  congr 1
  ·exact nO fun i hi=>by simp [hi,List.getElem?_append_left]
  ·simp
theorem Oo {r s:List Rat} (h:s.length=r.length):jh r s=qz (fun i=>r.getD i 0*s.getD i 0) r.length:=by
 unfold jh;rw [H8,List.length_zipWith,h,Nat.min_self]
 exact nO fun i hi=>by
  have hs:i<s.length:=by omega
  simp [hi,hs,List.getElem?_zipWith]
theorem SB {r s:List Rat} (h:s.length=r.length) :
  ((uH (fun i=>(r.map (ji (bI r))).getD i 0*(s.map (ji (bI s))).getD i 0) r.length:Int):Rat) / ((bI r*bI s:Nat):Rat)=jh r s:=by
 rw [Oo h,Ce];refine nO fun i hi=>?_;have hs:i<s.length:=by omega
 obtain ⟨hr1,hr2⟩:=gU r;obtain ⟨hs1,hs2⟩:=gU s;have e1:=Md hr1 (hr2 r[i] (List.getElem_mem hi));have e2:=Md hs1 (hs2 s[i] (List.getElem_mem hs));have g1:(r.map (ji (bI r))).getD i 0=ji (bI r) r[i]:=by simp [hi]
 have g2:(s.map (ji (bI s))).getD i 0=ji (bI s) s[i]:=by simp [hs]
 have g3:r.getD i 0=r[i]:=by simp [hi]
 have g4:s.getD i 0=s[i]:=by simp [hs]
 rw [g1,g2,g3,g4,Rat.intCast_mul,Rat.natCast_mul];have n1:((bI r:Nat):Rat)≠0:=by rw [Ne,Rat.natCast_eq_zero_iff];omega
 have n2:((bI s:Nat):Rat)≠0:=by rw [Ne,Rat.natCast_eq_zero_iff];omega
 generalize ((ji (bI r) r[i]:Int):Rat)=a at *;generalize ((ji (bI s) s[i]:Int):Rat)=b at *;generalize ((bI r:Nat):Rat)=c at *;generalize ((bI s:Nat):Rat)=d at *;rw [← e1,← e2]
 grind
theorem lJ {qs:List Rat} (h:∀ q∈qs,iR q=true) (hl:qs.length≤4) (i:Nat):sz 1000000000 ((qs.map (ji (bI qs))).getD i 0).natAbs≤1000:=by
 by_cases hi:i<qs.length
 ·have g1:(qs.map (ji (bI qs))).getD i 0=ji (bI qs) qs[i]:=by simp [hi]
  rw [g1];unfold ji;have h1:=mh qs[i].num (bI qs / qs[i].den);have h2:=(qC (h _ (List.getElem_mem hi))).1;have h3:= @iG (bI qs) qs[i].den;have h4:=lK qs h;omega
 ·have g1:(qs.map (ji (bI qs))).getD i 0=0:=by
   rw [List.getD_eq_getElem?_getD,List.getElem?_eq_none (by rw [List.length_map];omega)];rfl
  rw [g1];simp [iB]
end Go.cK
namespace Go.SW
open Go Go.RowKit
variable {P:Program} {ops:Array Oper} {Q:Exit→Act→World→Prop}
def IG (x y:Nat):Nat→List Oper→List Oper
 | _,[]=>[]
 | k,o::l=>(match k.beq y with
  | true=>⟨o.dst,o.op,o.type,o.pos,o.after.push ⟨x,.chain⟩,o.guard⟩
  | false=>o)::IG x y (k+1) l
def iC (x y:Nat) (ops:Array Oper):Array Oper:=(IG x y 0 ops.toList).toArray
def wait (x:Nat) (o:Oper):Oper:=⟨o.dst,o.op,o.type,o.pos,o.after.push ⟨x,.chain⟩,o.guard⟩
theorem IE (x y:Nat):∀ (l:List Oper) (k i:Nat),(IG x y k l)[i]? =(l[i]?).map fun o=>if k+i=y then wait x o else o
 | [],_,_=>by simp [IG]
 | o::l,k,0=>by
  unfold IG;rw [List.getElem?_cons_zero,List.getElem?_cons_zero];cases h:k.beq y with
  | true=>rw [Nat.eq_of_beq_eq_true h];simp [wait]
  | false =>
   have:=Nat.ne_of_beq_eq_false h;simp [this]
 | o::l,k,i+1=>by
  unfold IG;rw [List.getElem?_cons_succ,List.getElem?_cons_succ,IE x y l (k+1) i];have:k+1+i=k+(i+1):=by omega
  rw [this]
theorem oL (x y i:Nat) (ops:Array Oper):(iC x y ops)[i]? =(ops[i]?).map fun o=>if i=y then wait x o else o:=by
 unfold iC;rw [List.getElem?_toArray,IE,Nat.zero_add,Array.getElem?_toList]
theorem xH (x y:Nat):∀ (l:List Oper) (k:Nat),(IG x y k l).length=l.length
 | [],_=>rfl
 | o::l,k=>by unfold IG;rw [List.length_cons,List.length_cons,xH x y l]
theorem CQ (x y:Nat) (ops:Array Oper):(iC x y ops).size=ops.size:=by
 unfold iC;rw [List.size_toArray,xH,Array.length_toList]
theorem pK (x y:Nat) (tmps:Array Value) (g:Nat):yielded (iC x y ops) tmps g=yielded ops tmps g:=by
 unfold yielded;rw [oL];cases ops[g]? with
 | none=>rfl
 | some o =>
  have e:(if g=y then wait x o else o).dst=o.dst:=by split<;>rfl
  simp only [Option.map_some,Option.bind_some,e]
theorem tO (x y:Nat):∀ (l:List Nat) (a:Act) (w:World),wpOps P (iC x y ops) Q l a w→wpOps P ops Q l a w
 | [],_,_,h=>h
 | i::l,a,w,h=>by
  have ih:=tO x y l;unfold wpOps at h ⊢;rw [oL] at h;have hy:yielded (iC x y ops) a.tmps=yielded ops a.tmps:=funext fun g=>pK x y _ g;rw [hy] at h;cases ho:ops[i]? with
  | none =>
   simp only [ho,Option.map_none] at h ⊢;exact ih _ _ h
  | some o =>
   simp only [ho,Option.map_some] at h ⊢
   by_cases hi:i=y
   ·simp only [hi,if_true] at h;have e1:Region.wanted (wait x o) (yielded ops a.tmps)=Region.wanted o (yielded ops a.tmps):=rfl;rw [e1] at h;split
    ·rename_i hw;simp only [hw,if_true] at h
     rcases h with h|h
     ·exact .inl (Oper.wp_mono ih h)
     ·exact .inr h
    ·rename_i hw;simp only [hw,if_false,Bool.false_eq_true] at h;exact ih _ _ h
   ·simp only [hi,if_false] at h;split
    ·rename_i hw;simp only [hw,if_true] at h
     rcases h with h|h
     ·exact .inl (Oper.wp_mono ih h)
     ·exact .inr h
    ·rename_i hw;simp only [hw,if_false,Bool.false_eq_true] at h;exact ih _ _ h
theorem qx {x y i:Nat} {listed:Array Bool} (h:i∈Region.ready .any ops listed) (hy:i=y→listed.getD x false=true):i∈Region.ready .any (iC x y ops) listed:=by
 obtain ⟨h1,o,h2,h3⟩:=mem_ready.1 h;refine mem_ready.2 ⟨h1,_,by rw [oL,h2];rfl,fun e he hb=>?_⟩;split at he
 ·rename_i hi
  rcases Array.mem_push.1 he with he|he
  ·exact h3 e he hb
  ·rw [he];exact hy hi
 ·exact h3 e he hb
theorem Gt {x y i:Nat} {listed:Array Bool} (h:i∈Region.ready .any (iC x y ops) listed):i∈Region.ready .any ops listed:=by
 obtain ⟨h1,o',h2,h3⟩:=mem_ready.1 h;rw [oL] at h2;cases ho:ops[i]? with
 | none=>rw [ho] at h2;cases h2
 | some o =>
  rw [ho,Option.map_some,Option.some.injEq] at h2;refine mem_ready.2 ⟨h1,o,ho,fun e he hb=>h3 e ?_ hb⟩;rw [← h2];split
  ·exact Array.mem_push.2 (.inl he)
  ·exact he
theorem uR {i fuel:Nat} {listed:Array Bool} (h:i∈Region.ready .any ops listed) (t:Nat) :
  ∃ t',Region.linearise.go .any ops (fuel+1) t' listed []=i::Region.linearise.go .any ops fuel t (listed.setIfInBounds i true) []:=by
 obtain ⟨k,hk,hi⟩:=List.getElem_of_mem h;refine ⟨k+(Region.ready .any ops listed).length*t,?_⟩;simp only [Region.linearise.go]
 change (match (Region.ready .any ops listed)[(k+(Region.ready .any ops listed).length*t)%(Region.ready .any ops listed).length]? with
   | some i=>Region.linearise.go .any ops fuel ((k+(Region.ready .any ops listed).length*t) / (Region.ready .any ops listed).length) (listed.setIfInBounds i true) [i]
   | none=>[].reverse)=_
 have e1:(k+(Region.ready .any ops listed).length*t)%(Region.ready .any ops listed).length=k:=by
  rw [Nat.add_mul_mod_self_left,Nat.mod_eq_of_lt hk]
 have e2:(k+(Region.ready .any ops listed).length*t) / (Region.ready .any ops listed).length=t:=by
  rw [Nat.add_mul_div_left _ _ (Nat.lt_of_le_of_lt (Nat.zero_le _) hk),Nat.div_eq_of_lt hk,Nat.zero_add]
 rw [e1,e2,List.getElem?_eq_getElem hk,hi];simp only [];rw [linearise_go_acc,List.reverse_singleton,List.singleton_append]
theorem go_step (fuel t:Nat) (listed:Array Bool) :
  (Region.ready .any ops listed=[]∧Region.linearise.go .any ops (fuel+1) t listed []=[]) ∨
  ∃ i∈Region.ready .any ops listed,∃ t',Region.linearise.go .any ops (fuel+1) t listed []=i::Region.linearise.go .any ops fuel t' (listed.setIfInBounds i true) []:=by
 simp only [Region.linearise.go]
 change (_∧(match (Region.ready .any ops listed)[t%(Region.ready .any ops listed).length]? with
   | some i=>Region.linearise.go .any ops fuel (t / (Region.ready .any ops listed).length) (listed.setIfInBounds i true) [i]
   | none=>[].reverse)=[])∨∃ i∈Region.ready .any ops listed,∃ t',(match (Region.ready .any ops listed)[t%(Region.ready .any ops listed).length]? with
   | some i=>Region.linearise.go .any ops fuel (t / (Region.ready .any ops listed).length) (listed.setIfInBounds i true) [i]
   | none=>[].reverse)=_
 cases hi:(Region.ready .any ops listed)[t%(Region.ready .any ops listed).length]? with
 | none =>
  left
  refine ⟨?_,rfl⟩;cases hr:Region.ready .any ops listed with
  | nil=>rfl
  | cons x xs =>
   rw [hr] at hi;have hlt:t%(x::xs).length<(x::xs).length:=Nat.mod_lt _ zi;simp at hi
   simp at hlt
   omega
 | some i =>
  right
  refine ⟨i,List.mem_of_getElem? hi,t / (Region.ready .any ops listed).length,?_⟩;simp only [];rw [linearise_go_acc,List.reverse_singleton,List.singleton_append]
theorem Hy {fuel t:Nat} {listed:Array Bool} (h:Region.ready .any ops listed=[]):Region.linearise.go .any ops (fuel+1) t listed []=[]:=by
 rcases go_step (ops:=ops) fuel t listed with ⟨-, h2⟩|⟨i,hi, -⟩
 ·exact h2
 ·rw [h] at hi;cases hi
theorem wG {x y:Nat}:∀ (fuel t:Nat) (listed:Array Bool),listed.getD x false=true→∃ t',Region.linearise.go .any ops fuel t listed []=Region.linearise.go .any (iC x y ops) fuel t' listed []
 | 0,t,listed,_=>⟨t,rfl⟩
 | fuel+1,t,listed,hx=>by
  rcases go_step (ops:=ops) fuel t listed with ⟨h1,h2⟩|⟨i,hi,t',h⟩
  ·refine ⟨0,?_⟩;rw [h2,Hy];cases hr:Region.ready .any (iC x y ops) listed with
   | nil=>rfl
   | cons i l =>
    have:=Gt (x:=x) (y:=y) (i:=i) (by rw [hr];exact List.mem_cons_self);rw [h1] at this;cases this
  ·obtain ⟨t2,h2⟩:=wG fuel t' (listed.setIfInBounds i true) (getD_set_true hx);obtain ⟨t3,h3⟩:=uR (fuel:=fuel) (qx (y:=y) hi fun _=>hx) t2;exact ⟨t3,by rw [h,h2,h3]⟩
theorem R9 {x y:Nat} (hxy:x≠y):∀ (fuel t:Nat) (listed:Array Bool),
  (∃ t',Region.linearise.go .any ops fuel t listed []=Region.linearise.go .any (iC x y ops) fuel t' listed []) ∨
  (∃ t',Region.linearise.go .any ops fuel t listed []=Region.linearise.go .any (iC y x ops) fuel t' listed [])
 | 0,t,listed=>.inl ⟨t,rfl⟩
 | fuel+1,t,listed=>by
  rcases go_step (ops:=ops) fuel t listed with ⟨h1,h2⟩|⟨i,hi,t',h⟩
  ·refine .inl ⟨0,?_⟩;rw [h2,Hy];cases hr:Region.ready .any (iC x y ops) listed with
   | nil=>rfl
   | cons i l =>
    have:=Gt (x:=x) (y:=y) (i:=i) (by rw [hr];exact List.mem_cons_self);rw [h1] at this;cases this
  ·have hset:∀ j,i=j→(listed.setIfInBounds i true).getD j false=true:=fun j hj=>by
    subst hj;have:=(mem_ready.1 hi).1
    rcases Nat.lt_or_ge i listed.size with h'|h'
    ·simp [h']
    ·simp [Array.getElem?_eq_none h'] at this
   by_cases hix:i=x
   ·obtain ⟨t2,h2⟩:=wG (ops:=ops) (x:=x) (y:=y) fuel t' _ (hset x hix);obtain ⟨t3,h3⟩:=uR (fuel:=fuel) (qx (x:=x) (y:=y) hi fun e=>absurd (hix.symm.trans e) hxy) t2;exact .inl ⟨t3,by rw [h,h2,h3]⟩
   ·by_cases hiy:i=y
    ·obtain ⟨t2,h2⟩:=wG (ops:=ops) (x:=y) (y:=x) fuel t' _ (hset y hiy);obtain ⟨t3,h3⟩:=uR (fuel:=fuel) (qx (x:=y) (y:=x) hi fun e=>absurd e hix) t2;exact .inr ⟨t3,by rw [h,h2,h3]⟩
    ·rcases R9 hxy fuel t' (listed.setIfInBounds i true) with ⟨t2,h2⟩|⟨t2,h2⟩
     ·obtain ⟨t3,h3⟩:=uR (fuel:=fuel) (qx (x:=x) (y:=y) hi fun e=>absurd e hiy) t2;exact .inl ⟨t3,by rw [h,h2,h3]⟩
     ·obtain ⟨t3,h3⟩:=uR (fuel:=fuel) (qx (x:=y) (y:=x) hi fun e=>absurd e hix) t2;exact .inr ⟨t3,by rw [h,h2,h3]⟩
structure Reg (P:Program) (ops:Array Oper) (Q:Exit→Act→World→Prop) (a:Act) (w:World):Prop where
 out:∀ t,wpOps P ops Q (Region.linearise .any ops t) a w
theorem Qi {id:Nat} {a:Act} {w:World} (hm:P.follows .mixedOrders=true) (h:Reg P ops Q a w.drew):(Code.region id ops true).wp P Q a w :=
 wp_region_draw fun t=>by
  simp only [Region.schedule,hm,Bool.true_or,if_true];exact h.out t
theorem Lf {a:Act} {w:World} (x y:Nat) (hxy:x≠y) (h1:Reg P (iC x y ops) Q a w) (h2:Reg P (iC y x ops) Q a w):Reg P ops Q a w:=⟨fun t=>by
 unfold Region.linearise
 rcases R9 (ops:=ops) hxy ops.size t (Array.replicate ops.size false) with ⟨t',h⟩|⟨t',h⟩
 ·rw [h];have:=h1.out t';unfold Region.linearise at this;rw [CQ] at this;exact tO x y _ _ _ this
 ·rw [h];have:=h2.out t';unfold Region.linearise at this;rw [CQ] at this;exact tO y x _ _ _ this⟩
def rF (l:List Nat) (ops:Array Oper):Bool:=(List.range ops.size).all fun i=>match ops[i]? with
 | some o=>o.after.all (fun e=> !Region.binds .any e || (decide (l.idxOf e.on<l.idxOf i)&&decide (e.on<ops.size)))
 | none=>true
theorem Rk {l:List Nat} (ho:rF l ops=true):Led ops:=fun listed hsz hr i hi=>by
 have key:∀ n i,l.idxOf i=n→i<ops.size→listed.getD i true=true:=by
  intro n
  induction n using Nat.strongRecOn with
  | _ n ih =>
   intro i hn hi;cases hl:listed.getD i true with
   | true=>rfl
   | false =>
    exfalso
    have ho':ops[i]? =some ops[i]:=by simp [hi]
    have hmem:i∈Region.ready .any ops listed:=mem_ready.2 ⟨hl,ops[i],ho',fun e he hb=>by
     unfold rF at ho;have h1:=List.all_eq_true.1 ho i (List.mem_range.2 hi);simp only [ho'] at h1;have h2:=Array.all_eq_true_iff_forall_mem.1 h1 e he;simp only [hb,Bool.not_true,Bool.false_or,Bool.and_eq_true,decide_eq_true_eq] at h2;have h3:=ih _ zo e.on rfl h2.2;have:e.on<listed.size:=by omega
     simpa [this] using h3⟩
    rw [hr] at hmem;cases hmem
 exact key _ i rfl hi
def Td (ops:Array Oper) (is:List (K × Nat)):Bool :=
 Region.noSelect ops&&rF (is.map (·.2)) ops&&dB ops is&&decide (is.map (·.2)).Nodup&&decide (is.length≤ops.size)&&(List.range ops.size).all (fun i=>(is.map (·.2)).contains i)
theorem uy {a:Act} {w:World} (is:List (K × Nat)) (hc:Td ops is=true) (hal:mI P ops is)
  (hQ:∀ c (a s:Act) w,s.defers=a.defers→Q (.panic c) a w→Q (.panic c) s w)
  (h:walk P ops Q w.heap.size is [] a w):Reg P ops Q a w:=⟨fun t=>by
 unfold Td at hc;simp only [Bool.and_eq_true,decide_eq_true_eq] at hc;obtain ⟨⟨⟨⟨⟨h1,h2⟩,h3⟩,h4⟩,h5⟩,h6⟩:=hc;unfold Region.linearise;refine wpAny_sound _ _ _ _ _ ?_;refine sW h1 (Rk h2) hQ w.heap.size ops.size is [] [] [] _ a a w ?_ ?_ h3 h4 zi zi hal ?_ h
 ·rw [iw];exact h5
 ·refine ⟨by simp,fun i hi=>?_,fun j o hj hl=>?_,rfl,rfl,fun t _ _=>rfl,by simp,by simp,by simp,by simp⟩
  ·have hmem:i∈is.map (·.2):=by simpa using List.all_eq_true.1 h6 i (List.mem_range.2 hi)
   simp [hi]
   simpa using hmem
  ·have hj':=(Array.getElem?_eq_some_iff.1 hj).1;simp [hj'] at hl
 ·exact ⟨by simp,by simp,by simp,by simp,Nat.le_refl _⟩⟩
end Go.SW
namespace Go.SW
open Go Go.RowKit
variable {P:Program} {ops:Array Oper} {Q:Exit→Act→World→Prop}
def Ba (P:Program) (ops:Array Oper) (mk:Nat→Nat→Value) (is:List (K × Nat)):Prop :=
 ∀ cs T j,(K.alloc cs T,j)∈is→∀ o,ops[j]? =some o→∀ (a:Act) w,(execOp a.eval o).run P w= .ok (.value (mk j w.heap.size)) (w.alloc (.cells cs T (0,0)))
def Ue (ops:Array Oper) (is:List (K × Nat)):Prop:=∀ x∈is,∀ y∈is,x.1.bZ=true→y.1.bZ=true→∀ d o,jr ops x.2=some d→ops[y.2]? =some o→d∉o.looksAt ops
def Kj (ops:Array Oper) (is:List (K × Nat)):Bool:=is.all fun x=> !x.1.bZ || is.all fun y=> !y.1.bZ || (match jr ops x.2,ops[y.2]? with|some d,some o=> !(o.looksAt ops).contains d| _,_=>true)
theorem Tq {is:List (K × Nat)} (h:Kj ops is=true):Ue ops is:=fun x hx y hy h1 h2 d o hd ho hm=>by
 unfold Kj at h;have k1:=List.all_eq_true.1 h x hx;rw [h1,Bool.not_true,Bool.false_or] at k1;have k2:=List.all_eq_true.1 k1 y hy;rw [h2,hd,ho,Bool.not_true,Bool.false_or] at k2;simp at k2
 exact k2 hm
def yc (ops:Array Oper) (a:Act) (i:Nat):Bool:=match ops[i]? with|some o=>Region.wanted o (yielded ops a.tmps)|none=>false
theorem vP {a:Act} {i:Nat} {o:Oper} (h:ops[i]? =some o):yc ops a i=Region.wanted o (yielded ops a.tmps):=by unfold yc;rw [h]
theorem KU {a:Act} {i:Nat} {o:Oper} {x:Option Tmp} {v:Value} (h:ops[i]? =some o) (hx:∀ d,x=some d→d∉o.looksAt ops):yc ops (a.put x v) i=yc ops a i:=by
 rw [vP h,vP h];exact gP fun t ht=>eH _ _ fun e=>hx t e ht
def gu (P:Program) (ops:Array Oper) (Q:Exit→Act→World→Prop) (mk:Nat→Nat→Value) (N:Nat):List (K × Nat)→List Nat→Act→World→Prop
 | [],_,a,w=>∀ w',Below w.heap.size w w'→Q .normal a w'
 | (k,i)::is,A,a,w =>
  match ops[i]? with
  | none=>False
  | some o =>
   match k with
   | .pure=>if Region.wanted o (yielded ops a.tmps) then ∃ v,(∀ w',(execOp a.eval o).run P w'= .ok (.value v) w')∧gu P ops Q mk N is A (a.put o.dst v) w else gu P ops Q mk N is A (a.put o.dst undef) w
   | .read=>if Region.wanted o (yielded ops a.tmps) then ∃ v,(∀ w',Below w.heap.size w w'→(execOp a.eval o).run P w'= .ok (.value v) w')∧gu P ops Q mk N is A (a.put o.dst v) w else gu P ops Q mk N is A (a.put o.dst undef) w
   | .alloc cs T=>if Region.wanted o (yielded ops a.tmps) then ∀ b w',Below w.heap.size w w'→N≤b→b<w'.heap.size→b∉A→w'.heap[b]? =some (.cells cs T (0,0))→gu P ops Q mk N is (b::A) (a.put o.dst (mk i b)) w' else gu P ops Q mk N is A (a.put o.dst undef) w
   | .ext=>if Region.wanted o (yielded ops a.tmps) then ∀ w',Below w.heap.size w w'→o.wp P a w' (fun a' w''=>Below w'.heap.size w' w''∧gu P ops Q mk N is A a' w'') Q else gu P ops Q mk N is A (a.put o.dst undef) w
   | .fin=>∀ w',Below w.heap.size w w'→wpOps P ops Q (i::is.map (·.2)) a w'
theorem jA {mk:Nat→Nat→Value} {N:Nat}:∀ (is:List (K × Nat)) (A:List Nat) (a:Act) (w w1:World),Below w.heap.size w w1→gu P ops Q mk N is A a w→gu P ops Q mk N is A a w1
 | [],_,_,_,_,hb,h=>fun w' hw'=>h w' (dL hb hw')
 | (k,i)::is,A,a,w,w1,hb,h=>by
  unfold gu at h ⊢;cases ho:ops[i]? with
  | none=>simp only [ho] at h
  | some o =>
   simp only [ho] at h ⊢;cases k with
   | pure =>
    simp only at h ⊢;split at h
    ·rename_i hw;obtain ⟨v,h1,h2⟩:=h;simp only [hw,if_true];exact ⟨v,h1,jA is _ _ _ _ hb h2⟩
    ·rename_i hw;simp only [hw,if_false,Bool.false_eq_true];exact jA is _ _ _ _ hb h
   | read =>
    simp only at h ⊢;split at h
    ·rename_i hw;obtain ⟨v,h1,h2⟩:=h;simp only [hw,if_true];exact ⟨v,fun w' hw'=>h1 w' (dL hb hw'),jA is _ _ _ _ hb h2⟩
    ·rename_i hw;simp only [hw,if_false,Bool.false_eq_true];exact jA is _ _ _ _ hb h
   | alloc cs T =>
    simp only at h ⊢;split at h
    ·rename_i hw;simp only [hw,if_true];exact fun b w' hw'=>h b w' (dL hb hw')
    ·rename_i hw;simp only [hw,if_false,Bool.false_eq_true];exact jA is _ _ _ _ hb h
   | ext =>
    simp only at h ⊢;split at h
    ·rename_i hw;simp only [hw,if_true];exact fun w' hw'=>h w' (dL hb hw')
    ·rename_i hw;simp only [hw,if_false,Bool.false_eq_true];exact jA is _ _ _ _ hb h
   | fin=>exact fun w' hw'=>h w' (dL hb hw')
structure ac6 (ops:Array Oper) (mk:Nat→Nat→Value) (N:Nat) (is:List (K × Nat)) (A:List Nat) (E:List (Nat × Nat)) (s a:Act) (w:World):Prop where
 good:∀ p∈E,∃ cs T,(K.alloc cs T,p.1)∈is∧(yc ops a p.1=true→w.heap[p.2]? =some (.cells cs T (0,0))∧N≤p.2∧p.2<w.heap.size∧p.2∉A)
 dist:∀ p∈E,∀ q∈E,p.1≠q.1→yc ops a p.1=true→yc ops a q.1=true→p.2≠q.2
 slot:∀ p∈E,∀ d,jr ops p.1=some d→d<a.tmps.size→s.tmps[d]? =some (if yc ops a p.1 then mk p.1 p.2 else undef)
 old:∀ x∈A,x<w.heap.size
 base:N≤w.heap.size
theorem Gv {mk:Nat→Nat→Value} (hs:Region.noSelect ops=true) (DZ:Led ops)
  (hQ:∀ c (a s:Act) w,s.defers=a.defers→Q (.panic c) a w→Q (.panic c) s w) (N:Nat) :
  ∀ (fuel:Nat) (is:List (K × Nat)) (A:List Nat) (U:List (Bool × Nat)) (E:List (Nat × Nat)) (listed:Array Bool) (s a:Act) (w:World),
   aQ is E+U.length≤fuel→Inv P ops (is.map (·.2)) U E listed s a w→dB ops is=true→(is.map (·.2)).Nodup →
   (∀ u∈U,u.2∉is.map (·.2))→(∀ u∈U,∀ q∈is,fG ops (if u.1 then .pure else .read,u.2) q=true) →
   Ba P ops mk is→Ue ops is→ac6 ops mk N is A E s a w →
   gu P ops Q mk N is A a w→wpAny P .any ops Q fuel listed s w:=by
 intro fuel
 induction fuel using Nat.strongRecOn with
 | _ fuel ZB =>
 intro is
 induction is with
 | nil =>
  intro A U E listed s a w hm I hok hnd jX hpr hal hbd he h
  have hE:E=[]:=by
   cases E with
   | nil=>rfl
   | cons p ps=>obtain ⟨cs,T,hmem,_⟩:=he.good p zi;cases hmem
  subst hE;exact rE hs DZ hQ fuel [] U listed s a w (by simp [aQ] at hm;simpa using hm) I rfl rfl zi zi zi (by simp only [List.map_nil,wpOps];exact h w (Below.refl _ _))
 | cons x xs ihl =>
  intro A U E listed s a w hm I hok hnd jX hpr hal hbd he h;obtain ⟨k,i⟩:=x;have hrest:dB ops xs=true:=by unfold dB at hok;simp only [Bool.and_eq_true] at hok;exact hok.2
  obtain ⟨o,ho⟩:∃ o,ops[i]? =some o:=by
   unfold dB at hok;simp only [Bool.and_eq_true] at hok;exact Option.isSome_iff_exists.1 hok.1.2
  have hilt:i<ops.size:=(Array.getElem?_eq_some_iff.1 ho).1;have om:i∉xs.map (·.2)∧(xs.map (·.2)).Nodup:=by simpa only [List.map_cons,List.nodup_cons] using hnd
  have hpx:k.isFin=false→∀ q∈xs,fG ops (k,i) q=true:=fun hk=>by
   unfold dB at hok;cases k<;>simp [K.isFin] at hk<;>simp only [Bool.and_eq_true] at hok
   ·exact fun q hq=>List.all_eq_true.1 hok.1.1.2 q hq
   ·exact fun q hq=>List.all_eq_true.1 hok.1.1.2 q hq
   ·exact fun q hq=>List.all_eq_true.1 hok.1.1.1 q hq
   ·exact fun q hq=>List.all_eq_true.1 hok.1.1.1 q hq
  have ZW:Ue ops xs:=fun x hx y hy=>hbd x (by simp [hx]) y (by simp [hy])
  have VI:∀ p∈E,listed.getD p.1 true=true:=fun p hp=>by
   obtain ⟨cs,T,hmem,_⟩:=he.good p hp;have hml:p.1∈((k,i)::xs).map (·.2):=List.mem_map.2 ⟨_,hmem,rfl⟩
   have hlt:p.1<ops.size:=by
    have key:∀ (l:List (K × Nat)),dB ops l=true→∀ q∈l,q.2<ops.size:=by
     intro l
     induction l with
     | nil=>intro _ q hq;cases hq
     | cons c l ihh =>
      intro hk q hq;unfold dB at hk;simp only [Bool.and_eq_true] at hk
      rcases List.mem_cons.1 hq with hq|hq
      ·subst hq;obtain ⟨y,hy⟩:=Option.isSome_iff_exists.1 hk.1.2;exact (Array.getElem?_eq_some_iff.1 hy).1
      ·exact ihh hk.2 q hq
    exact key _ hok _ hmem
   cases hl:listed.getD p.1 true with
   | true=>rfl
   | false =>
    exfalso
    rcases (I.tX p.1 hlt).1 hl with ⟨_,h2⟩|h2
    ·exact h2 (List.mem_map.2 ⟨p,hp,rfl⟩)
    ·obtain ⟨u,hu,e⟩:=List.mem_map.1 h2;exact jX u hu (e ▸ hml)
  have XJ:i∉E.map (·.1)→k.isFin=false→k.bZ=false→∀ p∈E,∀ v,yc ops (a.put o.dst v) p.1=yc ops a p.1:=fun jl LP hka p hp v=>by
   obtain ⟨cs,T,hmem,_⟩:=he.good p hp
   have hmx:(K.alloc cs T,p.1)∈xs:=by
    rcases List.mem_cons.1 hmem with hmem|hmem
    ·cases hmem;simp [K.bZ] at hka
    ·exact hmem
   have hf:=hpx LP _ hmx;unfold fG at hf;simp only [K.isFin,Bool.false_eq_true,if_false] at hf;cases hy:ops[p.1]? with
   | none=>unfold yc;rw [hy]
   | some y =>
    refine KU hy fun d hd hm=>?_;have he1:=(eF ho hy hf).2 d hd hm;obtain ⟨e,k1,k2,k3⟩:=mE hy he1;have hl:=VI p hp
    have hl2:listed.getD p.1 false=true:=by
     have hlt:=(Array.getElem?_eq_some_iff.1 hy).1;have:p.1<listed.size:=by rw [I.size];exact hlt
     simpa [this] using hl
    have hcl:=I.closed p.1 y hy hl2 e k1 k2;rw [k3] at hcl;have hun:listed.getD i true=false:=(I.tX i hilt).2 (.inl ⟨by simp,jl⟩);rw [getD_both hun] at hcl;cases hcl
  have Oh:k.isFin=false→∀ u∈U,fwd ops u.2 i=true:=fun hk u hu=>by
   have:=hpr u hu (k,i) zi;unfold fG at this
   simpa [hk] using this
  have advance:∀ (b:Bool) (v:Value),k.isFin=false→k.bZ=false→k.isPure=b→mP ops i=true→i∉E.map (·.1) →
    ((Region.wanted o (yielded ops a.tmps)=true∧∀ w',(b=false→Below w.heap.size w w')→(execOp a.eval o).run P w'= .ok (.value v) w')∨(Region.wanted o (yielded ops a.tmps)=false∧v=undef)) →
    (k= .pure∨k= .read)→gu P ops Q mk N xs A (a.put o.dst v) w→wpAny P .any ops Q fuel listed s w:=fun b v LP hka hkb hself jl hrun hkk hw=>by
   have hxl:∀ d,o.dst=some d→d∉o.looksAt ops:=fun d hd hm=>by unfold mP at hself;simp only [ho,hd] at hself;simp [hm] at hself
   have hl:∀ t,t∈o.looksAt ops→(a.put o.dst v).tmps[t]? =a.tmps[t]? :=fun t ht=>eH a v fun e=>hxl t e ht;refine ihl A ((b,i)::U) E listed s (a.put o.dst v) w ?_ ?_ hrest om.2 ?_ ?_ (fun cs T j hj=>hal cs T j (by simp [hj])) ZW ?_ hw
   ·have:aQ ((k,i)::xs) E=aQ xs E+1:=by
     unfold aQ;rw [List.filter_cons_of_pos (by simpa using jl)];rfl
    simp only [List.length_cons];omega
   ·refine ⟨I.size,fun j hj=>?_,I.closed,by rw [fq];exact I.defers,by rw [aZ];exact I.Bg,fun t h1 h2=>?_,fun u hu=>?_,fun u hu=>?_,fun u hu v' hv hne=>?_,fun u hu p hp=>?_⟩
    ·rw [I.tX j hj];simp only [List.map_cons,List.mem_cons]
     constructor
     ·rintro (⟨h|h,h2⟩|h)
      ·exact .inr (.inl h)
      ·exact .inl ⟨h,h2⟩
      ·exact .inr (.inr h)
     ·rintro (⟨h,h2⟩|h|h)
      ·exact .inl ⟨.inr h,h2⟩
      ·exact .inl ⟨.inl h,by rw [h];exact jl⟩
      ·exact .inr h
    ·have hd:o.dst≠some t:=by have:=h1 (b,i) zi;rwa [bf ho] at this
     rw [eH _ _ hd];exact I.agree t (fun u hu=>h1 u (by simp [hu])) h2
    ·rcases List.mem_cons.1 hu with hu|hu
     ·subst hu;refine ⟨o,ho,v,fun d hd hlt=>?_,?_⟩
      ·rw [hd];exact put_eq _ _ (by rwa [aZ] at hlt)
      ·rw [gP hl,mX (fun cs b=>Region.noSelect_spec hs i o cs b ho) hl];exact hrun
     ·exact (I.pend u hu).put hs v fun o' ho' d hd=>(eF ho' ho (Oh LP u hu)).1 d hd
    ·rcases List.mem_cons.1 hu with hu|hu
     ·subst hu;exact hself
     ·exact I.qg u hu
    ·rcases List.mem_cons.1 hu with hu|hu<;>rcases List.mem_cons.1 hv with hv|hv
     ·subst hu hv;exact absurd rfl hne
     ·subst hu;exact (dO (Oh LP v' hv)).2
     ·subst hv;exact (dO (Oh LP u hu)).1
     ·exact I.uu u hu v' hv hne
    ·rcases List.mem_cons.1 hu with hu|hu
     ·subst hu;obtain ⟨cs,T,hmem,_⟩:=he.good p hp
      rcases List.mem_cons.1 hmem with hmem|hmem
      ·cases hmem;simp [K.bZ] at hka
      ·have:=hpx LP _ hmem;unfold fG at this
       simpa [K.isFin] using this
     ·exact I.ue u hu p hp
   ·intro u hu
    rcases List.mem_cons.1 hu with hu|hu
    ·subst hu;exact om.1
    ·intro hm;exact jX u hu (by simp only [List.map_cons,List.mem_cons];exact .inr hm)
   ·intro u hu q hq
    rcases List.mem_cons.1 hu with hu|hu
    ·subst hu;have:=hpx LP q hq
     rcases hkk with rfl|rfl<;>simp [K.isPure] at hkb<;>subst hkb<;>simpa using this
    ·exact hpr u hu q (by simp [hq])
   ·have hst:=XJ jl LP hka;refine ⟨fun p hp=>?_,fun p hp q hq h1 h2 h3=>he.dist p hp q hq h1 (by rw [← hst p hp v];exact h2) (by rw [← hst q hq v];exact h3),fun p hp d hd hlt=>by rw [hst p hp v];exact he.slot p hp d hd (by rwa [aZ] at hlt),he.old,he.base⟩;obtain ⟨cs,T,hmem,hg⟩:=he.good p hp;refine ⟨cs,T,?_,fun hw=>hg (by rw [← hst p hp v];exact hw)⟩
    rcases List.mem_cons.1 hmem with hmem|hmem
    ·cases hmem;simp [K.bZ] at hka
    ·exact hmem
  have early:∀ (cs:Array Value) (T:TypeId) (r:Nat),(K.alloc cs T,r)∈(k,i)::xs→r∈Region.ready .any ops listed→r∉E.map (·.1)→∀ f,f<fuel→aQ ((k,i)::xs) E+U.length≤f+1 →
    wpOp P ops Q r (wpAny P .any ops Q f (listed.setIfInBounds r true)) s w:=fun cs T r hmem hr VG f hf hmf=>by
   obtain ⟨y,hy,JJ,qM⟩:=dh hr;have hrun:=hal cs T r hmem y hy;have az3:=oG hr;have hb:Below w.heap.size w (w.alloc (.cells cs T (0,0))):=(Below.refl _ _).alloc (Nat.le_refl _) _;have hsz:(w.alloc (.cells cs T (0,0))).heap.size=w.heap.size+1:=by simp
   have Ry:r∈((k,i)::xs).map (·.2):=List.mem_map.2 ⟨_,hmem,rfl⟩
   have sG:∀ t,t∈y.looksAt ops→s.tmps[t]? =a.tmps[t]? :=fun t ht=>by
    refine I.agree t (fun u hu hd=>?_) (fun p hp hd=>?_)
    ·have hp0:=hpr u hu _ hmem;unfold fG at hp0;simp only [K.isFin,Bool.false_eq_true,if_false] at hp0;cases hx:ops[u.2]? with
     | none=>simp [jr,hx] at hd
     | some z =>
      have he':=(eF hx hy hp0).2 t (by rw [bf hx] at hd;exact hd) ht;exact bQ hr he' ((I.tX u.2 (Array.getElem?_eq_some_iff.1 hx).1).2 (.inr (List.mem_map.2 ⟨u,hu,rfl⟩)))
    ·obtain ⟨cs',T',hm',_⟩:=he.good p hp;exact hbd _ hm' _ hmem rfl rfl t y hd hy ht
   have hwt:=gP (ops:=ops) sG
   have key:∀ (v:Value) (w1:World) (b:Nat),Below w.heap.size w w1→v=(if yc ops a r then mk r b else undef)→(yc ops a r=true→w1.heap[b]? =some (.cells cs T (0,0))∧b=w.heap.size∧b<w1.heap.size) →
     wpAny P .any ops Q f (listed.setIfInBounds r true) (s.put y.dst v) w1:=fun v w1 b hb hv hw1=>by
    refine ZB f hf ((k,i)::xs) A U ((r,b)::E) _ _ a _ ?_ ?_ hok hnd jX hpr hal hbd ?_ (jA _ _ _ _ _ hb h)
    ·have hlt:aQ ((k,i)::xs) ((r,b)::E)<aQ ((k,i)::xs) E:=by
      unfold aQ
      have e:((k,i)::xs).filter (fun x=> !(((r,b)::E).map (·.1)).contains x.2)=(((k,i)::xs).filter (fun x=> !(E.map (·.1)).contains x.2)).filter (fun x=>x.2 != r):=by
       rw [List.filter_filter]
       congr 1
       funext x
       simp only [List.map_cons,List.contains_cons,Bool.not_or];rfl
      rw [e];exact List.length_filter_lt_length_iff_exists.2 ⟨_,List.mem_filter.2 ⟨hmem,by simpa using VG⟩,by simp⟩
     omega
    ·refine ⟨by simpa using I.size,fun j hj=>?_,j5 I.closed hy qM,by rw [fq];exact I.defers,by rw [aZ];exact I.Bg,fun t h1 h2=>?_,fun u hu=>(I.pend u hu).later fun _=>hb,I.qg,I.uu,fun u hu p hp=>?_⟩
     ·rw [iV (by rw [I.size];exact hj),I.tX j hj];simp only [List.map_cons,List.mem_cons,not_or]
      constructor
      ·rintro ⟨⟨h,h2⟩|h,hne⟩
       ·exact .inl ⟨h,hne,h2⟩
       ·exact .inr h
      ·rintro (⟨h,hne,h2⟩|h)
       ·exact ⟨.inl ⟨h,h2⟩,hne⟩
       ·obtain ⟨u,hu,rfl⟩:=List.mem_map.1 h;exact ⟨.inr h,fun e=>jX u hu (e ▸ Ry)⟩
     ·have hd:y.dst≠some t:=by have:=h2 (r,b) zi;rwa [bf hy] at this
      rw [eH _ _ hd];exact I.agree t h1 fun p hp=>h2 p (by simp [hp])
     ·rcases List.mem_cons.1 hp with hp|hp
      ·subst hp;have:=hpr u hu _ hmem;unfold fG at this
       simpa [K.isFin] using this
      ·exact I.ue u hu p hp
    ·refine ⟨fun p hp=>?_,fun p hp q hq hne g1 g2=>?_,fun p hp d hd hlt=>?_,fun x hx=>Nat.lt_of_lt_of_le (he.old x hx) hb.size,Nat.le_trans he.base hb.size⟩
     ·rcases List.mem_cons.1 hp with hp|hp
      ·subst hp;refine ⟨cs,T,hmem,fun hw=>?_⟩;obtain ⟨k1,k2,k3⟩:=hw1 hw;exact ⟨k1,by rw [k2];exact he.base,k3,fun hA=>by have:=he.old _ hA;simp only at this;omega⟩
      ·obtain ⟨cs',T',hm',hg⟩:=he.good p hp;refine ⟨cs',T',hm',fun hw=>?_⟩;obtain ⟨hh,h1,h2,h3⟩:=hg hw;exact ⟨by rw [hb.block _ h2];exact hh,h1,Nat.lt_of_lt_of_le h2 hb.size,h3⟩
     ·rcases List.mem_cons.1 hp with hp|hp<;>rcases List.mem_cons.1 hq with hq|hq
      ·subst hp hq;exact absurd rfl hne
      ·subst hp;obtain ⟨_,_,_,hg⟩:=he.good q hq;obtain ⟨_,_,h2,_⟩:=hg g2;obtain ⟨_,k2,_⟩:=hw1 g1;exact fun e=>by simp only at e;omega
      ·subst hq;obtain ⟨_,_,_,hg⟩:=he.good p hp;obtain ⟨_,_,h2,_⟩:=hg g1;obtain ⟨_,k2,_⟩:=hw1 g2;exact fun e=>by simp only at e;omega
      ·exact he.dist p hp q hq hne g1 g2
     ·rcases List.mem_cons.1 hp with hp|hp
      ·subst hp;rw [bf hy] at hd;rw [hd,put_eq _ _ (by exact Nat.lt_of_lt_of_eq hlt I.Bg.symm),hv]
      ·obtain ⟨cs',T',hm',_⟩:=he.good p hp;have hne:p.1≠r:=fun e=>VG (e ▸ List.mem_map.2 ⟨p,hp,rfl⟩);have hc:=og _ hok _ hm' _ hmem rfl rfl hne;rw [eH _ _ (fun e=>hc.1 d hd (by rw [bf hy];exact e))];exact he.slot p hp d hd hlt
   unfold wpOp;simp only [hy];rw [hwt];cases hw:Region.wanted y (yielded ops a.tmps) with
   | true =>
    simp only [if_true];refine .inl ?_;unfold Oper.wp;rw [hrun];exact key _ _ w.heap.size hb (by rw [vP hy,hw];rfl) fun _=>⟨by show (w.heap.push _)[w.heap.size]? =_;simp,rfl,by rw [hsz];exact Nat.lt_succ_self _⟩
   | false =>
    simp only [Bool.false_eq_true,if_false];exact key _ _ 0 (Below.refl _ _) (by rw [vP hy,hw];rfl) fun h=>by rw [vP hy,hw] at h;cases h
  have hcount:i∉E.map (·.1)→1≤fuel:=fun jl=>by
   have:aQ ((k,i)::xs) E=aQ xs E+1:=by
    unfold aQ;rw [List.filter_cons_of_pos (by simpa using jl)];rfl
   omega
  have hinj:∀ (l:List (K × Nat)),(l.map (·.2)).Nodup→∀ x∈l,∀ y∈l,x.2=y.2→x=y:=by
   intro l
   induction l with
   | nil=>intro _ x hx;cases hx
   | cons c l ihh =>
    intro hn x hx0 y hy0 hxy;rw [List.map_cons,List.nodup_cons] at hn
    rcases List.mem_cons.1 hx0 with hx|hx<;>rcases List.mem_cons.1 hy0 with hy|hy
    ·rw [hx,hy]
    ·exact absurd (List.mem_map.2 ⟨y,hy,by rw [← hxy,hx]⟩) hn.1
    ·exact absurd (List.mem_map.2 ⟨x,hx,by rw [hxy,hy]⟩) hn.1
    ·exact ihh hn.2 x hx y hy hxy
  have actual:(k= .ext∨k.bZ=true)→i∉E.map (·.1)→xs.all (blocked ops i xs)=true →
    (∀ f,fuel=f+1→i∈Region.ready .any ops listed→wpOp P ops Q i (wpAny P .any ops Q f (listed.setIfInBounds i true)) s w)→wpAny P .any ops Q fuel listed s w:=fun hk jl hbl hhead=>by
   obtain ⟨f,rfl⟩:∃ f,fuel=f+1:=⟨fuel - 1,by have:=hcount jl;omega⟩;have Rw:listed.getD i true=false:=(I.tX i hilt).2 (.inl ⟨by simp,jl⟩);refine ⟨fun hr=>?_,fun r hr=>?_⟩
   ·exfalso
    have:=DZ _ I.size hr i hilt;rw [Rw] at this;cases this
   ·obtain ⟨y,hy,JJ,qM⟩:=dh hr
    rcases (I.tX r (oG hr)).1 JJ with ⟨hL,VG⟩|hU
    ·simp only [List.map_cons,List.mem_cons] at hL
     rcases hL with hL|hL
     ·subst hL;exact hhead f rfl hr
     ·obtain ⟨q,hq,rfl⟩:=List.mem_map.1 hL;have hb:=List.all_eq_true.1 hbl q hq;unfold blocked at hb;simp only [Bool.or_eq_true] at hb
      rcases hb with (hb|hb)|hb
      ·obtain ⟨kq,jq⟩:=q;cases kq with
       | alloc cs T=>exact early cs T jq (by simp [hq]) hr VG f (Nat.lt_succ_self _) zo
       | _=>simp [K.bZ] at hb
      ·exact (bQ hr hb Rw).elim
      ·obtain ⟨z,hz,hz2⟩:=List.any_eq_true.1 hb;simp only [Bool.and_eq_true,Bool.not_eq_true'] at hz2;obtain ⟨e,he1,he2,ZQ⟩:=mE hy hz2.2
       by_cases hlt:z.2<ops.size
       ·refine (bQ hr hz2.2 ((I.tX z.2 hlt).2 (.inl ⟨by simp;exact .inr ⟨z.1,hz⟩,fun hzE=>?_⟩))).elim;obtain ⟨p,hp,hpe⟩:=List.mem_map.1 hzE;obtain ⟨cs,T,hmem,_⟩:=he.good p hp;have hmem':(K.alloc cs T,z.2)∈(k,i)::xs:=by rw [← hpe];exact hmem
        rcases List.mem_cons.1 hmem' with h3|h3
        ·have:z.2=i:=by cases h3;rfl
         exact om.1 (this ▸ List.mem_map.2 ⟨z,hz,rfl⟩)
        ·have:z=(K.alloc cs T,z.2):=by
          exact hinj xs om.2 z hz _ h3 rfl
         rw [this] at hz2;simp [K.bZ] at hz2
       ·have:=qM e he1 he2;rw [ZQ] at this;simp [I.size,Nat.le_of_not_lt hlt] at this
    ·obtain ⟨u,hu,rfl⟩:=List.mem_map.1 hU;refine qw hs I hr hU (.inl (jX u hu)) fun v' I'=>?_;refine ZB f (Nat.lt_succ_self _) ((k,i)::xs) A _ E _ _ a w ?_ I' hok hnd (fun x hx=>jX x (List.mem_filter.1 hx).1) (fun x hx=>hpr x (List.mem_filter.1 hx).1) hal hbd ?_ h
     ·have:(U.filter (fun x=>x.2 != u.2)).length<U.length:=List.length_filter_lt_length_iff_exists.2 ⟨u,hu,by simp⟩;omega
     ·refine ⟨he.good,he.dist,fun p hp d hd hlt=>?_,he.old,he.base⟩;have hc:=(dO (I.ue u hu p hp)).2;rw [eH _ _ (fun e=>hc.1 d hd e)];exact he.slot p hp d hd hlt
  have jH:k.bZ=false→i∉E.map (·.1):=fun hk hm=>by
   obtain ⟨p,hp,hpe⟩:=List.mem_map.1 hm;obtain ⟨cs,T,hmem,_⟩:=he.good p hp;have:=hinj _ hnd _ hmem (k,i) zi hpe;cases this
   simp [K.bZ] at hk
  have DX:∀ p∈E,p.1≠i→∃ cs T,(K.alloc cs T,p.1)∈xs∧(yc ops a p.1=true→w.heap[p.2]? =some (.cells cs T (0,0))∧N≤p.2∧p.2<w.heap.size∧p.2∉A):=fun p hp hne=>by
   obtain ⟨cs,T,hmem,hg⟩:=he.good p hp;refine ⟨cs,T,?_,hg⟩
   rcases List.mem_cons.1 hmem with hmem|hmem
   ·cases hmem;exact absurd rfl hne
   ·exact hmem
  unfold gu at h;simp only [ho] at h;cases k with
  | pure =>
   simp only at h;have hself:mP ops i=true:=by unfold dB at hok;simp only [Bool.and_eq_true] at hok;exact hok.1.1.1
   split at h
   ·rename_i hw;obtain ⟨v,h1,h2⟩:=h;exact advance true v rfl rfl rfl hself (jH rfl) (.inl ⟨hw,fun w' _=>h1 w'⟩) (.inl rfl) h2
   ·rename_i hw;exact advance true undef rfl rfl rfl hself (jH rfl) (.inr ⟨by simpa using hw,rfl⟩) (.inl rfl) h
  | read =>
   simp only at h;have hself:mP ops i=true:=by unfold dB at hok;simp only [Bool.and_eq_true] at hok;exact hok.1.1.1
   split at h
   ·rename_i hw;obtain ⟨v,h1,h2⟩:=h;exact advance false v rfl rfl rfl hself (jH rfl) (.inl ⟨hw,fun w' hb=>h1 w' (hb rfl)⟩) (.inr rfl) h2
   ·rename_i hw;exact advance false undef rfl rfl rfl hself (jH rfl) (.inr ⟨by simpa using hw,rfl⟩) (.inr rfl) h
  | fin =>
   have hfin:xs.all (·.1.isFin)=true:=by unfold dB at hok;simp only [Bool.and_eq_true] at hok;exact hok.1.1.1
   have hE:E=[]:=by
    cases E with
    | nil=>rfl
    | cons p ps =>
     obtain ⟨cs,T,hmem,_⟩:=he.good p zi
     rcases List.mem_cons.1 hmem with hmem|hmem
     ·cases hmem
     ·have:=List.all_eq_true.1 hfin _ hmem;simp [K.isFin] at this
   subst hE;exact rE hs DZ hQ fuel ((.fin,i)::xs) U listed s a w (by rw [iw] at hm;exact hm) I hok (by rw [List.all_cons,hfin];rfl) hnd jX hpr (h w (Below.refl _ _))
  | ext =>
   have hbl:xs.all (blocked ops i xs)=true:=by unfold dB at hok;simp only [Bool.and_eq_true] at hok;exact hok.1.1.2
   refine actual (.inl rfl) (jH rfl) hbl fun f hf hr=>?_;obtain ⟨y,hy,JJ,qM⟩:=dh hr;rw [ho] at hy;cases hy
   have sG:∀ t,t∈o.looksAt ops→s.tmps[t]? =a.tmps[t]? :=fun t ht=>by
    refine I.agree t (fun u hu hd=>?_) (fun p hp hd=>?_)
    ·have hf:=Oh rfl u hu;cases hx:ops[u.2]? with
     | none=>simp [jr,hx] at hd
     | some y =>
      have he':=(eF hx ho hf).2 t (by rw [bf hx] at hd;exact hd) ht;exact bQ hr he' ((I.tX u.2 (Array.getElem?_eq_some_iff.1 hx).1).2 (.inr (List.mem_map.2 ⟨u,hu,rfl⟩)))
    ·obtain ⟨cs,T,hmem,_⟩:=DX p hp fun e=>jH rfl (e ▸ List.mem_map.2 ⟨p,hp,rfl⟩);have hf:=hpx rfl _ hmem;unfold fG at hf;simp only [K.isFin,Bool.false_eq_true,if_false] at hf;cases hx:ops[p.1]? with
     | none=>simp [jr,hx] at hd
     | some y=>exact ((eF ho hx hf).1 t (by rw [bf hx] at hd;exact hd)).1 ht
   have h':wpOp P ops Q i (fun a' w''=>Below w.heap.size w w''∧gu P ops Q mk N xs A a' w'') a w:=by
    unfold wpOp;simp only [ho];simp only at h;split at h
    ·rename_i hw;simp only [hw,if_true];exact .inl (h w (Below.refl _ _))
    ·rename_i hw;simp only [hw,Bool.false_eq_true,if_false];exact ⟨Below.refl _ _,h⟩
   refine sN ho (fun cs b=>Region.noSelect_spec hs i o cs b ho) sG I.defers hQ (fun ds v w' hk=>?_) h';obtain ⟨hb,hk⟩:=hk
   have aB0:aQ ((.ext,i)::xs) E=aQ xs E+1:=by
    unfold aQ;rw [List.filter_cons_of_pos (by simpa using jH rfl)];rfl
   have hst:∀ p∈E,yc ops ({ a with defers:=ds }.put o.dst v) p.1=yc ops a p.1:=fun p hp=>by
    rw [← XJ (jH rfl) rfl rfl p hp v];unfold yc;cases o.dst<;>rfl
   refine ZB f zo xs A U E _ _ ({ a with defers:=ds }.put o.dst v) w' zo ?_ hrest om.2 (fun u hu hm=>jX u hu (by simp only [List.map_cons,List.mem_cons];exact .inr hm)) (fun u hu q hq=>hpr u hu q (by simp [hq]))
    (fun cs T j hj=>hal cs T j (by simp [hj])) ZW ?_ hk
   ·refine ⟨by simpa using I.size,fun j hj=>?_,j5 I.closed ho qM,by simp [fq],by rw [aZ,aZ];exact I.Bg,fun t h1 h2=>?_,fun u hu=>?_,I.qg,I.uu,I.ue⟩
    ·rw [iV (by rw [I.size];exact hj),I.tX j hj];simp only [List.map_cons,List.mem_cons]
     constructor
     ·rintro ⟨⟨h|h,h2⟩|h,hne⟩
      ·exact absurd h hne
      ·exact .inl ⟨h,h2⟩
      ·exact .inr h
     ·rintro (⟨h,h2⟩|h)
      ·exact ⟨.inl ⟨.inr h,h2⟩,fun e=>om.1 (e ▸ h)⟩
      ·obtain ⟨u,hu,rfl⟩:=List.mem_map.1 h;exact ⟨.inr h,fun e=>jX u hu (by simp [e])⟩
    ·by_cases hd:o.dst=some t
     ·by_cases hlt:t<a.tmps.size
      ·rw [hd,put_eq _ _ (by exact Nat.lt_of_lt_of_eq hlt I.Bg.symm),put_eq _ _ (by exact hlt)]
      ·rw [Array.getElem?_eq_none (by rw [aZ];exact I.Bg ▸ Nat.le_of_not_lt hlt),Array.getElem?_eq_none (by rw [aZ];exact Nat.le_of_not_lt hlt)]
     ·rw [eH _ _ hd,eH _ _ hd];exact I.agree t h1 h2
    ·have h3:BU P ops u { a with defers:=ds } w:=I.pend u hu
     exact (h3.put hs v fun o' ho' d hd=>(eF ho' ho (Oh rfl u hu)).1 d hd).later fun _=>hb
   ·refine ⟨fun p hp=>?_,fun p hp q hq h1 h2 h3=>he.dist p hp q hq h1 (by rw [← hst p hp];exact h2) (by rw [← hst q hq];exact h3),fun p hp d hd hlt=>?_,fun x hx=>Nat.lt_of_lt_of_le (he.old x hx) hb.size,Nat.le_trans he.base hb.size⟩
    ·obtain ⟨cs,T,hmem,hg⟩:=DX p hp fun e=>jH rfl (e ▸ List.mem_map.2 ⟨p,hp,rfl⟩);refine ⟨cs,T,hmem,fun hw=>?_⟩;obtain ⟨hh,h1,h2,h3⟩:=hg (by rw [← hst p hp];exact hw);exact ⟨by rw [hb.block _ h2];exact hh,h1,Nat.lt_of_lt_of_le h2 hb.size,h3⟩
    ·obtain ⟨cs,T,hmem,_⟩:=DX p hp fun e=>jH rfl (e ▸ List.mem_map.2 ⟨p,hp,rfl⟩);have hf:=hpx rfl _ hmem;unfold fG at hf;simp only [K.isFin,Bool.false_eq_true,if_false] at hf;have hc:=(dO hf).2;rw [eH _ _ (fun e=>hc.1 d hd (by rw [bf ho];exact e)),hst p hp];exact he.slot p hp d hd (by rwa [aZ] at hlt)
  | alloc cs T =>
   have hbl:xs.all (blocked ops i xs)=true:=by unfold dB at hok;simp only [Bool.and_eq_true] at hok;exact hok.1.1.2
   by_cases jl:i∈E.map (·.1)
   ·obtain ⟨p,hp,hpi⟩:=List.mem_map.1 jl;obtain ⟨cs',T',hmem,hg⟩:=he.good p hp;have hsame:=hinj _ hnd _ hmem (.alloc cs T,i) zi hpi;have e1:cs'=cs:=by injection hsame with a b;injection a
    have e2:T'=T:=by injection hsame with a b;injection a
    subst e1 e2;have hwi:yc ops a p.1=Region.wanted o (yielded ops a.tmps):=by rw [hpi];exact vP ho
    have Rx:∀ d,o.dst=some d→d<a.tmps.size→s.tmps[d]? =some (if yc ops a p.1 then mk p.1 p.2 else undef):=fun d hd hlt=>he.slot p hp d (by rw [hpi,bf ho];exact hd) hlt
    have hst:∀ v,∀ q∈E,q.1≠i→yc ops (a.put o.dst v) q.1=yc ops a q.1:=fun v q hq hqi=>by
     obtain ⟨cs2,T2,zO,_⟩:=he.good q hq;cases hy:ops[q.1]? with
     | none=>unfold yc;rw [hy]
     | some y=>exact KU hy fun d hd hm=>hbd _ hmem _ zO rfl rfl d y (by show jr ops p.1=some d;rw [hpi,bf ho];exact hd) hy hm
    have fin:∀ (v:Value) (A':List Nat),v=(if yc ops a p.1 then mk p.1 p.2 else undef)→(∀ x∈A',x<w.heap.size)→(∀ q∈E,q.1≠i→yc ops a q.1=true→q.2∉A')→gu P ops Q mk N xs A' (a.put o.dst v) w→wpAny P .any ops Q fuel listed s w:=fun v A' hv hA1 hA2 hk=>by
     refine ihl A' U (E.filter (fun x=>x.1 != i)) listed s (a.put o.dst v) w ?_ ?_ hrest om.2 (fun u hu hm=>jX u hu (by simp only [List.map_cons,List.mem_cons];exact .inr hm)) (fun u hu q hq=>hpr u hu q (by simp [hq]))
      (fun cs T j hj=>hal cs T j (by simp [hj])) ZW ?_ hk
     ·have:aQ xs (E.filter (fun x=>x.1 != i))=aQ ((.alloc cs' T',i)::xs) E:=by
       unfold aQ;rw [List.filter_cons_of_neg (by simpa using jl)]
       congr 1
       refine List.filter_congr fun x hx=>?_;have hxi:x.2≠i:=fun e=>om.1 (e ▸ List.mem_map.2 ⟨x,hx,rfl⟩)
       congr 1
       rw [Bool.eq_iff_iff];simp only [List.contains_iff_mem,List.mem_map,List.mem_filter,bne_iff_ne,ne_eq]
       constructor
       ·rintro ⟨y,⟨hy,_⟩,e⟩;exact ⟨y,hy,e⟩
       ·rintro ⟨y,hy,e⟩;exact ⟨y,⟨hy,fun e2=>hxi (e ▸ e2)⟩,e⟩
      omega
     ·refine ⟨I.size,fun j hj=>?_,I.closed,by rw [fq];exact I.defers,by rw [aZ];exact I.Bg,fun t h1 h2=>?_,fun u hu=>(I.pend u hu).put hs _ fun o' ho' d hd=>(eF ho' ho (Oh rfl u hu)).1 d hd,I.qg,I.uu,fun u hu q hq=>I.ue u hu q (List.mem_filter.1 hq).1⟩
      ·rw [I.tX j hj];simp only [List.map_cons,List.mem_cons,List.mem_map,List.mem_filter,bne_iff_ne,ne_eq]
       constructor
       ·rintro (⟨h|h,h2⟩|h)
        ·subst h;exact absurd ⟨p,hp,hpi⟩ h2
        ·exact .inl ⟨h,fun ⟨y,⟨hy,_⟩,e⟩=>h2 ⟨y,hy,e⟩⟩
        ·exact .inr h
       ·rintro (⟨h,h2⟩|h)
        ·refine .inl ⟨.inr h,fun ⟨y,hy,e⟩=>h2 ⟨y,⟨hy,fun e2=>?_⟩,e⟩⟩;obtain ⟨z,hz,hz2⟩:=h;exact om.1 (List.mem_map.2 ⟨z,hz,by rw [hz2,← e,e2]⟩)
        ·exact .inr h
      ·by_cases hd:o.dst=some t
       ·by_cases hlt:t<a.tmps.size
        ·rw [hd,put_eq _ _ hlt,Rx t hd hlt,hv]
        ·rw [Array.getElem?_eq_none (by rw [I.Bg];exact Nat.le_of_not_lt hlt),Array.getElem?_eq_none (by rw [aZ];exact Nat.le_of_not_lt hlt)]
       ·rw [eH _ _ hd];refine I.agree t h1 fun q hq xu=>?_
        by_cases hqi:q.1=i
        ·rw [hqi,bf ho] at xu;exact hd xu
        ·exact h2 q (List.mem_filter.2 ⟨hq,by simpa using hqi⟩) xu
     ·refine ⟨fun q hq=>?_,fun q hq r hr hne g1 g2=>?_,fun q hq d hd hlt=>?_,hA1,he.base⟩
      ·obtain ⟨hq1,hq2⟩:=List.mem_filter.1 hq;have hqi:q.1≠i:=by simpa using hq2
       obtain ⟨cs2,T2,zO,hg2⟩:=DX q hq1 hqi;refine ⟨cs2,T2,zO,fun hw=>?_⟩;rw [hst v q hq1 hqi] at hw;obtain ⟨hh2,g1,g2,g3⟩:=hg2 hw;exact ⟨hh2,g1,g2,hA2 q hq1 hqi hw⟩
      ·obtain ⟨hq1,hq2⟩:=List.mem_filter.1 hq;obtain ⟨hr1,hr2⟩:=List.mem_filter.1 hr;rw [hst v q hq1 (by simpa using hq2)] at g1;rw [hst v r hr1 (by simpa using hr2)] at g2;exact he.dist q hq1 r hr1 hne g1 g2
      ·obtain ⟨hq1,hq2⟩:=List.mem_filter.1 hq;rw [hst v q hq1 (by simpa using hq2)];exact he.slot q hq1 d hd (by rwa [aZ] at hlt)
    simp only at h;cases hw:Region.wanted o (yielded ops a.tmps) with
    | true =>
     rw [hw,if_pos rfl] at h;rw [hw] at hwi;obtain ⟨hh,h1,h2,h3⟩:=hg hwi;have hk:=h p.2 w (Below.refl _ _) h1 h2 h3 hh;refine fin _ (p.2::A) (by rw [hwi,if_pos rfl,hpi]) (fun x hx=>?_) (fun q hq hqi hwq=>?_) hk
     ·rcases List.mem_cons.1 hx with hx|hx
      ·rw [hx];exact h2
      ·exact he.old x hx
     ·obtain ⟨cs2,T2,zO,hg2⟩:=he.good q hq;simp only [List.mem_cons,not_or];exact ⟨he.dist q hq p hp (by rw [hpi];exact hqi) hwq hwi,(hg2 hwq).2.2.2⟩
    | false =>
     rw [hw,if_neg zi] at h;rw [hw] at hwi;refine fin _ A (by rw [hwi,if_neg zi]) he.old (fun q hq hqi hwq=>?_) h;obtain ⟨cs2,T2,zO,hg2⟩:=he.good q hq;exact (hg2 hwq).2.2.2
   ·exact actual (.inr rfl) jl hbl fun f hf hr=>early cs T i zi hr jl f zo zo
def Tc (ops:Array Oper) (is:List (K × Nat)):Bool :=
 Region.noSelect ops&&rF (is.map (·.2)) ops&&dB ops is&&decide (is.map (·.2)).Nodup&&decide (is.length≤ops.size)&&(List.range ops.size).all (fun i=>(is.map (·.2)).contains i)&&Kj ops is
theorem xQ {mk:Nat→Nat→Value} {id:Nat} {a:Act} {w:World} (is:List (K × Nat)) (hm:P.follows .mixedOrders=true) (hc:Tc ops is=true) (hal:Ba P ops mk is)
  (hQ:∀ c (a s:Act) w,s.defers=a.defers→Q (.panic c) a w→Q (.panic c) s w)
  (h:gu P ops Q mk w.drew.heap.size is [] a w.drew):(Code.region id ops true).wp P Q a w:=by
 unfold Tc at hc;simp only [Bool.and_eq_true,decide_eq_true_eq] at hc;obtain ⟨⟨⟨⟨⟨⟨h1,h2⟩,h3⟩,h4⟩,h5⟩,h6⟩,h7⟩:=hc;refine wp_region_any hm ?_;refine Gv h1 (Rk h2) hQ w.heap.size ops.size is [] [] [] _ a a w.drew ?_ ?_ h3 h4 zi zi hal (Tq h7) ?_ h
 ·rw [iw];exact h5
 ·refine ⟨by simp,fun i hi=>?_,fun j o hj hl=>?_,rfl,rfl,fun t _ _=>rfl,by simp,by simp,by simp,by simp⟩
  ·have hmem:i∈is.map (·.2):=by simpa using List.all_eq_true.1 h6 i (List.mem_range.2 hi)
   simp [hi]
   simpa using hmem
  ·have hj':=(Array.getElem?_eq_some_iff.1 hj).1;simp [hj'] at hl
 ·exact ⟨by simp,by simp,by simp,by simp,Nat.le_refl _⟩
structure Wm (P:Program) (ops:Array Oper) (Q:Exit→Act→World→Prop) (mk:Nat→Nat→Value) (N:Nat) (is:List (K × Nat)) (A:List Nat) (a:Act) (w:World):Prop where
 out:gu P ops Q mk N is A a w
variable {mk:Nat→Nat→Value} {o:Oper} {i:Nat} {is:List (K × Nat)} {a:Act} {w:World} {N:Nat} {A:List Nat}
theorem UE {k:K} (hk:k.isFin=false) (ho:ops[i]? =some o) (hw:Region.wanted o (yielded ops a.tmps)=false) (h:∀ J:Act→Prop,(∀ a,Wm P ops Q mk N is A a w→J a)→J (a.put o.dst undef)):Wm P ops Q mk N ((k,i)::is) A a w:=by
 have h':=h (fun a=>gu P ops Q mk N is A a w) fun a ha=>ha.out;refine ⟨?_⟩;unfold gu;cases k<;>simp only [ho,hw,Bool.false_eq_true,if_false]<;>first|exact h'|simp [K.isFin] at hk
theorem UF (ho:ops[i]? =some o) (hw:Region.wanted o (yielded ops a.tmps)=true) (h:∀ J:Act→Prop,(∀ a,Wm P ops Q mk N is A a w→J a)→∃ v,(∀ w',(execOp a.eval o).run P w'= .ok (.value v) w')∧J (a.put o.dst v)):Wm P ops Q mk N ((.pure,i)::is) A a w:=by
 have h':=h (fun a=>gu P ops Q mk N is A a w) fun a ha=>ha.out;refine ⟨?_⟩;unfold gu;simp only [ho,hw,if_true];exact h'
theorem UG {T:TypeId} {x:Operand} {p:Addr} (ho:ops[i]? =some o) (hw:Region.wanted o (yielded ops a.tmps)=true) (hop:o.op= .load T x) (hx:a.eval x= .pointer (some p))
  (h:∀ J:Value→Prop,(∀ v,Wm P ops Q mk N is A (a.put o.dst v) w→J v)→(w.cell? p).isSome=true∧∃ v,(loadVar T p).run P w= .ok v w∧J v):Wm P ops Q mk N ((.read,i)::is) A a w:=by
 obtain ⟨h1,v,h2,h3⟩:=h (fun v=>gu P ops Q mk N is A (a.put o.dst v) w) fun a ha=>ha.out;refine ⟨?_⟩;unfold gu;simp only [ho,hw,if_true];refine ⟨v,fun w' hb=>?_,h3⟩;simp only [execOp,hop,hx,Instr.loadAt,Instr.sureAddr,Sem.run_bind,Sem.run_pure,Result.andThen_ok,oh hb h1 h2]
theorem dA (ho:ops[i]? =some o) (hw:Region.wanted o (yielded ops a.tmps)=true) (h:∀ w',Below w.heap.size w w'→∀ J:Act→World→Prop,(∀ a' w'',Below w'.heap.size w' w''→Wm P ops Q mk N is A a' w''→J a' w'')→o.wp P a w' J Q):Wm P ops Q mk N ((.ext,i)::is) A a w:=by
 refine ⟨?_⟩;unfold gu;simp only [ho,hw,if_true];exact fun w' hb=>h w' hb _ fun a' w'' h1 h2=>⟨h1,h2.out⟩
theorem iT {cs:Array Value} {T:TypeId} (ho:ops[i]? =some o) (hw:Region.wanted o (yielded ops a.tmps)=true) (h:∀ b w',Below w.heap.size w w'→N≤b→b<w'.heap.size→b∉A→w'.heap[b]? =some (.cells cs T (0,0))→∀ J:Act→World→Prop,(∀ a' w'',w''=w'→Wm P ops Q mk N is (b::A) a' w''→J a' w'')→J (a.put o.dst (mk i b)) w'):Wm P ops Q mk N ((.alloc cs T,i)::is) A a w:=by
 refine ⟨?_⟩;unfold gu;simp only [ho,hw,if_true];exact fun b w' h1 h2 h3 h4 h5=>h b w' h1 h2 h3 h4 h5 (fun a' w''=>w''=w'→gu P ops Q mk N is (b::A) a' w'') (fun a' w'' e h _=>h.out) rfl
theorem YL (l:List Oper) (hl:(i::is.map (·.2)).map (ops[·]?)=l.map some) (h:∀ w',Below w.heap.size w w'→wpList P ops Q l a w'):Wm P ops Q mk N ((.fin,i)::is) A a w:=by
 have hi:∃ o,ops[i]? =some o:=by
  cases l with
  | nil=>cases hl
  | cons x xs=>simp only [List.map_cons,List.cons.injEq] at hl;exact ⟨x,hl.1⟩
 obtain ⟨o,ho⟩:=hi;refine ⟨?_⟩;unfold gu;simp only [ho];exact fun w' hb=>kg _ l a w' hl (h w' hb)
end Go.SW
namespace Go.Proofs.dJ
open Go Go.RowKit Go.SW Go.Num Go.Mem Go.Proofs
def dV (x:(Int × Int) × Int):Value:=.tuple #[.agg #[.int .i64 x.1.1,.int .i64 x.1.2],.int .i64 x.2]
def gV (lo hi:Int):Bool:=decide (-1000000000000000000≤lo)&&(decide (lo≤hi)&&decide (hi≤1000000000000000000))
theorem uh (lo hi:Int) (w:World):Calls Tryz.prog 138 #[.int .i64 lo,.int .i64 hi] w (fun e w'=>e= .returned (.bool (gV lo hi))∧Below w.heap.size w w'):=by
 unfold gV;cases h1:decide (-1000000000000000000≤lo)<;>cases h2:decide (lo≤hi)<;>cases h3:decide (hi≤1000000000000000000)
 all_goals
  go_enter Tryz.func138,Tryz.ntmps138
  go_wp2_with fail
  go_ret
  exact ⟨rfl,Below.refl _ _⟩
theorem dw (lo hi:Int) (w:World):Calls Tryz.prog 83 #[.agg #[.int .i64 lo,.int .i64 hi]] w (fun e w'=>e= .returned (.int .i64 (if gV lo hi then 0 else 30))∧Below w.heap.size w w'):=by
 have H:=zh (fun W=>uh lo hi W);generalize gV lo hi=b at *;cases b
 all_goals
  go_enter Tryz.func83,Tryz.ntmps83
  go_wp2_with fail
  refine (H.out _).mono ?_;rintro e w1 ⟨rfl,hb1⟩;have hw:=Bt (show Below w.heap.size w (w.alloc (.cells #[.int .i64 lo,.int .i64 hi] 69)) from ah) hb1;go_wp2_with fail
  go_ret
  exact ⟨rfl,hw⟩
end Go.Proofs.dJ
namespace Go.cK
open Go Go.RowKit Go.Num Go.Mem
def jZ (w:World) (_T:TypeId) (v:Value) (l:List (Int × Int)):Prop :=
 ∃ a cap,v= .slice a l.length cap∧l.length≤cap∧cap≤9223372036854775807∧∀ k (_:k<l.length),∃ b off,a=some ⟨b,off,none⟩∧b<w.heap.size∧w.cell? ⟨b,off+k*2,none⟩=some (.int .i64 l[k].1)∧w.cell? ⟨b,off+k*2+1,none⟩=some (.int .i64 l[k].2)
theorem jZ.later {w w':World} {T:TypeId} {v:Value} {l:List (Int × Int)} (h:jZ w T v l) (hb:Below w.heap.size w w'):jZ w' T v l:=by
 obtain ⟨a,cap,h1,h2,h3,h4⟩:=h;refine ⟨a,cap,h1,h2,h3,fun k hk=>?_⟩;obtain ⟨b,off,h5,h6,h7,h8⟩:=h4 k hk;exact ⟨b,off,h5,Nat.lt_of_lt_of_le h6 hb.size,(hb.cell (p:=⟨b,off+k*2,none⟩) h6).trans h7,(hb.cell (p:=⟨b,off+k*2+1,none⟩) h6).trans h8⟩
theorem jZ.read {w:World} {T:TypeId} {v:Value} {l:List (Int × Int)} (h:jZ w T v l) :
  ∃ a cap,v= .slice a l.length cap∧l.length≤cap∧cap≤9223372036854775807∧∀ k (_:k<l.length),∃ b off,a=some ⟨b,off,none⟩∧b<w.heap.size∧w.cell? ⟨b,off+k*2,none⟩=some (.int .i64 l[k].1)∧w.cell? ⟨b,off+k*2+1,none⟩=some (.int .i64 l[k].2):=h
theorem jZ.pz {w:World} {T:TypeId} {b n c:Nat} {arr:Array Value} {l:List (Int × Int)} (h:au w b arr T) (hn:l.length=n) (hc:n≤c) (hm:c≤9223372036854775807) (k:∀ i (h:i<l.length),arr[i*2]? =some (.int .i64 l[i].1)∧arr[i*2+1]? =some (.int .i64 l[i].2)):jZ w T (.slice (some ⟨b,0,none⟩) n c) l:=by
 subst hn;refine ⟨_,_,rfl,hc,hm,fun i hi=>⟨b,0,rfl,h.lt,?_,?_⟩⟩
 ·rw [h.cell,Nat.zero_add];exact (k i hi).1
 ·rw [h.cell,Nat.zero_add];exact (k i hi).2
def okB (l:List (Int × Int)):Bool:=l.all fun b=>Go.Proofs.dJ.gV b.1 b.2
theorem jZ.one {w:World} {T:TypeId} {b:Nat} {lo hi:Int} (h:au w b #[.int .i64 lo,.int .i64 hi] T):jZ w T (.slice (some ⟨b,0,none⟩) 1 1) [(lo,hi)] :=
 jZ.pz h rfl (Nat.le_refl _) zo fun i hi=>by
  have:i<1:=hi;obtain rfl:i=0:=by omega
  exact ⟨rfl,rfl⟩
theorem jZ.two {w:World} {T:TypeId} {b:Nat} {x1 x2 x3 x4:Int} (h:au w b #[.int .i64 x1,.int .i64 x2,.int .i64 x3,.int .i64 x4] T):jZ w T (.slice (some ⟨b,0,none⟩) 2 2) [(x1,x2),(x3,x4)] :=
 jZ.pz h rfl (Nat.le_refl _) zo fun i hi=>by
  have:i<2:=hi;obtain rfl|rfl:i=0∨i=1:=by omega
  ·exact ⟨rfl,rfl⟩
  ·exact ⟨rfl,rfl⟩
end Go.cK
namespace Go.Proofs.dJ
open Go Go.RowKit Go.SW Go.Num Go.Mem Go.Proofs Go.cK
def gF (lo hi:Int):(Int × Int) × Int:=if gV lo hi then ((lo,hi),0) else ((0,0),6)
theorem kr (lo hi:Int) (w:World):Calls Tryz.prog 141 #[.int .i64 lo,.int .i64 hi] w (fun e w'=>e= .returned (dV (gF lo hi))∧Below w.heap.size w w'):=by
 have H:=zh (fun W=>uh lo hi W);unfold gF;generalize gV lo hi=b at *;unfold dV;cases b
 all_goals
  go_enter Tryz.func141,Tryz.ntmps141
  go_wp2_with fail
  refine (H.out _).mono ?_;rintro e w1 ⟨rfl,hb1⟩;have hx:=au.later (au.new w #[.int .i64 0,.int .i64 0] 69) hb1;have cx:=hx.cell;have fx:=hx.free;have lx:=hx.lt;have hw:=Bt (show Below w.heap.size w (w.alloc (.cells #[.int .i64 0,.int .i64 0] 69)) from ah) hb1;go_wp2_with fail
  refine aP rfl rfl aT Tryz.underlying69 rfl zk ?_;exact ⟨rfl,ah⟩
theorem ac1 (b c:Nat) (zs:List Int) (z0:Int) (h0:zs[0]? =some z0) (arr:Array Value) (T:TypeId) (w:World) (hx:au w b arr T) (hc:∀ j (h:j<zs.length),arr[j]? =some (.int .i64 zs[j])) (hl:zs.length≤9223372036854775807) :
  Calls Tryz.prog 233 #[.slice (some ⟨b,0,none⟩) zs.length c] w (fun e w'=>e= .returned (.int .i64 (zs.foldl max z0))∧Below w.heap.size w w'):=by
 have hn:0<zs.length:=by
  rcases Nat.eq_zero_or_pos zs.length with h|h
  ·rw [List.getElem?_eq_none zo] at h0;cases h0
  ·exact h
 have hz0:zs[0]=z0:=by
  rw [List.getElem?_eq_getElem hn] at h0;exact Option.some.inj h0
 have h00:w.cell? ⟨b,0,none⟩=some (.int .i64 z0):=by
  rw [hx.cell,hc 0 hn,hz0]
 have lb:=hx.lt;have g1:decide ((zs.length:Int)<1)=false:=by simp;omega
 have HX:=zh hx;have HC:=zh hc;clear hx hc;go_enter Tryz.func233,Tryz.ntmps233
 go_wp2_with fail
 go_loopw [3,4] (fun m i wr=>∃ k:Nat,0<k∧k≤zs.length∧i= .int .i64 (k:Int)∧m= .int .i64 ((zs.take k).foldl max z0)∧Below w.heap.size w wr) (fun _ i _=>zs.length - (intOf i).toNat)
 case atStart =>
  refine ⟨1,by omega,hn,rfl,?_,Below.refl _ _⟩;cases zs with
  | nil=>simp at hn
  | cons x t =>
   simp only [List.getElem_cons_zero] at hz0;subst hz0;simp
 case round =>
  obtain ⟨k,hk0,hk,rfl,rfl,hb⟩:=hrel
  by_cases hlt:k<zs.length
  ·have hcell:=((HX.out.later hb).cell k).trans (HC.out k hlt)
   have hstep:(zs.take (k+1)).foldl max z0=max ((zs.take k).foldl max z0) zs[k]:=by
    rw [List.take_succ_eq_append_getElem hlt,List.foldl_append];rfl
   have HS:=zh hstep;clear hstep;generalize zs[k]=zk at *;generalize (zs.take k).foldl max z0=mk at *;go_wp2_with fail
   go_roundw
   case rel=>exact ⟨k+1,by omega,by omega,by go_num,by rw [HS.out]<;>go_num,hb⟩
   case measure=>exact zM
  ·obtain rfl:k=zs.length:=by omega
   rw [List.take_length];go_wp2_with fail
   go_ret
   exact ⟨rfl,hb⟩
theorem Hw (b c:Nat) (zs:List Int) (z0:Int) (h0:zs[0]? =some z0) (arr:Array Value) (T:TypeId) (w:World) (hx:au w b arr T) (hc:∀ j (h:j<zs.length),arr[j]? =some (.int .i64 zs[j])) (hl:zs.length≤9223372036854775807) :
  Calls Tryz.prog 195 #[.slice (some ⟨b,0,none⟩) zs.length c] w (fun e w'=>e= .returned (.int .i64 (zs.foldl max z0))∧Below w.heap.size w w'):=by
 have H:=zh (ac1 b c zs z0 h0 arr T w hx hc hl);clear h0 hx hc hl;generalize zs.length=n at *;generalize zs.foldl max z0=z at *;go_enter Tryz.func195,Tryz.ntmps195
 go_wp2_with fail
 refine H.out.mono ?_;rintro e w1 ⟨rfl,hb1⟩;go_wp2_with fail
 go_ret
 exact ⟨rfl,hb1⟩
theorem AB (F:FuncId) (free:Array Value) (z:(Int × Int) × Int) (T:TypeId) (v:Value) (l:List (Int × Int)) (w:World) (hv:jZ w T v l)
  (h1:okB l=true→∀ W,Below w.heap.size w W→Calls Tryz.prog F free W (fun e w'=>e= .returned (dV z)∧Below W.heap.size W w'))
  (hen:∀ args W,(callFunc F args).run Tryz.prog W= .ok (.enter F args) W) :
  Calls Tryz.prog 142 #[.func (.func F) #[] free,v] w (fun e w'=>e= .returned (dV (if okB l then z else ((0,0),30)))∧Below w.heap.size w w'):=by
 obtain ⟨a,cap,rfl,hc1,hc2,hread⟩:=hv.read;have HR:=zh hread;have H1:=zh h1;clear h1 hv hread;obtain ⟨z',EZ⟩:∃ y,(if okB l then z else ((0,0),30))=y:=⟨_,rfl⟩;rw [EZ];have HZ:=zh EZ;clear EZ;obtain ⟨⟨z1,z2⟩,z3⟩:=z';unfold dV at *;simp only at *;go_enter Tryz.func142,Tryz.ntmps142
 go_wp2_with fail
 obtain ⟨wx,EW,hz,R⟩:=oz w #[.int .i64 0,.int .i64 0] 69;rw [EW];clear EW;have HB:=zh hz;clear hz;obtain ⟨bx,eb⟩:∃ y,w.heap.size=y:=⟨_,rfl⟩;rw [eb] at R ⊢;go_wp2_with fail
 go_loopw [11] (fun iv wr=>∃ k:Nat,iv= .int .i64 (k:Int)∧k≤l.length∧Hid (∀ j (h:j<l.length),j<k→gV l[j].1 l[j].2=true)∧Below wx.heap.size wx wr) (fun iv _=>l.length - (intOf iv).toNat)
 case atStart=>exact ⟨0,rfl,by omega,zh (fun j _ h=>by omega),Below.refl _ _⟩
 case round =>
  obtain ⟨k,rfl,hk,HK,hb⟩:=hrel
  rcases Nat.lt_or_ge k l.length with hlt|hge
  ·obtain ⟨b,off,rfl,hbl,hx1,hx2⟩:=HR.out k hlt;have hB:=Bt HB.out hb;have hc1:=(hB.cell (p:=⟨b,off+k*2,none⟩) hbl).trans hx1;have hc2:=(hB.cell (p:=⟨b,off+k*2+1,none⟩) hbl).trans hx2;clear hx1 hx2;have HV:=zh (fun W=>uh l[k].1 l[k].2 W);obtain ⟨bk,EK⟩:∃ y,gV l[k].1 l[k].2=y:=⟨_,rfl⟩;have HE:=zh EK;rw [EK] at HV;clear EK;generalize hlk:l[k]=lk at *;have Yi:=zh hlk;clear hlk;obtain ⟨y1,y2⟩:=lk;simp only at *;replace R:=R.bl hb;go_wp2_with fail
   obtain ⟨wy,EW,hz,Y⟩:=oz wr #[.int .i64 y1,.int .i64 y2] 69;rw [EW];clear EW;refine (HV.out _).mono ?_;rintro e w1 ⟨rfl,hb1⟩;have hw:=Bt hb (Bt hz hb1);replace R:=(R.bl hz).bl hb1;clear hc1 hc2 hz hb1 Y HV;cases bk
   ·have hx:=R.out;have cx:=hx.cell;have fx:=hx.free;have lx:=hx.lt;go_wp2_with fail
    refine aP rfl rfl aT Tryz.underlying69 rfl zk ?_
    have hno:okB l=false:=by
     unfold okB;rw [List.all_eq_false];refine ⟨l[k],List.getElem_mem _,?_⟩;rw [Yi.out,HE.out];simp
    have he:=HZ.out;rw [hno] at he;cases he
    have hB2:=Bt HB.out hw;exact ⟨rfl,ah⟩
   ·go_wp2_with fail
    go_roundw
    case rel =>
     refine ⟨k+1,by go_num,by omega,zh fun j hj hjk=>?_,hw⟩
     rcases Nat.lt_or_ge j k with h|h
     ·exact HK.out j hj h
     ·obtain rfl:j=k:=by omega
      rw [Yi.out,HE.out]
    case measure=>exact zM
  ·obtain rfl:k=l.length:=by omega
   have hyes:okB l=true:=by
    unfold okB;rw [List.all_eq_true];intro x hx;obtain ⟨j,hj,rfl⟩:=List.getElem_of_mem hx;exact HK.out j hj hj
   have he:=HZ.out;rw [if_pos hyes] at he;subst he;have HH:=zh (H1.out hyes);simp only at HH;clear hyes H1;replace R:=R.bl hb;have hB:=Bt HB.out hb;go_wp2_with fail
   refine (HH.out _ hB).mono ?_;rintro e w1 ⟨rfl,hb1⟩;have hw:=Bt hB hb1;replace R:=R.bl hb1;have hx:=R.out;have cx:=hx.cell;have fx:=hx.free;have lx:=hx.lt;clear hb1;go_wp2_with fail
   refine aP rfl rfl aT Tryz.underlying69 rfl zk ?_;exact ⟨rfl,ah⟩
def iC (a b:Int × Int):(Int × Int) × Int:=if okB [a,b] then gF (a.1+b.1) (a.2+b.2) else ((0,0),30)
theorem Xp (x y z t:Int) (h0:okB [(x,y),(z,t)]=true) (b c:Nat) (w:World) (h:au w b #[.int .i64 x,.int .i64 y] 69) (k:au w c #[.int .i64 z,.int .i64 t] 69) :
  Calls Tryz.prog 147 #[.pointer (some ⟨b,0,none⟩),.pointer (some ⟨c,0,none⟩)] w (fun e w'=>e= .returned (dV (gF (x+z) (y+t)))∧Below w.heap.size w w'):=by
 have h0':gV x y=true∧gV z t=true:=by simpa [okB] using h0
 obtain ⟨hk1,hk2,hk3⟩: -1000000000000000000≤x∧x≤y∧y≤1000000000000000000:=by simpa [gV] using h0'.1
 obtain ⟨hk4,hk5,hk6⟩: -1000000000000000000≤z∧z≤t∧t≤1000000000000000000:=by simpa [gV] using h0'.2
 have H:=zh (fun W=>kr (x+z) (y+t) W);generalize gF (x+z) (y+t)=m at *;obtain ⟨⟨m1,m2⟩,m3⟩:=m;unfold dV at *;simp only at *;have cb:=h.cell;have lb:=h.lt;have cc:=k.cell;have lc:=k.lt;clear h k h0 h0';go_enter Tryz.func147,Tryz.ntmps147
 go_wp2_with fail
 refine (H.out _).mono ?_;rintro e w1 ⟨rfl,hb1⟩;have hx:=au.later (au.new w #[.int .i64 0,.int .i64 0] 69) hb1;have cx:=hx.cell;have fx:=hx.free;have lx:=hx.lt;have hw:=Bt (show Below w.heap.size w (w.alloc (.cells #[.int .i64 0,.int .i64 0] 69)) from ah) hb1;go_wp2_with fail
 refine aP rfl rfl aT Tryz.underlying69 rfl zk ?_;exact ⟨rfl,ah⟩
theorem KO (x y z t:Int) (w:World):Calls Tryz.prog 88 #[.agg #[.int .i64 x,.int .i64 y],.agg #[.int .i64 z,.int .i64 t]] w (fun e w'=>e= .returned (dV (iC (x,y) (z,t)))∧Below w.heap.size w w'):=by
 have H:Hid (∀ W b c d,au W b #[.int .i64 x,.int .i64 y] 69→au W c #[.int .i64 z,.int .i64 t] 69→au W d #[.int .i64 x,.int .i64 y,.int .i64 z,.int .i64 t] 69→Calls Tryz.prog 142 #[.func (.func 147) #[] #[.pointer (some ⟨b,0,none⟩),.pointer (some ⟨c,0,none⟩)],.slice (some ⟨d,0,none⟩) 2 2] W (fun e w'=>e= .returned (dV (iC (x,y) (z,t)))∧Below W.heap.size W w')):=zh fun W b c d h1 h2 h3 =>
  AB 147 #[.pointer (some ⟨b,0,none⟩),.pointer (some ⟨c,0,none⟩)] _ _ _ _ W (jZ.two h3) (fun h W' hW'=>Xp x y z t h b c W' (h1.later hW') (h2.later hW')) (fun args W=>by rfl)
 generalize iC (x,y) (z,t)=m at *;obtain ⟨⟨m1,m2⟩,m3⟩:=m;unfold dV at *;simp only at *;go_enter Tryz.func88,Tryz.ntmps88
 go_wp2_with fail
 obtain ⟨wx,EW,hz,X,Y,R,Z⟩:=al4 w #[.int .i64 x,.int .i64 y] 69 #[.int .i64 z,.int .i64 t] 69 #[.int .i64 0,.int .i64 0] 69 #[.int .i64 x,.int .i64 y,.int .i64 z,.int .i64 t] 69;rw [EW];clear EW;have HB:=zh hz;clear hz;refine (H.out _ _ _ _ X.out Y.out Z.out).mono ?_;rintro e w1 ⟨rfl,hb1⟩;replace R:=R.bl hb1;replace HB:=zh (Bt HB.out hb1);clear hb1 H;have hx:=R.out;have cx:=hx.cell;have fx:=hx.free;have lx:=hx.lt;have hw:=HB.out;go_wp2_with fail
 refine aP rfl rfl aT Tryz.underlying69 rfl zk ?_;exact ⟨rfl,ah⟩
def ow (n:Int) (d:Nat) (up:Bool):Int:=if up then -(-n / (d:Int)) else n / (d:Int)
def uF (p d:Nat) (b:Bool):Nat:=if 0<p%d∧b=true then p / d+1 else p / d
theorem Lr (p d:Nat) (hd:0<d): -(p:Int) / (d:Int)= -((uF p d true:Nat):Int):=by
 have h:=Nat.div_add_mod p d;have hr:=Nat.mod_lt p hd;unfold uF;generalize p / d=q at *;generalize p%d=r at *
 have e: -(p:Int)= -(r:Int)+(d:Int)* -(q:Int):=by
  rw [← h,Int.natCast_add,Int.natCast_mul,Int.mul_neg];omega
 rw [e,Int.add_mul_ediv_left _ _ zo]
 by_cases h0:0<r
 ·rw [if_pos ⟨h0,rfl⟩]
  have: -(r:Int) / (d:Int)= -1:=by
   refine Int.le_antisymm ?_ ?_
   ·have:=(Int.ediv_lt_iff_lt_mul (a:= -(r:Int)) (b:=0) (c:=(d:Int)) zo).2 zo;omega
   ·rw [Int.le_ediv_iff_mul_le zo];omega
  rw [this];omega
 ·obtain rfl:r=0:=by omega
  rw [if_neg zo];simp
theorem Y3 (x y:Int) {d:Nat} (hd:0<d) (up:Bool):ow (x*y) d up=gB (uF (x.natAbs*y.natAbs) d (up != (decide (x<0) != decide (y<0)))) (decide (x<0) != decide (y<0)):=by
 rw [← yZ x y];generalize x.natAbs*y.natAbs=p;generalize (decide (x<0) != decide (y<0))=neg
 have hf:((p:Int)) / (d:Int)=((uF p d false:Nat):Int):=by
  unfold uF;rw [if_neg zi];omega
 have hn:=Lr p d hd;unfold ow gB;cases neg<;>cases up<;>simp [hf,hn]
def jD (x y:Int) (d:Nat) (up:Bool):Int × Bool:=if (ow (x*y) d up).natAbs≤1000000000000000000 then (ow (x*y) d up,true) else (0,false)
theorem Qo (x y:Int) {d:Nat} (hd:0<d) (up:Bool):jD x y d up=if uF (x.natAbs*y.natAbs) d (up != (decide (x<0) != decide (y<0)))≤1000000000000000000 then (gB (uF (x.natAbs*y.natAbs) d (up != (decide (x<0) != decide (y<0)))) (decide (x<0) != decide (y<0)),true) else (0,false):=by
 unfold jD;rw [Y3 x y hd,fF]
def gD (N:Int) (d:Nat):Int:=(2*N+d) / (2*(d:Int))
theorem GJ (N:Int) {d:Nat} (hd:0<d):gD N d*(2*(d:Int))≤2*N+d∧2*N+d<(gD N d+1)*(2*(d:Int)):=by
 unfold gD;refine ⟨Int.ediv_mul_le _ zo,?_⟩;have:=Int.lt_ediv_add_one_mul_self (2*N+(d:Int)) (b:=2*(d:Int)) zo;exact this
theorem y8 {N n:Int} {d:Nat} (hd:0<d) (h1:n*(d:Int)≤N) (h2:N<(n+1)*(d:Int)):ow N d false=n:=by
 unfold ow;rw [if_neg zi];refine Int.le_antisymm ?_ ((Int.le_ediv_iff_mul_le zo).2 h1);have:=(Int.ediv_lt_iff_lt_mul (c:=(d:Int)) zo).2 h2;omega
theorem Jk {N n:Int} {d:Nat} (hd:0<d) (h1:(n - 1)*(d:Int)<N) (h2:N≤n*(d:Int)):ow N d true=n:=by
 unfold ow;rw [if_pos rfl]
 have: -N / (d:Int)= -n:=by
  refine Int.le_antisymm ?_ ((Int.le_ediv_iff_mul_le zo).2 (by rw [Int.neg_mul];omega))
  have:=(Int.ediv_lt_iff_lt_mul (a:= -N) (b:= -n+1) (c:=(d:Int)) zo).2 (by
   have e:(-n+1)*(d:Int)= -((n - 1)*(d:Int)):=by rw [← Int.neg_mul];congr 1;omega
   rw [e];omega)
  omega
 omega
def arE (N:Int) (d:Nat):(Int × Int) × Int :=
 if -9223372036854775808≤gD N d∧gD N d<9223372036854775808 then
  (if gV (gD N d) (gD N d) then gF (gD N d+(if N<gD N d*d then -1 else 0)) (gD N d+(if gD N d*d<N then 1 else 0)) else ((0,0),6))
 else ((0,0),6)
theorem ab5 (N:Int) {d:Nat} (hd:0<d):arE N d=gF (ow N d false) (ow N d true):=by
 obtain ⟨h1,h2⟩:=GJ N hd;have m1:gD N d*(2*(d:Int))=2*(gD N d*(d:Int)):=by rw [← Int.mul_assoc,Int.mul_comm (gD N d) 2,Int.mul_assoc]
 have m2:(gD N d+1)*(2*(d:Int))=2*(gD N d*(d:Int))+2*(d:Int):=by rw [Int.add_mul,m1,Int.one_mul]
 rw [m1] at h1;rw [m2] at h2;unfold arE;generalize gD N d=n at *;have e1:(n+1)*(d:Int)=n*(d:Int)+d:=by rw [Int.add_mul,Int.one_mul]
 have e2:(n - 1)*(d:Int)=n*(d:Int) - d:=by rw [Int.sub_mul,Int.one_mul]
 have e3:(n - 1+1)*(d:Int)=n*(d:Int):=by congr 1;omega
 have e4:(n+1 - 1)*(d:Int)=n*(d:Int):=by congr 1;omega
 have key:∃ lo hi,ow N d false=lo∧ow N d true=hi∧lo=n+(if N<n*(d:Int) then -1 else 0)∧hi=n+(if n*(d:Int)<N then 1 else 0):=by
  rcases Int.lt_trichotomy N (n*(d:Int)) with c|c|c
  ·refine ⟨n - 1,n,y8 hd zo zo,Jk hd zo zo,by rw [if_pos c];omega,by rw [if_neg zo];omega⟩
  ·refine ⟨n,n,y8 hd zo zo,Jk hd zo zo,by rw [if_neg zo];omega,by rw [if_neg zo];omega⟩
  ·refine ⟨n,n+1,y8 hd zo zo,Jk hd zo zo,by rw [if_neg zo];omega,by rw [if_pos c]⟩
 obtain ⟨lo,hi,k1,k2,k3,k4⟩:=key;rw [k1,k2,← k3,← k4];have hlo:lo=n∨lo=n - 1:=by rw [k3];split<;>omega
 have hhi:hi=n∨hi=n+1:=by rw [k4];split<;>omega
 have hor:lo=n∨hi=n:=by
  rw [k3,k4]
  by_cases c:N<n*(d:Int)
  ·right;rw [if_neg zo];omega
  ·left;rw [if_neg c];omega
 by_cases c1: -9223372036854775808≤n∧n<9223372036854775808
 ·rw [if_pos c1];cases hb:gV n n
  ·rw [if_neg zi];unfold gF;rw [if_neg];intro h;unfold gV at hb h;simp only [Bool.and_eq_true,decide_eq_true_eq,Bool.and_eq_false_iff,decide_eq_false_iff_not] at hb h;omega
  ·rw [if_pos rfl]
 ·rw [if_neg c1];unfold gF;rw [if_neg];intro h;unfold gV at h;simp only [Bool.and_eq_true,decide_eq_true_eq] at h;omega
end Go.Proofs.dJ
namespace Go.cK
open Go Go.Num
theorem zw (q:Rat) (E:Nat):q*((E:Nat):Rat)*((q.den:Nat):Rat)=((q.num*(E:Int):Int):Rat):=by
 have h:q*((q.den:Nat):Rat)=((q.num:Int):Rat):=by
  have h1:((q.num:Int):Rat) / ((q.den:Nat):Rat)=q:=by
   have:=Rat.mkRat_eq_div q.num q.den;rw [← this,Rat.mkRat_self]
  have h2:((q.den:Nat):Rat)≠0:=by have:=q.den_nz;exact_mod_cast this
  generalize ((q.den:Nat):Rat)=d at *;generalize ((q.num:Int):Rat)=m at *
  grind
 rw [Rat.intCast_mul,← h,Rat.intCast_natCast]
 grind
theorem QY (q:Rat) (n:Int) {E:Nat} (hE:0<E):q<(n:Rat) / ((E:Nat):Rat)↔q.num*(E:Int)<n*(q.den:Int):=by
 have hEq:(0:Rat)<((E:Nat):Rat):=by exact_mod_cast hE
 have hd:(0:Rat)<((q.den:Nat):Rat):=by exact_mod_cast q.den_pos
 rw [Rat.lt_div_iff hEq,← Rat.mul_lt_mul_right hd,zw,← Rat.intCast_natCast,← Rat.intCast_mul,Rat.intCast_lt_intCast]
theorem PO (q:Rat) (n:Int) {E:Nat} (hE:0<E):(n:Rat) / ((E:Nat):Rat)<q↔n*(q.den:Int)<q.num*(E:Int):=by
 have hEq:(0:Rat)<((E:Nat):Rat):=by exact_mod_cast hE
 have hd:(0:Rat)<((q.den:Nat):Rat):=by exact_mod_cast q.den_pos
 rw [Rat.div_lt_iff hEq,← Rat.mul_lt_mul_right hd,zw,← Rat.intCast_natCast,← Rat.intCast_mul,Rat.intCast_lt_intCast]
theorem Ot (q:Rat) (n:Int) {E:Nat} (hE:0<E):Aw q ((n:Rat) / ((E:Nat):Rat))=if q.num*(E:Int)<n*(q.den:Int) then -1 else if n*(q.den:Int)<q.num*(E:Int) then 1 else 0:=by
 unfold Aw;simp only [QY q n hE,PO q n hE]
end Go.cK
