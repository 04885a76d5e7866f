/- Lemmas for the proof. No condition. -/
import Derived.Test.YtneajphgfdlmhaaGreatDoorTB01
import Derived.Test.YtneajphgfdlmhaaGreatDoorTB02
import Derived.Test.YtneajphgfdlmhaaGreatDoorProg
import Derived.KernelRfl
import Derived.WalkMore
import Derived.Deep.RegionHeld
import Derived.Shelf.Bits.Mul64
import Derived.ControlIn
import Derived.RangeFuncBox
import Derived.RangeFuncLeaves
import Derived.RangeFuncFrom
import Derived.RangeFuncNested
import Derived.RangeFuncBound
import Derived.RangeFuncCalls
import Derived.Shelf.Abstract
import Derived.WalkKit
import Derived.OwnWalkIn
import Derived.TacticsInMore
import Derived.LoopNIn
import Derived.LoopIn
import Derived.ChangeKeysEq
import Derived.ChangeSame
import Derived.ChangeVars
import Derived.Below
set_option linter.unusedVariables false
set_option linter.unusedSimpArgs false
set_option maxRecDepth 100000
set_option maxHeartbeats 16000000
namespace Go.Num
theorem qp {B:Nat} {v:List Nat} {k:Nat} (hv:v.length=k+2):val B v=val B (v.take k)+B^k*(v.getD k 0+B*v.getD (k+1) 0):=by
 have h1:=bL B (l:=v) (k:=k) zo;have h2:=bL B (l:=v) (k:=k+1) zo;rw [show k+1+1=v.length by omega,List.take_length] at h2;rw [h2,h1,Nat.mul_add,Nat.pow_succ,Nat.mul_assoc,Nat.add_assoc]
theorem yE {B:Nat} {u:List Nat} {k:Nat} (hu:u.length=k+3):val B u=val B (u.take k)+B^k*(u.getD k 0+B*(u.getD (k+1) 0+B*u.getD (k+2) 0)):=by
 have h1:=bL B (l:=u) (k:=k) zo;have h2:=bL B (l:=u) (k:=k+1) zo;have h3:=bL B (l:=u) (k:=k+2) zo;rw [show k+2+1=u.length by omega,List.take_length] at h3;rw [h3,h2,h1];simp only [Nat.mul_add,Nat.pow_succ,Nat.mul_assoc];omega
structure Sw (B U V top head q r:Nat):Prop where
 split:q*top+r=head
 high:U / V≤q
 bound:q≤B+1
section
variable {B:Nat} {u v:List Nat} {k:Nat}
theorem Rc (hB:1<B) (hu:u.length=k+3) (hv:v.length=k+2) (du:dY B u) (ht:B≤2*v.getD (k+1) 0) (hlt:val B u<val B v*B) (dv:dY B v) :
  Sw B (val B u) (val B v) (v.getD (k+1) 0) (u.getD (k+2) 0*B+u.getD (k+1) 0) ((u.getD (k+2) 0*B+u.getD (k+1) 0) / v.getD (k+1) 0) ((u.getD (k+2) 0*B+u.getD (k+1) 0)%v.getD (k+1) 0):=by
 have eu:=yE (B:=B) hu;have ev:=qp (B:=B) hv;have lu:=gZ zo (du.take k);have lv:=gZ zo (dv.take k);rw [show (u.take k).length=k by simp;omega] at lu;rw [show (v.take k).length=k by simp;omega] at lv;have d0:=du.getD zo k;have d1:=du.getD zo (k+1);have f0:=dv.getD zo k;generalize u.getD k 0=u2 at *;generalize u.getD (k+1) 0=u1 at *;generalize u.getD (k+2) 0=un at *;generalize v.getD k 0=v2 at *;generalize v.getD (k+1) 0=top at *;generalize val B (u.take k)=a at *;generalize val B (v.take k)=b at *;have hp:0<B^k:=Nat.pow_pos zo;generalize B^k=p at *;have htop:0<top:=by omega
 have hV:0<val B v:=by
  rw [ev];have:0<p*(v2+B*top):=Nat.mul_pos hp (by have:=Nat.mul_pos (by omega:0<B) htop;omega);omega
 have Vg:=Nat.div_add_mod (un*B+u1) top;have hml:=Nat.mod_lt (un*B+u1) htop;refine ⟨by rw [Nat.mul_comm];exact Vg,?_,?_⟩
 ·rw [← Nat.lt_succ_iff,Nat.div_lt_iff_lt_mul hV,eu,ev];generalize (un*B+u1) / top=q at *;have h1:un*B+u1+1≤(q+1)*top:=by rw [Nat.add_mul,Nat.one_mul,Nat.mul_comm q];omega
  have h2:p*(B*(un*B+u1+1))≤p*(B*((q+1)*top)):=Nat.mul_le_mul_left _ (Nat.mul_le_mul_left _ h1)
  have h3:a+p*(u2+B*(u1+B*un))<p*(B*(un*B+u1+1)):=by
   have:p*(u2+B*(u1+B*un)+1)≤p*(B*(un*B+u1+1)):=Nat.mul_le_mul_left _ (by rw [Nat.mul_add B (un*B+u1),Nat.mul_one,Nat.add_comm u1,Nat.mul_comm B un];omega);rw [Nat.mul_add,Nat.mul_one] at this;omega
  have h4:p*(B*((q+1)*top))≤Nat.succ q*(b+p*(v2+B*top)):=by
   rw [Nat.succ_eq_add_one,show p*(B*((q+1)*top))=(q+1)*(p*(B*top)) by rw [Nat.mul_left_comm B,Nat.mul_left_comm p]];refine Nat.mul_le_mul_left _ ?_;rw [Nat.mul_add p];omega
  omega
 ·-- the highest digit of u is at most that of v
  have h1:un≤top:=by
   rcases Nat.lt_or_ge top un with h|h
   ·exfalso
    rw [eu,ev] at hlt;have h2:p*(B*(B*(top+1)))≤p*(B*(B*un)):=Nat.mul_le_mul_left _ (Nat.mul_le_mul_left _ (Nat.mul_le_mul_left _ h))
    have h3:(b+p*(v2+B*top))*B≤p*(B*(B*(top+1))):=by
     have:b+p*(v2+B*top)≤p*(B*(top+1)):=by
      have h5:p*(v2+1+B*top)≤p*(B*(top+1)):=Nat.mul_le_mul_left _ (by rw [Nat.mul_add B top,Nat.mul_one];omega);simp only [Nat.mul_add,Nat.mul_one] at h5 ⊢;omega
     calc (b+p*(v2+B*top))*B≤p*(B*(top+1))*B:=Nat.mul_le_mul_right _ this
      _=p*(B*(B*(top+1))):=by rw [Nat.mul_assoc,Nat.mul_comm (B*(top+1)) B]
    have h4:p*(B*(B*un))≤a+p*(u2+B*(u1+B*un)):=by simp only [Nat.mul_add];omega
    omega
   ·exact h
  have h2:(un*B+u1) / top<B+2:=by
   rw [Nat.div_lt_iff_lt_mul htop];have h3:un*B≤top*B:=Nat.mul_le_mul_right _ h1;rw [Nat.add_mul,Nat.mul_comm B top];omega
  omega
theorem Vm (hB:1<B) (hu:u.length=k+3) (hv:v.length=k+2) (du:dY B u) {q r:Nat} (ht:0<v.getD (k+1) 0) (hlt:val B u<val B v*B)
  (g:Sw B (val B u) (val B v) (v.getD (k+1) 0) (u.getD (k+2) 0*B+u.getD (k+1) 0) q r) (hc:B≤q∨r*B+u.getD k 0<q*v.getD k 0) :
  1≤q∧Sw B (val B u) (val B v) (v.getD (k+1) 0) (u.getD (k+2) 0*B+u.getD (k+1) 0) (q - 1) (r+v.getD (k+1) 0):=by
 have eu:=yE (B:=B) hu;have ev:=qp (B:=B) hv;have lu:=gZ zo (du.take k);rw [show (u.take k).length=k by simp;omega] at lu;obtain ⟨g1,g2,g3⟩:=g;generalize u.getD k 0=u2 at *;generalize u.getD (k+1) 0=u1 at *;generalize u.getD (k+2) 0=un at *;generalize v.getD k 0=v2 at *;generalize v.getD (k+1) 0=top at *;generalize val B (u.take k)=a at *;generalize val B (v.take k)=b at *;have hp:0<B^k:=Nat.pow_pos zo;generalize B^k=p at *
 have hV:0<val B v:=by
  rw [ev];have:0<p*(v2+B*top):=Nat.mul_pos hp (by have:=Nat.mul_pos (by omega:0<B) ht;omega);omega
 have hq:val B u / val B v<q:=by
  rcases hc with hc|hc
  ·have:val B u / val B v<B:=by rw [Nat.div_lt_iff_lt_mul hV,Nat.mul_comm];exact hlt
   omega
  ·rw [Nat.div_lt_iff_lt_mul hV,eu,ev]
   have h1:u2+B*(u1+B*un)+1≤q*(v2+B*top):=by
    have:B*(q*top+r)=B*(un*B+u1):=by rw [g1]
    rw [Nat.mul_add B (q*top)] at this;rw [Nat.mul_add q,Nat.mul_left_comm q B top];rw [Nat.mul_add B u1,← Nat.mul_comm un B];rw [Nat.mul_add B (un*B)] at this;rw [Nat.mul_comm r B] at hc;omega
   have h2:=Nat.mul_le_mul_left p h1;rw [Nat.mul_add p,Nat.mul_one] at h2
   have h3:p*(q*(v2+B*top))≤q*(b+p*(v2+B*top)):=by
    rw [Nat.mul_left_comm];exact Nat.mul_le_mul_left _ zo
   omega
 have hq0:=Nat.zero_le (val B u / val B v);obtain ⟨q,rfl⟩:∃ q',q=q'+1:=⟨q - 1,by omega⟩;refine ⟨by omega,?_,by simp only [Nat.add_sub_cancel];omega,by omega⟩;rw [Nat.add_mul,Nat.one_mul] at g1;simp only [Nat.add_sub_cancel];omega
theorem ZT (hB:1<B) (hu:u.length=k+3) (hv:v.length=k+2) (dv:dY B v) {q r:Nat} (ht:0<v.getD (k+1) 0)
  (g:Sw B (val B u) (val B v) (v.getD (k+1) 0) (u.getD (k+2) 0*B+u.getD (k+1) 0) q r) (hc:q≤B) (hc2:q*v.getD k 0≤r*B+u.getD k 0):q≤val B u / val B v+1:=by
 have eu:=yE (B:=B) hu;have ev:=qp (B:=B) hv;have lv:=gZ zo (dv.take k);rw [show (v.take k).length=k by simp;omega] at lv;obtain ⟨g1,g2,g3⟩:=g;generalize u.getD k 0=u2 at *;generalize u.getD (k+1) 0=u1 at *;generalize u.getD (k+2) 0=un at *;generalize v.getD k 0=v2 at *;generalize v.getD (k+1) 0=top at *;generalize val B (u.take k)=a at *;generalize val B (v.take k)=b at *;have hp:0<B^k:=Nat.pow_pos zo;generalize B^k=p at *
 have hV:0<val B v:=by
  rw [ev];have:0<p*(v2+B*top):=Nat.mul_pos hp (by have:=Nat.mul_pos (by omega:0<B) ht;omega);omega
 have hq0:=Nat.zero_le (val B u / val B v)
 rcases Nat.eq_zero_or_pos q with h0|h0
 ·omega
 obtain ⟨q',rfl⟩:∃ q',q=q'+1:=⟨q - 1,by omega⟩;rw [Nat.add_le_add_iff_right,Nat.le_div_iff_mul_le hV]
 have h1:(q'+1)*(v2+B*top)≤u2+B*(u1+B*un):=by
  have:B*((q'+1)*top+r)=B*(un*B+u1):=by rw [g1]
  rw [Nat.mul_add B ((q'+1)*top)] at this;rw [Nat.mul_add (q'+1),Nat.mul_left_comm (q'+1) B top];rw [Nat.mul_add B u1,← Nat.mul_comm un B];rw [Nat.mul_add B (un*B)] at this;rw [Nat.mul_comm r B] at hc2;omega
 have h2:=Nat.mul_le_mul_left p h1;have h3:(q'+1)*b≤B*p:=Nat.mul_le_mul hc zo
 have h4:B*p≤p*(v2+B*top):=by
  rw [Nat.mul_comm B p];refine Nat.mul_le_mul_left _ ?_;have:B*1≤B*top:=Nat.mul_le_mul_left _ ht;omega
 have h5:(q'+1)*val B v≤val B u+val B v:=by
  rw [eu,ev,Nat.mul_add,Nat.mul_left_comm (q'+1) p];omega
 rw [Nat.add_mul,Nat.one_mul] at h5;omega
end
theorem ae2 {B:Nat} {u v s:List Nat} {i q c b d c' b':Nat} (hiu:i<u.length) (hiv:i<v.length) (hs:s.length=i)
  (he:val B s+q*val B (v.take i)=val B (u.take i)+(b+c)*B^i) (h:d+b+(c+q*v.getD i 0)%B=u.getD i 0+b'*B) (hc:c'=(c+q*v.getD i 0) / B) :
  val B (s++[d])+q*val B (v.take (i+1))=val B (u.take (i+1))+(b'+c')*B^(i+1):=by
 rw [iG,bL B hiu,bL B hiv,hs,Nat.pow_succ];have h1:B*c'+(c+q*v.getD i 0)%B=c+q*v.getD i 0:=by rw [hc];exact Nat.div_add_mod _ _
 generalize (c+q*v.getD i 0)%B=m at *;have h2:d+b+(c+q*v.getD i 0)=u.getD i 0+(b'+c')*B:=by rw [Nat.add_mul,Nat.mul_comm c' B];omega
 have h3:=congrArg (B^i* ·) h2;simp only [Nat.mul_add] at h3 he ⊢;rw [show (b'+c')*(B^i*B)=B^i*((b'+c')*B) by rw [Nat.mul_left_comm]];rw [show q*(B^i*v.getD i 0)=B^i*(q*v.getD i 0) by rw [Nat.mul_left_comm]];rw [Nat.mul_comm (b+c),Nat.mul_add] at he;omega
theorem ae4 {B:Nat} {u v s:List Nat} {n q b c un:Nat} (hB:1<B) (hv:v.length=n) (dv:dY B v) (hV:0<val B v)
  (he:val B s+q*val B v=val B (u.take n)+(b+c)*B^n) (hu:val B u=val B (u.take n)+B^n*un) (hc:b+c≤un) (hq1:val B u / val B v≤q) :
  q=val B u / val B v∧val B s=val B u%val B v:=by
 have h1:val B u=q*val B v+(val B s+B^n*(un - (b+c))):=by
  obtain ⟨t,rfl⟩:=Nat.le.dest hc;rw [hu,Nat.add_sub_cancel_left,Nat.mul_add,Nat.mul_comm (B^n) (b+c)];omega
 have h2:q*val B v≤val B u:=by omega
 have h3:q≤val B u / val B v:=(Nat.le_div_iff_mul_le hV).2 h2;have hq:q=val B u / val B v:=by omega
 refine ⟨hq,?_⟩;have h4:=Nat.div_add_mod (val B u) (val B v);rw [← hq,Nat.mul_comm] at h4;have h5:val B s+B^n*(un - (b+c))=val B u%val B v:=by omega
 have h6:=Nat.mod_lt (val B u) hV;have h7:=gZ zo dv;rw [hv] at h7
 rcases Nat.eq_zero_or_pos (un - (b+c)) with h8|h8
 ·rw [h8] at h5;omega
 ·have:B^n*1≤B^n*(un - (b+c)):=Nat.mul_le_mul_left _ h8;omega
theorem ae3 {B:Nat} {u v s:List Nat} {n q b c un:Nat} (hB:1<B) (hs:s.length=n) (ds:dY B s) (hv:v.length=n) (dv:dY B v) (hV:0<val B v)
  (he:val B s+q*val B v=val B (u.take n)+(b+c)*B^n) (hu:val B u=val B (u.take n)+B^n*un) (hc:un<b+c) (hq2:q≤val B u / val B v+1) :
  q=val B u / val B v+1∧val B s+val B v=val B u%val B v+B^n:=by
 have hp:0<B^n:=Nat.pow_pos zo;have h7:=gZ zo dv;rw [hv] at h7;have h8:=gZ zo ds;rw [hs] at h8;have h4:=Nat.div_add_mod (val B u) (val B v);have h6:=Nat.mod_lt (val B u) hV;obtain ⟨t,ht⟩:=Nat.le.dest hc
 have h1:val B u+B^n*(t+1)=q*val B v+val B s:=by
  rw [hu,Nat.add_assoc,← Nat.mul_add,show un+(t+1)=b+c by omega,Nat.mul_comm (B^n)];omega
 have hpt:B^n*(t+1)=B^n*t+B^n:=by rw [Nat.mul_add,Nat.mul_one]
 have hq3:val B u / val B v+1≤q:=by
  rcases Nat.lt_or_ge (val B u / val B v) q with h|h
  ·exact h
  ·exfalso
   have:q*val B v≤val B u / val B v*val B v:=Nat.mul_le_mul_right _ h;rw [Nat.mul_comm (val B u / val B v)] at this;omega
 have hq:q=val B u / val B v+1:=by omega
 refine ⟨hq,?_⟩;rw [hq,Nat.add_mul,Nat.one_mul,Nat.mul_comm (val B u / val B v)] at h1;have h9:val B u%val B v+B^n*(t+1)=val B v+val B s:=by omega
 rcases Nat.eq_zero_or_pos t with h|h
 ·rw [h,Nat.zero_add,Nat.mul_one] at h9;omega
 ·have:B^n*1≤B^n*t:=Nat.mul_le_mul_left _ h;omega
theorem PG {B t:Nat} (hB:B=1000000000) (ht:0<t) (htB:t<B):B≤2*(t*(B / (t+1))):=by
 have hd:=Nat.div_add_mod B (t+1);have hm:=Nat.mod_lt B (Nat.succ_pos t);have hs:0<B / (t+1):=Nat.div_pos zo zo;generalize B / (t+1)=s at *;generalize B%(t+1)=m at *;obtain ⟨s',rfl⟩:∃ s',s=s'+1:=⟨s - 1,by omega⟩;rw [Nat.add_mul t 1,Nat.one_mul] at hd;have h1:t*(s'+1)=t*s'+t:=by rw [Nat.mul_add,Nat.mul_one]
 have h2:m≤t:=by omega
 rcases Nat.eq_zero_or_pos s' with h|h
 ·subst h;omega
 ·obtain ⟨t',rfl⟩:∃ t',t=t'+1:=⟨t - 1,by omega⟩;obtain ⟨r,rfl⟩:∃ r,s'=r+1:=⟨s' - 1,by omega⟩;have h3:(t'+1)*(r+1+1)=t'*r+2*t'+r+2:=by simp only [Nat.add_mul,Nat.mul_add];omega
  have h4:0≤t'*r:=Nat.zero_le _;rw [h3] at hd ⊢
  rcases Nat.eq_zero_or_pos t' with h5|h5
  ·subst h5;omega
  ·have h6:r≤t'*r:=by have:=Nat.mul_le_mul_right r h5;omega
   omega
theorem JB (B:Nat) {l:List Nat} {t:Nat} (ht:t≤l.length):val B l=val B (l.take t)+B^t*val B (l.drop t):=by
 conv=>lhs;rw [← List.take_append_drop t l,val_append]
 rw [List.length_take,Nat.min_eq_left ht]
theorem PI {b k:Nat} (hs:sz 1000000000 b=k+2) :
  let t:=(cK 1000000000 b).getD (k+1) 0
  let s:=1000000000 / (t+1)
  0<t∧t<1000000000∧0<s∧s≤500000000∧sz 1000000000 (b*s)=k+2∧1000000000≤2*(cK 1000000000 (b*s)).getD (k+1) 0:=by
 intro t s;have hB:1<1000000000:=by omega
 have hl:(cK 1000000000 b).length=k+2:=hs;have ht0:0<t:=Nat.pos_of_ne_zero (nX hB b (k+1) hl);have htB:t<1000000000:=(aZ hB b).getD zo (k+1);have hs0:0<s:=Nat.div_pos zo zo
 have hs5:s≤500000000:=by
  have:s≤1000000000 / 2:=Nat.div_le_div_left zo zo;omega
 have hsd:s*(t+1)≤1000000000:=Nat.div_mul_le_self _ _;have hp:0<1000000000^(k+1):=Nat.pow_pos zo
 have hb:b=val 1000000000 ((cK 1000000000 b).take (k+1))+1000000000^(k+1)*t:=by
  have h1:=bL 1000000000 (l:=cK 1000000000 b) (k:=k+1) zo;rw [show k+1+1=(cK 1000000000 b).length by omega,List.take_length,aT hB] at h1;exact h1
 have hlow:val 1000000000 ((cK 1000000000 b).take (k+1))<1000000000^(k+1):=by
  have:=gZ zo ((aZ hB b).take (k+1))
  rwa [show ((cK 1000000000 b).take (k+1)).length=k+1 by simp;omega] at this
 have h1:b*s<1000000000^(k+2):=by
  have h2:b<1000000000^(k+1)*(t+1):=by rw [Nat.mul_add,Nat.mul_one];omega
  have h3:b*s<1000000000^(k+1)*(t+1)*s:=Nat.mul_lt_mul_of_pos_right h2 hs0;have h4:1000000000^(k+1)*((t+1)*s)≤1000000000^(k+1)*1000000000:=Nat.mul_le_mul_left _ (by rw [Nat.mul_comm];exact hsd);rw [Nat.mul_assoc] at h3;rw [Nat.pow_succ 1000000000 (k+1)];omega
 have h2:sz 1000000000 (b*s)=k+2:=by
  have h3:=aX hB _ _ h1;have h4:sz 1000000000 b≤sz 1000000000 (b*s):=dB hB (Nat.le_mul_of_pos_right _ hs0);omega
 refine ⟨ht0,htB,hs0,hs5,h2,?_⟩;have hl2:(cK 1000000000 (b*s)).length=k+2:=h2
 have hb2:b*s=val 1000000000 ((cK 1000000000 (b*s)).take (k+1))+1000000000^(k+1)*(cK 1000000000 (b*s)).getD (k+1) 0:=by
  have h1:=bL 1000000000 (l:=cK 1000000000 (b*s)) (k:=k+1) zo;rw [show k+1+1=(cK 1000000000 (b*s)).length by omega,List.take_length,aT hB] at h1;exact h1
 have bt4:val 1000000000 ((cK 1000000000 (b*s)).take (k+1))<1000000000^(k+1):=by
  have:=gZ zo ((aZ hB (b*s)).take (k+1))
  rwa [show ((cK 1000000000 (b*s)).take (k+1)).length=k+1 by simp;omega] at this
 have hge:=PG (B:=1000000000) rfl ht0 htB;generalize (cK 1000000000 (b*s)).getD (k+1) 0=t2 at *
 have h5:t*s≤t2:=by
  rcases Nat.lt_or_ge t2 (t*s) with h|h
  ·exfalso
   have h6:1000000000^(k+1)*(t2+1)≤1000000000^(k+1)*(t*s):=Nat.mul_le_mul_left _ h;rw [Nat.mul_add,Nat.mul_one,← Nat.mul_assoc] at h6;have h7:1000000000^(k+1)*t*s≤b*s:=Nat.mul_le_mul_right _ zo;omega
  ·exact h
 have h8:1000000000≤2*(t*s):=hge;omega
theorem dividend {a b s k:Nat} (hs0:0<s) (hs1:s<1000000000) (hb:sz 1000000000 b=k+2) (hab:k+2≤sz 1000000000 a) :
  let us:=cK 1000000000 (a*s)++List.replicate (sz 1000000000 a+1 - sz 1000000000 (a*s)) 0
  sz 1000000000 (a*s)≤sz 1000000000 a+1∧us.length=sz 1000000000 a+1∧dY 1000000000 us∧val 1000000000 us=a*s∧val 1000000000 (us.drop (sz 1000000000 a - (k+2)+1))<b*s:=by
 intro us;have hB:1<1000000000:=by omega
 have h1:sz 1000000000 (a*s)≤sz 1000000000 a+1:=by
  have:=kC hB a s;have h2:=aX hB 1 s zo;omega
 have h2:us.length=sz 1000000000 a+1:=by simp only [us,List.length_append,List.length_replicate];unfold sz at*; omega
 have h3:val 1000000000 us=a*s:=by simp only [us];rw [val_append,xg,aT hB];simp
 refine ⟨h1,h2,(aZ hB _).append fun x hx=>by rw [List.eq_of_mem_replicate hx];omega,h3,?_⟩;have h4:=JB 1000000000 (l:=us) (t:=sz 1000000000 a - (k+2)+1) zo;rw [h3] at h4;have h5:=Ni hB (n:=b) (k:=k+1) zo;have h6:=iN hB a;have h7:1000000000^sz 1000000000 a=1000000000^(k+1)*1000000000^(sz 1000000000 a - (k+2)+1):=by rw [← Nat.pow_add];congr 1;omega
 generalize 1000000000^(sz 1000000000 a - (k+2)+1)=p at *
 have h8:a<b*p:=by
  have:1000000000^(k+1)*p≤b*p:=Nat.mul_le_mul_right _ h5;omega
 rcases Nat.lt_or_ge (val 1000000000 (us.drop (sz 1000000000 a - (k+2)+1))) (b*s) with h|h
 ·exact h
 ·exfalso
  have h9:p*(b*s)≤a*s:=by have:=Nat.mul_le_mul_left p h;omega
  have h10:a*s<b*p*s:=Nat.mul_lt_mul_of_pos_right h8 hs0;rw [show p*(b*s)=b*p*s by rw [← Nat.mul_assoc,Nat.mul_comm p b]] at h9;omega
theorem ZE {B:Nat} {us s s' qs:List Nat} {j V q:Nat} (hj:j<us.length) (he:val B (us.drop (j+1))=V*val B qs+val B s)
  (hq:q=val B (us.getD j 0::s) / V) (hs:val B s'=val B (us.getD j 0::s)%V):val B (us.drop j)=V*val B (q::qs)+val B s':=by
 rw [jc hj];have h:=Nat.div_add_mod (val B (us.getD j 0::s)) V;rw [← hq,← hs] at h;simp only [val] at h ⊢;rw [he,Nat.mul_add V,Nat.mul_add B,Nat.mul_left_comm V B];omega
theorem YP {B x V:Nat} {s:List Nat} (hx:x<B) (hs:val B s<V):val B (x::s)<V*B:=by
 have h:B*(val B s+1)≤B*V:=Nat.mul_le_mul_left _ hs;rw [Nat.mul_add,Nat.mul_one,Nat.mul_comm B V] at h;simp only [val];omega
theorem ai9 {a b s q r:Nat} (hs:0<s) (he:a*s=b*s*q+r) (hr:r<b*s):q=a / b∧r / s=a%b:=by
 have h1:a*s / (b*s)=a / b:=Nat.mul_div_mul_right _ _ hs;have h2:a*s%(b*s)=a%b*s:=Nat.mul_mod_mul_right _ _ _;have hp:0<b*s:=by omega
 rw [he,Nat.mul_add_div hp,Nat.div_eq_of_lt hr,Nat.add_zero] at h1;rw [he,Nat.mul_add_mod,Nat.mod_eq_of_lt hr] at h2;exact ⟨h1,by rw [h2,Nat.mul_div_cancel _ hs]⟩
end Go.Num
namespace Go.Proofs.aL
open Go Go.RowKit Go.SW Go.Num Go.Mem Go.Proofs
def bK (x:(Int × Int) × Int):Value:=.tuple #[.agg #[.int .i64 x.1.1,.int .i64 x.1.2],.int .i64 x.2]
def dA (lo hi:Int):Bool:=decide (-1000000000000000000≤lo)&&(decide (lo≤hi)&&decide (hi≤1000000000000000000))
theorem kG (lo hi:Int) (w:World):Calls Tryz.prog 116 #[.int .i64 lo,.int .i64 hi] w (fun e w'=>e= .returned (.bool (dA lo hi))∧Below w.heap.size w w'):=by
 unfold dA;cases h1:decide (-1000000000000000000≤lo)<;>cases h2:decide (lo≤hi)<;>cases h3:decide (hi≤1000000000000000000)
 all_goals
  go_enter Tryz.func116,Tryz.ntmps116
  go_wp2_with fail
  go_ret
  exact ⟨rfl,Below.refl _ _⟩
theorem iQ (lo hi:Int) (w:World):Calls Tryz.prog 151 #[.agg #[.int .i64 lo,.int .i64 hi]] w (fun e w'=>e= .returned (.int .i64 (if dA lo hi then 0 else 30))∧Below w.heap.size w w'):=by
 have H:=zh (fun W=>kG lo hi W);generalize dA lo hi=b at *;cases b
 all_goals
  go_enter Tryz.func151,Tryz.ntmps151
  go_wp2_with fail
  refine (H.out _).mono ?_;rintro e w1 ⟨rfl,hb1⟩;have hw:=Bt (show Below w.heap.size w (w.alloc (.cells #[.int .i64 lo,.int .i64 hi] 40)) from au) hb1;go_wp2_with fail
  go_ret
  exact ⟨rfl,hw⟩
theorem nu (lo hi:Int) (w:World):Calls Tryz.prog 183 #[.int .i64 lo,.int .i64 hi] w (fun e w'=>e= .returned (if dA lo hi then .tuple #[.agg #[.int .i64 lo,.int .i64 hi],.int .i64 0] else .tuple #[.agg #[.int .i64 0,.int .i64 0],.int .i64 30])∧Below w.heap.size w w'):=by
 have H:=zh (fun W=>kG lo hi W);generalize dA lo hi=b at *;cases b
 all_goals
  go_enter Tryz.func183,Tryz.ntmps183
  go_wp2_with fail
  refine (H.out _).mono ?_;rintro e w1 ⟨rfl,hb1⟩;have hx:=ah.later (ah.new w #[.int .i64 0,.int .i64 0] 40) hb1;have cx:=hx.cell;have fx:=hx.free;have lx:=hx.lt;have hw:=Bt (show Below w.heap.size w (w.alloc (.cells #[.int .i64 0,.int .i64 0] 40)) from au) hb1;go_wp2_with fail
  refine aM rfl rfl aJ Tryz.underlying40 rfl zk ?_;exact ⟨rfl,au⟩
end Go.Proofs.aL
namespace Go.SW
open Go Go.RowKit
variable {P:Program} {ops:Array Oper} {Q:Exit→Act→World→Prop} {o:Oper} {i:Nat} {is:List (K × Nat)} {a:Act} {w:World} {N:Nat} {A:List Nat}
theorem Gb (ho:ops[i]? =some o) (hw:Region.wanted o (yielded ops a.tmps)=true) (h:∀ J:Act→Prop,(∀ a,walk P ops Q N is A a w→J a)→∃ v,(∀ w',(execOp a.eval o).run P w'= .ok (.value v) w')∧J (a.put o.dst v)):walk P ops Q N ((.pure,i)::is) A a w:=by
 refine YS ho fun J hJ=>?_;rw [if_pos hw];exact h J hJ
theorem Gc {T:TypeId} {x:Operand} {p:Addr} (ho:ops[i]? =some o) (hw:Region.wanted o (yielded ops a.tmps)=true) (hop:o.op= .load T x) (hx:a.eval x= .pointer (some p))
  (h:∀ J:Value→Prop,(∀ v,walk P ops Q N is A (a.put o.dst v) w→J v)→(w.cell? p).isSome=true∧∃ v,(loadVar T p).run P w= .ok v w∧J v):walk P ops Q N ((.read,i)::is) A a w:=by
 unfold walk;simp only [ho,hw,if_true];obtain ⟨h1,v,h2,h3⟩:=h (fun v=>walk P ops Q N is A (a.put o.dst v) w) fun _ h=>h;refine ⟨v,fun w' hb=>?_,h3⟩;simp only [execOp,hop,hx,Instr.loadAt,Instr.sureAddr,Sem.run_bind,Sem.run_pure,Result.andThen_ok,yw hb h1 h2]
theorem YT (ho:ops[i]? =some o) (hw:Region.wanted o (yielded ops a.tmps)=true) (h:∀ w',Below w.heap.size w w'→∀ J:Act→World→Prop,(∀ a' w'',Below w'.heap.size w' w''→walk P ops Q N is A a' w''→J a' w'')→o.wp P a w' J Q):walk P ops Q N ((.ext,i)::is) A a w:=by
 unfold walk;simp only [ho,hw,if_true];exact fun w' hb=>h w' hb _ fun a' w'' h1 h2=>⟨h1,h2⟩
def K.soft:K→Bool
 | .pure=>true
 | .read=>true
 | .ext=>true
 | _=>false
theorem wZ {k:K} (hk:k.soft=true) (ho:ops[i]? =some o) (hw:Region.wanted o (yielded ops a.tmps)=false) (h:∀ J:Act→Prop,(∀ a,walk P ops Q N is A a w→J a)→J (a.put o.dst undef)):walk P ops Q N ((k,i)::is) A a w:=by
 have h':=h (fun a=>walk P ops Q N is A a w) fun _ h=>h;cases k with
 | pure=>unfold walk;simp only [ho,hw];exact h'
 | read=>unfold walk;simp only [ho,hw];exact h'
 | ext=>unfold walk;simp only [ho,hw];exact h'
 | alloc _ _=>cases hk
 | fin=>cases hk
end Go.SW
namespace Go.eF
open Go Go.RowKit Go.Num Go.Mem
def Bq (w:World) (_T:TypeId) (v:Value) (l:List (Int × Int)):Prop :=
 ∃ a cap,v= .slice a l.length cap∧l.length≤cap∧cap≤9223372036854775807∧∀ k (_:k<l.length),∃ b off,a=some ⟨b,off,none⟩∧b<w.heap.size∧w.cell? ⟨b,off+k*2,none⟩=some (.int .i64 l[k].1)∧w.cell? ⟨b,off+k*2+1,none⟩=some (.int .i64 l[k].2)
theorem Bq.later {w w':World} {T:TypeId} {v:Value} {l:List (Int × Int)} (h:Bq w T v l) (hb:Below w.heap.size w w'):Bq w' T v l:=by
 obtain ⟨a,cap,h1,h2,h3,h4⟩:=h;refine ⟨a,cap,h1,h2,h3,fun k hk=>?_⟩;obtain ⟨b,off,h5,h6,h7,h8⟩:=h4 k hk;exact ⟨b,off,h5,Nat.lt_of_lt_of_le h6 hb.size,(hb.cell (p:=⟨b,off+k*2,none⟩) h6).trans h7,(hb.cell (p:=⟨b,off+k*2+1,none⟩) h6).trans h8⟩
theorem Bq.read {w:World} {T:TypeId} {v:Value} {l:List (Int × Int)} (h:Bq w T v l) :
  ∃ a cap,v= .slice a l.length cap∧l.length≤cap∧cap≤9223372036854775807∧∀ k (_:k<l.length),∃ b off,a=some ⟨b,off,none⟩∧b<w.heap.size∧w.cell? ⟨b,off+k*2,none⟩=some (.int .i64 l[k].1)∧w.cell? ⟨b,off+k*2+1,none⟩=some (.int .i64 l[k].2):=h
theorem Bq.yT {w:World} {T:TypeId} {b n c:Nat} {arr:Array Value} {l:List (Int × Int)} (h:ah w b arr T) (hn:l.length=n) (hc:n≤c) (hm:c≤9223372036854775807) (k:∀ i (h:i<l.length),arr[i*2]? =some (.int .i64 l[i].1)∧arr[i*2+1]? =some (.int .i64 l[i].2)):Bq w T (.slice (some ⟨b,0,none⟩) n c) l:=by
 subst hn;refine ⟨_,_,rfl,hc,hm,fun i hi=>⟨b,0,rfl,h.lt,?_,?_⟩⟩
 ·rw [h.cell,Nat.zero_add];exact (k i hi).1
 ·rw [h.cell,Nat.zero_add];exact (k i hi).2
def okB (l:List (Int × Int)):Bool:=l.all fun b=>Go.Proofs.aL.dA b.1 b.2
theorem Bq.one {w:World} {T:TypeId} {b:Nat} {lo hi:Int} (h:ah w b #[.int .i64 lo,.int .i64 hi] T):Bq w T (.slice (some ⟨b,0,none⟩) 1 1) [(lo,hi)] :=
 Bq.yT h rfl (Nat.le_refl _) zo fun i hi=>by
  have:i<1:=hi;obtain rfl:i=0:=by omega
  exact ⟨rfl,rfl⟩
theorem Bq.two {w:World} {T:TypeId} {b:Nat} {x1 x2 x3 x4:Int} (h:ah w b #[.int .i64 x1,.int .i64 x2,.int .i64 x3,.int .i64 x4] T):Bq w T (.slice (some ⟨b,0,none⟩) 2 2) [(x1,x2),(x3,x4)] :=
 Bq.yT h rfl (Nat.le_refl _) zo fun i hi=>by
  have:i<2:=hi;obtain rfl|rfl:i=0∨i=1:=by omega
  ·exact ⟨rfl,rfl⟩
  ·exact ⟨rfl,rfl⟩
end Go.eF
namespace Go.Proofs.aL
open Go Go.RowKit Go.SW Go.Num Go.Mem Go.Proofs Go.eF
def dI (lo hi:Int):(Int × Int) × Int:=if dA lo hi then ((lo,hi),0) else ((0,0),6)
theorem jf (lo hi:Int) (w:World):Calls Tryz.prog 96 #[.int .i64 lo,.int .i64 hi] w (fun e w'=>e= .returned (bK (dI lo hi))∧Below w.heap.size w w'):=by
 have H:=zh (fun W=>kG lo hi W);unfold dI;generalize dA lo hi=b at *;unfold bK;cases b
 all_goals
  go_enter Tryz.func96,Tryz.ntmps96
  go_wp2_with fail
  refine (H.out _).mono ?_;rintro e w1 ⟨rfl,hb1⟩;have hx:=ah.later (ah.new w #[.int .i64 0,.int .i64 0] 40) hb1;have cx:=hx.cell;have fx:=hx.free;have lx:=hx.lt;have hw:=Bt (show Below w.heap.size w (w.alloc (.cells #[.int .i64 0,.int .i64 0] 40)) from au) hb1;go_wp2_with fail
  refine aM rfl rfl aJ Tryz.underlying40 rfl zk ?_;exact ⟨rfl,au⟩
theorem aR2 (b c:Nat) (zs:List Int) (z0:Int) (h0:zs[0]? =some z0) (arr:Array Value) (T:TypeId) (w:World) (hx:ah w b arr T) (hc:∀ j (h:j<zs.length),arr[j]? =some (.int .i64 zs[j])) (hl:zs.length≤9223372036854775807) :
  Calls Tryz.prog 241 #[.slice (some ⟨b,0,none⟩) zs.length c] w (fun e w'=>e= .returned (.int .i64 (zs.foldl max z0))∧Below w.heap.size w w'):=by
 have hn:0<zs.length:=by
  rcases Nat.eq_zero_or_pos zs.length with h|h
  ·rw [List.getElem?_eq_none zo] at h0;cases h0
  ·exact h
 have hz0:zs[0]=z0:=by
  rw [List.getElem?_eq_getElem hn] at h0;exact Option.some.inj h0
 have h00:w.cell? ⟨b,0,none⟩=some (.int .i64 z0):=by
  rw [hx.cell,hc 0 hn,hz0]
 have lb:=hx.lt;have g1:decide ((zs.length:Int)<1)=false:=by simp;omega
 have HX:=zh hx;have HC:=zh hc;clear hx hc;go_enter Tryz.func241,Tryz.ntmps241
 go_wp2_with fail
 go_loopw [3,4] (fun m i wr=>∃ k:Nat,0<k∧k≤zs.length∧i= .int .i64 (k:Int)∧m= .int .i64 ((zs.take k).foldl max z0)∧Below w.heap.size w wr) (fun _ i _=>zs.length - (intOf i).toNat)
 case atStart =>
  refine ⟨1,by omega,hn,rfl,?_,Below.refl _ _⟩;cases zs with
  | nil=>simp at hn
  | cons x t =>
   simp only [List.getElem_cons_zero] at hz0;subst hz0;simp
 case round =>
  obtain ⟨k,hk0,hk,rfl,rfl,hb⟩:=hrel
  by_cases hlt:k<zs.length
  ·have hcell:=((HX.out.later hb).cell k).trans (HC.out k hlt)
   have hstep:(zs.take (k+1)).foldl max z0=max ((zs.take k).foldl max z0) zs[k]:=by
    rw [List.take_succ_eq_append_getElem hlt,List.foldl_append];rfl
   have HS:=zh hstep;clear hstep;generalize zs[k]=zk at *;generalize (zs.take k).foldl max z0=mk at *;go_wp2_with fail
   go_roundw
   case rel=>exact ⟨k+1,by omega,by omega,by go_num,by rw [HS.out]<;>go_num,hb⟩
   case measure=>exact zM
  ·obtain rfl:k=zs.length:=by omega
   rw [List.take_length];go_wp2_with fail
   go_ret
   exact ⟨rfl,hb⟩
theorem wL (b c:Nat) (zs:List Int) (z0:Int) (h0:zs[0]? =some z0) (arr:Array Value) (T:TypeId) (w:World) (hx:ah w b arr T) (hc:∀ j (h:j<zs.length),arr[j]? =some (.int .i64 zs[j])) (hl:zs.length≤9223372036854775807) :
  Calls Tryz.prog 175 #[.slice (some ⟨b,0,none⟩) zs.length c] w (fun e w'=>e= .returned (.int .i64 (zs.foldl max z0))∧Below w.heap.size w w'):=by
 have H:=zh (aR2 b c zs z0 h0 arr T w hx hc hl);clear h0 hx hc hl;generalize zs.length=n at *;generalize zs.foldl max z0=z at *;go_enter Tryz.func175,Tryz.ntmps175
 go_wp2_with fail
 refine H.out.mono ?_;rintro e w1 ⟨rfl,hb1⟩;go_wp2_with fail
 go_ret
 exact ⟨rfl,hb1⟩
theorem kW (F:FuncId) (free:Array Value) (z:(Int × Int) × Int) (T:TypeId) (v:Value) (l:List (Int × Int)) (w:World) (hv:Bq w T v l)
  (h1:okB l=true→∀ W,Below w.heap.size w W→Calls Tryz.prog F free W (fun e w'=>e= .returned (bK z)∧Below W.heap.size W w'))
  (hen:∀ args W,(callFunc F args).run Tryz.prog W= .ok (.enter F args) W) :
  Calls Tryz.prog 97 #[.func (.func F) #[] free,v] w (fun e w'=>e= .returned (bK (if okB l then z else ((0,0),30)))∧Below w.heap.size w w'):=by
 obtain ⟨a,cap,rfl,hc1,hc2,hread⟩:=hv.read;have HR:=zh hread;have H1:=zh h1;clear h1 hv hread;obtain ⟨z',EZ⟩:∃ y,(if okB l then z else ((0,0),30))=y:=⟨_,rfl⟩;rw [EZ];have HZ:=zh EZ;clear EZ;obtain ⟨⟨z1,z2⟩,z3⟩:=z';unfold bK at *;simp only at *;go_enter Tryz.func97,Tryz.ntmps97
 go_wp2_with fail
 obtain ⟨wx,EW,hz,R⟩:=rG w #[.int .i64 0,.int .i64 0] 40;rw [EW];clear EW;have HB:=zh hz;clear hz;obtain ⟨bx,eb⟩:∃ y,w.heap.size=y:=⟨_,rfl⟩;rw [eb] at R ⊢;go_wp2_with fail
 go_loopw [11] (fun iv wr=>∃ k:Nat,iv= .int .i64 (k:Int)∧k≤l.length∧Hid (∀ j (h:j<l.length),j<k→dA l[j].1 l[j].2=true)∧Below wx.heap.size wx wr) (fun iv _=>l.length - (intOf iv).toNat)
 case atStart=>exact ⟨0,rfl,by omega,zh (fun j _ h=>by omega),Below.refl _ _⟩
 case round =>
  obtain ⟨k,rfl,hk,HK,hb⟩:=hrel
  rcases Nat.lt_or_ge k l.length with hlt|hge
  ·obtain ⟨b,off,rfl,hbl,hx1,hx2⟩:=HR.out k hlt;have hB:=Bt HB.out hb;have hc1:=(hB.cell (p:=⟨b,off+k*2,none⟩) hbl).trans hx1;have hc2:=(hB.cell (p:=⟨b,off+k*2+1,none⟩) hbl).trans hx2;clear hx1 hx2;have HV:=zh (fun W=>kG l[k].1 l[k].2 W);obtain ⟨bk,EK⟩:∃ y,dA l[k].1 l[k].2=y:=⟨_,rfl⟩;have HE:=zh EK;rw [EK] at HV;clear EK;generalize hlk:l[k]=lk at *;have HLK:=zh hlk;clear hlk;obtain ⟨y1,y2⟩:=lk;simp only at *;replace R:=R.bl hb;go_wp2_with fail
   obtain ⟨wy,EW,hz,Y⟩:=rG wr #[.int .i64 y1,.int .i64 y2] 40;rw [EW];clear EW;refine (HV.out _).mono ?_;rintro e w1 ⟨rfl,hb1⟩;have hw:=Bt hb (Bt hz hb1);replace R:=(R.bl hz).bl hb1;clear hc1 hc2 hz hb1 Y HV;cases bk
   ·have hx:=R.out;have cx:=hx.cell;have fx:=hx.free;have lx:=hx.lt;go_wp2_with fail
    refine aM rfl rfl aJ Tryz.underlying40 rfl zk ?_
    have hno:okB l=false:=by
     unfold okB;rw [List.all_eq_false];refine ⟨l[k],List.getElem_mem _,?_⟩;rw [HLK.out,HE.out];simp
    have he:=HZ.out;rw [hno] at he;cases he
    have hB2:=Bt HB.out hw;exact ⟨rfl,au⟩
   ·go_wp2_with fail
    go_roundw
    case rel =>
     refine ⟨k+1,by go_num,by omega,zh fun j hj hjk=>?_,hw⟩
     rcases Nat.lt_or_ge j k with h|h
     ·exact HK.out j hj h
     ·obtain rfl:j=k:=by omega
      rw [HLK.out,HE.out]
    case measure=>exact zM
  ·obtain rfl:k=l.length:=by omega
   have hyes:okB l=true:=by
    unfold okB;rw [List.all_eq_true];intro x hx;obtain ⟨j,hj,rfl⟩:=List.getElem_of_mem hx;exact HK.out j hj hj
   have he:=HZ.out;rw [if_pos hyes] at he;subst he;have HH:=zh (H1.out hyes);simp only at HH;clear hyes H1;replace R:=R.bl hb;have hB:=Bt HB.out hb;go_wp2_with fail
   refine (HH.out _ hB).mono ?_;rintro e w1 ⟨rfl,hb1⟩;have hw:=Bt hB hb1;replace R:=R.bl hb1;have hx:=R.out;have cx:=hx.cell;have fx:=hx.free;have lx:=hx.lt;clear hb1;go_wp2_with fail
   refine aM rfl rfl aJ Tryz.underlying40 rfl zk ?_;exact ⟨rfl,au⟩
def aq4 (lo hi:Int):(Int × Int) × Int:=if dA lo hi then dI (max (max lo (-hi)) 0) (max (-lo) hi) else ((0,0),30)
theorem aE5 (lo hi:Int) (h0:dA lo hi=true) (b:Nat) (w:World) (h:ah w b #[.int .i64 lo,.int .i64 hi] 40):Calls Tryz.prog 174 #[.pointer (some ⟨b,0,none⟩)] w (fun e w'=>e= .returned (bK (dI (max (max lo (-hi)) 0) (max (-lo) hi)))∧Below w.heap.size w w'):=by
 obtain ⟨hk1,hk2,hk3⟩: -1000000000000000000≤lo∧lo≤hi∧hi≤1000000000000000000:=by simpa [dA] using h0
 have H:=zh (fun W=>jf (max (max lo (-hi)) 0) (max (-lo) hi) W)
 have G1:Hid (∀ W c,ah W c #[.int .i64 lo,.int .i64 (-hi),.int .i64 0] 3→Calls Tryz.prog 175 #[.slice (some ⟨c,0,none⟩) 3 3] W (fun e w'=>e= .returned (.int .i64 (max (max lo (-hi)) 0))∧Below W.heap.size W w')):=zh fun W c hc=>by
  have:=wL c 3 [lo, -hi,0] lo rfl _ _ W hc (fun j hj=>by
   have:j<3:=hj;have hj:j=0∨j=1∨j=2:=by omega
   rcases hj with rfl|rfl|rfl<;>rfl) zi
  simpa using this
 have G2:Hid (∀ W c,ah W c #[.int .i64 (-lo),.int .i64 hi] 3→Calls Tryz.prog 175 #[.slice (some ⟨c,0,none⟩) 2 2] W (fun e w'=>e= .returned (.int .i64 (max (-lo) hi))∧Below W.heap.size W w')):=zh fun W c hc=>by
  have:=wL c 2 [-lo,hi] (-lo) rfl _ _ W hc (fun j hj=>by
   have:j<2:=hj;have hj:j=0∨j=1:=by omega
   rcases hj with rfl|rfl<;>rfl) zi
  simpa using this
 generalize dI (max (max lo (-hi)) 0) (max (-lo) hi)=z at *;generalize max (max lo (-hi)) 0=m1 at *;generalize max (-lo) hi=m2 at *;obtain ⟨⟨z1,z2⟩,z3⟩:=z;unfold bK at *;simp only at *;go_enter Tryz.func174,Tryz.ntmps174
 go_wp2_with fail
 obtain ⟨wx,EW,hz,R⟩:=rG w #[.int .i64 0,.int .i64 0] 40;rw [EW];clear EW;have hcell:∀ W,Below w.heap.size w W→∀ o v,(#[Value.int .i64 lo,.int .i64 hi]:Array Value)[o]? =some v→W.cell? ⟨b,o,none⟩=some v:=fun W hW o v hv=>((h.later hW).cell o).trans hv;have B:=h.later hz;have HB:=zh hz;clear hz h;obtain ⟨bx,eb⟩:∃ y,w.heap.size=y:=⟨_,rfl⟩;rw [eb] at R ⊢;have cB:=B.cell;have lB:=B.lt;have R:=R.out;have n1: -9223372036854775808≤ -hi:=by omega
 have W:Hid (∀ a:Int, -1000000000000000000≤a→a≤1000000000000000000→IntKind.i64.wrap (-a)= -a):=zh fun a h1 h2=>by rw [IntKind.wrap_i64];omega
 have w1:=W.out hi zo hk3;have w2:=W.out lo hk1 zo;have hB0:=HB.out
 go_region_held (fun w'=>w'.cell? ⟨b,0,none⟩=some (.int .i64 lo)∧w'.cell? ⟨b,1,none⟩=some (.int .i64 hi)∧Below w.heap.size w w')
  ((refine ⟨hcell _ ?_ 0 _ rfl,hcell _ ?_ 1 _ rfl,?_⟩<;>exact au))
  (first
  | (go_at_call 175;first|(with_reducible refine (G1.out _ _ ?_).mono ?_;exact aJ;rintro e wa ⟨rfl,hba⟩;have Ra:ah wa bx #[.int .i64 0,.int .i64 0] 40:=aJ)|(with_reducible refine (G2.out _ _ ?_).mono ?_;exact aJ;rintro e wb ⟨rfl,hbb⟩;have Rb:ah wb bx #[.int .i64 0,.int .i64 0] 40:=aJ))
  | (go_at_call 96;refine (H.out _).mono ?_;rintro e wc ⟨rfl,hbc⟩;have hx:ah wc bx #[.int .i64 0,.int .i64 0] 40:=aJ;have cx:=hx.cell;have fx:=hx.free;have lx:=hx.lt))
 all_goals
  go_wp2_with fail
  refine aM rfl rfl aJ Tryz.underlying40 rfl zk ?_;exact ⟨rfl,au⟩
theorem as6 (lo hi:Int) (w:World):Calls Tryz.prog 94 #[.agg #[.int .i64 lo,.int .i64 hi]] w (fun e w'=>e= .returned (bK (aq4 lo hi))∧Below w.heap.size w w'):=by
 have H:Hid (∀ W b c,ah W b #[.int .i64 lo,.int .i64 hi] 40→ah W c #[.int .i64 lo,.int .i64 hi] 40→Calls Tryz.prog 97 #[.func (.func 174) #[] #[.pointer (some ⟨b,0,none⟩)],.slice (some ⟨c,0,none⟩) 1 1] W (fun e w'=>e= .returned (bK (aq4 lo hi))∧Below W.heap.size W w')):=zh fun W b c h1 h2=>by
  have:=kW 174 #[.pointer (some ⟨b,0,none⟩)] _ _ _ _ W (Bq.one h2) (fun h W' hW'=>aE5 lo hi (by simpa [okB] using h) b W' (h1.later hW')) (fun args W=>by rfl);have e:okB [(lo,hi)]=dA lo hi:=by simp [okB]
  rw [e] at this;exact this
 generalize aq4 lo hi=z at *;obtain ⟨⟨z1,z2⟩,z3⟩:=z;unfold bK at *;simp only at *;go_enter Tryz.func94,Tryz.ntmps94
 go_wp2_with fail
 obtain ⟨wx,EW,hz,X,R,Z⟩:=yx w #[.int .i64 lo,.int .i64 hi] 40 #[.int .i64 0,.int .i64 0] 40 #[.int .i64 lo,.int .i64 hi] 40;rw [EW];clear EW;have HB:=zh hz;clear hz;refine (H.out _ _ _ X.out Z.out).mono ?_;rintro e w1 ⟨rfl,hb1⟩;replace R:=R.bl hb1;replace HB:=zh (Bt HB.out hb1);clear hb1 H;have hx:=R.out;have cx:=hx.cell;have fx:=hx.free;have lx:=hx.lt;have hw:=HB.out;go_wp2_with fail
 refine aM rfl rfl aJ Tryz.underlying40 rfl zk ?_;exact ⟨rfl,au⟩
def qZ (n:Int) (d:Nat) (up:Bool):Int:=if up then -(-n / (d:Int)) else n / (d:Int)
def vJ (p d:Nat) (b:Bool):Nat:=if 0<p%d∧b=true then p / d+1 else p / d
theorem XD (p d:Nat) (hd:0<d): -(p:Int) / (d:Int)= -((vJ p d true:Nat):Int):=by
 have h:=Nat.div_add_mod p d;have hr:=Nat.mod_lt p hd;unfold vJ;generalize p / d=q at *;generalize p%d=r at *
 have e: -(p:Int)= -(r:Int)+(d:Int)* -(q:Int):=by
  rw [← h,Int.natCast_add,Int.natCast_mul,Int.mul_neg];omega
 rw [e,Int.add_mul_ediv_left _ _ zo]
 by_cases h0:0<r
 ·rw [if_pos ⟨h0,rfl⟩]
  have: -(r:Int) / (d:Int)= -1:=by
   refine Int.le_antisymm ?_ ?_
   ·have:=(Int.ediv_lt_iff_lt_mul (a:= -(r:Int)) (b:=0) (c:=(d:Int)) zo).2 zo;omega
   ·rw [Int.le_ediv_iff_mul_le zo];omega
  rw [this];omega
 ·obtain rfl:r=0:=by omega
  rw [if_neg zo];simp
theorem aH6 (x y:Int) {d:Nat} (hd:0<d) (up:Bool):qZ (x*y) d up=iD (vJ (x.natAbs*y.natAbs) d (up != (decide (x<0) != decide (y<0)))) (decide (x<0) != decide (y<0)):=by
 rw [← zY x y];generalize x.natAbs*y.natAbs=p;generalize (decide (x<0) != decide (y<0))=neg
 have hf:((p:Int)) / (d:Int)=((vJ p d false:Nat):Int):=by
  unfold vJ;rw [if_neg zi];omega
 have hn:=XD p d hd;unfold qZ iD;cases neg<;>cases up<;>simp [hf,hn]
def jY (x y:Int) (d:Nat) (up:Bool):Int × Bool:=if (qZ (x*y) d up).natAbs≤1000000000000000000 then (qZ (x*y) d up,true) else (0,false)
theorem PY (x y:Int) {d:Nat} (hd:0<d) (up:Bool):jY x y d up=if vJ (x.natAbs*y.natAbs) d (up != (decide (x<0) != decide (y<0)))≤1000000000000000000 then (iD (vJ (x.natAbs*y.natAbs) d (up != (decide (x<0) != decide (y<0)))) (decide (x<0) != decide (y<0)),true) else (0,false):=by
 unfold jY;rw [aH6 x y hd,jN]
end Go.Proofs.aL
namespace Go.Num
structure Ml (b Y1 Y0 un d q r:Nat):Prop where
 h1:q*Y1+r=un
 h2:(un*b+d) / (Y1*b+Y0)≤q
theorem Ml.start {b Y1 Y0 un d:Nat} (hb:0<b) (hY:0<Y1) (hd:d<b):Ml b Y1 Y0 un d (un / Y1) (un - un / Y1*Y1):=by
 have h:=Nat.div_mul_le_self un Y1;refine ⟨by omega,?_⟩
 have e:(un*b+d) / b=un:=by
  rw [Nat.mul_comm,Nat.mul_add_div hb,Nat.div_eq_of_lt hd,Nat.add_zero]
 calc (un*b+d) / (Y1*b+Y0)≤(un*b+d) / (Y1*b):=Nat.div_le_div_left zo (Nat.mul_pos hY hb)
  _=(un*b+d) / b / Y1:=by rw [Nat.div_div_eq_div_mul,Nat.mul_comm Y1 b]
  _=un / Y1:=by rw [e]
theorem Ml.step {b Y1 Y0 un d q r:Nat} (h:Ml b Y1 Y0 un d q r) (hY:0<Y1) (hd:d<b) (hun:un<Y1*b+Y0) (c:b≤q∨b*r+d<q*Y0):Ml b Y1 Y0 un d (q - 1) (r+Y1)∧1≤q:=by
 obtain ⟨h1,h2⟩:=h;have hb:0<b:=by omega
 have hYY:0<Y1*b+Y0:=by have:=Nat.mul_pos hY hb;omega
 have key:(un*b+d) / (Y1*b+Y0)<q:=by
  rcases c with c|c
  ·refine Nat.lt_of_lt_of_le ?_ c;rw [Nat.div_lt_iff_lt_mul hYY];have:(un+1)*b≤(Y1*b+Y0)*b:=Nat.mul_le_mul_right b hun;rw [Nat.succ_mul] at this;rw [Nat.mul_comm b];omega
  ·rw [Nat.div_lt_iff_lt_mul hYY];have e1:un*b=q*Y1*b+b*r:=by rw [← h1,Nat.add_mul,Nat.mul_comm r b]
   rw [Nat.mul_add,← Nat.mul_assoc,e1];omega
 have hq:1≤q:=Nat.lt_of_le_of_lt (Nat.zero_le _) key;refine ⟨⟨?_,Nat.le_sub_one_of_lt key⟩,hq⟩
 have:q*Y1=(q - 1)*Y1+Y1:=by
  conv=>lhs;rw [show q=q - 1+1 by omega,Nat.succ_mul]
 omega
theorem Ml.stop {b Y1 Y0 un d q r:Nat} (h:Ml b Y1 Y0 un d q r) (hY:0<Y1) (hb:0<b) (c:q*Y0≤b*r+d):q=(un*b+d) / (Y1*b+Y0):=by
 obtain ⟨h1,h2⟩:=h;have hYY:0<Y1*b+Y0:=by have:=Nat.mul_pos hY hb;omega
 refine Nat.le_antisymm ?_ h2;rw [Nat.le_div_iff_mul_le hYY,Nat.mul_add,← Nat.mul_assoc,← h1,Nat.add_mul,Nat.mul_comm r b];omega
theorem Ml.brk {b Y1 Y0 un d q r:Nat} (h:Ml b Y1 Y0 un d q r) (hY:0<Y1) (hb:0<b) (hY0:Y0<b) (hun:un<Y1*b+Y0) (c:b≤r):q=(un*b+d) / (Y1*b+Y0):=by
 refine h.stop hY hb ?_
 have hq:q<b:=by
  have h1:=h.h1
  have:q*Y1<b*Y1:=by
   rw [Nat.mul_comm b Y1];omega
  exact Nat.lt_of_mul_lt_mul_right this
 have a1:q*Y0≤b*b:=Nat.mul_le_mul (Nat.le_of_lt hq) (Nat.le_of_lt hY0);have a2:b*b≤b*r:=Nat.mul_le_mul_left b c;omega
theorem aA5 {b un d1 d0 Y:Nat} (hY:0<Y):((un*b+d1) / Y)*b+((un*b+d1)%Y*b+d0) / Y=(un*b*b+d1*b+d0) / Y∧((un*b+d1)%Y*b+d0)%Y=(un*b*b+d1*b+d0)%Y:=by
 have h:=Nat.div_add_mod (un*b+d1) Y
 have e:un*b*b+d1*b+d0=Y*((un*b+d1) / Y*b)+((un*b+d1)%Y*b+d0):=by
  have:un*b*b+d1*b=(un*b+d1)*b:=by rw [Nat.add_mul]
  rw [this]
  conv=>lhs;rw [← h,Nat.add_mul]
  rw [← Nat.mul_assoc,Nat.add_assoc]
 rw [e];refine ⟨?_,?_⟩
 ·rw [Nat.mul_add_div hY]
 ·rw [Nat.mul_add_mod]
theorem shifted {hi lo s:Nat} (hs:s≤63) (az0:lo<18446744073709551616) :
  (hi*2^s+lo / 2^(64 - s))*4294967296*4294967296+lo*2^s%18446744073709551616 / 4294967296*4294967296+lo*2^s%18446744073709551616%4294967296=(hi*18446744073709551616+lo)*2^s∧lo / 2^(64 - s)<2^s:=by
 have e:(18446744073709551616:Nat)=2^(64 - s)*2^s:=by
  rw [← Nat.pow_add,show 64 - s+s=64 by omega]
 have h1:lo*2^s / 18446744073709551616=lo / 2^(64 - s):=by
  conv=>lhs;rw [e]
  exact Nat.mul_div_mul_right _ _ (Nat.pow_pos zo)
 have h2:=Nat.div_add_mod (lo*2^s) 18446744073709551616;have h3:=Nat.div_add_mod (lo*2^s%18446744073709551616) 4294967296;refine ⟨?_,?_⟩
 ·rw [h1] at h2
  have h4:(hi*18446744073709551616+lo)*2^s=hi*2^s*18446744073709551616+lo*2^s:=by
   rw [Nat.add_mul,Nat.mul_right_comm]
  rw [h4];omega
 ·rw [Nat.div_lt_iff_lt_mul (Nat.pow_pos zo),Nat.mul_comm,← e];exact az0
end Go.Num
namespace Go.SW
open Go Go.RowKit
structure Wk (P:Program) (ops:Array Oper) (Q:Exit→Act→World→Prop) (N:Nat) (is:List (K × Nat)) (A:List Nat) (a:Act) (w:World):Prop where
 out:walk P ops Q N is A a w
variable {P:Program} {ops:Array Oper} {Q:Exit→Act→World→Prop} {o:Oper} {i:Nat} {is:List (K × Nat)} {a:Act} {w:World} {N:Nat} {A:List Nat}
theorem nJ (h:∀ w',Below w.heap.size w w'→Q .normal a w'):Wk P ops Q N [] A a w:=⟨walk_nil h⟩
theorem WQ {k:K} (hk:k.soft=true) (ho:ops[i]? =some o) (hw:Region.wanted o (yielded ops a.tmps)=false) (h:∀ J:Act→Prop,(∀ a,Wk P ops Q N is A a w→J a)→J (a.put o.dst undef)):Wk P ops Q N ((k,i)::is) A a w :=
 ⟨wZ hk ho hw fun J hJ=>h J fun a ha=>hJ a ha.out⟩
theorem MC (ho:ops[i]? =some o) (hw:Region.wanted o (yielded ops a.tmps)=true) (h:∀ J:Act→Prop,(∀ a,Wk P ops Q N is A a w→J a)→∃ v,(∀ w',(execOp a.eval o).run P w'= .ok (.value v) w')∧J (a.put o.dst v)):Wk P ops Q N ((.pure,i)::is) A a w :=
 ⟨Gb ho hw fun J hJ=>h J fun a ha=>hJ a ha.out⟩
theorem WR {T:TypeId} {x:Operand} {p:Addr} (ho:ops[i]? =some o) (hw:Region.wanted o (yielded ops a.tmps)=true) (hop:o.op= .load T x) (hx:a.eval x= .pointer (some p))
  (h:∀ J:Value→Prop,(∀ v,Wk P ops Q N is A (a.put o.dst v) w→J v)→(w.cell? p).isSome=true∧∃ v,(loadVar T p).run P w= .ok v w∧J v):Wk P ops Q N ((.read,i)::is) A a w :=
 ⟨Gc ho hw hop hx fun J hJ=>h J fun v hv=>hJ v hv.out⟩
theorem dP (ho:ops[i]? =some o) (hw:Region.wanted o (yielded ops a.tmps)=true) (h:∀ w',Below w.heap.size w w'→∀ J:Act→World→Prop,(∀ a' w'',Below w'.heap.size w' w''→Wk P ops Q N is A a' w''→J a' w'')→o.wp P a w' J Q):Wk P ops Q N ((.ext,i)::is) A a w :=
 ⟨YT ho hw fun w' hb J hJ=>h w' hb J fun a' w'' hb' hk=>hJ a' w'' hb' hk.out⟩
theorem rY (l:List Oper) (hl:(i::is.map (·.2)).map (ops[·]?)=l.map some) (h:∀ w',Below w.heap.size w w'→wpList P ops Q l a w'):Wk P ops Q N ((.fin,i)::is) A a w:=⟨aQ l hl h⟩
theorem zC {cs:Array Value} {T:TypeId} (ho:ops[i]? =some o) (h:∀ b w',Below w.heap.size w w'→N≤b→b<w'.heap.size→b∉A→w'.heap[b]? =some (.cells cs T (0,0))→Wk P ops Q N is (b::A) (a.put o.dst (.pointer (some ⟨b,0,none⟩))) w'):Wk P ops Q N ((.alloc cs T,i)::is) A a w :=
 ⟨dw ho fun b w' h1 h2 h3 h4 h5=>(h b w' h1 h2 h3 h4 h5).out⟩
theorem ac8 {t:TypeId} {x:Operand} {p:Option Addr} {n c:Nat} (ho:ops[i]? =some o) (hw:Region.wanted o (yielded ops a.tmps)=true) (hop:o.op= .call { callee:=.builtin .len,args:=#[x],argTypes:=#[t] }) (hx:a.eval x= .slice p n c) (ht:P.underlying t=some (.slice (P.elem t)))
  (h:∀ J:Act→Prop,(∀ a,Wk P ops Q N is A a w→J a)→J (a.put o.dst (.int .i64 n))):Wk P ops Q N ((.pure,i)::is) A a w :=
 MC ho hw fun J hJ=>⟨.int .i64 n,fun w'=>by simp [execOp,hop,hx,resolve,invoke,builtin,Sem.run_bind,run_len_slice w' _ _ _ _ _ ht,goInt],h J hJ⟩
end Go.SW
namespace Go.Proofs.bits
open Go Go.RowKit Go.SW Go.Num Go.Mem Go.Proofs Go.Shelf
theorem ai5 {y:Nat} (h0:0<y) (h:y<18446744073709551616):∃ s:Nat,s≤63∧(64:Int) - (Lib.bitLen y:Int)=(s:Int)∧9223372036854775808≤y*2^s∧y*2^s<18446744073709551616:=by
 obtain ⟨h1,h2,h3⟩:=Lib.bitLenAux_bounds 64 y h zo;have h4:=Lib.bitLen_le y 64 zo h;have e:Lib.bitLenAux 64 y=Lib.bitLen y:=rfl;rw [e] at h1 h2 h3;generalize Lib.bitLen y=b at *;refine ⟨64 - b,by omega,by omega,?_,?_⟩
 ·have:2^(b - 1)*2^(64 - b)≤y*2^(64 - b):=Nat.mul_le_mul_right _ h2;rw [← Nat.pow_add,show b - 1+(64 - b)=63 by omega] at this
  simpa using this
 ·have:y*2^(64 - b)<2^b*2^(64 - b):=Nat.mul_lt_mul_of_pos_right h3 (Nat.pow_pos zo);rw [← Nat.pow_add,show b+(64 - b)=64 by omega] at this
  simpa using this
def Wds (Y1 Y0 L1 L0:Nat):Prop:=2147483648≤Y1∧Y1<4294967296∧Y0<4294967296∧L1<4294967296∧L0<4294967296
theorem aO6 {Y1 Y0 U d q r:Nat} (h:Ml 4294967296 Y1 Y0 U d q r) (h1:2147483648≤Y1) (hU:U<18446744073709551616):q<18446744073709551616:=by
 have e:=h.h1
 rcases Nat.eq_zero_or_pos q with h|h
 ·omega
 ·have:=Nat.le_mul_of_pos_right q (show 0<Y1 by omega);omega
theorem uJ {Y1 Y0 L1 L0 U d q r:Nat} (h:Ml 4294967296 Y1 Y0 U d q r) (hr:r<4294967296) (hb:Wds Y1 Y0 L1 L0) (hU:U<Y1*4294967296+Y0) (hd:d<4294967296) (c:4294967296≤q∨4294967296*r+d<q*Y0) :
  ∃ q' r':Nat,Hid (Ml 4294967296 Y1 Y0 U d q' r')∧Hid (q'<q)∧IntKind.u64.wrap ((q:Int) - 1)=(q':Int)∧IntKind.u64.wrap ((r:Int)+(Y1:Int))=(r':Int):=by
 unfold Wds at hb;have hq:=aO6 h hb.1 zo;obtain ⟨hd2,hq1⟩:=h.step zo hd hU c;refine ⟨_,_,zh hd2,zh zo,?_,?_⟩
 ·rw [IntKind.wrap_u64];omega
 ·rw [IntKind.wrap_u64];omega
theorem uZ {Y1 Y0 L1 L0 d q r:Nat} (hq:q<4294967296) (hr:r<4294967296) (hb:Wds Y1 Y0 L1 L0) (hd:d<4294967296) :
  ∃ T V:Nat,Hid (q*Y0=T)∧Hid (4294967296*r+d=V)∧IntKind.u64.wrap ((q:Int)*(Y0:Int))=(T:Int)∧IntKind.u64.wrap (IntKind.u64.wrap (4294967296*(r:Int))+(d:Int))=(V:Int):=by
 unfold Wds at hb;refine ⟨_,_,zh rfl,zh rfl,?_,?_⟩
 ·have:q*Y0≤4294967295*4294967295:=Nat.mul_le_mul zo zo;rw [← Int.natCast_mul,IntKind.wrap_u64];generalize q*Y0=T at *;omega
 ·rw [IntKind.wrap_u64,IntKind.wrap_u64];omega
theorem KO {U d Y q:Nat} (hY:0<Y) (hq:q=(U*4294967296+d) / Y) (hd:d<4294967296) (az6:Y<18446744073709551616) :
  IntKind.u64.wrap (IntKind.u64.wrap (IntKind.u64.wrap ((U:Int)*4294967296)+(d:Int)) - IntKind.u64.wrap ((q:Int)*(Y:Int)))=(((U*4294967296+d)%Y:Nat):Int):=by
 have h:=Nat.div_add_mod (U*4294967296+d) Y;have hm:=Nat.mod_lt (U*4294967296+d) hY;rw [← hq] at h;have e:(q:Int)*(Y:Int)=((Y*q:Nat):Int):=by rw [Int.natCast_mul,Int.mul_comm]
 rw [e];generalize Y*q=T at *;generalize (U*4294967296+d)%Y=V at *;rw [IntKind.wrap_u64,IntKind.wrap_u64,IntKind.wrap_u64,IntKind.wrap_u64];omega
theorem uM {U L1 L0 Y Y1 Y0 q:Nat} (hq:q=(U*4294967296+L1) / (Y1*4294967296+Y0)) (hY:Y1*4294967296+Y0=Y) (hb:Wds Y1 Y0 L1 L0) (hUY:U<Y) (az6:Y<18446744073709551616) :
  ∃ W q0 r0:Nat,Hid (W=(U*4294967296+L1)%Y)∧Hid (W<Y)∧IntKind.u64.wrap (IntKind.u64.wrap (IntKind.u64.wrap ((U:Int)*4294967296)+(L1:Int)) - IntKind.u64.wrap ((q:Int)*(Y:Int)))=(W:Int)∧IntKind.u64.wrap ((W:Int) / (Y1:Int))=(q0:Int)∧IntKind.u64.wrap ((W:Int) - IntKind.u64.wrap ((q0:Int)*(Y1:Int)))=(r0:Int)∧Hid (r0<4294967296)∧Hid (∀ d,d<4294967296→Ml 4294967296 Y1 Y0 W d q0 r0):=by
 unfold Wds at hb;rw [hY] at hq;have hYp:0<Y:=by omega
 have h1:=KO hYp hq hb.2.2.2.1 az6;have hm:=Nat.mod_lt (U*4294967296+L1) hYp;obtain ⟨W,eW⟩:∃ W,(U*4294967296+L1)%Y=W:=⟨_,rfl⟩;rw [eW] at h1 hm;refine ⟨W,W / Y1,W - W / Y1*Y1,zh eW.symm,zh hm,h1,?_,?_,zh ?_,zh fun d hd=>Ml.start zo zo hd⟩
 ·rw [← Int.natCast_ediv,IntKind.wrap_u64];have:=Nat.div_le_self W Y1;generalize W / Y1=q at *;omega
 ·have:=Nat.div_mul_le_self W Y1;rw [← Int.natCast_mul,IntKind.wrap_u64,IntKind.wrap_u64];omega
 ·have h2:=Nat.div_add_mod W Y1;have h3:=Nat.mod_lt W (show 0<Y1 by omega);rw [Nat.mul_comm] at h2;omega
theorem jg {U L1 L0 Y Y1 Y0 q q0 W:Nat} (hq:q=(U*4294967296+L1) / (Y1*4294967296+Y0)) (hq0:q0=(W*4294967296+L0) / (Y1*4294967296+Y0)) (hW:W=(U*4294967296+L1)%Y) (hb:Wds Y1 Y0 L1 L0) (hY:Y1*4294967296+Y0=Y) (az6:Y<18446744073709551616) (hN:(U*4294967296*4294967296+L1*4294967296+L0) / Y<18446744073709551616) :
  IntKind.u64.wrap (IntKind.u64.wrap ((q:Int)*4294967296)+(q0:Int))=(((U*4294967296*4294967296+L1*4294967296+L0) / Y:Nat):Int)∧IntKind.u64.wrap (IntKind.u64.wrap (IntKind.u64.wrap ((W:Int)*4294967296)+(L0:Int)) - IntKind.u64.wrap ((q0:Int)*(Y:Int)))=(((U*4294967296*4294967296+L1*4294967296+L0)%Y:Nat):Int):=by
 unfold Wds at hb;rw [hY] at hq hq0;have hYp:0<Y:=by omega
 obtain ⟨h1,h2⟩:=aA5 (b:=4294967296) (un:=U) (d1:=L1) (d0:=L0) hYp;rw [← hq,← hW,← hq0] at h1;rw [← hW] at h2;refine ⟨?_,?_⟩
 ·rw [← h1] at hN ⊢;rw [IntKind.wrap_u64,IntKind.wrap_u64];omega
 ·rw [KO hYp hq0 hb.2.2.2.2 az6,h2]
theorem as2 (hi lo y:Nat) (hy:hi<y) (y64:y<18446744073709551616) (az0:lo<18446744073709551616) (w:World) :
  Calls Tryz.prog 178 #[.int .u64 (hi:Int),.int .u64 (lo:Int),.int .u64 (y:Int)] w (fun e w'=>e= .returned (.tuple #[.int .u64 (((hi*18446744073709551616+lo) / y:Nat):Int),.int .u64 (((hi*18446744073709551616+lo)%y:Nat):Int)])∧Below w.heap.size w w'):=by
 have q1:¬ (y:Int)=0:=by omega
 have q2:¬ (y:Int)≤(hi:Int):=by omega
 by_cases h0:hi=0
 ·subst h0;go_enter Tryz.func178,Tryz.ntmps178
  go_wp2_with fail
  refine aC [(.pure,0),(.pure,1),(.pure,2),(.pure,3),(.pure,4),(.pure,5),(.fin,6),(.fin,7)] zk zk zR zP ?_;refine Wk.out ?_
  (iterate 6 refine zU ?_)
  refine rY [_,_] rfl (fun wf hbf=>?_);go_wp2_with fail
  go_ret2
  have e1:IntKind.u64.wrap ((lo:Int) / (y:Int))=(((0*18446744073709551616+lo) / y:Nat):Int):=by
   rw [Nat.zero_mul,Nat.zero_add,IntKind.wrap_u64];have:=Nat.div_le_self lo y;rw [← Int.natCast_ediv];generalize lo / y=q at *;omega
  have e2:(lo:Int)%(y:Int)=(((0*18446744073709551616+lo)%y:Nat):Int):=by
   rw [Nat.zero_mul,Nat.zero_add];omega
  rw [e1,e2];exact ⟨rfl,((Below.refl _ w).drew.trans (hbf.mono (Nat.le_refl _)))⟩
 ·obtain ⟨s,hs,e1,e2,e3⟩:=ai5 (y:=y) zo y64;have LZ:=zh (fun W=>(Tryz.bits_LeadingZeros64 (y:Int) W zo zo));rw [Int.toNat_natCast,e1] at LZ;have q3:¬ (hi:Int)=0:=by omega
  obtain ⟨hN,hlt⟩:=shifted (hi:=hi) hs az0;have hm:min s 64=s:=by omega
  have hp2:0<2^s:=Nat.pow_pos zo;have hw:IntKind.u64.wrap (s:Int)=(s:Int):=by rw [IntKind.wrap_u64];omega
  have hAY:hi*2^s+2^s≤y*2^s:=by
   have:=Nat.mul_le_mul_right (2^s) hy;rw [Nat.succ_mul] at this;exact this
  have cY:(y:Int)*2^s=((y*2^s:Nat):Int):=by simp
  have cA:(hi:Int)*2^s=((hi*2^s:Nat):Int):=by simp
  have cL:(lo:Int)*2^s=((lo*2^s:Nat):Int):=by simp
  have cB:(lo:Int) / 2^(64 - s)=((lo / 2^(64 - s):Nat):Int):=by simp
  have hOr:bits BinOp.or IntKind.u64 ((hi*2^s:Nat):Int) ((lo / 2^(64 - s):Nat):Int)=((hi*2^s+lo / 2^(64 - s):Nat):Int):=by
   rw [bits_or_u64_nat _ _ zo (by have:=Nat.div_le_self lo (2^(64 - s));omega)]
   congr 1
   rw [Nat.mul_comm hi];exact (Nat.two_pow_add_eq_or_of_lt hlt hi).symm
  have hyd:∀ a:Nat,a / y=a*2^s / (y*2^s)∧a%y=a*2^s%(y*2^s) / 2^s:=fun a=>by
   have hp:0<2^s:=Nat.pow_pos zo;refine ⟨(Nat.mul_div_mul_right _ _ hp).symm,?_⟩;rw [Nat.mul_mod_mul_right,Nat.mul_div_cancel _ hp]
  have hNB:(hi*18446744073709551616+lo) / y<18446744073709551616:=by
   rw [Nat.div_lt_iff_lt_mul zo];omega
  rw [(hyd _).1,← hN] at hNB;rw [(hyd _).1,(hyd _).2,← hN];have cS:∀ a:Nat,(a:Int) / 2^s=((a / 2^s:Nat):Int):=fun a=>by simp
  have hYp:2^63≤y*2^s:=e2;obtain ⟨Y,eY⟩:∃ Y,y*2^s=Y:=⟨_,rfl⟩;obtain ⟨A,eA⟩:∃ A,hi*2^s=A:=⟨_,rfl⟩;obtain ⟨B,eB⟩:∃ B,lo / 2^(64 - s)=B:=⟨_,rfl⟩;obtain ⟨L,eL⟩:∃ L,lo*2^s=L:=⟨_,rfl⟩;rw [eY,eA] at hAY;rw [eY] at e2 e3 cY hYp;rw [eA] at cA;rw [eL] at cL;rw [eB] at cB hlt;rw [eA,eB] at hOr;rw [eY,eA,eB,eL];rw [eY,eA,eB,eL] at hNB;obtain ⟨L',eL'⟩:∃ L',L%18446744073709551616=L':=⟨_,rfl⟩;obtain ⟨U,eU⟩:∃ U,A+B=U:=⟨_,rfl⟩;rw [eU] at hOr;rw [eL',eU];rw [eL',eU] at hNB;have hUY:U<Y:=by omega
  have w1:IntKind.u64.wrap (Y:Int)=(Y:Int):=by rw [IntKind.wrap_u64];omega
  have w2:IntKind.u64.wrap (A:Int)=(A:Int):=by rw [IntKind.wrap_u64];omega
  have w3:IntKind.u64.wrap (L:Int)=(L':Int):=by rw [IntKind.wrap_u64];omega
  have a1:bits BinOp.and IntKind.u64 (Y:Int) 4294967295=((Y%4294967296:Nat):Int):=Mul64.maskN Y zo;have a2:bits BinOp.and IntKind.u64 (L':Int) 4294967295=((L'%4294967296:Nat):Int):=Mul64.maskN L' zo;have d1:(Y:Int) / 4294967296=((Y / 4294967296:Nat):Int):=by omega
  have d2:(L':Int) / 4294967296=((L' / 4294967296:Nat):Int):=by omega
  have hYY:Y / 4294967296*4294967296+Y%4294967296=Y:=by rw [Nat.mul_comm];exact Nat.div_add_mod Y 4294967296
  obtain ⟨Y1,eY1⟩:∃ Y1,Y / 4294967296=Y1:=⟨_,rfl⟩;obtain ⟨Y0,eY0⟩:∃ Y0,Y%4294967296=Y0:=⟨_,rfl⟩;obtain ⟨L1,eL1⟩:∃ L1,L' / 4294967296=L1:=⟨_,rfl⟩;obtain ⟨L0,eL0⟩:∃ L0,L'%4294967296=L0:=⟨_,rfl⟩;have b1:2147483648≤Y1∧Y1<4294967296∧Y0<4294967296∧L1<4294967296∧L0<4294967296:=by omega
  rw [eY1] at d1 hYY;rw [eY0] at a1 hYY;rw [eL1] at d2;rw [eL0] at a2;rw [eL1,eL0];rw [eL1,eL0] at hNB;obtain ⟨hst⟩:Nonempty (Ml 4294967296 Y1 Y0 U L1 (U / Y1) (U - U / Y1*Y1)):=⟨Ml.start zo zo zo⟩
  have hQ:IntKind.u64.wrap ((U:Int) / (Y1:Int))=((U / Y1:Nat):Int):=by
   rw [← Int.natCast_ediv,IntKind.wrap_u64];have:=Nat.div_le_self U Y1;generalize U / Y1=q at *;omega
  have hr1:=Nat.div_mul_le_self U Y1
  have hr2:U - U / Y1*Y1<Y1:=by
   have:=Nat.div_add_mod U Y1;have:=Nat.mod_lt U (show 0<Y1 by omega);rw [Nat.mul_comm] at hr1 ⊢;omega
  have hR:IntKind.u64.wrap ((U:Int) - IntKind.u64.wrap (((U / Y1:Nat):Int)*(Y1:Int)))=((U - U / Y1*Y1:Nat):Int):=by
   rw [← Int.natCast_mul,IntKind.wrap_u64,IntKind.wrap_u64];omega
  obtain ⟨q,eq⟩:∃ q,U / Y1=q:=⟨_,rfl⟩;obtain ⟨r,er⟩:∃ r,U - U / Y1*Y1=r:=⟨_,rfl⟩;rw [er,eq] at hst hR;rw [eq] at hQ;rw [er] at hr2;have e3':=e3;have HST:=zh hst;have HNB:=zh hNB;have HB1:Hid (Wds Y1 Y0 L1 L0):=zh b1;have hz:¬ (Y1:Int)=0:=by omega
  have HUY:=zh hUY;have Fu:=zh hYY;clear hNB y64 az0 hst hN hlt hAY hyd e1 e2 e3 hr1 er eq b1 hUY hYY eY1 eY0 eL1 eL0 eU eL' eY eA eB eL hYp;go_enter Tryz.func178,Tryz.ntmps178
  go_wp2_with fail
  refine (LZ.out _).mono ?_;rintro e w' ⟨rfl,rfl⟩;go_wp2_with fail
  have RL1:Hid (r<4294967296):=zh (by have:=HB1.out.2.1;omega);have HY3:=zh e3';have ST1:=HST;have yC:=zh (Below.refl w'.heap.size w');clear hr2 HST
  go_loopw [15,16] (fun qv rv wr=>∃ q r:Nat,qv= .int .u64 (q:Int)∧rv= .int .u64 (r:Int)∧Hid (Ml 4294967296 Y1 Y0 U L1 q r)∧Hid (r<4294967296)∧Hid (Below w'.heap.size w' wr)) (fun qv _ _=>(intOf qv).toNat)
  case atStart=>exact ⟨q,r,rfl,rfl,ST1,RL1,yC⟩
  case round =>
   clear ST1 RL1 yC;obtain ⟨q,r,rfl,rfl,HST,HRL,yC⟩:=hrel;have HT:=zh (uJ HST.out HRL.out HB1.out (by rw [Fu.out];exact HUY.out) HB1.out.2.2.2.1)
   rcases Nat.lt_or_ge q 4294967296 with h1|h1
   ·have g1:decide ((4294967296:Int)≤(q:Int))=false:=decide_eq_false zo;obtain ⟨T,V,OI,HE2,m1,m2⟩:=uZ h1 HRL.out HB1.out HB1.out.2.2.2.1;clear h1
    rcases Nat.lt_or_ge V T with h2|h2
    ·have g2:(V:Int)<(T:Int):=by omega
     obtain ⟨q',r',HD,HL,w1,w2⟩:=HT.out (.inr (by rw [OI.out,HE2.out];exact h2));clear h2
     rcases Nat.lt_or_ge r' 4294967296 with h3|h3
     ·have g3:decide ((4294967296:Int)≤(r':Int))=false:=decide_eq_false zo;have WJ:=zh h3;clear h3;go_wp2_with fail
      go_roundw
      case rel=>exact ⟨q',r',rfl,rfl,HD,WJ,yC⟩
      case measure=>have:=HL.out;simp [intOf];omega
     ·have g3:decide ((4294967296:Int)≤(r':Int))=true:=decide_eq_true zo;have HQ:=zh (HD.out.brk (Nat.lt_of_lt_of_le zo HB1.out.1) zo HB1.out.2.2.1 ((by rw [Fu.out];exact HUY.out)) h3);clear h3;obtain ⟨W,q0,r0,HW,HWY,x1,x2,x3,RL2,CG⟩:=uM HQ.out Fu.out HB1.out HUY.out HY3.out;have HQ1:=HQ;have ST2:=zh (CG.out L0 HB1.out.2.2.2.2);clear HQ CG;go_wp2_with fail
      go_loopw [18,16] (fun qv rv wr=>∃ q r:Nat,qv= .int .u64 (q:Int)∧rv= .int .u64 (r:Int)∧Hid (Ml 4294967296 Y1 Y0 W L0 q r)∧Hid (r<4294967296)∧Hid (Below w'.heap.size w' wr)) (fun qv _ _=>(intOf qv).toNat)
      case atStart=>exact ⟨q0,r0,rfl,rfl,ST2,RL2,yC⟩
      case round =>
       clear ST2 RL2 yC;obtain ⟨q,r,rfl,rfl,HST,HRL,yC⟩:=hrel;have HT:=zh (uJ HST.out HRL.out HB1.out (by rw [Fu.out];exact HWY.out) HB1.out.2.2.2.2)
       rcases Nat.lt_or_ge q 4294967296 with h1|h1
       ·have g1:decide ((4294967296:Int)≤(q:Int))=false:=decide_eq_false zo;obtain ⟨T,V,OI,HE2,m1,m2⟩:=uZ h1 HRL.out HB1.out HB1.out.2.2.2.2;clear h1
        rcases Nat.lt_or_ge V T with h2|h2
        ·have g2:(V:Int)<(T:Int):=by omega
         obtain ⟨q',r',HD,HL,w1,w2⟩:=HT.out (.inr (by rw [OI.out,HE2.out];exact h2));clear h2
         rcases Nat.lt_or_ge r' 4294967296 with h3|h3
         ·have g3:decide ((4294967296:Int)≤(r':Int))=false:=decide_eq_false zo;have WJ:=zh h3;clear h3;go_wp2_with fail
          go_roundw
          case rel=>exact ⟨q',r',rfl,rfl,HD,WJ,yC⟩
          case measure=>have:=HL.out;simp [intOf];omega
         ·have g3:decide ((4294967296:Int)≤(r':Int))=true:=decide_eq_true zo;have HQ:=zh (HD.out.brk (Nat.lt_of_lt_of_le zo HB1.out.1) zo HB1.out.2.2.1 ((by rw [Fu.out];exact HWY.out)) h3);clear h3;have HE:=zh (jg HQ1.out HQ.out HW.out HB1.out Fu.out HY3.out HNB.out);have e1:=HE.out.1;have e2:=HE.out.2;go_wp2_with fail
          go_ret2
          exact ⟨by simp,yC.out⟩
        ·have g2:¬ (V:Int)<(T:Int):=by omega
         have HQ:=zh (HST.out.stop (Nat.lt_of_lt_of_le zo HB1.out.1) zo (by rw [OI.out,HE2.out];exact h2));clear h2;have HE:=zh (jg HQ1.out HQ.out HW.out HB1.out Fu.out HY3.out HNB.out);have e1:=HE.out.1;have e2:=HE.out.2;go_wp2_with fail
         go_ret2
         exact ⟨by simp,yC.out⟩
       ·have g1:decide ((4294967296:Int)≤(q:Int))=true:=decide_eq_true zo;obtain ⟨q',r',HD,HL,w1,w2⟩:=HT.out (.inl h1);clear h1
        rcases Nat.lt_or_ge r' 4294967296 with h3|h3
        ·have g3:decide ((4294967296:Int)≤(r':Int))=false:=decide_eq_false zo;have WJ:=zh h3;clear h3;go_wp2_with fail
         go_roundw
         case rel=>exact ⟨q',r',rfl,rfl,HD,WJ,yC⟩
         case measure=>have:=HL.out;simp [intOf];omega
        ·have g3:decide ((4294967296:Int)≤(r':Int))=true:=decide_eq_true zo;have HQ:=zh (HD.out.brk (Nat.lt_of_lt_of_le zo HB1.out.1) zo HB1.out.2.2.1 ((by rw [Fu.out];exact HWY.out)) h3);clear h3;have HE:=zh (jg HQ1.out HQ.out HW.out HB1.out Fu.out HY3.out HNB.out);have e1:=HE.out.1;have e2:=HE.out.2;go_wp2_with fail
         go_ret2
         exact ⟨by simp,yC.out⟩
    ·have g2:¬ (V:Int)<(T:Int):=by omega
     have HQ:=zh (HST.out.stop (Nat.lt_of_lt_of_le zo HB1.out.1) zo (by rw [OI.out,HE2.out];exact h2));clear h2;obtain ⟨W,q0,r0,HW,HWY,x1,x2,x3,RL2,CG⟩:=uM HQ.out Fu.out HB1.out HUY.out HY3.out;have HQ1:=HQ;have ST2:=zh (CG.out L0 HB1.out.2.2.2.2);clear HQ CG;go_wp2_with fail
     go_loopw [18,16] (fun qv rv wr=>∃ q r:Nat,qv= .int .u64 (q:Int)∧rv= .int .u64 (r:Int)∧Hid (Ml 4294967296 Y1 Y0 W L0 q r)∧Hid (r<4294967296)∧Hid (Below w'.heap.size w' wr)) (fun qv _ _=>(intOf qv).toNat)
     case atStart=>exact ⟨q0,r0,rfl,rfl,ST2,RL2,yC⟩
     case round =>
      clear ST2 RL2 yC;obtain ⟨q,r,rfl,rfl,HST,HRL,yC⟩:=hrel;have HT:=zh (uJ HST.out HRL.out HB1.out (by rw [Fu.out];exact HWY.out) HB1.out.2.2.2.2)
      rcases Nat.lt_or_ge q 4294967296 with h1|h1
      ·have g1:decide ((4294967296:Int)≤(q:Int))=false:=decide_eq_false zo;obtain ⟨T,V,OI,HE2,m1,m2⟩:=uZ h1 HRL.out HB1.out HB1.out.2.2.2.2;clear h1
       rcases Nat.lt_or_ge V T with h2|h2
       ·have g2:(V:Int)<(T:Int):=by omega
        obtain ⟨q',r',HD,HL,w1,w2⟩:=HT.out (.inr (by rw [OI.out,HE2.out];exact h2));clear h2
        rcases Nat.lt_or_ge r' 4294967296 with h3|h3
        ·have g3:decide ((4294967296:Int)≤(r':Int))=false:=decide_eq_false zo;have WJ:=zh h3;clear h3;go_wp2_with fail
         go_roundw
         case rel=>exact ⟨q',r',rfl,rfl,HD,WJ,yC⟩
         case measure=>have:=HL.out;simp [intOf];omega
        ·have g3:decide ((4294967296:Int)≤(r':Int))=true:=decide_eq_true zo;have HQ:=zh (HD.out.brk (Nat.lt_of_lt_of_le zo HB1.out.1) zo HB1.out.2.2.1 ((by rw [Fu.out];exact HWY.out)) h3);clear h3;have HE:=zh (jg HQ1.out HQ.out HW.out HB1.out Fu.out HY3.out HNB.out);have e1:=HE.out.1;have e2:=HE.out.2;go_wp2_with fail
         go_ret2
         exact ⟨by simp,yC.out⟩
       ·have g2:¬ (V:Int)<(T:Int):=by omega
        have HQ:=zh (HST.out.stop (Nat.lt_of_lt_of_le zo HB1.out.1) zo (by rw [OI.out,HE2.out];exact h2));clear h2;have HE:=zh (jg HQ1.out HQ.out HW.out HB1.out Fu.out HY3.out HNB.out);have e1:=HE.out.1;have e2:=HE.out.2;go_wp2_with fail
        go_ret2
        exact ⟨by simp,yC.out⟩
      ·have g1:decide ((4294967296:Int)≤(q:Int))=true:=decide_eq_true zo;obtain ⟨q',r',HD,HL,w1,w2⟩:=HT.out (.inl h1);clear h1
       rcases Nat.lt_or_ge r' 4294967296 with h3|h3
       ·have g3:decide ((4294967296:Int)≤(r':Int))=false:=decide_eq_false zo;have WJ:=zh h3;clear h3;go_wp2_with fail
        go_roundw
        case rel=>exact ⟨q',r',rfl,rfl,HD,WJ,yC⟩
        case measure=>have:=HL.out;simp [intOf];omega
       ·have g3:decide ((4294967296:Int)≤(r':Int))=true:=decide_eq_true zo;have HQ:=zh (HD.out.brk (Nat.lt_of_lt_of_le zo HB1.out.1) zo HB1.out.2.2.1 ((by rw [Fu.out];exact HWY.out)) h3);clear h3;have HE:=zh (jg HQ1.out HQ.out HW.out HB1.out Fu.out HY3.out HNB.out);have e1:=HE.out.1;have e2:=HE.out.2;go_wp2_with fail
        go_ret2
        exact ⟨by simp,yC.out⟩
   ·have g1:decide ((4294967296:Int)≤(q:Int))=true:=decide_eq_true zo;obtain ⟨q',r',HD,HL,w1,w2⟩:=HT.out (.inl h1);clear h1
    rcases Nat.lt_or_ge r' 4294967296 with h3|h3
    ·have g3:decide ((4294967296:Int)≤(r':Int))=false:=decide_eq_false zo;have WJ:=zh h3;clear h3;go_wp2_with fail
     go_roundw
     case rel=>exact ⟨q',r',rfl,rfl,HD,WJ,yC⟩
     case measure=>have:=HL.out;simp [intOf];omega
    ·have g3:decide ((4294967296:Int)≤(r':Int))=true:=decide_eq_true zo;have HQ:=zh (HD.out.brk (Nat.lt_of_lt_of_le zo HB1.out.1) zo HB1.out.2.2.1 ((by rw [Fu.out];exact HUY.out)) h3);clear h3;obtain ⟨W,q0,r0,HW,HWY,x1,x2,x3,RL2,CG⟩:=uM HQ.out Fu.out HB1.out HUY.out HY3.out;have HQ1:=HQ;have ST2:=zh (CG.out L0 HB1.out.2.2.2.2);clear HQ CG;go_wp2_with fail
     go_loopw [18,16] (fun qv rv wr=>∃ q r:Nat,qv= .int .u64 (q:Int)∧rv= .int .u64 (r:Int)∧Hid (Ml 4294967296 Y1 Y0 W L0 q r)∧Hid (r<4294967296)∧Hid (Below w'.heap.size w' wr)) (fun qv _ _=>(intOf qv).toNat)
     case atStart=>exact ⟨q0,r0,rfl,rfl,ST2,RL2,yC⟩
     case round =>
      clear ST2 RL2 yC;obtain ⟨q,r,rfl,rfl,HST,HRL,yC⟩:=hrel;have HT:=zh (uJ HST.out HRL.out HB1.out (by rw [Fu.out];exact HWY.out) HB1.out.2.2.2.2)
      rcases Nat.lt_or_ge q 4294967296 with h1|h1
      ·have g1:decide ((4294967296:Int)≤(q:Int))=false:=decide_eq_false zo;obtain ⟨T,V,OI,HE2,m1,m2⟩:=uZ h1 HRL.out HB1.out HB1.out.2.2.2.2;clear h1
       rcases Nat.lt_or_ge V T with h2|h2
       ·have g2:(V:Int)<(T:Int):=by omega
        obtain ⟨q',r',HD,HL,w1,w2⟩:=HT.out (.inr (by rw [OI.out,HE2.out];exact h2));clear h2
        rcases Nat.lt_or_ge r' 4294967296 with h3|h3
        ·have g3:decide ((4294967296:Int)≤(r':Int))=false:=decide_eq_false zo;have WJ:=zh h3;clear h3;go_wp2_with fail
         go_roundw
         case rel=>exact ⟨q',r',rfl,rfl,HD,WJ,yC⟩
         case measure=>have:=HL.out;simp [intOf];omega
        ·have g3:decide ((4294967296:Int)≤(r':Int))=true:=decide_eq_true zo;have HQ:=zh (HD.out.brk (Nat.lt_of_lt_of_le zo HB1.out.1) zo HB1.out.2.2.1 ((by rw [Fu.out];exact HWY.out)) h3);clear h3;have HE:=zh (jg HQ1.out HQ.out HW.out HB1.out Fu.out HY3.out HNB.out);have e1:=HE.out.1;have e2:=HE.out.2;go_wp2_with fail
         go_ret2
         exact ⟨by simp,yC.out⟩
       ·have g2:¬ (V:Int)<(T:Int):=by omega
        have HQ:=zh (HST.out.stop (Nat.lt_of_lt_of_le zo HB1.out.1) zo (by rw [OI.out,HE2.out];exact h2));clear h2;have HE:=zh (jg HQ1.out HQ.out HW.out HB1.out Fu.out HY3.out HNB.out);have e1:=HE.out.1;have e2:=HE.out.2;go_wp2_with fail
        go_ret2
        exact ⟨by simp,yC.out⟩
      ·have g1:decide ((4294967296:Int)≤(q:Int))=true:=decide_eq_true zo;obtain ⟨q',r',HD,HL,w1,w2⟩:=HT.out (.inl h1);clear h1
       rcases Nat.lt_or_ge r' 4294967296 with h3|h3
       ·have g3:decide ((4294967296:Int)≤(r':Int))=false:=decide_eq_false zo;have WJ:=zh h3;clear h3;go_wp2_with fail
        go_roundw
        case rel=>exact ⟨q',r',rfl,rfl,HD,WJ,yC⟩
        case measure=>have:=HL.out;simp [intOf];omega
       ·have g3:decide ((4294967296:Int)≤(r':Int))=true:=decide_eq_true zo;have HQ:=zh (HD.out.brk (Nat.lt_of_lt_of_le zo HB1.out.1) zo HB1.out.2.2.1 ((by rw [Fu.out];exact HWY.out)) h3);clear h3;have HE:=zh (jg HQ1.out HQ.out HW.out HB1.out Fu.out HY3.out HNB.out);have e1:=HE.out.1;have e2:=HE.out.2;go_wp2_with fail
        go_ret2
        exact ⟨by simp,yC.out⟩
end Go.Proofs.bits
namespace Go
theorem kY {P:Program} {b:Frame} {a:Act} {k:List Item} {cs:List Frame} {w:World} {c:Code}:step P (lone (b.atR a (.code (.scope c)::k)) cs w)= .next (lone (b.atR a (.code c:: .inScope c::k)) cs w) :=
 step_lone_go (by simp [stepG,stepG.exec,Frame.atR])
theorem JE {P:Program} {b:Frame} {a:Act} {k:List Item} {cs:List Frame} {w:World} {c:Code}:step P (lone (b.atR a (.inScope c::k)) cs w)= .next (lone (b.atR a k) cs w) :=
 step_lone_go (by simp [stepG,stepG.exec,Frame.atR])
theorem Tm {F:Fence} {n:Nat} {P:Program} {Q:Exit→Act→World→Prop} {a:Act} {w:World} {c:Code} (h:c.wpIn F n P (Exit.noGoto Q) a w):(Code.scope c).wpIn F n P Q a w:=by
 intro b k cs hro hb hr;have h0:(lone (b.atR a (.code (.scope c)::k)) cs w).fenced P F:=fenced_calm hb hr rfl;obtain ⟨e,a₁,w₁,hq,harr⟩:=h b (.inScope c::k) cs hro hb hr;cases e with
 | normal=>exact ⟨.normal,a₁,w₁,hq,.head h0 kY (StepsIn.trans harr (.one (fenced_calm hb hr rfl) JE))⟩
 | exit id =>
  have hx:exitTo id (.inScope c::k)=exitTo id k:=by simp [exitTo]
  exact ⟨.exit id,a₁,w₁,hq,fun k' hk=>.head h0 kY (harr.1 k' (by rw [hx];exact hk)),
   fun hr' hk=>let ⟨k₁,h1,h2⟩:=harr.2 hr' (by rw [hx];exact hk);⟨k₁,h1,.head h0 kY h2⟩⟩
 | goto l=>exact hq.elim
 | ret=>exact ⟨_,a₁,w₁,hq,.of_steps (.one h0 kY) harr⟩
 | panic ch=>exact ⟨_,a₁,w₁,hq,.of_steps (.one h0 kY) harr⟩
 | outgrown=>exact ⟨_,a₁,w₁,hq,.of_steps (.one h0 kY) harr⟩
end Go
namespace Go.Proofs.aL
open Go Go.RowKit Go.SW Go.Num Go.Mem Go.Proofs Go.eF
theorem aR1 (b c:Nat) (zs:List Int) (z0:Int) (h0:zs[0]? =some z0) (arr:Array Value) (T:TypeId) (w:World) (hx:ah w b arr T) (hc:∀ j (h:j<zs.length),arr[j]? =some (.int .i64 zs[j])) (hl:zs.length≤9223372036854775807) :
  Calls Tryz.prog 243 #[.slice (some ⟨b,0,none⟩) zs.length c] w (fun e w'=>e= .returned (.int .i64 (zs.foldl min z0))∧Below w.heap.size w w'):=by
 have hn:0<zs.length:=by
  rcases Nat.eq_zero_or_pos zs.length with h|h
  ·rw [List.getElem?_eq_none zo] at h0;cases h0
  ·exact h
 have hz0:zs[0]=z0:=by
  rw [List.getElem?_eq_getElem hn] at h0;exact Option.some.inj h0
 have h00:w.cell? ⟨b,0,none⟩=some (.int .i64 z0):=by
  rw [hx.cell,hc 0 hn,hz0]
 have lb:=hx.lt;have g1:decide ((zs.length:Int)<1)=false:=by simp;omega
 have HX:=zh hx;have HC:=zh hc;clear hx hc;go_enter Tryz.func243,Tryz.ntmps243
 go_wp2_with fail
 go_loopw [3,4] (fun m i wr=>∃ k:Nat,0<k∧k≤zs.length∧i= .int .i64 (k:Int)∧m= .int .i64 ((zs.take k).foldl min z0)∧Below w.heap.size w wr) (fun _ i _=>zs.length - (intOf i).toNat)
 case atStart =>
  refine ⟨1,by omega,hn,rfl,?_,Below.refl _ _⟩;cases zs with
  | nil=>simp at hn
  | cons x t =>
   simp only [List.getElem_cons_zero] at hz0;subst hz0;simp
 case round =>
  obtain ⟨k,hk0,hk,rfl,rfl,hb⟩:=hrel
  by_cases hlt:k<zs.length
  ·have hcell:=((HX.out.later hb).cell k).trans (HC.out k hlt)
   have hstep:(zs.take (k+1)).foldl min z0=min ((zs.take k).foldl min z0) zs[k]:=by
    rw [List.take_succ_eq_append_getElem hlt,List.foldl_append];rfl
   have HS:=zh hstep;clear hstep;generalize zs[k]=zk at *;generalize (zs.take k).foldl min z0=mk at *;go_wp2_with fail
   go_roundw
   case rel=>exact ⟨k+1,by omega,by omega,by go_num,by rw [HS.out]<;>go_num,hb⟩
   case measure=>exact zM
  ·obtain rfl:k=zs.length:=by omega
   rw [List.take_length];go_wp2_with fail
   go_ret
   exact ⟨rfl,hb⟩
theorem aj4 (b c:Nat) (zs:List Int) (z0:Int) (h0:zs[0]? =some z0) (arr:Array Value) (T:TypeId) (w:World) (hx:ah w b arr T) (hc:∀ j (h:j<zs.length),arr[j]? =some (.int .i64 zs[j])) (hl:zs.length≤9223372036854775807) :
  Calls Tryz.prog 179 #[.slice (some ⟨b,0,none⟩) zs.length c] w (fun e w'=>e= .returned (.int .i64 (zs.foldl min z0))∧Below w.heap.size w w'):=by
 have H:=zh (aR1 b c zs z0 h0 arr T w hx hc hl);clear h0 hx hc hl;generalize zs.length=n at *;generalize zs.foldl min z0=z at *;go_enter Tryz.func179,Tryz.ntmps179
 go_wp2_with fail
 refine H.out.mono ?_;rintro e w1 ⟨rfl,hb1⟩;go_wp2_with fail
 go_ret
 exact ⟨rfl,hb1⟩
theorem Nb (x:Int) (h1: -9223372036854775808<x) (h2:x<9223372036854775808) (w:World):Calls Tryz.prog 177 #[.int .i64 x] w (fun e w'=>e= .returned (.int .u64 (x.natAbs:Int))∧Below w.heap.size w w'):=by
 by_cases h:x<0
 ·have e:IntKind.u64.wrap (IntKind.i64.wrap (-x))=(x.natAbs:Int):=by rw [IntKind.wrap_i64,IntKind.wrap_u64];omega
  go_enter Tryz.func177,Tryz.ntmps177
  go_wp2_with fail
  go_ret
  refine ⟨?_,Below.refl _ _⟩
  show Ending.returned (.int .u64 (-x))=_
  rw [show -x=(x.natAbs:Int) by omega]
 ·have e:IntKind.u64.wrap x=(x.natAbs:Int):=by rw [IntKind.wrap_u64];omega
  go_enter Tryz.func177,Tryz.ntmps177
  go_wp2_with fail
  go_ret
  exact ⟨rfl,Below.refl _ _⟩
def sD (P d:Nat) (b neg:Bool):Int × Bool:=if vJ P d b≤1000000000000000000 then (iD (vJ P d b) neg,true) else (0,false)
theorem ag4 {P d:Nat} {b neg:Bool} (h:1000000000000000000<P / d):sD P d b neg=(0,false):=by
 unfold sD vJ;generalize P / d=q at *;rw [if_neg];split<;>omega
theorem Zo {P d:Nat} {neg:Bool} (hr:0<P%d) (h:1000000000000000000<P / d+1):sD P d true neg=(0,false):=by
 unfold sD vJ;rw [if_pos (⟨hr,rfl⟩:0<P%d∧true=true),if_neg (by generalize P / d=q at*; omega)]
theorem aw1 {P d:Nat} {neg:Bool} (hr:0<P%d) (h:P / d+1≤1000000000000000000):sD P d true neg=(iD (P / d+1) neg,true):=by
 unfold sD vJ;rw [if_pos (⟨hr,rfl⟩:0<P%d∧true=true),if_pos h]
theorem aw2 {P d:Nat} {b neg:Bool} (hr:P%d=0∨b=false) (h:P / d≤1000000000000000000):sD P d b neg=(iD (P / d) neg,true):=by
 have hn:¬ (0<P%d∧b=true):=by
  rintro ⟨h1,h2⟩
  rcases hr with h3|h3
  ·omega
  ·rw [h3] at h2;cases h2
 have e:vJ P d b=P / d:=if_neg hn;unfold sD;rw [e,if_pos h]
def kI (x y d:Int) (up:Bool):Int × Bool:=jY (if d<0 then -x else x) y d.natAbs up
theorem Zn (d:Nat) (b n1 n2:Bool):sD 0 d b n1=sD 0 d b n2:=by
 have e:vJ 0 d b=0:=by unfold vJ;simp
 unfold sD iD;rw [e];cases n1<;>cases n2<;>rfl
theorem aw0 (d:Nat) (b c n:Bool):sD 0 d b n=sD 0 d c n:=by
 have e:∀ b,vJ 0 d b=0:=fun b=>by unfold vJ;simp
 unfold sD;rw [e,e]
theorem af2 (n:Nat):iD n true= -(n:Int):=rfl
theorem af5 (n:Nat):iD n false=(n:Int):=rfl
theorem ag3 (x y d:Int) (hd:d≠0) (up:Bool):kI x y d up=sD (x.natAbs*y.natAbs) d.natAbs (up != ((decide (x<0) != decide (y<0)) != decide (d<0))) ((decide (x<0) != decide (y<0)) != decide (d<0)):=by
 have hd':0<d.natAbs:=by omega
 unfold kI
 by_cases h:d<0
 ·rw [if_pos h,decide_eq_true h];have e:=PY (-x) y hd' up;rw [Int.natAbs_neg] at e;refine e.trans ?_
  show sD _ _ _ _=_
  by_cases h0:x=0
  ·subst h0;rw [Int.natAbs_zero,Nat.zero_mul];exact (Zn _ _ _ _).trans (aw0 _ _ _ _)
  ·have:decide (-x<0)= !decide (x<0):=by
    by_cases hx:x<0
    ·rw [decide_eq_true hx,decide_eq_false zo];rfl
    ·rw [decide_eq_false hx,decide_eq_true zo];rfl
   rw [this];cases decide (x<0)<;>cases decide (y<0)<;>rfl
 ·rw [if_neg h,decide_eq_false h];refine (PY x y hd' up).trans ?_;rw [Bool.bne_false];rfl
theorem GH (x y d:Int) (up:Bool) (hx:x.natAbs≤1000000000000000000) (hy:y.natAbs≤1000000000000000000) (hd:d≠0) (hd2:d.natAbs≤1000000000000000000) (w:World) :
    Calls Tryz.prog 95 #[.int .i64 x,.int .i64 y,.int .i64 d,.bool up] w (fun e w'=>e= .returned (.tuple #[.int .i64 (kI x y d up).1,.bool (kI x y d up).2])∧Below w.heap.size w w'):=by
  have S1:=zh (fun W=>Nb x zo zo W);have S2:=zh (fun W=>Nb y zo zo W);have S3:=zh (fun W=>Nb d zo zo W);have hq:=ag3 x y d hd up;obtain ⟨nx,ex⟩:∃ b,decide (x<0)=b:=⟨_,rfl⟩;obtain ⟨ny,ey⟩:∃ b,decide (y<0)=b:=⟨_,rfl⟩;obtain ⟨nd,ed⟩:∃ b,decide (d<0)=b:=⟨_,rfl⟩;rw [ex,ey,ed] at hq;obtain ⟨P,eP⟩:∃ P,x.natAbs*y.natAbs=P:=⟨_,rfl⟩;obtain ⟨D,eD⟩:∃ D,d.natAbs=D:=⟨_,rfl⟩;rw [eP,eD] at hq;rw [eD] at S3
  have hP:P<18446744073709551616*18446744073709551616:=by
    rw [← eP]
    calc x.natAbs*y.natAbs≤1000000000000000000*1000000000000000000:=Nat.mul_le_mul hx hy
      _<_:=by decide
  have hD:0<D:=by omega
  have hD2:D≤1000000000000000000:=by omega
  rw [hq]
  have M1:Hid (∀ W,Calls Tryz.prog 176 #[.int .u64 (x.natAbs:Int),.int .u64 (y.natAbs:Int)] W (fun e w'=>e= .returned (.tuple #[.int .u64 ((P / 18446744073709551616:Nat):Int),.int .u64 ((P%18446744073709551616:Nat):Int)])∧Below W.heap.size W w')):=zh fun W=>by
    refine (Tryz.bits_Mul64 x.natAbs y.natAbs zo zo W).mono ?_;rintro e w' ⟨rfl,rfl⟩;rw [eP];exact ⟨rfl,Below.refl _ _⟩
  have hlo:=Nat.mod_lt P (show 0<18446744073709551616 by omega);have Vg:=Nat.div_add_mod P 18446744073709551616
  have D1:Hid (P / 18446744073709551616<D→∀ W,Calls Tryz.prog 178 #[.int .u64 ((P / 18446744073709551616:Nat):Int),.int .u64 ((P%18446744073709551616:Nat):Int),.int .u64 (D:Int)] W (fun e w'=>e= .returned (.tuple #[.int .u64 ((P / D:Nat):Int),.int .u64 ((P%D:Nat):Int)])∧Below W.heap.size W w')):=zh fun hlt W=>by
    have:=bits.as2 (P / 18446744073709551616) (P%18446744073709551616) D hlt zo hlo W;rw [show P / 18446744073709551616*18446744073709551616+P%18446744073709551616=P by rw [Nat.mul_comm];exact Vg] at this;exact this
  have hbig:D≤P / 18446744073709551616→18446744073709551616≤P / D:=fun h=>by
    rw [Nat.le_div_iff_mul_le hD];have:=Nat.mul_le_mul_left 18446744073709551616 h;omega
  obtain ⟨hi,ehi⟩:∃ a,P / 18446744073709551616=a:=⟨_,rfl⟩;obtain ⟨lo,elo⟩:∃ a,P%18446744073709551616=a:=⟨_,rfl⟩;rw [ehi,elo] at M1 D1;rw [ehi] at hbig;have HBG:=zh hbig;clear hx hy hd hd2 hq eP eD hP hlo Vg ehi elo hbig hD hD2;obtain ⟨q,eq⟩:∃ a,P / D=a:=⟨_,rfl⟩;obtain ⟨r,er⟩:∃ a,P%D=a:=⟨_,rfl⟩;rw [eq,er] at D1;rw [eq] at HBG;have Q1:Hid (∀ b neg,1000000000000000000<q→sD P D b neg=(0,false)):=zh fun b neg h=>ag4 (by rw [eq];exact h);have Q2:Hid (∀ neg,0<r→1000000000000000000<q+1→sD P D true neg=(0,false)):=zh fun neg h1 h2=>Zo (by rw [er];exact h1) (by rw [eq];exact h2);have Q3:Hid (∀ neg,0<r→q+1≤1000000000000000000→sD P D true neg=(iD (q+1) neg,true)):=zh fun neg h1 h2=>by rw [aw1 (by rw [er];exact h1) (by rw [eq];exact h2),eq]
  have Q4:Hid (∀ b neg,(r=0∨b=false)→q≤1000000000000000000→sD P D b neg=(iD q neg,true)):=zh fun b neg h1 h2=>by rw [aw2 (by rw [er];exact h1) (by rw [eq];exact h2),eq]
  clear eq er;generalize sD P D=QR at *;obtain ⟨ng,hn⟩:∃ b,((nx != ny) != nd)=b:=⟨_,rfl⟩;rw [hn];obtain ⟨bb,hb0⟩:∃ b,(up != ng)=b:=⟨_,rfl⟩;rw [hb0];obtain ⟨⟨z1,z2⟩,hz⟩:∃ z,QR bb ng=z:=⟨_,rfl⟩;rw [hz];have HZ:=zh hz;clear hz;simp only;cases bb<;>cases nx<;>cases ny<;>cases nd<;>cases up
  all_goals first|(obtain rfl:true=ng:=hn)|(obtain rfl:false=ng:=hn)
  all_goals first|(exfalso;revert hb0;decide)|skip
  all_goals
    clear hb0;go_enter Tryz.func95,Tryz.ntmps95
    go_wp2_with fail
    refine (S1.out _).mono ?_;rintro e w1 ⟨rfl,hb⟩;have HB:=zh hb;clear hb;go_wp2_with fail
    refine (S2.out _).mono ?_;rintro e w2 ⟨rfl,hb⟩;replace HB:=zh (Bt HB.out hb);clear hb;go_wp2_with fail
    refine (M1.out _).mono ?_;rintro e w3 ⟨rfl,hb⟩;replace HB:=zh (Bt HB.out hb);clear hb;go_wp2_with fail
    refine (S3.out _).mono ?_;rintro e w4 ⟨rfl,hb⟩;replace HB:=zh (Bt HB.out hb);clear hb
    rcases Nat.lt_or_ge hi D with c1|c1
    rotate_left
    · have g1:decide (D≤hi)=true:=decide_eq_true zo
      have g1':D≤hi:=c1;obtain ⟨rfl,rfl⟩:z1=0∧z2=false:=by have h:=HZ.out;rw [Q1.out _ _ (by have:=HBG.out c1;omega)] at h;cases h;exact ⟨rfl,rfl⟩
      clear c1 Q1 Q2 Q3 Q4 ex ey ed;go_wp2_with fail
      go_ret2
      exact ⟨rfl,HB.out⟩
    have g1:decide (D≤hi)=false:=decide_eq_false zo;have g1':¬ D≤hi:=by omega
    have D2:=zh (D1.out c1);clear c1 ex ey ed;go_wp2_with fail
    refine (S3.out _).mono ?_;rintro e w5 ⟨rfl,hb⟩;replace HB:=zh (Bt HB.out hb);clear hb;go_wp2_with fail
    refine (D2.out _).mono ?_;rintro e w6 ⟨rfl,hb⟩;replace HB:=zh (Bt HB.out hb);clear hb g1 g1' D1 D2
    rcases Nat.lt_or_ge 1000000000000000000 q with c2|c2
    · have g2:decide ((1000000000000000000:Int)<(q:Int))=true:=decide_eq_true zo
      obtain ⟨rfl,rfl⟩:z1=0∧z2=false:=by have h:=HZ.out;rw [Q1.out _ _ c2] at h;cases h;exact ⟨rfl,rfl⟩
      have C2:=zh c2;clear c2 Q1 Q2 Q3 Q4;go_wp2_with fail
      go_ret2
      exact ⟨rfl,HB.out⟩
    have g2:decide ((1000000000000000000:Int)<(q:Int))=false:=decide_eq_false zo;have w1:IntKind.i64.wrap (q:Int)=(q:Int):=by rw [IntKind.wrap_i64];omega
    have w2:IntKind.i64.wrap (-(q:Int))= -(q:Int):=by rw [IntKind.wrap_i64];omega
    have w3:IntKind.u64.wrap ((q:Int)+1)=((q+1:Nat):Int):=by rw [IntKind.wrap_u64];omega
    rcases Nat.eq_zero_or_pos r with c3|c3
    · subst c3
      have h:=HZ.out;rw [Q4.out _ _ (.inl rfl) c2] at h
      first|rw [af2] at h|rw [af5] at h
      cases h
      have C2:=zh c2;clear c2 Q1 Q2 Q3 Q4 w3;go_wp2_with fail
      go_ret2
      exact ⟨rfl,HB.out⟩
    have g3:(0:Int)<(r:Int):=by omega
    first
      | (have h:=HZ.out
         rw [Q4.out false _ (Or.inr rfl) c2] at h
         first|rw [af2] at h|rw [af5] at h
         cases h
         have C2:=zh (And.intro c2 c3);clear c2 c3 Q1 Q2 Q3 Q4 w3;go_wp2_with fail
         go_ret2
         exact ⟨rfl,HB.out⟩)
      | (obtain ⟨q',eq'⟩:∃ a,q+1=a:=⟨_,rfl⟩
         rw [eq'] at w3 Q2 Q3
         rcases Nat.lt_or_ge 1000000000000000000 q' with c4|c4
         · have g4:decide ((1000000000000000000:Int)<(q':Int))=true:=decide_eq_true zo
           obtain ⟨rfl,rfl⟩:z1=0∧z2=false:=by have h:=HZ.out;rw [Q2.out _ c3 c4] at h;cases h;exact ⟨rfl,rfl⟩
           have C2:=zh (And.intro c2 (And.intro c3 (And.intro c4 eq')));clear c2 c3 c4 eq' Q1 Q2 Q3 Q4 w1 w2;go_wp2_with fail
           go_ret2
           exact ⟨rfl,HB.out⟩
         · have g4:decide ((1000000000000000000:Int)<(q':Int))=false:=decide_eq_false zo
           have w1':IntKind.i64.wrap (q':Int)=(q':Int):=by rw [IntKind.wrap_i64];omega
           have w2':IntKind.i64.wrap (-(q':Int))= -(q':Int):=by rw [IntKind.wrap_i64];omega
           have h:=HZ.out;rw [Q3.out _ c3 c4] at h
           first|rw [af2] at h|rw [af5] at h
           cases h
           have C2:=zh (And.intro c2 (And.intro c3 (And.intro c4 eq')));clear c2 c3 c4 eq' Q1 Q2 Q3 Q4 w1 w2;go_wp2_with fail
           go_ret2
           exact ⟨rfl,HB.out⟩)
theorem ag2 (x y:Int) {d:Nat} (up:Bool):kI x y (d:Int) up=jY x y d up:=by
 unfold kI;rw [if_neg zo,Int.natAbs_natCast]
theorem PX (x y:Int) (d:Nat) (up:Bool) (hx:x.natAbs≤1000000000000000000) (hy:y.natAbs≤1000000000000000000) (hd:0<d) (hd2:d≤1000000000000000000) (w:World) :
  Calls Tryz.prog 95 #[.int .i64 x,.int .i64 y,.int .i64 (d:Int),.bool up] w (fun e w'=>e= .returned (.tuple #[.int .i64 (jY x y d up).1,.bool (jY x y d up).2])∧Below w.heap.size w w'):=by
 have h:=GH x y (d:Int) up hx hy zo zo w;rw [ag2] at h;exact h
theorem aD1 (x y:Int) (up:Bool) (hx:x.natAbs≤1000000000000000000) (hy:y.natAbs≤1000000000000000000) (w:World) :
  Calls Tryz.prog 101 #[.int .i64 x,.int .i64 y,.bool up] w (fun e w'=>e= .returned (.tuple #[.int .i64 (jY x y 1000000000000 up).1,.bool (jY x y 1000000000000 up).2])∧Below w.heap.size w w'):=by
 have H:=zh (fun W=>PX x y 1000000000000 up hx hy zo zo W);generalize jY x y 1000000000000 up=z at *;obtain ⟨z1,z2⟩:=z;simp only at *;go_enter Tryz.func101,Tryz.ntmps101
 go_wp2_with fail
 refine (H.out _).mono ?_;rintro e w1 ⟨rfl,hb⟩;go_wp2_with fail
 go_ret2
 exact ⟨rfl,hb⟩
def Xn (a:Int × Int) (k:Nat):Int:=if k / 2=0 then a.1 else a.2
def SN (b:Int × Int) (k:Nat):Int:=if k%2=0 then b.1 else b.2
def xC (Q:Int→Int→Bool→Int × Bool) (a b:Int × Int) (k:Nat):Int × Bool:=Q (Xn a k) (SN b k) false
def xG (Q:Int→Int→Bool→Int × Bool) (a b:Int × Int) (k:Nat):Int × Bool:=Q (Xn a k) (SN b k) true
def an1 (Q:Int→Int→Bool→Int × Bool) (a b:Int × Int):Bool:=(List.range 4).all fun k=>(xC Q a b k).2&&(xG Q a b k).2
def qy (Q:Int→Int→Bool→Int × Bool) (a b:Int × Int):(Int × Int) × Int:=if an1 Q a b then dI ([(xC Q a b 0).1,(xC Q a b 1).1,(xC Q a b 2).1,(xC Q a b 3).1].foldl min (xC Q a b 0).1) ([(xG Q a b 0).1,(xG Q a b 1).1,(xG Q a b 2).1,(xG Q a b 3).1].foldl max (xG Q a b 0).1) else ((0,0),6)
def aa0 (f:Nat→Int × Bool) (k q:Nat):Int:=if q<k then (f q).1 else 0
def Cr (f:Nat→Int × Bool) (k:Nat):Array Value:=#[.int .i64 (aa0 f k 0),.int .i64 (aa0 f k 1),.int .i64 (aa0 f k 2),.int .i64 (aa0 f k 3)]
theorem ah.bj9 (w:World) (o o2 o3 o4:Obj) (cs:Array Value) (T:TypeId):ah (((((w.alloc o).alloc o2).alloc o3).alloc o4).alloc (.cells cs T (0,0))) (w.heap.size+1+1+1+1) cs T:=ah.Nt zi
theorem aQ7 (w:World) (c0:Array Value) (T0:TypeId) (c1:Array Value) (T1:TypeId) (c2:Array Value) (T2:TypeId) (c3:Array Value) (T3:TypeId) (c4:Array Value) (T4:TypeId):∃ y,((((w.alloc (.cells c0 T0 (0,0))).alloc (.cells c1 T1 (0,0))).alloc (.cells c2 T2 (0,0))).alloc (.cells c3 T3 (0,0))).alloc (.cells c4 T4 (0,0))=y∧Below w.heap.size w y∧Hid (ah y (w.heap.size) c0 T0)∧Hid (ah y (w.heap.size+1) c1 T1)∧Hid (ah y (w.heap.size+1+1) c2 T2)∧Hid (ah y (w.heap.size+1+1+1) c3 T3)∧Hid (ah y (w.heap.size+1+1+1+1) c4 T4):=⟨_,rfl,bQ (bQ (bQ (bQ (bQ (Below.refl _ _) _) _) _) _) _,zh (ah.alloc (ah.alloc (ah.alloc (ah.alloc (ah.new _ _ _) _) _) _) _),zh (ah.alloc (ah.alloc (ah.alloc (ah.oL _ _ _ _) _) _) _),zh (ah.alloc (ah.alloc (ah.at2 _ _ _ _ _) _) _),zh (ah.alloc (ah.at3 _ _ _ _ _ _) _),zh (ah.bj9 _ _ _ _ _ _ _)⟩
structure Tj (Q:Int→Int→Bool→Int × Bool) (w0:World) (a b:Int × Int) (wr:World) (k:Nat):Prop where
 ba:ah wr w0.heap.size #[.int .i64 a.1,.int .i64 a.2] 40
 bb:ah wr (w0.heap.size+1) #[.int .i64 b.1,.int .i64 b.2] 40
 br:ah wr (w0.heap.size+1+1) #[.int .i64 0,.int .i64 0] 40
 bl:ah wr (w0.heap.size+1+1+1) (Cr (xC Q a b) k) 198
 bh:ah wr (w0.heap.size+1+1+1+1) (Cr (xG Q a b) k) 198
 bw:Below w0.heap.size w0 wr
 ok:∀ q,q<k→(xC Q a b q).2=true∧(xG Q a b q).2=true
theorem Tj.later {Q:Int→Int→Bool→Int × Bool} {w0 wr w':World} {a b:Int × Int} {k:Nat} (h:Tj Q w0 a b wr k) (hb:Below wr.heap.size wr w'):Tj Q w0 a b w' k :=
 ⟨h.ba.later hb,h.bb.later hb,h.br.later hb,h.bl.later hb,h.bh.later hb,Bt h.bw hb,h.ok⟩
theorem RZ (f:Nat→Int × Bool) {k:Nat} (hk:k<4):(Cr f k).setIfInBounds k (.int .i64 (f k).1)=Cr f (k+1):=by
 have:k=0∨k=1∨k=2∨k=3:=by omega
 rcases this with rfl|rfl|rfl|rfl<;>simp [Cr,aa0]
theorem Tj.step {Q:Int→Int→Bool→Int × Bool} {w0 wr:World} {a b:Int × Int} {k:Nat} (h:Tj Q w0 a b wr k) (hk:k<4) (h1:(xC Q a b k).2=true) (h2:(xG Q a b k).2=true) :
  Tj Q w0 a b ((wr.setCell ⟨w0.heap.size+1+1+1,k,none⟩ (.int .i64 (xC Q a b k).1)).setCell ⟨w0.heap.size+1+1+1+1,k,none⟩ (.int .i64 (xG Q a b k).1)) (k+1) where
 ba:=ah.setOther (ah.setOther h.ba _ (by first|(simp;done)|(simp;omega))) _ (by first|(simp;done)|(simp;omega))
 bb:=ah.setOther (ah.setOther h.bb _ (by first|(simp;done)|(simp;omega))) _ (by first|(simp;done)|(simp;omega))
 br:=ah.setOther (ah.setOther h.br _ zi) _ (by first|(simp;done)|(simp;omega))
 bl:=by
  have:=ah.setOther (h.bl.set k (.int .i64 (xC Q a b k).1)) (a:=⟨w0.heap.size+1+1+1+1,k,none⟩) (.int .i64 (xG Q a b k).1) zi
  rwa [RZ _ hk] at this
 bh:=by
  have:=(ah.setOther h.bh (a:=⟨w0.heap.size+1+1+1,k,none⟩) (.int .i64 (xC Q a b k).1) zi).set k (.int .i64 (xG Q a b k).1)
  rwa [RZ _ hk] at this
 bw:=(h.bw.setCell (p:=⟨w0.heap.size+1+1+1,k,none⟩) (by simp;omega) _).setCell (p:=⟨w0.heap.size+1+1+1+1,k,none⟩) (by simp;omega) _
 ok:=fun q hq=>by
  rcases Nat.lt_or_ge q k with h'|h'
  ·exact h.ok q h'
  ·obtain rfl:q=k:=by omega
   exact ⟨h1,h2⟩
theorem Yb (f:Nat→Int × Bool) (j:Nat) (h:j<[(f 0).1,(f 1).1,(f 2).1,(f 3).1].length):(Cr f 4)[j]? =some (.int .i64 [(f 0).1,(f 1).1,(f 2).1,(f 3).1][j]):=by
 have:j=0∨j=1∨j=2∨j=3:=by have:j<4:=h;omega
 rcases this with rfl|rfl|rfl|rfl<;>simp [Cr,aa0]
theorem au9 {Q:Int→Int→Bool→Int × Bool} {a b:Int × Int} {k:Nat} (hk:k<4) (h:(xC Q a b k).2=false∨(xG Q a b k).2=false):qy Q a b=((0,0),6):=by
 unfold qy;rw [if_neg];intro hf;unfold an1 at hf;have:=List.all_eq_true.1 hf k (by simp [hk])
 rcases h with h|h<;>simp [h] at this
theorem yK (Q:Int→Int→Bool→Int × Bool) (F:FuncId) (fr:Array Value) (x y z t:Int) (w:World)
  (HC:∀ k up W,Below w.heap.size w W→Calls Tryz.prog F (#[.int .i64 (Xn (x,y) k),.int .i64 (SN (z,t) k),.bool up]++fr) W (fun e w'=>e= .returned (.tuple #[.int .i64 (Q (Xn (x,y) k) (SN (z,t) k) up).1,.bool (Q (Xn (x,y) k) (SN (z,t) k) up).2])∧Below W.heap.size W w'))
  (hen:∀ args W,(callFunc F args).run Tryz.prog W= .ok (.enter F args) W) :
  Calls Tryz.prog 100 #[.agg #[.int .i64 x,.int .i64 y],.agg #[.int .i64 z,.int .i64 t],.func (.func F) #[] fr] w (fun e w'=>e= .returned (bK (qy Q (x,y) (z,t)))∧Below w.heap.size w w'):=by
 have HL:Hid (∀ k W,Below w.heap.size w W→Calls Tryz.prog F (#[.int .i64 (Xn (x,y) k),.int .i64 (SN (z,t) k),.bool false]++fr) W (fun e w'=>e= .returned (.tuple #[.int .i64 (xC Q (x,y) (z,t) k).1,.bool (xC Q (x,y) (z,t) k).2])∧Below W.heap.size W w')):=zh fun k W h=>HC k false W h;have HH:Hid (∀ k W,Below w.heap.size w W→Calls Tryz.prog F (#[.int .i64 (Xn (x,y) k),.int .i64 (SN (z,t) k),.bool true]++fr) W (fun e w'=>e= .returned (.tuple #[.int .i64 (xG Q (x,y) (z,t) k).1,.bool (xG Q (x,y) (z,t) k).2])∧Below W.heap.size W w')):=zh fun k W h=>HC k true W h;clear HC;have HN:=zh (fun k (hk:k<4) h=>au9 (Q:=Q) (a:=(x,y)) (b:=(z,t)) (k:=k) hk h);obtain ⟨⟨⟨s1,s2⟩,s3⟩,es⟩:∃ s,qy Q (x,y) (z,t)=s:=⟨_,rfl⟩;rw [es];have HS:=zh es;unfold bK;clear es;go_enter Tryz.func100,Tryz.ntmps100
 go_wp2_with fail
 go_step3
 go_wp2_with fail
 go_step3
 go_wp2_with fail
 obtain ⟨w0,EW,hb,X3,X4,X6,X8,X9⟩:=aQ7 w #[.int .i64 x,.int .i64 y] 40 #[.int .i64 z,.int .i64 t] 40 #[.int .i64 0,.int .i64 0] 40 #[.int .i64 0,.int .i64 0,.int .i64 0,.int .i64 0] 198 #[.int .i64 0,.int .i64 0,.int .i64 0,.int .i64 0] 198;rw [EW];clear EW;have HS0:Hid (Tj Q w (x,y) (z,t) w0 0):=zh ⟨X3.out,X4.out,X6.out,X8.out,X9.out,hb,fun q h=>absurd h zo⟩;clear X3 X4 X6 X8 X9 hb
 go_loopw [10,24] (fun fv iv wr=>∃ i:Int,fv= .bool true∧iv= .int .i64 i∧Hid ((i=0∧Tj Q w (x,y) (z,t) wr 0)∨(i=1∧Tj Q w (x,y) (z,t) wr 2)∨(i=2∧Tj Q w (x,y) (z,t) wr 4))) (fun _ iv _=>2 - (intOf iv).toNat)
 case atStart=>exact ⟨0,rfl,rfl,zh (.inl ⟨rfl,HS0.out⟩)⟩
 case round =>
  clear HS0;obtain ⟨i,rfl,rfl,HI⟩:=hrel
  rcases HI.out with ⟨rfl,hS⟩|⟨rfl,hS⟩|⟨rfl,hS⟩
  ·clear HI;have hix:∀ W,(Instr.index 199 (.agg #[.int .i64 x,.int .i64 y]) (.int .i64 0)).run Tryz.prog W= .ok (.int .i64 x) W:=fun W=>by kernel_rfl
   obtain ⟨c4,l4⟩:=(zh hS.bb).cl;have HS0:=zh hS;clear hS;go_wp2_with fail
   clear hix c4 l4
   go_loopw [10,33] (fun fv jv wr=>∃ j:Int,fv= .bool true∧jv= .int .i64 j∧Hid ((j=0∧Tj Q w (x,y) (z,t) wr 0)∨(j=1∧Tj Q w (x,y) (z,t) wr 1)∨(j=2∧Tj Q w (x,y) (z,t) wr 2))) (fun _ jv _=>2 - (intOf jv).toNat)
   case atStart=>exact ⟨0,rfl,rfl,zh (.inl ⟨rfl,HS0.out⟩)⟩
   case round =>
    clear HS0;obtain ⟨j,rfl,rfl,HJ⟩:=hrel
    rcases HJ.out with ⟨rfl,hS⟩|⟨rfl,hS⟩|⟨rfl,hS⟩
    ·clear HJ;obtain ⟨⟨l1,l2⟩,el⟩:∃ v,xC Q (x,y) (z,t) 0=v:=⟨_,rfl⟩;obtain ⟨⟨h1,h2⟩,eh⟩:∃ v,xG Q (x,y) (z,t) 0=v:=⟨_,rfl⟩;have WG:=zh (HL.out 0);have WI:=zh (HH.out 0);rw [el] at WG;rw [eh] at WI;have EL:=zh (And.intro el eh);have WE:=zh hS;clear el eh hS;have Ve:∀ W,(Instr.index 199 (.agg #[.int .i64 z,.int .i64 t]) (.int .i64 0)).run Tryz.prog W= .ok (.int .i64 z) W:=fun W=>by kernel_rfl
     go_wp2_with fail
     refine (WG.out _ WE.out.bw).mono ?_;rintro e w1 ⟨rfl,hb⟩;have WC:=zh (WE.out.later hb);clear hb Ve WG WE;go_wp2_with fail
     refine (WI.out _ WC.out.bw).mono ?_;rintro e w2 ⟨rfl,hb⟩;have nG:=zh (WC.out.later hb);clear hb WI WC;cases l2
     ·obtain ⟨rfl,rfl,rfl⟩:s1=0∧s2=0∧s3=6:=by have h:=HS.out;rw [HN.out 0 zo (by rw [EL.out.1];exact .inl rfl)] at h;cases h;exact ⟨rfl,rfl,rfl⟩
      obtain ⟨c6,l6,f6⟩:=(zh nG.out.br).clf;go_wp2_with fail
      rw [Exit.noGoto_ret];exact bodyPost_ret (v:=.tuple #[.agg #[.int .i64 0,.int .i64 0],.int .i64 6]) (by have h6:=((nG.out.br.set 0 (.int .i64 0)).set 1 (.int .i64 0)).cell;have QZ:=h6 0;have QY:=h6 1;simp [results,Tryz.results100,go_sem,QZ,QY]) rfl ⟨rfl,(nG.out.bw.setCell (p:=⟨w.heap.size+1+1,0,none⟩) (by simp;omega) _).setCell (p:=⟨w.heap.size+1+1,1,none⟩) (by simp;omega) _⟩
     ·cases h2
      ·obtain ⟨rfl,rfl,rfl⟩:s1=0∧s2=0∧s3=6:=by have h:=HS.out;rw [HN.out 0 zo (by rw [EL.out.2];exact .inr rfl)] at h;cases h;exact ⟨rfl,rfl,rfl⟩
       obtain ⟨c6,l6,f6⟩:=(zh nG.out.br).clf;go_wp2_with fail
       rw [Exit.noGoto_ret];exact bodyPost_ret (v:=.tuple #[.agg #[.int .i64 0,.int .i64 0],.int .i64 6]) (by have h6:=((nG.out.br.set 0 (.int .i64 0)).set 1 (.int .i64 0)).cell;have QZ:=h6 0;have QY:=h6 1;simp [results,Tryz.results100,go_sem,QZ,QY]) rfl ⟨rfl,(nG.out.bw.setCell (p:=⟨w.heap.size+1+1,0,none⟩) (by simp;omega) _).setCell (p:=⟨w.heap.size+1+1,1,none⟩) (by simp;omega) _⟩
      ·obtain ⟨c8,l8,f8⟩:=(zh nG.out.bl).clf;obtain ⟨c9,l9,f9⟩:=(zh nG.out.bh).clf;unfold Cr at c8 c9;have WB:=zh (nG.out.step (k:=0) zo (by rw [EL.out.1]) (by rw [EL.out.2]));rw [EL.out.1,EL.out.2] at WB;clear nG;go_wp2_with fail
       go_roundw
       case rel=>exact ⟨1,rfl,rfl,zh (.inr<| .inl ⟨rfl,WB.out⟩)⟩
       case measure=>simp [intOf]
    ·clear HJ;obtain ⟨⟨l1,l2⟩,el⟩:∃ v,xC Q (x,y) (z,t) 1=v:=⟨_,rfl⟩;obtain ⟨⟨h1,h2⟩,eh⟩:∃ v,xG Q (x,y) (z,t) 1=v:=⟨_,rfl⟩;have WG:=zh (HL.out 1);have WI:=zh (HH.out 1);rw [el] at WG;rw [eh] at WI;have EL:=zh (And.intro el eh);have WE:=zh hS;clear el eh hS;have Ve:∀ W,(Instr.index 199 (.agg #[.int .i64 z,.int .i64 t]) (.int .i64 1)).run Tryz.prog W= .ok (.int .i64 t) W:=fun W=>by kernel_rfl
     go_wp2_with fail
     refine (WG.out _ WE.out.bw).mono ?_;rintro e w1 ⟨rfl,hb⟩;have WC:=zh (WE.out.later hb);clear hb Ve WG WE;go_wp2_with fail
     refine (WI.out _ WC.out.bw).mono ?_;rintro e w2 ⟨rfl,hb⟩;have nG:=zh (WC.out.later hb);clear hb WI WC;cases l2
     ·obtain ⟨rfl,rfl,rfl⟩:s1=0∧s2=0∧s3=6:=by have h:=HS.out;rw [HN.out 1 zo (by rw [EL.out.1];exact .inl rfl)] at h;cases h;exact ⟨rfl,rfl,rfl⟩
      obtain ⟨c6,l6,f6⟩:=(zh nG.out.br).clf;go_wp2_with fail
      rw [Exit.noGoto_ret];exact bodyPost_ret (v:=.tuple #[.agg #[.int .i64 0,.int .i64 0],.int .i64 6]) (by have h6:=((nG.out.br.set 0 (.int .i64 0)).set 1 (.int .i64 0)).cell;have QZ:=h6 0;have QY:=h6 1;simp [results,Tryz.results100,go_sem,QZ,QY]) rfl ⟨rfl,(nG.out.bw.setCell (p:=⟨w.heap.size+1+1,0,none⟩) (by simp;omega) _).setCell (p:=⟨w.heap.size+1+1,1,none⟩) (by simp;omega) _⟩
     ·cases h2
      ·obtain ⟨rfl,rfl,rfl⟩:s1=0∧s2=0∧s3=6:=by have h:=HS.out;rw [HN.out 1 zo (by rw [EL.out.2];exact .inr rfl)] at h;cases h;exact ⟨rfl,rfl,rfl⟩
       obtain ⟨c6,l6,f6⟩:=(zh nG.out.br).clf;go_wp2_with fail
       rw [Exit.noGoto_ret];exact bodyPost_ret (v:=.tuple #[.agg #[.int .i64 0,.int .i64 0],.int .i64 6]) (by have h6:=((nG.out.br.set 0 (.int .i64 0)).set 1 (.int .i64 0)).cell;have QZ:=h6 0;have QY:=h6 1;simp [results,Tryz.results100,go_sem,QZ,QY]) rfl ⟨rfl,(nG.out.bw.setCell (p:=⟨w.heap.size+1+1,0,none⟩) (by simp;omega) _).setCell (p:=⟨w.heap.size+1+1,1,none⟩) (by simp;omega) _⟩
      ·obtain ⟨c8,l8,f8⟩:=(zh nG.out.bl).clf;obtain ⟨c9,l9,f9⟩:=(zh nG.out.bh).clf;unfold Cr at c8 c9;have WB:=zh (nG.out.step (k:=1) zo (by rw [EL.out.1]) (by rw [EL.out.2]));rw [EL.out.1,EL.out.2] at WB;clear nG;go_wp2_with fail
       go_roundw
       case rel=>exact ⟨2,rfl,rfl,zh (.inr<| .inr ⟨rfl,WB.out⟩)⟩
       case measure=>simp [intOf]
    ·have WB:=zh hS;clear hS HJ;go_wp2_with fail
     go_roundw
     case rel=>exact ⟨1,rfl,rfl,zh (.inr<| .inl ⟨rfl,WB.out⟩)⟩
     case measure=>simp [intOf]
  ·clear HI;have hix:∀ W,(Instr.index 199 (.agg #[.int .i64 x,.int .i64 y]) (.int .i64 1)).run Tryz.prog W= .ok (.int .i64 y) W:=fun W=>by kernel_rfl
   obtain ⟨c4,l4⟩:=(zh hS.bb).cl;have HS0:=zh hS;clear hS;go_wp2_with fail
   clear hix c4 l4
   go_loopw [10,33] (fun fv jv wr=>∃ j:Int,fv= .bool true∧jv= .int .i64 j∧Hid ((j=0∧Tj Q w (x,y) (z,t) wr 2)∨(j=1∧Tj Q w (x,y) (z,t) wr 3)∨(j=2∧Tj Q w (x,y) (z,t) wr 4))) (fun _ jv _=>2 - (intOf jv).toNat)
   case atStart=>exact ⟨0,rfl,rfl,zh (.inl ⟨rfl,HS0.out⟩)⟩
   case round =>
    clear HS0;obtain ⟨j,rfl,rfl,HJ⟩:=hrel
    rcases HJ.out with ⟨rfl,hS⟩|⟨rfl,hS⟩|⟨rfl,hS⟩
    ·clear HJ;obtain ⟨⟨l1,l2⟩,el⟩:∃ v,xC Q (x,y) (z,t) 2=v:=⟨_,rfl⟩;obtain ⟨⟨h1,h2⟩,eh⟩:∃ v,xG Q (x,y) (z,t) 2=v:=⟨_,rfl⟩;have WG:=zh (HL.out 2);have WI:=zh (HH.out 2);rw [el] at WG;rw [eh] at WI;have EL:=zh (And.intro el eh);have WE:=zh hS;clear el eh hS;have Ve:∀ W,(Instr.index 199 (.agg #[.int .i64 z,.int .i64 t]) (.int .i64 0)).run Tryz.prog W= .ok (.int .i64 z) W:=fun W=>by kernel_rfl
     go_wp2_with fail
     refine (WG.out _ WE.out.bw).mono ?_;rintro e w1 ⟨rfl,hb⟩;have WC:=zh (WE.out.later hb);clear hb Ve WG WE;go_wp2_with fail
     refine (WI.out _ WC.out.bw).mono ?_;rintro e w2 ⟨rfl,hb⟩;have nG:=zh (WC.out.later hb);clear hb WI WC;cases l2
     ·obtain ⟨rfl,rfl,rfl⟩:s1=0∧s2=0∧s3=6:=by have h:=HS.out;rw [HN.out 2 zo (by rw [EL.out.1];exact .inl rfl)] at h;cases h;exact ⟨rfl,rfl,rfl⟩
      obtain ⟨c6,l6,f6⟩:=(zh nG.out.br).clf;go_wp2_with fail
      rw [Exit.noGoto_ret];exact bodyPost_ret (v:=.tuple #[.agg #[.int .i64 0,.int .i64 0],.int .i64 6]) (by have h6:=((nG.out.br.set 0 (.int .i64 0)).set 1 (.int .i64 0)).cell;have QZ:=h6 0;have QY:=h6 1;simp [results,Tryz.results100,go_sem,QZ,QY]) rfl ⟨rfl,(nG.out.bw.setCell (p:=⟨w.heap.size+1+1,0,none⟩) (by simp;omega) _).setCell (p:=⟨w.heap.size+1+1,1,none⟩) (by simp;omega) _⟩
     ·cases h2
      ·obtain ⟨rfl,rfl,rfl⟩:s1=0∧s2=0∧s3=6:=by have h:=HS.out;rw [HN.out 2 zo (by rw [EL.out.2];exact .inr rfl)] at h;cases h;exact ⟨rfl,rfl,rfl⟩
       obtain ⟨c6,l6,f6⟩:=(zh nG.out.br).clf;go_wp2_with fail
       rw [Exit.noGoto_ret];exact bodyPost_ret (v:=.tuple #[.agg #[.int .i64 0,.int .i64 0],.int .i64 6]) (by have h6:=((nG.out.br.set 0 (.int .i64 0)).set 1 (.int .i64 0)).cell;have QZ:=h6 0;have QY:=h6 1;simp [results,Tryz.results100,go_sem,QZ,QY]) rfl ⟨rfl,(nG.out.bw.setCell (p:=⟨w.heap.size+1+1,0,none⟩) (by simp;omega) _).setCell (p:=⟨w.heap.size+1+1,1,none⟩) (by simp;omega) _⟩
      ·obtain ⟨c8,l8,f8⟩:=(zh nG.out.bl).clf;obtain ⟨c9,l9,f9⟩:=(zh nG.out.bh).clf;unfold Cr at c8 c9;have WB:=zh (nG.out.step (k:=2) zo (by rw [EL.out.1]) (by rw [EL.out.2]));rw [EL.out.1,EL.out.2] at WB;clear nG;go_wp2_with fail
       go_roundw
       case rel=>exact ⟨1,rfl,rfl,zh (.inr<| .inl ⟨rfl,WB.out⟩)⟩
       case measure=>simp [intOf]
    ·clear HJ;obtain ⟨⟨l1,l2⟩,el⟩:∃ v,xC Q (x,y) (z,t) 3=v:=⟨_,rfl⟩;obtain ⟨⟨h1,h2⟩,eh⟩:∃ v,xG Q (x,y) (z,t) 3=v:=⟨_,rfl⟩;have WG:=zh (HL.out 3);have WI:=zh (HH.out 3);rw [el] at WG;rw [eh] at WI;have EL:=zh (And.intro el eh);have WE:=zh hS;clear el eh hS;have Ve:∀ W,(Instr.index 199 (.agg #[.int .i64 z,.int .i64 t]) (.int .i64 1)).run Tryz.prog W= .ok (.int .i64 t) W:=fun W=>by kernel_rfl
     go_wp2_with fail
     refine (WG.out _ WE.out.bw).mono ?_;rintro e w1 ⟨rfl,hb⟩;have WC:=zh (WE.out.later hb);clear hb Ve WG WE;go_wp2_with fail
     refine (WI.out _ WC.out.bw).mono ?_;rintro e w2 ⟨rfl,hb⟩;have nG:=zh (WC.out.later hb);clear hb WI WC;cases l2
     ·obtain ⟨rfl,rfl,rfl⟩:s1=0∧s2=0∧s3=6:=by have h:=HS.out;rw [HN.out 3 zo (by rw [EL.out.1];exact .inl rfl)] at h;cases h;exact ⟨rfl,rfl,rfl⟩
      obtain ⟨c6,l6,f6⟩:=(zh nG.out.br).clf;go_wp2_with fail
      rw [Exit.noGoto_ret];exact bodyPost_ret (v:=.tuple #[.agg #[.int .i64 0,.int .i64 0],.int .i64 6]) (by have h6:=((nG.out.br.set 0 (.int .i64 0)).set 1 (.int .i64 0)).cell;have QZ:=h6 0;have QY:=h6 1;simp [results,Tryz.results100,go_sem,QZ,QY]) rfl ⟨rfl,(nG.out.bw.setCell (p:=⟨w.heap.size+1+1,0,none⟩) (by simp;omega) _).setCell (p:=⟨w.heap.size+1+1,1,none⟩) (by simp;omega) _⟩
     ·cases h2
      ·obtain ⟨rfl,rfl,rfl⟩:s1=0∧s2=0∧s3=6:=by have h:=HS.out;rw [HN.out 3 zo (by rw [EL.out.2];exact .inr rfl)] at h;cases h;exact ⟨rfl,rfl,rfl⟩
       obtain ⟨c6,l6,f6⟩:=(zh nG.out.br).clf;go_wp2_with fail
       rw [Exit.noGoto_ret];exact bodyPost_ret (v:=.tuple #[.agg #[.int .i64 0,.int .i64 0],.int .i64 6]) (by have h6:=((nG.out.br.set 0 (.int .i64 0)).set 1 (.int .i64 0)).cell;have QZ:=h6 0;have QY:=h6 1;simp [results,Tryz.results100,go_sem,QZ,QY]) rfl ⟨rfl,(nG.out.bw.setCell (p:=⟨w.heap.size+1+1,0,none⟩) (by simp;omega) _).setCell (p:=⟨w.heap.size+1+1,1,none⟩) (by simp;omega) _⟩
      ·obtain ⟨c8,l8,f8⟩:=(zh nG.out.bl).clf;obtain ⟨c9,l9,f9⟩:=(zh nG.out.bh).clf;unfold Cr at c8 c9;have WB:=zh (nG.out.step (k:=3) zo (by rw [EL.out.1]) (by rw [EL.out.2]));rw [EL.out.1,EL.out.2] at WB;clear nG;go_wp2_with fail
       go_roundw
       case rel=>exact ⟨2,rfl,rfl,zh (.inr<| .inr ⟨rfl,WB.out⟩)⟩
       case measure=>simp [intOf]
    ·have WB:=zh hS;clear hS HJ;go_wp2_with fail
     go_roundw
     case rel=>exact ⟨2,rfl,rfl,zh (.inr<| .inr ⟨rfl,WB.out⟩)⟩
     case measure=>simp [intOf]
  ·clear HI;have HP:=zh hS;clear hS;have HMn:=zh (fun W h=>aj4 (w.heap.size+1+1+1) 4 [(xC Q (x,y) (z,t) 0).1,(xC Q (x,y) (z,t) 1).1,(xC Q (x,y) (z,t) 2).1,(xC Q (x,y) (z,t) 3).1] _ rfl (Cr (xC Q (x,y) (z,t)) 4) 198 W h (Yb _) zi);have HMx:=zh (fun W h=>wL (w.heap.size+1+1+1+1) 4 [(xG Q (x,y) (z,t) 0).1,(xG Q (x,y) (z,t) 1).1,(xG Q (x,y) (z,t) 2).1,(xG Q (x,y) (z,t) 3).1] _ rfl (Cr (xG Q (x,y) (z,t)) 4) 198 W h (Yb _) zi);have HMd:=zh (fun lo hi W=>jf lo hi W);obtain ⟨mn,emn⟩:∃ v,[(xC Q (x,y) (z,t) 0).1,(xC Q (x,y) (z,t) 1).1,(xC Q (x,y) (z,t) 2).1,(xC Q (x,y) (z,t) 3).1].foldl min (xC Q (x,y) (z,t) 0).1=v:=⟨_,rfl⟩;obtain ⟨mx,emx⟩:∃ v,[(xG Q (x,y) (z,t) 0).1,(xG Q (x,y) (z,t) 1).1,(xG Q (x,y) (z,t) 2).1,(xG Q (x,y) (z,t) 3).1].foldl max (xG Q (x,y) (z,t) 0).1=v:=⟨_,rfl⟩
   have hsp:dI mn mx=((s1,s2),s3):=by
    rw [← HS.out,← emn,← emx];unfold qy;rw [if_pos];unfold an1;rw [List.all_eq_true];intro q hq;have hq4:q<4:=by simpa using hq
    have:=HP.out.ok q hq4;simp [this.1,this.2]
   rw [emn] at HMn;rw [emx] at HMx;replace HMd:=zh (fun W=>HMd.out mn mx W);rw [hsp] at HMd;unfold bK at HMd;clear emn emx hsp HL HH HN HS;go_wp2_with fail
   refine aC [(.pure,0),(.pure,2),(.ext,1),(.ext,3),(.ext,4),(.pure,5),(.pure,6),(.fin,7),(.fin,8)] zk zk zR zP ?_;refine Wk.out ?_
   (iterate 2 refine zU ?_)
   refine dP rfl rfl (fun wa hba J hJ=>?_);go_simp;have za:Below wr.heap.size wr wa:=au;refine (HMn.out _ (HP.out.bl.later za)).mono ?_;rintro e wb ⟨rfl,hb⟩;have zb:=Bt za hb;refine hJ _ _ hb ?_;clear hJ J hb hba za HMn;refine dP rfl rfl (fun wc hbc J hJ=>?_);go_simp;have zc:=Bt zb hbc;refine (HMx.out _ (HP.out.bh.later zc)).mono ?_;rintro e wd ⟨rfl,hb⟩;have zd:=Bt zc hb;refine hJ _ _ hb ?_;clear hJ J hb hbc zb zc HMx;refine dP rfl rfl (fun we hbe J hJ=>?_);go_simp;have ze:=Bt zd hbe;refine (HMd.out _).mono ?_;rintro e wf ⟨rfl,hb⟩;have zf:=Bt ze hb;refine hJ _ _ hb ?_;clear hJ J hb hbe zd ze HMd
   (iterate 2 refine zU ?_)
   refine rY [_,_] rfl (fun wg hbg=>?_);have nG:=zh (HP.out.later (Bt zf hbg));clear zf hbg HP;obtain ⟨c6,l6,f6⟩:=(zh nG.out.br).clf;go_wp2_with fail
   rw [Exit.noGoto_ret];exact bodyPost_ret (v:=.tuple #[.agg #[.int .i64 s1,.int .i64 s2],.int .i64 s3]) (by have h6:=((nG.out.br.set 0 (.int .i64 s1)).set 1 (.int .i64 s2)).cell;have QZ:=h6 0;have QY:=h6 1;simp [results,Tryz.results100,go_sem,QZ,QY]) rfl ⟨rfl,(nG.out.bw.setCell (p:=⟨w.heap.size+1+1,0,none⟩) (by simp;omega) _).setCell (p:=⟨w.heap.size+1+1,1,none⟩) (by simp;omega) _⟩
def XG (a b:Int × Int) (k:Nat):Int × Bool:=jY (Xn a k) (SN b k) 1000000000000 false
def Ca (a b:Int × Int) (k:Nat):Int × Bool:=jY (Xn a k) (SN b k) 1000000000000 true
def aO4 (a b:Int × Int):Bool:=(List.range 4).all fun k=>(XG a b k).2&&(Ca a b k).2
def Na (a b:Int × Int):(Int × Int) × Int:=if aO4 a b then dI ([(XG a b 0).1,(XG a b 1).1,(XG a b 2).1,(XG a b 3).1].foldl min (XG a b 0).1) ([(Ca a b 0).1,(Ca a b 1).1,(Ca a b 2).1,(Ca a b 3).1].foldl max (Ca a b 0).1) else ((0,0),6)
def Ai (a b:Int × Int):(Int × Int) × Int:=if okB [a,b] then Na a b else ((0,0),30)
theorem Zf (x y z t:Int) (hx:x.natAbs≤1000000000000000000) (hy:y.natAbs≤1000000000000000000) (hz:z.natAbs≤1000000000000000000) (ht:t.natAbs≤1000000000000000000) (w:World) :
  Calls Tryz.prog 100 #[.agg #[.int .i64 x,.int .i64 y],.agg #[.int .i64 z,.int .i64 t],.func (.func 101) #[] #[]] w (fun e w'=>e= .returned (bK (Na (x,y) (z,t)))∧Below w.heap.size w w'):=by
 have hpx:∀ k,(Xn (x,y) k).natAbs≤1000000000000000000:=fun k=>by unfold Xn;split<;>assumption
 have hpy:∀ k,(SN (z,t) k).natAbs≤1000000000000000000:=fun k=>by unfold SN;split<;>assumption
 exact yK (fun x y up=>jY x y 1000000000000 up) 101 #[] x y z t w (fun k up W _=>aD1 _ _ up (hpx k) (hpy k) W) (fun args W=>by rfl)
theorem aD2 (x y z t:Int) (h0:okB [(x,y),(z,t)]=true) (b c:Nat) (w:World) (h:ah w b #[.int .i64 x,.int .i64 y] 40) (k:ah w c #[.int .i64 z,.int .i64 t] 40) :
  Calls Tryz.prog 99 #[.pointer (some ⟨b,0,none⟩),.pointer (some ⟨c,0,none⟩)] w (fun e w'=>e= .returned (bK (Na (x,y) (z,t)))∧Below w.heap.size w w'):=by
 have h0':dA x y=true∧dA z t=true:=by simpa [okB] using h0
 obtain ⟨hk1,hk2,hk3⟩: -1000000000000000000≤x∧x≤y∧y≤1000000000000000000:=by simpa [dA] using h0'.1
 obtain ⟨hk4,hk5,hk6⟩: -1000000000000000000≤z∧z≤t∧t≤1000000000000000000:=by simpa [dA] using h0'.2
 have H:=zh (fun W=>Zf x y z t zo zo zo zo W);generalize Na (x,y) (z,t)=m at *;obtain ⟨⟨m1,m2⟩,m3⟩:=m;unfold bK at *;simp only at *;have cb:=h.cell;have lb:=h.lt;have cc:=k.cell;have lc:=k.lt;clear h k h0 h0' hk1 hk2 hk3 hk4 hk5 hk6;go_enter Tryz.func99,Tryz.ntmps99
 go_wp2_with fail
 refine (H.out _).mono ?_;rintro e w1 ⟨rfl,hb1⟩;have hx:=ah.later (ah.new w #[.int .i64 0,.int .i64 0] 40) hb1;have cx:=hx.cell;have fx:=hx.free;have lx:=hx.lt;have hw:=Bt (show Below w.heap.size w (w.alloc (.cells #[.int .i64 0,.int .i64 0] 40)) from au) hb1;go_wp2_with fail
 refine aM rfl rfl aJ Tryz.underlying40 rfl zk ?_;exact ⟨rfl,au⟩
theorem qP (x y z t:Int) (w:World):Calls Tryz.prog 31 #[.agg #[.int .i64 x,.int .i64 y],.agg #[.int .i64 z,.int .i64 t]] w (fun e w'=>e= .returned (bK (Ai (x,y) (z,t)))∧Below w.heap.size w w'):=by
 have H:Hid (∀ W b c d,ah W b #[.int .i64 x,.int .i64 y] 40→ah W c #[.int .i64 z,.int .i64 t] 40→ah W d #[.int .i64 x,.int .i64 y,.int .i64 z,.int .i64 t] 40→Calls Tryz.prog 97 #[.func (.func 99) #[] #[.pointer (some ⟨b,0,none⟩),.pointer (some ⟨c,0,none⟩)],.slice (some ⟨d,0,none⟩) 2 2] W (fun e w'=>e= .returned (bK (Ai (x,y) (z,t)))∧Below W.heap.size W w')):=zh fun W b c d h1 h2 h3 =>
  kW 99 #[.pointer (some ⟨b,0,none⟩),.pointer (some ⟨c,0,none⟩)] _ _ _ _ W (Bq.two h3) (fun h W' hW'=>aD2 x y z t h b c W' (h1.later hW') (h2.later hW')) (fun args W=>by rfl)
 generalize Ai (x,y) (z,t)=m at *;obtain ⟨⟨m1,m2⟩,m3⟩:=m;unfold bK at *;simp only at *;go_enter Tryz.func31,Tryz.ntmps31
 go_wp2_with fail
 obtain ⟨wx,EW,hz,X,Y,R,Z⟩:=al4 w #[.int .i64 x,.int .i64 y] 40 #[.int .i64 z,.int .i64 t] 40 #[.int .i64 0,.int .i64 0] 40 #[.int .i64 x,.int .i64 y,.int .i64 z,.int .i64 t] 40;rw [EW];clear EW;have HB:=zh hz;clear hz;refine (H.out _ _ _ _ X.out Y.out Z.out).mono ?_;rintro e w1 ⟨rfl,hb1⟩;replace R:=R.bl hb1;replace HB:=zh (Bt HB.out hb1);clear hb1 H;have hx:=R.out;have cx:=hx.cell;have fx:=hx.free;have lx:=hx.lt;have hw:=HB.out;go_wp2_with fail
 refine aM rfl rfl aJ Tryz.underlying40 rfl zk ?_;exact ⟨rfl,au⟩
def iV (N:Int) (d:Nat):Int:=(2*N+d) / (2*(d:Int))
theorem Qp (N:Int) {d:Nat} (hd:0<d):iV N d*(2*(d:Int))≤2*N+d∧2*N+d<(iV N d+1)*(2*(d:Int)):=by
 unfold iV;refine ⟨Int.ediv_mul_le _ zo,?_⟩;have:=Int.lt_ediv_add_one_mul_self (2*N+(d:Int)) (b:=2*(d:Int)) zo;exact this
theorem Gw {N n:Int} {d:Nat} (hd:0<d) (h1:n*(d:Int)≤N) (h2:N<(n+1)*(d:Int)):qZ N d false=n:=by
 unfold qZ;rw [if_neg zi];refine Int.le_antisymm ?_ ((Int.le_ediv_iff_mul_le zo).2 h1);have:=(Int.ediv_lt_iff_lt_mul (c:=(d:Int)) zo).2 h2;omega
theorem Ub {N n:Int} {d:Nat} (hd:0<d) (h1:(n - 1)*(d:Int)<N) (h2:N≤n*(d:Int)):qZ N d true=n:=by
 unfold qZ;rw [if_pos rfl]
 have: -N / (d:Int)= -n:=by
  refine Int.le_antisymm ?_ ((Int.le_ediv_iff_mul_le zo).2 (by rw [Int.neg_mul];omega))
  have:=(Int.ediv_lt_iff_lt_mul (a:= -N) (b:= -n+1) (c:=(d:Int)) zo).2 (by
   have e:(-n+1)*(d:Int)= -((n - 1)*(d:Int)):=by rw [← Int.neg_mul];congr 1;omega
   rw [e];omega)
  omega
 omega
def arE (N:Int) (d:Nat):(Int × Int) × Int :=
 if -9223372036854775808≤iV N d∧iV N d<9223372036854775808 then
  (if dA (iV N d) (iV N d) then dI (iV N d+(if N<iV N d*d then -1 else 0)) (iV N d+(if iV N d*d<N then 1 else 0)) else ((0,0),6))
 else ((0,0),6)
theorem aQ6 (N:Int) {d:Nat} (hd:0<d):arE N d=dI (qZ N d false) (qZ N d true):=by
 obtain ⟨h1,h2⟩:=Qp N hd;have m1:iV N d*(2*(d:Int))=2*(iV N d*(d:Int)):=by rw [← Int.mul_assoc,Int.mul_comm (iV N d) 2,Int.mul_assoc]
 have m2:(iV N d+1)*(2*(d:Int))=2*(iV N d*(d:Int))+2*(d:Int):=by rw [Int.add_mul,m1,Int.one_mul]
 rw [m1] at h1;rw [m2] at h2;unfold arE;generalize iV N d=n at *;have e1:(n+1)*(d:Int)=n*(d:Int)+d:=by rw [Int.add_mul,Int.one_mul]
 have e2:(n - 1)*(d:Int)=n*(d:Int) - d:=by rw [Int.sub_mul,Int.one_mul]
 have e3:(n - 1+1)*(d:Int)=n*(d:Int):=by congr 1;omega
 have e4:(n+1 - 1)*(d:Int)=n*(d:Int):=by congr 1;omega
 have key:∃ lo hi,qZ N d false=lo∧qZ N d true=hi∧lo=n+(if N<n*(d:Int) then -1 else 0)∧hi=n+(if n*(d:Int)<N then 1 else 0):=by
  rcases Int.lt_trichotomy N (n*(d:Int)) with c|c|c
  ·refine ⟨n - 1,n,Gw hd zo zo,Ub hd zo zo,by rw [if_pos c];omega,by rw [if_neg zo];omega⟩
  ·refine ⟨n,n,Gw hd zo zo,Ub hd zo zo,by rw [if_neg zo];omega,by rw [if_neg zo];omega⟩
  ·refine ⟨n,n+1,Gw hd zo zo,Ub hd zo zo,by rw [if_neg zo];omega,by rw [if_pos c]⟩
 obtain ⟨lo,hi,k1,k2,k3,k4⟩:=key;rw [k1,k2,← k3,← k4];have hlo:lo=n∨lo=n - 1:=by rw [k3];split<;>omega
 have hhi:hi=n∨hi=n+1:=by rw [k4];split<;>omega
 have hor:lo=n∨hi=n:=by
  rw [k3,k4]
  by_cases c:N<n*(d:Int)
  ·right;rw [if_neg zo];omega
  ·left;rw [if_neg c];omega
 by_cases c1: -9223372036854775808≤n∧n<9223372036854775808
 ·rw [if_pos c1];cases hb:dA n n
  ·rw [if_neg zi];unfold dI;rw [if_neg];intro h;unfold dA at hb h;simp only [Bool.and_eq_true,decide_eq_true_eq,Bool.and_eq_false_iff,decide_eq_false_iff_not] at hb h;omega
  ·rw [if_pos rfl]
 ·rw [if_neg c1];unfold dI;rw [if_neg];intro h;unfold dA at h;simp only [Bool.and_eq_true,decide_eq_true_eq] at h;omega
end Go.Proofs.aL
namespace Go.eF
open Go Go.Num
theorem Hw (q:Rat) (E:Nat):q*((E:Nat):Rat)*((q.den:Nat):Rat)=((q.num*(E:Int):Int):Rat):=by
 have h:q*((q.den:Nat):Rat)=((q.num:Int):Rat):=by
  have h1:((q.num:Int):Rat) / ((q.den:Nat):Rat)=q:=by
   have:=Rat.mkRat_eq_div q.num q.den;rw [← this,Rat.mkRat_self]
  have h2:((q.den:Nat):Rat)≠0:=by have:=q.den_nz;exact_mod_cast this
  generalize ((q.den:Nat):Rat)=d at *;generalize ((q.num:Int):Rat)=m at *
  grind
 rw [Rat.intCast_mul,← h,Rat.intCast_natCast]
 grind
theorem ai6 (q:Rat) (n:Int) {E:Nat} (hE:0<E):q<(n:Rat) / ((E:Nat):Rat)↔q.num*(E:Int)<n*(q.den:Int):=by
 have hEq:(0:Rat)<((E:Nat):Rat):=by exact_mod_cast hE
 have hd:(0:Rat)<((q.den:Nat):Rat):=by exact_mod_cast q.den_pos
 rw [Rat.lt_div_iff hEq,← Rat.mul_lt_mul_right hd,Hw,← Rat.intCast_natCast,← Rat.intCast_mul,Rat.intCast_lt_intCast]
theorem ad3 (q:Rat) (n:Int) {E:Nat} (hE:0<E):(n:Rat) / ((E:Nat):Rat)<q↔n*(q.den:Int)<q.num*(E:Int):=by
 have hEq:(0:Rat)<((E:Nat):Rat):=by exact_mod_cast hE
 have hd:(0:Rat)<((q.den:Nat):Rat):=by exact_mod_cast q.den_pos
 rw [Rat.div_lt_iff hEq,← Rat.mul_lt_mul_right hd,Hw,← Rat.intCast_natCast,← Rat.intCast_mul,Rat.intCast_lt_intCast]
theorem aa3 (q:Rat) (n:Int) {E:Nat} (hE:0<E):jA q ((n:Rat) / ((E:Nat):Rat))=if q.num*(E:Int)<n*(q.den:Int) then -1 else if n*(q.den:Int)<q.num*(E:Int) then 1 else 0:=by
 unfold jA;simp only [ai6 q n hE,ad3 q n hE]
end Go.eF
namespace Go.Proofs.aL
open Go Go.RowKit Go.SW Go.Num Go.Mem Go.Proofs Go.eF
def jH (a b:Int × Int):(Int × Int) × Int:=if okB [a,b] then dI (a.1+b.1) (a.2+b.2) else ((0,0),30)
theorem aE4 (x y z t:Int) (h0:okB [(x,y),(z,t)]=true) (b c:Nat) (w:World) (h:ah w b #[.int .i64 x,.int .i64 y] 40) (k:ah w c #[.int .i64 z,.int .i64 t] 40) :
  Calls Tryz.prog 98 #[.pointer (some ⟨b,0,none⟩),.pointer (some ⟨c,0,none⟩)] w (fun e w'=>e= .returned (bK (dI (x+z) (y+t)))∧Below w.heap.size w w'):=by
 have h0':dA x y=true∧dA z t=true:=by simpa [okB] using h0
 obtain ⟨hk1,hk2,hk3⟩: -1000000000000000000≤x∧x≤y∧y≤1000000000000000000:=by simpa [dA] using h0'.1
 obtain ⟨hk4,hk5,hk6⟩: -1000000000000000000≤z∧z≤t∧t≤1000000000000000000:=by simpa [dA] using h0'.2
 have H:=zh (fun W=>jf (x+z) (y+t) W);generalize dI (x+z) (y+t)=m at *;obtain ⟨⟨m1,m2⟩,m3⟩:=m;unfold bK at *;simp only at *;have cb:=h.cell;have lb:=h.lt;have cc:=k.cell;have lc:=k.lt;clear h k h0 h0';go_enter Tryz.func98,Tryz.ntmps98
 go_wp2_with fail
 refine (H.out _).mono ?_;rintro e w1 ⟨rfl,hb1⟩;have hx:=ah.later (ah.new w #[.int .i64 0,.int .i64 0] 40) hb1;have cx:=hx.cell;have fx:=hx.free;have lx:=hx.lt;have hw:=Bt (show Below w.heap.size w (w.alloc (.cells #[.int .i64 0,.int .i64 0] 40)) from au) hb1;go_wp2_with fail
 refine aM rfl rfl aJ Tryz.underlying40 rfl zk ?_;exact ⟨rfl,au⟩
theorem qV (x y z t:Int) (w:World):Calls Tryz.prog 30 #[.agg #[.int .i64 x,.int .i64 y],.agg #[.int .i64 z,.int .i64 t]] w (fun e w'=>e= .returned (bK (jH (x,y) (z,t)))∧Below w.heap.size w w'):=by
 have H:Hid (∀ W b c d,ah W b #[.int .i64 x,.int .i64 y] 40→ah W c #[.int .i64 z,.int .i64 t] 40→ah W d #[.int .i64 x,.int .i64 y,.int .i64 z,.int .i64 t] 40→Calls Tryz.prog 97 #[.func (.func 98) #[] #[.pointer (some ⟨b,0,none⟩),.pointer (some ⟨c,0,none⟩)],.slice (some ⟨d,0,none⟩) 2 2] W (fun e w'=>e= .returned (bK (jH (x,y) (z,t)))∧Below W.heap.size W w')):=zh fun W b c d h1 h2 h3 =>
  kW 98 #[.pointer (some ⟨b,0,none⟩),.pointer (some ⟨c,0,none⟩)] _ _ _ _ W (Bq.two h3) (fun h W' hW'=>aE4 x y z t h b c W' (h1.later hW') (h2.later hW')) (fun args W=>by rfl)
 generalize jH (x,y) (z,t)=m at *;obtain ⟨⟨m1,m2⟩,m3⟩:=m;unfold bK at *;simp only at *;go_enter Tryz.func30,Tryz.ntmps30
 go_wp2_with fail
 obtain ⟨wx,EW,hz,X,Y,R,Z⟩:=al4 w #[.int .i64 x,.int .i64 y] 40 #[.int .i64 z,.int .i64 t] 40 #[.int .i64 0,.int .i64 0] 40 #[.int .i64 x,.int .i64 y,.int .i64 z,.int .i64 t] 40;rw [EW];clear EW;have HB:=zh hz;clear hz;refine (H.out _ _ _ _ X.out Y.out Z.out).mono ?_;rintro e w1 ⟨rfl,hb1⟩;replace R:=R.bl hb1;replace HB:=zh (Bt HB.out hb1);clear hb1 H;have hx:=R.out;have cx:=hx.cell;have fx:=hx.free;have lx:=hx.lt;have hw:=HB.out;go_wp2_with fail
 refine aM rfl rfl aJ Tryz.underlying40 rfl zk ?_;exact ⟨rfl,au⟩
end Go.Proofs.aL
namespace Go.eF
open Go Go.RowKit Go.Num Go.Mem
def Frs (w:World) (T:TypeId) (v:Value) (l:List Fr):Prop :=
 ∃ a cap,v= .slice a l.length cap∧l.length≤cap∧cap≤9223372036854775807∧(a=none→cap=0) ∧
  ∀ ad,a=some ad→ad.spot=none∧∃ arr,ah w ad.block arr T∧∀ i (h:i<l.length),arr[ad.off+i*2]? =some (.string l[i].n)∧arr[ad.off+i*2+1]? =some (.string l[i].d)
theorem Frs.later {w w':World} {T:TypeId} {v:Value} {l:List Fr} (h:Frs w T v l) (hb:Below w.heap.size w w'):Frs w' T v l:=by
 obtain ⟨a,cap,h1,h2,h3,h4,h5⟩:=h;refine ⟨a,cap,h1,h2,h3,h4,fun ad had=>?_⟩;obtain ⟨h6,arr,h7,h8⟩:=h5 ad had;exact ⟨h6,arr,h7.later hb,h8⟩
theorem Frs.read {w:World} {T:TypeId} {v:Value} {l:List Fr} (h:Frs w T v l) :
  ∃ a cap,v= .slice a l.length cap∧l.length≤cap∧cap≤9223372036854775807∧∀ k (_:k<l.length),∃ b off,a=some ⟨b,off,none⟩∧b<w.heap.size∧w.cell? ⟨b,off+k*2,none⟩=some (.string l[k].n)∧w.cell? ⟨b,off+k*2+1,none⟩=some (.string l[k].d):=by
 obtain ⟨a,cap,h1,h2,h3,h4,h5⟩:=h;refine ⟨a,cap,h1,h2,h3,fun k hk=>?_⟩;cases a with
 | none=>have:=h4 rfl;omega
 | some ad =>
  obtain ⟨h6,arr,h7,h8⟩:=h5 ad rfl;obtain ⟨b,off,sp⟩:=ad;simp only at h6;subst h6;obtain ⟨h9,h10⟩:=h8 k hk;exact ⟨b,off,rfl,h7.lt,(h7.cell _).trans h9,(h7.cell _).trans h10⟩
def JX (l:List Fr):Int:=if l.all (fun a=>(rd a).isSome) then 0 else 20
theorem ao8 {a:Fr} (h:(rd a).isSome=true):Cn a=0:=by unfold Cn;rw [h];rfl
theorem aP2 {a:Fr} (h:(rd a).isSome=false):Cn a=20:=by unfold Cn;rw [h];rfl
def aR3 (w:World) (v:Value) (m:List (List Fr)):Prop :=
 ∃ rs:List Value,Row w 148 v rs∧rs.length=m.length∧∀ i (h:i<rs.length) (h':i<m.length),Frs w 32 rs[i] m[i]
theorem aR3.later {w w':World} {v:Value} {m:List (List Fr)} (h:aR3 w v m) (hb:Below w.heap.size w w'):aR3 w' v m:=by
 obtain ⟨rs,h1,h2,h3⟩:=h;exact ⟨rs,h1.later hb,h2,fun i h h'=>(h3 i h h').later hb⟩
end Go.eF
namespace Go.Proofs.aL
open Go Go.RowKit Go.SW Go.Num Go.Mem Go.Proofs Go.eF
def qY (a b:Int × Int):(Int × Int) × Int:=if okB [a,b] then dI (a.1 - b.2) (a.2 - b.1) else ((0,0),30)
theorem aC6 (x y z t:Int) (h0:okB [(x,y),(z,t)]=true) (b c:Nat) (w:World) (h:ah w b #[.int .i64 x,.int .i64 y] 40) (k:ah w c #[.int .i64 z,.int .i64 t] 40) :
  Calls Tryz.prog 129 #[.pointer (some ⟨b,0,none⟩),.pointer (some ⟨c,0,none⟩)] w (fun e w'=>e= .returned (bK (dI (x - t) (y - z)))∧Below w.heap.size w w'):=by
 have h0':dA x y=true∧dA z t=true:=by simpa [okB] using h0
 obtain ⟨hk1,hk2,hk3⟩: -1000000000000000000≤x∧x≤y∧y≤1000000000000000000:=by simpa [dA] using h0'.1
 obtain ⟨hk4,hk5,hk6⟩: -1000000000000000000≤z∧z≤t∧t≤1000000000000000000:=by simpa [dA] using h0'.2
 have H:=zh (fun W=>jf (x - t) (y - z) W);generalize dI (x - t) (y - z)=m at *;obtain ⟨⟨m1,m2⟩,m3⟩:=m;unfold bK at *;simp only at *;have cb:=h.cell;have lb:=h.lt;have cc:=k.cell;have lc:=k.lt;clear h k h0 h0';go_enter Tryz.func129,Tryz.ntmps129
 go_wp2_with fail
 refine (H.out _).mono ?_;rintro e w1 ⟨rfl,hb1⟩;have hx:=ah.later (ah.new w #[.int .i64 0,.int .i64 0] 40) hb1;have cx:=hx.cell;have fx:=hx.free;have lx:=hx.lt;have hw:=Bt (show Below w.heap.size w (w.alloc (.cells #[.int .i64 0,.int .i64 0] 40)) from au) hb1;go_wp2_with fail
 refine aM rfl rfl aJ Tryz.underlying40 rfl zk ?_;exact ⟨rfl,au⟩
theorem vE (x y z t:Int) (w:World):Calls Tryz.prog 50 #[.agg #[.int .i64 x,.int .i64 y],.agg #[.int .i64 z,.int .i64 t]] w (fun e w'=>e= .returned (bK (qY (x,y) (z,t)))∧Below w.heap.size w w'):=by
 have H:Hid (∀ W b c d,ah W b #[.int .i64 x,.int .i64 y] 40→ah W c #[.int .i64 z,.int .i64 t] 40→ah W d #[.int .i64 x,.int .i64 y,.int .i64 z,.int .i64 t] 40→Calls Tryz.prog 97 #[.func (.func 129) #[] #[.pointer (some ⟨b,0,none⟩),.pointer (some ⟨c,0,none⟩)],.slice (some ⟨d,0,none⟩) 2 2] W (fun e w'=>e= .returned (bK (qY (x,y) (z,t)))∧Below W.heap.size W w')):=zh fun W b c d h1 h2 h3 =>
  kW 129 #[.pointer (some ⟨b,0,none⟩),.pointer (some ⟨c,0,none⟩)] _ _ _ _ W (Bq.two h3) (fun h W' hW'=>aC6 x y z t h b c W' (h1.later hW') (h2.later hW')) (fun args W=>by rfl)
 generalize qY (x,y) (z,t)=m at *;obtain ⟨⟨m1,m2⟩,m3⟩:=m;unfold bK at *;simp only at *;go_enter Tryz.func50,Tryz.ntmps50
 go_wp2_with fail
 obtain ⟨wx,EW,hz,X,Y,R,Z⟩:=al4 w #[.int .i64 x,.int .i64 y] 40 #[.int .i64 z,.int .i64 t] 40 #[.int .i64 0,.int .i64 0] 40 #[.int .i64 x,.int .i64 y,.int .i64 z,.int .i64 t] 40;rw [EW];clear EW;have HB:=zh hz;clear hz;refine (H.out _ _ _ _ X.out Y.out Z.out).mono ?_;rintro e w1 ⟨rfl,hb1⟩;replace R:=R.bl hb1;replace HB:=zh (Bt HB.out hb1);clear hb1 H;have hx:=R.out;have cx:=hx.cell;have fx:=hx.free;have lx:=hx.lt;have hw:=HB.out;go_wp2_with fail
 refine aM rfl rfl aJ Tryz.underlying40 rfl zk ?_;exact ⟨rfl,au⟩
end Go.Proofs.aL
namespace Go.Num
def irt (k:Nat):Nat→Nat→Nat
 | 0,_=>0
 | f+1,n=>if (2*irt k f (n / 2^k)+1)^k≤n then 2*irt k f (n / 2^k)+1 else 2*irt k f (n / 2^k)
def dX (k n:Nat):Nat:=irt k (n.log2 / k+1) n
theorem Qy {k:Nat} (hk:0<k):∀ f n,n<2^(k*f)→irt k f n^k≤n∧n<(irt k f n+1)^k
 | 0,n,h=>by
  have:n=0:=by simpa using h
  subst this;refine ⟨?_,?_⟩
  ·show 0^k≤0
   rw [Nat.zero_pow hk];omega
  ·show 0<(0+1)^k
   simp
 | f+1,n,h=>by
  have hp:0<2^k:=Nat.pow_pos zo
  have h1:n / 2^k<2^(k*f):=by
   rw [Nat.div_lt_iff_lt_mul hp,← Nat.pow_add];rw [Nat.mul_add] at h
   simpa using h
  obtain ⟨a,b⟩:=Qy hk f _ h1;unfold irt;generalize irt k f (n / 2^k)=r at *
  have e:(2*r)^k≤n:=by
   rw [Nat.mul_pow];have:=Nat.mul_le_mul_left (2^k) a;have:=Nat.mul_div_le n (2^k);omega
  have e2:n<(2*r+1+1)^k:=by
   have h2:n<2^k*(n / 2^k+1):=by
    have:=Nat.lt_mul_div_succ n hp;exact this
   have h3:=Nat.mul_le_mul_left (2^k) b;rw [show 2*r+1+1=2*(r+1) by omega,Nat.mul_pow];exact Nat.lt_of_lt_of_le h2 h3
  split
  ·rename_i h4;exact ⟨h4,e2⟩
  ·rename_i h4;exact ⟨e,by omega⟩
theorem kR {k:Nat} (hk:0<k) (n:Nat):dX k n^k≤n∧n<(dX k n+1)^k:=by
 refine Qy hk _ _ ?_;refine Nat.lt_of_lt_of_le (Nat.lt_log2_self (n:=n)) (Nat.pow_le_pow_right zo ?_);have:=Nat.lt_mul_div_succ n.log2 hk;omega
theorem Qz {k n r:Nat} (hk:0<k) (h:n<(r+1)^k):dX k n≤r:=by
 obtain ⟨a,b⟩:=kR hk n
 have c:dX k n<r+1:=by
  refine Nat.lt_of_not_le fun h=>?_;have:=Nat.pow_le_pow_left h k;omega
 omega
theorem Aj {k n r:Nat} (hk:0<k) (h:r^k≤n):r≤dX k n:=by
 obtain ⟨a,b⟩:=kR hk n
 have c:r<dX k n+1:=by
  refine Nat.lt_of_not_le fun h=>?_;have:=Nat.pow_le_pow_left h k;omega
 omega
theorem aX4 (r x k:Nat):r^k*x+r*x^k≤x^(k+1)+r^(k+1):=by
 rw [Nat.pow_succ,Nat.pow_succ]
 rcases Nat.le_total r x with h|h
 ·have hk:=Nat.pow_le_pow_left h k;obtain ⟨d,rfl⟩:=Nat.exists_eq_add_of_le h;obtain ⟨e,he⟩:=Nat.exists_eq_add_of_le hk;rw [he];generalize r^k=a;have:(a+e)*(r+d)+a*r=a*(r+d)+r*(a+e)+e*d:=by grind
  omega
 ·have hk:=Nat.pow_le_pow_left h k;obtain ⟨d,rfl⟩:=Nat.exists_eq_add_of_le h;obtain ⟨e,he⟩:=Nat.exists_eq_add_of_le hk;rw [he];generalize x^k=a;have:a*x+(a+e)*(x+d)=(a+e)*x+(x+d)*a+e*d:=by grind
  omega
theorem means (r x:Nat):∀ k,(k+1)*r*x^k≤k*x^(k+1)+r^(k+1)
 | 0=>by simp
 | k+1=>by
  have ih:=Nat.mul_le_mul_right x (means r x k);have h:=aX4 r x (k+1);have e1:(k+1+1)*r*x^(k+1)=(k+1)*r*x^k*x+r*x^(k+1):=by rw [Nat.pow_succ];grind
  have e2:(k+1)*x^(k+1+1)=k*x^(k+1)*x+x^(k+1+1):=by rw [Nat.pow_succ x (k+1)];grind
  have e3:(k*x^(k+1)+r^(k+1))*x=k*x^(k+1)*x+r^(k+1)*x:=by rw [Nat.add_mul]
  omega
def UA (k m x:Nat):Nat:=(x*(k - 1)+m / x^(k - 1)) / k
theorem ay2 {k m x:Nat} (hk:0<k) (hx:0<x):dX k m≤UA k m x:=by
 obtain ⟨a, -⟩:=kR hk m;generalize dX k m=r at *;obtain ⟨j,rfl⟩:=Nat.exists_eq_add_of_le' hk;unfold UA;rw [Nat.add_sub_cancel];rw [Nat.le_div_iff_mul_le zo];replace a:r^(j+1)≤m:=a
 show r*(j+1)≤_
 have hm:=means r x j;have hp:0<x^j:=Nat.pow_pos hx
 have h1:r*(j+1) - x*j≤m / x^j:=by
  rw [Nat.le_div_iff_mul_le hp,Nat.sub_mul];have e1:(j+1)*r*x^j=r*(j+1)*x^j:=by rw [Nat.mul_comm (j+1)]
  have e2:j*x^(j+1)=x*j*x^j:=by rw [Nat.pow_succ];grind
  omega
 omega
theorem ai3 {k m x:Nat} (hk:0<k) (hx:0<x) (h1:dX k m≤x) (h2:x≤UA k m x):x=dX k m:=by
 obtain ⟨j,rfl⟩:=Nat.exists_eq_add_of_le' hk;unfold UA at h2;rw [Nat.add_sub_cancel] at h2;rw [Nat.le_div_iff_mul_le zo] at h2;have hp:0<x^j:=Nat.pow_pos hx;have h3:x≤m / x^j:=by rw [Nat.mul_succ] at h2;omega
 rw [Nat.le_div_iff_mul_le hp] at h3;have h4:x^(j+1)≤m:=by rw [Nat.pow_succ,Nat.mul_comm];exact h3
 have:=Aj hk h4;omega
theorem Uz {k m l:Nat} (hk:0<k) (h:m<10^l):dX k m≤10^(l / k+1):=by
 refine Qz hk ?_;have h1:(10^(l / k+1))^k≤(10^(l / k+1)+1)^k:=Nat.pow_le_pow_left zo k;rw [← Nat.pow_mul] at h1
 have h2:10^l≤10^((l / k+1)*k):=Nat.pow_le_pow_right zo (by
  have:=Nat.lt_mul_div_succ l hk;rw [Nat.mul_comm];omega)
 omega
end Go.Num
namespace Go.Num
def jr (n p q:Nat):Nat:=n^p*10^(12*q) / 10^(12*p)
def oJ (n p q:Nat):Nat:=dX q (jr n p q)
def SV (n p q:Nat):Bool:=decide (oJ n p q^q*10^(12*p)=n^p*10^(12*q))
def phi (n p q:Nat):Nat:=if SV n p q then oJ n p q else oJ n p q+1
theorem pG (k:Nat):0<10^k:=Nat.pow_pos zo
theorem Qc {n p q:Nat} (h:p≤q):jr n p q=n^p*10^(12*(q - p)):=by
 unfold jr;rw [show 12*q=12*(q - p)+12*p by omega,Nat.pow_add,← Nat.mul_assoc,Nat.mul_div_cancel _ (pG _)]
theorem Qd {n p q:Nat} (h:q≤p):jr n p q=n^p / 10^(12*(p - q)):=by
 unfold jr;rw [show 12*p=12*(p - q)+12*q by omega,Nat.pow_add,Nat.mul_div_mul_right _ _ (pG _)]
theorem Ik {n p q x:Nat}:x≤jr n p q↔x*10^(12*p)≤n^p*10^(12*q):=by
 unfold jr;exact Nat.le_div_iff_mul_le (pG _)
theorem tK {q:Nat} (hq:0<q) (n p:Nat):oJ n p q^q*10^(12*p)≤n^p*10^(12*q)∧n^p*10^(12*q)<(oJ n p q+1)^q*10^(12*p):=by
 obtain ⟨h1,h2⟩:=kR hq (jr n p q);refine ⟨Ik.1 h1,?_⟩;rw [← Nat.not_le];exact fun h=>absurd (Ik.2 h) (Nat.not_le.2 h2)
theorem Nv {n p q r:Nat} (hq:0<q) (h:r^q*10^(12*p)≤n^p*10^(12*q)):r≤oJ n p q:=Aj hq (Ik.2 h)
theorem Ul (n p q:Nat):oJ n p q≤phi n p q∧phi n p q≤oJ n p q+1:=by
 unfold phi;split<;>omega
theorem ah0 {q:Nat} (hq:0<q) (n p:Nat):n^p*10^(12*q)≤phi n p q^q*10^(12*p):=by
 unfold phi;split
 ·rename_i h;exact Nat.le_of_eq (of_decide_eq_true h).symm
 ·exact Nat.le_of_lt (tK hq n p).2
theorem Ae {a b q c:Nat} (h:a≤b):a^q*c≤b^q*c:=Nat.mul_le_mul_right _ (Nat.pow_le_pow_left h q)
theorem GJ {m n p q:Nat} (hq:0<q) (h:m≤n):oJ m p q≤oJ n p q:=Nv hq (Nat.le_trans (tK hq m p).1 (Ae h))
theorem au3 {B k:Nat} (h:B=10^k) (b:Nat):10^(k+b)=B*10^b:=by rw [h,Nat.pow_add]
theorem aw7 {n p q:Nat} (hq:0<q) (p36:p≤36) (OZ:q≤12) (h:10^600≤n^p):10^18<oJ n p q:=by
 obtain ⟨B,eB⟩:∃ B,B=10^600:=⟨_,rfl⟩;rw [← eB] at h;refine Nv hq ?_
 have h1:(10^18+1)^q≤2^q*10^(18*q):=by
  rw [Nat.pow_mul,← Nat.mul_pow];exact Nat.pow_le_pow_left zd q
 have h2:2^q≤2^12:=Nat.pow_le_pow_right zo OZ;have h3:2^12≤10^4:=by decide
 have h4:(10^18+1)^q≤10^(4+18*q):=by
  rw [Nat.pow_add];exact Nat.le_trans h1 (Nat.mul_le_mul_right _ (Nat.le_trans h2 h3))
 calc (10^18+1)^q*10^(12*p)≤10^(4+18*q)*10^(12*p):=Nat.mul_le_mul_right _ h4
  _=10^(4+18*q+12*p):=(Nat.pow_add ..).symm
  _≤10^(600+12*q):=Nat.pow_le_pow_right zo zo
  _=B*10^(12*q):=au3 eB _
  _≤n^p*10^(12*q):=Nat.mul_le_mul_right _ h
theorem aK1 {n p q r:Nat} (hq:0<q):r^q*10^(12*p)≤n^p*10^(12*q)↔r≤oJ n p q :=
 ⟨Nv hq,fun h=>Nat.le_trans (Ae h) (tK hq n p).1⟩
end Go.Num
namespace Go.Num
theorem aI1 {n p q:Nat} (h:p≤q):SV n p q=decide (oJ n p q^q=jr n p q):=by
 unfold SV;rw [Qc h,show 12*q=12*(q - p)+12*p by omega,Nat.pow_add 10,← Nat.mul_assoc];exact decide_eq_decide.2 ⟨fun e=>Nat.eq_of_mul_eq_mul_right (pG _) e,fun e=>by rw [e]⟩
theorem aI2 {n p q:Nat} (hq:0<q) (h:q≤p):SV n p q=(decide (oJ n p q^q=jr n p q)&&decide (n^p%10^(12*(p - q))=0)):=by
 have hs:=(kR hq (jr n p q)).1;have hd:=Nat.div_add_mod (n^p) (10^(12*(p - q)));have hp:=pG (12*(p - q));unfold SV;rw [Bool.and_eq_decide];refine decide_eq_decide.2 ?_;rw [show 12*p=12*(p - q)+12*q by omega,Nat.pow_add 10,← Nat.mul_assoc];rw [← Qd h] at hd
 change oJ n p q^q≤jr n p q at hs
 simp only [decide_eq_true_eq]
 constructor
 ·intro e;have e:=Nat.eq_of_mul_eq_mul_right (pG _) e
  have h1:oJ n p q^q*10^(12*(p - q))≤10^(12*(p - q))*jr n p q:=by
   rw [Nat.mul_comm];exact Nat.mul_le_mul_left _ hs
  refine ⟨?_,by omega⟩;refine Nat.eq_of_mul_eq_mul_right hp ?_;rw [Nat.mul_comm (jr n p q)];omega
 ·rintro ⟨e1,e2⟩;rw [e1,← hd,e2,Nat.add_zero,Nat.mul_comm (jr n p q)]
theorem ap7 {q x:Nat} (hq:0<q) (OZ:q≤12) (h:10^600≤x):10^18<dX q x:=by
 refine Aj hq (Nat.le_trans ?_ h);have h1:(10^18+1)^q≤(10^18+1)^12:=Nat.pow_le_pow_right zo OZ;have h2:(10^18+1)^12≤10^600:=by decide+kernel
 exact Nat.le_trans h1 h2
def vK (n p q:Nat) (up:Bool):Int × Int:=if oJ n p q≤10^18 then (((if up then phi n p q else oJ n p q:Nat):Int),0) else (0,6)
theorem aA2 {n p q:Nat} {up:Bool} (h:oJ n p q≤10^18):vK n p q up=(((oJ n p q:Nat):Int)+(if (up&& !(SV n p q)) then 1 else 0),0):=by
 unfold vK phi;rw [if_pos h];cases up<;>cases SV n p q<;>simp
end Go.Num
namespace Go.Num
def uF (l:List Nat):Nat:=(l.map fun x=>x^2).sum
def nlo (l:List Nat):Nat:=dX 2 (uF l)
def nhi (l:List Nat):Nat:=if nlo l^2=uF l then nlo l else nlo l+1
theorem ae7 (x:Nat) (l:List Nat):uF (x::l)=x^2+uF l:=rfl
theorem Gm (a b:List Nat):uF (a++b)=uF a+uF b:=by
 unfold uF;rw [List.map_append,List.sum_append]
end Go.Num
namespace Go.Num
def Ph (b:Int × Int):Nat:=(max b.1 (max (-b.2) 0)).toNat
def Ou (b:Int × Int):Nat:=(max (-b.1) b.2).toNat
def BM (l:List Nat) (up:Bool):Int × Int:=if nlo l≤10^18 then (((if up then nhi l else nlo l:Nat):Int),0) else (0,6)
theorem ax9 {l:List Nat} {up:Bool} (h:nlo l≤10^18):BM l up=(((nlo l:Nat):Int)+(if (up&& !(decide (nlo l^2=uF l))) then 1 else 0),0):=by
 unfold BM nhi;rw [if_pos h]
 by_cases e:nlo l^2=uF l<;>cases up<;>simp [e]
end Go.Num
namespace Go.Proofs.power
open Go Go.RowKit Go.SW Go.Num Go.Mem Go.Proofs Go.Proofs.aL
def eok (p q:Int):Bool:=decide (1≤p)&&(decide (p≤36)&&(decide (1≤q)&&decide (q≤12)))
theorem kG (p q:Int) (w:World):Calls Tryz.prog 251 #[.agg #[.int .i64 p,.int .i64 q]] w (fun e w'=>e= .returned (.bool (eok p q))∧Below w.heap.size w w'):=by
 unfold eok;cases h1:decide (1≤p)<;>cases h2:decide (p≤36)<;>cases h3:decide (1≤q)<;>cases h4:decide (q≤12)
 all_goals
  go_enter Tryz.func251,Tryz.ntmps251
  go_wp2_with fail
  go_ret
  exact ⟨rfl,au⟩
def Zv (a b:Int × Int):Value:=if a.2≠0 then .tuple #[.agg #[.int .i64 0,.int .i64 0],.int .i64 a.2] else if b.2≠0 then .tuple #[.agg #[.int .i64 0,.int .i64 0],.int .i64 b.2] else
 if dA a.1 b.1 then .tuple #[.agg #[.int .i64 a.1,.int .i64 b.1],.int .i64 0] else .tuple #[.agg #[.int .i64 0,.int .i64 0],.int .i64 6]
theorem Us (lo hi:Int) (f:Value) (F:FuncId) (caps free:Array Value) (a b:Int × Int) (w:World) (hf:f= .func (.func F) caps free)
  (h1:∀ W,Below w.heap.size w W→Calls Tryz.prog F (caps++#[.int .i64 lo,.bool false]) W (fun e w'=>e= .returned (.tuple #[.int .i64 a.1,.int .i64 a.2])∧Below W.heap.size W w'))
  (h2:∀ W,Below w.heap.size w W→Calls Tryz.prog F (caps++#[.int .i64 hi,.bool true]) W (fun e w'=>e= .returned (.tuple #[.int .i64 b.1,.int .i64 b.2])∧Below W.heap.size W w')) (hfr:free=#[])
  (hen:∀ args W,(callFunc F args).run Tryz.prog W= .ok (.enter F args) W) :
  Calls Tryz.prog 252 #[.int .i64 lo,.int .i64 hi,f] w (fun e w'=>e= .returned (Zv a b)∧Below w.heap.size w w'):=by
 subst hf hfr;obtain ⟨a1,a2⟩:=a;obtain ⟨b1,b2⟩:=b;have H1:=zh h1;have H2:=zh h2;have HO:=zh (fun W=>nu a1 b1 W);unfold Zv;simp only;clear h1 h2;go_enter Tryz.func252,Tryz.ntmps252
 go_wp2_with fail
 refine (H1.out _ au).mono ?_;rintro e w1 ⟨rfl,hb1⟩;have hx:=ah.later (ah.new w #[.int .i64 0,.int .i64 0] 40) hb1;have HX:=zh hx;have HB1:=zh (Bt (show Below w.heap.size w (w.alloc (.cells #[.int .i64 0,.int .i64 0] 40)) from au) hb1);clear hx hb1
 by_cases ha:a2=0
 ·subst ha;go_wp2_with fail
  refine (H2.out _ HB1.out).mono ?_;rintro e w2 ⟨rfl,hb2⟩;replace HX:=zh (HX.out.later hb2);have HB2:=zh (Bt HB1.out hb2);clear hb2 HB1
  by_cases hb:b2=0
  ·subst hb;go_wp2_with fail
   refine (HO.out _).mono ?_;rintro e w3 ⟨rfl,hb3⟩;replace HX:=zh (HX.out.later hb3);have HB3:=zh (Bt HB2.out hb3);clear hb3 HB2;have hx:=HX.out;have cx:=hx.cell;have fx:=hx.free;have lx:=hx.lt;have hw:=HB3.out;cases hk:dA a1 b1
   all_goals
    go_wp2_with fail
    refine aM rfl rfl aJ Tryz.underlying40 rfl zk ?_;exact ⟨by first|rfl|(rw [if_neg (fun h=>h rfl),if_neg (fun h=>h rfl),hk];rfl),au⟩
  ·have g:(b2 == 0)=false:=beq_eq_false_iff_ne.2 hb;have hx:=HX.out;have cx:=hx.cell;have fx:=hx.free;have lx:=hx.lt;have hw:=HB2.out;go_wp2_with fail
   refine aM rfl rfl aJ Tryz.underlying40 rfl zk ?_;exact ⟨by first|rfl|(rw [if_neg (fun h=>h rfl),if_pos hb];rfl),au⟩
 ·have g:(a2 == 0)=false:=beq_eq_false_iff_ne.2 ha;have hx:=HX.out;have cx:=hx.cell;have fx:=hx.free;have lx:=hx.lt;have hw:=HB1.out;go_wp2_with fail
  refine aM rfl rfl aJ Tryz.underlying40 rfl zk ?_;exact ⟨by first|rfl|(rw [if_pos ha];rfl),au⟩
end Go.Proofs.power
namespace Go.Proofs
open Go Go.RowKit Go.SW Go.Num Go.Mem Go.eF
def aU {α β:Type} (z:β) (x:α × Int) (f:α→β × Int):β × Int:=if x.2=0 then f x.1 else (z,x.2)
def tJ {α:Type} (x:α):α × Int:=(x,0)
def dM {α:Type} (x:α × Int) (v:α) (k:Int):Prop:=x.2=k∧(k=0→x.1=v)
theorem dM.of {α:Type} {x:α × Int} {v:α} {k:Int} (h:x=(v,k)):dM x v k:=by subst h;exact ⟨rfl,fun _=>rfl⟩
theorem dM.cond_true {α:Type} {a b:α × Int} {v:α} {k:Int} (h:dM (cond true a b) v k):dM a v k:=h
theorem dM.cond_false {α:Type} {a b:α × Int} {v:α} {k:Int} (h:dM (cond false a b) v k):dM b v k:=h
theorem dM.pos {α:Type} {a b:α × Int} {v:α} {k:Int} {p:Prop} [Decidable p] (h:dM (if p then a else b) v k) (hp:p):dM a v k:=by rwa [if_pos hp] at h
theorem dM.neg {α:Type} {a b:α × Int} {v:α} {k:Int} {p:Prop} [Decidable p] (h:dM (if p then a else b) v k) (hp:¬ p):dM b v k:=by rwa [if_neg hp] at h
theorem aI {α β:Type} {z:β} {x:α × Int} {f:α→β × Int} {y:α} (h:x=(y,0)):aU z x f=f y:=by subst h;rfl
theorem aC0 {α β:Type} {z:β} {x:α × Int} {f:α→β × Int} (h:x.2≠0):aU z x f=(z,x.2):=if_neg h
theorem aG {α β:Type} {z:β} {x:α × Int} {f:α→β × Int} {r:β} {k:Int} (h:dM (aU z x f) r k):∃ y k1,x=(y,k1)∧((k1=0∧dM (f y) r k)∨(k1≠0∧k=k1)):=by
 obtain ⟨y,k1⟩:=x;refine ⟨y,k1,rfl,?_⟩
 by_cases h0:k1=0
 ·subst h0;exact .inl ⟨rfl,h⟩
 ·rw [aC0 (x:=(y,k1)) h0] at h;exact .inr ⟨h0,h.1.symm⟩
theorem iR {α:Type} {x:α × Int} {r:α} {k:Int} (h:dM x r k):∃ y k1,x=(y,k1)∧((k1=0∧dM (tJ y) r k)∨(k1≠0∧k=k1)):=by
 obtain ⟨y,k1⟩:=x;refine ⟨y,k1,rfl,?_⟩
 by_cases h0:k1=0
 ·subst h0;exact .inl ⟨rfl,h⟩
 ·exact .inr ⟨h0,h.1.symm⟩
def aq6 (T:Int→Ending) (w:World) (v:Value) (k:Int) (e:Ending) (w':World):Prop:=Below w.heap.size w w'∧((k=0∧e= .returned v)∨(k≠0∧e=T k))
def DK (w:World) (v z:Value) (k:Int) (e:Ending) (w':World):Prop:=Below w.heap.size w w'∧((k=0∧e= .returned (.tuple #[v,.int .i64 0]))∨(k≠0∧e= .returned (.tuple #[z,.int .i64 k])))
end Go.Proofs
namespace Go.Fx
open Go Go.RowKit Go.SW Go.Mem Go.Proofs
section
variable {P:Program} {n:Nat} {fn:Func} {T:Int→Ending} {w0:World} {V:Value} {k:Int} {p:Pos} {S:Sl} {L:Mm}
theorem zl {R:Post} {c:List PanicEntry} {w:World} (h:R (.panic c) S w):∀ ks:List Kt,Cont P n R ks (.panic c) S w
 | []=>h
 | x::ks=>by cases x<;>exact zl h ks
theorem aR (hT:∀ k,∃ c,T k= .panicked c) (hs:List Nat) (d:Nat) (St:Sl) (U:List (Nat × Array Value)) {f:FuncId} {args:Array Value} {v:Value} {k1:Int} {A:Prop} (hC:∀ w,Mem w0 [] (upd L U) w→Calls P f args w (aq6 T w v k1)) (hn:(k1=0∧A)∨(k1≠0∧k=k1))
  (hc:k1=0→A→G P n (Ends P n fn (aq6 T w0 V k)) w0 [] (tr 4000 hs p).2.past ((d,v)::(St++S)) (upd L U))
  (h:OL P n w0 (tr 4000 hs p).1 S L St (upd L U):=by intro _;kernel_rfl) (hx:∀ w,vB P n w (CJ P n w0 (tr 4000 hs p).1 S L) (tr 4000 hs p).2=some (d,f,args,w):=by intro _;kernel_rfl):G P n (Ends P n fn (aq6 T w0 V k)) w0 [] p S L:=by
 refine goF hs St _ h ?_;have hsub:=h.sub;have hh:=xL (hx w0);generalize CJ P n w0 (tr 4000 hs p).1 S L=F at hx hsub ⊢;generalize (tr 4000 hs p).2=q at hc hx hh;generalize upd L U=L at hC hc;generalize St++S=S at hc hsub;obtain ⟨ops,o,hn',hf,hw,hd,hlt, -⟩:=nP (h:=hx w0);refine place hn' hf hw (Y:=fun N H w a a' w1=>a'=a.put (some d) v∧Below w.heap.size w w1∧k1=0∧A) (fun w N H hM hok a ha K hK ks=>?_) fun w N H hM hok a a' w' ha hy=>?_
 ·obtain ⟨ops',o',hn2, -, -, -, -, hr⟩:=nP (h:=hx w);rw [hn'] at hn2;cases hn2
  unfold Oper.wp;rw [ha.exec hf,hr];simp only [Oper.upon];refine (hC w hM).mono fun e w' he=>?_;obtain ⟨hb,⟨h1,rfl⟩|⟨h1,rfl⟩⟩:=he
  ·rw [hd]
   rcases hn with ⟨-, hA⟩|⟨h2, -⟩
   ·exact hK _ _ ⟨rfl,hb,h1,hA⟩
   ·exact absurd h1 h2
  ·obtain ⟨c,hc'⟩:=hT k1
   rcases hn with ⟨h2, -⟩|⟨h2,h3⟩
   ·exact absurd h2 h1
   ·rw [hc'];refine ⟨ha.defers,F,zl ?_ ks⟩
    show aq6 T w0 V k (.panicked c) w'
    exact ⟨Bt hM.below hb,.inr ⟨by rw [h3];exact h1,by rw [h3,hc']⟩⟩
 ·obtain ⟨rfl,h1,h2,h3⟩:=hy;exact ⟨fun _ _ _ _ _ _=>.of h1,_,ha.put hlt v,((hc h2 h3).of (qx hsub d v) hh).out w' N H (hM.later h1) (Nj hok (fun _=>rfl) rfl)⟩
def Xq (P:Program) (w:World) (S:Sl) (p:Pos):Option (Value × World):=match p with
 | .reg ops (i:: _) _=>(match ops[i]? with
  | some o=>(match fit ops S o,Region.wanted o (yl ops S) with
   | true,true=>(match (execOp (ev S) o).run P w with
    | .halt (.panic v) w'=>some (v,w')
    | _=>none)
   | _,_=>none)
  | none=>none)
 | _=>none
theorem panics (m:Nat) (hs:List Nat) (U:List (Nat × Array Value)) {E:Ending→World→Prop} {v:Value} (hE:∀ w,Mem w0 [] (upd L U) w→E (.panicked [{ v,recovered:=false }]) w)
  (h:SF P n w0 (tr m hs p).1 S L (upd L U):=by intro _;kernel_rfl) (hx:∀ w,Xq P w (CJ P n w0 (tr m hs p).1 S L) (tr m hs p).2=some (v,w):=by intro _;kernel_rfl):G P n (Ends P n fn E) w0 [] p S L:=by
 refine goR hs _ h ?_;generalize CJ P n w0 (tr m hs p).1 S L=S at hx ⊢;generalize (tr m hs p).2=q at hx;generalize upd L U=L at hE;refine ⟨fun w N H hM hok=>?_⟩;have h1:=hx w;unfold Xq at h1;split at h1
 ·rename_i ops i is ks;split at h1
  ·rename_i o ho;split at h1
   ·rename_i hf hw;split at h1
    ·rename_i v' w' hr;cases h1
     intro a ha;unfold wpOps;simp only [ho,ha.wanted (oP hf)];rw [if_pos hw];refine .inl ?_;unfold Oper.wp;rw [ha.exec hf,hr];exact ⟨ha.defers,S,zl (hE w hM) ks⟩
    ·cases h1
   ·cases h1
  ·cases h1
 ·cases h1
end
end Go.Fx
namespace Go.Proofs.power
open Go Go.RowKit Go.Shelf Go.SW Go.Num Go.Mem Go.Proofs Go.Dec Go.eF Go.Proofs.aL
attribute [local go_sem] Oper.semAt_some
theorem aC3 {lo hi:Int} (h:dA lo hi=true):aq4 lo hi=((((Ph (lo,hi):Nat):Int),((Ou (lo,hi):Nat):Int)),0):=by
 obtain ⟨hk1,hk2,hk3⟩: -1000000000000000000≤lo∧lo≤hi∧hi≤1000000000000000000:=by simpa [dA] using h
 unfold aq4;rw [if_pos h]
 have e1:((Ph (lo,hi):Nat):Int)=max (max lo (-hi)) 0:=by
  unfold Ph;simp only;omega
 have e2:((Ou (lo,hi):Nat):Int)=max (-lo) hi:=by
  unfold Ou;simp only;omega
 rw [e1,e2];unfold dI;rw [if_pos];unfold dA;simp only [Bool.and_eq_true,decide_eq_true_eq];omega
theorem Vw {b:Int × Int} (h:dA b.1 b.2=true):Ph b≤Ou b∧Ou b≤10^18:=by
 obtain ⟨hk1,hk2,hk3⟩: -1000000000000000000≤b.1∧b.1≤b.2∧b.2≤1000000000000000000:=by simpa [dA] using h
 have h18:(10:Nat)^18=1000000000000000000:=by decide
 rw [h18];unfold Ph Ou;omega
theorem below_grown {W W':World} (h:Below W.heap.size W W'):W.grownBy W' none:=⟨h.os,h.tape,h.output,h.size,fun i hi _=>h.block i hi⟩
def aA3 (bs:List (Int × Int)) (k:Fin bs.length):Array Value:=#[.agg #[.int .i64 ((Ph bs[k.1]:Nat):Int),.int .i64 ((Ou bs[k.1]:Nat):Int)]]
def upto {n:Nat} (k:Nat) (h:k≤n):List (Fin n):=List.ofFn (n:=k) fun i=>⟨i.1,Nat.lt_of_lt_of_le i.2 h⟩
theorem tF {n k:Nat} (h:k+1≤n):upto (k+1) h=upto k zo++[⟨k,h⟩]:=by
 unfold upto;rw [List.ofFn_succ_last];rfl
theorem jK {n k:Nat} (h:k≤n):(upto k h).length=k:=by simp [upto]
theorem Kn (n:Nat) (hn:1≤n) (l Bs n₀:Nat) (bs:List (Int × Int)) (hok:okB bs=true) (a:Option Addr) (cap:Nat) (J Jx:List (Fin bs.length)→World→Prop) (B₀:Nat) (hJ0:AbidesFrom B₀ J)
  (hY:∀ pre x W,J pre W→pre.length<bs.length→YieldAt Fence.wide (n - 1) Tryz.prog l (aA3 bs x) W fun en W' =>
   (en= .returned (.bool true)∧J (pre++[x]) W'∧Below n₀ W W')∨(en= .returned (.bool false)∧Jx (pre++[x]) W'))
  (W:World) (hn₀:n₀≤W.heap.size) (hBs:W.cell? ⟨Bs,0,none⟩=some (.slice a bs.length cap)) (hlen:bs.length≤9223372036854775807)
  (hread:∀ k (_:k<bs.length),∃ b off,a=some ⟨b,off,none⟩∧b<n₀∧W.cell? ⟨b,off+k*2,none⟩=some (.int .i64 bs[k].1)∧W.cell? ⟨b,off+k*2+1,none⟩=some (.int .i64 bs[k].2)) (h0:J [] W) :
  CallsIn Fence.wide n Tryz.prog 230 #[.func (.yield l) #[] #[],.pointer (some ⟨Bs,0,none⟩)] W fun en W'=>(∃ v,en= .returned v) ∧
   ((∃ ys,ys=upto bs.length (Nat.le_refl _)∧J ys W')∨(∃ pre,True∧Jx pre W')):=by
 have HR:=zh hread;have HY:=zh hY;have HJ:=zh hJ0;clear hread hY hJ0;refine callsIn_of_wp Tryz.func230 rfl trivial ?_ rfl;simp only [Tryz.ntmps230,List.size_toArray,List.length_cons,List.length_nil,Nat.reduceAdd,Nat.reduceSub,Array.replicate_succ,Array.replicate_zero,List.push_toArray,List.append_toArray,List.nil_append,List.cons_append]
 gi_wp2
 gi_loopw [9] (fun i wr=>∃ (k:Nat) (hk:k≤bs.length),i= .int .i64 k∧J (upto k hk) wr∧Below n₀ W wr)
  (fun i _=>bs.length - (intOf i).toNat)
 case atStart=>exact ⟨0,Nat.zero_le _,rfl,h0,Below.refl _ _⟩
 case round =>
  obtain ⟨k,hk,rfl,hJs,hnx⟩:=hrel
  by_cases hlt:k<bs.length
  ·obtain ⟨b,off,rfl,hbl,hx1,hx2⟩:=HR.out k hlt;have hc1:=(hnx.cell (p:=⟨b,off+k*2,none⟩) hbl).trans hx1;have hc2:=(hnx.cell (p:=⟨b,off+k*2+1,none⟩) hbl).trans hx2;clear hx1 hx2
   have hv:dA bs[k].1 bs[k].2=true:=by
    unfold okB at hok;exact List.all_eq_true.1 hok _ (List.getElem_mem hlt)
   have HA:=zh (fun W=>as6 bs[k].1 bs[k].2 W);rw [aC3 hv] at HA;have HYK:=zh (fun W1 hJ1=>HY.out (upto k hk) ⟨k,hlt⟩ W1 hJ1 (by rw [jK];exact hlt));unfold aA3 at HYK;unfold bK at HA;simp only at HA HYK;have e0:bs[k]=(bs[k].1,bs[k].2):=rfl;rw [← e0] at HA;have HB:=zh hbl;clear hv e0 hbl;generalize bs[k].1=y1 at *;generalize bs[k].2=y2 at *;generalize ((Ph bs[k]:Nat):Int)=z1 at *;generalize ((Ou bs[k]:Nat):Int)=z2 at *
   gi_wp2_with (refine ⟨trivial,?_⟩;gi_at_call 94;refine (callsIn_wide.2 (HA.out _)).mono ?_;rintro e w1 ⟨rfl,hc3⟩;have hJ1:J (upto k hk) (w1.alloc (.cells #[.int .i64 z1,.int .i64 z2] 40)):=HJ.out _ _ _ none (HJ.out _ _ _ none (HJ.out _ _ _ none hJs (World.grownBy_alloc _ _ none) (fun r e=>by cases e)) (below_grown hc3) (fun r e=>by cases e)) (World.grownBy_alloc _ _ none) (fun r e=>by cases e);have hB1:Below n₀ W (w1.alloc (.cells #[.int .i64 z1,.int .i64 z2] 40)):=((hnx.alloc (Nat.le_trans hn₀ hnx.size) _).trans (hc3.mono (Nat.le_trans hn₀ (Nat.le_trans hnx.size zi)))).alloc (Nat.le_trans hn₀ (Nat.le_trans hnx.size (Nat.le_trans zi hc3.size))) _;obtain ⟨fn,tmps,assign,body,hy,hR⟩:=HYK.out _ hJ1;have hy2:(Instr.yield l #[Value.agg #[Value.int IntKind.i64 z1,Value.int IntKind.i64 z2]]).run Tryz.prog (w1.alloc (.cells #[.int .i64 z1,.int .i64 z2] 40))=_:=hy;clear hy)
   refine hR.mono ?_;rintro e W3 (⟨rfl,hJ3,hk3⟩|⟨rfl,hJx3⟩)
   ·gi_wp2
    go_roundw
    case rel=>exact ⟨k+1,hlt,by simp,by rw [tF];exact hJ3,hB1.trans hk3⟩
    case measure=>exact zM
   ·gi_wp2
    refine bodyPost_ret (results_none rfl _ _ _) rfl ?_;exact ⟨⟨_,rfl⟩,.inr ⟨_,trivial,hJx3⟩⟩
  ·obtain rfl:k=bs.length:=by omega
   have hge:¬ bs.length<bs.length:=by omega
   have bm2:decide ((bs.length:Int)<(bs.length:Int))=false:=by simp
   gi_wp2
   go_end0
   exact ⟨⟨_,rfl⟩,.inl ⟨_,rfl,hJs⟩⟩
theorem Ov (n:Nat) (a:Option Addr) (len cap:Nat) (w:World) :
  CallsIn Fence.wide n Tryz.prog 153 #[.slice a len cap] w fun e w'=>e= .returned (.func (.func 230) #[] #[.pointer (some ⟨w.heap.size,0,none⟩)])∧w'=w.alloc (.cells #[.slice a len cap] 122):=by
 refine callsIn_of_wp Tryz.func153 rfl trivial ?_ rfl;simp only [Tryz.ntmps153,List.size_toArray,List.length_cons,List.length_nil,Nat.reduceAdd,Nat.reduceSub,Array.replicate_succ,Array.replicate_zero,List.push_toArray,List.append_toArray,List.nil_append,List.cons_append]
 gi_wp2
 go_ret
 exact ⟨rfl,rfl⟩
theorem DJ (n:Nat) (hn:1≤n) (Bs n₀:Nat) (sv:Value) (T:TypeId) (bs:List (Int × Int)) (hok:okB bs=true) (w0 w:World) (hBs:Bs<w.heap.size) (hn₀:n₀≤w.heap.size)
  (hc:w.cell? ⟨Bs,0,none⟩=some sv) (hR:Bq w0 T sv bs) (h0:w0.heap.size≤n₀) (hb:Below w0.heap.size w0 w) :
  SeqStopsK Fence.wide n Tryz.prog 230 #[.pointer (some ⟨Bs,0,none⟩)] (aA3 bs) (Below n₀) (fun ys=>ys=upto bs.length (Nat.le_refl _)) (fun _=>True) bs.length w:=fun l J Jx W hW hJ _ hY hJ0=>by
 obtain ⟨a,cap,rfl,h1,h2,h3⟩:=hR.read;have hc':=(hW.cell (p:=⟨Bs,0,none⟩) hBs).trans hc;have hB:=hb.trans (hW.mono (Nat.le_trans h0 hn₀));refine Kn n hn l Bs n₀ bs hok a cap J Jx _ hJ hY W (Nat.le_trans hn₀ hW.size) hc' zo (fun k hk=>?_) hJ0;obtain ⟨b,off,h4,h5,h6,h7⟩:=h3 k hk;exact ⟨b,off,h4,Nat.lt_of_lt_of_le h5 h0,(hB.cell (p:=⟨b,_,none⟩) h5).trans h6,(hB.cell (p:=⟨b,_,none⟩) h5).trans h7⟩
end Go.Proofs.power
namespace Go.Proofs
open Go Go.RowKit Go.SW Go.Num Go.Mem
theorem Zi (w:World) (a1 a2 a3 a4 a5 a6 b1 b2 b3 b4 b5 b6:ByteArray) :
  (Op.equalIn 10000 34 (.agg #[.string a1,.string a2,.string a3,.string a4,.string a5,.string a6]) (.agg #[.string b1,.string b2,.string b3,.string b4,.string b5,.string b6])).run Tryz.prog w
   = .ok (((a1 == b1)&&(a2 == b2))&&((a3 == b3)&&(a4 == b4))&&((a5 == b5)&&(a6 == b6))) w:=by
 obtain ⟨i0,hi⟩:=Option.isSome_iff_exists.1 (show (Tryz.prog.info? 32).isSome=true by kernel_rfl);rw [run_equalIn_array w 9999 _ _ Tryz.underlying34 hi];have hc:Tryz.prog.cellsOf 32=2:=by kernel_rfl
 rw [hc];go_simp;simp only [Op.eqItems];go_simp;simp only [beq_toListBytes]
 by_cases h1:a1.toList=b1.toList<;>by_cases h2:a2.toList=b2.toList<;>by_cases h3:a3.toList=b3.toList<;>by_cases h4:a4.toList=b4.toList<;>by_cases h5:a5.toList=b5.toList<;>by_cases h6:a6.toList=b6.toList<;>simp [h1,h2,h3,h4,h5,h6]
theorem mo (a1 a2 a3 a4 a5 a6:ByteArray) (w:World) :
  (Op.equalIn 10000 34 (.agg #[.string a1,.string a2,.string a3,.string a4,.string a5,.string a6]) (.agg #[.string a1,.string a2,.string a3,.string a4,.string a5,.string a6])).run Tryz.prog w= .ok true w:=by
 rw [Zi];simp [beq_toListBytes]
end Go.Proofs
namespace Go.Mem
open Go Go.RowKit Go.SW Go.Num Go.Dec
structure Hd (p:Prop):Type where
 out:p
def hd {p:Prop} (h:p):Hd p:=⟨h⟩
def Hd.bl {w w':World} {b:Nat} {cs:Array Value} {T:TypeId} (h:Hd (ah w b cs T)) (hb:Below w.heap.size w w'):Hd (ah w' b cs T):=hd (h.out.later hb)
end Go.Mem
namespace Go.Proofs.YtneajphgfdlmhaaGreatDoor
open Go Go.ChangeShapes Go.WideShapes Go.RowKit Go.Proofs
theorem jd {P:Program} {w:World} {r:Reach} {b:Nat} {u:TypeId} {k:IntKind} {v:Value} (hu:P.underlying u=some (.int k)) (h:Cell.okWide P w r b u v):∃ n,v= .int k n∧k.has n:=by
 unfold Cell.okWide at h;simp only [hu] at h;unfold Cell.ok at h;simp only [hu] at h;cases v<;>simp at h
 obtain ⟨rfl,h⟩:=h;exact ⟨_,rfl,h⟩
theorem LG {P:Program} {w:World} {r:Reach} {b:Nat} {u:TypeId} {v:Value} (hu:P.underlying u=some .string) (h:Cell.okWide P w r b u v):∃ s,v= .string s∧(s.size:Int)≤IntKind.i64.max:=by
 unfold Cell.okWide at h;simp only [hu] at h;unfold Cell.ok at h;simp only [hu] at h;cases v<;>simp at h
 exact ⟨_,rfl,h⟩
theorem Qu {α:Type} {l:List α} (h:l.length=3):∃ x0 x1 x2,l=[x0,x1,x2]:=by
 match l,h with
 | [x0,x1,x2],_=>exact ⟨x0,x1,x2,rfl⟩
theorem uf {P:Program} {w:World} {r:Reach} {b:Nat} {T:TypeId} {d:TypeDesc} {ts:List TypeId} {v:Value} (hu:P.underlying T=some d) (hd:(match d with| .struct _| .array _ _=>true| _=>false)=true)
  {n:Nat} (hc:P.cellTypes P.depth T=some ts) (hn:P.cellsOf T=n) (hl:ts.length=n) (h:Value.okWide P w r b T v):∃ l:List Value,v= .agg ⟨l⟩∧l.length=n∧∀ (i:Nat) x u,l[i]? =some x→ts[i]? =some u→Cell.okWide P w r b u x:=by
 have h':∃ cs,v= .agg cs∧cs.size=P.cellsOf T∧Row.okWide P w r b T cs:=by
  unfold Value.okWide at h;rw [hu] at h;cases d<;>simp at hd<;>exact h
 obtain ⟨⟨l⟩,rfl,hs,ts',ht, -, hx⟩:=h';rw [hc] at ht;cases ht
 refine ⟨l,rfl,by rw [← hn];exact hs,fun i x u hi hui=>?_⟩;obtain ⟨u',h1,h2⟩:=hx i x (by simpa using hi);have hlt:i<ts.length:=(List.getElem?_eq_some_iff.1 hui).1;rw [Nat.mod_eq_of_lt hlt,hui] at h1;cases h1
 exact h2
theorem aN5 {n:Int} (h:IntKind.u8.has n):0≤n∧n≤255:=by
 simpa [IntKind.has,IntKind.min,IntKind.max,IntKind.signed,IntKind.bits] using h
theorem nT {n:Int} (h:IntKind.u16.has n):0≤n∧n≤65535:=by
 simpa [IntKind.has,IntKind.min,IntKind.max,IntKind.signed,IntKind.bits] using h
theorem XZ {n:Int} (h:IntKind.i16.has n):(-32768)≤n∧n≤32767:=by
 simpa [IntKind.has,IntKind.min,IntKind.max,IntKind.signed,IntKind.bits] using h
theorem wH:laidOutB Tryz.prog=true:=by kernel_rfl
end Go.Proofs.YtneajphgfdlmhaaGreatDoor
