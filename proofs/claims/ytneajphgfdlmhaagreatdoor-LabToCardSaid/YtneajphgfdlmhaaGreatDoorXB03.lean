/- Lemmas for the proof. No condition. -/
import Derived.Test.YtneajphgfdlmhaaGreatDoorXB01
import Derived.Test.YtneajphgfdlmhaaGreatDoorXB02
import Derived.Test.YtneajphgfdlmhaaGreatDoorProg
import Derived.KernelRfl
import Derived.WalkMore
import Derived.Deep.RegionHeld
import Derived.Shelf.Bits.Mul64
import Derived.ControlIn
import Derived.Laws.MakeOwn
import Derived.RangeFuncBox
set_option linter.unusedVariables false
set_option linter.unusedSimpArgs false
set_option maxRecDepth 100000
set_option maxHeartbeats 16000000
namespace Go.Num
theorem oH {B:Nat} {v:List Nat} {k:Nat} (hv:v.length=k+2):val B v=val B (v.take k)+B^k*(v.getD k 0+B*v.getD (k+1) 0):=by
 have h1:=bg B (l:=v) (k:=k) zo;have h2:=bg B (l:=v) (k:=k+1) zo;rw [show k+1+1=v.length by omega,List.take_length] at h2;rw [h2,h1,Nat.mul_add,Nat.pow_succ,Nat.mul_assoc,Nat.add_assoc]
theorem wT {B:Nat} {u:List Nat} {k:Nat} (hu:u.length=k+3):val B u=val B (u.take k)+B^k*(u.getD k 0+B*(u.getD (k+1) 0+B*u.getD (k+2) 0)):=by
 have h1:=bg B (l:=u) (k:=k) zo;have h2:=bg B (l:=u) (k:=k+1) zo;have h3:=bg B (l:=u) (k:=k+2) zo;rw [show k+2+1=u.length by omega,List.take_length] at h3;rw [h3,h2,h1];simp only [Nat.mul_add,Nat.pow_succ,Nat.mul_assoc];omega
structure OH (B U V top head q r:Nat):Prop where
 split:q*top+r=head
 high:U / V≤q
 bound:q≤B+1
section
variable {B:Nat} {u v:List Nat} {k:Nat}
theorem Nz (hB:1<B) (hu:u.length=k+3) (hv:v.length=k+2) (du:dS B u) (ht:B≤2*v.getD (k+1) 0) (hlt:val B u<val B v*B) (dv:dS B v) :
  OH B (val B u) (val B v) (v.getD (k+1) 0) (u.getD (k+2) 0*B+u.getD (k+1) 0) ((u.getD (k+2) 0*B+u.getD (k+1) 0) / v.getD (k+1) 0) ((u.getD (k+2) 0*B+u.getD (k+1) 0)%v.getD (k+1) 0):=by
 have eu:=wT (B:=B) hu;have ev:=oH (B:=B) hv;have lu:=gJ zo (du.take k);have lv:=gJ zo (dv.take k);rw [show (u.take k).length=k by simp;omega] at lu;rw [show (v.take k).length=k by simp;omega] at lv;have d0:=du.getD zo k;have d1:=du.getD zo (k+1);have f0:=dv.getD zo k;generalize u.getD k 0=u2 at *;generalize u.getD (k+1) 0=u1 at *;generalize u.getD (k+2) 0=un at *;generalize v.getD k 0=v2 at *;generalize v.getD (k+1) 0=top at *;generalize val B (u.take k)=a at *;generalize val B (v.take k)=b at *;have hp:0<B^k:=Nat.pow_pos zo;generalize B^k=p at *;have htop:0<top:=by omega
 have hV:0<val B v:=by
  rw [ev];have:0<p*(v2+B*top):=Nat.mul_pos hp (by have:=Nat.mul_pos (by omega:0<B) htop;omega);omega
 have QF:=Nat.div_add_mod (un*B+u1) top;have hml:=Nat.mod_lt (un*B+u1) htop;refine ⟨by rw [Nat.mul_comm];exact QF,?_,?_⟩
 ·rw [← Nat.lt_succ_iff,Nat.div_lt_iff_lt_mul hV,eu,ev];generalize (un*B+u1) / top=q at *;have h1:un*B+u1+1≤(q+1)*top:=by rw [Nat.add_mul,Nat.one_mul,Nat.mul_comm q];omega
  have h2:p*(B*(un*B+u1+1))≤p*(B*((q+1)*top)):=Nat.mul_le_mul_left _ (Nat.mul_le_mul_left _ h1)
  have h3:a+p*(u2+B*(u1+B*un))<p*(B*(un*B+u1+1)):=by
   have:p*(u2+B*(u1+B*un)+1)≤p*(B*(un*B+u1+1)):=Nat.mul_le_mul_left _ (by rw [Nat.mul_add B (un*B+u1),Nat.mul_one,Nat.add_comm u1,Nat.mul_comm B un];omega);rw [Nat.mul_add,Nat.mul_one] at this;omega
  have h4:p*(B*((q+1)*top))≤Nat.succ q*(b+p*(v2+B*top)):=by
   rw [Nat.succ_eq_add_one,show p*(B*((q+1)*top))=(q+1)*(p*(B*top)) by rw [Nat.mul_left_comm B,Nat.mul_left_comm p]];refine Nat.mul_le_mul_left _ ?_;rw [Nat.mul_add p];omega
  omega
 ·-- the highest digit of u is at most that of v
  have h1:un≤top:=by
   rcases Nat.lt_or_ge top un with h|h
   ·exfalso
    rw [eu,ev] at hlt;have h2:p*(B*(B*(top+1)))≤p*(B*(B*un)):=Nat.mul_le_mul_left _ (Nat.mul_le_mul_left _ (Nat.mul_le_mul_left _ h))
    have h3:(b+p*(v2+B*top))*B≤p*(B*(B*(top+1))):=by
     have:b+p*(v2+B*top)≤p*(B*(top+1)):=by
      have h5:p*(v2+1+B*top)≤p*(B*(top+1)):=Nat.mul_le_mul_left _ (by rw [Nat.mul_add B top,Nat.mul_one];omega);simp only [Nat.mul_add,Nat.mul_one] at h5 ⊢;omega
     calc (b+p*(v2+B*top))*B≤p*(B*(top+1))*B:=Nat.mul_le_mul_right _ this
      _=p*(B*(B*(top+1))):=by rw [Nat.mul_assoc,Nat.mul_comm (B*(top+1)) B]
    have h4:p*(B*(B*un))≤a+p*(u2+B*(u1+B*un)):=by simp only [Nat.mul_add];omega
    omega
   ·exact h
  have h2:(un*B+u1) / top<B+2:=by
   rw [Nat.div_lt_iff_lt_mul htop];have h3:un*B≤top*B:=Nat.mul_le_mul_right _ h1;rw [Nat.add_mul,Nat.mul_comm B top];omega
  omega
theorem QM (hB:1<B) (hu:u.length=k+3) (hv:v.length=k+2) (du:dS B u) {q r:Nat} (ht:0<v.getD (k+1) 0) (hlt:val B u<val B v*B)
  (g:OH B (val B u) (val B v) (v.getD (k+1) 0) (u.getD (k+2) 0*B+u.getD (k+1) 0) q r) (hc:B≤q∨r*B+u.getD k 0<q*v.getD k 0) :
  1≤q∧OH B (val B u) (val B v) (v.getD (k+1) 0) (u.getD (k+2) 0*B+u.getD (k+1) 0) (q - 1) (r+v.getD (k+1) 0):=by
 have eu:=wT (B:=B) hu;have ev:=oH (B:=B) hv;have lu:=gJ zo (du.take k);rw [show (u.take k).length=k by simp;omega] at lu;obtain ⟨g1,g2,g3⟩:=g;generalize u.getD k 0=u2 at *;generalize u.getD (k+1) 0=u1 at *;generalize u.getD (k+2) 0=un at *;generalize v.getD k 0=v2 at *;generalize v.getD (k+1) 0=top at *;generalize val B (u.take k)=a at *;generalize val B (v.take k)=b at *;have hp:0<B^k:=Nat.pow_pos zo;generalize B^k=p at *
 have hV:0<val B v:=by
  rw [ev];have:0<p*(v2+B*top):=Nat.mul_pos hp (by have:=Nat.mul_pos (by omega:0<B) ht;omega);omega
 have hq:val B u / val B v<q:=by
  rcases hc with hc|hc
  ·have:val B u / val B v<B:=by rw [Nat.div_lt_iff_lt_mul hV,Nat.mul_comm];exact hlt
   omega
  ·rw [Nat.div_lt_iff_lt_mul hV,eu,ev]
   have h1:u2+B*(u1+B*un)+1≤q*(v2+B*top):=by
    have:B*(q*top+r)=B*(un*B+u1):=by rw [g1]
    rw [Nat.mul_add B (q*top)] at this;rw [Nat.mul_add q,Nat.mul_left_comm q B top];rw [Nat.mul_add B u1,← Nat.mul_comm un B];rw [Nat.mul_add B (un*B)] at this;rw [Nat.mul_comm r B] at hc;omega
   have h2:=Nat.mul_le_mul_left p h1;rw [Nat.mul_add p,Nat.mul_one] at h2
   have h3:p*(q*(v2+B*top))≤q*(b+p*(v2+B*top)):=by
    rw [Nat.mul_left_comm];exact Nat.mul_le_mul_left _ zo
   omega
 have hq0:=Nat.zero_le (val B u / val B v);obtain ⟨q,rfl⟩:∃ q',q=q'+1:=⟨q - 1,by omega⟩;refine ⟨by omega,?_,by simp only [Nat.add_sub_cancel];omega,by omega⟩;rw [Nat.add_mul,Nat.one_mul] at g1;simp only [Nat.add_sub_cancel];omega
theorem WM (hB:1<B) (hu:u.length=k+3) (hv:v.length=k+2) (dv:dS B v) {q r:Nat} (ht:0<v.getD (k+1) 0)
  (g:OH B (val B u) (val B v) (v.getD (k+1) 0) (u.getD (k+2) 0*B+u.getD (k+1) 0) q r) (hc:q≤B) (hc2:q*v.getD k 0≤r*B+u.getD k 0):q≤val B u / val B v+1:=by
 have eu:=wT (B:=B) hu;have ev:=oH (B:=B) hv;have lv:=gJ zo (dv.take k);rw [show (v.take k).length=k by simp;omega] at lv;obtain ⟨g1,g2,g3⟩:=g;generalize u.getD k 0=u2 at *;generalize u.getD (k+1) 0=u1 at *;generalize u.getD (k+2) 0=un at *;generalize v.getD k 0=v2 at *;generalize v.getD (k+1) 0=top at *;generalize val B (u.take k)=a at *;generalize val B (v.take k)=b at *;have hp:0<B^k:=Nat.pow_pos zo;generalize B^k=p at *
 have hV:0<val B v:=by
  rw [ev];have:0<p*(v2+B*top):=Nat.mul_pos hp (by have:=Nat.mul_pos (by omega:0<B) ht;omega);omega
 have hq0:=Nat.zero_le (val B u / val B v)
 rcases Nat.eq_zero_or_pos q with h0|h0
 ·omega
 obtain ⟨q',rfl⟩:∃ q',q=q'+1:=⟨q - 1,by omega⟩;rw [Nat.add_le_add_iff_right,Nat.le_div_iff_mul_le hV]
 have h1:(q'+1)*(v2+B*top)≤u2+B*(u1+B*un):=by
  have:B*((q'+1)*top+r)=B*(un*B+u1):=by rw [g1]
  rw [Nat.mul_add B ((q'+1)*top)] at this;rw [Nat.mul_add (q'+1),Nat.mul_left_comm (q'+1) B top];rw [Nat.mul_add B u1,← Nat.mul_comm un B];rw [Nat.mul_add B (un*B)] at this;rw [Nat.mul_comm r B] at hc2;omega
 have h2:=Nat.mul_le_mul_left p h1;have h3:(q'+1)*b≤B*p:=Nat.mul_le_mul hc zo
 have h4:B*p≤p*(v2+B*top):=by
  rw [Nat.mul_comm B p];refine Nat.mul_le_mul_left _ ?_;have:B*1≤B*top:=Nat.mul_le_mul_left _ ht;omega
 have h5:(q'+1)*val B v≤val B u+val B v:=by
  rw [eu,ev,Nat.mul_add,Nat.mul_left_comm (q'+1) p];omega
 rw [Nat.add_mul,Nat.one_mul] at h5;omega
end
theorem Yu {B:Nat} {u v s:List Nat} {i q c b d c' b':Nat} (hiu:i<u.length) (hiv:i<v.length) (hs:s.length=i)
  (he:val B s+q*val B (v.take i)=val B (u.take i)+(b+c)*B^i) (h:d+b+(c+q*v.getD i 0)%B=u.getD i 0+b'*B) (hc:c'=(c+q*v.getD i 0) / B) :
  val B (s++[d])+q*val B (v.take (i+1))=val B (u.take (i+1))+(b'+c')*B^(i+1):=by
 rw [gU,bg B hiu,bg B hiv,hs,Nat.pow_succ];have h1:B*c'+(c+q*v.getD i 0)%B=c+q*v.getD i 0:=by rw [hc];exact Nat.div_add_mod _ _
 generalize (c+q*v.getD i 0)%B=m at *;have h2:d+b+(c+q*v.getD i 0)=u.getD i 0+(b'+c')*B:=by rw [Nat.add_mul,Nat.mul_comm c' B];omega
 have h3:=congrArg (B^i* ·) h2;simp only [Nat.mul_add] at h3 he ⊢;rw [show (b'+c')*(B^i*B)=B^i*((b'+c')*B) by rw [Nat.mul_left_comm]];rw [show q*(B^i*v.getD i 0)=B^i*(q*v.getD i 0) by rw [Nat.mul_left_comm]];rw [Nat.mul_comm (b+c),Nat.mul_add] at he;omega
theorem Yw {B:Nat} {u v s:List Nat} {n q b c un:Nat} (hB:1<B) (hv:v.length=n) (dv:dS B v) (hV:0<val B v)
  (he:val B s+q*val B v=val B (u.take n)+(b+c)*B^n) (hu:val B u=val B (u.take n)+B^n*un) (hc:b+c≤un) (hq1:val B u / val B v≤q) :
  q=val B u / val B v∧val B s=val B u%val B v:=by
 have h1:val B u=q*val B v+(val B s+B^n*(un - (b+c))):=by
  obtain ⟨t,rfl⟩:=Nat.le.dest hc;rw [hu,Nat.add_sub_cancel_left,Nat.mul_add,Nat.mul_comm (B^n) (b+c)];omega
 have h2:q*val B v≤val B u:=by omega
 have h3:q≤val B u / val B v:=(Nat.le_div_iff_mul_le hV).2 h2;have hq:q=val B u / val B v:=by omega
 refine ⟨hq,?_⟩;have h4:=Nat.div_add_mod (val B u) (val B v);rw [← hq,Nat.mul_comm] at h4;have h5:val B s+B^n*(un - (b+c))=val B u%val B v:=by omega
 have h6:=Nat.mod_lt (val B u) hV;have h7:=gJ zo dv;rw [hv] at h7
 rcases Nat.eq_zero_or_pos (un - (b+c)) with h8|h8
 ·rw [h8] at h5;omega
 ·have:B^n*1≤B^n*(un - (b+c)):=Nat.mul_le_mul_left _ h8;omega
theorem Yv {B:Nat} {u v s:List Nat} {n q b c un:Nat} (hB:1<B) (hs:s.length=n) (ds:dS B s) (hv:v.length=n) (dv:dS B v) (hV:0<val B v)
  (he:val B s+q*val B v=val B (u.take n)+(b+c)*B^n) (hu:val B u=val B (u.take n)+B^n*un) (hc:un<b+c) (hq2:q≤val B u / val B v+1) :
  q=val B u / val B v+1∧val B s+val B v=val B u%val B v+B^n:=by
 have hp:0<B^n:=Nat.pow_pos zo;have h7:=gJ zo dv;rw [hv] at h7;have h8:=gJ zo ds;rw [hs] at h8;have h4:=Nat.div_add_mod (val B u) (val B v);have h6:=Nat.mod_lt (val B u) hV;obtain ⟨t,ht⟩:=Nat.le.dest hc
 have h1:val B u+B^n*(t+1)=q*val B v+val B s:=by
  rw [hu,Nat.add_assoc,← Nat.mul_add,show un+(t+1)=b+c by omega,Nat.mul_comm (B^n)];omega
 have hpt:B^n*(t+1)=B^n*t+B^n:=by rw [Nat.mul_add,Nat.mul_one]
 have hq3:val B u / val B v+1≤q:=by
  rcases Nat.lt_or_ge (val B u / val B v) q with h|h
  ·exact h
  ·exfalso
   have:q*val B v≤val B u / val B v*val B v:=Nat.mul_le_mul_right _ h;rw [Nat.mul_comm (val B u / val B v)] at this;omega
 have hq:q=val B u / val B v+1:=by omega
 refine ⟨hq,?_⟩;rw [hq,Nat.add_mul,Nat.one_mul,Nat.mul_comm (val B u / val B v)] at h1;have h9:val B u%val B v+B^n*(t+1)=val B v+val B s:=by omega
 rcases Nat.eq_zero_or_pos t with h|h
 ·rw [h,Nat.zero_add,Nat.mul_one] at h9;omega
 ·have:B^n*1≤B^n*t:=Nat.mul_le_mul_left _ h;omega
theorem Mk {B t:Nat} (hB:B=1000000000) (ht:0<t) (htB:t<B):B≤2*(t*(B / (t+1))):=by
 have hd:=Nat.div_add_mod B (t+1);have hm:=Nat.mod_lt B (Nat.succ_pos t);have hs:0<B / (t+1):=Nat.div_pos zo zo;generalize B / (t+1)=s at *;generalize B%(t+1)=m at *;obtain ⟨s',rfl⟩:∃ s',s=s'+1:=⟨s - 1,by omega⟩;rw [Nat.add_mul t 1,Nat.one_mul] at hd;have h1:t*(s'+1)=t*s'+t:=by rw [Nat.mul_add,Nat.mul_one]
 have h2:m≤t:=by omega
 rcases Nat.eq_zero_or_pos s' with h|h
 ·subst h;omega
 ·obtain ⟨t',rfl⟩:∃ t',t=t'+1:=⟨t - 1,by omega⟩;obtain ⟨r,rfl⟩:∃ r,s'=r+1:=⟨s' - 1,by omega⟩;have h3:(t'+1)*(r+1+1)=t'*r+2*t'+r+2:=by simp only [Nat.add_mul,Nat.mul_add];omega
  have h4:0≤t'*r:=Nat.zero_le _;rw [h3] at hd ⊢
  rcases Nat.eq_zero_or_pos t' with h5|h5
  ·subst h5;omega
  ·have h6:r≤t'*r:=by have:=Nat.mul_le_mul_right r h5;omega
   omega
theorem GJ (B:Nat) {l:List Nat} {t:Nat} (ht:t≤l.length):val B l=val B (l.take t)+B^t*val B (l.drop t):=by
 conv=>lhs;rw [← List.take_append_drop t l,val_append]
 rw [List.length_take,Nat.min_eq_left ht]
theorem Ml {b k:Nat} (hs:sz 1000000000 b=k+2) :
  let t:=(bW 1000000000 b).getD (k+1) 0
  let s:=1000000000 / (t+1)
  0<t∧t<1000000000∧0<s∧s≤500000000∧sz 1000000000 (b*s)=k+2∧1000000000≤2*(bW 1000000000 (b*s)).getD (k+1) 0:=by
 intro t s;have hB:1<1000000000:=by omega
 have hl:(bW 1000000000 b).length=k+2:=hs;have ht0:0<t:=Nat.pos_of_ne_zero (mV hB b (k+1) hl);have htB:t<1000000000:=(aT hB b).getD zo (k+1);have hs0:0<s:=Nat.div_pos zo zo
 have hs5:s≤500000000:=by
  have:s≤1000000000 / 2:=Nat.div_le_div_left zo zo;omega
 have hsd:s*(t+1)≤1000000000:=Nat.div_mul_le_self _ _;have hp:0<1000000000^(k+1):=Nat.pow_pos zo
 have hb:b=val 1000000000 ((bW 1000000000 b).take (k+1))+1000000000^(k+1)*t:=by
  have h1:=bg 1000000000 (l:=bW 1000000000 b) (k:=k+1) zo;rw [show k+1+1=(bW 1000000000 b).length by omega,List.take_length,aP hB] at h1;exact h1
 have hlow:val 1000000000 ((bW 1000000000 b).take (k+1))<1000000000^(k+1):=by
  have:=gJ zo ((aT hB b).take (k+1))
  rwa [show ((bW 1000000000 b).take (k+1)).length=k+1 by simp;omega] at this
 have h1:b*s<1000000000^(k+2):=by
  have h2:b<1000000000^(k+1)*(t+1):=by rw [Nat.mul_add,Nat.mul_one];omega
  have h3:b*s<1000000000^(k+1)*(t+1)*s:=Nat.mul_lt_mul_of_pos_right h2 hs0;have h4:1000000000^(k+1)*((t+1)*s)≤1000000000^(k+1)*1000000000:=Nat.mul_le_mul_left _ (by rw [Nat.mul_comm];exact hsd);rw [Nat.mul_assoc] at h3;rw [Nat.pow_succ 1000000000 (k+1)];omega
 have h2:sz 1000000000 (b*s)=k+2:=by
  have h3:=aR hB _ _ h1;have h4:sz 1000000000 b≤sz 1000000000 (b*s):=dh hB (Nat.le_mul_of_pos_right _ hs0);omega
 refine ⟨ht0,htB,hs0,hs5,h2,?_⟩;have hl2:(bW 1000000000 (b*s)).length=k+2:=h2
 have hb2:b*s=val 1000000000 ((bW 1000000000 (b*s)).take (k+1))+1000000000^(k+1)*(bW 1000000000 (b*s)).getD (k+1) 0:=by
  have h1:=bg 1000000000 (l:=bW 1000000000 (b*s)) (k:=k+1) zo;rw [show k+1+1=(bW 1000000000 (b*s)).length by omega,List.take_length,aP hB] at h1;exact h1
 have bc5:val 1000000000 ((bW 1000000000 (b*s)).take (k+1))<1000000000^(k+1):=by
  have:=gJ zo ((aT hB (b*s)).take (k+1))
  rwa [show ((bW 1000000000 (b*s)).take (k+1)).length=k+1 by simp;omega] at this
 have hge:=Mk (B:=1000000000) rfl ht0 htB;generalize (bW 1000000000 (b*s)).getD (k+1) 0=t2 at *
 have h5:t*s≤t2:=by
  rcases Nat.lt_or_ge t2 (t*s) with h|h
  ·exfalso
   have h6:1000000000^(k+1)*(t2+1)≤1000000000^(k+1)*(t*s):=Nat.mul_le_mul_left _ h;rw [Nat.mul_add,Nat.mul_one,← Nat.mul_assoc] at h6;have h7:1000000000^(k+1)*t*s≤b*s:=Nat.mul_le_mul_right _ zo;omega
  ·exact h
 have h8:1000000000≤2*(t*s):=hge;omega
theorem dividend {a b s k:Nat} (hs0:0<s) (hs1:s<1000000000) (hb:sz 1000000000 b=k+2) (hab:k+2≤sz 1000000000 a) :
  let us:=bW 1000000000 (a*s)++List.replicate (sz 1000000000 a+1 - sz 1000000000 (a*s)) 0
  sz 1000000000 (a*s)≤sz 1000000000 a+1∧us.length=sz 1000000000 a+1∧dS 1000000000 us∧val 1000000000 us=a*s∧val 1000000000 (us.drop (sz 1000000000 a - (k+2)+1))<b*s:=by
 intro us;have hB:1<1000000000:=by omega
 have h1:sz 1000000000 (a*s)≤sz 1000000000 a+1:=by
  have:=jL hB a s;have h2:=aR hB 1 s zo;omega
 have h2:us.length=sz 1000000000 a+1:=by simp only [us,List.length_append,List.length_replicate];unfold sz at*; omega
 have h3:val 1000000000 us=a*s:=by simp only [us];rw [val_append,vG,aP hB];simp
 refine ⟨h1,h2,(aT hB _).append fun x hx=>by rw [List.eq_of_mem_replicate hx];omega,h3,?_⟩;have h4:=GJ 1000000000 (l:=us) (t:=sz 1000000000 a - (k+2)+1) zo;rw [h3] at h4;have h5:=JO hB (n:=b) (k:=k+1) zo;have h6:=iq hB a;have h7:1000000000^sz 1000000000 a=1000000000^(k+1)*1000000000^(sz 1000000000 a - (k+2)+1):=by rw [← Nat.pow_add];congr 1;omega
 generalize 1000000000^(sz 1000000000 a - (k+2)+1)=p at *
 have h8:a<b*p:=by
  have:1000000000^(k+1)*p≤b*p:=Nat.mul_le_mul_right _ h5;omega
 rcases Nat.lt_or_ge (val 1000000000 (us.drop (sz 1000000000 a - (k+2)+1))) (b*s) with h|h
 ·exact h
 ·exfalso
  have h9:p*(b*s)≤a*s:=by have:=Nat.mul_le_mul_left p h;omega
  have h10:a*s<b*p*s:=Nat.mul_lt_mul_of_pos_right h8 hs0;rw [show p*(b*s)=b*p*s by rw [← Nat.mul_assoc,Nat.mul_comm p b]] at h9;omega
theorem WA {B:Nat} {us s s' qs:List Nat} {j V q:Nat} (hj:j<us.length) (he:val B (us.drop (j+1))=V*val B qs+val B s)
  (hq:q=val B (us.getD j 0::s) / V) (hs:val B s'=val B (us.getD j 0::s)%V):val B (us.drop j)=V*val B (q::qs)+val B s':=by
 rw [iH hj];have h:=Nat.div_add_mod (val B (us.getD j 0::s)) V;rw [← hq,← hs] at h;simp only [val] at h ⊢;rw [he,Nat.mul_add V,Nat.mul_add B,Nat.mul_left_comm V B];omega
theorem Vi {B x V:Nat} {s:List Nat} (hx:x<B) (hs:val B s<V):val B (x::s)<V*B:=by
 have h:B*(val B s+1)≤B*V:=Nat.mul_le_mul_left _ hs;rw [Nat.mul_add,Nat.mul_one,Nat.mul_comm B V] at h;simp only [val];omega
theorem Zm {a b s q r:Nat} (hs:0<s) (he:a*s=b*s*q+r) (hr:r<b*s):q=a / b∧r / s=a%b:=by
 have h1:a*s / (b*s)=a / b:=Nat.mul_div_mul_right _ _ hs;have h2:a*s%(b*s)=a%b*s:=Nat.mul_mod_mul_right _ _ _;have hp:0<b*s:=by omega
 rw [he,Nat.mul_add_div hp,Nat.div_eq_of_lt hr,Nat.add_zero] at h1;rw [he,Nat.mul_add_mod,Nat.mod_eq_of_lt hr] at h2;exact ⟨h1,by rw [h2,Nat.mul_div_cancel _ hs]⟩
end Go.Num
namespace Go.Fx
open Go Go.RowKit Go.SW Go.Mem
def Kept (l:List TypeId) (w w':World):Prop:=∀ b cs T,T∉l→ah w b cs T→ah w' b cs T
theorem Row.keep {l:List TypeId} {w w':World} {T:TypeId} {v:Value} {xs:List Value} (h:Row w T v xs) (k:Kept l w w') (hT:T∉l):Row w' T v xs:=by
 obtain ⟨a,cap,h1,h2,h3,h4,h5⟩:=h;refine ⟨a,cap,h1,h2,h3,h4,fun ad had=>?_⟩;obtain ⟨h6,arr,h7,h8⟩:=h5 ad had;exact ⟨h6,arr,k _ _ _ hT h7,h8⟩
theorem Ze {l:List TypeId} {T:TypeId} (h:l.contains T=false):T∉l:=by simpa using h
theorem aQ.keep {l:List TypeId} {w w':World} {v:Value} {n:Nat} (h:aQ w v n) (k:Kept l w w') (hT:l.contains 61=false:=by kernel_rfl):aQ w' v n:=Row.keep h k (Ze hT)
def hold (L:Mm):List Nat:=(L.filter (·.o)).map (·.b)
def tys (L:Mm):List TypeId:=(L.filter (·.o)).map (·.T)
theorem Zh {L:Mm} {j:Nat} {x:Bx} (h:L[j]? =some x) (ho:x.o=true):x.b∈hold L:=List.mem_map.2 ⟨x,List.mem_filter.2 ⟨List.mem_of_getElem? h,ho⟩,rfl⟩
structure Gw (w w0:World) (H:List Nat):Prop where
 below:Below w.heap.size w w0
 old:∀ b∈H,w.heap.size≤b
theorem Gw.nil (w:World):Gw w w []:=⟨Below.refl _ _,fun _ h=>by cases h⟩
section
variable {P:Program} {n:Nat} {R:Post} {w0 w1:World} {H0:List Nat} {p:Pos} {S:Sl} {L L0:Mm}
theorem Gw.at {w W:World} (B:Gw w w0 H0) (M:Mem w0 H0 L W):Below w.heap.size w W:=M.tK.below B.below B.old
theorem Gw.next {w:World} (B:Gw w w0 H0) (M:Mem w0 H0 L w1):Gw w w1 (hold L):=⟨B.at M,fun b hb=>by
 obtain ⟨x,hx,rfl⟩:=List.mem_map.1 hb;obtain ⟨hx,ho⟩:=List.mem_filter.1 hx;obtain ⟨j,hj⟩:=List.getElem?_of_mem hx
 rcases M.own j x hj ho with h|h
 ·exact B.old _ h
 ·exact Nat.le_trans B.below.size h⟩
theorem Mem.aO3 {w:World} (h:Mem w0 H0 L w):Mem w (hold L) L w:=⟨h.all,h.dis,fun _ _ hx ho=>.inl (Zh hx ho),mh.refl w⟩
theorem Mem.keep (M1:Mem w0 H0 L0 w1) {W:World} (M:Mem w1 (hold L0) L W):Kept (tys L0) w1 W:=fun b cs T hT hX=>by
 by_cases hb:b∈hold L0
 ·obtain ⟨x,hx,rfl⟩:=List.mem_map.1 hb;have hx2:=hx;obtain ⟨hx,ho⟩:=List.mem_filter.1 hx;obtain ⟨j,hj⟩:=List.getElem?_of_mem hx;have h2:=M1.all j x hj;unfold ah at h2 hX;rw [h2] at hX;cases hX
  exact absurd (List.mem_map.2 ⟨x,hx2,rfl⟩) hT
 ·exact M.tK.box hX hb
def aQ3 (P:Program) (n:Nat) (R:Post) (w0:World) (H0:List Nat) (p:Pos) (d:Nat) (S:Sl) (L:Mm) (w w1:World):Ending→Prop
 | .returned v=>Below w.heap.size w w1∧(Mem w0 H0 L w1→G P n R w1 (hold L) p.past ((d,v)::S) L)
 | _=>False
theorem gM (hs:List Nat) (d:Nat) (St:Sl) (U:List (Nat × Array Value)) {f:FuncId} {args:Array Value} {E:World→Ending→World→Prop} (hC:∀ w,Mem w0 H0 (upd L U) w→Calls P f args w (E w))
  (hc:∀ w w1 e,Mem w0 H0 (upd L U) w→E w e w1→aQ3 P n R w0 H0 (tr 4000 hs p).2 d (St++S) (upd L U) w w1 e)
  (h:Jq P n w0 (tr 4000 hs p).1 S L St (upd L U):=by intro _;kernel_rfl) (hx:∀ w,qG P n w (zJ P n w0 (tr 4000 hs p).1 S L) (tr 4000 hs p).2=some (d,f,args,w):=by intro _;kernel_rfl) (hal:(tr 4000 hs p).2.past.Hy=true:=by kernel_rfl):G P n R w0 H0 p S L:=by
 refine goF hs St _ h ?_;have hsub:=h.sub;have hh:=ru (hx w0);generalize zJ P n w0 (tr 4000 hs p).1 S L=F at hx hsub ⊢;generalize (tr 4000 hs p).2=q at hc hx hal hh;generalize upd L U=L at hC hc;generalize St++S=S at hc hsub;obtain ⟨ops,o,hn,hf,hw,hd,hlt, -⟩:=jK (h:=hx w0);refine place hn hf hw (Y:=fun N H w a a' w1=>∃ v,a'=a.put (some d) v∧Below w.heap.size w w1∧Mem w0 H0 L w1∧G P n R w1 (hold L) q.past ((d,v)::F) L) (fun w N H hM hok a ha K hK k=>?_) fun w N H hM hok a a' w' ha hy=>?_
 ·obtain ⟨ops',o',hn', -, -, -, -, hr⟩:=jK (h:=hx w);rw [hn] at hn';cases hn'
  unfold Oper.wp;rw [ha.exec hf,hr];simp only [Oper.upon];refine (hC w hM).mono fun e w' he=>?_;have:=hc w w' e hM he;cases e with
  | returned v =>
   rw [hd];exact hK _ _ ⟨v,rfl,this.1,hM.later this.1,(this.2 (hM.later this.1)).of (mW hsub d v) hh⟩
  | _=>exact this.elim
 ·obtain ⟨v,rfl,h1,h2,h3⟩:=hy;refine ⟨fun _ _ _ _ _ _=>.of h1,_,ha.put hlt v,h3.out w' N H h2.aO3 ?_⟩;cases q with
  | uG ops Hj is A k =>
   cases is with
   | nil=>cases hn
   | cons x is =>
    obtain ⟨k1,k2,k3,k4⟩:=hok;refine ⟨fun hx=>?_,fun hx=>?_,k3,k4⟩<;>simp only [Pos.past,Pos.Hy,hx] at hal<;>cases hal
  | reg ops is k=>cases is<;>exact trivial
  | _=>exact trivial
end
end Go.Fx
namespace Go.Proofs.aW
open Go Go.RowKit Go.SW Go.Num Go.Mem Go.Proofs
def aY (x:(Int × Int) × Int):Value:=.tuple #[.agg #[.int .i64 x.1.1,.int .i64 x.1.2],.int .i64 x.2]
def dY (lo hi:Int):Bool:=decide (-1000000000000000000≤lo)&&(decide (lo≤hi)&&decide (hi≤1000000000000000000))
theorem mO (lo hi:Int) (w:World):Calls Tryz.prog 116 #[.int .i64 lo,.int .i64 hi] w (fun e w'=>e= .returned (.bool (dY lo hi))∧Below w.heap.size w w'):=by
 unfold dY;cases h1:decide (-1000000000000000000≤lo)<;>cases h2:decide (lo≤hi)<;>cases h3:decide (hi≤1000000000000000000)
 all_goals
  go_enter Tryz.func116,Tryz.ntmps116
  go_wp2_with fail
  go_ret
  exact ⟨rfl,Below.refl _ _⟩
theorem gD (lo hi:Int) (w:World):Calls Tryz.prog 151 #[.agg #[.int .i64 lo,.int .i64 hi]] w (fun e w'=>e= .returned (.int .i64 (if dY lo hi then 0 else 30))∧Below w.heap.size w w'):=by
 have H:=zh (fun W=>mO lo hi W);generalize dY lo hi=b at *;cases b
 all_goals
  go_enter Tryz.func151,Tryz.ntmps151
  go_wp2_with fail
  refine (H.out _).mono ?_;rintro e w1 ⟨rfl,hb1⟩;have hw:=Bt (show Below w.heap.size w (w.alloc (.cells #[.int .i64 lo,.int .i64 hi] 40)) from aD) hb1;go_wp2_with fail
  go_ret
  exact ⟨rfl,hw⟩
theorem nG (lo hi:Int) (w:World):Calls Tryz.prog 183 #[.int .i64 lo,.int .i64 hi] w (fun e w'=>e= .returned (if dY lo hi then .tuple #[.agg #[.int .i64 lo,.int .i64 hi],.int .i64 0] else .tuple #[.agg #[.int .i64 0,.int .i64 0],.int .i64 30])∧Below w.heap.size w w'):=by
 have H:=zh (fun W=>mO lo hi W);generalize dY lo hi=b at *;cases b
 all_goals
  go_enter Tryz.func183,Tryz.ntmps183
  go_wp2_with fail
  refine (H.out _).mono ?_;rintro e w1 ⟨rfl,hb1⟩;have hx:=ah.later (ah.new w #[.int .i64 0,.int .i64 0] 40) hb1;have cx:=hx.cell;have fx:=hx.free;have lx:=hx.lt;have hw:=Bt (show Below w.heap.size w (w.alloc (.cells #[.int .i64 0,.int .i64 0] 40)) from aD) hb1;go_wp2_with fail
  refine aM rfl rfl aJ Tryz.underlying40 rfl zk ?_;exact ⟨rfl,aD⟩
end Go.Proofs.aW
namespace Go.SW
open Go Go.RowKit
variable {P:Program} {ops:Array Oper} {Q:Exit→Act→World→Prop} {o:Oper} {i:Nat} {is:List (K × Nat)} {a:Act} {w:World} {N:Nat} {A:List Nat}
theorem Cv (ho:ops[i]? =some o) (hw:Region.wanted o (yielded ops a.tmps)=true) (h:∀ J:Act→Prop,(∀ a,walk P ops Q N is A a w→J a)→∃ v,(∀ w',(execOp a.eval o).run P w'= .ok (.value v) w')∧J (a.put o.dst v)):walk P ops Q N ((.pure,i)::is) A a w:=by
 refine Vl ho fun J hJ=>?_;rw [if_pos hw];exact h J hJ
theorem Cw {T:TypeId} {x:Operand} {p:Addr} (ho:ops[i]? =some o) (hw:Region.wanted o (yielded ops a.tmps)=true) (hop:o.op= .load T x) (hx:a.eval x= .pointer (some p))
  (h:∀ J:Value→Prop,(∀ v,walk P ops Q N is A (a.put o.dst v) w→J v)→(w.cell? p).isSome=true∧∃ v,(loadVar T p).run P w= .ok v w∧J v):walk P ops Q N ((.read,i)::is) A a w:=by
 unfold walk;simp only [ho,hw,if_true];obtain ⟨h1,v,h2,h3⟩:=h (fun v=>walk P ops Q N is A (a.put o.dst v) w) fun _ h=>h;refine ⟨v,fun w' hb=>?_,h3⟩;simp only [execOp,hop,hx,Instr.loadAt,Instr.sureAddr,Sem.run_bind,Sem.run_pure,Result.andThen_ok,wN hb h1 h2]
theorem Vm (ho:ops[i]? =some o) (hw:Region.wanted o (yielded ops a.tmps)=true) (h:∀ w',Below w.heap.size w w'→∀ J:Act→World→Prop,(∀ a' w'',Below w'.heap.size w' w''→walk P ops Q N is A a' w''→J a' w'')→o.wp P a w' J Q):walk P ops Q N ((.ext,i)::is) A a w:=by
 unfold walk;simp only [ho,hw,if_true];exact fun w' hb=>h w' hb _ fun a' w'' h1 h2=>⟨h1,h2⟩
def K.soft:K→Bool
 | .pure=>true
 | .read=>true
 | .ext=>true
 | _=>false
theorem vF {k:K} (hk:k.soft=true) (ho:ops[i]? =some o) (hw:Region.wanted o (yielded ops a.tmps)=false) (h:∀ J:Act→Prop,(∀ a,walk P ops Q N is A a w→J a)→J (a.put o.dst undef)):walk P ops Q N ((k,i)::is) A a w:=by
 have h':=h (fun a=>walk P ops Q N is A a w) fun _ h=>h;cases k with
 | pure=>unfold walk;simp only [ho,hw];exact h'
 | read=>unfold walk;simp only [ho,hw];exact h'
 | ext=>unfold walk;simp only [ho,hw];exact h'
 | alloc _ _=>cases hk
 | fin=>cases hk
end Go.SW
namespace Go.fF
open Go Go.RowKit Go.Num Go.Mem
def zK (w:World) (_T:TypeId) (v:Value) (l:List (Int × Int)):Prop :=
 ∃ a cap,v= .slice a l.length cap∧l.length≤cap∧cap≤9223372036854775807∧∀ k (_:k<l.length),∃ b off,a=some ⟨b,off,none⟩∧b<w.heap.size∧w.cell? ⟨b,off+k*2,none⟩=some (.int .i64 l[k].1)∧w.cell? ⟨b,off+k*2+1,none⟩=some (.int .i64 l[k].2)
theorem zK.later {w w':World} {T:TypeId} {v:Value} {l:List (Int × Int)} (h:zK w T v l) (hb:Below w.heap.size w w'):zK w' T v l:=by
 obtain ⟨a,cap,h1,h2,h3,h4⟩:=h;refine ⟨a,cap,h1,h2,h3,fun k hk=>?_⟩;obtain ⟨b,off,h5,h6,h7,h8⟩:=h4 k hk;exact ⟨b,off,h5,Nat.lt_of_lt_of_le h6 hb.size,(hb.cell (p:=⟨b,off+k*2,none⟩) h6).trans h7,(hb.cell (p:=⟨b,off+k*2+1,none⟩) h6).trans h8⟩
theorem zK.read {w:World} {T:TypeId} {v:Value} {l:List (Int × Int)} (h:zK w T v l) :
  ∃ a cap,v= .slice a l.length cap∧l.length≤cap∧cap≤9223372036854775807∧∀ k (_:k<l.length),∃ b off,a=some ⟨b,off,none⟩∧b<w.heap.size∧w.cell? ⟨b,off+k*2,none⟩=some (.int .i64 l[k].1)∧w.cell? ⟨b,off+k*2+1,none⟩=some (.int .i64 l[k].2):=h
theorem zK.xC {w:World} {T:TypeId} {b n c:Nat} {arr:Array Value} {l:List (Int × Int)} (h:ah w b arr T) (hn:l.length=n) (hc:n≤c) (hm:c≤9223372036854775807) (k:∀ i (h:i<l.length),arr[i*2]? =some (.int .i64 l[i].1)∧arr[i*2+1]? =some (.int .i64 l[i].2)):zK w T (.slice (some ⟨b,0,none⟩) n c) l:=by
 subst hn;refine ⟨_,_,rfl,hc,hm,fun i hi=>⟨b,0,rfl,h.lt,?_,?_⟩⟩
 ·rw [h.cell,Nat.zero_add];exact (k i hi).1
 ·rw [h.cell,Nat.zero_add];exact (k i hi).2
def okB (l:List (Int × Int)):Bool:=l.all fun b=>Go.Proofs.aW.dY b.1 b.2
theorem zK.one {w:World} {T:TypeId} {b:Nat} {lo hi:Int} (h:ah w b #[.int .i64 lo,.int .i64 hi] T):zK w T (.slice (some ⟨b,0,none⟩) 1 1) [(lo,hi)] :=
 zK.xC h rfl (Nat.le_refl _) zo fun i hi=>by
  have:i<1:=hi;obtain rfl:i=0:=by omega
  exact ⟨rfl,rfl⟩
theorem zK.two {w:World} {T:TypeId} {b:Nat} {x1 x2 x3 x4:Int} (h:ah w b #[.int .i64 x1,.int .i64 x2,.int .i64 x3,.int .i64 x4] T):zK w T (.slice (some ⟨b,0,none⟩) 2 2) [(x1,x2),(x3,x4)] :=
 zK.xC h rfl (Nat.le_refl _) zo fun i hi=>by
  have:i<2:=hi;obtain rfl|rfl:i=0∨i=1:=by omega
  ·exact ⟨rfl,rfl⟩
  ·exact ⟨rfl,rfl⟩
end Go.fF
namespace Go.Proofs.aW
open Go Go.RowKit Go.SW Go.Num Go.Mem Go.Proofs Go.fF
def dK (lo hi:Int):(Int × Int) × Int:=if dY lo hi then ((lo,hi),0) else ((0,0),6)
theorem iM (lo hi:Int) (w:World):Calls Tryz.prog 96 #[.int .i64 lo,.int .i64 hi] w (fun e w'=>e= .returned (aY (dK lo hi))∧Below w.heap.size w w'):=by
 have H:=zh (fun W=>mO lo hi W);unfold dK;generalize dY lo hi=b at *;unfold aY;cases b
 all_goals
  go_enter Tryz.func96,Tryz.ntmps96
  go_wp2_with fail
  refine (H.out _).mono ?_;rintro e w1 ⟨rfl,hb1⟩;have hx:=ah.later (ah.new w #[.int .i64 0,.int .i64 0] 40) hb1;have cx:=hx.cell;have fx:=hx.free;have lx:=hx.lt;have hw:=Bt (show Below w.heap.size w (w.alloc (.cells #[.int .i64 0,.int .i64 0] 40)) from aD) hb1;go_wp2_with fail
  refine aM rfl rfl aJ Tryz.underlying40 rfl zk ?_;exact ⟨rfl,aD⟩
theorem aD5 (b c:Nat) (zs:List Int) (z0:Int) (h0:zs[0]? =some z0) (arr:Array Value) (T:TypeId) (w:World) (hx:ah w b arr T) (hc:∀ j (h:j<zs.length),arr[j]? =some (.int .i64 zs[j])) (hl:zs.length≤9223372036854775807) :
  Calls Tryz.prog 241 #[.slice (some ⟨b,0,none⟩) zs.length c] w (fun e w'=>e= .returned (.int .i64 (zs.foldl max z0))∧Below w.heap.size w w'):=by
 have hn:0<zs.length:=by
  rcases Nat.eq_zero_or_pos zs.length with h|h
  ·rw [List.getElem?_eq_none zo] at h0;cases h0
  ·exact h
 have hz0:zs[0]=z0:=by
  rw [List.getElem?_eq_getElem hn] at h0;exact Option.some.inj h0
 have h00:w.cell? ⟨b,0,none⟩=some (.int .i64 z0):=by
  rw [hx.cell,hc 0 hn,hz0]
 have lb:=hx.lt;have g1:decide ((zs.length:Int)<1)=false:=by simp;omega
 have HX:=zh hx;have HC:=zh hc;clear hx hc;go_enter Tryz.func241,Tryz.ntmps241
 go_wp2_with fail
 go_loopw [3,4] (fun m i wr=>∃ k:Nat,0<k∧k≤zs.length∧i= .int .i64 (k:Int)∧m= .int .i64 ((zs.take k).foldl max z0)∧Below w.heap.size w wr) (fun _ i _=>zs.length - (intOf i).toNat)
 case atStart =>
  refine ⟨1,by omega,hn,rfl,?_,Below.refl _ _⟩;cases zs with
  | nil=>simp at hn
  | cons x t =>
   simp only [List.getElem_cons_zero] at hz0;subst hz0;simp
 case round =>
  obtain ⟨k,hk0,hk,rfl,rfl,hb⟩:=hrel
  by_cases hlt:k<zs.length
  ·have hcell:=((HX.out.later hb).cell k).trans (HC.out k hlt)
   have hstep:(zs.take (k+1)).foldl max z0=max ((zs.take k).foldl max z0) zs[k]:=by
    rw [List.take_succ_eq_append_getElem hlt,List.foldl_append];rfl
   have HS:=zh hstep;clear hstep;generalize zs[k]=zk at *;generalize (zs.take k).foldl max z0=mk at *;go_wp2_with fail
   go_roundw
   case rel=>exact ⟨k+1,by omega,by omega,by go_num,by rw [HS.out]<;>go_num,hb⟩
   case measure=>exact zM
  ·obtain rfl:k=zs.length:=by omega
   rw [List.take_length];go_wp2_with fail
   go_ret
   exact ⟨rfl,hb⟩
theorem uP (b c:Nat) (zs:List Int) (z0:Int) (h0:zs[0]? =some z0) (arr:Array Value) (T:TypeId) (w:World) (hx:ah w b arr T) (hc:∀ j (h:j<zs.length),arr[j]? =some (.int .i64 zs[j])) (hl:zs.length≤9223372036854775807) :
  Calls Tryz.prog 175 #[.slice (some ⟨b,0,none⟩) zs.length c] w (fun e w'=>e= .returned (.int .i64 (zs.foldl max z0))∧Below w.heap.size w w'):=by
 have H:=zh (aD5 b c zs z0 h0 arr T w hx hc hl);clear h0 hx hc hl;generalize zs.length=n at *;generalize zs.foldl max z0=z at *;go_enter Tryz.func175,Tryz.ntmps175
 go_wp2_with fail
 refine H.out.mono ?_;rintro e w1 ⟨rfl,hb1⟩;go_wp2_with fail
 go_ret
 exact ⟨rfl,hb1⟩
theorem kC (F:FuncId) (free:Array Value) (z:(Int × Int) × Int) (T:TypeId) (v:Value) (l:List (Int × Int)) (w:World) (hv:zK w T v l)
  (h1:okB l=true→∀ W,Below w.heap.size w W→Calls Tryz.prog F free W (fun e w'=>e= .returned (aY z)∧Below W.heap.size W w'))
  (hen:∀ args W,(callFunc F args).run Tryz.prog W= .ok (.enter F args) W) :
  Calls Tryz.prog 97 #[.func (.func F) #[] free,v] w (fun e w'=>e= .returned (aY (if okB l then z else ((0,0),30)))∧Below w.heap.size w w'):=by
 obtain ⟨a,cap,rfl,hc1,hc2,hread⟩:=hv.read;have HR:=zh hread;have H1:=zh h1;clear h1 hv hread;obtain ⟨z',EZ⟩:∃ y,(if okB l then z else ((0,0),30))=y:=⟨_,rfl⟩;rw [EZ];have HZ:=zh EZ;clear EZ;obtain ⟨⟨z1,z2⟩,z3⟩:=z';unfold aY at *;simp only at *;go_enter Tryz.func97,Tryz.ntmps97
 go_wp2_with fail
 obtain ⟨wx,EW,hz,R⟩:=wO w #[.int .i64 0,.int .i64 0] 40;rw [EW];clear EW;have HB:=zh hz;clear hz;obtain ⟨bx,eb⟩:∃ y,w.heap.size=y:=⟨_,rfl⟩;rw [eb] at R ⊢;go_wp2_with fail
 go_loopw [11] (fun iv wr=>∃ k:Nat,iv= .int .i64 (k:Int)∧k≤l.length∧Hid (∀ j (h:j<l.length),j<k→dY l[j].1 l[j].2=true)∧Below wx.heap.size wx wr) (fun iv _=>l.length - (intOf iv).toNat)
 case atStart=>exact ⟨0,rfl,by omega,zh (fun j _ h=>by omega),Below.refl _ _⟩
 case round =>
  obtain ⟨k,rfl,hk,HK,hb⟩:=hrel
  rcases Nat.lt_or_ge k l.length with hlt|hge
  ·obtain ⟨b,off,rfl,hbl,hx1,hx2⟩:=HR.out k hlt;have hB:=Bt HB.out hb;have hc1:=(hB.cell (p:=⟨b,off+k*2,none⟩) hbl).trans hx1;have hc2:=(hB.cell (p:=⟨b,off+k*2+1,none⟩) hbl).trans hx2;clear hx1 hx2;have HV:=zh (fun W=>mO l[k].1 l[k].2 W);obtain ⟨bk,EK⟩:∃ y,dY l[k].1 l[k].2=y:=⟨_,rfl⟩;have HE:=zh EK;rw [EK] at HV;clear EK;generalize hlk:l[k]=lk at *;have HLK:=zh hlk;clear hlk;obtain ⟨y1,y2⟩:=lk;simp only at *;replace R:=R.bl hb;go_wp2_with fail
   obtain ⟨wy,EW,hz,Y⟩:=wO wr #[.int .i64 y1,.int .i64 y2] 40;rw [EW];clear EW;refine (HV.out _).mono ?_;rintro e w1 ⟨rfl,hb1⟩;have hw:=Bt hb (Bt hz hb1);replace R:=(R.bl hz).bl hb1;clear hc1 hc2 hz hb1 Y HV;cases bk
   ·have hx:=R.out;have cx:=hx.cell;have fx:=hx.free;have lx:=hx.lt;go_wp2_with fail
    refine aM rfl rfl aJ Tryz.underlying40 rfl zk ?_
    have hno:okB l=false:=by
     unfold okB;rw [List.all_eq_false];refine ⟨l[k],List.getElem_mem _,?_⟩;rw [HLK.out,HE.out];simp
    have he:=HZ.out;rw [hno] at he;cases he
    have hB2:=Bt HB.out hw;exact ⟨rfl,aD⟩
   ·go_wp2_with fail
    go_roundw
    case rel =>
     refine ⟨k+1,by go_num,by omega,zh fun j hj hjk=>?_,hw⟩
     rcases Nat.lt_or_ge j k with h|h
     ·exact HK.out j hj h
     ·obtain rfl:j=k:=by omega
      rw [HLK.out,HE.out]
    case measure=>exact zM
  ·obtain rfl:k=l.length:=by omega
   have hyes:okB l=true:=by
    unfold okB;rw [List.all_eq_true];intro x hx;obtain ⟨j,hj,rfl⟩:=List.getElem_of_mem hx;exact HK.out j hj hj
   have he:=HZ.out;rw [if_pos hyes] at he;subst he;have HH:=zh (H1.out hyes);simp only at HH;clear hyes H1;replace R:=R.bl hb;have hB:=Bt HB.out hb;go_wp2_with fail
   refine (HH.out _ hB).mono ?_;rintro e w1 ⟨rfl,hb1⟩;have hw:=Bt hB hb1;replace R:=R.bl hb1;have hx:=R.out;have cx:=hx.cell;have fx:=hx.free;have lx:=hx.lt;clear hb1;go_wp2_with fail
   refine aM rfl rfl aJ Tryz.underlying40 rfl zk ?_;exact ⟨rfl,aD⟩
def ad4 (lo hi:Int):(Int × Int) × Int:=if dY lo hi then dK (max (max lo (-hi)) 0) (max (-lo) hi) else ((0,0),30)
theorem aq8 (lo hi:Int) (h0:dY lo hi=true) (b:Nat) (w:World) (h:ah w b #[.int .i64 lo,.int .i64 hi] 40):Calls Tryz.prog 174 #[.pointer (some ⟨b,0,none⟩)] w (fun e w'=>e= .returned (aY (dK (max (max lo (-hi)) 0) (max (-lo) hi)))∧Below w.heap.size w w'):=by
 obtain ⟨hk1,hk2,hk3⟩: -1000000000000000000≤lo∧lo≤hi∧hi≤1000000000000000000:=by simpa [dY] using h0
 have H:=zh (fun W=>iM (max (max lo (-hi)) 0) (max (-lo) hi) W)
 have G1:Hid (∀ W c,ah W c #[.int .i64 lo,.int .i64 (-hi),.int .i64 0] 3→Calls Tryz.prog 175 #[.slice (some ⟨c,0,none⟩) 3 3] W (fun e w'=>e= .returned (.int .i64 (max (max lo (-hi)) 0))∧Below W.heap.size W w')):=zh fun W c hc=>by
  have:=uP c 3 [lo, -hi,0] lo rfl _ _ W hc (fun j hj=>by
   have:j<3:=hj;have hj:j=0∨j=1∨j=2:=by omega
   rcases hj with rfl|rfl|rfl<;>rfl) zi
  simpa using this
 have G2:Hid (∀ W c,ah W c #[.int .i64 (-lo),.int .i64 hi] 3→Calls Tryz.prog 175 #[.slice (some ⟨c,0,none⟩) 2 2] W (fun e w'=>e= .returned (.int .i64 (max (-lo) hi))∧Below W.heap.size W w')):=zh fun W c hc=>by
  have:=uP c 2 [-lo,hi] (-lo) rfl _ _ W hc (fun j hj=>by
   have:j<2:=hj;have hj:j=0∨j=1:=by omega
   rcases hj with rfl|rfl<;>rfl) zi
  simpa using this
 generalize dK (max (max lo (-hi)) 0) (max (-lo) hi)=z at *;generalize max (max lo (-hi)) 0=m1 at *;generalize max (-lo) hi=m2 at *;obtain ⟨⟨z1,z2⟩,z3⟩:=z;unfold aY at *;simp only at *;go_enter Tryz.func174,Tryz.ntmps174
 go_wp2_with fail
 obtain ⟨wx,EW,hz,R⟩:=wO w #[.int .i64 0,.int .i64 0] 40;rw [EW];clear EW;have hcell:∀ W,Below w.heap.size w W→∀ o v,(#[Value.int .i64 lo,.int .i64 hi]:Array Value)[o]? =some v→W.cell? ⟨b,o,none⟩=some v:=fun W hW o v hv=>((h.later hW).cell o).trans hv;have B:=h.later hz;have HB:=zh hz;clear hz h;obtain ⟨bx,eb⟩:∃ y,w.heap.size=y:=⟨_,rfl⟩;rw [eb] at R ⊢;have cB:=B.cell;have lB:=B.lt;have R:=R.out;have n1: -9223372036854775808≤ -hi:=by omega
 have W:Hid (∀ a:Int, -1000000000000000000≤a→a≤1000000000000000000→IntKind.i64.wrap (-a)= -a):=zh fun a h1 h2=>by rw [IntKind.wrap_i64];omega
 have w1:=W.out hi zo hk3;have w2:=W.out lo hk1 zo;have hB0:=HB.out
 go_region_held (fun w'=>w'.cell? ⟨b,0,none⟩=some (.int .i64 lo)∧w'.cell? ⟨b,1,none⟩=some (.int .i64 hi)∧Below w.heap.size w w')
  ((refine ⟨hcell _ ?_ 0 _ rfl,hcell _ ?_ 1 _ rfl,?_⟩<;>exact aD))
  (first
  | (go_at_call 175;first|(with_reducible refine (G1.out _ _ ?_).mono ?_;exact aJ;rintro e wa ⟨rfl,hba⟩;have Ra:ah wa bx #[.int .i64 0,.int .i64 0] 40:=aJ)|(with_reducible refine (G2.out _ _ ?_).mono ?_;exact aJ;rintro e wb ⟨rfl,hbb⟩;have Rb:ah wb bx #[.int .i64 0,.int .i64 0] 40:=aJ))
  | (go_at_call 96;refine (H.out _).mono ?_;rintro e wc ⟨rfl,hbc⟩;have hx:ah wc bx #[.int .i64 0,.int .i64 0] 40:=aJ;have cx:=hx.cell;have fx:=hx.free;have lx:=hx.lt))
 all_goals
  go_wp2_with fail
  refine aM rfl rfl aJ Tryz.underlying40 rfl zk ?_;exact ⟨rfl,aD⟩
theorem af8 (lo hi:Int) (w:World):Calls Tryz.prog 94 #[.agg #[.int .i64 lo,.int .i64 hi]] w (fun e w'=>e= .returned (aY (ad4 lo hi))∧Below w.heap.size w w'):=by
 have H:Hid (∀ W b c,ah W b #[.int .i64 lo,.int .i64 hi] 40→ah W c #[.int .i64 lo,.int .i64 hi] 40→Calls Tryz.prog 97 #[.func (.func 174) #[] #[.pointer (some ⟨b,0,none⟩)],.slice (some ⟨c,0,none⟩) 1 1] W (fun e w'=>e= .returned (aY (ad4 lo hi))∧Below W.heap.size W w')):=zh fun W b c h1 h2=>by
  have:=kC 174 #[.pointer (some ⟨b,0,none⟩)] _ _ _ _ W (zK.one h2) (fun h W' hW'=>aq8 lo hi (by simpa [okB] using h) b W' (h1.later hW')) (fun args W=>by rfl);have e:okB [(lo,hi)]=dY lo hi:=by simp [okB]
  rw [e] at this;exact this
 generalize ad4 lo hi=z at *;obtain ⟨⟨z1,z2⟩,z3⟩:=z;unfold aY at *;simp only at *;go_enter Tryz.func94,Tryz.ntmps94
 go_wp2_with fail
 obtain ⟨wx,EW,hz,X,R,Z⟩:=Ji w #[.int .i64 lo,.int .i64 hi] 40 #[.int .i64 0,.int .i64 0] 40 #[.int .i64 lo,.int .i64 hi] 40;rw [EW];clear EW;have HB:=zh hz;clear hz;refine (H.out _ _ _ X.out Z.out).mono ?_;rintro e w1 ⟨rfl,hb1⟩;replace R:=R.bl hb1;replace HB:=zh (Bt HB.out hb1);clear hb1 H;have hx:=R.out;have cx:=hx.cell;have fx:=hx.free;have lx:=hx.lt;have hw:=HB.out;go_wp2_with fail
 refine aM rfl rfl aJ Tryz.underlying40 rfl zk ?_;exact ⟨rfl,aD⟩
def pG (n:Int) (d:Nat) (up:Bool):Int:=if up then -(-n / (d:Int)) else n / (d:Int)
def sZ (p d:Nat) (b:Bool):Nat:=if 0<p%d∧b=true then p / d+1 else p / d
theorem Uh (p d:Nat) (hd:0<d): -(p:Int) / (d:Int)= -((sZ p d true:Nat):Int):=by
 have h:=Nat.div_add_mod p d;have hr:=Nat.mod_lt p hd;unfold sZ;generalize p / d=q at *;generalize p%d=r at *
 have e: -(p:Int)= -(r:Int)+(d:Int)* -(q:Int):=by
  rw [← h,Int.natCast_add,Int.natCast_mul,Int.mul_neg];omega
 rw [e,Int.add_mul_ediv_left _ _ zo]
 by_cases h0:0<r
 ·rw [if_pos ⟨h0,rfl⟩]
  have: -(r:Int) / (d:Int)= -1:=by
   refine Int.le_antisymm ?_ ?_
   ·have:=(Int.ediv_lt_iff_lt_mul (a:= -(r:Int)) (b:=0) (c:=(d:Int)) zo).2 zo;omega
   ·rw [Int.le_ediv_iff_mul_le zo];omega
  rw [this];omega
 ·obtain rfl:r=0:=by omega
  rw [if_neg zo];simp
theorem av0 (x y:Int) {d:Nat} (hd:0<d) (up:Bool):pG (x*y) d up=gT (sZ (x.natAbs*y.natAbs) d (up != (decide (x<0) != decide (y<0)))) (decide (x<0) != decide (y<0)):=by
 rw [← yx x y];generalize x.natAbs*y.natAbs=p;generalize (decide (x<0) != decide (y<0))=neg
 have hf:((p:Int)) / (d:Int)=((sZ p d false:Nat):Int):=by
  unfold sZ;rw [if_neg zi];omega
 have hn:=Uh p d hd;unfold pG gT;cases neg<;>cases up<;>simp [hf,hn]
def jI (x y:Int) (d:Nat) (up:Bool):Int × Bool:=if (pG (x*y) d up).natAbs≤1000000000000000000 then (pG (x*y) d up,true) else (0,false)
theorem MF (x y:Int) {d:Nat} (hd:0<d) (up:Bool):jI x y d up=if sZ (x.natAbs*y.natAbs) d (up != (decide (x<0) != decide (y<0)))≤1000000000000000000 then (gT (sZ (x.natAbs*y.natAbs) d (up != (decide (x<0) != decide (y<0)))) (decide (x<0) != decide (y<0)),true) else (0,false):=by
 unfold jI;rw [av0 x y hd,jm]
end Go.Proofs.aW
namespace Go.Num
structure Jp (b Y1 Y0 un d q r:Nat):Prop where
 h1:q*Y1+r=un
 h2:(un*b+d) / (Y1*b+Y0)≤q
theorem Jp.start {b Y1 Y0 un d:Nat} (hb:0<b) (hY:0<Y1) (hd:d<b):Jp b Y1 Y0 un d (un / Y1) (un - un / Y1*Y1):=by
 have h:=Nat.div_mul_le_self un Y1;refine ⟨by omega,?_⟩
 have e:(un*b+d) / b=un:=by
  rw [Nat.mul_comm,Nat.mul_add_div hb,Nat.div_eq_of_lt hd,Nat.add_zero]
 calc (un*b+d) / (Y1*b+Y0)≤(un*b+d) / (Y1*b):=Nat.div_le_div_left zo (Nat.mul_pos hY hb)
  _=(un*b+d) / b / Y1:=by rw [Nat.div_div_eq_div_mul,Nat.mul_comm Y1 b]
  _=un / Y1:=by rw [e]
theorem Jp.step {b Y1 Y0 un d q r:Nat} (h:Jp b Y1 Y0 un d q r) (hY:0<Y1) (hd:d<b) (hun:un<Y1*b+Y0) (c:b≤q∨b*r+d<q*Y0):Jp b Y1 Y0 un d (q - 1) (r+Y1)∧1≤q:=by
 obtain ⟨h1,h2⟩:=h;have hb:0<b:=by omega
 have hYY:0<Y1*b+Y0:=by have:=Nat.mul_pos hY hb;omega
 have key:(un*b+d) / (Y1*b+Y0)<q:=by
  rcases c with c|c
  ·refine Nat.lt_of_lt_of_le ?_ c;rw [Nat.div_lt_iff_lt_mul hYY];have:(un+1)*b≤(Y1*b+Y0)*b:=Nat.mul_le_mul_right b hun;rw [Nat.succ_mul] at this;rw [Nat.mul_comm b];omega
  ·rw [Nat.div_lt_iff_lt_mul hYY];have e1:un*b=q*Y1*b+b*r:=by rw [← h1,Nat.add_mul,Nat.mul_comm r b]
   rw [Nat.mul_add,← Nat.mul_assoc,e1];omega
 have hq:1≤q:=Nat.lt_of_le_of_lt (Nat.zero_le _) key;refine ⟨⟨?_,Nat.le_sub_one_of_lt key⟩,hq⟩
 have:q*Y1=(q - 1)*Y1+Y1:=by
  conv=>lhs;rw [show q=q - 1+1 by omega,Nat.succ_mul]
 omega
theorem Jp.stop {b Y1 Y0 un d q r:Nat} (h:Jp b Y1 Y0 un d q r) (hY:0<Y1) (hb:0<b) (c:q*Y0≤b*r+d):q=(un*b+d) / (Y1*b+Y0):=by
 obtain ⟨h1,h2⟩:=h;have hYY:0<Y1*b+Y0:=by have:=Nat.mul_pos hY hb;omega
 refine Nat.le_antisymm ?_ h2;rw [Nat.le_div_iff_mul_le hYY,Nat.mul_add,← Nat.mul_assoc,← h1,Nat.add_mul,Nat.mul_comm r b];omega
theorem Jp.brk {b Y1 Y0 un d q r:Nat} (h:Jp b Y1 Y0 un d q r) (hY:0<Y1) (hb:0<b) (hY0:Y0<b) (hun:un<Y1*b+Y0) (c:b≤r):q=(un*b+d) / (Y1*b+Y0):=by
 refine h.stop hY hb ?_
 have hq:q<b:=by
  have h1:=h.h1
  have:q*Y1<b*Y1:=by
   rw [Nat.mul_comm b Y1];omega
  exact Nat.lt_of_mul_lt_mul_right this
 have a1:q*Y0≤b*b:=Nat.mul_le_mul (Nat.le_of_lt hq) (Nat.le_of_lt hY0);have a2:b*b≤b*r:=Nat.mul_le_mul_left b c;omega
theorem an0 {b un d1 d0 Y:Nat} (hY:0<Y):((un*b+d1) / Y)*b+((un*b+d1)%Y*b+d0) / Y=(un*b*b+d1*b+d0) / Y∧((un*b+d1)%Y*b+d0)%Y=(un*b*b+d1*b+d0)%Y:=by
 have h:=Nat.div_add_mod (un*b+d1) Y
 have e:un*b*b+d1*b+d0=Y*((un*b+d1) / Y*b)+((un*b+d1)%Y*b+d0):=by
  have:un*b*b+d1*b=(un*b+d1)*b:=by rw [Nat.add_mul]
  rw [this]
  conv=>lhs;rw [← h,Nat.add_mul]
  rw [← Nat.mul_assoc,Nat.add_assoc]
 rw [e];refine ⟨?_,?_⟩
 ·rw [Nat.mul_add_div hY]
 ·rw [Nat.mul_add_mod]
theorem shifted {hi lo s:Nat} (hs:s≤63) (al6:lo<18446744073709551616) :
  (hi*2^s+lo / 2^(64 - s))*4294967296*4294967296+lo*2^s%18446744073709551616 / 4294967296*4294967296+lo*2^s%18446744073709551616%4294967296=(hi*18446744073709551616+lo)*2^s∧lo / 2^(64 - s)<2^s:=by
 have e:(18446744073709551616:Nat)=2^(64 - s)*2^s:=by
  rw [← Nat.pow_add,show 64 - s+s=64 by omega]
 have h1:lo*2^s / 18446744073709551616=lo / 2^(64 - s):=by
  conv=>lhs;rw [e]
  exact Nat.mul_div_mul_right _ _ (Nat.pow_pos zo)
 have h2:=Nat.div_add_mod (lo*2^s) 18446744073709551616;have h3:=Nat.div_add_mod (lo*2^s%18446744073709551616) 4294967296;refine ⟨?_,?_⟩
 ·rw [h1] at h2
  have h4:(hi*18446744073709551616+lo)*2^s=hi*2^s*18446744073709551616+lo*2^s:=by
   rw [Nat.add_mul,Nat.mul_right_comm]
  rw [h4];omega
 ·rw [Nat.div_lt_iff_lt_mul (Nat.pow_pos zo),Nat.mul_comm,← e];exact al6
end Go.Num
namespace Go.SW
open Go Go.RowKit
structure Wk (P:Program) (ops:Array Oper) (Q:Exit→Act→World→Prop) (N:Nat) (is:List (K × Nat)) (A:List Nat) (a:Act) (w:World):Prop where
 out:walk P ops Q N is A a w
variable {P:Program} {ops:Array Oper} {Q:Exit→Act→World→Prop} {o:Oper} {i:Nat} {is:List (K × Nat)} {a:Act} {w:World} {N:Nat} {A:List Nat}
theorem mo (h:∀ w',Below w.heap.size w w'→Q .normal a w'):Wk P ops Q N [] A a w:=⟨walk_nil h⟩
theorem Ta {k:K} (hk:k.soft=true) (ho:ops[i]? =some o) (hw:Region.wanted o (yielded ops a.tmps)=false) (h:∀ J:Act→Prop,(∀ a,Wk P ops Q N is A a w→J a)→J (a.put o.dst undef)):Wk P ops Q N ((k,i)::is) A a w :=
 ⟨vF hk ho hw fun J hJ=>h J fun a ha=>hJ a ha.out⟩
theorem Ju (ho:ops[i]? =some o) (hw:Region.wanted o (yielded ops a.tmps)=true) (h:∀ J:Act→Prop,(∀ a,Wk P ops Q N is A a w→J a)→∃ v,(∀ w',(execOp a.eval o).run P w'= .ok (.value v) w')∧J (a.put o.dst v)):Wk P ops Q N ((.pure,i)::is) A a w :=
 ⟨Cv ho hw fun J hJ=>h J fun a ha=>hJ a ha.out⟩
theorem Tc {T:TypeId} {x:Operand} {p:Addr} (ho:ops[i]? =some o) (hw:Region.wanted o (yielded ops a.tmps)=true) (hop:o.op= .load T x) (hx:a.eval x= .pointer (some p))
  (h:∀ J:Value→Prop,(∀ v,Wk P ops Q N is A (a.put o.dst v) w→J v)→(w.cell? p).isSome=true∧∃ v,(loadVar T p).run P w= .ok v w∧J v):Wk P ops Q N ((.read,i)::is) A a w :=
 ⟨Cw ho hw hop hx fun J hJ=>h J fun v hv=>hJ v hv.out⟩
theorem dV (ho:ops[i]? =some o) (hw:Region.wanted o (yielded ops a.tmps)=true) (h:∀ w',Below w.heap.size w w'→∀ J:Act→World→Prop,(∀ a' w'',Below w'.heap.size w' w''→Wk P ops Q N is A a' w''→J a' w'')→o.wp P a w' J Q):Wk P ops Q N ((.ext,i)::is) A a w :=
 ⟨Vm ho hw fun w' hb J hJ=>h w' hb J fun a' w'' hb' hk=>hJ a' w'' hb' hk.out⟩
theorem wS (l:List Oper) (hl:(i::is.map (·.2)).map (ops[·]?)=l.map some) (h:∀ w',Below w.heap.size w w'→wpList P ops Q l a w'):Wk P ops Q N ((.fin,i)::is) A a w:=⟨aU l hl h⟩
theorem xX {cs:Array Value} {T:TypeId} (ho:ops[i]? =some o) (h:∀ b w',Below w.heap.size w w'→N≤b→b<w'.heap.size→b∉A→w'.heap[b]? =some (.cells cs T (0,0))→Wk P ops Q N is (b::A) (a.put o.dst (.pointer (some ⟨b,0,none⟩))) w'):Wk P ops Q N ((.alloc cs T,i)::is) A a w :=
 ⟨cK ho fun b w' h1 h2 h3 h4 h5=>(h b w' h1 h2 h3 h4 h5).out⟩
theorem Yh {t:TypeId} {x:Operand} {p:Option Addr} {n c:Nat} (ho:ops[i]? =some o) (hw:Region.wanted o (yielded ops a.tmps)=true) (hop:o.op= .call { callee:=.builtin .len,args:=#[x],argTypes:=#[t] }) (hx:a.eval x= .slice p n c) (ht:P.underlying t=some (.slice (P.elem t)))
  (h:∀ J:Act→Prop,(∀ a,Wk P ops Q N is A a w→J a)→J (a.put o.dst (.int .i64 n))):Wk P ops Q N ((.pure,i)::is) A a w :=
 Ju ho hw fun J hJ=>⟨.int .i64 n,fun w'=>by simp [execOp,hop,hx,resolve,invoke,builtin,Sem.run_bind,run_len_slice w' _ _ _ _ _ ht,goInt],h J hJ⟩
end Go.SW
namespace Go.Proofs.bits
open Go Go.RowKit Go.SW Go.Num Go.Mem Go.Proofs Go.Shelf
theorem Zi {y:Nat} (h0:0<y) (h:y<18446744073709551616):∃ s:Nat,s≤63∧(64:Int) - (Lib.bitLen y:Int)=(s:Int)∧9223372036854775808≤y*2^s∧y*2^s<18446744073709551616:=by
 obtain ⟨h1,h2,h3⟩:=Lib.bitLenAux_bounds 64 y h zo;have h4:=Lib.bitLen_le y 64 zo h;have e:Lib.bitLenAux 64 y=Lib.bitLen y:=rfl;rw [e] at h1 h2 h3;generalize Lib.bitLen y=b at *;refine ⟨64 - b,by omega,by omega,?_,?_⟩
 ·have:2^(b - 1)*2^(64 - b)≤y*2^(64 - b):=Nat.mul_le_mul_right _ h2;rw [← Nat.pow_add,show b - 1+(64 - b)=63 by omega] at this
  simpa using this
 ·have:y*2^(64 - b)<2^b*2^(64 - b):=Nat.mul_lt_mul_of_pos_right h3 (Nat.pow_pos zo);rw [← Nat.pow_add,show b+(64 - b)=64 by omega] at this
  simpa using this
def Wds (Y1 Y0 L1 L0:Nat):Prop:=2147483648≤Y1∧Y1<4294967296∧Y0<4294967296∧L1<4294967296∧L0<4294967296
theorem aA6 {Y1 Y0 U d q r:Nat} (h:Jp 4294967296 Y1 Y0 U d q r) (h1:2147483648≤Y1) (hU:U<18446744073709551616):q<18446744073709551616:=by
 have e:=h.h1
 rcases Nat.eq_zero_or_pos q with h|h
 ·omega
 ·have:=Nat.le_mul_of_pos_right q (show 0<Y1 by omega);omega
theorem rJ {Y1 Y0 L1 L0 U d q r:Nat} (h:Jp 4294967296 Y1 Y0 U d q r) (hr:r<4294967296) (hb:Wds Y1 Y0 L1 L0) (hU:U<Y1*4294967296+Y0) (hd:d<4294967296) (c:4294967296≤q∨4294967296*r+d<q*Y0) :
  ∃ q' r':Nat,Hid (Jp 4294967296 Y1 Y0 U d q' r')∧Hid (q'<q)∧IntKind.u64.wrap ((q:Int) - 1)=(q':Int)∧IntKind.u64.wrap ((r:Int)+(Y1:Int))=(r':Int):=by
 unfold Wds at hb;have hq:=aA6 h hb.1 zo;obtain ⟨hd2,hq1⟩:=h.step zo hd hU c;refine ⟨_,_,zh hd2,zh zo,?_,?_⟩
 ·rw [IntKind.wrap_u64];omega
 ·rw [IntKind.wrap_u64];omega
theorem sF {Y1 Y0 L1 L0 d q r:Nat} (hq:q<4294967296) (hr:r<4294967296) (hb:Wds Y1 Y0 L1 L0) (hd:d<4294967296) :
  ∃ T V:Nat,Hid (q*Y0=T)∧Hid (4294967296*r+d=V)∧IntKind.u64.wrap ((q:Int)*(Y0:Int))=(T:Int)∧IntKind.u64.wrap (IntKind.u64.wrap (4294967296*(r:Int))+(d:Int))=(V:Int):=by
 unfold Wds at hb;refine ⟨_,_,zh rfl,zh rfl,?_,?_⟩
 ·have:q*Y0≤4294967295*4294967295:=Nat.mul_le_mul zo zo;rw [← Int.natCast_mul,IntKind.wrap_u64];generalize q*Y0=T at *;omega
 ·rw [IntKind.wrap_u64,IntKind.wrap_u64];omega
theorem IC {U d Y q:Nat} (hY:0<Y) (hq:q=(U*4294967296+d) / Y) (hd:d<4294967296) (am2:Y<18446744073709551616) :
  IntKind.u64.wrap (IntKind.u64.wrap (IntKind.u64.wrap ((U:Int)*4294967296)+(d:Int)) - IntKind.u64.wrap ((q:Int)*(Y:Int)))=(((U*4294967296+d)%Y:Nat):Int):=by
 have h:=Nat.div_add_mod (U*4294967296+d) Y;have hm:=Nat.mod_lt (U*4294967296+d) hY;rw [← hq] at h;have e:(q:Int)*(Y:Int)=((Y*q:Nat):Int):=by rw [Int.natCast_mul,Int.mul_comm]
 rw [e];generalize Y*q=T at *;generalize (U*4294967296+d)%Y=V at *;rw [IntKind.wrap_u64,IntKind.wrap_u64,IntKind.wrap_u64,IntKind.wrap_u64];omega
theorem rP {U L1 L0 Y Y1 Y0 q:Nat} (hq:q=(U*4294967296+L1) / (Y1*4294967296+Y0)) (hY:Y1*4294967296+Y0=Y) (hb:Wds Y1 Y0 L1 L0) (hUY:U<Y) (am2:Y<18446744073709551616) :
  ∃ W q0 r0:Nat,Hid (W=(U*4294967296+L1)%Y)∧Hid (W<Y)∧IntKind.u64.wrap (IntKind.u64.wrap (IntKind.u64.wrap ((U:Int)*4294967296)+(L1:Int)) - IntKind.u64.wrap ((q:Int)*(Y:Int)))=(W:Int)∧IntKind.u64.wrap ((W:Int) / (Y1:Int))=(q0:Int)∧IntKind.u64.wrap ((W:Int) - IntKind.u64.wrap ((q0:Int)*(Y1:Int)))=(r0:Int)∧Hid (r0<4294967296)∧Hid (∀ d,d<4294967296→Jp 4294967296 Y1 Y0 W d q0 r0):=by
 unfold Wds at hb;rw [hY] at hq;have hYp:0<Y:=by omega
 have h1:=IC hYp hq hb.2.2.2.1 am2;have hm:=Nat.mod_lt (U*4294967296+L1) hYp;obtain ⟨W,eW⟩:∃ W,(U*4294967296+L1)%Y=W:=⟨_,rfl⟩;rw [eW] at h1 hm;refine ⟨W,W / Y1,W - W / Y1*Y1,zh eW.symm,zh hm,h1,?_,?_,zh ?_,zh fun d hd=>Jp.start zo zo hd⟩
 ·rw [← Int.natCast_ediv,IntKind.wrap_u64];have:=Nat.div_le_self W Y1;generalize W / Y1=q at *;omega
 ·have:=Nat.div_mul_le_self W Y1;rw [← Int.natCast_mul,IntKind.wrap_u64,IntKind.wrap_u64];omega
 ·have h2:=Nat.div_add_mod W Y1;have h3:=Nat.mod_lt W (show 0<Y1 by omega);rw [Nat.mul_comm] at h2;omega
theorem iN {U L1 L0 Y Y1 Y0 q q0 W:Nat} (hq:q=(U*4294967296+L1) / (Y1*4294967296+Y0)) (hq0:q0=(W*4294967296+L0) / (Y1*4294967296+Y0)) (hW:W=(U*4294967296+L1)%Y) (hb:Wds Y1 Y0 L1 L0) (hY:Y1*4294967296+Y0=Y) (am2:Y<18446744073709551616) (hN:(U*4294967296*4294967296+L1*4294967296+L0) / Y<18446744073709551616) :
  IntKind.u64.wrap (IntKind.u64.wrap ((q:Int)*4294967296)+(q0:Int))=(((U*4294967296*4294967296+L1*4294967296+L0) / Y:Nat):Int)∧IntKind.u64.wrap (IntKind.u64.wrap (IntKind.u64.wrap ((W:Int)*4294967296)+(L0:Int)) - IntKind.u64.wrap ((q0:Int)*(Y:Int)))=(((U*4294967296*4294967296+L1*4294967296+L0)%Y:Nat):Int):=by
 unfold Wds at hb;rw [hY] at hq hq0;have hYp:0<Y:=by omega
 obtain ⟨h1,h2⟩:=an0 (b:=4294967296) (un:=U) (d1:=L1) (d0:=L0) hYp;rw [← hq,← hW,← hq0] at h1;rw [← hW] at h2;refine ⟨?_,?_⟩
 ·rw [← h1] at hN ⊢;rw [IntKind.wrap_u64,IntKind.wrap_u64];omega
 ·rw [IC hYp hq0 hb.2.2.2.2 am2,h2]
theorem af4 (hi lo y:Nat) (hy:hi<y) (y64:y<18446744073709551616) (al6:lo<18446744073709551616) (w:World) :
  Calls Tryz.prog 178 #[.int .u64 (hi:Int),.int .u64 (lo:Int),.int .u64 (y:Int)] w (fun e w'=>e= .returned (.tuple #[.int .u64 (((hi*18446744073709551616+lo) / y:Nat):Int),.int .u64 (((hi*18446744073709551616+lo)%y:Nat):Int)])∧Below w.heap.size w w'):=by
 have q1:¬ (y:Int)=0:=by omega
 have q2:¬ (y:Int)≤(hi:Int):=by omega
 by_cases h0:hi=0
 ·subst h0;go_enter Tryz.func178,Tryz.ntmps178
  go_wp2_with fail
  refine aF [(.pure,0),(.pure,1),(.pure,2),(.pure,3),(.pure,4),(.pure,5),(.fin,6),(.fin,7)] zk zk zR zP ?_;refine Wk.out ?_
  (iterate 6 refine zU ?_)
  refine wS [_,_] rfl (fun wf hbf=>?_);go_wp2_with fail
  go_ret2
  have e1:IntKind.u64.wrap ((lo:Int) / (y:Int))=(((0*18446744073709551616+lo) / y:Nat):Int):=by
   rw [Nat.zero_mul,Nat.zero_add,IntKind.wrap_u64];have:=Nat.div_le_self lo y;rw [← Int.natCast_ediv];generalize lo / y=q at *;omega
  have e2:(lo:Int)%(y:Int)=(((0*18446744073709551616+lo)%y:Nat):Int):=by
   rw [Nat.zero_mul,Nat.zero_add];omega
  rw [e1,e2];exact ⟨rfl,((Below.refl _ w).drew.trans (hbf.mono (Nat.le_refl _)))⟩
 ·obtain ⟨s,hs,e1,e2,e3⟩:=Zi (y:=y) zo y64;have LZ:=zh (fun W=>(Tryz.bits_LeadingZeros64 (y:Int) W zo zo));rw [Int.toNat_natCast,e1] at LZ;have q3:¬ (hi:Int)=0:=by omega
  obtain ⟨hN,hlt⟩:=shifted (hi:=hi) hs al6;have hm:min s 64=s:=by omega
  have hp2:0<2^s:=Nat.pow_pos zo;have hw:IntKind.u64.wrap (s:Int)=(s:Int):=by rw [IntKind.wrap_u64];omega
  have hAY:hi*2^s+2^s≤y*2^s:=by
   have:=Nat.mul_le_mul_right (2^s) hy;rw [Nat.succ_mul] at this;exact this
  have cY:(y:Int)*2^s=((y*2^s:Nat):Int):=by simp
  have cA:(hi:Int)*2^s=((hi*2^s:Nat):Int):=by simp
  have cL:(lo:Int)*2^s=((lo*2^s:Nat):Int):=by simp
  have cB:(lo:Int) / 2^(64 - s)=((lo / 2^(64 - s):Nat):Int):=by simp
  have hOr:bits BinOp.or IntKind.u64 ((hi*2^s:Nat):Int) ((lo / 2^(64 - s):Nat):Int)=((hi*2^s+lo / 2^(64 - s):Nat):Int):=by
   rw [bits_or_u64_nat _ _ zo (by have:=Nat.div_le_self lo (2^(64 - s));omega)]
   congr 1
   rw [Nat.mul_comm hi];exact (Nat.two_pow_add_eq_or_of_lt hlt hi).symm
  have hyd:∀ a:Nat,a / y=a*2^s / (y*2^s)∧a%y=a*2^s%(y*2^s) / 2^s:=fun a=>by
   have hp:0<2^s:=Nat.pow_pos zo;refine ⟨(Nat.mul_div_mul_right _ _ hp).symm,?_⟩;rw [Nat.mul_mod_mul_right,Nat.mul_div_cancel _ hp]
  have hNB:(hi*18446744073709551616+lo) / y<18446744073709551616:=by
   rw [Nat.div_lt_iff_lt_mul zo];omega
  rw [(hyd _).1,← hN] at hNB;rw [(hyd _).1,(hyd _).2,← hN];have cS:∀ a:Nat,(a:Int) / 2^s=((a / 2^s:Nat):Int):=fun a=>by simp
  have hYp:2^63≤y*2^s:=e2;obtain ⟨Y,eY⟩:∃ Y,y*2^s=Y:=⟨_,rfl⟩;obtain ⟨A,eA⟩:∃ A,hi*2^s=A:=⟨_,rfl⟩;obtain ⟨B,eB⟩:∃ B,lo / 2^(64 - s)=B:=⟨_,rfl⟩;obtain ⟨L,eL⟩:∃ L,lo*2^s=L:=⟨_,rfl⟩;rw [eY,eA] at hAY;rw [eY] at e2 e3 cY hYp;rw [eA] at cA;rw [eL] at cL;rw [eB] at cB hlt;rw [eA,eB] at hOr;rw [eY,eA,eB,eL];rw [eY,eA,eB,eL] at hNB;obtain ⟨L',eL'⟩:∃ L',L%18446744073709551616=L':=⟨_,rfl⟩;obtain ⟨U,eU⟩:∃ U,A+B=U:=⟨_,rfl⟩;rw [eU] at hOr;rw [eL',eU];rw [eL',eU] at hNB;have hUY:U<Y:=by omega
  have w1:IntKind.u64.wrap (Y:Int)=(Y:Int):=by rw [IntKind.wrap_u64];omega
  have w2:IntKind.u64.wrap (A:Int)=(A:Int):=by rw [IntKind.wrap_u64];omega
  have w3:IntKind.u64.wrap (L:Int)=(L':Int):=by rw [IntKind.wrap_u64];omega
  have a1:bits BinOp.and IntKind.u64 (Y:Int) 4294967295=((Y%4294967296:Nat):Int):=Mul64.maskN Y zo;have a2:bits BinOp.and IntKind.u64 (L':Int) 4294967295=((L'%4294967296:Nat):Int):=Mul64.maskN L' zo;have d1:(Y:Int) / 4294967296=((Y / 4294967296:Nat):Int):=by omega
  have d2:(L':Int) / 4294967296=((L' / 4294967296:Nat):Int):=by omega
  have hYY:Y / 4294967296*4294967296+Y%4294967296=Y:=by rw [Nat.mul_comm];exact Nat.div_add_mod Y 4294967296
  obtain ⟨Y1,eY1⟩:∃ Y1,Y / 4294967296=Y1:=⟨_,rfl⟩;obtain ⟨Y0,eY0⟩:∃ Y0,Y%4294967296=Y0:=⟨_,rfl⟩;obtain ⟨L1,eL1⟩:∃ L1,L' / 4294967296=L1:=⟨_,rfl⟩;obtain ⟨L0,eL0⟩:∃ L0,L'%4294967296=L0:=⟨_,rfl⟩;have b1:2147483648≤Y1∧Y1<4294967296∧Y0<4294967296∧L1<4294967296∧L0<4294967296:=by omega
  rw [eY1] at d1 hYY;rw [eY0] at a1 hYY;rw [eL1] at d2;rw [eL0] at a2;rw [eL1,eL0];rw [eL1,eL0] at hNB;obtain ⟨hst⟩:Nonempty (Jp 4294967296 Y1 Y0 U L1 (U / Y1) (U - U / Y1*Y1)):=⟨Jp.start zo zo zo⟩
  have hQ:IntKind.u64.wrap ((U:Int) / (Y1:Int))=((U / Y1:Nat):Int):=by
   rw [← Int.natCast_ediv,IntKind.wrap_u64];have:=Nat.div_le_self U Y1;generalize U / Y1=q at *;omega
  have hr1:=Nat.div_mul_le_self U Y1
  have hr2:U - U / Y1*Y1<Y1:=by
   have:=Nat.div_add_mod U Y1;have:=Nat.mod_lt U (show 0<Y1 by omega);rw [Nat.mul_comm] at hr1 ⊢;omega
  have hR:IntKind.u64.wrap ((U:Int) - IntKind.u64.wrap (((U / Y1:Nat):Int)*(Y1:Int)))=((U - U / Y1*Y1:Nat):Int):=by
   rw [← Int.natCast_mul,IntKind.wrap_u64,IntKind.wrap_u64];omega
  obtain ⟨q,eq⟩:∃ q,U / Y1=q:=⟨_,rfl⟩;obtain ⟨r,er⟩:∃ r,U - U / Y1*Y1=r:=⟨_,rfl⟩;rw [er,eq] at hst hR;rw [eq] at hQ;rw [er] at hr2;have e3':=e3;have HST:=zh hst;have HNB:=zh hNB;have HB1:Hid (Wds Y1 Y0 L1 L0):=zh b1;have hz:¬ (Y1:Int)=0:=by omega
  have HUY:=zh hUY;have Cm:=zh hYY;clear hNB y64 al6 hst hN hlt hAY hyd e1 e2 e3 hr1 er eq b1 hUY hYY eY1 eY0 eL1 eL0 eU eL' eY eA eB eL hYp;go_enter Tryz.func178,Tryz.ntmps178
  go_wp2_with fail
  refine (LZ.out _).mono ?_;rintro e w' ⟨rfl,rfl⟩;go_wp2_with fail
  have RL1:Hid (r<4294967296):=zh (by have:=HB1.out.2.1;omega);have Ye:=zh e3';have ST1:=HST;have wQ:=zh (Below.refl w'.heap.size w');clear hr2 HST
  go_loopw [15,16] (fun qv rv wr=>∃ q r:Nat,qv= .int .u64 (q:Int)∧rv= .int .u64 (r:Int)∧Hid (Jp 4294967296 Y1 Y0 U L1 q r)∧Hid (r<4294967296)∧Hid (Below w'.heap.size w' wr)) (fun qv _ _=>(intOf qv).toNat)
  case atStart=>exact ⟨q,r,rfl,rfl,ST1,RL1,wQ⟩
  case round =>
   clear ST1 RL1 wQ;obtain ⟨q,r,rfl,rfl,HST,HRL,wQ⟩:=hrel;have HT:=zh (rJ HST.out HRL.out HB1.out (by rw [Cm.out];exact HUY.out) HB1.out.2.2.2.1)
   rcases Nat.lt_or_ge q 4294967296 with h1|h1
   ·have g1:decide ((4294967296:Int)≤(q:Int))=false:=decide_eq_false zo;obtain ⟨T,V,XL,HE2,m1,m2⟩:=sF h1 HRL.out HB1.out HB1.out.2.2.2.1;clear h1
    rcases Nat.lt_or_ge V T with h2|h2
    ·have g2:(V:Int)<(T:Int):=by omega
     obtain ⟨q',r',HD,HL,w1,w2⟩:=HT.out (.inr (by rw [XL.out,HE2.out];exact h2));clear h2
     rcases Nat.lt_or_ge r' 4294967296 with h3|h3
     ·have g3:decide ((4294967296:Int)≤(r':Int))=false:=decide_eq_false zo;have SI:=zh h3;clear h3;go_wp2_with fail
      go_roundw
      case rel=>exact ⟨q',r',rfl,rfl,HD,SI,wQ⟩
      case measure=>have:=HL.out;simp [intOf];omega
     ·have g3:decide ((4294967296:Int)≤(r':Int))=true:=decide_eq_true zo;have HQ:=zh (HD.out.brk (Nat.lt_of_lt_of_le zo HB1.out.1) zo HB1.out.2.2.1 ((by rw [Cm.out];exact HUY.out)) h3);clear h3;obtain ⟨W,q0,r0,HW,HWY,x1,x2,x3,RL2,Au⟩:=rP HQ.out Cm.out HB1.out HUY.out Ye.out;have XI:=HQ;have ST2:=zh (Au.out L0 HB1.out.2.2.2.2);clear HQ Au;go_wp2_with fail
      go_loopw [18,16] (fun qv rv wr=>∃ q r:Nat,qv= .int .u64 (q:Int)∧rv= .int .u64 (r:Int)∧Hid (Jp 4294967296 Y1 Y0 W L0 q r)∧Hid (r<4294967296)∧Hid (Below w'.heap.size w' wr)) (fun qv _ _=>(intOf qv).toNat)
      case atStart=>exact ⟨q0,r0,rfl,rfl,ST2,RL2,wQ⟩
      case round =>
       clear ST2 RL2 wQ;obtain ⟨q,r,rfl,rfl,HST,HRL,wQ⟩:=hrel;have HT:=zh (rJ HST.out HRL.out HB1.out (by rw [Cm.out];exact HWY.out) HB1.out.2.2.2.2)
       rcases Nat.lt_or_ge q 4294967296 with h1|h1
       ·have g1:decide ((4294967296:Int)≤(q:Int))=false:=decide_eq_false zo;obtain ⟨T,V,XL,HE2,m1,m2⟩:=sF h1 HRL.out HB1.out HB1.out.2.2.2.2;clear h1
        rcases Nat.lt_or_ge V T with h2|h2
        ·have g2:(V:Int)<(T:Int):=by omega
         obtain ⟨q',r',HD,HL,w1,w2⟩:=HT.out (.inr (by rw [XL.out,HE2.out];exact h2));clear h2
         rcases Nat.lt_or_ge r' 4294967296 with h3|h3
         ·have g3:decide ((4294967296:Int)≤(r':Int))=false:=decide_eq_false zo;have SI:=zh h3;clear h3;go_wp2_with fail
          go_roundw
          case rel=>exact ⟨q',r',rfl,rfl,HD,SI,wQ⟩
          case measure=>have:=HL.out;simp [intOf];omega
         ·have g3:decide ((4294967296:Int)≤(r':Int))=true:=decide_eq_true zo;have HQ:=zh (HD.out.brk (Nat.lt_of_lt_of_le zo HB1.out.1) zo HB1.out.2.2.1 ((by rw [Cm.out];exact HWY.out)) h3);clear h3;have HE:=zh (iN XI.out HQ.out HW.out HB1.out Cm.out Ye.out HNB.out);have e1:=HE.out.1;have e2:=HE.out.2;go_wp2_with fail
          go_ret2
          exact ⟨by simp,wQ.out⟩
        ·have g2:¬ (V:Int)<(T:Int):=by omega
         have HQ:=zh (HST.out.stop (Nat.lt_of_lt_of_le zo HB1.out.1) zo (by rw [XL.out,HE2.out];exact h2));clear h2;have HE:=zh (iN XI.out HQ.out HW.out HB1.out Cm.out Ye.out HNB.out);have e1:=HE.out.1;have e2:=HE.out.2;go_wp2_with fail
         go_ret2
         exact ⟨by simp,wQ.out⟩
       ·have g1:decide ((4294967296:Int)≤(q:Int))=true:=decide_eq_true zo;obtain ⟨q',r',HD,HL,w1,w2⟩:=HT.out (.inl h1);clear h1
        rcases Nat.lt_or_ge r' 4294967296 with h3|h3
        ·have g3:decide ((4294967296:Int)≤(r':Int))=false:=decide_eq_false zo;have SI:=zh h3;clear h3;go_wp2_with fail
         go_roundw
         case rel=>exact ⟨q',r',rfl,rfl,HD,SI,wQ⟩
         case measure=>have:=HL.out;simp [intOf];omega
        ·have g3:decide ((4294967296:Int)≤(r':Int))=true:=decide_eq_true zo;have HQ:=zh (HD.out.brk (Nat.lt_of_lt_of_le zo HB1.out.1) zo HB1.out.2.2.1 ((by rw [Cm.out];exact HWY.out)) h3);clear h3;have HE:=zh (iN XI.out HQ.out HW.out HB1.out Cm.out Ye.out HNB.out);have e1:=HE.out.1;have e2:=HE.out.2;go_wp2_with fail
         go_ret2
         exact ⟨by simp,wQ.out⟩
    ·have g2:¬ (V:Int)<(T:Int):=by omega
     have HQ:=zh (HST.out.stop (Nat.lt_of_lt_of_le zo HB1.out.1) zo (by rw [XL.out,HE2.out];exact h2));clear h2;obtain ⟨W,q0,r0,HW,HWY,x1,x2,x3,RL2,Au⟩:=rP HQ.out Cm.out HB1.out HUY.out Ye.out;have XI:=HQ;have ST2:=zh (Au.out L0 HB1.out.2.2.2.2);clear HQ Au;go_wp2_with fail
     go_loopw [18,16] (fun qv rv wr=>∃ q r:Nat,qv= .int .u64 (q:Int)∧rv= .int .u64 (r:Int)∧Hid (Jp 4294967296 Y1 Y0 W L0 q r)∧Hid (r<4294967296)∧Hid (Below w'.heap.size w' wr)) (fun qv _ _=>(intOf qv).toNat)
     case atStart=>exact ⟨q0,r0,rfl,rfl,ST2,RL2,wQ⟩
     case round =>
      clear ST2 RL2 wQ;obtain ⟨q,r,rfl,rfl,HST,HRL,wQ⟩:=hrel;have HT:=zh (rJ HST.out HRL.out HB1.out (by rw [Cm.out];exact HWY.out) HB1.out.2.2.2.2)
      rcases Nat.lt_or_ge q 4294967296 with h1|h1
      ·have g1:decide ((4294967296:Int)≤(q:Int))=false:=decide_eq_false zo;obtain ⟨T,V,XL,HE2,m1,m2⟩:=sF h1 HRL.out HB1.out HB1.out.2.2.2.2;clear h1
       rcases Nat.lt_or_ge V T with h2|h2
       ·have g2:(V:Int)<(T:Int):=by omega
        obtain ⟨q',r',HD,HL,w1,w2⟩:=HT.out (.inr (by rw [XL.out,HE2.out];exact h2));clear h2
        rcases Nat.lt_or_ge r' 4294967296 with h3|h3
        ·have g3:decide ((4294967296:Int)≤(r':Int))=false:=decide_eq_false zo;have SI:=zh h3;clear h3;go_wp2_with fail
         go_roundw
         case rel=>exact ⟨q',r',rfl,rfl,HD,SI,wQ⟩
         case measure=>have:=HL.out;simp [intOf];omega
        ·have g3:decide ((4294967296:Int)≤(r':Int))=true:=decide_eq_true zo;have HQ:=zh (HD.out.brk (Nat.lt_of_lt_of_le zo HB1.out.1) zo HB1.out.2.2.1 ((by rw [Cm.out];exact HWY.out)) h3);clear h3;have HE:=zh (iN XI.out HQ.out HW.out HB1.out Cm.out Ye.out HNB.out);have e1:=HE.out.1;have e2:=HE.out.2;go_wp2_with fail
         go_ret2
         exact ⟨by simp,wQ.out⟩
       ·have g2:¬ (V:Int)<(T:Int):=by omega
        have HQ:=zh (HST.out.stop (Nat.lt_of_lt_of_le zo HB1.out.1) zo (by rw [XL.out,HE2.out];exact h2));clear h2;have HE:=zh (iN XI.out HQ.out HW.out HB1.out Cm.out Ye.out HNB.out);have e1:=HE.out.1;have e2:=HE.out.2;go_wp2_with fail
        go_ret2
        exact ⟨by simp,wQ.out⟩
      ·have g1:decide ((4294967296:Int)≤(q:Int))=true:=decide_eq_true zo;obtain ⟨q',r',HD,HL,w1,w2⟩:=HT.out (.inl h1);clear h1
       rcases Nat.lt_or_ge r' 4294967296 with h3|h3
       ·have g3:decide ((4294967296:Int)≤(r':Int))=false:=decide_eq_false zo;have SI:=zh h3;clear h3;go_wp2_with fail
        go_roundw
        case rel=>exact ⟨q',r',rfl,rfl,HD,SI,wQ⟩
        case measure=>have:=HL.out;simp [intOf];omega
       ·have g3:decide ((4294967296:Int)≤(r':Int))=true:=decide_eq_true zo;have HQ:=zh (HD.out.brk (Nat.lt_of_lt_of_le zo HB1.out.1) zo HB1.out.2.2.1 ((by rw [Cm.out];exact HWY.out)) h3);clear h3;have HE:=zh (iN XI.out HQ.out HW.out HB1.out Cm.out Ye.out HNB.out);have e1:=HE.out.1;have e2:=HE.out.2;go_wp2_with fail
        go_ret2
        exact ⟨by simp,wQ.out⟩
   ·have g1:decide ((4294967296:Int)≤(q:Int))=true:=decide_eq_true zo;obtain ⟨q',r',HD,HL,w1,w2⟩:=HT.out (.inl h1);clear h1
    rcases Nat.lt_or_ge r' 4294967296 with h3|h3
    ·have g3:decide ((4294967296:Int)≤(r':Int))=false:=decide_eq_false zo;have SI:=zh h3;clear h3;go_wp2_with fail
     go_roundw
     case rel=>exact ⟨q',r',rfl,rfl,HD,SI,wQ⟩
     case measure=>have:=HL.out;simp [intOf];omega
    ·have g3:decide ((4294967296:Int)≤(r':Int))=true:=decide_eq_true zo;have HQ:=zh (HD.out.brk (Nat.lt_of_lt_of_le zo HB1.out.1) zo HB1.out.2.2.1 ((by rw [Cm.out];exact HUY.out)) h3);clear h3;obtain ⟨W,q0,r0,HW,HWY,x1,x2,x3,RL2,Au⟩:=rP HQ.out Cm.out HB1.out HUY.out Ye.out;have XI:=HQ;have ST2:=zh (Au.out L0 HB1.out.2.2.2.2);clear HQ Au;go_wp2_with fail
     go_loopw [18,16] (fun qv rv wr=>∃ q r:Nat,qv= .int .u64 (q:Int)∧rv= .int .u64 (r:Int)∧Hid (Jp 4294967296 Y1 Y0 W L0 q r)∧Hid (r<4294967296)∧Hid (Below w'.heap.size w' wr)) (fun qv _ _=>(intOf qv).toNat)
     case atStart=>exact ⟨q0,r0,rfl,rfl,ST2,RL2,wQ⟩
     case round =>
      clear ST2 RL2 wQ;obtain ⟨q,r,rfl,rfl,HST,HRL,wQ⟩:=hrel;have HT:=zh (rJ HST.out HRL.out HB1.out (by rw [Cm.out];exact HWY.out) HB1.out.2.2.2.2)
      rcases Nat.lt_or_ge q 4294967296 with h1|h1
      ·have g1:decide ((4294967296:Int)≤(q:Int))=false:=decide_eq_false zo;obtain ⟨T,V,XL,HE2,m1,m2⟩:=sF h1 HRL.out HB1.out HB1.out.2.2.2.2;clear h1
       rcases Nat.lt_or_ge V T with h2|h2
       ·have g2:(V:Int)<(T:Int):=by omega
        obtain ⟨q',r',HD,HL,w1,w2⟩:=HT.out (.inr (by rw [XL.out,HE2.out];exact h2));clear h2
        rcases Nat.lt_or_ge r' 4294967296 with h3|h3
        ·have g3:decide ((4294967296:Int)≤(r':Int))=false:=decide_eq_false zo;have SI:=zh h3;clear h3;go_wp2_with fail
         go_roundw
         case rel=>exact ⟨q',r',rfl,rfl,HD,SI,wQ⟩
         case measure=>have:=HL.out;simp [intOf];omega
        ·have g3:decide ((4294967296:Int)≤(r':Int))=true:=decide_eq_true zo;have HQ:=zh (HD.out.brk (Nat.lt_of_lt_of_le zo HB1.out.1) zo HB1.out.2.2.1 ((by rw [Cm.out];exact HWY.out)) h3);clear h3;have HE:=zh (iN XI.out HQ.out HW.out HB1.out Cm.out Ye.out HNB.out);have e1:=HE.out.1;have e2:=HE.out.2;go_wp2_with fail
         go_ret2
         exact ⟨by simp,wQ.out⟩
       ·have g2:¬ (V:Int)<(T:Int):=by omega
        have HQ:=zh (HST.out.stop (Nat.lt_of_lt_of_le zo HB1.out.1) zo (by rw [XL.out,HE2.out];exact h2));clear h2;have HE:=zh (iN XI.out HQ.out HW.out HB1.out Cm.out Ye.out HNB.out);have e1:=HE.out.1;have e2:=HE.out.2;go_wp2_with fail
        go_ret2
        exact ⟨by simp,wQ.out⟩
      ·have g1:decide ((4294967296:Int)≤(q:Int))=true:=decide_eq_true zo;obtain ⟨q',r',HD,HL,w1,w2⟩:=HT.out (.inl h1);clear h1
       rcases Nat.lt_or_ge r' 4294967296 with h3|h3
       ·have g3:decide ((4294967296:Int)≤(r':Int))=false:=decide_eq_false zo;have SI:=zh h3;clear h3;go_wp2_with fail
        go_roundw
        case rel=>exact ⟨q',r',rfl,rfl,HD,SI,wQ⟩
        case measure=>have:=HL.out;simp [intOf];omega
       ·have g3:decide ((4294967296:Int)≤(r':Int))=true:=decide_eq_true zo;have HQ:=zh (HD.out.brk (Nat.lt_of_lt_of_le zo HB1.out.1) zo HB1.out.2.2.1 ((by rw [Cm.out];exact HWY.out)) h3);clear h3;have HE:=zh (iN XI.out HQ.out HW.out HB1.out Cm.out Ye.out HNB.out);have e1:=HE.out.1;have e2:=HE.out.2;go_wp2_with fail
        go_ret2
        exact ⟨by simp,wQ.out⟩
end Go.Proofs.bits
namespace Go
theorem kF {P:Program} {b:Frame} {a:Act} {k:List Item} {cs:List Frame} {w:World} {c:Code}:step P (lone (b.atR a (.code (.scope c)::k)) cs w)= .next (lone (b.atR a (.code c:: .inScope c::k)) cs w) :=
 step_lone_go (by simp [stepG,stepG.exec,Frame.atR])
theorem GQ {P:Program} {b:Frame} {a:Act} {k:List Item} {cs:List Frame} {w:World} {c:Code}:step P (lone (b.atR a (.inScope c::k)) cs w)= .next (lone (b.atR a k) cs w) :=
 step_lone_go (by simp [stepG,stepG.exec,Frame.atR])
theorem Pm {F:Fence} {n:Nat} {P:Program} {Q:Exit→Act→World→Prop} {a:Act} {w:World} {c:Code} (h:c.wpIn F n P (Exit.noGoto Q) a w):(Code.scope c).wpIn F n P Q a w:=by
 intro b k cs hro hb hr;have h0:(lone (b.atR a (.code (.scope c)::k)) cs w).fenced P F:=fenced_calm hb hr rfl;obtain ⟨e,a₁,w₁,hq,harr⟩:=h b (.inScope c::k) cs hro hb hr;cases e with
 | normal=>exact ⟨.normal,a₁,w₁,hq,.head h0 kF (StepsIn.trans harr (.one (fenced_calm hb hr rfl) GQ))⟩
 | exit id =>
  have hx:exitTo id (.inScope c::k)=exitTo id k:=by simp [exitTo]
  exact ⟨.exit id,a₁,w₁,hq,fun k' hk=>.head h0 kF (harr.1 k' (by rw [hx];exact hk)),
   fun hr' hk=>let ⟨k₁,h1,h2⟩:=harr.2 hr' (by rw [hx];exact hk);⟨k₁,h1,.head h0 kF h2⟩⟩
 | goto l=>exact hq.elim
 | ret=>exact ⟨_,a₁,w₁,hq,.of_steps (.one h0 kF) harr⟩
 | panic ch=>exact ⟨_,a₁,w₁,hq,.of_steps (.one h0 kF) harr⟩
 | outgrown=>exact ⟨_,a₁,w₁,hq,.of_steps (.one h0 kF) harr⟩
end Go
namespace Go.Proofs.aW
open Go Go.RowKit Go.SW Go.Num Go.Mem Go.Proofs Go.fF
theorem aD4 (b c:Nat) (zs:List Int) (z0:Int) (h0:zs[0]? =some z0) (arr:Array Value) (T:TypeId) (w:World) (hx:ah w b arr T) (hc:∀ j (h:j<zs.length),arr[j]? =some (.int .i64 zs[j])) (hl:zs.length≤9223372036854775807) :
  Calls Tryz.prog 243 #[.slice (some ⟨b,0,none⟩) zs.length c] w (fun e w'=>e= .returned (.int .i64 (zs.foldl min z0))∧Below w.heap.size w w'):=by
 have hn:0<zs.length:=by
  rcases Nat.eq_zero_or_pos zs.length with h|h
  ·rw [List.getElem?_eq_none zo] at h0;cases h0
  ·exact h
 have hz0:zs[0]=z0:=by
  rw [List.getElem?_eq_getElem hn] at h0;exact Option.some.inj h0
 have h00:w.cell? ⟨b,0,none⟩=some (.int .i64 z0):=by
  rw [hx.cell,hc 0 hn,hz0]
 have lb:=hx.lt;have g1:decide ((zs.length:Int)<1)=false:=by simp;omega
 have HX:=zh hx;have HC:=zh hc;clear hx hc;go_enter Tryz.func243,Tryz.ntmps243
 go_wp2_with fail
 go_loopw [3,4] (fun m i wr=>∃ k:Nat,0<k∧k≤zs.length∧i= .int .i64 (k:Int)∧m= .int .i64 ((zs.take k).foldl min z0)∧Below w.heap.size w wr) (fun _ i _=>zs.length - (intOf i).toNat)
 case atStart =>
  refine ⟨1,by omega,hn,rfl,?_,Below.refl _ _⟩;cases zs with
  | nil=>simp at hn
  | cons x t =>
   simp only [List.getElem_cons_zero] at hz0;subst hz0;simp
 case round =>
  obtain ⟨k,hk0,hk,rfl,rfl,hb⟩:=hrel
  by_cases hlt:k<zs.length
  ·have hcell:=((HX.out.later hb).cell k).trans (HC.out k hlt)
   have hstep:(zs.take (k+1)).foldl min z0=min ((zs.take k).foldl min z0) zs[k]:=by
    rw [List.take_succ_eq_append_getElem hlt,List.foldl_append];rfl
   have HS:=zh hstep;clear hstep;generalize zs[k]=zk at *;generalize (zs.take k).foldl min z0=mk at *;go_wp2_with fail
   go_roundw
   case rel=>exact ⟨k+1,by omega,by omega,by go_num,by rw [HS.out]<;>go_num,hb⟩
   case measure=>exact zM
  ·obtain rfl:k=zs.length:=by omega
   rw [List.take_length];go_wp2_with fail
   go_ret
   exact ⟨rfl,hb⟩
theorem Zt (b c:Nat) (zs:List Int) (z0:Int) (h0:zs[0]? =some z0) (arr:Array Value) (T:TypeId) (w:World) (hx:ah w b arr T) (hc:∀ j (h:j<zs.length),arr[j]? =some (.int .i64 zs[j])) (hl:zs.length≤9223372036854775807) :
  Calls Tryz.prog 179 #[.slice (some ⟨b,0,none⟩) zs.length c] w (fun e w'=>e= .returned (.int .i64 (zs.foldl min z0))∧Below w.heap.size w w'):=by
 have H:=zh (aD4 b c zs z0 h0 arr T w hx hc hl);clear h0 hx hc hl;generalize zs.length=n at *;generalize zs.foldl min z0=z at *;go_enter Tryz.func179,Tryz.ntmps179
 go_wp2_with fail
 refine H.out.mono ?_;rintro e w1 ⟨rfl,hb1⟩;go_wp2_with fail
 go_ret
 exact ⟨rfl,hb1⟩
theorem JG (x:Int) (h1: -9223372036854775808<x) (h2:x<9223372036854775808) (w:World):Calls Tryz.prog 177 #[.int .i64 x] w (fun e w'=>e= .returned (.int .u64 (x.natAbs:Int))∧Below w.heap.size w w'):=by
 by_cases h:x<0
 ·have e:IntKind.u64.wrap (IntKind.i64.wrap (-x))=(x.natAbs:Int):=by rw [IntKind.wrap_i64,IntKind.wrap_u64];omega
  go_enter Tryz.func177,Tryz.ntmps177
  go_wp2_with fail
  go_ret
  refine ⟨?_,Below.refl _ _⟩
  show Ending.returned (.int .u64 (-x))=_
  rw [show -x=(x.natAbs:Int) by omega]
 ·have e:IntKind.u64.wrap x=(x.natAbs:Int):=by rw [IntKind.wrap_u64];omega
  go_enter Tryz.func177,Tryz.ntmps177
  go_wp2_with fail
  go_ret
  exact ⟨rfl,Below.refl _ _⟩
def qy (P d:Nat) (b neg:Bool):Int × Bool:=if sZ P d b≤1000000000000000000 then (gT (sZ P d b) neg,true) else (0,false)
theorem YL {P d:Nat} {b neg:Bool} (h:1000000000000000000<P / d):qy P d b neg=(0,false):=by
 unfold qy sZ;generalize P / d=q at *;rw [if_neg];split<;>omega
theorem VH {P d:Nat} {neg:Bool} (hr:0<P%d) (h:1000000000000000000<P / d+1):qy P d true neg=(0,false):=by
 unfold qy sZ;rw [if_pos (⟨hr,rfl⟩:0<P%d∧true=true),if_neg (by generalize P / d=q at*; omega)]
theorem ai1 {P d:Nat} {neg:Bool} (hr:0<P%d) (h:P / d+1≤1000000000000000000):qy P d true neg=(gT (P / d+1) neg,true):=by
 unfold qy sZ;rw [if_pos (⟨hr,rfl⟩:0<P%d∧true=true),if_pos h]
theorem ai2 {P d:Nat} {b neg:Bool} (hr:P%d=0∨b=false) (h:P / d≤1000000000000000000):qy P d b neg=(gT (P / d) neg,true):=by
 have hn:¬ (0<P%d∧b=true):=by
  rintro ⟨h1,h2⟩
  rcases hr with h3|h3
  ·omega
  ·rw [h3] at h2;cases h2
 have e:sZ P d b=P / d:=if_neg hn;unfold qy;rw [e,if_pos h]
def jQ (x y d:Int) (up:Bool):Int × Bool:=jI (if d<0 then -x else x) y d.natAbs up
theorem VG (d:Nat) (b n1 n2:Bool):qy 0 d b n1=qy 0 d b n2:=by
 have e:sZ 0 d b=0:=by unfold sZ;simp
 unfold qy gT;rw [e];cases n1<;>cases n2<;>rfl
theorem ai0 (d:Nat) (b c n:Bool):qy 0 d b n=qy 0 d c n:=by
 have e:∀ b,sZ 0 d b=0:=fun b=>by unfold sZ;simp
 unfold qy;rw [e,e]
theorem Yz (n:Nat):gT n true= -(n:Int):=rfl
theorem YC (n:Nat):gT n false=(n:Int):=rfl
theorem YK (x y d:Int) (hd:d≠0) (up:Bool):jQ x y d up=qy (x.natAbs*y.natAbs) d.natAbs (up != ((decide (x<0) != decide (y<0)) != decide (d<0))) ((decide (x<0) != decide (y<0)) != decide (d<0)):=by
 have hd':0<d.natAbs:=by omega
 unfold jQ
 by_cases h:d<0
 ·rw [if_pos h,decide_eq_true h];have e:=MF (-x) y hd' up;rw [Int.natAbs_neg] at e;refine e.trans ?_
  show qy _ _ _ _=_
  by_cases h0:x=0
  ·subst h0;rw [Int.natAbs_zero,Nat.zero_mul];exact (VG _ _ _ _).trans (ai0 _ _ _ _)
  ·have:decide (-x<0)= !decide (x<0):=by
    by_cases hx:x<0
    ·rw [decide_eq_true hx,decide_eq_false zo];rfl
    ·rw [decide_eq_false hx,decide_eq_true zo];rfl
   rw [this];cases decide (x<0)<;>cases decide (y<0)<;>rfl
 ·rw [if_neg h,decide_eq_false h];refine (MF x y hd' up).trans ?_;rw [Bool.bne_false];rfl
theorem Df (x y d:Int) (up:Bool) (hx:x.natAbs≤1000000000000000000) (hy:y.natAbs≤1000000000000000000) (hd:d≠0) (hd2:d.natAbs≤1000000000000000000) (w:World) :
    Calls Tryz.prog 95 #[.int .i64 x,.int .i64 y,.int .i64 d,.bool up] w (fun e w'=>e= .returned (.tuple #[.int .i64 (jQ x y d up).1,.bool (jQ x y d up).2])∧Below w.heap.size w w'):=by
  have S1:=zh (fun W=>JG x zo zo W);have S2:=zh (fun W=>JG y zo zo W);have S3:=zh (fun W=>JG d zo zo W);have hq:=YK x y d hd up;obtain ⟨nx,ex⟩:∃ b,decide (x<0)=b:=⟨_,rfl⟩;obtain ⟨ny,ey⟩:∃ b,decide (y<0)=b:=⟨_,rfl⟩;obtain ⟨nd,ed⟩:∃ b,decide (d<0)=b:=⟨_,rfl⟩;rw [ex,ey,ed] at hq;obtain ⟨P,eP⟩:∃ P,x.natAbs*y.natAbs=P:=⟨_,rfl⟩;obtain ⟨D,eD⟩:∃ D,d.natAbs=D:=⟨_,rfl⟩;rw [eP,eD] at hq;rw [eD] at S3
  have hP:P<18446744073709551616*18446744073709551616:=by
    rw [← eP]
    calc x.natAbs*y.natAbs≤1000000000000000000*1000000000000000000:=Nat.mul_le_mul hx hy
      _<_:=by decide
  have hD:0<D:=by omega
  have hD2:D≤1000000000000000000:=by omega
  rw [hq]
  have M1:Hid (∀ W,Calls Tryz.prog 176 #[.int .u64 (x.natAbs:Int),.int .u64 (y.natAbs:Int)] W (fun e w'=>e= .returned (.tuple #[.int .u64 ((P / 18446744073709551616:Nat):Int),.int .u64 ((P%18446744073709551616:Nat):Int)])∧Below W.heap.size W w')):=zh fun W=>by
    refine (Tryz.bits_Mul64 x.natAbs y.natAbs zo zo W).mono ?_;rintro e w' ⟨rfl,rfl⟩;rw [eP];exact ⟨rfl,Below.refl _ _⟩
  have hlo:=Nat.mod_lt P (show 0<18446744073709551616 by omega);have QF:=Nat.div_add_mod P 18446744073709551616
  have D1:Hid (P / 18446744073709551616<D→∀ W,Calls Tryz.prog 178 #[.int .u64 ((P / 18446744073709551616:Nat):Int),.int .u64 ((P%18446744073709551616:Nat):Int),.int .u64 (D:Int)] W (fun e w'=>e= .returned (.tuple #[.int .u64 ((P / D:Nat):Int),.int .u64 ((P%D:Nat):Int)])∧Below W.heap.size W w')):=zh fun hlt W=>by
    have:=bits.af4 (P / 18446744073709551616) (P%18446744073709551616) D hlt zo hlo W;rw [show P / 18446744073709551616*18446744073709551616+P%18446744073709551616=P by rw [Nat.mul_comm];exact QF] at this;exact this
  have hbig:D≤P / 18446744073709551616→18446744073709551616≤P / D:=fun h=>by
    rw [Nat.le_div_iff_mul_le hD];have:=Nat.mul_le_mul_left 18446744073709551616 h;omega
  obtain ⟨hi,ehi⟩:∃ a,P / 18446744073709551616=a:=⟨_,rfl⟩;obtain ⟨lo,elo⟩:∃ a,P%18446744073709551616=a:=⟨_,rfl⟩;rw [ehi,elo] at M1 D1;rw [ehi] at hbig;have HBG:=zh hbig;clear hx hy hd hd2 hq eP eD hP hlo QF ehi elo hbig hD hD2;obtain ⟨q,eq⟩:∃ a,P / D=a:=⟨_,rfl⟩;obtain ⟨r,er⟩:∃ a,P%D=a:=⟨_,rfl⟩;rw [eq,er] at D1;rw [eq] at HBG;have Q1:Hid (∀ b neg,1000000000000000000<q→qy P D b neg=(0,false)):=zh fun b neg h=>YL (by rw [eq];exact h);have Q2:Hid (∀ neg,0<r→1000000000000000000<q+1→qy P D true neg=(0,false)):=zh fun neg h1 h2=>VH (by rw [er];exact h1) (by rw [eq];exact h2);have Q3:Hid (∀ neg,0<r→q+1≤1000000000000000000→qy P D true neg=(gT (q+1) neg,true)):=zh fun neg h1 h2=>by rw [ai1 (by rw [er];exact h1) (by rw [eq];exact h2),eq]
  have Q4:Hid (∀ b neg,(r=0∨b=false)→q≤1000000000000000000→qy P D b neg=(gT q neg,true)):=zh fun b neg h1 h2=>by rw [ai2 (by rw [er];exact h1) (by rw [eq];exact h2),eq]
  clear eq er;generalize qy P D=QR at *;obtain ⟨ng,hn⟩:∃ b,((nx != ny) != nd)=b:=⟨_,rfl⟩;rw [hn];obtain ⟨bb,hb0⟩:∃ b,(up != ng)=b:=⟨_,rfl⟩;rw [hb0];obtain ⟨⟨z1,z2⟩,hz⟩:∃ z,QR bb ng=z:=⟨_,rfl⟩;rw [hz];have HZ:=zh hz;clear hz;simp only;cases bb<;>cases nx<;>cases ny<;>cases nd<;>cases up
  all_goals first|(obtain rfl:true=ng:=hn)|(obtain rfl:false=ng:=hn)
  all_goals first|(exfalso;revert hb0;decide)|skip
  all_goals
    clear hb0;go_enter Tryz.func95,Tryz.ntmps95
    go_wp2_with fail
    refine (S1.out _).mono ?_;rintro e w1 ⟨rfl,hb⟩;have HB:=zh hb;clear hb;go_wp2_with fail
    refine (S2.out _).mono ?_;rintro e w2 ⟨rfl,hb⟩;replace HB:=zh (Bt HB.out hb);clear hb;go_wp2_with fail
    refine (M1.out _).mono ?_;rintro e w3 ⟨rfl,hb⟩;replace HB:=zh (Bt HB.out hb);clear hb;go_wp2_with fail
    refine (S3.out _).mono ?_;rintro e w4 ⟨rfl,hb⟩;replace HB:=zh (Bt HB.out hb);clear hb
    rcases Nat.lt_or_ge hi D with c1|c1
    rotate_left
    · have g1:decide (D≤hi)=true:=decide_eq_true zo
      have g1':D≤hi:=c1;obtain ⟨rfl,rfl⟩:z1=0∧z2=false:=by have h:=HZ.out;rw [Q1.out _ _ (by have:=HBG.out c1;omega)] at h;cases h;exact ⟨rfl,rfl⟩
      clear c1 Q1 Q2 Q3 Q4 ex ey ed;go_wp2_with fail
      go_ret2
      exact ⟨rfl,HB.out⟩
    have g1:decide (D≤hi)=false:=decide_eq_false zo;have g1':¬ D≤hi:=by omega
    have D2:=zh (D1.out c1);clear c1 ex ey ed;go_wp2_with fail
    refine (S3.out _).mono ?_;rintro e w5 ⟨rfl,hb⟩;replace HB:=zh (Bt HB.out hb);clear hb;go_wp2_with fail
    refine (D2.out _).mono ?_;rintro e w6 ⟨rfl,hb⟩;replace HB:=zh (Bt HB.out hb);clear hb g1 g1' D1 D2
    rcases Nat.lt_or_ge 1000000000000000000 q with c2|c2
    · have g2:decide ((1000000000000000000:Int)<(q:Int))=true:=decide_eq_true zo
      obtain ⟨rfl,rfl⟩:z1=0∧z2=false:=by have h:=HZ.out;rw [Q1.out _ _ c2] at h;cases h;exact ⟨rfl,rfl⟩
      have C2:=zh c2;clear c2 Q1 Q2 Q3 Q4;go_wp2_with fail
      go_ret2
      exact ⟨rfl,HB.out⟩
    have g2:decide ((1000000000000000000:Int)<(q:Int))=false:=decide_eq_false zo;have w1:IntKind.i64.wrap (q:Int)=(q:Int):=by rw [IntKind.wrap_i64];omega
    have w2:IntKind.i64.wrap (-(q:Int))= -(q:Int):=by rw [IntKind.wrap_i64];omega
    have w3:IntKind.u64.wrap ((q:Int)+1)=((q+1:Nat):Int):=by rw [IntKind.wrap_u64];omega
    rcases Nat.eq_zero_or_pos r with c3|c3
    · subst c3
      have h:=HZ.out;rw [Q4.out _ _ (.inl rfl) c2] at h
      first|rw [Yz] at h|rw [YC] at h
      cases h
      have C2:=zh c2;clear c2 Q1 Q2 Q3 Q4 w3;go_wp2_with fail
      go_ret2
      exact ⟨rfl,HB.out⟩
    have g3:(0:Int)<(r:Int):=by omega
    first
      | (have h:=HZ.out
         rw [Q4.out false _ (Or.inr rfl) c2] at h
         first|rw [Yz] at h|rw [YC] at h
         cases h
         have C2:=zh (And.intro c2 c3);clear c2 c3 Q1 Q2 Q3 Q4 w3;go_wp2_with fail
         go_ret2
         exact ⟨rfl,HB.out⟩)
      | (obtain ⟨q',eq'⟩:∃ a,q+1=a:=⟨_,rfl⟩
         rw [eq'] at w3 Q2 Q3
         rcases Nat.lt_or_ge 1000000000000000000 q' with c4|c4
         · have g4:decide ((1000000000000000000:Int)<(q':Int))=true:=decide_eq_true zo
           obtain ⟨rfl,rfl⟩:z1=0∧z2=false:=by have h:=HZ.out;rw [Q2.out _ c3 c4] at h;cases h;exact ⟨rfl,rfl⟩
           have C2:=zh (And.intro c2 (And.intro c3 (And.intro c4 eq')));clear c2 c3 c4 eq' Q1 Q2 Q3 Q4 w1 w2;go_wp2_with fail
           go_ret2
           exact ⟨rfl,HB.out⟩
         · have g4:decide ((1000000000000000000:Int)<(q':Int))=false:=decide_eq_false zo
           have w1':IntKind.i64.wrap (q':Int)=(q':Int):=by rw [IntKind.wrap_i64];omega
           have w2':IntKind.i64.wrap (-(q':Int))= -(q':Int):=by rw [IntKind.wrap_i64];omega
           have h:=HZ.out;rw [Q3.out _ c3 c4] at h
           first|rw [Yz] at h|rw [YC] at h
           cases h
           have C2:=zh (And.intro c2 (And.intro c3 (And.intro c4 eq')));clear c2 c3 c4 eq' Q1 Q2 Q3 Q4 w1 w2;go_wp2_with fail
           go_ret2
           exact ⟨rfl,HB.out⟩)
theorem YJ (x y:Int) {d:Nat} (up:Bool):jQ x y (d:Int) up=jI x y d up:=by
 unfold jQ;rw [if_neg zo,Int.natAbs_natCast]
theorem ME (x y:Int) (d:Nat) (up:Bool) (hx:x.natAbs≤1000000000000000000) (hy:y.natAbs≤1000000000000000000) (hd:0<d) (hd2:d≤1000000000000000000) (w:World) :
  Calls Tryz.prog 95 #[.int .i64 x,.int .i64 y,.int .i64 (d:Int),.bool up] w (fun e w'=>e= .returned (.tuple #[.int .i64 (jI x y d up).1,.bool (jI x y d up).2])∧Below w.heap.size w w'):=by
 have h:=Df x y (d:Int) up hx hy zo zo w;rw [YJ] at h;exact h
theorem ap5 (x y:Int) (up:Bool) (hx:x.natAbs≤1000000000000000000) (hy:y.natAbs≤1000000000000000000) (w:World) :
  Calls Tryz.prog 101 #[.int .i64 x,.int .i64 y,.bool up] w (fun e w'=>e= .returned (.tuple #[.int .i64 (jI x y 1000000000000 up).1,.bool (jI x y 1000000000000 up).2])∧Below w.heap.size w w'):=by
 have H:=zh (fun W=>ME x y 1000000000000 up hx hy zo zo W);generalize jI x y 1000000000000 up=z at *;obtain ⟨z1,z2⟩:=z;simp only at *;go_enter Tryz.func101,Tryz.ntmps101
 go_wp2_with fail
 refine (H.out _).mono ?_;rintro e w1 ⟨rfl,hb⟩;go_wp2_with fail
 go_ret2
 exact ⟨rfl,hb⟩
def TD (a:Int × Int) (k:Nat):Int:=if k / 2=0 then a.1 else a.2
def OX (b:Int × Int) (k:Nat):Int:=if k%2=0 then b.1 else b.2
def vN (Q:Int→Int→Bool→Int × Bool) (a b:Int × Int) (k:Nat):Int × Bool:=Q (TD a k) (OX b k) false
def vP (Q:Int→Int→Bool→Int × Bool) (a b:Int × Int) (k:Nat):Int × Bool:=Q (TD a k) (OX b k) true
def aa9 (Q:Int→Int→Bool→Int × Bool) (a b:Int × Int):Bool:=(List.range 4).all fun k=>(vN Q a b k).2&&(vP Q a b k).2
def qp (Q:Int→Int→Bool→Int × Bool) (a b:Int × Int):(Int × Int) × Int:=if aa9 Q a b then dK ([(vN Q a b 0).1,(vN Q a b 1).1,(vN Q a b 2).1,(vN Q a b 3).1].foldl min (vN Q a b 0).1) ([(vP Q a b 0).1,(vP Q a b 1).1,(vP Q a b 2).1,(vP Q a b 3).1].foldl max (vP Q a b 0).1) else ((0,0),6)
def WR (f:Nat→Int × Bool) (k q:Nat):Int:=if q<k then (f q).1 else 0
def Ar (f:Nat→Int × Bool) (k:Nat):Array Value:=#[.int .i64 (WR f k 0),.int .i64 (WR f k 1),.int .i64 (WR f k 2),.int .i64 (WR f k 3)]
theorem ah.aS5 (w:World) (o o2 o3 o4:Obj) (cs:Array Value) (T:TypeId):ah (((((w.alloc o).alloc o2).alloc o3).alloc o4).alloc (.cells cs T (0,0))) (w.heap.size+1+1+1+1) cs T:=ah.Ke zi
theorem aD0 (w:World) (c0:Array Value) (T0:TypeId) (c1:Array Value) (T1:TypeId) (c2:Array Value) (T2:TypeId) (c3:Array Value) (T3:TypeId) (c4:Array Value) (T4:TypeId):∃ y,((((w.alloc (.cells c0 T0 (0,0))).alloc (.cells c1 T1 (0,0))).alloc (.cells c2 T2 (0,0))).alloc (.cells c3 T3 (0,0))).alloc (.cells c4 T4 (0,0))=y∧Below w.heap.size w y∧Hid (ah y (w.heap.size) c0 T0)∧Hid (ah y (w.heap.size+1) c1 T1)∧Hid (ah y (w.heap.size+1+1) c2 T2)∧Hid (ah y (w.heap.size+1+1+1) c3 T3)∧Hid (ah y (w.heap.size+1+1+1+1) c4 T4):=⟨_,rfl,bI (bI (bI (bI (bI (Below.refl _ _) _) _) _) _) _,zh (ah.alloc (ah.alloc (ah.alloc (ah.alloc (ah.new _ _ _) _) _) _) _),zh (ah.alloc (ah.alloc (ah.alloc (ah.pF _ _ _ _) _) _) _),zh (ah.alloc (ah.alloc (ah.at2 _ _ _ _ _) _) _),zh (ah.alloc (ah.at3 _ _ _ _ _ _) _),zh (ah.aS5 _ _ _ _ _ _ _)⟩
structure Pj (Q:Int→Int→Bool→Int × Bool) (w0:World) (a b:Int × Int) (wr:World) (k:Nat):Prop where
 ba:ah wr w0.heap.size #[.int .i64 a.1,.int .i64 a.2] 40
 bb:ah wr (w0.heap.size+1) #[.int .i64 b.1,.int .i64 b.2] 40
 br:ah wr (w0.heap.size+1+1) #[.int .i64 0,.int .i64 0] 40
 bl:ah wr (w0.heap.size+1+1+1) (Ar (vN Q a b) k) 198
 bh:ah wr (w0.heap.size+1+1+1+1) (Ar (vP Q a b) k) 198
 bw:Below w0.heap.size w0 wr
 ok:∀ q,q<k→(vN Q a b q).2=true∧(vP Q a b q).2=true
theorem Pj.later {Q:Int→Int→Bool→Int × Bool} {w0 wr w':World} {a b:Int × Int} {k:Nat} (h:Pj Q w0 a b wr k) (hb:Below wr.heap.size wr w'):Pj Q w0 a b w' k :=
 ⟨h.ba.later hb,h.bb.later hb,h.br.later hb,h.bl.later hb,h.bh.later hb,Bt h.bw hb,h.ok⟩
theorem Oq (f:Nat→Int × Bool) {k:Nat} (hk:k<4):(Ar f k).setIfInBounds k (.int .i64 (f k).1)=Ar f (k+1):=by
 have:k=0∨k=1∨k=2∨k=3:=by omega
 rcases this with rfl|rfl|rfl|rfl<;>simp [Ar,WR]
theorem Pj.step {Q:Int→Int→Bool→Int × Bool} {w0 wr:World} {a b:Int × Int} {k:Nat} (h:Pj Q w0 a b wr k) (hk:k<4) (h1:(vN Q a b k).2=true) (h2:(vP Q a b k).2=true) :
  Pj Q w0 a b ((wr.setCell ⟨w0.heap.size+1+1+1,k,none⟩ (.int .i64 (vN Q a b k).1)).setCell ⟨w0.heap.size+1+1+1+1,k,none⟩ (.int .i64 (vP Q a b k).1)) (k+1) where
 ba:=ah.setOther (ah.setOther h.ba _ (by first|(simp;done)|(simp;omega))) _ (by first|(simp;done)|(simp;omega))
 bb:=ah.setOther (ah.setOther h.bb _ (by first|(simp;done)|(simp;omega))) _ (by first|(simp;done)|(simp;omega))
 br:=ah.setOther (ah.setOther h.br _ zi) _ (by first|(simp;done)|(simp;omega))
 bl:=by
  have:=ah.setOther (h.bl.set k (.int .i64 (vN Q a b k).1)) (a:=⟨w0.heap.size+1+1+1+1,k,none⟩) (.int .i64 (vP Q a b k).1) zi
  rwa [Oq _ hk] at this
 bh:=by
  have:=(ah.setOther h.bh (a:=⟨w0.heap.size+1+1+1,k,none⟩) (.int .i64 (vN Q a b k).1) zi).set k (.int .i64 (vP Q a b k).1)
  rwa [Oq _ hk] at this
 bw:=(h.bw.setCell (p:=⟨w0.heap.size+1+1+1,k,none⟩) (by simp;omega) _).setCell (p:=⟨w0.heap.size+1+1+1+1,k,none⟩) (by simp;omega) _
 ok:=fun q hq=>by
  rcases Nat.lt_or_ge q k with h'|h'
  ·exact h.ok q h'
  ·obtain rfl:q=k:=by omega
   exact ⟨h1,h2⟩
theorem Uq (f:Nat→Int × Bool) (j:Nat) (h:j<[(f 0).1,(f 1).1,(f 2).1,(f 3).1].length):(Ar f 4)[j]? =some (.int .i64 [(f 0).1,(f 1).1,(f 2).1,(f 3).1][j]):=by
 have:j=0∨j=1∨j=2∨j=3:=by have:j<4:=h;omega
 rcases this with rfl|rfl|rfl|rfl<;>simp [Ar,WR]
theorem ah2 {Q:Int→Int→Bool→Int × Bool} {a b:Int × Int} {k:Nat} (hk:k<4) (h:(vN Q a b k).2=false∨(vP Q a b k).2=false):qp Q a b=((0,0),6):=by
 unfold qp;rw [if_neg];intro hf;unfold aa9 at hf;have:=List.all_eq_true.1 hf k (by simp [hk])
 rcases h with h|h<;>simp [h] at this
theorem wY (Q:Int→Int→Bool→Int × Bool) (F:FuncId) (fr:Array Value) (x y z t:Int) (w:World)
  (HC:∀ k up W,Below w.heap.size w W→Calls Tryz.prog F (#[.int .i64 (TD (x,y) k),.int .i64 (OX (z,t) k),.bool up]++fr) W (fun e w'=>e= .returned (.tuple #[.int .i64 (Q (TD (x,y) k) (OX (z,t) k) up).1,.bool (Q (TD (x,y) k) (OX (z,t) k) up).2])∧Below W.heap.size W w'))
  (hen:∀ args W,(callFunc F args).run Tryz.prog W= .ok (.enter F args) W) :
  Calls Tryz.prog 100 #[.agg #[.int .i64 x,.int .i64 y],.agg #[.int .i64 z,.int .i64 t],.func (.func F) #[] fr] w (fun e w'=>e= .returned (aY (qp Q (x,y) (z,t)))∧Below w.heap.size w w'):=by
 have HL:Hid (∀ k W,Below w.heap.size w W→Calls Tryz.prog F (#[.int .i64 (TD (x,y) k),.int .i64 (OX (z,t) k),.bool false]++fr) W (fun e w'=>e= .returned (.tuple #[.int .i64 (vN Q (x,y) (z,t) k).1,.bool (vN Q (x,y) (z,t) k).2])∧Below W.heap.size W w')):=zh fun k W h=>HC k false W h;have HH:Hid (∀ k W,Below w.heap.size w W→Calls Tryz.prog F (#[.int .i64 (TD (x,y) k),.int .i64 (OX (z,t) k),.bool true]++fr) W (fun e w'=>e= .returned (.tuple #[.int .i64 (vP Q (x,y) (z,t) k).1,.bool (vP Q (x,y) (z,t) k).2])∧Below W.heap.size W w')):=zh fun k W h=>HC k true W h;clear HC;have HN:=zh (fun k (hk:k<4) h=>ah2 (Q:=Q) (a:=(x,y)) (b:=(z,t)) (k:=k) hk h);obtain ⟨⟨⟨s1,s2⟩,s3⟩,es⟩:∃ s,qp Q (x,y) (z,t)=s:=⟨_,rfl⟩;rw [es];have HS:=zh es;unfold aY;clear es;go_enter Tryz.func100,Tryz.ntmps100
 go_wp2_with fail
 go_step3
 go_wp2_with fail
 go_step3
 go_wp2_with fail
 obtain ⟨w0,EW,hb,X3,X4,X6,X8,X9⟩:=aD0 w #[.int .i64 x,.int .i64 y] 40 #[.int .i64 z,.int .i64 t] 40 #[.int .i64 0,.int .i64 0] 40 #[.int .i64 0,.int .i64 0,.int .i64 0,.int .i64 0] 198 #[.int .i64 0,.int .i64 0,.int .i64 0,.int .i64 0] 198;rw [EW];clear EW;have HS0:Hid (Pj Q w (x,y) (z,t) w0 0):=zh ⟨X3.out,X4.out,X6.out,X8.out,X9.out,hb,fun q h=>absurd h zo⟩;clear X3 X4 X6 X8 X9 hb
 go_loopw [10,24] (fun fv iv wr=>∃ i:Int,fv= .bool true∧iv= .int .i64 i∧Hid ((i=0∧Pj Q w (x,y) (z,t) wr 0)∨(i=1∧Pj Q w (x,y) (z,t) wr 2)∨(i=2∧Pj Q w (x,y) (z,t) wr 4))) (fun _ iv _=>2 - (intOf iv).toNat)
 case atStart=>exact ⟨0,rfl,rfl,zh (.inl ⟨rfl,HS0.out⟩)⟩
 case round =>
  clear HS0;obtain ⟨i,rfl,rfl,HI⟩:=hrel
  rcases HI.out with ⟨rfl,hS⟩|⟨rfl,hS⟩|⟨rfl,hS⟩
  ·clear HI;have hix:∀ W,(Instr.index 199 (.agg #[.int .i64 x,.int .i64 y]) (.int .i64 0)).run Tryz.prog W= .ok (.int .i64 x) W:=fun W=>by kernel_rfl
   obtain ⟨c4,l4⟩:=(zh hS.bb).cl;have HS0:=zh hS;clear hS;go_wp2_with fail
   clear hix c4 l4
   go_loopw [10,33] (fun fv jv wr=>∃ j:Int,fv= .bool true∧jv= .int .i64 j∧Hid ((j=0∧Pj Q w (x,y) (z,t) wr 0)∨(j=1∧Pj Q w (x,y) (z,t) wr 1)∨(j=2∧Pj Q w (x,y) (z,t) wr 2))) (fun _ jv _=>2 - (intOf jv).toNat)
   case atStart=>exact ⟨0,rfl,rfl,zh (.inl ⟨rfl,HS0.out⟩)⟩
   case round =>
    clear HS0;obtain ⟨j,rfl,rfl,HJ⟩:=hrel
    rcases HJ.out with ⟨rfl,hS⟩|⟨rfl,hS⟩|⟨rfl,hS⟩
    ·clear HJ;obtain ⟨⟨l1,l2⟩,el⟩:∃ v,vN Q (x,y) (z,t) 0=v:=⟨_,rfl⟩;obtain ⟨⟨h1,h2⟩,eh⟩:∃ v,vP Q (x,y) (z,t) 0=v:=⟨_,rfl⟩;have Sz:=zh (HL.out 0);have SF:=zh (HH.out 0);rw [el] at Sz;rw [eh] at SF;have EL:=zh (And.intro el eh);have Sy:=zh hS;clear el eh hS;have Qz:∀ W,(Instr.index 199 (.agg #[.int .i64 z,.int .i64 t]) (.int .i64 0)).run Tryz.prog W= .ok (.int .i64 z) W:=fun W=>by kernel_rfl
     go_wp2_with fail
     refine (Sz.out _ Sy.out.bw).mono ?_;rintro e w1 ⟨rfl,hb⟩;have Sw:=zh (Sy.out.later hb);clear hb Qz Sz Sy;go_wp2_with fail
     refine (SF.out _ Sw.out.bw).mono ?_;rintro e w2 ⟨rfl,hb⟩;have mg:=zh (Sw.out.later hb);clear hb SF Sw;cases l2
     ·obtain ⟨rfl,rfl,rfl⟩:s1=0∧s2=0∧s3=6:=by have h:=HS.out;rw [HN.out 0 zo (by rw [EL.out.1];exact .inl rfl)] at h;cases h;exact ⟨rfl,rfl,rfl⟩
      obtain ⟨c6,l6,f6⟩:=(zh mg.out.br).clf;go_wp2_with fail
      rw [Exit.noGoto_ret];exact bodyPost_ret (v:=.tuple #[.agg #[.int .i64 0,.int .i64 0],.int .i64 6]) (by have h6:=((mg.out.br.set 0 (.int .i64 0)).set 1 (.int .i64 0)).cell;have Ny:=h6 0;have Nw:=h6 1;simp [results,Tryz.results100,go_sem,Ny,Nw]) rfl ⟨rfl,(mg.out.bw.setCell (p:=⟨w.heap.size+1+1,0,none⟩) (by simp;omega) _).setCell (p:=⟨w.heap.size+1+1,1,none⟩) (by simp;omega) _⟩
     ·cases h2
      ·obtain ⟨rfl,rfl,rfl⟩:s1=0∧s2=0∧s3=6:=by have h:=HS.out;rw [HN.out 0 zo (by rw [EL.out.2];exact .inr rfl)] at h;cases h;exact ⟨rfl,rfl,rfl⟩
       obtain ⟨c6,l6,f6⟩:=(zh mg.out.br).clf;go_wp2_with fail
       rw [Exit.noGoto_ret];exact bodyPost_ret (v:=.tuple #[.agg #[.int .i64 0,.int .i64 0],.int .i64 6]) (by have h6:=((mg.out.br.set 0 (.int .i64 0)).set 1 (.int .i64 0)).cell;have Ny:=h6 0;have Nw:=h6 1;simp [results,Tryz.results100,go_sem,Ny,Nw]) rfl ⟨rfl,(mg.out.bw.setCell (p:=⟨w.heap.size+1+1,0,none⟩) (by simp;omega) _).setCell (p:=⟨w.heap.size+1+1,1,none⟩) (by simp;omega) _⟩
      ·obtain ⟨c8,l8,f8⟩:=(zh mg.out.bl).clf;obtain ⟨c9,l9,f9⟩:=(zh mg.out.bh).clf;unfold Ar at c8 c9;have Sv:=zh (mg.out.step (k:=0) zo (by rw [EL.out.1]) (by rw [EL.out.2]));rw [EL.out.1,EL.out.2] at Sv;clear mg;go_wp2_with fail
       go_roundw
       case rel=>exact ⟨1,rfl,rfl,zh (.inr<| .inl ⟨rfl,Sv.out⟩)⟩
       case measure=>simp [intOf]
    ·clear HJ;obtain ⟨⟨l1,l2⟩,el⟩:∃ v,vN Q (x,y) (z,t) 1=v:=⟨_,rfl⟩;obtain ⟨⟨h1,h2⟩,eh⟩:∃ v,vP Q (x,y) (z,t) 1=v:=⟨_,rfl⟩;have Sz:=zh (HL.out 1);have SF:=zh (HH.out 1);rw [el] at Sz;rw [eh] at SF;have EL:=zh (And.intro el eh);have Sy:=zh hS;clear el eh hS;have Qz:∀ W,(Instr.index 199 (.agg #[.int .i64 z,.int .i64 t]) (.int .i64 1)).run Tryz.prog W= .ok (.int .i64 t) W:=fun W=>by kernel_rfl
     go_wp2_with fail
     refine (Sz.out _ Sy.out.bw).mono ?_;rintro e w1 ⟨rfl,hb⟩;have Sw:=zh (Sy.out.later hb);clear hb Qz Sz Sy;go_wp2_with fail
     refine (SF.out _ Sw.out.bw).mono ?_;rintro e w2 ⟨rfl,hb⟩;have mg:=zh (Sw.out.later hb);clear hb SF Sw;cases l2
     ·obtain ⟨rfl,rfl,rfl⟩:s1=0∧s2=0∧s3=6:=by have h:=HS.out;rw [HN.out 1 zo (by rw [EL.out.1];exact .inl rfl)] at h;cases h;exact ⟨rfl,rfl,rfl⟩
      obtain ⟨c6,l6,f6⟩:=(zh mg.out.br).clf;go_wp2_with fail
      rw [Exit.noGoto_ret];exact bodyPost_ret (v:=.tuple #[.agg #[.int .i64 0,.int .i64 0],.int .i64 6]) (by have h6:=((mg.out.br.set 0 (.int .i64 0)).set 1 (.int .i64 0)).cell;have Ny:=h6 0;have Nw:=h6 1;simp [results,Tryz.results100,go_sem,Ny,Nw]) rfl ⟨rfl,(mg.out.bw.setCell (p:=⟨w.heap.size+1+1,0,none⟩) (by simp;omega) _).setCell (p:=⟨w.heap.size+1+1,1,none⟩) (by simp;omega) _⟩
     ·cases h2
      ·obtain ⟨rfl,rfl,rfl⟩:s1=0∧s2=0∧s3=6:=by have h:=HS.out;rw [HN.out 1 zo (by rw [EL.out.2];exact .inr rfl)] at h;cases h;exact ⟨rfl,rfl,rfl⟩
       obtain ⟨c6,l6,f6⟩:=(zh mg.out.br).clf;go_wp2_with fail
       rw [Exit.noGoto_ret];exact bodyPost_ret (v:=.tuple #[.agg #[.int .i64 0,.int .i64 0],.int .i64 6]) (by have h6:=((mg.out.br.set 0 (.int .i64 0)).set 1 (.int .i64 0)).cell;have Ny:=h6 0;have Nw:=h6 1;simp [results,Tryz.results100,go_sem,Ny,Nw]) rfl ⟨rfl,(mg.out.bw.setCell (p:=⟨w.heap.size+1+1,0,none⟩) (by simp;omega) _).setCell (p:=⟨w.heap.size+1+1,1,none⟩) (by simp;omega) _⟩
      ·obtain ⟨c8,l8,f8⟩:=(zh mg.out.bl).clf;obtain ⟨c9,l9,f9⟩:=(zh mg.out.bh).clf;unfold Ar at c8 c9;have Sv:=zh (mg.out.step (k:=1) zo (by rw [EL.out.1]) (by rw [EL.out.2]));rw [EL.out.1,EL.out.2] at Sv;clear mg;go_wp2_with fail
       go_roundw
       case rel=>exact ⟨2,rfl,rfl,zh (.inr<| .inr ⟨rfl,Sv.out⟩)⟩
       case measure=>simp [intOf]
    ·have Sv:=zh hS;clear hS HJ;go_wp2_with fail
     go_roundw
     case rel=>exact ⟨1,rfl,rfl,zh (.inr<| .inl ⟨rfl,Sv.out⟩)⟩
     case measure=>simp [intOf]
  ·clear HI;have hix:∀ W,(Instr.index 199 (.agg #[.int .i64 x,.int .i64 y]) (.int .i64 1)).run Tryz.prog W= .ok (.int .i64 y) W:=fun W=>by kernel_rfl
   obtain ⟨c4,l4⟩:=(zh hS.bb).cl;have HS0:=zh hS;clear hS;go_wp2_with fail
   clear hix c4 l4
   go_loopw [10,33] (fun fv jv wr=>∃ j:Int,fv= .bool true∧jv= .int .i64 j∧Hid ((j=0∧Pj Q w (x,y) (z,t) wr 2)∨(j=1∧Pj Q w (x,y) (z,t) wr 3)∨(j=2∧Pj Q w (x,y) (z,t) wr 4))) (fun _ jv _=>2 - (intOf jv).toNat)
   case atStart=>exact ⟨0,rfl,rfl,zh (.inl ⟨rfl,HS0.out⟩)⟩
   case round =>
    clear HS0;obtain ⟨j,rfl,rfl,HJ⟩:=hrel
    rcases HJ.out with ⟨rfl,hS⟩|⟨rfl,hS⟩|⟨rfl,hS⟩
    ·clear HJ;obtain ⟨⟨l1,l2⟩,el⟩:∃ v,vN Q (x,y) (z,t) 2=v:=⟨_,rfl⟩;obtain ⟨⟨h1,h2⟩,eh⟩:∃ v,vP Q (x,y) (z,t) 2=v:=⟨_,rfl⟩;have Sz:=zh (HL.out 2);have SF:=zh (HH.out 2);rw [el] at Sz;rw [eh] at SF;have EL:=zh (And.intro el eh);have Sy:=zh hS;clear el eh hS;have Qz:∀ W,(Instr.index 199 (.agg #[.int .i64 z,.int .i64 t]) (.int .i64 0)).run Tryz.prog W= .ok (.int .i64 z) W:=fun W=>by kernel_rfl
     go_wp2_with fail
     refine (Sz.out _ Sy.out.bw).mono ?_;rintro e w1 ⟨rfl,hb⟩;have Sw:=zh (Sy.out.later hb);clear hb Qz Sz Sy;go_wp2_with fail
     refine (SF.out _ Sw.out.bw).mono ?_;rintro e w2 ⟨rfl,hb⟩;have mg:=zh (Sw.out.later hb);clear hb SF Sw;cases l2
     ·obtain ⟨rfl,rfl,rfl⟩:s1=0∧s2=0∧s3=6:=by have h:=HS.out;rw [HN.out 2 zo (by rw [EL.out.1];exact .inl rfl)] at h;cases h;exact ⟨rfl,rfl,rfl⟩
      obtain ⟨c6,l6,f6⟩:=(zh mg.out.br).clf;go_wp2_with fail
      rw [Exit.noGoto_ret];exact bodyPost_ret (v:=.tuple #[.agg #[.int .i64 0,.int .i64 0],.int .i64 6]) (by have h6:=((mg.out.br.set 0 (.int .i64 0)).set 1 (.int .i64 0)).cell;have Ny:=h6 0;have Nw:=h6 1;simp [results,Tryz.results100,go_sem,Ny,Nw]) rfl ⟨rfl,(mg.out.bw.setCell (p:=⟨w.heap.size+1+1,0,none⟩) (by simp;omega) _).setCell (p:=⟨w.heap.size+1+1,1,none⟩) (by simp;omega) _⟩
     ·cases h2
      ·obtain ⟨rfl,rfl,rfl⟩:s1=0∧s2=0∧s3=6:=by have h:=HS.out;rw [HN.out 2 zo (by rw [EL.out.2];exact .inr rfl)] at h;cases h;exact ⟨rfl,rfl,rfl⟩
       obtain ⟨c6,l6,f6⟩:=(zh mg.out.br).clf;go_wp2_with fail
       rw [Exit.noGoto_ret];exact bodyPost_ret (v:=.tuple #[.agg #[.int .i64 0,.int .i64 0],.int .i64 6]) (by have h6:=((mg.out.br.set 0 (.int .i64 0)).set 1 (.int .i64 0)).cell;have Ny:=h6 0;have Nw:=h6 1;simp [results,Tryz.results100,go_sem,Ny,Nw]) rfl ⟨rfl,(mg.out.bw.setCell (p:=⟨w.heap.size+1+1,0,none⟩) (by simp;omega) _).setCell (p:=⟨w.heap.size+1+1,1,none⟩) (by simp;omega) _⟩
      ·obtain ⟨c8,l8,f8⟩:=(zh mg.out.bl).clf;obtain ⟨c9,l9,f9⟩:=(zh mg.out.bh).clf;unfold Ar at c8 c9;have Sv:=zh (mg.out.step (k:=2) zo (by rw [EL.out.1]) (by rw [EL.out.2]));rw [EL.out.1,EL.out.2] at Sv;clear mg;go_wp2_with fail
       go_roundw
       case rel=>exact ⟨1,rfl,rfl,zh (.inr<| .inl ⟨rfl,Sv.out⟩)⟩
       case measure=>simp [intOf]
    ·clear HJ;obtain ⟨⟨l1,l2⟩,el⟩:∃ v,vN Q (x,y) (z,t) 3=v:=⟨_,rfl⟩;obtain ⟨⟨h1,h2⟩,eh⟩:∃ v,vP Q (x,y) (z,t) 3=v:=⟨_,rfl⟩;have Sz:=zh (HL.out 3);have SF:=zh (HH.out 3);rw [el] at Sz;rw [eh] at SF;have EL:=zh (And.intro el eh);have Sy:=zh hS;clear el eh hS;have Qz:∀ W,(Instr.index 199 (.agg #[.int .i64 z,.int .i64 t]) (.int .i64 1)).run Tryz.prog W= .ok (.int .i64 t) W:=fun W=>by kernel_rfl
     go_wp2_with fail
     refine (Sz.out _ Sy.out.bw).mono ?_;rintro e w1 ⟨rfl,hb⟩;have Sw:=zh (Sy.out.later hb);clear hb Qz Sz Sy;go_wp2_with fail
     refine (SF.out _ Sw.out.bw).mono ?_;rintro e w2 ⟨rfl,hb⟩;have mg:=zh (Sw.out.later hb);clear hb SF Sw;cases l2
     ·obtain ⟨rfl,rfl,rfl⟩:s1=0∧s2=0∧s3=6:=by have h:=HS.out;rw [HN.out 3 zo (by rw [EL.out.1];exact .inl rfl)] at h;cases h;exact ⟨rfl,rfl,rfl⟩
      obtain ⟨c6,l6,f6⟩:=(zh mg.out.br).clf;go_wp2_with fail
      rw [Exit.noGoto_ret];exact bodyPost_ret (v:=.tuple #[.agg #[.int .i64 0,.int .i64 0],.int .i64 6]) (by have h6:=((mg.out.br.set 0 (.int .i64 0)).set 1 (.int .i64 0)).cell;have Ny:=h6 0;have Nw:=h6 1;simp [results,Tryz.results100,go_sem,Ny,Nw]) rfl ⟨rfl,(mg.out.bw.setCell (p:=⟨w.heap.size+1+1,0,none⟩) (by simp;omega) _).setCell (p:=⟨w.heap.size+1+1,1,none⟩) (by simp;omega) _⟩
     ·cases h2
      ·obtain ⟨rfl,rfl,rfl⟩:s1=0∧s2=0∧s3=6:=by have h:=HS.out;rw [HN.out 3 zo (by rw [EL.out.2];exact .inr rfl)] at h;cases h;exact ⟨rfl,rfl,rfl⟩
       obtain ⟨c6,l6,f6⟩:=(zh mg.out.br).clf;go_wp2_with fail
       rw [Exit.noGoto_ret];exact bodyPost_ret (v:=.tuple #[.agg #[.int .i64 0,.int .i64 0],.int .i64 6]) (by have h6:=((mg.out.br.set 0 (.int .i64 0)).set 1 (.int .i64 0)).cell;have Ny:=h6 0;have Nw:=h6 1;simp [results,Tryz.results100,go_sem,Ny,Nw]) rfl ⟨rfl,(mg.out.bw.setCell (p:=⟨w.heap.size+1+1,0,none⟩) (by simp;omega) _).setCell (p:=⟨w.heap.size+1+1,1,none⟩) (by simp;omega) _⟩
      ·obtain ⟨c8,l8,f8⟩:=(zh mg.out.bl).clf;obtain ⟨c9,l9,f9⟩:=(zh mg.out.bh).clf;unfold Ar at c8 c9;have Sv:=zh (mg.out.step (k:=3) zo (by rw [EL.out.1]) (by rw [EL.out.2]));rw [EL.out.1,EL.out.2] at Sv;clear mg;go_wp2_with fail
       go_roundw
       case rel=>exact ⟨2,rfl,rfl,zh (.inr<| .inr ⟨rfl,Sv.out⟩)⟩
       case measure=>simp [intOf]
    ·have Sv:=zh hS;clear hS HJ;go_wp2_with fail
     go_roundw
     case rel=>exact ⟨2,rfl,rfl,zh (.inr<| .inr ⟨rfl,Sv.out⟩)⟩
     case measure=>simp [intOf]
  ·clear HI;have HP:=zh hS;clear hS;have HMn:=zh (fun W h=>Zt (w.heap.size+1+1+1) 4 [(vN Q (x,y) (z,t) 0).1,(vN Q (x,y) (z,t) 1).1,(vN Q (x,y) (z,t) 2).1,(vN Q (x,y) (z,t) 3).1] _ rfl (Ar (vN Q (x,y) (z,t)) 4) 198 W h (Uq _) zi);have HMx:=zh (fun W h=>uP (w.heap.size+1+1+1+1) 4 [(vP Q (x,y) (z,t) 0).1,(vP Q (x,y) (z,t) 1).1,(vP Q (x,y) (z,t) 2).1,(vP Q (x,y) (z,t) 3).1] _ rfl (Ar (vP Q (x,y) (z,t)) 4) 198 W h (Uq _) zi);have HMd:=zh (fun lo hi W=>iM lo hi W);obtain ⟨mn,emn⟩:∃ v,[(vN Q (x,y) (z,t) 0).1,(vN Q (x,y) (z,t) 1).1,(vN Q (x,y) (z,t) 2).1,(vN Q (x,y) (z,t) 3).1].foldl min (vN Q (x,y) (z,t) 0).1=v:=⟨_,rfl⟩;obtain ⟨mx,emx⟩:∃ v,[(vP Q (x,y) (z,t) 0).1,(vP Q (x,y) (z,t) 1).1,(vP Q (x,y) (z,t) 2).1,(vP Q (x,y) (z,t) 3).1].foldl max (vP Q (x,y) (z,t) 0).1=v:=⟨_,rfl⟩
   have hsp:dK mn mx=((s1,s2),s3):=by
    rw [← HS.out,← emn,← emx];unfold qp;rw [if_pos];unfold aa9;rw [List.all_eq_true];intro q hq;have hq4:q<4:=by simpa using hq
    have:=HP.out.ok q hq4;simp [this.1,this.2]
   rw [emn] at HMn;rw [emx] at HMx;replace HMd:=zh (fun W=>HMd.out mn mx W);rw [hsp] at HMd;unfold aY at HMd;clear emn emx hsp HL HH HN HS;go_wp2_with fail
   refine aF [(.pure,0),(.pure,2),(.ext,1),(.ext,3),(.ext,4),(.pure,5),(.pure,6),(.fin,7),(.fin,8)] zk zk zR zP ?_;refine Wk.out ?_
   (iterate 2 refine zU ?_)
   refine dV rfl rfl (fun wa hba J hJ=>?_);go_simp;have za:Below wr.heap.size wr wa:=aD;refine (HMn.out _ (HP.out.bl.later za)).mono ?_;rintro e wb ⟨rfl,hb⟩;have zb:=Bt za hb;refine hJ _ _ hb ?_;clear hJ J hb hba za HMn;refine dV rfl rfl (fun wc hbc J hJ=>?_);go_simp;have zc:=Bt zb hbc;refine (HMx.out _ (HP.out.bh.later zc)).mono ?_;rintro e wd ⟨rfl,hb⟩;have zd:=Bt zc hb;refine hJ _ _ hb ?_;clear hJ J hb hbc zb zc HMx;refine dV rfl rfl (fun we hbe J hJ=>?_);go_simp;have ze:=Bt zd hbe;refine (HMd.out _).mono ?_;rintro e wf ⟨rfl,hb⟩;have zf:=Bt ze hb;refine hJ _ _ hb ?_;clear hJ J hb hbe zd ze HMd
   (iterate 2 refine zU ?_)
   refine wS [_,_] rfl (fun wg hbg=>?_);have mg:=zh (HP.out.later (Bt zf hbg));clear zf hbg HP;obtain ⟨c6,l6,f6⟩:=(zh mg.out.br).clf;go_wp2_with fail
   rw [Exit.noGoto_ret];exact bodyPost_ret (v:=.tuple #[.agg #[.int .i64 s1,.int .i64 s2],.int .i64 s3]) (by have h6:=((mg.out.br.set 0 (.int .i64 s1)).set 1 (.int .i64 s2)).cell;have Ny:=h6 0;have Nw:=h6 1;simp [results,Tryz.results100,go_sem,Ny,Nw]) rfl ⟨rfl,(mg.out.bw.setCell (p:=⟨w.heap.size+1+1,0,none⟩) (by simp;omega) _).setCell (p:=⟨w.heap.size+1+1,1,none⟩) (by simp;omega) _⟩
def Ui (a b:Int × Int) (k:Nat):Int × Bool:=jI (TD a k) (OX b k) 1000000000000 false
def Ah (a b:Int × Int) (k:Nat):Int × Bool:=jI (TD a k) (OX b k) 1000000000000 true
def aA3 (a b:Int × Int):Bool:=(List.range 4).all fun k=>(Ui a b k).2&&(Ah a b k).2
def JF (a b:Int × Int):(Int × Int) × Int:=if aA3 a b then dK ([(Ui a b 0).1,(Ui a b 1).1,(Ui a b 2).1,(Ui a b 3).1].foldl min (Ui a b 0).1) ([(Ah a b 0).1,(Ah a b 1).1,(Ah a b 2).1,(Ah a b 3).1].foldl max (Ah a b 0).1) else ((0,0),6)
def Qs (a b:Int × Int):(Int × Int) × Int:=if okB [a,b] then JF a b else ((0,0),30)
theorem Vx (x y z t:Int) (hx:x.natAbs≤1000000000000000000) (hy:y.natAbs≤1000000000000000000) (hz:z.natAbs≤1000000000000000000) (ht:t.natAbs≤1000000000000000000) (w:World) :
  Calls Tryz.prog 100 #[.agg #[.int .i64 x,.int .i64 y],.agg #[.int .i64 z,.int .i64 t],.func (.func 101) #[] #[]] w (fun e w'=>e= .returned (aY (JF (x,y) (z,t)))∧Below w.heap.size w w'):=by
 have hpx:∀ k,(TD (x,y) k).natAbs≤1000000000000000000:=fun k=>by unfold TD;split<;>assumption
 have hpy:∀ k,(OX (z,t) k).natAbs≤1000000000000000000:=fun k=>by unfold OX;split<;>assumption
 exact wY (fun x y up=>jI x y 1000000000000 up) 101 #[] x y z t w (fun k up W _=>ap5 _ _ up (hpx k) (hpy k) W) (fun args W=>by rfl)
theorem ap6 (x y z t:Int) (h0:okB [(x,y),(z,t)]=true) (b c:Nat) (w:World) (h:ah w b #[.int .i64 x,.int .i64 y] 40) (k:ah w c #[.int .i64 z,.int .i64 t] 40) :
  Calls Tryz.prog 99 #[.pointer (some ⟨b,0,none⟩),.pointer (some ⟨c,0,none⟩)] w (fun e w'=>e= .returned (aY (JF (x,y) (z,t)))∧Below w.heap.size w w'):=by
 have h0':dY x y=true∧dY z t=true:=by simpa [okB] using h0
 obtain ⟨hk1,hk2,hk3⟩: -1000000000000000000≤x∧x≤y∧y≤1000000000000000000:=by simpa [dY] using h0'.1
 obtain ⟨hk4,hk5,hk6⟩: -1000000000000000000≤z∧z≤t∧t≤1000000000000000000:=by simpa [dY] using h0'.2
 have H:=zh (fun W=>Vx x y z t zo zo zo zo W);generalize JF (x,y) (z,t)=m at *;obtain ⟨⟨m1,m2⟩,m3⟩:=m;unfold aY at *;simp only at *;have cb:=h.cell;have lb:=h.lt;have cc:=k.cell;have lc:=k.lt;clear h k h0 h0' hk1 hk2 hk3 hk4 hk5 hk6;go_enter Tryz.func99,Tryz.ntmps99
 go_wp2_with fail
 refine (H.out _).mono ?_;rintro e w1 ⟨rfl,hb1⟩;have hx:=ah.later (ah.new w #[.int .i64 0,.int .i64 0] 40) hb1;have cx:=hx.cell;have fx:=hx.free;have lx:=hx.lt;have hw:=Bt (show Below w.heap.size w (w.alloc (.cells #[.int .i64 0,.int .i64 0] 40)) from aD) hb1;go_wp2_with fail
 refine aM rfl rfl aJ Tryz.underlying40 rfl zk ?_;exact ⟨rfl,aD⟩
theorem qJ (x y z t:Int) (w:World):Calls Tryz.prog 31 #[.agg #[.int .i64 x,.int .i64 y],.agg #[.int .i64 z,.int .i64 t]] w (fun e w'=>e= .returned (aY (Qs (x,y) (z,t)))∧Below w.heap.size w w'):=by
 have H:Hid (∀ W b c d,ah W b #[.int .i64 x,.int .i64 y] 40→ah W c #[.int .i64 z,.int .i64 t] 40→ah W d #[.int .i64 x,.int .i64 y,.int .i64 z,.int .i64 t] 40→Calls Tryz.prog 97 #[.func (.func 99) #[] #[.pointer (some ⟨b,0,none⟩),.pointer (some ⟨c,0,none⟩)],.slice (some ⟨d,0,none⟩) 2 2] W (fun e w'=>e= .returned (aY (Qs (x,y) (z,t)))∧Below W.heap.size W w')):=zh fun W b c d h1 h2 h3 =>
  kC 99 #[.pointer (some ⟨b,0,none⟩),.pointer (some ⟨c,0,none⟩)] _ _ _ _ W (zK.two h3) (fun h W' hW'=>ap6 x y z t h b c W' (h1.later hW') (h2.later hW')) (fun args W=>by rfl)
 generalize Qs (x,y) (z,t)=m at *;obtain ⟨⟨m1,m2⟩,m3⟩:=m;unfold aY at *;simp only at *;go_enter Tryz.func31,Tryz.ntmps31
 go_wp2_with fail
 obtain ⟨wx,EW,hz,X,Y,R,Z⟩:=al4 w #[.int .i64 x,.int .i64 y] 40 #[.int .i64 z,.int .i64 t] 40 #[.int .i64 0,.int .i64 0] 40 #[.int .i64 x,.int .i64 y,.int .i64 z,.int .i64 t] 40;rw [EW];clear EW;have HB:=zh hz;clear hz;refine (H.out _ _ _ _ X.out Y.out Z.out).mono ?_;rintro e w1 ⟨rfl,hb1⟩;replace R:=R.bl hb1;replace HB:=zh (Bt HB.out hb1);clear hb1 H;have hx:=R.out;have cx:=hx.cell;have fx:=hx.free;have lx:=hx.lt;have hw:=HB.out;go_wp2_with fail
 refine aM rfl rfl aJ Tryz.underlying40 rfl zk ?_;exact ⟨rfl,aD⟩
def iB (N:Int) (d:Nat):Int:=(2*N+d) / (2*(d:Int))
theorem Nc (N:Int) {d:Nat} (hd:0<d):iB N d*(2*(d:Int))≤2*N+d∧2*N+d<(iB N d+1)*(2*(d:Int)):=by
 unfold iB;refine ⟨Int.ediv_mul_le _ zo,?_⟩;have:=Int.lt_ediv_add_one_mul_self (2*N+(d:Int)) (b:=2*(d:Int)) zo;exact this
theorem Db {N n:Int} {d:Nat} (hd:0<d) (h1:n*(d:Int)≤N) (h2:N<(n+1)*(d:Int)):pG N d false=n:=by
 unfold pG;rw [if_neg zi];refine Int.le_antisymm ?_ ((Int.le_ediv_iff_mul_le zo).2 h1);have:=(Int.ediv_lt_iff_lt_mul (c:=(d:Int)) zo).2 h2;omega
theorem PG {N n:Int} {d:Nat} (hd:0<d) (h1:(n - 1)*(d:Int)<N) (h2:N≤n*(d:Int)):pG N d true=n:=by
 unfold pG;rw [if_pos rfl]
 have: -N / (d:Int)= -n:=by
  refine Int.le_antisymm ?_ ((Int.le_ediv_iff_mul_le zo).2 (by rw [Int.neg_mul];omega))
  have:=(Int.ediv_lt_iff_lt_mul (a:= -N) (b:= -n+1) (c:=(d:Int)) zo).2 (by
   have e:(-n+1)*(d:Int)= -((n - 1)*(d:Int)):=by rw [← Int.neg_mul];congr 1;omega
   rw [e];omega)
  omega
 omega
def arE (N:Int) (d:Nat):(Int × Int) × Int :=
 if -9223372036854775808≤iB N d∧iB N d<9223372036854775808 then
  (if dY (iB N d) (iB N d) then dK (iB N d+(if N<iB N d*d then -1 else 0)) (iB N d+(if iB N d*d<N then 1 else 0)) else ((0,0),6))
 else ((0,0),6)
theorem aC9 (N:Int) {d:Nat} (hd:0<d):arE N d=dK (pG N d false) (pG N d true):=by
 obtain ⟨h1,h2⟩:=Nc N hd;have m1:iB N d*(2*(d:Int))=2*(iB N d*(d:Int)):=by rw [← Int.mul_assoc,Int.mul_comm (iB N d) 2,Int.mul_assoc]
 have m2:(iB N d+1)*(2*(d:Int))=2*(iB N d*(d:Int))+2*(d:Int):=by rw [Int.add_mul,m1,Int.one_mul]
 rw [m1] at h1;rw [m2] at h2;unfold arE;generalize iB N d=n at *;have e1:(n+1)*(d:Int)=n*(d:Int)+d:=by rw [Int.add_mul,Int.one_mul]
 have e2:(n - 1)*(d:Int)=n*(d:Int) - d:=by rw [Int.sub_mul,Int.one_mul]
 have e3:(n - 1+1)*(d:Int)=n*(d:Int):=by congr 1;omega
 have e4:(n+1 - 1)*(d:Int)=n*(d:Int):=by congr 1;omega
 have key:∃ lo hi,pG N d false=lo∧pG N d true=hi∧lo=n+(if N<n*(d:Int) then -1 else 0)∧hi=n+(if n*(d:Int)<N then 1 else 0):=by
  rcases Int.lt_trichotomy N (n*(d:Int)) with c|c|c
  ·refine ⟨n - 1,n,Db hd zo zo,PG hd zo zo,by rw [if_pos c];omega,by rw [if_neg zo];omega⟩
  ·refine ⟨n,n,Db hd zo zo,PG hd zo zo,by rw [if_neg zo];omega,by rw [if_neg zo];omega⟩
  ·refine ⟨n,n+1,Db hd zo zo,PG hd zo zo,by rw [if_neg zo];omega,by rw [if_pos c]⟩
 obtain ⟨lo,hi,k1,k2,k3,k4⟩:=key;rw [k1,k2,← k3,← k4];have hlo:lo=n∨lo=n - 1:=by rw [k3];split<;>omega
 have hhi:hi=n∨hi=n+1:=by rw [k4];split<;>omega
 have hor:lo=n∨hi=n:=by
  rw [k3,k4]
  by_cases c:N<n*(d:Int)
  ·right;rw [if_neg zo];omega
  ·left;rw [if_neg c];omega
 by_cases c1: -9223372036854775808≤n∧n<9223372036854775808
 ·rw [if_pos c1];cases hb:dY n n
  ·rw [if_neg zi];unfold dK;rw [if_neg];intro h;unfold dY at hb h;simp only [Bool.and_eq_true,decide_eq_true_eq,Bool.and_eq_false_iff,decide_eq_false_iff_not] at hb h;omega
  ·rw [if_pos rfl]
 ·rw [if_neg c1];unfold dK;rw [if_neg];intro h;unfold dY at h;simp only [Bool.and_eq_true,decide_eq_true_eq] at h;omega
end Go.Proofs.aW
namespace Go.fF
open Go Go.Num
theorem Dn (q:Rat) (E:Nat):q*((E:Nat):Rat)*((q.den:Nat):Rat)=((q.num*(E:Int):Int):Rat):=by
 have h:q*((q.den:Nat):Rat)=((q.num:Int):Rat):=by
  have h1:((q.num:Int):Rat) / ((q.den:Nat):Rat)=q:=by
   have:=Rat.mkRat_eq_div q.num q.den;rw [← this,Rat.mkRat_self]
  have h2:((q.den:Nat):Rat)≠0:=by have:=q.den_nz;exact_mod_cast this
  generalize ((q.den:Nat):Rat)=d at *;generalize ((q.num:Int):Rat)=m at *
  grind
 rw [Rat.intCast_mul,← h,Rat.intCast_natCast]
 grind
theorem Zj (q:Rat) (n:Int) {E:Nat} (hE:0<E):q<(n:Rat) / ((E:Nat):Rat)↔q.num*(E:Int)<n*(q.den:Int):=by
 have hEq:(0:Rat)<((E:Nat):Rat):=by exact_mod_cast hE
 have hd:(0:Rat)<((q.den:Nat):Rat):=by exact_mod_cast q.den_pos
 rw [Rat.lt_div_iff hEq,← Rat.mul_lt_mul_right hd,Dn,← Rat.intCast_natCast,← Rat.intCast_mul,Rat.intCast_lt_intCast]
theorem Yk (q:Rat) (n:Int) {E:Nat} (hE:0<E):(n:Rat) / ((E:Nat):Rat)<q↔n*(q.den:Int)<q.num*(E:Int):=by
 have hEq:(0:Rat)<((E:Nat):Rat):=by exact_mod_cast hE
 have hd:(0:Rat)<((q.den:Nat):Rat):=by exact_mod_cast q.den_pos
 rw [Rat.div_lt_iff hEq,← Rat.mul_lt_mul_right hd,Dn,← Rat.intCast_natCast,← Rat.intCast_mul,Rat.intCast_lt_intCast]
theorem WV (q:Rat) (n:Int) {E:Nat} (hE:0<E):pJ q ((n:Rat) / ((E:Nat):Rat))=if q.num*(E:Int)<n*(q.den:Int) then -1 else if n*(q.den:Int)<q.num*(E:Int) then 1 else 0:=by
 unfold pJ;simp only [Zj q n hE,Yk q n hE]
end Go.fF
namespace Go.Proofs.aW
open Go Go.RowKit Go.SW Go.Num Go.Mem Go.Proofs Go.fF
def lg (a b:Int × Int):(Int × Int) × Int:=if okB [a,b] then dK (a.1+b.1) (a.2+b.2) else ((0,0),30)
theorem aq7 (x y z t:Int) (h0:okB [(x,y),(z,t)]=true) (b c:Nat) (w:World) (h:ah w b #[.int .i64 x,.int .i64 y] 40) (k:ah w c #[.int .i64 z,.int .i64 t] 40) :
  Calls Tryz.prog 98 #[.pointer (some ⟨b,0,none⟩),.pointer (some ⟨c,0,none⟩)] w (fun e w'=>e= .returned (aY (dK (x+z) (y+t)))∧Below w.heap.size w w'):=by
 have h0':dY x y=true∧dY z t=true:=by simpa [okB] using h0
 obtain ⟨hk1,hk2,hk3⟩: -1000000000000000000≤x∧x≤y∧y≤1000000000000000000:=by simpa [dY] using h0'.1
 obtain ⟨hk4,hk5,hk6⟩: -1000000000000000000≤z∧z≤t∧t≤1000000000000000000:=by simpa [dY] using h0'.2
 have H:=zh (fun W=>iM (x+z) (y+t) W);generalize dK (x+z) (y+t)=m at *;obtain ⟨⟨m1,m2⟩,m3⟩:=m;unfold aY at *;simp only at *;have cb:=h.cell;have lb:=h.lt;have cc:=k.cell;have lc:=k.lt;clear h k h0 h0';go_enter Tryz.func98,Tryz.ntmps98
 go_wp2_with fail
 refine (H.out _).mono ?_;rintro e w1 ⟨rfl,hb1⟩;have hx:=ah.later (ah.new w #[.int .i64 0,.int .i64 0] 40) hb1;have cx:=hx.cell;have fx:=hx.free;have lx:=hx.lt;have hw:=Bt (show Below w.heap.size w (w.alloc (.cells #[.int .i64 0,.int .i64 0] 40)) from aD) hb1;go_wp2_with fail
 refine aM rfl rfl aJ Tryz.underlying40 rfl zk ?_;exact ⟨rfl,aD⟩
theorem qM (x y z t:Int) (w:World):Calls Tryz.prog 30 #[.agg #[.int .i64 x,.int .i64 y],.agg #[.int .i64 z,.int .i64 t]] w (fun e w'=>e= .returned (aY (lg (x,y) (z,t)))∧Below w.heap.size w w'):=by
 have H:Hid (∀ W b c d,ah W b #[.int .i64 x,.int .i64 y] 40→ah W c #[.int .i64 z,.int .i64 t] 40→ah W d #[.int .i64 x,.int .i64 y,.int .i64 z,.int .i64 t] 40→Calls Tryz.prog 97 #[.func (.func 98) #[] #[.pointer (some ⟨b,0,none⟩),.pointer (some ⟨c,0,none⟩)],.slice (some ⟨d,0,none⟩) 2 2] W (fun e w'=>e= .returned (aY (lg (x,y) (z,t)))∧Below W.heap.size W w')):=zh fun W b c d h1 h2 h3 =>
  kC 98 #[.pointer (some ⟨b,0,none⟩),.pointer (some ⟨c,0,none⟩)] _ _ _ _ W (zK.two h3) (fun h W' hW'=>aq7 x y z t h b c W' (h1.later hW') (h2.later hW')) (fun args W=>by rfl)
 generalize lg (x,y) (z,t)=m at *;obtain ⟨⟨m1,m2⟩,m3⟩:=m;unfold aY at *;simp only at *;go_enter Tryz.func30,Tryz.ntmps30
 go_wp2_with fail
 obtain ⟨wx,EW,hz,X,Y,R,Z⟩:=al4 w #[.int .i64 x,.int .i64 y] 40 #[.int .i64 z,.int .i64 t] 40 #[.int .i64 0,.int .i64 0] 40 #[.int .i64 x,.int .i64 y,.int .i64 z,.int .i64 t] 40;rw [EW];clear EW;have HB:=zh hz;clear hz;refine (H.out _ _ _ _ X.out Y.out Z.out).mono ?_;rintro e w1 ⟨rfl,hb1⟩;replace R:=R.bl hb1;replace HB:=zh (Bt HB.out hb1);clear hb1 H;have hx:=R.out;have cx:=hx.cell;have fx:=hx.free;have lx:=hx.lt;have hw:=HB.out;go_wp2_with fail
 refine aM rfl rfl aJ Tryz.underlying40 rfl zk ?_;exact ⟨rfl,aD⟩
end Go.Proofs.aW
namespace Go.fF
open Go Go.RowKit Go.Num Go.Mem
def XM (w:World) (T:TypeId) (v:Value) (l:List Fr):Prop :=
 ∃ a cap,v= .slice a l.length cap∧l.length≤cap∧cap≤9223372036854775807∧(a=none→cap=0) ∧
  ∀ ad,a=some ad→ad.spot=none∧∃ arr,ah w ad.block arr T∧∀ i (h:i<l.length),arr[ad.off+i*2]? =some (.string l[i].n)∧arr[ad.off+i*2+1]? =some (.string l[i].d)
theorem XM.later {w w':World} {T:TypeId} {v:Value} {l:List Fr} (h:XM w T v l) (hb:Below w.heap.size w w'):XM w' T v l:=by
 obtain ⟨a,cap,h1,h2,h3,h4,h5⟩:=h;refine ⟨a,cap,h1,h2,h3,h4,fun ad had=>?_⟩;obtain ⟨h6,arr,h7,h8⟩:=h5 ad had;exact ⟨h6,arr,h7.later hb,h8⟩
theorem XM.read {w:World} {T:TypeId} {v:Value} {l:List Fr} (h:XM w T v l) :
  ∃ a cap,v= .slice a l.length cap∧l.length≤cap∧cap≤9223372036854775807∧∀ k (_:k<l.length),∃ b off,a=some ⟨b,off,none⟩∧b<w.heap.size∧w.cell? ⟨b,off+k*2,none⟩=some (.string l[k].n)∧w.cell? ⟨b,off+k*2+1,none⟩=some (.string l[k].d):=by
 obtain ⟨a,cap,h1,h2,h3,h4,h5⟩:=h;refine ⟨a,cap,h1,h2,h3,fun k hk=>?_⟩;cases a with
 | none=>have:=h4 rfl;omega
 | some ad =>
  obtain ⟨h6,arr,h7,h8⟩:=h5 ad rfl;obtain ⟨b,off,sp⟩:=ad;simp only at h6;subst h6;obtain ⟨h9,h10⟩:=h8 k hk;exact ⟨b,off,rfl,h7.lt,(h7.cell _).trans h9,(h7.cell _).trans h10⟩
def sH (l:List Fr):Int:=if l.all (fun a=>(rd a).isSome) then 0 else 20
theorem Oh {a:Fr} (h:(rd a).isSome=true):BK a=0:=by unfold BK;rw [h];rfl
theorem ac1 {a:Fr} (h:(rd a).isSome=false):BK a=20:=by unfold BK;rw [h];rfl
def aD6 (w:World) (v:Value) (m:List (List Fr)):Prop :=
 ∃ rs:List Value,Row w 148 v rs∧rs.length=m.length∧∀ i (h:i<rs.length) (h':i<m.length),XM w 32 rs[i] m[i]
theorem aD6.later {w w':World} {v:Value} {m:List (List Fr)} (h:aD6 w v m) (hb:Below w.heap.size w w'):aD6 w' v m:=by
 obtain ⟨rs,h1,h2,h3⟩:=h;exact ⟨rs,h1.later hb,h2,fun i h h'=>(h3 i h h').later hb⟩
def Fill (w:World) (g:Nat) (T:TypeId) (n k:Nat) (ok:World→Nat→Value→Value→Prop):Prop :=
 ∃ arr,ah w g arr T∧arr.size=n*2∧∀ i,i<k→∃ x y,arr[i*2]? =some x∧arr[i*2+1]? =some y∧ok w i x y
theorem Fill.box {w:World} {g:Nat} {T:TypeId} {n k:Nat} {ok:World→Nat→Value→Value→Prop} (h:Fill w g T n k ok):∃ arr,ah w g arr T∧arr.size=n*2:=by
 obtain ⟨arr,h1,h2, -⟩:=h;exact ⟨arr,h1,h2⟩
theorem Fill.lt {w:World} {g:Nat} {T:TypeId} {n k:Nat} {ok:World→Nat→Value→Value→Prop} (h:Fill w g T n k ok):g<w.heap.size:=by
 obtain ⟨arr,h1, -⟩:=h;exact h1.lt
theorem Fill.isT {w:World} {g:Nat} {T:TypeId} {n k:Nat} {ok:World→Nat→Value→Value→Prop} (h:Fill w g T n k ok):Ck w g T:=by
 obtain ⟨arr,h1, -⟩:=h;exact h1.isT
theorem Fill.later {w w':World} {g:Nat} {T:TypeId} {n k:Nat} {ok:World→Nat→Value→Value→Prop} (h:Fill w g T n k ok) (hb:Below w.heap.size w w') (hok:∀ i x y,ok w i x y→ok w' i x y):Fill w' g T n k ok:=by
 obtain ⟨arr,h1,h2,h3⟩:=h;refine ⟨arr,h1.later hb,h2,fun i hi=>?_⟩;obtain ⟨x,y,k1,k2,k3⟩:=h3 i hi;exact ⟨x,y,k1,k2,hok _ _ _ k3⟩
theorem Fill.cells {w:World} {g:Nat} {T:TypeId} {n k:Nat} {ok:World→Nat→Value→Value→Prop} (h:Fill w g T n k ok) {j:Nat} (hj:j<n) :
  (∃ x,w.cell? ⟨g,j*2,none⟩=some x)∧(∃ y,w.cell? ⟨g,j*2+1,none⟩=some y)∧∀ o,w.frozen? ⟨g,o,none⟩=false:=by
 obtain ⟨arr,h1,h2,h3⟩:=h;refine ⟨⟨arr[j*2]'zo,?_⟩,⟨arr[j*2+1]'zo,?_⟩,h1.free⟩
 ·rw [h1.cell];exact Array.getElem?_eq_getElem _
 ·rw [h1.cell];exact Array.getElem?_eq_getElem _
theorem Fill.step {w:World} {g:Nat} {T:TypeId} {n k:Nat} {ok:World→Nat→Value→Value→Prop} {x y:Value} (h:Fill w g T n k ok) (hk:k<n)
  (hok:∀ i x' y',ok w i x' y'→ok ((w.setCell ⟨g,k*2,none⟩ x).setCell ⟨g,k*2+1,none⟩ y) i x' y')
  (hx:ok ((w.setCell ⟨g,k*2,none⟩ x).setCell ⟨g,k*2+1,none⟩ y) k x y) :
  Fill ((w.setCell ⟨g,k*2,none⟩ x).setCell ⟨g,k*2+1,none⟩ y) g T n (k+1) ok:=by
 obtain ⟨arr,h1,h2,h3⟩:=h;refine ⟨(arr.setIfInBounds (k*2) x).setIfInBounds (k*2+1) y,(h1.set _ _).set _ _,by simp [h2],fun i hi=>?_⟩
 rcases Nat.lt_or_ge i k with h|h
 ·obtain ⟨x',y',k1,k2,k3⟩:=h3 i h;refine ⟨x',y',?_,?_,hok _ _ _ k3⟩
  ·rw [Array.getElem?_setIfInBounds,if_neg zo,Array.getElem?_setIfInBounds,if_neg zo,k1]
  ·rw [Array.getElem?_setIfInBounds,if_neg zo,Array.getElem?_setIfInBounds,if_neg zo,k2]
 ·obtain rfl:i=k:=by omega
  refine ⟨x,y,?_,?_,hx⟩
  ·rw [Array.getElem?_setIfInBounds,if_neg zo,Array.getElem?_setIfInBounds,if_pos rfl,if_pos zo]
  ·rw [Array.getElem?_setIfInBounds,if_pos rfl,if_pos (by simp;omega)]
theorem Fill.start {w:World} {base g n:Nat} {T:TypeId} {z:Array Value} {ok:World→Nat→Value→Value→Prop} (h:w.ownsRow base T 2 (.slice (some ⟨g,0,none⟩) n n) n (madeCells z (n*2)).toList):Fill w g T n 0 ok:=by
 obtain ⟨h1,h2|⟨g',cap,cur,h3,h4,h5,h6,h7,h8,h9⟩⟩:=h
 ·cases h2.1
 ·simp only [Value.slice.injEq,Option.some.injEq,Addr.mk.injEq,and_true,true_and] at h3;obtain ⟨rfl,rfl⟩:=h3;exact ⟨cur,h5,h8,fun i hi=>by omega⟩
def Lf (f:Nat→Int) (w:World) (i:Nat) (x y:Value):Prop:=∃ pa l ca,x= .slice pa l ca∧y= .bool (decide (f i<0))∧aQ w (.slice pa l ca) (f i).natAbs
theorem Lf.later {f:Nat→Int} {w w':World} (hb:Below w.heap.size w w') (i:Nat) (x y:Value) (h:Lf f w i x y):Lf f w' i x y:=by
 obtain ⟨pa,l,ca,h1,h2,h3⟩:=h;exact ⟨pa,l,ca,h1,h2,h3.later hb⟩
theorem Lf.au9 {f:Nat→Int} {w:World} {b o:Nat} {T':TypeId} {u:Value} (hx:Ck w b T') (hT:61≠T') (i:Nat) (x y:Value) (h:Lf f w i x y):Lf f (w.setCell ⟨b,o,none⟩ u) i x y:=by
 obtain ⟨pa,l,ca,h1,h2,h3⟩:=h;exact ⟨pa,l,ca,h1,h2,h3.au9 hx hT⟩
def Keep (l:List TypeId) (w w':World):Prop:=∀ b cs T,T∉l→ah w b cs T→ah w' b cs T
theorem Keep.of_below {w w':World} {l:List TypeId} (h:Below w.heap.size w w'):Keep l w w':=fun _ _ _ _ hx=>hx.later h
theorem Keep.trans {a b c:World} {l:List TypeId} (h:Keep l a b) (k:Keep l b c):Keep l a c:=fun x cs T hT hx=>k x cs T hT (h x cs T hT hx)
theorem Keep.mono {a b:World} {l m:List TypeId} (h:Keep l a b) (k:∀ T,T∈l→T∈m):Keep m a b:=fun x cs T hT hx=>h x cs T (fun e=>hT (k T e)) hx
theorem Keep.setCell {w:World} {b:Nat} {T:TypeId} {o:Nat} {u:Value} (h:Ck w b T):Keep [T] w (w.setCell ⟨b,o,none⟩ u):=fun x cs T' hT hx=>by
 obtain ⟨cs',hb⟩:=h;exact hx.setOther u (hx.ne hb (fun e=>hT (by simp [e])))
theorem Keep.grown {w w':World} {base k:Nat} {e:TypeId} {s:Nat} {v:Value} {xs:List Value} (hown:w.ownsRow base e s v k xs) (hg:w.grownBy w' v.ownBlock):Keep [e] w w':=fun b cs T hT h=>by
 unfold ah at *;rw [hg.block b (Array.getElem?_eq_some_iff.1 h).1 ?_]
 ·exact h
 ·intro he;obtain ⟨-, ⟨rfl, -⟩|⟨g,cap,cur,rfl, -, hgg, -⟩⟩:=hown
  ·cases he
  ·simp only [Value.ownBlock,Option.some.injEq] at he;subst he;rw [h] at hgg;cases hgg
   exact hT zi
theorem Row.kept {l:List TypeId} {w w':World} {T:TypeId} {v:Value} {xs:List Value} (h:Row w T v xs) (k:Keep l w w') (hT:T∉l):Row w' T v xs:=by
 obtain ⟨a,cap,h1,h2,h3,h4,h5⟩:=h;refine ⟨a,cap,h1,h2,h3,h4,fun ad had=>?_⟩;obtain ⟨h6,arr,h7,h8⟩:=h5 ad had;exact ⟨h6,arr,k _ _ _ hT h7,h8⟩
theorem aQ.kept {l:List TypeId} {w w':World} {v:Value} {n:Nat} (h:aQ w v n) (k:Keep l w w') (hT:61∉l):aQ w' v n:=Row.kept h k hT
theorem dB.kept {l:List TypeId} {w w':World} {v:Value} {n:Int} (h:dB w v n) (k:Keep l w w') (hT:61∉l):dB w' v n:=by
 obtain ⟨pa,l,ca,h1,h2⟩:=h;exact ⟨pa,l,ca,h1,aQ.kept h2 k hT⟩
theorem Lf.kept {l:List TypeId} {f:Nat→Int} {w w':World} (k:Keep l w w') (hT:61∉l) (i:Nat) (x y:Value) (h:Lf f w i x y):Lf f w' i x y:=by
 obtain ⟨pa,l,ca,h1,h2,h3⟩:=h;exact ⟨pa,l,ca,h1,h2,aQ.kept h3 k hT⟩
theorem XM.kept {l:List TypeId} {w w':World} {T:TypeId} {v:Value} {xs:List Fr} (h:XM w T v xs) (k:Keep l w w') (hT:T∉l):XM w' T v xs:=by
 obtain ⟨a,cap,h1,h2,h3,h4,h5⟩:=h;refine ⟨a,cap,h1,h2,h3,h4,fun ad had=>?_⟩;obtain ⟨h6,arr,h7,h8⟩:=h5 ad had;exact ⟨h6,arr,k _ _ _ hT h7,h8⟩
theorem VW {l:List TypeId} {w w':World} {base k s:Nat} {e:TypeId} {v:Value} {xs:List Value} (h:w.ownsRow base e s v k xs) (hk:Keep l w w') (hT:e∉l):w'.ownsRow base e s v k xs:=by
 refine ⟨h.1,?_⟩
 rcases h.2 with hn|⟨g,cap,cur,rfl,hb,hgg,rest⟩
 ·exact .inl hn
 ·exact .inr ⟨g,cap,cur,rfl,hb,hk g cur e hT hgg,rest⟩
def Ay {α β:Type} (R:α→β→Prop) (xs:List α) (ys:List β):Prop:=ys.length=xs.length∧∀ i (h:i<xs.length) (h':i<ys.length),R xs[i] ys[i]
theorem Ay.nil {α β:Type} {R:α→β→Prop}:Ay R [] []:=⟨rfl,fun i h=>by cases h⟩
theorem Ay.snoc {α β:Type} {R:α→β→Prop} {xs:List α} {ys:List β} {x:α} {y:β} (h:Ay R xs ys) (hr:R x y):Ay R (xs++[x]) (ys++[y]):=by
 obtain ⟨h1,h2⟩:=h;refine ⟨by simp [h1],fun i h h'=>?_⟩
 by_cases hi:i<xs.length
 ·rw [List.getElem_append_left hi,List.getElem_append_left zo];exact h2 i hi zo
 ·have e:i=xs.length:=by simp at h;omega
  subst e;rw [List.getElem_append_right (Nat.le_refl _),List.getElem_append_right zo]
  simpa using hr
theorem Ay.mono {α β:Type} {R S:α→β→Prop} {xs:List α} {ys:List β} (h:Ay R xs ys) (k:∀ x y,R x y→S x y):Ay S xs ys:=⟨h.1,fun i a b=>k _ _ (h.2 i a b)⟩
end Go.fF
namespace Go.Mem
open Go Go.RowKit Go.SW Go.Num Go.fF
abbrev Rl (α:Type):=World→α→List Value→Prop
def zA {α:Type} (m:List TypeId) (R:Rl α):Prop:=∀ w w' a c,Keep m w w'→R w a c→R w' a c
theorem zA.sub {α:Type} {m l:List TypeId} {R:Rl α} (h:zA m R) (k:∀ T,T∈l→T∈m):zA l R:=fun w w' a c hk hr=>h w w' a c (hk.mono k) hr
theorem zA.nil {α:Type} {m:List TypeId} {R:Rl α} (h:zA m R):zA [] R:=h.sub (fun _ h=>by cases h)
def jc {α:Type} (w:World) (B:Nat) (T:TypeId) (s:Nat) (R:Rl α) (v:Value) (l:List α):Prop :=
 ∃ xs:List (List Value),w.ownsRow B T s v l.length xs.flatten∧Ay (fun a c=>R w a c∧c.length=s) l xs
theorem jc.nil {α:Type} (w:World) (B:Nat) (T:TypeId) (s:Nat) (R:Rl α):jc w B T s R (.slice none 0 0) []:=⟨[],World.ownsRow_nil _ _ _ _,Ay.nil⟩
theorem jc.slice {α:Type} {w:World} {B:Nat} {T:TypeId} {s:Nat} {R:Rl α} {v:Value} {l:List α} (h:jc w B T s R v l):∃ a c,v= .slice a l.length c:=by
 obtain ⟨xs,⟨h1,⟨rfl,h2⟩|⟨g,cap,cur,rfl, -⟩⟩, -⟩:=h
 ·exact ⟨_,_,by rw [h2]⟩
 ·exact ⟨_,_,rfl⟩
theorem jc.at {α:Type} {w:World} {B:Nat} {T:TypeId} {s n:Nat} {R:Rl α} {v:Value} {l:List α} (h:jc w B T s R v l) (hn:l.length=n):∃ a c,v= .slice a n c:=hn ▸ h.slice
theorem jc.kept {α:Type} {w w':World} {B:Nat} {T:TypeId} {s:Nat} {R:Rl α} {v:Value} {l:List α} {m:List TypeId} (h:jc w B T s R v l) (k:Keep m w w') (hT:T∉m) (hR:zA m R):jc w' B T s R v l:=by
 obtain ⟨xs,h1,h2⟩:=h;exact ⟨xs,VW h1 k hT,h2.mono fun _ _ h=>⟨hR _ _ _ _ k h.1,h.2⟩⟩
theorem jc.later {α:Type} {w w':World} {B:Nat} {T:TypeId} {s:Nat} {R:Rl α} {v:Value} {l:List α} (h:jc w B T s R v l) (hb:Below w.heap.size w w') (hR:zA [] R):jc w' B T s R v l:=h.kept (Keep.of_below hb) zi hR
theorem Az {P:Program} {ops:Array Oper} {rest:List Oper} {o:Oper} {a:Act} {Q:Exit→Act→World→Prop} {w w0:World} (hgd:o.guard=none) (s x:Operand) (t:TypeId)
  (ho:o.op= .call { callee:=.builtin .append,args:=#[s,x],argTypes:=#[t,t] }) (e:TypeId) (i:TypeInfo) (z:Value) (size bytes:Nat) (ht:P.underlying t=some (.slice e)) (hi:P.info? e=some i) (hz:i.zero=some z)
  (hsize:i.size=size) (hby:i.bytes=bytes) (hzs:z.cells.size=size) (hsz:0<size) {α:Type} (R:Rl α) (v:Value) (l:List α) (hs:a.eval s=v) (hG:jc w w0.heap.size e size R v l) (hb:Below w0.heap.size w0 w)
  (b:Nat) (c:List Value) (y:α) (hx:a.eval x= .slice (some ⟨b,0,none⟩) 1 1) (hbx:ah w b c.toArray e) (hc:c.length=size) (h1:∀ u∈c,u.oneCell'=true) (hy:R w y c) (hR:zA [e] R) (hn:l.length≤1000000) (hbytes:bytes≤1000)
  (h:∀ v' w',jc w' w0.heap.size e size R v' (l++[y])→Below w0.heap.size w0 w'→Keep [e] w w'→wpList P ops Q rest (a.put o.dst v') w'):wpList P ops Q (o::rest) a w:=by
 obtain ⟨xs,hown,hall⟩:=hG;refine wpList_append_own w hgd s x t ho w0.heap.size e i z size bytes ht hi hz hsize hby hzs hsz v l.length xs.flatten hs hown ⟨b,0,none⟩ 1 1 c hx (by rw [hc,Nat.one_mul]) (fun j u hu=>?_) h1 (by unfold maxLen;omega) ?_ hb.size (fun v' w' hown' hg _=>?_)
 ·rw [Addr.add_lit,hbx.cell,Nat.zero_add,List.getElem?_toArray,hu]
 ·have:=Nat.mul_le_mul (show l.length+1≤1000001 by omega) hbytes;omega
 ·have hk:Keep [e] w w':=Keep.grown hown hg;refine h v' w' ⟨xs++[c],?_,(Ay.mono hall fun a c h=>⟨hR _ _ _ _ hk h.1,h.2⟩).snoc ⟨hR _ _ _ _ hk hy,hc⟩⟩ (hb.grown hg hb.size fun r hr=>?_) hk
  ·rw [List.length_append,List.flatten_append]
   simpa using hown'
  ·obtain ⟨-, ⟨rfl, -⟩|⟨g,cap,cur,rfl,hg1, -⟩⟩:=hown
   ·cases hr
   ·simp only [Value.ownBlock,Option.some.injEq] at hr;omega
def KU {α:Type} (w:World) (T:TypeId) (s:Nat) (R:Rl α) (v:Value) (l:List α):Prop :=
 ∃ a cap,v= .slice a l.length cap∧l.length≤cap∧cap≤9223372036854775807∧(a=none→cap=0) ∧
  ∀ ad,a=some ad→ad.spot=none∧∃ arr,ah w ad.block arr T∧∀ i (h:i<l.length),∃ c,R w l[i] c∧c.length=s∧∀ j,j<s→arr[ad.off+i*s+j]? =c[j]?
theorem KU.kept {α:Type} {w w':World} {T:TypeId} {s:Nat} {R:Rl α} {v:Value} {l:List α} {m:List TypeId} (h:KU w T s R v l) (k:Keep m w w') (hT:T∉m) (hR:zA m R):KU w' T s R v l:=by
 obtain ⟨a,cap,h1,h2,h3,h4,h5⟩:=h;refine ⟨a,cap,h1,h2,h3,h4,fun ad had=>?_⟩;obtain ⟨h6,arr,h7,h8⟩:=h5 ad had;refine ⟨h6,arr,k _ _ _ hT h7,fun i hi=>?_⟩;obtain ⟨c,k1,k2,k3⟩:=h8 i hi;exact ⟨c,hR _ _ _ _ k k1,k2,k3⟩
theorem KU.later {α:Type} {w w':World} {T:TypeId} {s:Nat} {R:Rl α} {v:Value} {l:List α} (h:KU w T s R v l) (hb:Below w.heap.size w w') (hR:zA [] R):KU w' T s R v l:=h.kept (Keep.of_below hb) zi hR
theorem KU.slice {α:Type} {w:World} {T:TypeId} {s:Nat} {R:Rl α} {v:Value} {l:List α} (h:KU w T s R v l):∃ a c,v= .slice a l.length c:=by
 obtain ⟨a,c,h1, -⟩:=h;exact ⟨a,c,h1⟩
theorem KU.read {α:Type} {w:World} {T:TypeId} {s:Nat} {R:Rl α} {v:Value} {l:List α} (h:KU w T s R v l) :
  ∃ a cap,v= .slice a l.length cap∧l.length≤cap∧cap≤9223372036854775807∧∀ k (_:k<l.length),∃ b off c,a=some ⟨b,off,none⟩∧b<w.heap.size∧R w l[k] c∧c.length=s∧∀ j,j<s→w.cell? ⟨b,off+k*s+j,none⟩=c[j]? :=by
 obtain ⟨a,cap,h1,h2,h3,h4,h5⟩:=h;refine ⟨a,cap,h1,h2,h3,fun k hk=>?_⟩;cases a with
 | none=>have:=h4 rfl;omega
 | some ad =>
  obtain ⟨h6,arr,h7,h8⟩:=h5 ad rfl;obtain ⟨b,off,sp⟩:=ad;simp only at h6;subst h6;obtain ⟨c,k1,k2,k3⟩:=h8 k hk;exact ⟨b,off,c,rfl,h7.lt,k1,k2,fun j hj=>(h7.cell _).trans (k3 j hj)⟩
theorem Us {xs:List (List Value)} {s:Nat} (h:∀ c∈xs,c.length=s):∀ {i:Nat} (hi:i<xs.length) {j:Nat},j<s→xs.flatten[i*s+j]? =xs[i][j]? :=by
 induction xs with
 | nil=>intro i hi;cases hi
 | cons x t ih =>
  intro i hi j hj;have hx:=h x zi;rw [List.flatten_cons];cases i with
  | zero =>
   rw [Nat.zero_mul,Nat.zero_add,List.getElem?_append_left zo];rfl
  | succ i =>
   rw [List.getElem?_append_right (by rw [hx,Nat.succ_mul];omega),hx];rw [show (i+1)*s+j - s=i*s+j by rw [Nat.succ_mul];omega];exact ih (fun c hc=>h c (by simp [hc])) (by simpa using hi) hj
theorem ad2 {α β:Type} {R:α→β→Prop} {S:β→Prop} {xs:List α} {ys:List β} (h:Ay R xs ys) (k:∀ a b,R a b→S b):∀ b∈ys,S b:=fun b hb=>by
 obtain ⟨i,hi,rfl⟩:=List.getElem_of_mem hb;exact k _ _ (h.2 i (by have:=h.1;omega) hi)
theorem jc.slV {α:Type} {w:World} {B:Nat} {T:TypeId} {s:Nat} {R:Rl α} {v:Value} {l:List α} (h:jc w B T s R v l):KU w T s R v l:=by
 obtain ⟨xs,⟨h1,⟨rfl,h2⟩|⟨g,cap,cur,rfl,h3,h4,h5,h6,h7,h8⟩⟩,hall⟩:=h
 ·have:l=[]:=List.length_eq_zero_iff.1 h2;subst this;exact ⟨none,0,rfl,Nat.le_refl _,by omega,fun _=>rfl,fun _ h=>by cases h⟩
 ·unfold maxLen at h6;refine ⟨_,cap,rfl,h5,h6,(fun h=>by cases h),fun ad had=>?_⟩;cases had
  refine ⟨rfl,cur,h4,fun i hi=>?_⟩;have hix:i<xs.length:=by have:=hall.1;omega
  obtain ⟨k1,k2⟩:=hall.2 i hi hix;refine ⟨xs[i],k1,k2,fun j hj=>?_⟩;have e:=Us (ad2 (S:=fun c=>c.length=s) hall fun _ _ h=>h.2) hix hj;rw [Nat.zero_add,← Array.getElem?_toList,← e,← h8]
  have hlt:i*s+j<l.length*s:=by
   have:=Nat.mul_le_mul_right s (show i+1≤l.length by omega);rw [Nat.succ_mul] at this;omega
  rw [List.getElem?_take_of_lt hlt]
theorem aa6 {xs:List (List Value)} {s:Nat} (h:∀ c∈xs,c.length=s):xs.flatten.length=xs.length*s:=by
 induction xs with
 | nil=>simp
 | cons x t ih =>
  rw [List.flatten_cons,List.length_append,h x zi,ih fun c hc=>h c (by simp [hc]),List.length_cons,Nat.succ_mul];omega
theorem KU.src {α:Type} {w:World} {T:TypeId} {s n c b off:Nat} {R:Rl α} {l:List α} (h:KU w T s R (.slice (some ⟨b,off,none⟩) n c) l) (hl:l.length=n) (hs:0<s) (lo k:Nat) (hk:lo+k≤n) :
  ∃ cs:List (List Value),Ay (fun a c=>R w a c∧c.length=s) ((l.drop lo).take k) cs∧∀ j u,cs.flatten[j]? =some u→w.cell? ((⟨b,off+lo*s,none⟩:Addr).add j)=some u:=by
 obtain ⟨a',cap',e, -, -, hat⟩:=h.read;simp only [Value.slice.injEq] at e;obtain ⟨rfl, -, -⟩:=e
 have hx:∀ i:Fin k,∃ c:List Value,R w (l[lo+i.1]'zo) c∧c.length=s∧∀ j,j<s→w.cell? ⟨b,off+(lo+i.1)*s+j,none⟩=c[j]? :=fun i=>by
  obtain ⟨b',off',c,e, -, k1,k2,k3⟩:=hat (lo+i.1) zo;simp only [Option.some.injEq,Addr.mk.injEq,and_true] at e;obtain ⟨rfl,rfl⟩:=e;exact ⟨c,k1,k2,k3⟩
 refine ⟨List.ofFn fun i=>(hx i).choose,⟨by simp;omega,fun i hi hi'=>?_⟩,fun j u hu=>?_⟩
 ·have hik:i<k:=by simpa using hi'
  have:=(hx ⟨i,hik⟩).choose_spec;simp only [List.getElem_take,List.getElem_drop,List.getElem_ofFn];exact ⟨this.1,this.2.1⟩
 ·have hlen:∀ c∈(List.ofFn fun i=>(hx i).choose),c.length=s:=fun c hc=>by
   obtain ⟨i,rfl⟩:=List.mem_ofFn.1 hc;exact (hx i).choose_spec.2.1
  have hj:j<k*s:=by
   have:=(List.getElem?_eq_some_iff.1 hu).1;rw [aa6 hlen,List.length_ofFn] at this;exact this
  have hi:j / s<k:=by rw [Nat.div_lt_iff_lt_mul hs];exact hj
  have hr:j%s<s:=Nat.mod_lt _ hs;have hjd:j / s*s+j%s=j:=by rw [Nat.mul_comm];exact Nat.div_add_mod j s
  rw [← hjd,Us hlen (by simpa using hi) hr] at hu;have hsp:=(hx ⟨j / s,hi⟩).choose_spec.2.2 (j%s) hr;simp only [List.getElem_ofFn] at hu;have hj2:off+lo*s+j=off+(lo+j / s)*s+j%s:=by rw [Nat.add_mul];omega
  rw [Addr.add_lit,hj2];exact hsp.trans hu
def RFr:Rl Fr:=fun _ f c=>c=[.string f.n,.string f.d]
theorem RFr.stay (m:List TypeId):zA m RFr:=fun _ _ _ _ _ h=>h
theorem KU.frs {w:World} {T:TypeId} {v:Value} {l:List Fr} (h:KU w T 2 RFr v l):XM w T v l:=by
 obtain ⟨a,cap,h1,h2,h3,h4,h5⟩:=h;refine ⟨a,cap,h1,h2,h3,h4,fun ad had=>?_⟩;obtain ⟨h6,arr,h7,h8⟩:=h5 ad had;refine ⟨h6,arr,h7,fun i hi=>?_⟩;obtain ⟨c,rfl,k2,k3⟩:=h8 i hi;exact ⟨k3 0 zo,k3 1 zo⟩
def aZ6 {α:Type} (S:World→Value→List α→Prop):Rl (List α):=fun w l c=>∃ v,c=[v]∧S w v l
end Go.Mem
namespace Go.SW
open Go Go.RowKit
variable {P:Program} {ops:Array Oper} {Q:Exit→Act→World→Prop}
def Oy (x y:Nat):Nat→List Oper→List Oper
 | _,[]=>[]
 | k,o::l=>(match k.beq y with
  | true=>⟨o.dst,o.op,o.type,o.pos,o.after.push ⟨x,.chain⟩,o.guard⟩
  | false=>o)::Oy x y (k+1) l
def lg (x y:Nat) (ops:Array Oper):Array Oper:=(Oy x y 0 ops.toList).toArray
def wait (x:Nat) (o:Oper):Oper:=⟨o.dst,o.op,o.type,o.pos,o.after.push ⟨x,.chain⟩,o.guard⟩
theorem Ox (x y:Nat):∀ (l:List Oper) (k i:Nat),(Oy x y k l)[i]? =(l[i]?).map fun o=>if k+i=y then wait x o else o
 | [],_,_=>by simp [Oy]
 | o::l,k,0=>by
  unfold Oy;rw [List.getElem?_cons_zero,List.getElem?_cons_zero];cases h:k.beq y with
  | true=>rw [Nat.eq_of_beq_eq_true h];simp [wait]
  | false =>
   have:=Nat.ne_of_beq_eq_false h;simp [this]
 | o::l,k,i+1=>by
  unfold Oy;rw [List.getElem?_cons_succ,List.getElem?_cons_succ,Ox x y l (k+1) i];have:k+1+i=k+(i+1):=by omega
  rw [this]
theorem rA (x y i:Nat) (ops:Array Oper):(lg x y ops)[i]? =(ops[i]?).map fun o=>if i=y then wait x o else o:=by
 unfold lg;rw [List.getElem?_toArray,Ox,Nat.zero_add,Array.getElem?_toList]
theorem Bp (x y:Nat):∀ (l:List Oper) (k:Nat),(Oy x y k l).length=l.length
 | [],_=>rfl
 | o::l,k=>by unfold Oy;rw [List.length_cons,List.length_cons,Bp x y l]
theorem Jl (x y:Nat) (ops:Array Oper):(lg x y ops).size=ops.size:=by
 unfold lg;rw [List.size_toArray,Bp,Array.length_toList]
theorem sM (x y:Nat) (tmps:Array Value) (g:Nat):yielded (lg x y ops) tmps g=yielded ops tmps g:=by
 unfold yielded;rw [rA];cases ops[g]? with
 | none=>rfl
 | some o =>
  have e:(if g=y then wait x o else o).dst=o.dst:=by split<;>rfl
  simp only [Option.map_some,Option.bind_some,e]
theorem xR (x y:Nat):∀ (l:List Nat) (a:Act) (w:World),wpOps P (lg x y ops) Q l a w→wpOps P ops Q l a w
 | [],_,_,h=>h
 | i::l,a,w,h=>by
  have ih:=xR x y l;unfold wpOps at h ⊢;rw [rA] at h;have hy:yielded (lg x y ops) a.tmps=yielded ops a.tmps:=funext fun g=>sM x y _ g;rw [hy] at h;cases ho:ops[i]? with
  | none =>
   simp only [ho,Option.map_none] at h ⊢;exact ih _ _ h
  | some o =>
   simp only [ho,Option.map_some] at h ⊢
   by_cases hi:i=y
   ·simp only [hi,if_true] at h;have e1:Region.wanted (wait x o) (yielded ops a.tmps)=Region.wanted o (yielded ops a.tmps):=rfl;rw [e1] at h;split
    ·rename_i hw;simp only [hw,if_true] at h
     rcases h with h|h
     ·exact .inl (Oper.wp_mono ih h)
     ·exact .inr h
    ·rename_i hw;simp only [hw,if_false,Bool.false_eq_true] at h;exact ih _ _ h
   ·simp only [hi,if_false] at h;split
    ·rename_i hw;simp only [hw,if_true] at h
     rcases h with h|h
     ·exact .inl (Oper.wp_mono ih h)
     ·exact .inr h
    ·rename_i hw;simp only [hw,if_false,Bool.false_eq_true] at h;exact ih _ _ h
theorem uy {x y i:Nat} {listed:Array Bool} (h:i∈Region.ready .any ops listed) (hy:i=y→listed.getD x false=true):i∈Region.ready .any (lg x y ops) listed:=by
 obtain ⟨h1,o,h2,h3⟩:=mem_ready.1 h;refine mem_ready.2 ⟨h1,_,by rw [rA,h2];rfl,fun e he hb=>?_⟩;split at he
 ·rename_i hi
  rcases Array.mem_push.1 he with he|he
  ·exact h3 e he hb
  ·rw [he];exact hy hi
 ·exact h3 e he hb
theorem MC {x y i:Nat} {listed:Array Bool} (h:i∈Region.ready .any (lg x y ops) listed):i∈Region.ready .any ops listed:=by
 obtain ⟨h1,o',h2,h3⟩:=mem_ready.1 h;rw [rA] at h2;cases ho:ops[i]? with
 | none=>rw [ho] at h2;cases h2
 | some o =>
  rw [ho,Option.map_some,Option.some.injEq] at h2;refine mem_ready.2 ⟨h1,o,ho,fun e he hb=>h3 e ?_ hb⟩;rw [← h2];split
  ·exact Array.mem_push.2 (.inl he)
  ·exact he
theorem yR {i fuel:Nat} {listed:Array Bool} (h:i∈Region.ready .any ops listed) (t:Nat) :
  ∃ t',Region.linearise.go .any ops (fuel+1) t' listed []=i::Region.linearise.go .any ops fuel t (listed.setIfInBounds i true) []:=by
 obtain ⟨k,hk,hi⟩:=List.getElem_of_mem h;refine ⟨k+(Region.ready .any ops listed).length*t,?_⟩;simp only [Region.linearise.go]
 change (match (Region.ready .any ops listed)[(k+(Region.ready .any ops listed).length*t)%(Region.ready .any ops listed).length]? with
   | some i=>Region.linearise.go .any ops fuel ((k+(Region.ready .any ops listed).length*t) / (Region.ready .any ops listed).length) (listed.setIfInBounds i true) [i]
   | none=>[].reverse)=_
 have e1:(k+(Region.ready .any ops listed).length*t)%(Region.ready .any ops listed).length=k:=by
  rw [Nat.add_mul_mod_self_left,Nat.mod_eq_of_lt hk]
 have e2:(k+(Region.ready .any ops listed).length*t) / (Region.ready .any ops listed).length=t:=by
  rw [Nat.add_mul_div_left _ _ (Nat.lt_of_le_of_lt (Nat.zero_le _) hk),Nat.div_eq_of_lt hk,Nat.zero_add]
 rw [e1,e2,List.getElem?_eq_getElem hk,hi];simp only [];rw [linearise_go_acc,List.reverse_singleton,List.singleton_append]
theorem go_step (fuel t:Nat) (listed:Array Bool) :
  (Region.ready .any ops listed=[]∧Region.linearise.go .any ops (fuel+1) t listed []=[]) ∨
  ∃ i∈Region.ready .any ops listed,∃ t',Region.linearise.go .any ops (fuel+1) t listed []=i::Region.linearise.go .any ops fuel t' (listed.setIfInBounds i true) []:=by
 simp only [Region.linearise.go]
 change (_∧(match (Region.ready .any ops listed)[t%(Region.ready .any ops listed).length]? with
   | some i=>Region.linearise.go .any ops fuel (t / (Region.ready .any ops listed).length) (listed.setIfInBounds i true) [i]
   | none=>[].reverse)=[])∨∃ i∈Region.ready .any ops listed,∃ t',(match (Region.ready .any ops listed)[t%(Region.ready .any ops listed).length]? with
   | some i=>Region.linearise.go .any ops fuel (t / (Region.ready .any ops listed).length) (listed.setIfInBounds i true) [i]
   | none=>[].reverse)=_
 cases hi:(Region.ready .any ops listed)[t%(Region.ready .any ops listed).length]? with
 | none =>
  left
  refine ⟨?_,rfl⟩;cases hr:Region.ready .any ops listed with
  | nil=>rfl
  | cons x xs =>
   rw [hr] at hi;have hlt:t%(x::xs).length<(x::xs).length:=Nat.mod_lt _ zi;simp at hi
   simp at hlt
   omega
 | some i =>
  right
  refine ⟨i,List.mem_of_getElem? hi,t / (Region.ready .any ops listed).length,?_⟩;simp only [];rw [linearise_go_acc,List.reverse_singleton,List.singleton_append]
theorem NJ {fuel t:Nat} {listed:Array Bool} (h:Region.ready .any ops listed=[]):Region.linearise.go .any ops (fuel+1) t listed []=[]:=by
 rcases go_step (ops:=ops) fuel t listed with ⟨-, h2⟩|⟨i,hi, -⟩
 ·exact h2
 ·rw [h] at hi;cases hi
theorem Ai {x y:Nat}:∀ (fuel t:Nat) (listed:Array Bool),listed.getD x false=true→∃ t',Region.linearise.go .any ops fuel t listed []=Region.linearise.go .any (lg x y ops) fuel t' listed []
 | 0,t,listed,_=>⟨t,rfl⟩
 | fuel+1,t,listed,hx=>by
  rcases go_step (ops:=ops) fuel t listed with ⟨h1,h2⟩|⟨i,hi,t',h⟩
  ·refine ⟨0,?_⟩;rw [h2,NJ];cases hr:Region.ready .any (lg x y ops) listed with
   | nil=>rfl
   | cons i l =>
    have:=MC (x:=x) (y:=y) (i:=i) (by rw [hr];exact List.mem_cons_self);rw [h1] at this;cases this
  ·obtain ⟨t2,h2⟩:=Ai fuel t' (listed.setIfInBounds i true) (getD_set_true hx);obtain ⟨t3,h3⟩:=yR (fuel:=fuel) (uy (y:=y) hi fun _=>hx) t2;exact ⟨t3,by rw [h,h2,h3]⟩
theorem aa1 {x y:Nat} (hxy:x≠y):∀ (fuel t:Nat) (listed:Array Bool),
  (∃ t',Region.linearise.go .any ops fuel t listed []=Region.linearise.go .any (lg x y ops) fuel t' listed []) ∨
  (∃ t',Region.linearise.go .any ops fuel t listed []=Region.linearise.go .any (lg y x ops) fuel t' listed [])
 | 0,t,listed=>.inl ⟨t,rfl⟩
 | fuel+1,t,listed=>by
  rcases go_step (ops:=ops) fuel t listed with ⟨h1,h2⟩|⟨i,hi,t',h⟩
  ·refine .inl ⟨0,?_⟩;rw [h2,NJ];cases hr:Region.ready .any (lg x y ops) listed with
   | nil=>rfl
   | cons i l =>
    have:=MC (x:=x) (y:=y) (i:=i) (by rw [hr];exact List.mem_cons_self);rw [h1] at this;cases this
  ·have hset:∀ j,i=j→(listed.setIfInBounds i true).getD j false=true:=fun j hj=>by
    subst hj;have:=(mem_ready.1 hi).1
    rcases Nat.lt_or_ge i listed.size with h'|h'
    ·simp [h']
    ·simp [Array.getElem?_eq_none h'] at this
   by_cases hix:i=x
   ·obtain ⟨t2,h2⟩:=Ai (ops:=ops) (x:=x) (y:=y) fuel t' _ (hset x hix);obtain ⟨t3,h3⟩:=yR (fuel:=fuel) (uy (x:=x) (y:=y) hi fun e=>absurd (hix.symm.trans e) hxy) t2;exact .inl ⟨t3,by rw [h,h2,h3]⟩
   ·by_cases hiy:i=y
    ·obtain ⟨t2,h2⟩:=Ai (ops:=ops) (x:=y) (y:=x) fuel t' _ (hset y hiy);obtain ⟨t3,h3⟩:=yR (fuel:=fuel) (uy (x:=y) (y:=x) hi fun e=>absurd e hix) t2;exact .inr ⟨t3,by rw [h,h2,h3]⟩
    ·rcases aa1 hxy fuel t' (listed.setIfInBounds i true) with ⟨t2,h2⟩|⟨t2,h2⟩
     ·obtain ⟨t3,h3⟩:=yR (fuel:=fuel) (uy (x:=x) (y:=y) hi fun e=>absurd e hiy) t2;exact .inl ⟨t3,by rw [h,h2,h3]⟩
     ·obtain ⟨t3,h3⟩:=yR (fuel:=fuel) (uy (x:=y) (y:=x) hi fun e=>absurd e hix) t2;exact .inr ⟨t3,by rw [h,h2,h3]⟩
structure Reg (P:Program) (ops:Array Oper) (Q:Exit→Act→World→Prop) (a:Act) (w:World):Prop where
 out:∀ t,wpOps P ops Q (Region.linearise .any ops t) a w
theorem av1 {id:Nat} {a:Act} {w:World} (hm:P.follows .mixedOrders=true) (h:Reg P ops Q a w.drew):(Code.region id ops true).wp P Q a w :=
 wp_region_draw fun t=>by
  simp only [Region.schedule,hm,Bool.true_or,if_true];exact h.out t
theorem ah8 {a:Act} {w:World} (x y:Nat) (hxy:x≠y) (h1:Reg P (lg x y ops) Q a w) (h2:Reg P (lg y x ops) Q a w):Reg P ops Q a w:=⟨fun t=>by
 unfold Region.linearise
 rcases aa1 (ops:=ops) hxy ops.size t (Array.replicate ops.size false) with ⟨t',h⟩|⟨t',h⟩
 ·rw [h];have:=h1.out t';unfold Region.linearise at this;rw [Jl] at this;exact xR x y _ _ _ this
 ·rw [h];have:=h2.out t';unfold Region.linearise at this;rw [Jl] at this;exact xR y x _ _ _ this⟩
def Ab (l:List Nat) (ops:Array Oper):Bool:=(List.range ops.size).all fun i=>match ops[i]? with
 | some o=>o.after.all (fun e=> !Region.binds .any e || (decide (l.idxOf e.on<l.idxOf i)&&decide (e.on<ops.size)))
 | none=>true
theorem ax3 {l:List Nat} (ho:Ab l ops=true):Led ops:=fun listed hsz hr i hi=>by
 have key:∀ n i,l.idxOf i=n→i<ops.size→listed.getD i true=true:=by
  intro n
  induction n using Nat.strongRecOn with
  | _ n ih =>
   intro i hn hi;cases hl:listed.getD i true with
   | true=>rfl
   | false =>
    exfalso
    have ho':ops[i]? =some ops[i]:=by simp [hi]
    have hmem:i∈Region.ready .any ops listed:=mem_ready.2 ⟨hl,ops[i],ho',fun e he hb=>by
     unfold Ab at ho;have h1:=List.all_eq_true.1 ho i (List.mem_range.2 hi);simp only [ho'] at h1;have h2:=Array.all_eq_true_iff_forall_mem.1 h1 e he;simp only [hb,Bool.not_true,Bool.false_or,Bool.and_eq_true,decide_eq_true_eq] at h2;have h3:=ih _ zo e.on rfl h2.2;have:e.on<listed.size:=by omega
     simpa [this] using h3⟩
    rw [hr] at hmem;cases hmem
 exact key _ i rfl hi
def ac2 (ops:Array Oper) (is:List (K × Nat)):Bool :=
 Region.noSelect ops&&Ab (is.map (·.2)) ops&&iE ops is&&decide (is.map (·.2)).Nodup&&decide (is.length≤ops.size)&&(List.range ops.size).all (fun i=>(is.map (·.2)).contains i)
theorem Mw {a:Act} {w:World} (is:List (K × Nat)) (hc:ac2 ops is=true) (hal:rF P ops is)
  (hQ:∀ c (a s:Act) w,s.defers=a.defers→Q (.panic c) a w→Q (.panic c) s w)
  (h:walk P ops Q w.heap.size is [] a w):Reg P ops Q a w:=⟨fun t=>by
 unfold ac2 at hc;simp only [Bool.and_eq_true,decide_eq_true_eq] at hc;obtain ⟨⟨⟨⟨⟨h1,h2⟩,h3⟩,h4⟩,h5⟩,h6⟩:=hc;unfold Region.linearise;refine wpAny_sound _ _ _ _ _ ?_;refine Lb.Dh (Z:=fun w w'=>Below w.heap.size w w') h1 (ax3 h2) hQ w.heap.size aK4 ops.size is [] [] [] _ a a w ?_ ?_ h3 h4 zi zi hal ?_ (kM _ _ _ _ h)
 ·rw [qI];exact h5
 ·refine ⟨by simp,fun i hi=>?_,fun j o hj hl=>?_,rfl,rfl,fun t _ _=>rfl,by simp,by simp,by simp,by simp⟩
  ·have hmem:i∈is.map (·.2):=by simpa using List.all_eq_true.1 h6 i (List.mem_range.2 hi)
   simp [hi]
   simpa using hmem
  ·have hj':=(Array.getElem?_eq_some_iff.1 hj).1;simp [hj'] at hl
 ·exact ⟨by simp,by simp,by simp,by simp,Nat.le_refl _⟩⟩
end Go.SW
namespace Go.SW
open Go Go.RowKit
variable {P:Program} {ops:Array Oper} {Q:Exit→Act→World→Prop}
theorem Jk {x y i:Nat} {o:Oper} (h:ops[i]? =some o):∃ o',(lg x y ops)[i]? =some o'∧o'.dst=o.dst∧o'.op=o.op∧o'.guard=o.guard∧(∀ (a:Act) (w:World) K R,o.wp P a w K R→o'.wp P a w K R)∧(∀ f,Region.wanted o' f=Region.wanted o f)∧(∀ ρ,execOp ρ o'=execOp ρ o)∧∀ (a:Act) (w:World),Oper.asks P o a w→Oper.asks P o' a w:=by
 refine ⟨_,by rw [rA,h];rfl,?_,?_,?_,?_,?_,?_,?_⟩
 all_goals split<;>first|rfl|exact fun _ _ _ _ h=>h|exact fun _=>rfl|exact fun _ _ h=>h
theorem Bq (x y:Nat):∀ (l:List Nat) (a:Act) (w:World),wpOps P ops Q l a w→wpOps P (lg x y ops) Q l a w
 | [],_,_,h=>h
 | i::l,a,w,h=>by
  have ih:=Bq x y l;unfold wpOps at h ⊢;have hy:yielded (lg x y ops) a.tmps=yielded ops a.tmps:=funext fun g=>sM x y _ g;rw [hy];cases ho:ops[i]? with
  | none =>
   rw [rA,ho,Option.map_none];simp only [ho] at h ⊢;exact ih _ _ h
  | some o =>
   obtain ⟨o',h1,h2,h3,h4,h5,h6,h7,h8⟩:=Jk (P:=P) (x:=x) (y:=y) ho;rw [h1];simp only [ho,h6,h2] at h ⊢;split at h
   ·rename_i hw;rw [if_pos hw]
    rcases h with h|h
    ·exact .inl (h5 _ _ _ _ (Oper.wp_mono ih h))
    ·exact .inr ⟨h8 _ _ h.1,h.2⟩
   ·rename_i hw;rw [if_neg hw];exact ih _ _ h
theorem zL (x y N:Nat):∀ (is:List (K × Nat)) (A:List Nat) (a:Act) (w:World),walk P ops Q N is A a w→walk P (lg x y ops) Q N is A a w
 | [],_,_,_,h=>h
 | (k,i)::is,A,a,w,h=>by
  have ih:=zL x y N is;unfold walk at h ⊢;have hy:yielded (lg x y ops) a.tmps=yielded ops a.tmps:=funext fun g=>sM x y _ g;rw [hy];cases ho:ops[i]? with
  | none=>rw [ho] at h;exact h.elim
  | some o =>
   obtain ⟨o',h1,h2,h3,h4,h5,h6,h7,h8⟩:=Jk (P:=P) (x:=x) (y:=y) ho;rw [ho] at h;rw [h1];cases k with
   | pure =>
    simp only [h6,h7,h2] at h ⊢;split at h
    ·rename_i hw;rw [if_pos hw];obtain ⟨v,k1,k2⟩:=h;exact ⟨v,k1,ih _ _ _ k2⟩
    ·rename_i hw;rw [if_neg hw];exact ih _ _ _ h
   | read =>
    simp only [h6,h7,h2] at h ⊢;split at h
    ·rename_i hw;rw [if_pos hw];obtain ⟨v,k1,k2⟩:=h;exact ⟨v,k1,ih _ _ _ k2⟩
    ·rename_i hw;rw [if_neg hw];exact ih _ _ _ h
   | alloc cs T =>
    simp only [h2] at h ⊢;exact fun b w' k1 k2 k3 k4 k5=>ih _ _ _ (h b w' k1 k2 k3 k4 k5)
   | ext =>
    simp only [h6,h2] at h ⊢;split at h
    ·rename_i hw;rw [if_pos hw];exact fun w' k1=>h5 _ _ _ _ (Oper.wp_mono (fun a' w'' k=>⟨k.1,ih _ _ _ k.2⟩) (h w' k1))
    ·rename_i hw;rw [if_neg hw];exact ih _ _ _ h
   | fin =>
    exact fun w' k1=>Bq x y _ _ _ (h w' k1)
inductive St|one (k:K) (i:Nat)|two (i j:Nat)
variable {o:Oper} {i:Nat} {is:List St} {a:Act} {w:World} {N:Nat} {A:List Nat}
end Go.SW
namespace Go.Proofs.aW
open Go Go.RowKit Go.SW Go.Num Go.Mem Go.Proofs Go.fF
def uh (a b:Int × Int):(Int × Int) × Int:=if okB [a,b] then dK (a.1 - b.2) (a.2 - b.1) else ((0,0),30)
theorem ao9 (x y z t:Int) (h0:okB [(x,y),(z,t)]=true) (b c:Nat) (w:World) (h:ah w b #[.int .i64 x,.int .i64 y] 40) (k:ah w c #[.int .i64 z,.int .i64 t] 40) :
  Calls Tryz.prog 129 #[.pointer (some ⟨b,0,none⟩),.pointer (some ⟨c,0,none⟩)] w (fun e w'=>e= .returned (aY (dK (x - t) (y - z)))∧Below w.heap.size w w'):=by
 have h0':dY x y=true∧dY z t=true:=by simpa [okB] using h0
 obtain ⟨hk1,hk2,hk3⟩: -1000000000000000000≤x∧x≤y∧y≤1000000000000000000:=by simpa [dY] using h0'.1
 obtain ⟨hk4,hk5,hk6⟩: -1000000000000000000≤z∧z≤t∧t≤1000000000000000000:=by simpa [dY] using h0'.2
 have H:=zh (fun W=>iM (x - t) (y - z) W);generalize dK (x - t) (y - z)=m at *;obtain ⟨⟨m1,m2⟩,m3⟩:=m;unfold aY at *;simp only at *;have cb:=h.cell;have lb:=h.lt;have cc:=k.cell;have lc:=k.lt;clear h k h0 h0';go_enter Tryz.func129,Tryz.ntmps129
 go_wp2_with fail
 refine (H.out _).mono ?_;rintro e w1 ⟨rfl,hb1⟩;have hx:=ah.later (ah.new w #[.int .i64 0,.int .i64 0] 40) hb1;have cx:=hx.cell;have fx:=hx.free;have lx:=hx.lt;have hw:=Bt (show Below w.heap.size w (w.alloc (.cells #[.int .i64 0,.int .i64 0] 40)) from aD) hb1;go_wp2_with fail
 refine aM rfl rfl aJ Tryz.underlying40 rfl zk ?_;exact ⟨rfl,aD⟩
theorem sN (x y z t:Int) (w:World):Calls Tryz.prog 50 #[.agg #[.int .i64 x,.int .i64 y],.agg #[.int .i64 z,.int .i64 t]] w (fun e w'=>e= .returned (aY (uh (x,y) (z,t)))∧Below w.heap.size w w'):=by
 have H:Hid (∀ W b c d,ah W b #[.int .i64 x,.int .i64 y] 40→ah W c #[.int .i64 z,.int .i64 t] 40→ah W d #[.int .i64 x,.int .i64 y,.int .i64 z,.int .i64 t] 40→Calls Tryz.prog 97 #[.func (.func 129) #[] #[.pointer (some ⟨b,0,none⟩),.pointer (some ⟨c,0,none⟩)],.slice (some ⟨d,0,none⟩) 2 2] W (fun e w'=>e= .returned (aY (uh (x,y) (z,t)))∧Below W.heap.size W w')):=zh fun W b c d h1 h2 h3 =>
  kC 129 #[.pointer (some ⟨b,0,none⟩),.pointer (some ⟨c,0,none⟩)] _ _ _ _ W (zK.two h3) (fun h W' hW'=>ao9 x y z t h b c W' (h1.later hW') (h2.later hW')) (fun args W=>by rfl)
 generalize uh (x,y) (z,t)=m at *;obtain ⟨⟨m1,m2⟩,m3⟩:=m;unfold aY at *;simp only at *;go_enter Tryz.func50,Tryz.ntmps50
 go_wp2_with fail
 obtain ⟨wx,EW,hz,X,Y,R,Z⟩:=al4 w #[.int .i64 x,.int .i64 y] 40 #[.int .i64 z,.int .i64 t] 40 #[.int .i64 0,.int .i64 0] 40 #[.int .i64 x,.int .i64 y,.int .i64 z,.int .i64 t] 40;rw [EW];clear EW;have HB:=zh hz;clear hz;refine (H.out _ _ _ _ X.out Y.out Z.out).mono ?_;rintro e w1 ⟨rfl,hb1⟩;replace R:=R.bl hb1;replace HB:=zh (Bt HB.out hb1);clear hb1 H;have hx:=R.out;have cx:=hx.cell;have fx:=hx.free;have lx:=hx.lt;have hw:=HB.out;go_wp2_with fail
 refine aM rfl rfl aJ Tryz.underlying40 rfl zk ?_;exact ⟨rfl,aD⟩
end Go.Proofs.aW
namespace Go.Num
def irt (k:Nat):Nat→Nat→Nat
 | 0,_=>0
 | f+1,n=>if (2*irt k f (n / 2^k)+1)^k≤n then 2*irt k f (n / 2^k)+1 else 2*irt k f (n / 2^k)
def dQ (k n:Nat):Nat:=irt k (n.log2 / k+1) n
theorem Nk {k:Nat} (hk:0<k):∀ f n,n<2^(k*f)→irt k f n^k≤n∧n<(irt k f n+1)^k
 | 0,n,h=>by
  have:n=0:=by simpa using h
  subst this;refine ⟨?_,?_⟩
  ·show 0^k≤0
   rw [Nat.zero_pow hk];omega
  ·show 0<(0+1)^k
   simp
 | f+1,n,h=>by
  have hp:0<2^k:=Nat.pow_pos zo
  have h1:n / 2^k<2^(k*f):=by
   rw [Nat.div_lt_iff_lt_mul hp,← Nat.pow_add];rw [Nat.mul_add] at h
   simpa using h
  obtain ⟨a,b⟩:=Nk hk f _ h1;unfold irt;generalize irt k f (n / 2^k)=r at *
  have e:(2*r)^k≤n:=by
   rw [Nat.mul_pow];have:=Nat.mul_le_mul_left (2^k) a;have:=Nat.mul_div_le n (2^k);omega
  have e2:n<(2*r+1+1)^k:=by
   have h2:n<2^k*(n / 2^k+1):=by
    have:=Nat.lt_mul_div_succ n hp;exact this
   have h3:=Nat.mul_le_mul_left (2^k) b;rw [show 2*r+1+1=2*(r+1) by omega,Nat.mul_pow];exact Nat.lt_of_lt_of_le h2 h3
  split
  ·rename_i h4;exact ⟨h4,e2⟩
  ·rename_i h4;exact ⟨e,by omega⟩
theorem jZ {k:Nat} (hk:0<k) (n:Nat):dQ k n^k≤n∧n<(dQ k n+1)^k:=by
 refine Nk hk _ _ ?_;refine Nat.lt_of_lt_of_le (Nat.lt_log2_self (n:=n)) (Nat.pow_le_pow_right zo ?_);have:=Nat.lt_mul_div_succ n.log2 hk;omega
theorem Nl {k n r:Nat} (hk:0<k) (h:n<(r+1)^k):dQ k n≤r:=by
 obtain ⟨a,b⟩:=jZ hk n
 have c:dQ k n<r+1:=by
  refine Nat.lt_of_not_le fun h=>?_;have:=Nat.pow_le_pow_left h k;omega
 omega
theorem yI {k n r:Nat} (hk:0<k) (h:r^k≤n):r≤dQ k n:=by
 obtain ⟨a,b⟩:=jZ hk n
 have c:r<dQ k n+1:=by
  refine Nat.lt_of_not_le fun h=>?_;have:=Nat.pow_le_pow_left h k;omega
 omega
theorem aJ4 (r x k:Nat):r^k*x+r*x^k≤x^(k+1)+r^(k+1):=by
 rw [Nat.pow_succ,Nat.pow_succ]
 rcases Nat.le_total r x with h|h
 ·have hk:=Nat.pow_le_pow_left h k;obtain ⟨d,rfl⟩:=Nat.exists_eq_add_of_le h;obtain ⟨e,he⟩:=Nat.exists_eq_add_of_le hk;rw [he];generalize r^k=a;have:(a+e)*(r+d)+a*r=a*(r+d)+r*(a+e)+e*d:=by grind
  omega
 ·have hk:=Nat.pow_le_pow_left h k;obtain ⟨d,rfl⟩:=Nat.exists_eq_add_of_le h;obtain ⟨e,he⟩:=Nat.exists_eq_add_of_le hk;rw [he];generalize x^k=a;have:a*x+(a+e)*(x+d)=(a+e)*x+(x+d)*a+e*d:=by grind
  omega
theorem means (r x:Nat):∀ k,(k+1)*r*x^k≤k*x^(k+1)+r^(k+1)
 | 0=>by simp
 | k+1=>by
  have ih:=Nat.mul_le_mul_right x (means r x k);have h:=aJ4 r x (k+1);have e1:(k+1+1)*r*x^(k+1)=(k+1)*r*x^k*x+r*x^(k+1):=by rw [Nat.pow_succ];grind
  have e2:(k+1)*x^(k+1+1)=k*x^(k+1)*x+x^(k+1+1):=by rw [Nat.pow_succ x (k+1)];grind
  have e3:(k*x^(k+1)+r^(k+1))*x=k*x^(k+1)*x+r^(k+1)*x:=by rw [Nat.add_mul]
  omega
def Qo (k m x:Nat):Nat:=(x*(k - 1)+m / x^(k - 1)) / k
theorem ak2 {k m x:Nat} (hk:0<k) (hx:0<x):dQ k m≤Qo k m x:=by
 obtain ⟨a, -⟩:=jZ hk m;generalize dQ k m=r at *;obtain ⟨j,rfl⟩:=Nat.exists_eq_add_of_le' hk;unfold Qo;rw [Nat.add_sub_cancel];rw [Nat.le_div_iff_mul_le zo];replace a:r^(j+1)≤m:=a
 show r*(j+1)≤_
 have hm:=means r x j;have hp:0<x^j:=Nat.pow_pos hx
 have h1:r*(j+1) - x*j≤m / x^j:=by
  rw [Nat.le_div_iff_mul_le hp,Nat.sub_mul];have e1:(j+1)*r*x^j=r*(j+1)*x^j:=by rw [Nat.mul_comm (j+1)]
  have e2:j*x^(j+1)=x*j*x^j:=by rw [Nat.pow_succ];grind
  omega
 omega
theorem Zf {k m x:Nat} (hk:0<k) (hx:0<x) (h1:dQ k m≤x) (h2:x≤Qo k m x):x=dQ k m:=by
 obtain ⟨j,rfl⟩:=Nat.exists_eq_add_of_le' hk;unfold Qo at h2;rw [Nat.add_sub_cancel] at h2;rw [Nat.le_div_iff_mul_le zo] at h2;have hp:0<x^j:=Nat.pow_pos hx;have h3:x≤m / x^j:=by rw [Nat.mul_succ] at h2;omega
 rw [Nat.le_div_iff_mul_le hp] at h3;have h4:x^(j+1)≤m:=by rw [Nat.pow_succ,Nat.mul_comm];exact h3
 have:=yI hk h4;omega
theorem Qn {k m l:Nat} (hk:0<k) (h:m<10^l):dQ k m≤10^(l / k+1):=by
 refine Nl hk ?_;have h1:(10^(l / k+1))^k≤(10^(l / k+1)+1)^k:=Nat.pow_le_pow_left zo k;rw [← Nat.pow_mul] at h1
 have h2:10^l≤10^((l / k+1)*k):=Nat.pow_le_pow_right zo (by
  have:=Nat.lt_mul_div_succ l hk;rw [Nat.mul_comm];omega)
 omega
end Go.Num
namespace Go.Num
def iV (n p q:Nat):Nat:=n^p*10^(12*q) / 10^(12*p)
def rT (n p q:Nat):Nat:=dQ q (iV n p q)
def OY (n p q:Nat):Bool:=decide (rT n p q^q*10^(12*p)=n^p*10^(12*q))
def phi (n p q:Nat):Nat:=if OY n p q then rT n p q else rT n p q+1
theorem nP (k:Nat):0<10^k:=Nat.pow_pos zo
theorem MJ {n p q:Nat} (h:p≤q):iV n p q=n^p*10^(12*(q - p)):=by
 unfold iV;rw [show 12*q=12*(q - p)+12*p by omega,Nat.pow_add,← Nat.mul_assoc,Nat.mul_div_cancel _ (nP _)]
theorem MK {n p q:Nat} (h:q≤p):iV n p q=n^p / 10^(12*(p - q)):=by
 unfold iV;rw [show 12*p=12*(p - q)+12*q by omega,Nat.pow_add,Nat.mul_div_mul_right _ _ (nP _)]
theorem Dw {n p q x:Nat}:x≤iV n p q↔x*10^(12*p)≤n^p*10^(12*q):=by
 unfold iV;exact Nat.le_div_iff_mul_le (nP _)
theorem MS {q:Nat} (hq:0<q) (n p:Nat):rT n p q^q*10^(12*p)≤n^p*10^(12*q)∧n^p*10^(12*q)<(rT n p q+1)^q*10^(12*p):=by
 obtain ⟨h1,h2⟩:=jZ hq (iV n p q);refine ⟨Dw.1 h1,?_⟩;rw [← Nat.not_le];exact fun h=>absurd (Dw.2 h) (Nat.not_le.2 h2)
theorem Zu {n p q r:Nat} (hq:0<q) (h:r^q*10^(12*p)≤n^p*10^(12*q)):r≤rT n p q:=yI hq (Dw.2 h)
theorem JN {a b q c:Nat} (h:a≤b):a^q*c≤b^q*c:=Nat.mul_le_mul_right _ (Nat.pow_le_pow_left h q)
theorem ag7 {B k:Nat} (h:B=10^k) (b:Nat):10^(k+b)=B*10^b:=by rw [h,Nat.pow_add]
theorem ai6 {n p q:Nat} (hq:0<q) (p36:p≤36) (Lr:q≤12) (h:10^600≤n^p):10^18<rT n p q:=by
 obtain ⟨B,eB⟩:∃ B,B=10^600:=⟨_,rfl⟩;rw [← eB] at h;refine Zu hq ?_
 have h1:(10^18+1)^q≤2^q*10^(18*q):=by
  rw [Nat.pow_mul,← Nat.mul_pow];exact Nat.pow_le_pow_left zd q
 have h2:2^q≤2^12:=Nat.pow_le_pow_right zo Lr;have h3:2^12≤10^4:=by decide
 have h4:(10^18+1)^q≤10^(4+18*q):=by
  rw [Nat.pow_add];exact Nat.le_trans h1 (Nat.mul_le_mul_right _ (Nat.le_trans h2 h3))
 calc (10^18+1)^q*10^(12*p)≤10^(4+18*q)*10^(12*p):=Nat.mul_le_mul_right _ h4
  _=10^(4+18*q+12*p):=(Nat.pow_add ..).symm
  _≤10^(600+12*q):=Nat.pow_le_pow_right zo zo
  _=B*10^(12*q):=ag7 eB _
  _≤n^p*10^(12*q):=Nat.mul_le_mul_right _ h
theorem aw9 {n p q r:Nat} (hq:0<q):r^q*10^(12*p)≤n^p*10^(12*q)↔r≤rT n p q :=
 ⟨Zu hq,fun h=>Nat.le_trans (JN h) (MS hq n p).1⟩
end Go.Num
namespace Go.Num
theorem av6 {n p q:Nat} (h:p≤q):OY n p q=decide (rT n p q^q=iV n p q):=by
 unfold OY;rw [MJ h,show 12*q=12*(q - p)+12*p by omega,Nat.pow_add 10,← Nat.mul_assoc];exact decide_eq_decide.2 ⟨fun e=>Nat.eq_of_mul_eq_mul_right (nP _) e,fun e=>by rw [e]⟩
theorem av7 {n p q:Nat} (hq:0<q) (h:q≤p):OY n p q=(decide (rT n p q^q=iV n p q)&&decide (n^p%10^(12*(p - q))=0)):=by
 have hs:=(jZ hq (iV n p q)).1;have hd:=Nat.div_add_mod (n^p) (10^(12*(p - q)));have hp:=nP (12*(p - q));unfold OY;rw [Bool.and_eq_decide];refine decide_eq_decide.2 ?_;rw [show 12*p=12*(p - q)+12*q by omega,Nat.pow_add 10,← Nat.mul_assoc];rw [← MK h] at hd
 change rT n p q^q≤iV n p q at hs
 simp only [decide_eq_true_eq]
 constructor
 ·intro e;have e:=Nat.eq_of_mul_eq_mul_right (nP _) e
  have h1:rT n p q^q*10^(12*(p - q))≤10^(12*(p - q))*iV n p q:=by
   rw [Nat.mul_comm];exact Nat.mul_le_mul_left _ hs
  refine ⟨?_,by omega⟩;refine Nat.eq_of_mul_eq_mul_right hp ?_;rw [Nat.mul_comm (iV n p q)];omega
 ·rintro ⟨e1,e2⟩;rw [e1,← hd,e2,Nat.add_zero,Nat.mul_comm (iV n p q)]
theorem ac9 {q x:Nat} (hq:0<q) (Lr:q≤12) (h:10^600≤x):10^18<dQ q x:=by
 refine yI hq (Nat.le_trans ?_ h);have h1:(10^18+1)^q≤(10^18+1)^12:=Nat.pow_le_pow_right zo Lr;have h2:(10^18+1)^12≤10^600:=by decide+kernel
 exact Nat.le_trans h1 h2
def yU (n p q:Nat) (up:Bool):Int × Int:=if rT n p q≤10^18 then (((if up then phi n p q else rT n p q:Nat):Int),0) else (0,6)
theorem am8 {n p q:Nat} {up:Bool} (h:rT n p q≤10^18):yU n p q up=(((rT n p q:Nat):Int)+(if (up&& !(OY n p q)) then 1 else 0),0):=by
 unfold yU phi;rw [if_pos h];cases up<;>cases OY n p q<;>simp
end Go.Num
namespace Go.Num
def rG (l:List Nat):Nat:=(l.map fun x=>x^2).sum
def nlo (l:List Nat):Nat:=dQ 2 (rG l)
def nhi (l:List Nat):Nat:=if nlo l^2=rG l then nlo l else nlo l+1
theorem Yx (x:Nat) (l:List Nat):rG (x::l)=x^2+rG l:=rfl
theorem CW (a b:List Nat):rG (a++b)=rG a+rG b:=by
 unfold rG;rw [List.map_append,List.sum_append]
end Go.Num
namespace Go.Num
def Lu (b:Int × Int):Nat:=(max b.1 (max (-b.2) 0)).toNat
def KJ (b:Int × Int):Nat:=(max (-b.1) b.2).toNat
def Ac (l:List Nat) (up:Bool):Int × Int:=if nlo l≤10^18 then (((if up then nhi l else nlo l:Nat):Int),0) else (0,6)
theorem aj9 {l:List Nat} {up:Bool} (h:nlo l≤10^18):Ac l up=(((nlo l:Nat):Int)+(if (up&& !(decide (nlo l^2=rG l))) then 1 else 0),0):=by
 unfold Ac nhi;rw [if_pos h]
 by_cases e:nlo l^2=rG l<;>cases up<;>simp [e]
end Go.Num
namespace Go.fF
open Go.Num
def rN (n:Nat):Rat:=((n:Int):Rat) / ((1000000000000:Int):Rat)
theorem aJ7 (n:Nat):rN n=mkRat (n:Int) 1000000000000:=by
 unfold rN;rw [Rat.mkRat_eq_div];rfl
theorem uF (n:Nat):(rN n).num=((n / n.gcd 1000000000000:Nat):Int)∧(rN n).den=1000000000000 / n.gcd 1000000000000:=by
 rw [aJ7];obtain ⟨h1,h2⟩:=uJ (n:Int) (d:=1000000000000) zo;rw [h1,h2,Int.natAbs_natCast];refine ⟨?_,rfl⟩;unfold Mem.gT;rw [if_neg zi]
theorem YI (n:Nat):(rN n).num.natAbs*10^12=n*(rN n).den:=by
 obtain ⟨h1,h2⟩:=uF n;rw [h1,h2,Int.natAbs_natCast];have g1:=Nat.gcd_dvd_left n 1000000000000;have g2:=Nat.gcd_dvd_right n 1000000000000;obtain ⟨x,hx⟩:=g1;obtain ⟨y,hy⟩:=g2;have hg:0<n.gcd 1000000000000:=Nat.gcd_pos_of_pos_right _ zo;have e:(10:Nat)^12=1000000000000:=by decide
 rw [e];generalize n.gcd 1000000000000=g at *;subst hx;rw [hy,Nat.mul_div_cancel_left _ hg,Nat.mul_div_cancel_left _ hg];rw [Nat.mul_comm g y,← Nat.mul_assoc,Nat.mul_comm (x*y) g,Nat.mul_assoc]
theorem IE {n k:Nat} (h:n≤10^18+1) (hk:k≤12):vL (rN n^k)=true:=by
 obtain ⟨h1,h2⟩:=uF n;have e1:(rN n^k).num=((n / n.gcd 1000000000000:Nat):Int)^k:=by rw [Rat.num_pow,h1]
 have e2:(rN n^k).den=(1000000000000 / n.gcd 1000000000000)^k:=by rw [Rat.den_pow,h2]
 unfold vL jd;rw [e1,e2,← Int.natCast_pow,Int.natAbs_natCast];have a:n / n.gcd 1000000000000≤10^19:=Nat.le_trans (Nat.div_le_self _ _) (Nat.le_trans h (by decide+kernel));have b:1000000000000 / n.gcd 1000000000000≤10^19:=Nat.le_trans (Nat.div_le_self _ _) (by decide+kernel);have c:((10:Nat)^19)^12<ig 600:=by decide+kernel
 have p:∀ x,x≤10^19→x^k<ig 600:=fun x hx=>Nat.lt_of_le_of_lt (Nat.le_trans (Nat.pow_le_pow_left hx k) (Nat.pow_le_pow_right zd hk)) c;rw [decide_eq_true (p _ a),decide_eq_true (p _ b)];rfl
def WW (n a m b:Nat):Int:=if n^a*10^(12*b)<m^b*10^(12*a) then -1 else if m^b*10^(12*a)<n^a*10^(12*b) then 1 else 0
theorem IK (n k:Nat):(rN n^k).num=((((rN n).num.natAbs^k:Nat)):Int)∧(rN n^k).den=(rN n).den^k∧(rN n).num.natAbs^k*10^(12*k)=n^k*(rN n).den^k:=by
 refine ⟨?_,Rat.den_pow _ _,?_⟩
 ·rw [Rat.num_pow,Int.natCast_pow,Int.natAbs_of_nonneg (by rw [(uF n).1];exact Int.natCast_nonneg _)]
 ·rw [Nat.pow_mul,← Nat.mul_pow,YI,Nat.mul_pow]
theorem UE (n a m b:Nat):pJ (rN n^a) (rN m^b)=WW n a m b:=by
 obtain ⟨p1,p2,p3⟩:=IK n a;obtain ⟨q1,q2,q3⟩:=IK m b;rw [← yw,p1,p2,q1,q2];have dp:0<(rN n).den^a:=Nat.pow_pos (rN n).den_pos;have dq:0<(rN m).den^b:=Nat.pow_pos (rN m).den_pos;have ea:0<10^(12*a):=nP _;have eb:0<10^(12*b):=nP _;unfold WW;generalize (rN n).num.natAbs^a=x at *;generalize (rN m).num.natAbs^b=y at *;generalize (rN n).den^a=dx at *;generalize (rN m).den^b=dy at *;generalize n^a=nn at *;generalize m^b=mm at *;generalize 10^(12*a)=A at *;generalize 10^(12*b)=B at *
 have k1:(x*dy)*(A*B)=(nn*B)*(dx*dy):=by
  calc (x*dy)*(A*B)=(x*A)*(dy*B):=by ac_rfl
   _=(nn*dx)*(dy*B):=by rw [p3]
   _=(nn*B)*(dx*dy):=by ac_rfl
 have k2:(y*dx)*(A*B)=(mm*A)*(dx*dy):=by
  calc (y*dx)*(A*B)=(y*B)*(dx*A):=by ac_rfl
   _=(mm*dy)*(dx*A):=by rw [q3]
   _=(mm*A)*(dx*dy):=by ac_rfl
 have pAB:0<A*B:=Nat.mul_pos ea eb;have pD:0<dx*dy:=Nat.mul_pos dp dq
 have l1:x*dy<y*dx↔nn*B<mm*A:=by
  rw [← Nat.mul_lt_mul_right pAB,k1,k2,Nat.mul_lt_mul_right pD]
 have l2:y*dx<x*dy↔mm*A<nn*B:=by
  rw [← Nat.mul_lt_mul_right pAB,k1,k2,Nat.mul_lt_mul_right pD]
 unfold uj;have c1:((x:Int)*(dy:Int):Int)=((x*dy:Nat):Int):=by rw [Int.natCast_mul]
 have c2:((y:Int)*(dx:Int):Int)=((y*dx:Nat):Int):=by rw [Int.natCast_mul]
 rw [c1,c2]
 by_cases h1:x*dy<y*dx
 ·rw [if_pos (l1.1 h1),if_neg zo,if_pos zo]
 ·rw [if_neg (fun h=>h1 (l1.2 h))]
  by_cases h2:y*dx<x*dy
  ·rw [if_pos (l2.1 h2),if_neg zo,if_neg zo]
  ·rw [if_neg (fun h=>h2 (l2.2 h)),if_pos zo]
end Go.fF
namespace Go.Num
end Go.Num
namespace Go.Proofs.power
open Go Go.RowKit Go.SW Go.Num Go.Mem Go.Proofs Go.Proofs.aW
def eok (p q:Int):Bool:=decide (1≤p)&&(decide (p≤36)&&(decide (1≤q)&&decide (q≤12)))
theorem mO (p q:Int) (w:World):Calls Tryz.prog 251 #[.agg #[.int .i64 p,.int .i64 q]] w (fun e w'=>e= .returned (.bool (eok p q))∧Below w.heap.size w w'):=by
 unfold eok;cases h1:decide (1≤p)<;>cases h2:decide (p≤36)<;>cases h3:decide (1≤q)<;>cases h4:decide (q≤12)
 all_goals
  go_enter Tryz.func251,Tryz.ntmps251
  go_wp2_with fail
  go_ret
  exact ⟨rfl,aD⟩
def Wj (a b:Int × Int):Value:=if a.2≠0 then .tuple #[.agg #[.int .i64 0,.int .i64 0],.int .i64 a.2] else if b.2≠0 then .tuple #[.agg #[.int .i64 0,.int .i64 0],.int .i64 b.2] else
 if dY a.1 b.1 then .tuple #[.agg #[.int .i64 a.1,.int .i64 b.1],.int .i64 0] else .tuple #[.agg #[.int .i64 0,.int .i64 0],.int .i64 6]
theorem Qg (lo hi:Int) (f:Value) (F:FuncId) (caps free:Array Value) (a b:Int × Int) (w:World) (hf:f= .func (.func F) caps free)
  (h1:∀ W,Below w.heap.size w W→Calls Tryz.prog F (caps++#[.int .i64 lo,.bool false]) W (fun e w'=>e= .returned (.tuple #[.int .i64 a.1,.int .i64 a.2])∧Below W.heap.size W w'))
  (h2:∀ W,Below w.heap.size w W→Calls Tryz.prog F (caps++#[.int .i64 hi,.bool true]) W (fun e w'=>e= .returned (.tuple #[.int .i64 b.1,.int .i64 b.2])∧Below W.heap.size W w')) (hfr:free=#[])
  (hen:∀ args W,(callFunc F args).run Tryz.prog W= .ok (.enter F args) W) :
  Calls Tryz.prog 252 #[.int .i64 lo,.int .i64 hi,f] w (fun e w'=>e= .returned (Wj a b)∧Below w.heap.size w w'):=by
 subst hf hfr;obtain ⟨a1,a2⟩:=a;obtain ⟨b1,b2⟩:=b;have H1:=zh h1;have H2:=zh h2;have HO:=zh (fun W=>nG a1 b1 W);unfold Wj;simp only;clear h1 h2;go_enter Tryz.func252,Tryz.ntmps252
 go_wp2_with fail
 refine (H1.out _ aD).mono ?_;rintro e w1 ⟨rfl,hb1⟩;have hx:=ah.later (ah.new w #[.int .i64 0,.int .i64 0] 40) hb1;have HX:=zh hx;have HB1:=zh (Bt (show Below w.heap.size w (w.alloc (.cells #[.int .i64 0,.int .i64 0] 40)) from aD) hb1);clear hx hb1
 by_cases ha:a2=0
 ·subst ha;go_wp2_with fail
  refine (H2.out _ HB1.out).mono ?_;rintro e w2 ⟨rfl,hb2⟩;replace HX:=zh (HX.out.later hb2);have HB2:=zh (Bt HB1.out hb2);clear hb2 HB1
  by_cases hb:b2=0
  ·subst hb;go_wp2_with fail
   refine (HO.out _).mono ?_;rintro e w3 ⟨rfl,hb3⟩;replace HX:=zh (HX.out.later hb3);have HB3:=zh (Bt HB2.out hb3);clear hb3 HB2;have hx:=HX.out;have cx:=hx.cell;have fx:=hx.free;have lx:=hx.lt;have hw:=HB3.out;cases hk:dY a1 b1
   all_goals
    go_wp2_with fail
    refine aM rfl rfl aJ Tryz.underlying40 rfl zk ?_;exact ⟨by first|rfl|(rw [if_neg (fun h=>h rfl),if_neg (fun h=>h rfl),hk];rfl),aD⟩
  ·have g:(b2 == 0)=false:=beq_eq_false_iff_ne.2 hb;have hx:=HX.out;have cx:=hx.cell;have fx:=hx.free;have lx:=hx.lt;have hw:=HB2.out;go_wp2_with fail
   refine aM rfl rfl aJ Tryz.underlying40 rfl zk ?_;exact ⟨by first|rfl|(rw [if_neg (fun h=>h rfl),if_pos hb];rfl),aD⟩
 ·have g:(a2 == 0)=false:=beq_eq_false_iff_ne.2 ha;have hx:=HX.out;have cx:=hx.cell;have fx:=hx.free;have lx:=hx.lt;have hw:=HB1.out;go_wp2_with fail
  refine aM rfl rfl aJ Tryz.underlying40 rfl zk ?_;exact ⟨by first|rfl|(rw [if_pos ha];rfl),aD⟩
end Go.Proofs.power
namespace Go.Proofs
open Go Go.RowKit Go.SW Go.Num Go.Mem Go.fF
def aZ {α β:Type} (z:β) (x:α × Int) (f:α→β × Int):β × Int:=if x.2=0 then f x.1 else (z,x.2)
def wE {α:Type} (x:α):α × Int:=(x,0)
def eX {α:Type} (x:α × Int) (v:α) (k:Int):Prop:=x.2=k∧(k=0→x.1=v)
theorem eX.of {α:Type} {x:α × Int} {v:α} {k:Int} (h:x=(v,k)):eX x v k:=by subst h;exact ⟨rfl,fun _=>rfl⟩
theorem eX.cond_true {α:Type} {a b:α × Int} {v:α} {k:Int} (h:eX (cond true a b) v k):eX a v k:=h
theorem eX.cond_false {α:Type} {a b:α × Int} {v:α} {k:Int} (h:eX (cond false a b) v k):eX b v k:=h
theorem eX.pos {α:Type} {a b:α × Int} {v:α} {k:Int} {p:Prop} [Decidable p] (h:eX (if p then a else b) v k) (hp:p):eX a v k:=by rwa [if_pos hp] at h
theorem eX.neg {α:Type} {a b:α × Int} {v:α} {k:Int} {p:Prop} [Decidable p] (h:eX (if p then a else b) v k) (hp:¬ p):eX b v k:=by rwa [if_neg hp] at h
theorem ao5 {α β:Type} {z:β} {x:α × Int} {f:α→β × Int} (h:x.2≠0):aZ z x f=(z,x.2):=if_neg h
theorem aG {α β:Type} {z:β} {x:α × Int} {f:α→β × Int} {r:β} {k:Int} (h:eX (aZ z x f) r k):∃ y k1,x=(y,k1)∧((k1=0∧eX (f y) r k)∨(k1≠0∧k=k1)):=by
 obtain ⟨y,k1⟩:=x;refine ⟨y,k1,rfl,?_⟩
 by_cases h0:k1=0
 ·subst h0;exact .inl ⟨rfl,h⟩
 ·rw [ao5 (x:=(y,k1)) h0] at h;exact .inr ⟨h0,h.1.symm⟩
theorem jk {α:Type} {x:α × Int} {r:α} {k:Int} (h:eX x r k):∃ y k1,x=(y,k1)∧((k1=0∧eX (wE y) r k)∨(k1≠0∧k=k1)):=by
 obtain ⟨y,k1⟩:=x;refine ⟨y,k1,rfl,?_⟩
 by_cases h0:k1=0
 ·subst h0;exact .inl ⟨rfl,h⟩
 ·exact .inr ⟨h0,h.1.symm⟩
def ad6 (T:Int→Ending) (w:World) (v:Value) (k:Int) (e:Ending) (w':World):Prop:=Below w.heap.size w w'∧((k=0∧e= .returned v)∨(k≠0∧e=T k))
def Ip (w:World) (v z:Value) (k:Int) (e:Ending) (w':World):Prop:=Below w.heap.size w w'∧((k=0∧e= .returned (.tuple #[v,.int .i64 0]))∨(k≠0∧e= .returned (.tuple #[z,.int .i64 k])))
end Go.Proofs
