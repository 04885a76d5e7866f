/- Lemmas for the proof. No condition. -/
import Derived.Test.YtneajphgfdlmhaaGreatDoorRB01
import Derived.Test.YtneajphgfdlmhaaGreatDoorRB02
import Derived.Test.YtneajphgfdlmhaaGreatDoorProg
import Derived.KernelRfl
import Derived.WalkMore
import Derived.Deep.RegionHeld
import Derived.Shelf.Bits.Mul64
import Derived.ControlIn
set_option linter.unusedVariables false
set_option linter.unusedSimpArgs false
set_option maxRecDepth 100000
set_option maxHeartbeats 16000000
namespace Go.Num
theorem rR {B:Nat} {v:List Nat} {k:Nat} (hv:v.length=k+2):val B v=val B (v.take k)+B^k*(v.getD k 0+B*v.getD (k+1) 0):=by
 have h1:=dh B (l:=v) (k:=k) zo;have h2:=dh B (l:=v) (k:=k+1) zo;rw [show k+1+1=v.length by omega,List.take_length] at h2;rw [h2,h1,Nat.mul_add,Nat.pow_succ,Nat.mul_assoc,Nat.add_assoc]
theorem yx {B:Nat} {u:List Nat} {k:Nat} (hu:u.length=k+3):val B u=val B (u.take k)+B^k*(u.getD k 0+B*(u.getD (k+1) 0+B*u.getD (k+2) 0)):=by
 have h1:=dh B (l:=u) (k:=k) zo;have h2:=dh B (l:=u) (k:=k+1) zo;have h3:=dh B (l:=u) (k:=k+2) zo;rw [show k+2+1=u.length by omega,List.take_length] at h3;rw [h3,h2,h1];simp only [Nat.mul_add,Nat.pow_succ,Nat.mul_assoc];omega
structure Rf (B U V top head q r:Nat):Prop where
 split:q*top+r=head
 high:U / V≤q
 bound:q≤B+1
section
variable {B:Nat} {u v:List Nat} {k:Nat}
theorem Qe (hB:1<B) (hu:u.length=k+3) (hv:v.length=k+2) (du:iM B u) (ht:B≤2*v.getD (k+1) 0) (hlt:val B u<val B v*B) (dv:iM B v) :
  Rf B (val B u) (val B v) (v.getD (k+1) 0) (u.getD (k+2) 0*B+u.getD (k+1) 0) ((u.getD (k+2) 0*B+u.getD (k+1) 0) / v.getD (k+1) 0) ((u.getD (k+2) 0*B+u.getD (k+1) 0)%v.getD (k+1) 0):=by
 have eu:=yx (B:=B) hu;have ev:=rR (B:=B) hv;have lu:=jL zo (du.take k);have lv:=jL zo (dv.take k);rw [show (u.take k).length=k by simp;omega] at lu;rw [show (v.take k).length=k by simp;omega] at lv;have d0:=du.getD zo k;have d1:=du.getD zo (k+1);have f0:=dv.getD zo k;generalize u.getD k 0=u2 at *;generalize u.getD (k+1) 0=u1 at *;generalize u.getD (k+2) 0=un at *;generalize v.getD k 0=v2 at *;generalize v.getD (k+1) 0=top at *;generalize val B (u.take k)=a at *;generalize val B (v.take k)=b at *;have hp:0<B^k:=Nat.pow_pos zo;generalize B^k=p at *;have htop:0<top:=by omega
 have hV:0<val B v:=by
  rw [ev];have:0<p*(v2+B*top):=Nat.mul_pos hp (by have:=Nat.mul_pos (by omega:0<B) htop;omega);omega
 have Xy:=Nat.div_add_mod (un*B+u1) top;have hml:=Nat.mod_lt (un*B+u1) htop;refine ⟨by rw [Nat.mul_comm];exact Xy,?_,?_⟩
 ·rw [← Nat.lt_succ_iff,Nat.div_lt_iff_lt_mul hV,eu,ev];generalize (un*B+u1) / top=q at *;have h1:un*B+u1+1≤(q+1)*top:=by rw [Nat.add_mul,Nat.one_mul,Nat.mul_comm q];omega
  have h2:p*(B*(un*B+u1+1))≤p*(B*((q+1)*top)):=Nat.mul_le_mul_left _ (Nat.mul_le_mul_left _ h1)
  have h3:a+p*(u2+B*(u1+B*un))<p*(B*(un*B+u1+1)):=by
   have:p*(u2+B*(u1+B*un)+1)≤p*(B*(un*B+u1+1)):=Nat.mul_le_mul_left _ (by rw [Nat.mul_add B (un*B+u1),Nat.mul_one,Nat.add_comm u1,Nat.mul_comm B un];omega);rw [Nat.mul_add,Nat.mul_one] at this;omega
  have h4:p*(B*((q+1)*top))≤Nat.succ q*(b+p*(v2+B*top)):=by
   rw [Nat.succ_eq_add_one,show p*(B*((q+1)*top))=(q+1)*(p*(B*top)) by rw [Nat.mul_left_comm B,Nat.mul_left_comm p]];refine Nat.mul_le_mul_left _ ?_;rw [Nat.mul_add p];omega
  omega
 ·-- the highest digit of u is at most that of v
  have h1:un≤top:=by
   rcases Nat.lt_or_ge top un with h|h
   ·exfalso
    rw [eu,ev] at hlt;have h2:p*(B*(B*(top+1)))≤p*(B*(B*un)):=Nat.mul_le_mul_left _ (Nat.mul_le_mul_left _ (Nat.mul_le_mul_left _ h))
    have h3:(b+p*(v2+B*top))*B≤p*(B*(B*(top+1))):=by
     have:b+p*(v2+B*top)≤p*(B*(top+1)):=by
      have h5:p*(v2+1+B*top)≤p*(B*(top+1)):=Nat.mul_le_mul_left _ (by rw [Nat.mul_add B top,Nat.mul_one];omega);simp only [Nat.mul_add,Nat.mul_one] at h5 ⊢;omega
     calc (b+p*(v2+B*top))*B≤p*(B*(top+1))*B:=Nat.mul_le_mul_right _ this
      _=p*(B*(B*(top+1))):=by rw [Nat.mul_assoc,Nat.mul_comm (B*(top+1)) B]
    have h4:p*(B*(B*un))≤a+p*(u2+B*(u1+B*un)):=by simp only [Nat.mul_add];omega
    omega
   ·exact h
  have h2:(un*B+u1) / top<B+2:=by
   rw [Nat.div_lt_iff_lt_mul htop];have h3:un*B≤top*B:=Nat.mul_le_mul_right _ h1;rw [Nat.add_mul,Nat.mul_comm B top];omega
  omega
theorem TL (hB:1<B) (hu:u.length=k+3) (hv:v.length=k+2) (du:iM B u) {q r:Nat} (ht:0<v.getD (k+1) 0) (hlt:val B u<val B v*B)
  (g:Rf B (val B u) (val B v) (v.getD (k+1) 0) (u.getD (k+2) 0*B+u.getD (k+1) 0) q r) (hc:B≤q∨r*B+u.getD k 0<q*v.getD k 0) :
  1≤q∧Rf B (val B u) (val B v) (v.getD (k+1) 0) (u.getD (k+2) 0*B+u.getD (k+1) 0) (q - 1) (r+v.getD (k+1) 0):=by
 have eu:=yx (B:=B) hu;have ev:=rR (B:=B) hv;have lu:=jL zo (du.take k);rw [show (u.take k).length=k by simp;omega] at lu;obtain ⟨g1,g2,g3⟩:=g;generalize u.getD k 0=u2 at *;generalize u.getD (k+1) 0=u1 at *;generalize u.getD (k+2) 0=un at *;generalize v.getD k 0=v2 at *;generalize v.getD (k+1) 0=top at *;generalize val B (u.take k)=a at *;generalize val B (v.take k)=b at *;have hp:0<B^k:=Nat.pow_pos zo;generalize B^k=p at *
 have hV:0<val B v:=by
  rw [ev];have:0<p*(v2+B*top):=Nat.mul_pos hp (by have:=Nat.mul_pos (by omega:0<B) ht;omega);omega
 have hq:val B u / val B v<q:=by
  rcases hc with hc|hc
  ·have:val B u / val B v<B:=by rw [Nat.div_lt_iff_lt_mul hV,Nat.mul_comm];exact hlt
   omega
  ·rw [Nat.div_lt_iff_lt_mul hV,eu,ev]
   have h1:u2+B*(u1+B*un)+1≤q*(v2+B*top):=by
    have:B*(q*top+r)=B*(un*B+u1):=by rw [g1]
    rw [Nat.mul_add B (q*top)] at this;rw [Nat.mul_add q,Nat.mul_left_comm q B top];rw [Nat.mul_add B u1,← Nat.mul_comm un B];rw [Nat.mul_add B (un*B)] at this;rw [Nat.mul_comm r B] at hc;omega
   have h2:=Nat.mul_le_mul_left p h1;rw [Nat.mul_add p,Nat.mul_one] at h2
   have h3:p*(q*(v2+B*top))≤q*(b+p*(v2+B*top)):=by
    rw [Nat.mul_left_comm];exact Nat.mul_le_mul_left _ zo
   omega
 have hq0:=Nat.zero_le (val B u / val B v);obtain ⟨q,rfl⟩:∃ q',q=q'+1:=⟨q - 1,by omega⟩;refine ⟨by omega,?_,by simp only [Nat.add_sub_cancel];omega,by omega⟩;rw [Nat.add_mul,Nat.one_mul] at g1;simp only [Nat.add_sub_cancel];omega
theorem XL (hB:1<B) (hu:u.length=k+3) (hv:v.length=k+2) (dv:iM B v) {q r:Nat} (ht:0<v.getD (k+1) 0)
  (g:Rf B (val B u) (val B v) (v.getD (k+1) 0) (u.getD (k+2) 0*B+u.getD (k+1) 0) q r) (hc:q≤B) (hc2:q*v.getD k 0≤r*B+u.getD k 0):q≤val B u / val B v+1:=by
 have eu:=yx (B:=B) hu;have ev:=rR (B:=B) hv;have lv:=jL zo (dv.take k);rw [show (v.take k).length=k by simp;omega] at lv;obtain ⟨g1,g2,g3⟩:=g;generalize u.getD k 0=u2 at *;generalize u.getD (k+1) 0=u1 at *;generalize u.getD (k+2) 0=un at *;generalize v.getD k 0=v2 at *;generalize v.getD (k+1) 0=top at *;generalize val B (u.take k)=a at *;generalize val B (v.take k)=b at *;have hp:0<B^k:=Nat.pow_pos zo;generalize B^k=p at *
 have hV:0<val B v:=by
  rw [ev];have:0<p*(v2+B*top):=Nat.mul_pos hp (by have:=Nat.mul_pos (by omega:0<B) ht;omega);omega
 have hq0:=Nat.zero_le (val B u / val B v)
 rcases Nat.eq_zero_or_pos q with h0|h0
 ·omega
 obtain ⟨q',rfl⟩:∃ q',q=q'+1:=⟨q - 1,by omega⟩;rw [Nat.add_le_add_iff_right,Nat.le_div_iff_mul_le hV]
 have h1:(q'+1)*(v2+B*top)≤u2+B*(u1+B*un):=by
  have:B*((q'+1)*top+r)=B*(un*B+u1):=by rw [g1]
  rw [Nat.mul_add B ((q'+1)*top)] at this;rw [Nat.mul_add (q'+1),Nat.mul_left_comm (q'+1) B top];rw [Nat.mul_add B u1,← Nat.mul_comm un B];rw [Nat.mul_add B (un*B)] at this;rw [Nat.mul_comm r B] at hc2;omega
 have h2:=Nat.mul_le_mul_left p h1;have h3:(q'+1)*b≤B*p:=Nat.mul_le_mul hc zo
 have h4:B*p≤p*(v2+B*top):=by
  rw [Nat.mul_comm B p];refine Nat.mul_le_mul_left _ ?_;have:B*1≤B*top:=Nat.mul_le_mul_left _ ht;omega
 have h5:(q'+1)*val B v≤val B u+val B v:=by
  rw [eu,ev,Nat.mul_add,Nat.mul_left_comm (q'+1) p];omega
 rw [Nat.add_mul,Nat.one_mul] at h5;omega
end
theorem Za {B:Nat} {u v s:List Nat} {i q c b d c' b':Nat} (hiu:i<u.length) (hiv:i<v.length) (hs:s.length=i)
  (he:val B s+q*val B (v.take i)=val B (u.take i)+(b+c)*B^i) (h:d+b+(c+q*v.getD i 0)%B=u.getD i 0+b'*B) (hc:c'=(c+q*v.getD i 0) / B) :
  val B (s++[d])+q*val B (v.take (i+1))=val B (u.take (i+1))+(b'+c')*B^(i+1):=by
 rw [mW,dh B hiu,dh B hiv,hs,Nat.pow_succ];have h1:B*c'+(c+q*v.getD i 0)%B=c+q*v.getD i 0:=by rw [hc];exact Nat.div_add_mod _ _
 generalize (c+q*v.getD i 0)%B=m at *;have h2:d+b+(c+q*v.getD i 0)=u.getD i 0+(b'+c')*B:=by rw [Nat.add_mul,Nat.mul_comm c' B];omega
 have h3:=congrArg (B^i* ·) h2;simp only [Nat.mul_add] at h3 he ⊢;rw [show (b'+c')*(B^i*B)=B^i*((b'+c')*B) by rw [Nat.mul_left_comm]];rw [show q*(B^i*v.getD i 0)=B^i*(q*v.getD i 0) by rw [Nat.mul_left_comm]];rw [Nat.mul_comm (b+c),Nat.mul_add] at he;omega
theorem Zd {B:Nat} {u v s:List Nat} {n q b c un:Nat} (hB:1<B) (hv:v.length=n) (dv:iM B v) (hV:0<val B v)
  (he:val B s+q*val B v=val B (u.take n)+(b+c)*B^n) (hu:val B u=val B (u.take n)+B^n*un) (hc:b+c≤un) (hq1:val B u / val B v≤q) :
  q=val B u / val B v∧val B s=val B u%val B v:=by
 have h1:val B u=q*val B v+(val B s+B^n*(un - (b+c))):=by
  obtain ⟨t,rfl⟩:=Nat.le.dest hc;rw [hu,Nat.add_sub_cancel_left,Nat.mul_add,Nat.mul_comm (B^n) (b+c)];omega
 have h2:q*val B v≤val B u:=by omega
 have h3:q≤val B u / val B v:=(Nat.le_div_iff_mul_le hV).2 h2;have hq:q=val B u / val B v:=by omega
 refine ⟨hq,?_⟩;have h4:=Nat.div_add_mod (val B u) (val B v);rw [← hq,Nat.mul_comm] at h4;have h5:val B s+B^n*(un - (b+c))=val B u%val B v:=by omega
 have h6:=Nat.mod_lt (val B u) hV;have h7:=jL zo dv;rw [hv] at h7
 rcases Nat.eq_zero_or_pos (un - (b+c)) with h8|h8
 ·rw [h8] at h5;omega
 ·have:B^n*1≤B^n*(un - (b+c)):=Nat.mul_le_mul_left _ h8;omega
theorem Zc {B:Nat} {u v s:List Nat} {n q b c un:Nat} (hB:1<B) (hs:s.length=n) (ds:iM B s) (hv:v.length=n) (dv:iM B v) (hV:0<val B v)
  (he:val B s+q*val B v=val B (u.take n)+(b+c)*B^n) (hu:val B u=val B (u.take n)+B^n*un) (hc:un<b+c) (hq2:q≤val B u / val B v+1) :
  q=val B u / val B v+1∧val B s+val B v=val B u%val B v+B^n:=by
 have hp:0<B^n:=Nat.pow_pos zo;have h7:=jL zo dv;rw [hv] at h7;have h8:=jL zo ds;rw [hs] at h8;have h4:=Nat.div_add_mod (val B u) (val B v);have h6:=Nat.mod_lt (val B u) hV;obtain ⟨t,ht⟩:=Nat.le.dest hc
 have h1:val B u+B^n*(t+1)=q*val B v+val B s:=by
  rw [hu,Nat.add_assoc,← Nat.mul_add,show un+(t+1)=b+c by omega,Nat.mul_comm (B^n)];omega
 have hpt:B^n*(t+1)=B^n*t+B^n:=by rw [Nat.mul_add,Nat.mul_one]
 have hq3:val B u / val B v+1≤q:=by
  rcases Nat.lt_or_ge (val B u / val B v) q with h|h
  ·exact h
  ·exfalso
   have:q*val B v≤val B u / val B v*val B v:=Nat.mul_le_mul_right _ h;rw [Nat.mul_comm (val B u / val B v)] at this;omega
 have hq:q=val B u / val B v+1:=by omega
 refine ⟨hq,?_⟩;rw [hq,Nat.add_mul,Nat.one_mul,Nat.mul_comm (val B u / val B v)] at h1;have h9:val B u%val B v+B^n*(t+1)=val B v+val B s:=by omega
 rcases Nat.eq_zero_or_pos t with h|h
 ·rw [h,Nat.zero_add,Nat.mul_one] at h9;omega
 ·have:B^n*1≤B^n*t:=Nat.mul_le_mul_left _ h;omega
theorem OO {B t:Nat} (hB:B=1000000000) (ht:0<t) (htB:t<B):B≤2*(t*(B / (t+1))):=by
 have hd:=Nat.div_add_mod B (t+1);have hm:=Nat.mod_lt B (Nat.succ_pos t);have hs:0<B / (t+1):=Nat.div_pos zo zo;generalize B / (t+1)=s at *;generalize B%(t+1)=m at *;obtain ⟨s',rfl⟩:∃ s',s=s'+1:=⟨s - 1,by omega⟩;rw [Nat.add_mul t 1,Nat.one_mul] at hd;have h1:t*(s'+1)=t*s'+t:=by rw [Nat.mul_add,Nat.mul_one]
 have h2:m≤t:=by omega
 rcases Nat.eq_zero_or_pos s' with h|h
 ·subst h;omega
 ·obtain ⟨t',rfl⟩:∃ t',t=t'+1:=⟨t - 1,by omega⟩;obtain ⟨r,rfl⟩:∃ r,s'=r+1:=⟨s' - 1,by omega⟩;have h3:(t'+1)*(r+1+1)=t'*r+2*t'+r+2:=by simp only [Nat.add_mul,Nat.mul_add];omega
  have h4:0≤t'*r:=Nat.zero_le _;rw [h3] at hd ⊢
  rcases Nat.eq_zero_or_pos t' with h5|h5
  ·subst h5;omega
  ·have h6:r≤t'*r:=by have:=Nat.mul_le_mul_right r h5;omega
   omega
theorem JC (B:Nat) {l:List Nat} {t:Nat} (ht:t≤l.length):val B l=val B (l.take t)+B^t*val B (l.drop t):=by
 conv=>lhs;rw [← List.take_append_drop t l,val_append]
 rw [List.length_take,Nat.min_eq_left ht]
theorem OQ {b k:Nat} (hs:sz 1000000000 b=k+2) :
  let t:=(eO 1000000000 b).getD (k+1) 0
  let s:=1000000000 / (t+1)
  0<t∧t<1000000000∧0<s∧s≤500000000∧sz 1000000000 (b*s)=k+2∧1000000000≤2*(eO 1000000000 (b*s)).getD (k+1) 0:=by
 intro t s;have hB:1<1000000000:=by omega
 have hl:(eO 1000000000 b).length=k+2:=hs;have ht0:0<t:=Nat.pos_of_ne_zero (qD hB b (k+1) hl);have htB:t<1000000000:=(bg hB b).getD zo (k+1);have hs0:0<s:=Nat.div_pos zo zo
 have hs5:s≤500000000:=by
  have:s≤1000000000 / 2:=Nat.div_le_div_left zo zo;omega
 have hsd:s*(t+1)≤1000000000:=Nat.div_mul_le_self _ _;have hp:0<1000000000^(k+1):=Nat.pow_pos zo
 have hb:b=val 1000000000 ((eO 1000000000 b).take (k+1))+1000000000^(k+1)*t:=by
  have h1:=dh 1000000000 (l:=eO 1000000000 b) (k:=k+1) zo;rw [show k+1+1=(eO 1000000000 b).length by omega,List.take_length,aR hB] at h1;exact h1
 have hlow:val 1000000000 ((eO 1000000000 b).take (k+1))<1000000000^(k+1):=by
  have:=jL zo ((bg hB b).take (k+1))
  rwa [show ((eO 1000000000 b).take (k+1)).length=k+1 by simp;omega] at this
 have h1:b*s<1000000000^(k+2):=by
  have h2:b<1000000000^(k+1)*(t+1):=by rw [Nat.mul_add,Nat.mul_one];omega
  have h3:b*s<1000000000^(k+1)*(t+1)*s:=Nat.mul_lt_mul_of_pos_right h2 hs0;have h4:1000000000^(k+1)*((t+1)*s)≤1000000000^(k+1)*1000000000:=Nat.mul_le_mul_left _ (by rw [Nat.mul_comm];exact hsd);rw [Nat.mul_assoc] at h3;rw [Nat.pow_succ 1000000000 (k+1)];omega
 have h2:sz 1000000000 (b*s)=k+2:=by
  have h3:=bH hB _ _ h1;have h4:sz 1000000000 b≤sz 1000000000 (b*s):=jO hB (Nat.le_mul_of_pos_right _ hs0);omega
 refine ⟨ht0,htB,hs0,hs5,h2,?_⟩;have hl2:(eO 1000000000 (b*s)).length=k+2:=h2
 have hb2:b*s=val 1000000000 ((eO 1000000000 (b*s)).take (k+1))+1000000000^(k+1)*(eO 1000000000 (b*s)).getD (k+1) 0:=by
  have h1:=dh 1000000000 (l:=eO 1000000000 (b*s)) (k:=k+1) zo;rw [show k+1+1=(eO 1000000000 (b*s)).length by omega,List.take_length,aR hB] at h1;exact h1
 have bC9:val 1000000000 ((eO 1000000000 (b*s)).take (k+1))<1000000000^(k+1):=by
  have:=jL zo ((bg hB (b*s)).take (k+1))
  rwa [show ((eO 1000000000 (b*s)).take (k+1)).length=k+1 by simp;omega] at this
 have hge:=OO (B:=1000000000) rfl ht0 htB;generalize (eO 1000000000 (b*s)).getD (k+1) 0=t2 at *
 have h5:t*s≤t2:=by
  rcases Nat.lt_or_ge t2 (t*s) with h|h
  ·exfalso
   have h6:1000000000^(k+1)*(t2+1)≤1000000000^(k+1)*(t*s):=Nat.mul_le_mul_left _ h;rw [Nat.mul_add,Nat.mul_one,← Nat.mul_assoc] at h6;have h7:1000000000^(k+1)*t*s≤b*s:=Nat.mul_le_mul_right _ zo;omega
  ·exact h
 have h8:1000000000≤2*(t*s):=hge;omega
theorem dividend {a b s k:Nat} (hs0:0<s) (hs1:s<1000000000) (hb:sz 1000000000 b=k+2) (hab:k+2≤sz 1000000000 a) :
  let us:=eO 1000000000 (a*s)++List.replicate (sz 1000000000 a+1 - sz 1000000000 (a*s)) 0
  sz 1000000000 (a*s)≤sz 1000000000 a+1∧us.length=sz 1000000000 a+1∧iM 1000000000 us∧val 1000000000 us=a*s∧val 1000000000 (us.drop (sz 1000000000 a - (k+2)+1))<b*s:=by
 intro us;have hB:1<1000000000:=by omega
 have h1:sz 1000000000 (a*s)≤sz 1000000000 a+1:=by
  have:=oM hB a s;have h2:=bH hB 1 s zo;omega
 have h2:us.length=sz 1000000000 a+1:=by simp only [us,List.length_append,List.length_replicate];unfold sz at*; omega
 have h3:val 1000000000 us=a*s:=by simp only [us];rw [val_append,xu,aR hB];simp
 refine ⟨h1,h2,(bg hB _).append fun x hx=>by rw [List.eq_of_mem_replicate hx];omega,h3,?_⟩;have h4:=JC 1000000000 (l:=us) (t:=sz 1000000000 a - (k+2)+1) zo;rw [h3] at h4;have h5:=MW hB (n:=b) (k:=k+1) zo;have h6:=ku hB a;have h7:1000000000^sz 1000000000 a=1000000000^(k+1)*1000000000^(sz 1000000000 a - (k+2)+1):=by rw [← Nat.pow_add];congr 1;omega
 generalize 1000000000^(sz 1000000000 a - (k+2)+1)=p at *
 have h8:a<b*p:=by
  have:1000000000^(k+1)*p≤b*p:=Nat.mul_le_mul_right _ h5;omega
 rcases Nat.lt_or_ge (val 1000000000 (us.drop (sz 1000000000 a - (k+2)+1))) (b*s) with h|h
 ·exact h
 ·exfalso
  have h9:p*(b*s)≤a*s:=by have:=Nat.mul_le_mul_left p h;omega
  have h10:a*s<b*p*s:=Nat.mul_lt_mul_of_pos_right h8 hs0;rw [show p*(b*s)=b*p*s by rw [← Nat.mul_assoc,Nat.mul_comm p b]] at h9;omega
theorem Xo {B:Nat} {us s s' qs:List Nat} {j V q:Nat} (hj:j<us.length) (he:val B (us.drop (j+1))=V*val B qs+val B s)
  (hq:q=val B (us.getD j 0::s) / V) (hs:val B s'=val B (us.getD j 0::s)%V):val B (us.drop j)=V*val B (q::qs)+val B s':=by
 rw [kP hj];have h:=Nat.div_add_mod (val B (us.getD j 0::s)) V;rw [← hq,← hs] at h;simp only [val] at h ⊢;rw [he,Nat.mul_add V,Nat.mul_add B,Nat.mul_left_comm V B];omega
theorem WJ {B x V:Nat} {s:List Nat} (hx:x<B) (hs:val B s<V):val B (x::s)<V*B:=by
 have h:B*(val B s+1)≤B*V:=Nat.mul_le_mul_left _ hs;rw [Nat.mul_add,Nat.mul_one,Nat.mul_comm B V] at h;simp only [val];omega
theorem ZM {a b s q r:Nat} (hs:0<s) (he:a*s=b*s*q+r) (hr:r<b*s):q=a / b∧r / s=a%b:=by
 have h1:a*s / (b*s)=a / b:=Nat.mul_div_mul_right _ _ hs;have h2:a*s%(b*s)=a%b*s:=Nat.mul_mod_mul_right _ _ _;have hp:0<b*s:=by omega
 rw [he,Nat.mul_add_div hp,Nat.div_eq_of_lt hr,Nat.add_zero] at h1;rw [he,Nat.mul_add_mod,Nat.mod_eq_of_lt hr] at h2;exact ⟨h1,by rw [h2,Nat.mul_div_cancel _ hs]⟩
end Go.Num
namespace Go.jQ
open Go Go.RowKit Go.Num Go.Mem
def Frs (w:World) (T:TypeId) (v:Value) (l:List Fr):Prop :=
 ∃ a cap,v= .slice a l.length cap∧l.length≤cap∧cap≤9223372036854775807∧(a=none→cap=0) ∧
  ∀ ad,a=some ad→ad.spot=none∧∃ arr,ah w ad.block arr T∧∀ i (h:i<l.length),arr[ad.off+i*2]? =some (.string l[i].n)∧arr[ad.off+i*2+1]? =some (.string l[i].d)
theorem Frs.later {w w':World} {T:TypeId} {v:Value} {l:List Fr} (h:Frs w T v l) (hb:Below w.heap.size w w'):Frs w' T v l:=by
 obtain ⟨a,cap,h1,h2,h3,h4,h5⟩:=h;refine ⟨a,cap,h1,h2,h3,h4,fun ad had=>?_⟩;obtain ⟨h6,arr,h7,h8⟩:=h5 ad had;exact ⟨h6,arr,h7.later hb,h8⟩
theorem Frs.read {w:World} {T:TypeId} {v:Value} {l:List Fr} (h:Frs w T v l) :
  ∃ a cap,v= .slice a l.length cap∧l.length≤cap∧cap≤9223372036854775807∧∀ k (_:k<l.length),∃ b off,a=some ⟨b,off,none⟩∧b<w.heap.size∧w.cell? ⟨b,off+k*2,none⟩=some (.string l[k].n)∧w.cell? ⟨b,off+k*2+1,none⟩=some (.string l[k].d):=by
 obtain ⟨a,cap,h1,h2,h3,h4,h5⟩:=h;refine ⟨a,cap,h1,h2,h3,fun k hk=>?_⟩;cases a with
 | none=>have:=h4 rfl;omega
 | some ad =>
  obtain ⟨h6,arr,h7,h8⟩:=h5 ad rfl;obtain ⟨b,off,sp⟩:=ad;simp only at h6;subst h6;obtain ⟨h9,h10⟩:=h8 k hk;exact ⟨b,off,rfl,h7.lt,(h7.cell _).trans h9,(h7.cell _).trans h10⟩
def JX (l:List Fr):Int:=if l.all (fun a=>(rd a).isSome) then 0 else 20
theorem ae8 {a:Fr} (h:(rd a).isSome=true):BS a=0:=by unfold BS;rw [h];rfl
theorem aG8 {a:Fr} (h:(rd a).isSome=false):BS a=20:=by unfold BS;rw [h];rfl
def aL5 (w:World) (v:Value) (m:List (List Fr)):Prop :=
 ∃ rs:List Value,Row w 148 v rs∧rs.length=m.length∧∀ i (h:i<rs.length) (h':i<m.length),Frs w 32 rs[i] m[i]
theorem aL5.later {w w':World} {v:Value} {m:List (List Fr)} (h:aL5 w v m) (hb:Below w.heap.size w w'):aL5 w' v m:=by
 obtain ⟨rs,h1,h2,h3⟩:=h;exact ⟨rs,h1.later hb,h2,fun i h h'=>(h3 i h h').later hb⟩
end Go.jQ
namespace Go.Proofs
open Go Go.RowKit Go.SW Go.Num Go.Mem Go.jQ
def aU {α β:Type} (z:β) (x:α × Int) (f:α→β × Int):β × Int:=if x.2=0 then f x.1 else (z,x.2)
def vF {α:Type} (x:α):α × Int:=(x,0)
def gD {α:Type} (x:α × Int) (v:α) (k:Int):Prop:=x.2=k∧(k=0→x.1=v)
theorem gD.of {α:Type} {x:α × Int} {v:α} {k:Int} (h:x=(v,k)):gD x v k:=by subst h;exact ⟨rfl,fun _=>rfl⟩
theorem gD.cond_true {α:Type} {a b:α × Int} {v:α} {k:Int} (h:gD (cond true a b) v k):gD a v k:=h
theorem gD.cond_false {α:Type} {a b:α × Int} {v:α} {k:Int} (h:gD (cond false a b) v k):gD b v k:=h
theorem gD.pos {α:Type} {a b:α × Int} {v:α} {k:Int} {p:Prop} [Decidable p] (h:gD (if p then a else b) v k) (hp:p):gD a v k:=by rwa [if_pos hp] at h
theorem gD.neg {α:Type} {a b:α × Int} {v:α} {k:Int} {p:Prop} [Decidable p] (h:gD (if p then a else b) v k) (hp:¬ p):gD b v k:=by rwa [if_neg hp] at h
theorem as7 {α β:Type} {z:β} {x:α × Int} {f:α→β × Int} (h:x.2≠0):aU z x f=(z,x.2):=if_neg h
theorem aD {α β:Type} {z:β} {x:α × Int} {f:α→β × Int} {r:β} {k:Int} (h:gD (aU z x f) r k):∃ y k1,x=(y,k1)∧((k1=0∧gD (f y) r k)∨(k1≠0∧k=k1)):=by
 obtain ⟨y,k1⟩:=x;refine ⟨y,k1,rfl,?_⟩
 by_cases h0:k1=0
 ·subst h0;exact .inl ⟨rfl,h⟩
 ·rw [as7 (x:=(y,k1)) h0] at h;exact .inr ⟨h0,h.1.symm⟩
theorem kE {α:Type} {x:α × Int} {r:α} {k:Int} (h:gD x r k):∃ y k1,x=(y,k1)∧((k1=0∧gD (vF y) r k)∨(k1≠0∧k=k1)):=by
 obtain ⟨y,k1⟩:=x;refine ⟨y,k1,rfl,?_⟩
 by_cases h0:k1=0
 ·subst h0;exact .inl ⟨rfl,h⟩
 ·exact .inr ⟨h0,h.1.symm⟩
def bi0 (T:Int→Ending) (w:World) (v:Value) (k:Int) (e:Ending) (w':World):Prop:=Below w.heap.size w w'∧((k=0∧e= .returned v)∨(k≠0∧e=T k))
theorem aF {T:Int→Ending} {w w':World} {v:Value} {k1 k:Int} {e:Ending} {A:Prop} (h:bi0 T w v k1 e w') (hn:(k1=0∧A)∨(k1≠0∧k=k1)):Below w.heap.size w w'∧((k1=0∧e= .returned v∧A)∨(k≠0∧e=T k)):=by
 obtain ⟨hb,⟨h1,rfl⟩|⟨h1,rfl⟩⟩:=h
 ·rcases hn with ⟨-, ha⟩|⟨h2, -⟩
  ·exact ⟨hb,.inl ⟨h1,rfl,ha⟩⟩
  ·exact absurd h1 h2
 ·rcases hn with ⟨h2, -⟩|⟨h2,rfl⟩
  ·exact absurd h2 h1
  ·exact ⟨hb,.inr ⟨h1,rfl⟩⟩
def Om (w:World) (v z:Value) (k:Int) (e:Ending) (w':World):Prop:=Below w.heap.size w w'∧((k=0∧e= .returned (.tuple #[v,.int .i64 0]))∨(k≠0∧e= .returned (.tuple #[z,.int .i64 k])))
end Go.Proofs
namespace Go.Proofs.aQ
open Go Go.RowKit Go.SW Go.Num Go.Mem Go.Proofs
def gZ (x:(Int × Int) × Int):Value:=.tuple #[.agg #[.int .i64 x.1.1,.int .i64 x.1.2],.int .i64 x.2]
def jF (lo hi:Int):Bool:=decide (-1000000000000000000≤lo)&&(decide (lo≤hi)&&decide (hi≤1000000000000000000))
theorem nQ (lo hi:Int) (w:World):Calls Tryz.prog 116 #[.int .i64 lo,.int .i64 hi] w (fun e w'=>e= .returned (.bool (jF lo hi))∧Below w.heap.size w w'):=by
 unfold jF;cases h1:decide (-1000000000000000000≤lo)<;>cases h2:decide (lo≤hi)<;>cases h3:decide (hi≤1000000000000000000)
 all_goals
  go_enter Tryz.func116,Tryz.ntmps116
  go_wp2_with fail
  go_ret
  exact ⟨rfl,Below.refl _ _⟩
theorem pK (lo hi:Int) (w:World):Calls Tryz.prog 151 #[.agg #[.int .i64 lo,.int .i64 hi]] w (fun e w'=>e= .returned (.int .i64 (if jF lo hi then 0 else 30))∧Below w.heap.size w w'):=by
 have H:=zh (fun W=>nQ lo hi W);generalize jF lo hi=b at *;cases b
 all_goals
  go_enter Tryz.func151,Tryz.ntmps151
  go_wp2_with fail
  refine (H.out _).mono ?_;rintro e w1 ⟨rfl,hb1⟩;have hw:=Bt (show Below w.heap.size w (w.alloc (.cells #[.int .i64 lo,.int .i64 hi] 40)) from au) hb1;go_wp2_with fail
  go_ret
  exact ⟨rfl,hw⟩
theorem tZ (lo hi:Int) (w:World):Calls Tryz.prog 183 #[.int .i64 lo,.int .i64 hi] w (fun e w'=>e= .returned (if jF lo hi then .tuple #[.agg #[.int .i64 lo,.int .i64 hi],.int .i64 0] else .tuple #[.agg #[.int .i64 0,.int .i64 0],.int .i64 30])∧Below w.heap.size w w'):=by
 have H:=zh (fun W=>nQ lo hi W);generalize jF lo hi=b at *;cases b
 all_goals
  go_enter Tryz.func183,Tryz.ntmps183
  go_wp2_with fail
  refine (H.out _).mono ?_;rintro e w1 ⟨rfl,hb1⟩;have hx:=ah.later (ah.new w #[.int .i64 0,.int .i64 0] 40) hb1;have cx:=hx.cell;have fx:=hx.free;have lx:=hx.lt;have hw:=Bt (show Below w.heap.size w (w.alloc (.cells #[.int .i64 0,.int .i64 0] 40)) from au) hb1;go_wp2_with fail
  refine aK rfl rfl aH Tryz.underlying40 rfl zk ?_;exact ⟨rfl,au⟩
end Go.Proofs.aQ
namespace Go.SW
open Go Go.RowKit
variable {P:Program} {ops:Array Oper} {Q:Exit→Act→World→Prop} {o:Oper} {i:Nat} {is:List (K × Nat)} {a:Act} {w:World} {N:Nat} {A:List Nat}
theorem FH (ho:ops[i]? =some o) (hw:Region.wanted o (yielded ops a.tmps)=true) (h:∀ J:Act→Prop,(∀ a,walk P ops Q N is A a w→J a)→∃ v,(∀ w',(execOp a.eval o).run P w'= .ok (.value v) w')∧J (a.put o.dst v)):walk P ops Q N ((.pure,i)::is) A a w:=by
 refine WK ho fun J hJ=>?_;rw [if_pos hw];exact h J hJ
theorem FY {T:TypeId} {x:Operand} {p:Addr} (ho:ops[i]? =some o) (hw:Region.wanted o (yielded ops a.tmps)=true) (hop:o.op= .load T x) (hx:a.eval x= .pointer (some p))
  (h:∀ J:Value→Prop,(∀ v,walk P ops Q N is A (a.put o.dst v) w→J v)→(w.cell? p).isSome=true∧∃ v,(loadVar T p).run P w= .ok v w∧J v):walk P ops Q N ((.read,i)::is) A a w:=by
 unfold walk;simp only [ho,hw,if_true];obtain ⟨h1,v,h2,h3⟩:=h (fun v=>walk P ops Q N is A (a.put o.dst v) w) fun _ h=>h;refine ⟨v,fun w' hb=>?_,h3⟩;simp only [execOp,hop,hx,Instr.loadAt,Instr.sureAddr,Sem.run_bind,Sem.run_pure,Result.andThen_ok,xZ hb h1 h2]
theorem KE (ho:ops[i]? =some o) (hw:Region.wanted o (yielded ops a.tmps)=true) (h:∀ w',Below w.heap.size w w'→∀ J:Act→World→Prop,(∀ a' w'',Below w'.heap.size w' w''→walk P ops Q N is A a' w''→J a' w'')→o.wp P a w' J Q):walk P ops Q N ((.ext,i)::is) A a w:=by
 unfold walk;simp only [ho,hw,if_true];exact fun w' hb=>h w' hb _ fun a' w'' h1 h2=>⟨h1,h2⟩
def K.soft:K→Bool
 | .pure=>true
 | .read=>true
 | .ext=>true
 | _=>false
theorem xq {k:K} (hk:k.soft=true) (ho:ops[i]? =some o) (hw:Region.wanted o (yielded ops a.tmps)=false) (h:∀ J:Act→Prop,(∀ a,walk P ops Q N is A a w→J a)→J (a.put o.dst undef)):walk P ops Q N ((k,i)::is) A a w:=by
 have h':=h (fun a=>walk P ops Q N is A a w) fun _ h=>h;cases k with
 | pure=>unfold walk;simp only [ho,hw];exact h'
 | read=>unfold walk;simp only [ho,hw];exact h'
 | ext=>unfold walk;simp only [ho,hw];exact h'
 | alloc _ _=>cases hk
 | fin=>cases hk
end Go.SW
namespace Go.jQ
open Go Go.RowKit Go.Num Go.Mem
def Bf (w:World) (_T:TypeId) (v:Value) (l:List (Int × Int)):Prop :=
 ∃ a cap,v= .slice a l.length cap∧l.length≤cap∧cap≤9223372036854775807∧∀ k (_:k<l.length),∃ b off,a=some ⟨b,off,none⟩∧b<w.heap.size∧w.cell? ⟨b,off+k*2,none⟩=some (.int .i64 l[k].1)∧w.cell? ⟨b,off+k*2+1,none⟩=some (.int .i64 l[k].2)
theorem Bf.later {w w':World} {T:TypeId} {v:Value} {l:List (Int × Int)} (h:Bf w T v l) (hb:Below w.heap.size w w'):Bf w' T v l:=by
 obtain ⟨a,cap,h1,h2,h3,h4⟩:=h;refine ⟨a,cap,h1,h2,h3,fun k hk=>?_⟩;obtain ⟨b,off,h5,h6,h7,h8⟩:=h4 k hk;exact ⟨b,off,h5,Nat.lt_of_lt_of_le h6 hb.size,(hb.cell (p:=⟨b,off+k*2,none⟩) h6).trans h7,(hb.cell (p:=⟨b,off+k*2+1,none⟩) h6).trans h8⟩
theorem Bf.read {w:World} {T:TypeId} {v:Value} {l:List (Int × Int)} (h:Bf w T v l) :
  ∃ a cap,v= .slice a l.length cap∧l.length≤cap∧cap≤9223372036854775807∧∀ k (_:k<l.length),∃ b off,a=some ⟨b,off,none⟩∧b<w.heap.size∧w.cell? ⟨b,off+k*2,none⟩=some (.int .i64 l[k].1)∧w.cell? ⟨b,off+k*2+1,none⟩=some (.int .i64 l[k].2):=h
theorem Bf.yK {w:World} {T:TypeId} {b n c:Nat} {arr:Array Value} {l:List (Int × Int)} (h:ah w b arr T) (hn:l.length=n) (hc:n≤c) (hm:c≤9223372036854775807) (k:∀ i (h:i<l.length),arr[i*2]? =some (.int .i64 l[i].1)∧arr[i*2+1]? =some (.int .i64 l[i].2)):Bf w T (.slice (some ⟨b,0,none⟩) n c) l:=by
 subst hn;refine ⟨_,_,rfl,hc,hm,fun i hi=>⟨b,0,rfl,h.lt,?_,?_⟩⟩
 ·rw [h.cell,Nat.zero_add];exact (k i hi).1
 ·rw [h.cell,Nat.zero_add];exact (k i hi).2
def okB (l:List (Int × Int)):Bool:=l.all fun b=>Go.Proofs.aQ.jF b.1 b.2
theorem Bf.one {w:World} {T:TypeId} {b:Nat} {lo hi:Int} (h:ah w b #[.int .i64 lo,.int .i64 hi] T):Bf w T (.slice (some ⟨b,0,none⟩) 1 1) [(lo,hi)] :=
 Bf.yK h rfl (Nat.le_refl _) zo fun i hi=>by
  have:i<1:=hi;obtain rfl:i=0:=by omega
  exact ⟨rfl,rfl⟩
theorem Bf.two {w:World} {T:TypeId} {b:Nat} {x1 x2 x3 x4:Int} (h:ah w b #[.int .i64 x1,.int .i64 x2,.int .i64 x3,.int .i64 x4] T):Bf w T (.slice (some ⟨b,0,none⟩) 2 2) [(x1,x2),(x3,x4)] :=
 Bf.yK h rfl (Nat.le_refl _) zo fun i hi=>by
  have:i<2:=hi;obtain rfl|rfl:i=0∨i=1:=by omega
  ·exact ⟨rfl,rfl⟩
  ·exact ⟨rfl,rfl⟩
end Go.jQ
namespace Go.Proofs.aQ
open Go Go.RowKit Go.SW Go.Num Go.Mem Go.Proofs Go.jQ
def jR (lo hi:Int):(Int × Int) × Int:=if jF lo hi then ((lo,hi),0) else ((0,0),6)
theorem qz (lo hi:Int) (w:World):Calls Tryz.prog 96 #[.int .i64 lo,.int .i64 hi] w (fun e w'=>e= .returned (gZ (jR lo hi))∧Below w.heap.size w w'):=by
 have H:=zh (fun W=>nQ lo hi W);unfold jR;generalize jF lo hi=b at *;unfold gZ;cases b
 all_goals
  go_enter Tryz.func96,Tryz.ntmps96
  go_wp2_with fail
  refine (H.out _).mono ?_;rintro e w1 ⟨rfl,hb1⟩;have hx:=ah.later (ah.new w #[.int .i64 0,.int .i64 0] 40) hb1;have cx:=hx.cell;have fx:=hx.free;have lx:=hx.lt;have hw:=Bt (show Below w.heap.size w (w.alloc (.cells #[.int .i64 0,.int .i64 0] 40)) from au) hb1;go_wp2_with fail
  refine aK rfl rfl aH Tryz.underlying40 rfl zk ?_;exact ⟨rfl,au⟩
theorem aL4 (b c:Nat) (zs:List Int) (z0:Int) (h0:zs[0]? =some z0) (arr:Array Value) (T:TypeId) (w:World) (hx:ah w b arr T) (hc:∀ j (h:j<zs.length),arr[j]? =some (.int .i64 zs[j])) (hl:zs.length≤9223372036854775807) :
  Calls Tryz.prog 241 #[.slice (some ⟨b,0,none⟩) zs.length c] w (fun e w'=>e= .returned (.int .i64 (zs.foldl max z0))∧Below w.heap.size w w'):=by
 have hn:0<zs.length:=by
  rcases Nat.eq_zero_or_pos zs.length with h|h
  ·rw [List.getElem?_eq_none zo] at h0;cases h0
  ·exact h
 have hz0:zs[0]=z0:=by
  rw [List.getElem?_eq_getElem hn] at h0;exact Option.some.inj h0
 have h00:w.cell? ⟨b,0,none⟩=some (.int .i64 z0):=by
  rw [hx.cell,hc 0 hn,hz0]
 have lb:=hx.lt;have g1:decide ((zs.length:Int)<1)=false:=by simp;omega
 have HX:=zh hx;have HC:=zh hc;clear hx hc;go_enter Tryz.func241,Tryz.ntmps241
 go_wp2_with fail
 go_loopw [3,4] (fun m i wr=>∃ k:Nat,0<k∧k≤zs.length∧i= .int .i64 (k:Int)∧m= .int .i64 ((zs.take k).foldl max z0)∧Below w.heap.size w wr) (fun _ i _=>zs.length - (intOf i).toNat)
 case atStart =>
  refine ⟨1,by omega,hn,rfl,?_,Below.refl _ _⟩;cases zs with
  | nil=>simp at hn
  | cons x t =>
   simp only [List.getElem_cons_zero] at hz0;subst hz0;simp
 case round =>
  obtain ⟨k,hk0,hk,rfl,rfl,hb⟩:=hrel
  by_cases hlt:k<zs.length
  ·have hcell:=((HX.out.later hb).cell k).trans (HC.out k hlt)
   have hstep:(zs.take (k+1)).foldl max z0=max ((zs.take k).foldl max z0) zs[k]:=by
    rw [List.take_succ_eq_append_getElem hlt,List.foldl_append];rfl
   have HS:=zh hstep;clear hstep;generalize zs[k]=zk at *;generalize (zs.take k).foldl max z0=mk at *;go_wp2_with fail
   go_roundw
   case rel=>exact ⟨k+1,by omega,by omega,by go_num,by rw [HS.out]<;>go_num,hb⟩
   case measure=>exact zM
  ·obtain rfl:k=zs.length:=by omega
   rw [List.take_length];go_wp2_with fail
   go_ret
   exact ⟨rfl,hb⟩
theorem wP (b c:Nat) (zs:List Int) (z0:Int) (h0:zs[0]? =some z0) (arr:Array Value) (T:TypeId) (w:World) (hx:ah w b arr T) (hc:∀ j (h:j<zs.length),arr[j]? =some (.int .i64 zs[j])) (hl:zs.length≤9223372036854775807) :
  Calls Tryz.prog 175 #[.slice (some ⟨b,0,none⟩) zs.length c] w (fun e w'=>e= .returned (.int .i64 (zs.foldl max z0))∧Below w.heap.size w w'):=by
 have H:=zh (aL4 b c zs z0 h0 arr T w hx hc hl);clear h0 hx hc hl;generalize zs.length=n at *;generalize zs.foldl max z0=z at *;go_enter Tryz.func175,Tryz.ntmps175
 go_wp2_with fail
 refine H.out.mono ?_;rintro e w1 ⟨rfl,hb1⟩;go_wp2_with fail
 go_ret
 exact ⟨rfl,hb1⟩
theorem oh (F:FuncId) (free:Array Value) (z:(Int × Int) × Int) (T:TypeId) (v:Value) (l:List (Int × Int)) (w:World) (hv:Bf w T v l)
  (h1:okB l=true→∀ W,Below w.heap.size w W→Calls Tryz.prog F free W (fun e w'=>e= .returned (gZ z)∧Below W.heap.size W w'))
  (hen:∀ args W,(callFunc F args).run Tryz.prog W= .ok (.enter F args) W) :
  Calls Tryz.prog 97 #[.func (.func F) #[] free,v] w (fun e w'=>e= .returned (gZ (if okB l then z else ((0,0),30)))∧Below w.heap.size w w'):=by
 obtain ⟨a,cap,rfl,hc1,hc2,hread⟩:=hv.read;have HR:=zh hread;have H1:=zh h1;clear h1 hv hread;obtain ⟨z',EZ⟩:∃ y,(if okB l then z else ((0,0),30))=y:=⟨_,rfl⟩;rw [EZ];have HZ:=zh EZ;clear EZ;obtain ⟨⟨z1,z2⟩,z3⟩:=z';unfold gZ at *;simp only at *;go_enter Tryz.func97,Tryz.ntmps97
 go_wp2_with fail
 obtain ⟨wx,EW,hz,R⟩:=pJ w #[.int .i64 0,.int .i64 0] 40;rw [EW];clear EW;have HB:=zh hz;clear hz;obtain ⟨bx,eb⟩:∃ y,w.heap.size=y:=⟨_,rfl⟩;rw [eb] at R ⊢;go_wp2_with fail
 go_loopw [11] (fun iv wr=>∃ k:Nat,iv= .int .i64 (k:Int)∧k≤l.length∧Hid (∀ j (h:j<l.length),j<k→jF l[j].1 l[j].2=true)∧Below wx.heap.size wx wr) (fun iv _=>l.length - (intOf iv).toNat)
 case atStart=>exact ⟨0,rfl,by omega,zh (fun j _ h=>by omega),Below.refl _ _⟩
 case round =>
  obtain ⟨k,rfl,hk,HK,hb⟩:=hrel
  rcases Nat.lt_or_ge k l.length with hlt|hge
  ·obtain ⟨b,off,rfl,hbl,hx1,hx2⟩:=HR.out k hlt;have hB:=Bt HB.out hb;have hc1:=(hB.cell (p:=⟨b,off+k*2,none⟩) hbl).trans hx1;have hc2:=(hB.cell (p:=⟨b,off+k*2+1,none⟩) hbl).trans hx2;clear hx1 hx2;have HV:=zh (fun W=>nQ l[k].1 l[k].2 W);obtain ⟨bk,EK⟩:∃ y,jF l[k].1 l[k].2=y:=⟨_,rfl⟩;have HE:=zh EK;rw [EK] at HV;clear EK;generalize hlk:l[k]=lk at *;have HLK:=zh hlk;clear hlk;obtain ⟨y1,y2⟩:=lk;simp only at *;replace R:=R.bl hb;go_wp2_with fail
   obtain ⟨wy,EW,hz,Y⟩:=pJ wr #[.int .i64 y1,.int .i64 y2] 40;rw [EW];clear EW;refine (HV.out _).mono ?_;rintro e w1 ⟨rfl,hb1⟩;have hw:=Bt hb (Bt hz hb1);replace R:=(R.bl hz).bl hb1;clear hc1 hc2 hz hb1 Y HV;cases bk
   ·have hx:=R.out;have cx:=hx.cell;have fx:=hx.free;have lx:=hx.lt;go_wp2_with fail
    refine aK rfl rfl aH Tryz.underlying40 rfl zk ?_
    have hno:okB l=false:=by
     unfold okB;rw [List.all_eq_false];refine ⟨l[k],List.getElem_mem _,?_⟩;rw [HLK.out,HE.out];simp
    have he:=HZ.out;rw [hno] at he;cases he
    have hB2:=Bt HB.out hw;exact ⟨rfl,au⟩
   ·go_wp2_with fail
    go_roundw
    case rel =>
     refine ⟨k+1,by go_num,by omega,zh fun j hj hjk=>?_,hw⟩
     rcases Nat.lt_or_ge j k with h|h
     ·exact HK.out j hj h
     ·obtain rfl:j=k:=by omega
      rw [HLK.out,HE.out]
    case measure=>exact zM
  ·obtain rfl:k=l.length:=by omega
   have hyes:okB l=true:=by
    unfold okB;rw [List.all_eq_true];intro x hx;obtain ⟨j,hj,rfl⟩:=List.getElem_of_mem hx;exact HK.out j hj hj
   have he:=HZ.out;rw [if_pos hyes] at he;subst he;have HH:=zh (H1.out hyes);simp only at HH;clear hyes H1;replace R:=R.bl hb;have hB:=Bt HB.out hb;go_wp2_with fail
   refine (HH.out _ hB).mono ?_;rintro e w1 ⟨rfl,hb1⟩;have hw:=Bt hB hb1;replace R:=R.bl hb1;have hx:=R.out;have cx:=hx.cell;have fx:=hx.free;have lx:=hx.lt;clear hb1;go_wp2_with fail
   refine aK rfl rfl aH Tryz.underlying40 rfl zk ?_;exact ⟨rfl,au⟩
def af9 (lo hi:Int):(Int × Int) × Int:=if jF lo hi then jR (max (max lo (-hi)) 0) (max (-lo) hi) else ((0,0),30)
theorem aw4 (lo hi:Int) (h0:jF lo hi=true) (b:Nat) (w:World) (h:ah w b #[.int .i64 lo,.int .i64 hi] 40):Calls Tryz.prog 174 #[.pointer (some ⟨b,0,none⟩)] w (fun e w'=>e= .returned (gZ (jR (max (max lo (-hi)) 0) (max (-lo) hi)))∧Below w.heap.size w w'):=by
 obtain ⟨hk1,hk2,hk3⟩: -1000000000000000000≤lo∧lo≤hi∧hi≤1000000000000000000:=by simpa [jF] using h0
 have H:=zh (fun W=>qz (max (max lo (-hi)) 0) (max (-lo) hi) W)
 have G1:Hid (∀ W c,ah W c #[.int .i64 lo,.int .i64 (-hi),.int .i64 0] 3→Calls Tryz.prog 175 #[.slice (some ⟨c,0,none⟩) 3 3] W (fun e w'=>e= .returned (.int .i64 (max (max lo (-hi)) 0))∧Below W.heap.size W w')):=zh fun W c hc=>by
  have:=wP c 3 [lo, -hi,0] lo rfl _ _ W hc (fun j hj=>by
   have:j<3:=hj;have hj:j=0∨j=1∨j=2:=by omega
   rcases hj with rfl|rfl|rfl<;>rfl) zi
  simpa using this
 have G2:Hid (∀ W c,ah W c #[.int .i64 (-lo),.int .i64 hi] 3→Calls Tryz.prog 175 #[.slice (some ⟨c,0,none⟩) 2 2] W (fun e w'=>e= .returned (.int .i64 (max (-lo) hi))∧Below W.heap.size W w')):=zh fun W c hc=>by
  have:=wP c 2 [-lo,hi] (-lo) rfl _ _ W hc (fun j hj=>by
   have:j<2:=hj;have hj:j=0∨j=1:=by omega
   rcases hj with rfl|rfl<;>rfl) zi
  simpa using this
 generalize jR (max (max lo (-hi)) 0) (max (-lo) hi)=z at *;generalize max (max lo (-hi)) 0=m1 at *;generalize max (-lo) hi=m2 at *;obtain ⟨⟨z1,z2⟩,z3⟩:=z;unfold gZ at *;simp only at *;go_enter Tryz.func174,Tryz.ntmps174
 go_wp2_with fail
 obtain ⟨wx,EW,hz,R⟩:=pJ w #[.int .i64 0,.int .i64 0] 40;rw [EW];clear EW;have hcell:∀ W,Below w.heap.size w W→∀ o v,(#[Value.int .i64 lo,.int .i64 hi]:Array Value)[o]? =some v→W.cell? ⟨b,o,none⟩=some v:=fun W hW o v hv=>((h.later hW).cell o).trans hv;have B:=h.later hz;have HB:=zh hz;clear hz h;obtain ⟨bx,eb⟩:∃ y,w.heap.size=y:=⟨_,rfl⟩;rw [eb] at R ⊢;have cB:=B.cell;have lB:=B.lt;have R:=R.out;have n1: -9223372036854775808≤ -hi:=by omega
 have W:Hid (∀ a:Int, -1000000000000000000≤a→a≤1000000000000000000→IntKind.i64.wrap (-a)= -a):=zh fun a h1 h2=>by rw [IntKind.wrap_i64];omega
 have w1:=W.out hi zo hk3;have w2:=W.out lo hk1 zo;have hB0:=HB.out
 go_region_held (fun w'=>w'.cell? ⟨b,0,none⟩=some (.int .i64 lo)∧w'.cell? ⟨b,1,none⟩=some (.int .i64 hi)∧Below w.heap.size w w')
  ((refine ⟨hcell _ ?_ 0 _ rfl,hcell _ ?_ 1 _ rfl,?_⟩<;>exact au))
  (first
  | (go_at_call 175;first|(with_reducible refine (G1.out _ _ ?_).mono ?_;exact aH;rintro e wa ⟨rfl,hba⟩;have Ra:ah wa bx #[.int .i64 0,.int .i64 0] 40:=aH)|(with_reducible refine (G2.out _ _ ?_).mono ?_;exact aH;rintro e wb ⟨rfl,hbb⟩;have Rb:ah wb bx #[.int .i64 0,.int .i64 0] 40:=aH))
  | (go_at_call 96;refine (H.out _).mono ?_;rintro e wc ⟨rfl,hbc⟩;have hx:ah wc bx #[.int .i64 0,.int .i64 0] 40:=aH;have cx:=hx.cell;have fx:=hx.free;have lx:=hx.lt))
 all_goals
  go_wp2_with fail
  refine aK rfl rfl aH Tryz.underlying40 rfl zk ?_;exact ⟨rfl,au⟩
theorem aM4 (lo hi:Int) (w:World):Calls Tryz.prog 94 #[.agg #[.int .i64 lo,.int .i64 hi]] w (fun e w'=>e= .returned (gZ (af9 lo hi))∧Below w.heap.size w w'):=by
 have H:Hid (∀ W b c,ah W b #[.int .i64 lo,.int .i64 hi] 40→ah W c #[.int .i64 lo,.int .i64 hi] 40→Calls Tryz.prog 97 #[.func (.func 174) #[] #[.pointer (some ⟨b,0,none⟩)],.slice (some ⟨c,0,none⟩) 1 1] W (fun e w'=>e= .returned (gZ (af9 lo hi))∧Below W.heap.size W w')):=zh fun W b c h1 h2=>by
  have:=oh 174 #[.pointer (some ⟨b,0,none⟩)] _ _ _ _ W (Bf.one h2) (fun h W' hW'=>aw4 lo hi (by simpa [okB] using h) b W' (h1.later hW')) (fun args W=>by rfl);have e:okB [(lo,hi)]=jF lo hi:=by simp [okB]
  rw [e] at this;exact this
 generalize af9 lo hi=z at *;obtain ⟨⟨z1,z2⟩,z3⟩:=z;unfold gZ at *;simp only at *;go_enter Tryz.func94,Tryz.ntmps94
 go_wp2_with fail
 obtain ⟨wx,EW,hz,X,R,Z⟩:=Jy w #[.int .i64 lo,.int .i64 hi] 40 #[.int .i64 0,.int .i64 0] 40 #[.int .i64 lo,.int .i64 hi] 40;rw [EW];clear EW;have HB:=zh hz;clear hz;refine (H.out _ _ _ X.out Z.out).mono ?_;rintro e w1 ⟨rfl,hb1⟩;replace R:=R.bl hb1;replace HB:=zh (Bt HB.out hb1);clear hb1 H;have hx:=R.out;have cx:=hx.cell;have fx:=hx.free;have lx:=hx.lt;have hw:=HB.out;go_wp2_with fail
 refine aK rfl rfl aH Tryz.underlying40 rfl zk ?_;exact ⟨rfl,au⟩
def Ot (n:Int) (d:Nat) (up:Bool):Int:=if up then -(-n / (d:Int)) else n / (d:Int)
def vZ (p d:Nat) (b:Bool):Nat:=if 0<p%d∧b=true then p / d+1 else p / d
theorem Vs (p d:Nat) (hd:0<d): -(p:Int) / (d:Int)= -((vZ p d true:Nat):Int):=by
 have h:=Nat.div_add_mod p d;have hr:=Nat.mod_lt p hd;unfold vZ;generalize p / d=q at *;generalize p%d=r at *
 have e: -(p:Int)= -(r:Int)+(d:Int)* -(q:Int):=by
  rw [← h,Int.natCast_add,Int.natCast_mul,Int.mul_neg];omega
 rw [e,Int.add_mul_ediv_left _ _ zo]
 by_cases h0:0<r
 ·rw [if_pos ⟨h0,rfl⟩]
  have: -(r:Int) / (d:Int)= -1:=by
   refine Int.le_antisymm ?_ ?_
   ·have:=(Int.ediv_lt_iff_lt_mul (a:= -(r:Int)) (b:=0) (c:=(d:Int)) zo).2 zo;omega
   ·rw [Int.le_ediv_iff_mul_le zo];omega
  rw [this];omega
 ·obtain rfl:r=0:=by omega
  rw [if_neg zo];simp
theorem az8 (x y:Int) {d:Nat} (hd:0<d) (up:Bool):Ot (x*y) d up=kM (vZ (x.natAbs*y.natAbs) d (up != (decide (x<0) != decide (y<0)))) (decide (x<0) != decide (y<0)):=by
 rw [← Gl x y];generalize x.natAbs*y.natAbs=p;generalize (decide (x<0) != decide (y<0))=neg
 have hf:((p:Int)) / (d:Int)=((vZ p d false:Nat):Int):=by
  unfold vZ;rw [if_neg zi];omega
 have hn:=Vs p d hd;unfold Ot kM;cases neg<;>cases up<;>simp [hf,hn]
def Bn (x y:Int) (d:Nat) (up:Bool):Int × Bool:=if (Ot (x*y) d up).natAbs≤1000000000000000000 then (Ot (x*y) d up,true) else (0,false)
theorem OZ (x y:Int) {d:Nat} (hd:0<d) (up:Bool):Bn x y d up=if vZ (x.natAbs*y.natAbs) d (up != (decide (x<0) != decide (y<0)))≤1000000000000000000 then (kM (vZ (x.natAbs*y.natAbs) d (up != (decide (x<0) != decide (y<0)))) (decide (x<0) != decide (y<0)),true) else (0,false):=by
 unfold Bn;rw [az8 x y hd,nu]
def kH (N:Int) (d:Nat):Int:=(2*N+d) / (2*(d:Int))
theorem Pw (N:Int) {d:Nat} (hd:0<d):kH N d*(2*(d:Int))≤2*N+d∧2*N+d<(kH N d+1)*(2*(d:Int)):=by
 unfold kH;refine ⟨Int.ediv_mul_le _ zo,?_⟩;have:=Int.lt_ediv_add_one_mul_self (2*N+(d:Int)) (b:=2*(d:Int)) zo;exact this
theorem Gp {N n:Int} {d:Nat} (hd:0<d) (h1:n*(d:Int)≤N) (h2:N<(n+1)*(d:Int)):Ot N d false=n:=by
 unfold Ot;rw [if_neg zi];refine Int.le_antisymm ?_ ((Int.le_ediv_iff_mul_le zo).2 h1);have:=(Int.ediv_lt_iff_lt_mul (c:=(d:Int)) zo).2 h2;omega
theorem RY {N n:Int} {d:Nat} (hd:0<d) (h1:(n - 1)*(d:Int)<N) (h2:N≤n*(d:Int)):Ot N d true=n:=by
 unfold Ot;rw [if_pos rfl]
 have: -N / (d:Int)= -n:=by
  refine Int.le_antisymm ?_ ((Int.le_ediv_iff_mul_le zo).2 (by rw [Int.neg_mul];omega))
  have:=(Int.ediv_lt_iff_lt_mul (a:= -N) (b:= -n+1) (c:=(d:Int)) zo).2 (by
   have e:(-n+1)*(d:Int)= -((n - 1)*(d:Int)):=by rw [← Int.neg_mul];congr 1;omega
   rw [e];omega)
  omega
 omega
def arE (N:Int) (d:Nat):(Int × Int) × Int :=
 if -9223372036854775808≤kH N d∧kH N d<9223372036854775808 then
  (if jF (kH N d) (kH N d) then jR (kH N d+(if N<kH N d*d then -1 else 0)) (kH N d+(if kH N d*d<N then 1 else 0)) else ((0,0),6))
 else ((0,0),6)
theorem aJ1 (N:Int) {d:Nat} (hd:0<d):arE N d=jR (Ot N d false) (Ot N d true):=by
 obtain ⟨h1,h2⟩:=Pw N hd;have m1:kH N d*(2*(d:Int))=2*(kH N d*(d:Int)):=by rw [← Int.mul_assoc,Int.mul_comm (kH N d) 2,Int.mul_assoc]
 have m2:(kH N d+1)*(2*(d:Int))=2*(kH N d*(d:Int))+2*(d:Int):=by rw [Int.add_mul,m1,Int.one_mul]
 rw [m1] at h1;rw [m2] at h2;unfold arE;generalize kH N d=n at *;have e1:(n+1)*(d:Int)=n*(d:Int)+d:=by rw [Int.add_mul,Int.one_mul]
 have e2:(n - 1)*(d:Int)=n*(d:Int) - d:=by rw [Int.sub_mul,Int.one_mul]
 have e3:(n - 1+1)*(d:Int)=n*(d:Int):=by congr 1;omega
 have e4:(n+1 - 1)*(d:Int)=n*(d:Int):=by congr 1;omega
 have key:∃ lo hi,Ot N d false=lo∧Ot N d true=hi∧lo=n+(if N<n*(d:Int) then -1 else 0)∧hi=n+(if n*(d:Int)<N then 1 else 0):=by
  rcases Int.lt_trichotomy N (n*(d:Int)) with c|c|c
  ·refine ⟨n - 1,n,Gp hd zo zo,RY hd zo zo,by rw [if_pos c];omega,by rw [if_neg zo];omega⟩
  ·refine ⟨n,n,Gp hd zo zo,RY hd zo zo,by rw [if_neg zo];omega,by rw [if_neg zo];omega⟩
  ·refine ⟨n,n+1,Gp hd zo zo,RY hd zo zo,by rw [if_neg zo];omega,by rw [if_pos c]⟩
 obtain ⟨lo,hi,k1,k2,k3,k4⟩:=key;rw [k1,k2,← k3,← k4];have hlo:lo=n∨lo=n - 1:=by rw [k3];split<;>omega
 have hhi:hi=n∨hi=n+1:=by rw [k4];split<;>omega
 have hor:lo=n∨hi=n:=by
  rw [k3,k4]
  by_cases c:N<n*(d:Int)
  ·right;rw [if_neg zo];omega
  ·left;rw [if_neg c];omega
 by_cases c1: -9223372036854775808≤n∧n<9223372036854775808
 ·rw [if_pos c1];cases hb:jF n n
  ·rw [if_neg zi];unfold jR;rw [if_neg];intro h;unfold jF at hb h;simp only [Bool.and_eq_true,decide_eq_true_eq,Bool.and_eq_false_iff,decide_eq_false_iff_not] at hb h;omega
  ·rw [if_pos rfl]
 ·rw [if_neg c1];unfold jR;rw [if_neg];intro h;unfold jF at h;simp only [Bool.and_eq_true,decide_eq_true_eq] at h;omega
end Go.Proofs.aQ
namespace Go.jQ
open Go Go.Num
theorem GJ (q:Rat) (E:Nat):q*((E:Nat):Rat)*((q.den:Nat):Rat)=((q.num*(E:Int):Int):Rat):=by
 have h:q*((q.den:Nat):Rat)=((q.num:Int):Rat):=by
  have h1:((q.num:Int):Rat) / ((q.den:Nat):Rat)=q:=by
   have:=Rat.mkRat_eq_div q.num q.den;rw [← this,Rat.mkRat_self]
  have h2:((q.den:Nat):Rat)≠0:=by have:=q.den_nz;exact_mod_cast this
  generalize ((q.den:Nat):Rat)=d at *;generalize ((q.num:Int):Rat)=m at *
  grind
 rw [Rat.intCast_mul,← h,Rat.intCast_natCast]
 grind
theorem ZJ (q:Rat) (n:Int) {E:Nat} (hE:0<E):q<(n:Rat) / ((E:Nat):Rat)↔q.num*(E:Int)<n*(q.den:Int):=by
 have hEq:(0:Rat)<((E:Nat):Rat):=by exact_mod_cast hE
 have hd:(0:Rat)<((q.den:Nat):Rat):=by exact_mod_cast q.den_pos
 rw [Rat.lt_div_iff hEq,← Rat.mul_lt_mul_right hd,GJ,← Rat.intCast_natCast,← Rat.intCast_mul,Rat.intCast_lt_intCast]
theorem YO (q:Rat) (n:Int) {E:Nat} (hE:0<E):(n:Rat) / ((E:Nat):Rat)<q↔n*(q.den:Int)<q.num*(E:Int):=by
 have hEq:(0:Rat)<((E:Nat):Rat):=by exact_mod_cast hE
 have hd:(0:Rat)<((q.den:Nat):Rat):=by exact_mod_cast q.den_pos
 rw [Rat.div_lt_iff hEq,← Rat.mul_lt_mul_right hd,GJ,← Rat.intCast_natCast,← Rat.intCast_mul,Rat.intCast_lt_intCast]
theorem XW (q:Rat) (n:Int) {E:Nat} (hE:0<E):og q ((n:Rat) / ((E:Nat):Rat))=if q.num*(E:Int)<n*(q.den:Int) then -1 else if n*(q.den:Int)<q.num*(E:Int) then 1 else 0:=by
 unfold og;simp only [ZJ q n hE,YO q n hE]
end Go.jQ
namespace Go.SW
open Go Go.RowKit
structure Wk (P:Program) (ops:Array Oper) (Q:Exit→Act→World→Prop) (N:Nat) (is:List (K × Nat)) (A:List Nat) (a:Act) (w:World):Prop where
 out:walk P ops Q N is A a w
variable {P:Program} {ops:Array Oper} {Q:Exit→Act→World→Prop} {o:Oper} {i:Nat} {is:List (K × Nat)} {a:Act} {w:World} {N:Nat} {A:List Nat}
theorem YI (h:∀ w',Below w.heap.size w w'→Q .normal a w'):Wk P ops Q N [] A a w:=⟨walk_nil h⟩
theorem UQ {k:K} (hk:k.soft=true) (ho:ops[i]? =some o) (hw:Region.wanted o (yielded ops a.tmps)=false) (h:∀ J:Act→Prop,(∀ a,Wk P ops Q N is A a w→J a)→J (a.put o.dst undef)):Wk P ops Q N ((k,i)::is) A a w :=
 ⟨xq hk ho hw fun J hJ=>h J fun a ha=>hJ a ha.out⟩
theorem LV (ho:ops[i]? =some o) (hw:Region.wanted o (yielded ops a.tmps)=true) (h:∀ J:Act→Prop,(∀ a,Wk P ops Q N is A a w→J a)→∃ v,(∀ w',(execOp a.eval o).run P w'= .ok (.value v) w')∧J (a.put o.dst v)):Wk P ops Q N ((.pure,i)::is) A a w :=
 ⟨FH ho hw fun J hJ=>h J fun a ha=>hJ a ha.out⟩
theorem UR {T:TypeId} {x:Operand} {p:Addr} (ho:ops[i]? =some o) (hw:Region.wanted o (yielded ops a.tmps)=true) (hop:o.op= .load T x) (hx:a.eval x= .pointer (some p))
  (h:∀ J:Value→Prop,(∀ v,Wk P ops Q N is A (a.put o.dst v) w→J v)→(w.cell? p).isSome=true∧∃ v,(loadVar T p).run P w= .ok v w∧J v):Wk P ops Q N ((.read,i)::is) A a w :=
 ⟨FY ho hw hop hx fun J hJ=>h J fun v hv=>hJ v hv.out⟩
theorem aM (ho:ops[i]? =some o) (hw:Region.wanted o (yielded ops a.tmps)=true) (h:∀ w',Below w.heap.size w w'→∀ J:Act→World→Prop,(∀ a' w'',Below w'.heap.size w' w''→Wk P ops Q N is A a' w''→J a' w'')→o.wp P a w' J Q):Wk P ops Q N ((.ext,i)::is) A a w :=
 ⟨KE ho hw fun w' hb J hJ=>h w' hb J fun a' w'' hb' hk=>hJ a' w'' hb' hk.out⟩
theorem iK (l:List Oper) (hl:(i::is.map (·.2)).map (ops[·]?)=l.map some) (h:∀ w',Below w.heap.size w w'→wpList P ops Q l a w'):Wk P ops Q N ((.fin,i)::is) A a w:=⟨dK l hl h⟩
theorem uI {cs:Array Value} {T:TypeId} (ho:ops[i]? =some o) (h:∀ b w',Below w.heap.size w w'→N≤b→b<w'.heap.size→b∉A→w'.heap[b]? =some (.cells cs T (0,0))→Wk P ops Q N is (b::A) (a.put o.dst (.pointer (some ⟨b,0,none⟩))) w'):Wk P ops Q N ((.alloc cs T,i)::is) A a w :=
 ⟨jK ho fun b w' h1 h2 h3 h4 h5=>(h b w' h1 h2 h3 h4 h5).out⟩
theorem YJ {t:TypeId} {x:Operand} {p:Option Addr} {n c:Nat} (ho:ops[i]? =some o) (hw:Region.wanted o (yielded ops a.tmps)=true) (hop:o.op= .call { callee:=.builtin .len,args:=#[x],argTypes:=#[t] }) (hx:a.eval x= .slice p n c) (ht:P.underlying t=some (.slice (P.elem t)))
  (h:∀ J:Act→Prop,(∀ a,Wk P ops Q N is A a w→J a)→J (a.put o.dst (.int .i64 n))):Wk P ops Q N ((.pure,i)::is) A a w :=
 LV ho hw fun J hJ=>⟨.int .i64 n,fun w'=>by simp [execOp,hop,hx,resolve,invoke,builtin,Sem.run_bind,run_len_slice w' _ _ _ _ _ ht,goInt],h J hJ⟩
end Go.SW
namespace Go.Proofs.power
open Go Go.RowKit Go.SW Go.Num Go.Mem Go.Proofs Go.Proofs.aQ
def eok (p q:Int):Bool:=decide (1≤p)&&(decide (p≤36)&&(decide (1≤q)&&decide (q≤12)))
theorem nQ (p q:Int) (w:World):Calls Tryz.prog 251 #[.agg #[.int .i64 p,.int .i64 q]] w (fun e w'=>e= .returned (.bool (eok p q))∧Below w.heap.size w w'):=by
 unfold eok;cases h1:decide (1≤p)<;>cases h2:decide (p≤36)<;>cases h3:decide (1≤q)<;>cases h4:decide (q≤12)
 all_goals
  go_enter Tryz.func251,Tryz.ntmps251
  go_wp2_with fail
  go_ret
  exact ⟨rfl,au⟩
def Xk (a b:Int × Int):Value:=if a.2≠0 then .tuple #[.agg #[.int .i64 0,.int .i64 0],.int .i64 a.2] else if b.2≠0 then .tuple #[.agg #[.int .i64 0,.int .i64 0],.int .i64 b.2] else
 if jF a.1 b.1 then .tuple #[.agg #[.int .i64 a.1,.int .i64 b.1],.int .i64 0] else .tuple #[.agg #[.int .i64 0,.int .i64 0],.int .i64 6]
theorem Sw (lo hi:Int) (f:Value) (F:FuncId) (caps free:Array Value) (a b:Int × Int) (w:World) (hf:f= .func (.func F) caps free)
  (h1:∀ W,Below w.heap.size w W→Calls Tryz.prog F (caps++#[.int .i64 lo,.bool false]) W (fun e w'=>e= .returned (.tuple #[.int .i64 a.1,.int .i64 a.2])∧Below W.heap.size W w'))
  (h2:∀ W,Below w.heap.size w W→Calls Tryz.prog F (caps++#[.int .i64 hi,.bool true]) W (fun e w'=>e= .returned (.tuple #[.int .i64 b.1,.int .i64 b.2])∧Below W.heap.size W w')) (hfr:free=#[])
  (hen:∀ args W,(callFunc F args).run Tryz.prog W= .ok (.enter F args) W) :
  Calls Tryz.prog 252 #[.int .i64 lo,.int .i64 hi,f] w (fun e w'=>e= .returned (Xk a b)∧Below w.heap.size w w'):=by
 subst hf hfr;obtain ⟨a1,a2⟩:=a;obtain ⟨b1,b2⟩:=b;have H1:=zh h1;have H2:=zh h2;have HO:=zh (fun W=>tZ a1 b1 W);unfold Xk;simp only;clear h1 h2;go_enter Tryz.func252,Tryz.ntmps252
 go_wp2_with fail
 refine (H1.out _ au).mono ?_;rintro e w1 ⟨rfl,hb1⟩;have hx:=ah.later (ah.new w #[.int .i64 0,.int .i64 0] 40) hb1;have HX:=zh hx;have HB1:=zh (Bt (show Below w.heap.size w (w.alloc (.cells #[.int .i64 0,.int .i64 0] 40)) from au) hb1);clear hx hb1
 by_cases ha:a2=0
 ·subst ha;go_wp2_with fail
  refine (H2.out _ HB1.out).mono ?_;rintro e w2 ⟨rfl,hb2⟩;replace HX:=zh (HX.out.later hb2);have HB2:=zh (Bt HB1.out hb2);clear hb2 HB1
  by_cases hb:b2=0
  ·subst hb;go_wp2_with fail
   refine (HO.out _).mono ?_;rintro e w3 ⟨rfl,hb3⟩;replace HX:=zh (HX.out.later hb3);have HB3:=zh (Bt HB2.out hb3);clear hb3 HB2;have hx:=HX.out;have cx:=hx.cell;have fx:=hx.free;have lx:=hx.lt;have hw:=HB3.out;cases hk:jF a1 b1
   all_goals
    go_wp2_with fail
    refine aK rfl rfl aH Tryz.underlying40 rfl zk ?_;exact ⟨by first|rfl|(rw [if_neg (fun h=>h rfl),if_neg (fun h=>h rfl),hk];rfl),au⟩
  ·have g:(b2 == 0)=false:=beq_eq_false_iff_ne.2 hb;have hx:=HX.out;have cx:=hx.cell;have fx:=hx.free;have lx:=hx.lt;have hw:=HB2.out;go_wp2_with fail
   refine aK rfl rfl aH Tryz.underlying40 rfl zk ?_;exact ⟨by first|rfl|(rw [if_neg (fun h=>h rfl),if_pos hb];rfl),au⟩
 ·have g:(a2 == 0)=false:=beq_eq_false_iff_ne.2 ha;have hx:=HX.out;have cx:=hx.cell;have fx:=hx.free;have lx:=hx.lt;have hw:=HB1.out;go_wp2_with fail
  refine aK rfl rfl aH Tryz.underlying40 rfl zk ?_;exact ⟨by first|rfl|(rw [if_pos ha];rfl),au⟩
end Go.Proofs.power
namespace Go.Num
def irt (k:Nat):Nat→Nat→Nat
 | 0,_=>0
 | f+1,n=>if (2*irt k f (n / 2^k)+1)^k≤n then 2*irt k f (n / 2^k)+1 else 2*irt k f (n / 2^k)
def iH (k n:Nat):Nat:=irt k (n.log2 / k+1) n
theorem PI {k:Nat} (hk:0<k):∀ f n,n<2^(k*f)→irt k f n^k≤n∧n<(irt k f n+1)^k
 | 0,n,h=>by
  have:n=0:=by simpa using h
  subst this;refine ⟨?_,?_⟩
  ·show 0^k≤0
   rw [Nat.zero_pow hk];omega
  ·show 0<(0+1)^k
   simp
 | f+1,n,h=>by
  have hp:0<2^k:=Nat.pow_pos zo
  have h1:n / 2^k<2^(k*f):=by
   rw [Nat.div_lt_iff_lt_mul hp,← Nat.pow_add];rw [Nat.mul_add] at h
   simpa using h
  obtain ⟨a,b⟩:=PI hk f _ h1;unfold irt;generalize irt k f (n / 2^k)=r at *
  have e:(2*r)^k≤n:=by
   rw [Nat.mul_pow];have:=Nat.mul_le_mul_left (2^k) a;have:=Nat.mul_div_le n (2^k);omega
  have e2:n<(2*r+1+1)^k:=by
   have h2:n<2^k*(n / 2^k+1):=by
    have:=Nat.lt_mul_div_succ n hp;exact this
   have h3:=Nat.mul_le_mul_left (2^k) b;rw [show 2*r+1+1=2*(r+1) by omega,Nat.mul_pow];exact Nat.lt_of_lt_of_le h2 h3
  split
  ·rename_i h4;exact ⟨h4,e2⟩
  ·rename_i h4;exact ⟨e,by omega⟩
theorem nY {k:Nat} (hk:0<k) (n:Nat):iH k n^k≤n∧n<(iH k n+1)^k:=by
 refine PI hk _ _ ?_;refine Nat.lt_of_lt_of_le (Nat.lt_log2_self (n:=n)) (Nat.pow_le_pow_right zo ?_);have:=Nat.lt_mul_div_succ n.log2 hk;omega
theorem PN {k n r:Nat} (hk:0<k) (h:n<(r+1)^k):iH k n≤r:=by
 obtain ⟨a,b⟩:=nY hk n
 have c:iH k n<r+1:=by
  refine Nat.lt_of_not_le fun h=>?_;have:=Nat.pow_le_pow_left h k;omega
 omega
theorem zZ {k n r:Nat} (hk:0<k) (h:r^k≤n):r≤iH k n:=by
 obtain ⟨a,b⟩:=nY hk n
 have c:r<iH k n+1:=by
  refine Nat.lt_of_not_le fun h=>?_;have:=Nat.pow_le_pow_left h k;omega
 omega
theorem aW4 (r x k:Nat):r^k*x+r*x^k≤x^(k+1)+r^(k+1):=by
 rw [Nat.pow_succ,Nat.pow_succ]
 rcases Nat.le_total r x with h|h
 ·have hk:=Nat.pow_le_pow_left h k;obtain ⟨d,rfl⟩:=Nat.exists_eq_add_of_le h;obtain ⟨e,he⟩:=Nat.exists_eq_add_of_le hk;rw [he];generalize r^k=a;have:(a+e)*(r+d)+a*r=a*(r+d)+r*(a+e)+e*d:=by grind
  omega
 ·have hk:=Nat.pow_le_pow_left h k;obtain ⟨d,rfl⟩:=Nat.exists_eq_add_of_le h;obtain ⟨e,he⟩:=Nat.exists_eq_add_of_le hk;rw [he];generalize x^k=a;have:a*x+(a+e)*(x+d)=(a+e)*x+(x+d)*a+e*d:=by grind
  omega
theorem means (r x:Nat):∀ k,(k+1)*r*x^k≤k*x^(k+1)+r^(k+1)
 | 0=>by simp
 | k+1=>by
  have ih:=Nat.mul_le_mul_right x (means r x k);have h:=aW4 r x (k+1);have e1:(k+1+1)*r*x^(k+1)=(k+1)*r*x^k*x+r*x^(k+1):=by rw [Nat.pow_succ];grind
  have e2:(k+1)*x^(k+1+1)=k*x^(k+1)*x+x^(k+1+1):=by rw [Nat.pow_succ x (k+1)];grind
  have e3:(k*x^(k+1)+r^(k+1))*x=k*x^(k+1)*x+r^(k+1)*x:=by rw [Nat.add_mul]
  omega
def SK (k m x:Nat):Nat:=(x*(k - 1)+m / x^(k - 1)) / k
theorem an2 {k m x:Nat} (hk:0<k) (hx:0<x):iH k m≤SK k m x:=by
 obtain ⟨a, -⟩:=nY hk m;generalize iH k m=r at *;obtain ⟨j,rfl⟩:=Nat.exists_eq_add_of_le' hk;unfold SK;rw [Nat.add_sub_cancel];rw [Nat.le_div_iff_mul_le zo];replace a:r^(j+1)≤m:=a
 show r*(j+1)≤_
 have hm:=means r x j;have hp:0<x^j:=Nat.pow_pos hx
 have h1:r*(j+1) - x*j≤m / x^j:=by
  rw [Nat.le_div_iff_mul_le hp,Nat.sub_mul];have e1:(j+1)*r*x^j=r*(j+1)*x^j:=by rw [Nat.mul_comm (j+1)]
  have e2:j*x^(j+1)=x*j*x^j:=by rw [Nat.pow_succ];grind
  omega
 omega
theorem ZE {k m x:Nat} (hk:0<k) (hx:0<x) (h1:iH k m≤x) (h2:x≤SK k m x):x=iH k m:=by
 obtain ⟨j,rfl⟩:=Nat.exists_eq_add_of_le' hk;unfold SK at h2;rw [Nat.add_sub_cancel] at h2;rw [Nat.le_div_iff_mul_le zo] at h2;have hp:0<x^j:=Nat.pow_pos hx;have h3:x≤m / x^j:=by rw [Nat.mul_succ] at h2;omega
 rw [Nat.le_div_iff_mul_le hp] at h3;have h4:x^(j+1)≤m:=by rw [Nat.pow_succ,Nat.mul_comm];exact h3
 have:=zZ hk h4;omega
theorem SI {k m l:Nat} (hk:0<k) (h:m<10^l):iH k m≤10^(l / k+1):=by
 refine PN hk ?_;have h1:(10^(l / k+1))^k≤(10^(l / k+1)+1)^k:=Nat.pow_le_pow_left zo k;rw [← Nat.pow_mul] at h1
 have h2:10^l≤10^((l / k+1)*k):=Nat.pow_le_pow_right zo (by
  have:=Nat.lt_mul_div_succ l hk;rw [Nat.mul_comm];omega)
 omega
end Go.Num
namespace Go.Num
def mg (n p q:Nat):Nat:=n^p*10^(12*q) / 10^(12*p)
def vW (n p q:Nat):Nat:=iH q (mg n p q)
def Xg (n p q:Nat):Bool:=decide (vW n p q^q*10^(12*p)=n^p*10^(12*q))
def phi (n p q:Nat):Nat:=if Xg n p q then vW n p q else vW n p q+1
theorem vw (k:Nat):0<10^k:=Nat.pow_pos zo
theorem Ph {n p q:Nat} (h:p≤q):mg n p q=n^p*10^(12*(q - p)):=by
 unfold mg;rw [show 12*q=12*(q - p)+12*p by omega,Nat.pow_add,← Nat.mul_assoc,Nat.mul_div_cancel _ (vw _)]
theorem Pj {n p q:Nat} (h:q≤p):mg n p q=n^p / 10^(12*(p - q)):=by
 unfold mg;rw [show 12*p=12*(p - q)+12*q by omega,Nat.pow_add,Nat.mul_div_mul_right _ _ (vw _)]
theorem Ho {n p q x:Nat}:x≤mg n p q↔x*10^(12*p)≤n^p*10^(12*q):=by
 unfold mg;exact Nat.le_div_iff_mul_le (vw _)
theorem Pk {q:Nat} (hq:0<q) (n p:Nat):vW n p q^q*10^(12*p)≤n^p*10^(12*q)∧n^p*10^(12*q)<(vW n p q+1)^q*10^(12*p):=by
 obtain ⟨h1,h2⟩:=nY hq (mg n p q);refine ⟨Ho.1 h1,?_⟩;rw [← Nat.not_le];exact fun h=>absurd (Ho.2 h) (Nat.not_le.2 h2)
theorem Tg {n p q r:Nat} (hq:0<q) (h:r^q*10^(12*p)≤n^p*10^(12*q)):r≤vW n p q:=zZ hq (Ho.2 h)
theorem rZ (n p q:Nat):vW n p q≤phi n p q∧phi n p q≤vW n p q+1:=by
 unfold phi;split<;>omega
theorem MU {a b q c:Nat} (h:a≤b):a^q*c≤b^q*c:=Nat.mul_le_mul_right _ (Nat.pow_le_pow_left h q)
theorem uN {m n p q:Nat} (hq:0<q) (h:m≤n):vW m p q≤vW n p q:=Tg hq (Nat.le_trans (Pk hq m p).1 (MU h))
theorem aj4 {B k:Nat} (h:B=10^k) (b:Nat):10^(k+b)=B*10^b:=by rw [h,Nat.pow_add]
theorem am4 {n p q:Nat} (hq:0<q) (p36:p≤36) (q12:q≤12) (h:10^600≤n^p):10^18<vW n p q:=by
 obtain ⟨B,eB⟩:∃ B,B=10^600:=⟨_,rfl⟩;rw [← eB] at h;refine Tg hq ?_
 have h1:(10^18+1)^q≤2^q*10^(18*q):=by
  rw [Nat.pow_mul,← Nat.mul_pow];exact Nat.pow_le_pow_left zd q
 have h2:2^q≤2^12:=Nat.pow_le_pow_right zo q12;have h3:2^12≤10^4:=by decide
 have h4:(10^18+1)^q≤10^(4+18*q):=by
  rw [Nat.pow_add];exact Nat.le_trans h1 (Nat.mul_le_mul_right _ (Nat.le_trans h2 h3))
 calc (10^18+1)^q*10^(12*p)≤10^(4+18*q)*10^(12*p):=Nat.mul_le_mul_right _ h4
  _=10^(4+18*q+12*p):=(Nat.pow_add ..).symm
  _≤10^(600+12*q):=Nat.pow_le_pow_right zo zo
  _=B*10^(12*q):=aj4 eB _
  _≤n^p*10^(12*q):=Nat.mul_le_mul_right _ h
end Go.Num
namespace Go.Num
theorem aA2 {n p q:Nat} (h:p≤q):Xg n p q=decide (vW n p q^q=mg n p q):=by
 unfold Xg;rw [Ph h,show 12*q=12*(q - p)+12*p by omega,Nat.pow_add 10,← Nat.mul_assoc];exact decide_eq_decide.2 ⟨fun e=>Nat.eq_of_mul_eq_mul_right (vw _) e,fun e=>by rw [e]⟩
theorem aA3 {n p q:Nat} (hq:0<q) (h:q≤p):Xg n p q=(decide (vW n p q^q=mg n p q)&&decide (n^p%10^(12*(p - q))=0)):=by
 have hs:=(nY hq (mg n p q)).1;have hd:=Nat.div_add_mod (n^p) (10^(12*(p - q)));have hp:=vw (12*(p - q));unfold Xg;rw [Bool.and_eq_decide];refine decide_eq_decide.2 ?_;rw [show 12*p=12*(p - q)+12*q by omega,Nat.pow_add 10,← Nat.mul_assoc];rw [← Pj h] at hd
 change vW n p q^q≤mg n p q at hs
 simp only [decide_eq_true_eq]
 constructor
 ·intro e;have e:=Nat.eq_of_mul_eq_mul_right (vw _) e
  have h1:vW n p q^q*10^(12*(p - q))≤10^(12*(p - q))*mg n p q:=by
   rw [Nat.mul_comm];exact Nat.mul_le_mul_left _ hs
  refine ⟨?_,by omega⟩;refine Nat.eq_of_mul_eq_mul_right hp ?_;rw [Nat.mul_comm (mg n p q)];omega
 ·rintro ⟨e1,e2⟩;rw [e1,← hd,e2,Nat.add_zero,Nat.mul_comm (mg n p q)]
theorem af5 {q x:Nat} (hq:0<q) (q12:q≤12) (h:10^600≤x):10^18<iH q x:=by
 refine zZ hq (Nat.le_trans ?_ h);have h1:(10^18+1)^q≤(10^18+1)^12:=Nat.pow_le_pow_right zo q12;have h2:(10^18+1)^12≤10^600:=by decide+kernel
 exact Nat.le_trans h1 h2
def yX (n p q:Nat) (up:Bool):Int × Int:=if vW n p q≤10^18 then (((if up then phi n p q else vW n p q:Nat):Int),0) else (0,6)
theorem aq7 {n p q:Nat} {up:Bool} (h:vW n p q≤10^18):yX n p q up=(((vW n p q:Nat):Int)+(if (up&& !(Xg n p q)) then 1 else 0),0):=by
 unfold yX phi;rw [if_pos h];cases up<;>cases Xg n p q<;>simp
end Go.Num
namespace Go.Num
structure LG (b Y1 Y0 un d q r:Nat):Prop where
 h1:q*Y1+r=un
 h2:(un*b+d) / (Y1*b+Y0)≤q
theorem LG.start {b Y1 Y0 un d:Nat} (hb:0<b) (hY:0<Y1) (hd:d<b):LG b Y1 Y0 un d (un / Y1) (un - un / Y1*Y1):=by
 have h:=Nat.div_mul_le_self un Y1;refine ⟨by omega,?_⟩
 have e:(un*b+d) / b=un:=by
  rw [Nat.mul_comm,Nat.mul_add_div hb,Nat.div_eq_of_lt hd,Nat.add_zero]
 calc (un*b+d) / (Y1*b+Y0)≤(un*b+d) / (Y1*b):=Nat.div_le_div_left zo (Nat.mul_pos hY hb)
  _=(un*b+d) / b / Y1:=by rw [Nat.div_div_eq_div_mul,Nat.mul_comm Y1 b]
  _=un / Y1:=by rw [e]
theorem LG.step {b Y1 Y0 un d q r:Nat} (h:LG b Y1 Y0 un d q r) (hY:0<Y1) (hd:d<b) (hun:un<Y1*b+Y0) (c:b≤q∨b*r+d<q*Y0):LG b Y1 Y0 un d (q - 1) (r+Y1)∧1≤q:=by
 obtain ⟨h1,h2⟩:=h;have hb:0<b:=by omega
 have hYY:0<Y1*b+Y0:=by have:=Nat.mul_pos hY hb;omega
 have key:(un*b+d) / (Y1*b+Y0)<q:=by
  rcases c with c|c
  ·refine Nat.lt_of_lt_of_le ?_ c;rw [Nat.div_lt_iff_lt_mul hYY];have:(un+1)*b≤(Y1*b+Y0)*b:=Nat.mul_le_mul_right b hun;rw [Nat.succ_mul] at this;rw [Nat.mul_comm b];omega
  ·rw [Nat.div_lt_iff_lt_mul hYY];have e1:un*b=q*Y1*b+b*r:=by rw [← h1,Nat.add_mul,Nat.mul_comm r b]
   rw [Nat.mul_add,← Nat.mul_assoc,e1];omega
 have hq:1≤q:=Nat.lt_of_le_of_lt (Nat.zero_le _) key;refine ⟨⟨?_,Nat.le_sub_one_of_lt key⟩,hq⟩
 have:q*Y1=(q - 1)*Y1+Y1:=by
  conv=>lhs;rw [show q=q - 1+1 by omega,Nat.succ_mul]
 omega
theorem LG.stop {b Y1 Y0 un d q r:Nat} (h:LG b Y1 Y0 un d q r) (hY:0<Y1) (hb:0<b) (c:q*Y0≤b*r+d):q=(un*b+d) / (Y1*b+Y0):=by
 obtain ⟨h1,h2⟩:=h;have hYY:0<Y1*b+Y0:=by have:=Nat.mul_pos hY hb;omega
 refine Nat.le_antisymm ?_ h2;rw [Nat.le_div_iff_mul_le hYY,Nat.mul_add,← Nat.mul_assoc,← h1,Nat.add_mul,Nat.mul_comm r b];omega
theorem LG.brk {b Y1 Y0 un d q r:Nat} (h:LG b Y1 Y0 un d q r) (hY:0<Y1) (hb:0<b) (hY0:Y0<b) (hun:un<Y1*b+Y0) (c:b≤r):q=(un*b+d) / (Y1*b+Y0):=by
 refine h.stop hY hb ?_
 have hq:q<b:=by
  have h1:=h.h1
  have:q*Y1<b*Y1:=by
   rw [Nat.mul_comm b Y1];omega
  exact Nat.lt_of_mul_lt_mul_right this
 have a1:q*Y0≤b*b:=Nat.mul_le_mul (Nat.le_of_lt hq) (Nat.le_of_lt hY0);have a2:b*b≤b*r:=Nat.mul_le_mul_left b c;omega
theorem aq9 {b un d1 d0 Y:Nat} (hY:0<Y):((un*b+d1) / Y)*b+((un*b+d1)%Y*b+d0) / Y=(un*b*b+d1*b+d0) / Y∧((un*b+d1)%Y*b+d0)%Y=(un*b*b+d1*b+d0)%Y:=by
 have h:=Nat.div_add_mod (un*b+d1) Y
 have e:un*b*b+d1*b+d0=Y*((un*b+d1) / Y*b)+((un*b+d1)%Y*b+d0):=by
  have:un*b*b+d1*b=(un*b+d1)*b:=by rw [Nat.add_mul]
  rw [this]
  conv=>lhs;rw [← h,Nat.add_mul]
  rw [← Nat.mul_assoc,Nat.add_assoc]
 rw [e];refine ⟨?_,?_⟩
 ·rw [Nat.mul_add_div hY]
 ·rw [Nat.mul_add_mod]
theorem shifted {hi lo s:Nat} (hs:s≤63) (an9:lo<18446744073709551616) :
  (hi*2^s+lo / 2^(64 - s))*4294967296*4294967296+lo*2^s%18446744073709551616 / 4294967296*4294967296+lo*2^s%18446744073709551616%4294967296=(hi*18446744073709551616+lo)*2^s∧lo / 2^(64 - s)<2^s:=by
 have e:(18446744073709551616:Nat)=2^(64 - s)*2^s:=by
  rw [← Nat.pow_add,show 64 - s+s=64 by omega]
 have h1:lo*2^s / 18446744073709551616=lo / 2^(64 - s):=by
  conv=>lhs;rw [e]
  exact Nat.mul_div_mul_right _ _ (Nat.pow_pos zo)
 have h2:=Nat.div_add_mod (lo*2^s) 18446744073709551616;have h3:=Nat.div_add_mod (lo*2^s%18446744073709551616) 4294967296;refine ⟨?_,?_⟩
 ·rw [h1] at h2
  have h4:(hi*18446744073709551616+lo)*2^s=hi*2^s*18446744073709551616+lo*2^s:=by
   rw [Nat.add_mul,Nat.mul_right_comm]
  rw [h4];omega
 ·rw [Nat.div_lt_iff_lt_mul (Nat.pow_pos zo),Nat.mul_comm,← e];exact an9
end Go.Num
namespace Go.Proofs.bits
open Go Go.RowKit Go.SW Go.Num Go.Mem Go.Proofs Go.Shelf
theorem ZH {y:Nat} (h0:0<y) (h:y<18446744073709551616):∃ s:Nat,s≤63∧(64:Int) - (Lib.bitLen y:Int)=(s:Int)∧9223372036854775808≤y*2^s∧y*2^s<18446744073709551616:=by
 obtain ⟨h1,h2,h3⟩:=Lib.bitLenAux_bounds 64 y h zo;have h4:=Lib.bitLen_le y 64 zo h;have e:Lib.bitLenAux 64 y=Lib.bitLen y:=rfl;rw [e] at h1 h2 h3;generalize Lib.bitLen y=b at *;refine ⟨64 - b,by omega,by omega,?_,?_⟩
 ·have:2^(b - 1)*2^(64 - b)≤y*2^(64 - b):=Nat.mul_le_mul_right _ h2;rw [← Nat.pow_add,show b - 1+(64 - b)=63 by omega] at this
  simpa using this
 ·have:y*2^(64 - b)<2^b*2^(64 - b):=Nat.mul_lt_mul_of_pos_right h3 (Nat.pow_pos zo);rw [← Nat.pow_add,show b+(64 - b)=64 by omega] at this
  simpa using this
def Wds (Y1 Y0 L1 L0:Nat):Prop:=2147483648≤Y1∧Y1<4294967296∧Y0<4294967296∧L1<4294967296∧L0<4294967296
theorem aF9 {Y1 Y0 U d q r:Nat} (h:LG 4294967296 Y1 Y0 U d q r) (h1:2147483648≤Y1) (hU:U<18446744073709551616):q<18446744073709551616:=by
 have e:=h.h1
 rcases Nat.eq_zero_or_pos q with h|h
 ·omega
 ·have:=Nat.le_mul_of_pos_right q (show 0<Y1 by omega);omega
theorem vB {Y1 Y0 L1 L0 U d q r:Nat} (h:LG 4294967296 Y1 Y0 U d q r) (hr:r<4294967296) (hb:Wds Y1 Y0 L1 L0) (hU:U<Y1*4294967296+Y0) (hd:d<4294967296) (c:4294967296≤q∨4294967296*r+d<q*Y0) :
  ∃ q' r':Nat,Hid (LG 4294967296 Y1 Y0 U d q' r')∧Hid (q'<q)∧IntKind.u64.wrap ((q:Int) - 1)=(q':Int)∧IntKind.u64.wrap ((r:Int)+(Y1:Int))=(r':Int):=by
 unfold Wds at hb;have hq:=aF9 h hb.1 zo;obtain ⟨hd2,hq1⟩:=h.step zo hd hU c;refine ⟨_,_,zh hd2,zh zo,?_,?_⟩
 ·rw [IntKind.wrap_u64];omega
 ·rw [IntKind.wrap_u64];omega
theorem vL {Y1 Y0 L1 L0 d q r:Nat} (hq:q<4294967296) (hr:r<4294967296) (hb:Wds Y1 Y0 L1 L0) (hd:d<4294967296) :
  ∃ T V:Nat,Hid (q*Y0=T)∧Hid (4294967296*r+d=V)∧IntKind.u64.wrap ((q:Int)*(Y0:Int))=(T:Int)∧IntKind.u64.wrap (IntKind.u64.wrap (4294967296*(r:Int))+(d:Int))=(V:Int):=by
 unfold Wds at hb;refine ⟨_,_,zh rfl,zh rfl,?_,?_⟩
 ·have:q*Y0≤4294967295*4294967295:=Nat.mul_le_mul zo zo;rw [← Int.natCast_mul,IntKind.wrap_u64];generalize q*Y0=T at *;omega
 ·rw [IntKind.wrap_u64,IntKind.wrap_u64];omega
theorem KO {U d Y q:Nat} (hY:0<Y) (hq:q=(U*4294967296+d) / Y) (hd:d<4294967296) (ap2:Y<18446744073709551616) :
  IntKind.u64.wrap (IntKind.u64.wrap (IntKind.u64.wrap ((U:Int)*4294967296)+(d:Int)) - IntKind.u64.wrap ((q:Int)*(Y:Int)))=(((U*4294967296+d)%Y:Nat):Int):=by
 have h:=Nat.div_add_mod (U*4294967296+d) Y;have hm:=Nat.mod_lt (U*4294967296+d) hY;rw [← hq] at h;have e:(q:Int)*(Y:Int)=((Y*q:Nat):Int):=by rw [Int.natCast_mul,Int.mul_comm]
 rw [e];generalize Y*q=T at *;generalize (U*4294967296+d)%Y=V at *;rw [IntKind.wrap_u64,IntKind.wrap_u64,IntKind.wrap_u64,IntKind.wrap_u64];omega
theorem vE {U L1 L0 Y Y1 Y0 q:Nat} (hq:q=(U*4294967296+L1) / (Y1*4294967296+Y0)) (hY:Y1*4294967296+Y0=Y) (hb:Wds Y1 Y0 L1 L0) (hUY:U<Y) (ap2:Y<18446744073709551616) :
  ∃ W q0 r0:Nat,Hid (W=(U*4294967296+L1)%Y)∧Hid (W<Y)∧IntKind.u64.wrap (IntKind.u64.wrap (IntKind.u64.wrap ((U:Int)*4294967296)+(L1:Int)) - IntKind.u64.wrap ((q:Int)*(Y:Int)))=(W:Int)∧IntKind.u64.wrap ((W:Int) / (Y1:Int))=(q0:Int)∧IntKind.u64.wrap ((W:Int) - IntKind.u64.wrap ((q0:Int)*(Y1:Int)))=(r0:Int)∧Hid (r0<4294967296)∧Hid (∀ d,d<4294967296→LG 4294967296 Y1 Y0 W d q0 r0):=by
 unfold Wds at hb;rw [hY] at hq;have hYp:0<Y:=by omega
 have h1:=KO hYp hq hb.2.2.2.1 ap2;have hm:=Nat.mod_lt (U*4294967296+L1) hYp;obtain ⟨W,eW⟩:∃ W,(U*4294967296+L1)%Y=W:=⟨_,rfl⟩;rw [eW] at h1 hm;refine ⟨W,W / Y1,W - W / Y1*Y1,zh eW.symm,zh hm,h1,?_,?_,zh ?_,zh fun d hd=>LG.start zo zo hd⟩
 ·rw [← Int.natCast_ediv,IntKind.wrap_u64];have:=Nat.div_le_self W Y1;generalize W / Y1=q at *;omega
 ·have:=Nat.div_mul_le_self W Y1;rw [← Int.natCast_mul,IntKind.wrap_u64,IntKind.wrap_u64];omega
 ·have h2:=Nat.div_add_mod W Y1;have h3:=Nat.mod_lt W (show 0<Y1 by omega);rw [Nat.mul_comm] at h2;omega
theorem kY {U L1 L0 Y Y1 Y0 q q0 W:Nat} (hq:q=(U*4294967296+L1) / (Y1*4294967296+Y0)) (hq0:q0=(W*4294967296+L0) / (Y1*4294967296+Y0)) (hW:W=(U*4294967296+L1)%Y) (hb:Wds Y1 Y0 L1 L0) (hY:Y1*4294967296+Y0=Y) (ap2:Y<18446744073709551616) (hN:(U*4294967296*4294967296+L1*4294967296+L0) / Y<18446744073709551616) :
  IntKind.u64.wrap (IntKind.u64.wrap ((q:Int)*4294967296)+(q0:Int))=(((U*4294967296*4294967296+L1*4294967296+L0) / Y:Nat):Int)∧IntKind.u64.wrap (IntKind.u64.wrap (IntKind.u64.wrap ((W:Int)*4294967296)+(L0:Int)) - IntKind.u64.wrap ((q0:Int)*(Y:Int)))=(((U*4294967296*4294967296+L1*4294967296+L0)%Y:Nat):Int):=by
 unfold Wds at hb;rw [hY] at hq hq0;have hYp:0<Y:=by omega
 obtain ⟨h1,h2⟩:=aq9 (b:=4294967296) (un:=U) (d1:=L1) (d0:=L0) hYp;rw [← hq,← hW,← hq0] at h1;rw [← hW] at h2;refine ⟨?_,?_⟩
 ·rw [← h1] at hN ⊢;rw [IntKind.wrap_u64,IntKind.wrap_u64];omega
 ·rw [KO hYp hq0 hb.2.2.2.2 ap2,h2]
theorem ai3 (hi lo y:Nat) (hy:hi<y) (y64:y<18446744073709551616) (an9:lo<18446744073709551616) (w:World) :
  Calls Tryz.prog 178 #[.int .u64 (hi:Int),.int .u64 (lo:Int),.int .u64 (y:Int)] w (fun e w'=>e= .returned (.tuple #[.int .u64 (((hi*18446744073709551616+lo) / y:Nat):Int),.int .u64 (((hi*18446744073709551616+lo)%y:Nat):Int)])∧Below w.heap.size w w'):=by
 have q1:¬ (y:Int)=0:=by omega
 have q2:¬ (y:Int)≤(hi:Int):=by omega
 by_cases h0:hi=0
 ·subst h0;go_enter Tryz.func178,Tryz.ntmps178
  go_wp2_with fail
  refine aC [(.pure,0),(.pure,1),(.pure,2),(.pure,3),(.pure,4),(.pure,5),(.fin,6),(.fin,7)] zk zk zR zP ?_;refine Wk.out ?_
  (iterate 6 refine zU ?_)
  refine iK [_,_] rfl (fun wf hbf=>?_);go_wp2_with fail
  go_ret2
  have e1:IntKind.u64.wrap ((lo:Int) / (y:Int))=(((0*18446744073709551616+lo) / y:Nat):Int):=by
   rw [Nat.zero_mul,Nat.zero_add,IntKind.wrap_u64];have:=Nat.div_le_self lo y;rw [← Int.natCast_ediv];generalize lo / y=q at *;omega
  have e2:(lo:Int)%(y:Int)=(((0*18446744073709551616+lo)%y:Nat):Int):=by
   rw [Nat.zero_mul,Nat.zero_add];omega
  rw [e1,e2];exact ⟨rfl,((Below.refl _ w).drew.trans (hbf.mono (Nat.le_refl _)))⟩
 ·obtain ⟨s,hs,e1,e2,e3⟩:=ZH (y:=y) zo y64;have LZ:=zh (fun W=>(Tryz.bits_LeadingZeros64 (y:Int) W zo zo));rw [Int.toNat_natCast,e1] at LZ;have q3:¬ (hi:Int)=0:=by omega
  obtain ⟨hN,hlt⟩:=shifted (hi:=hi) hs an9;have hm:min s 64=s:=by omega
  have hp2:0<2^s:=Nat.pow_pos zo;have hw:IntKind.u64.wrap (s:Int)=(s:Int):=by rw [IntKind.wrap_u64];omega
  have hAY:hi*2^s+2^s≤y*2^s:=by
   have:=Nat.mul_le_mul_right (2^s) hy;rw [Nat.succ_mul] at this;exact this
  have cY:(y:Int)*2^s=((y*2^s:Nat):Int):=by simp
  have cA:(hi:Int)*2^s=((hi*2^s:Nat):Int):=by simp
  have cL:(lo:Int)*2^s=((lo*2^s:Nat):Int):=by simp
  have cB:(lo:Int) / 2^(64 - s)=((lo / 2^(64 - s):Nat):Int):=by simp
  have hOr:bits BinOp.or IntKind.u64 ((hi*2^s:Nat):Int) ((lo / 2^(64 - s):Nat):Int)=((hi*2^s+lo / 2^(64 - s):Nat):Int):=by
   rw [bits_or_u64_nat _ _ zo (by have:=Nat.div_le_self lo (2^(64 - s));omega)]
   congr 1
   rw [Nat.mul_comm hi];exact (Nat.two_pow_add_eq_or_of_lt hlt hi).symm
  have hyd:∀ a:Nat,a / y=a*2^s / (y*2^s)∧a%y=a*2^s%(y*2^s) / 2^s:=fun a=>by
   have hp:0<2^s:=Nat.pow_pos zo;refine ⟨(Nat.mul_div_mul_right _ _ hp).symm,?_⟩;rw [Nat.mul_mod_mul_right,Nat.mul_div_cancel _ hp]
  have hNB:(hi*18446744073709551616+lo) / y<18446744073709551616:=by
   rw [Nat.div_lt_iff_lt_mul zo];omega
  rw [(hyd _).1,← hN] at hNB;rw [(hyd _).1,(hyd _).2,← hN];have cS:∀ a:Nat,(a:Int) / 2^s=((a / 2^s:Nat):Int):=fun a=>by simp
  have hYp:2^63≤y*2^s:=e2;obtain ⟨Y,eY⟩:∃ Y,y*2^s=Y:=⟨_,rfl⟩;obtain ⟨A,eA⟩:∃ A,hi*2^s=A:=⟨_,rfl⟩;obtain ⟨B,eB⟩:∃ B,lo / 2^(64 - s)=B:=⟨_,rfl⟩;obtain ⟨L,eL⟩:∃ L,lo*2^s=L:=⟨_,rfl⟩;rw [eY,eA] at hAY;rw [eY] at e2 e3 cY hYp;rw [eA] at cA;rw [eL] at cL;rw [eB] at cB hlt;rw [eA,eB] at hOr;rw [eY,eA,eB,eL];rw [eY,eA,eB,eL] at hNB;obtain ⟨L',eL'⟩:∃ L',L%18446744073709551616=L':=⟨_,rfl⟩;obtain ⟨U,eU⟩:∃ U,A+B=U:=⟨_,rfl⟩;rw [eU] at hOr;rw [eL',eU];rw [eL',eU] at hNB;have hUY:U<Y:=by omega
  have w1:IntKind.u64.wrap (Y:Int)=(Y:Int):=by rw [IntKind.wrap_u64];omega
  have w2:IntKind.u64.wrap (A:Int)=(A:Int):=by rw [IntKind.wrap_u64];omega
  have w3:IntKind.u64.wrap (L:Int)=(L':Int):=by rw [IntKind.wrap_u64];omega
  have a1:bits BinOp.and IntKind.u64 (Y:Int) 4294967295=((Y%4294967296:Nat):Int):=Mul64.maskN Y zo;have a2:bits BinOp.and IntKind.u64 (L':Int) 4294967295=((L'%4294967296:Nat):Int):=Mul64.maskN L' zo;have d1:(Y:Int) / 4294967296=((Y / 4294967296:Nat):Int):=by omega
  have d2:(L':Int) / 4294967296=((L' / 4294967296:Nat):Int):=by omega
  have hYY:Y / 4294967296*4294967296+Y%4294967296=Y:=by rw [Nat.mul_comm];exact Nat.div_add_mod Y 4294967296
  obtain ⟨Y1,eY1⟩:∃ Y1,Y / 4294967296=Y1:=⟨_,rfl⟩;obtain ⟨Y0,eY0⟩:∃ Y0,Y%4294967296=Y0:=⟨_,rfl⟩;obtain ⟨L1,eL1⟩:∃ L1,L' / 4294967296=L1:=⟨_,rfl⟩;obtain ⟨L0,eL0⟩:∃ L0,L'%4294967296=L0:=⟨_,rfl⟩;have b1:2147483648≤Y1∧Y1<4294967296∧Y0<4294967296∧L1<4294967296∧L0<4294967296:=by omega
  rw [eY1] at d1 hYY;rw [eY0] at a1 hYY;rw [eL1] at d2;rw [eL0] at a2;rw [eL1,eL0];rw [eL1,eL0] at hNB;obtain ⟨hst⟩:Nonempty (LG 4294967296 Y1 Y0 U L1 (U / Y1) (U - U / Y1*Y1)):=⟨LG.start zo zo zo⟩
  have hQ:IntKind.u64.wrap ((U:Int) / (Y1:Int))=((U / Y1:Nat):Int):=by
   rw [← Int.natCast_ediv,IntKind.wrap_u64];have:=Nat.div_le_self U Y1;generalize U / Y1=q at *;omega
  have hr1:=Nat.div_mul_le_self U Y1
  have hr2:U - U / Y1*Y1<Y1:=by
   have:=Nat.div_add_mod U Y1;have:=Nat.mod_lt U (show 0<Y1 by omega);rw [Nat.mul_comm] at hr1 ⊢;omega
  have hR:IntKind.u64.wrap ((U:Int) - IntKind.u64.wrap (((U / Y1:Nat):Int)*(Y1:Int)))=((U - U / Y1*Y1:Nat):Int):=by
   rw [← Int.natCast_mul,IntKind.wrap_u64,IntKind.wrap_u64];omega
  obtain ⟨q,eq⟩:∃ q,U / Y1=q:=⟨_,rfl⟩;obtain ⟨r,er⟩:∃ r,U - U / Y1*Y1=r:=⟨_,rfl⟩;rw [er,eq] at hst hR;rw [eq] at hQ;rw [er] at hr2;have e3':=e3;have HST:=zh hst;have HNB:=zh hNB;have HB1:Hid (Wds Y1 Y0 L1 L0):=zh b1;have hz:¬ (Y1:Int)=0:=by omega
  have HUY:=zh hUY;have Fb:=zh hYY;clear hNB y64 an9 hst hN hlt hAY hyd e1 e2 e3 hr1 er eq b1 hUY hYY eY1 eY0 eL1 eL0 eU eL' eY eA eB eL hYp;go_enter Tryz.func178,Tryz.ntmps178
  go_wp2_with fail
  refine (LZ.out _).mono ?_;rintro e w' ⟨rfl,rfl⟩;go_wp2_with fail
  have RL1:Hid (r<4294967296):=zh (by have:=HB1.out.2.1;omega);have YF:=zh e3';have ST1:=HST;have yw:=zh (Below.refl w'.heap.size w');clear hr2 HST
  go_loopw [15,16] (fun qv rv wr=>∃ q r:Nat,qv= .int .u64 (q:Int)∧rv= .int .u64 (r:Int)∧Hid (LG 4294967296 Y1 Y0 U L1 q r)∧Hid (r<4294967296)∧Hid (Below w'.heap.size w' wr)) (fun qv _ _=>(intOf qv).toNat)
  case atStart=>exact ⟨q,r,rfl,rfl,ST1,RL1,yw⟩
  case round =>
   clear ST1 RL1 yw;obtain ⟨q,r,rfl,rfl,HST,HRL,yw⟩:=hrel;have HT:=zh (vB HST.out HRL.out HB1.out (by rw [Fb.out];exact HUY.out) HB1.out.2.2.2.1)
   rcases Nat.lt_or_ge q 4294967296 with h1|h1
   ·have g1:decide ((4294967296:Int)≤(q:Int))=false:=decide_eq_false zo;obtain ⟨T,V,Ol,HE2,m1,m2⟩:=vL h1 HRL.out HB1.out HB1.out.2.2.2.1;clear h1
    rcases Nat.lt_or_ge V T with h2|h2
    ·have g2:(V:Int)<(T:Int):=by omega
     obtain ⟨q',r',HD,HL,w1,w2⟩:=HT.out (.inr (by rw [Ol.out,HE2.out];exact h2));clear h2
     rcases Nat.lt_or_ge r' 4294967296 with h3|h3
     ·have g3:decide ((4294967296:Int)≤(r':Int))=false:=decide_eq_false zo;have UH:=zh h3;clear h3;go_wp2_with fail
      go_roundw
      case rel=>exact ⟨q',r',rfl,rfl,HD,UH,yw⟩
      case measure=>have:=HL.out;simp [intOf];omega
     ·have g3:decide ((4294967296:Int)≤(r':Int))=true:=decide_eq_true zo;have HQ:=zh (HD.out.brk (Nat.lt_of_lt_of_le zo HB1.out.1) zo HB1.out.2.2.1 ((by rw [Fb.out];exact HUY.out)) h3);clear h3;obtain ⟨W,q0,r0,HW,HWY,x1,x2,x3,RL2,HDS⟩:=vE HQ.out Fb.out HB1.out HUY.out YF.out;have Yn:=HQ;have ST2:=zh (HDS.out L0 HB1.out.2.2.2.2);clear HQ HDS;go_wp2_with fail
      go_loopw [18,16] (fun qv rv wr=>∃ q r:Nat,qv= .int .u64 (q:Int)∧rv= .int .u64 (r:Int)∧Hid (LG 4294967296 Y1 Y0 W L0 q r)∧Hid (r<4294967296)∧Hid (Below w'.heap.size w' wr)) (fun qv _ _=>(intOf qv).toNat)
      case atStart=>exact ⟨q0,r0,rfl,rfl,ST2,RL2,yw⟩
      case round =>
       clear ST2 RL2 yw;obtain ⟨q,r,rfl,rfl,HST,HRL,yw⟩:=hrel;have HT:=zh (vB HST.out HRL.out HB1.out (by rw [Fb.out];exact HWY.out) HB1.out.2.2.2.2)
       rcases Nat.lt_or_ge q 4294967296 with h1|h1
       ·have g1:decide ((4294967296:Int)≤(q:Int))=false:=decide_eq_false zo;obtain ⟨T,V,Ol,HE2,m1,m2⟩:=vL h1 HRL.out HB1.out HB1.out.2.2.2.2;clear h1
        rcases Nat.lt_or_ge V T with h2|h2
        ·have g2:(V:Int)<(T:Int):=by omega
         obtain ⟨q',r',HD,HL,w1,w2⟩:=HT.out (.inr (by rw [Ol.out,HE2.out];exact h2));clear h2
         rcases Nat.lt_or_ge r' 4294967296 with h3|h3
         ·have g3:decide ((4294967296:Int)≤(r':Int))=false:=decide_eq_false zo;have UH:=zh h3;clear h3;go_wp2_with fail
          go_roundw
          case rel=>exact ⟨q',r',rfl,rfl,HD,UH,yw⟩
          case measure=>have:=HL.out;simp [intOf];omega
         ·have g3:decide ((4294967296:Int)≤(r':Int))=true:=decide_eq_true zo;have HQ:=zh (HD.out.brk (Nat.lt_of_lt_of_le zo HB1.out.1) zo HB1.out.2.2.1 ((by rw [Fb.out];exact HWY.out)) h3);clear h3;have HE:=zh (kY Yn.out HQ.out HW.out HB1.out Fb.out YF.out HNB.out);have e1:=HE.out.1;have e2:=HE.out.2;go_wp2_with fail
          go_ret2
          exact ⟨by simp,yw.out⟩
        ·have g2:¬ (V:Int)<(T:Int):=by omega
         have HQ:=zh (HST.out.stop (Nat.lt_of_lt_of_le zo HB1.out.1) zo (by rw [Ol.out,HE2.out];exact h2));clear h2;have HE:=zh (kY Yn.out HQ.out HW.out HB1.out Fb.out YF.out HNB.out);have e1:=HE.out.1;have e2:=HE.out.2;go_wp2_with fail
         go_ret2
         exact ⟨by simp,yw.out⟩
       ·have g1:decide ((4294967296:Int)≤(q:Int))=true:=decide_eq_true zo;obtain ⟨q',r',HD,HL,w1,w2⟩:=HT.out (.inl h1);clear h1
        rcases Nat.lt_or_ge r' 4294967296 with h3|h3
        ·have g3:decide ((4294967296:Int)≤(r':Int))=false:=decide_eq_false zo;have UH:=zh h3;clear h3;go_wp2_with fail
         go_roundw
         case rel=>exact ⟨q',r',rfl,rfl,HD,UH,yw⟩
         case measure=>have:=HL.out;simp [intOf];omega
        ·have g3:decide ((4294967296:Int)≤(r':Int))=true:=decide_eq_true zo;have HQ:=zh (HD.out.brk (Nat.lt_of_lt_of_le zo HB1.out.1) zo HB1.out.2.2.1 ((by rw [Fb.out];exact HWY.out)) h3);clear h3;have HE:=zh (kY Yn.out HQ.out HW.out HB1.out Fb.out YF.out HNB.out);have e1:=HE.out.1;have e2:=HE.out.2;go_wp2_with fail
         go_ret2
         exact ⟨by simp,yw.out⟩
    ·have g2:¬ (V:Int)<(T:Int):=by omega
     have HQ:=zh (HST.out.stop (Nat.lt_of_lt_of_le zo HB1.out.1) zo (by rw [Ol.out,HE2.out];exact h2));clear h2;obtain ⟨W,q0,r0,HW,HWY,x1,x2,x3,RL2,HDS⟩:=vE HQ.out Fb.out HB1.out HUY.out YF.out;have Yn:=HQ;have ST2:=zh (HDS.out L0 HB1.out.2.2.2.2);clear HQ HDS;go_wp2_with fail
     go_loopw [18,16] (fun qv rv wr=>∃ q r:Nat,qv= .int .u64 (q:Int)∧rv= .int .u64 (r:Int)∧Hid (LG 4294967296 Y1 Y0 W L0 q r)∧Hid (r<4294967296)∧Hid (Below w'.heap.size w' wr)) (fun qv _ _=>(intOf qv).toNat)
     case atStart=>exact ⟨q0,r0,rfl,rfl,ST2,RL2,yw⟩
     case round =>
      clear ST2 RL2 yw;obtain ⟨q,r,rfl,rfl,HST,HRL,yw⟩:=hrel;have HT:=zh (vB HST.out HRL.out HB1.out (by rw [Fb.out];exact HWY.out) HB1.out.2.2.2.2)
      rcases Nat.lt_or_ge q 4294967296 with h1|h1
      ·have g1:decide ((4294967296:Int)≤(q:Int))=false:=decide_eq_false zo;obtain ⟨T,V,Ol,HE2,m1,m2⟩:=vL h1 HRL.out HB1.out HB1.out.2.2.2.2;clear h1
       rcases Nat.lt_or_ge V T with h2|h2
       ·have g2:(V:Int)<(T:Int):=by omega
        obtain ⟨q',r',HD,HL,w1,w2⟩:=HT.out (.inr (by rw [Ol.out,HE2.out];exact h2));clear h2
        rcases Nat.lt_or_ge r' 4294967296 with h3|h3
        ·have g3:decide ((4294967296:Int)≤(r':Int))=false:=decide_eq_false zo;have UH:=zh h3;clear h3;go_wp2_with fail
         go_roundw
         case rel=>exact ⟨q',r',rfl,rfl,HD,UH,yw⟩
         case measure=>have:=HL.out;simp [intOf];omega
        ·have g3:decide ((4294967296:Int)≤(r':Int))=true:=decide_eq_true zo;have HQ:=zh (HD.out.brk (Nat.lt_of_lt_of_le zo HB1.out.1) zo HB1.out.2.2.1 ((by rw [Fb.out];exact HWY.out)) h3);clear h3;have HE:=zh (kY Yn.out HQ.out HW.out HB1.out Fb.out YF.out HNB.out);have e1:=HE.out.1;have e2:=HE.out.2;go_wp2_with fail
         go_ret2
         exact ⟨by simp,yw.out⟩
       ·have g2:¬ (V:Int)<(T:Int):=by omega
        have HQ:=zh (HST.out.stop (Nat.lt_of_lt_of_le zo HB1.out.1) zo (by rw [Ol.out,HE2.out];exact h2));clear h2;have HE:=zh (kY Yn.out HQ.out HW.out HB1.out Fb.out YF.out HNB.out);have e1:=HE.out.1;have e2:=HE.out.2;go_wp2_with fail
        go_ret2
        exact ⟨by simp,yw.out⟩
      ·have g1:decide ((4294967296:Int)≤(q:Int))=true:=decide_eq_true zo;obtain ⟨q',r',HD,HL,w1,w2⟩:=HT.out (.inl h1);clear h1
       rcases Nat.lt_or_ge r' 4294967296 with h3|h3
       ·have g3:decide ((4294967296:Int)≤(r':Int))=false:=decide_eq_false zo;have UH:=zh h3;clear h3;go_wp2_with fail
        go_roundw
        case rel=>exact ⟨q',r',rfl,rfl,HD,UH,yw⟩
        case measure=>have:=HL.out;simp [intOf];omega
       ·have g3:decide ((4294967296:Int)≤(r':Int))=true:=decide_eq_true zo;have HQ:=zh (HD.out.brk (Nat.lt_of_lt_of_le zo HB1.out.1) zo HB1.out.2.2.1 ((by rw [Fb.out];exact HWY.out)) h3);clear h3;have HE:=zh (kY Yn.out HQ.out HW.out HB1.out Fb.out YF.out HNB.out);have e1:=HE.out.1;have e2:=HE.out.2;go_wp2_with fail
        go_ret2
        exact ⟨by simp,yw.out⟩
   ·have g1:decide ((4294967296:Int)≤(q:Int))=true:=decide_eq_true zo;obtain ⟨q',r',HD,HL,w1,w2⟩:=HT.out (.inl h1);clear h1
    rcases Nat.lt_or_ge r' 4294967296 with h3|h3
    ·have g3:decide ((4294967296:Int)≤(r':Int))=false:=decide_eq_false zo;have UH:=zh h3;clear h3;go_wp2_with fail
     go_roundw
     case rel=>exact ⟨q',r',rfl,rfl,HD,UH,yw⟩
     case measure=>have:=HL.out;simp [intOf];omega
    ·have g3:decide ((4294967296:Int)≤(r':Int))=true:=decide_eq_true zo;have HQ:=zh (HD.out.brk (Nat.lt_of_lt_of_le zo HB1.out.1) zo HB1.out.2.2.1 ((by rw [Fb.out];exact HUY.out)) h3);clear h3;obtain ⟨W,q0,r0,HW,HWY,x1,x2,x3,RL2,HDS⟩:=vE HQ.out Fb.out HB1.out HUY.out YF.out;have Yn:=HQ;have ST2:=zh (HDS.out L0 HB1.out.2.2.2.2);clear HQ HDS;go_wp2_with fail
     go_loopw [18,16] (fun qv rv wr=>∃ q r:Nat,qv= .int .u64 (q:Int)∧rv= .int .u64 (r:Int)∧Hid (LG 4294967296 Y1 Y0 W L0 q r)∧Hid (r<4294967296)∧Hid (Below w'.heap.size w' wr)) (fun qv _ _=>(intOf qv).toNat)
     case atStart=>exact ⟨q0,r0,rfl,rfl,ST2,RL2,yw⟩
     case round =>
      clear ST2 RL2 yw;obtain ⟨q,r,rfl,rfl,HST,HRL,yw⟩:=hrel;have HT:=zh (vB HST.out HRL.out HB1.out (by rw [Fb.out];exact HWY.out) HB1.out.2.2.2.2)
      rcases Nat.lt_or_ge q 4294967296 with h1|h1
      ·have g1:decide ((4294967296:Int)≤(q:Int))=false:=decide_eq_false zo;obtain ⟨T,V,Ol,HE2,m1,m2⟩:=vL h1 HRL.out HB1.out HB1.out.2.2.2.2;clear h1
       rcases Nat.lt_or_ge V T with h2|h2
       ·have g2:(V:Int)<(T:Int):=by omega
        obtain ⟨q',r',HD,HL,w1,w2⟩:=HT.out (.inr (by rw [Ol.out,HE2.out];exact h2));clear h2
        rcases Nat.lt_or_ge r' 4294967296 with h3|h3
        ·have g3:decide ((4294967296:Int)≤(r':Int))=false:=decide_eq_false zo;have UH:=zh h3;clear h3;go_wp2_with fail
         go_roundw
         case rel=>exact ⟨q',r',rfl,rfl,HD,UH,yw⟩
         case measure=>have:=HL.out;simp [intOf];omega
        ·have g3:decide ((4294967296:Int)≤(r':Int))=true:=decide_eq_true zo;have HQ:=zh (HD.out.brk (Nat.lt_of_lt_of_le zo HB1.out.1) zo HB1.out.2.2.1 ((by rw [Fb.out];exact HWY.out)) h3);clear h3;have HE:=zh (kY Yn.out HQ.out HW.out HB1.out Fb.out YF.out HNB.out);have e1:=HE.out.1;have e2:=HE.out.2;go_wp2_with fail
         go_ret2
         exact ⟨by simp,yw.out⟩
       ·have g2:¬ (V:Int)<(T:Int):=by omega
        have HQ:=zh (HST.out.stop (Nat.lt_of_lt_of_le zo HB1.out.1) zo (by rw [Ol.out,HE2.out];exact h2));clear h2;have HE:=zh (kY Yn.out HQ.out HW.out HB1.out Fb.out YF.out HNB.out);have e1:=HE.out.1;have e2:=HE.out.2;go_wp2_with fail
        go_ret2
        exact ⟨by simp,yw.out⟩
      ·have g1:decide ((4294967296:Int)≤(q:Int))=true:=decide_eq_true zo;obtain ⟨q',r',HD,HL,w1,w2⟩:=HT.out (.inl h1);clear h1
       rcases Nat.lt_or_ge r' 4294967296 with h3|h3
       ·have g3:decide ((4294967296:Int)≤(r':Int))=false:=decide_eq_false zo;have UH:=zh h3;clear h3;go_wp2_with fail
        go_roundw
        case rel=>exact ⟨q',r',rfl,rfl,HD,UH,yw⟩
        case measure=>have:=HL.out;simp [intOf];omega
       ·have g3:decide ((4294967296:Int)≤(r':Int))=true:=decide_eq_true zo;have HQ:=zh (HD.out.brk (Nat.lt_of_lt_of_le zo HB1.out.1) zo HB1.out.2.2.1 ((by rw [Fb.out];exact HWY.out)) h3);clear h3;have HE:=zh (kY Yn.out HQ.out HW.out HB1.out Fb.out YF.out HNB.out);have e1:=HE.out.1;have e2:=HE.out.2;go_wp2_with fail
        go_ret2
        exact ⟨by simp,yw.out⟩
end Go.Proofs.bits
namespace Go
theorem om {P:Program} {b:Frame} {a:Act} {k:List Item} {cs:List Frame} {w:World} {c:Code}:step P (lone (b.atR a (.code (.scope c)::k)) cs w)= .next (lone (b.atR a (.code c:: .inScope c::k)) cs w) :=
 step_lone_go (by simp [stepG,stepG.exec,Frame.atR])
theorem JF {P:Program} {b:Frame} {a:Act} {k:List Item} {cs:List Frame} {w:World} {c:Code}:step P (lone (b.atR a (.inScope c::k)) cs w)= .next (lone (b.atR a k) cs w) :=
 step_lone_go (by simp [stepG,stepG.exec,Frame.atR])
theorem Rq {F:Fence} {n:Nat} {P:Program} {Q:Exit→Act→World→Prop} {a:Act} {w:World} {c:Code} (h:c.wpIn F n P (Exit.noGoto Q) a w):(Code.scope c).wpIn F n P Q a w:=by
 intro b k cs hro hb hr;have h0:(lone (b.atR a (.code (.scope c)::k)) cs w).fenced P F:=fenced_calm hb hr rfl;obtain ⟨e,a₁,w₁,hq,harr⟩:=h b (.inScope c::k) cs hro hb hr;cases e with
 | normal=>exact ⟨.normal,a₁,w₁,hq,.head h0 om (StepsIn.trans harr (.one (fenced_calm hb hr rfl) JF))⟩
 | exit id =>
  have hx:exitTo id (.inScope c::k)=exitTo id k:=by simp [exitTo]
  exact ⟨.exit id,a₁,w₁,hq,fun k' hk=>.head h0 om (harr.1 k' (by rw [hx];exact hk)),
   fun hr' hk=>let ⟨k₁,h1,h2⟩:=harr.2 hr' (by rw [hx];exact hk);⟨k₁,h1,.head h0 om h2⟩⟩
 | goto l=>exact hq.elim
 | ret=>exact ⟨_,a₁,w₁,hq,.of_steps (.one h0 om) harr⟩
 | panic ch=>exact ⟨_,a₁,w₁,hq,.of_steps (.one h0 om) harr⟩
 | outgrown=>exact ⟨_,a₁,w₁,hq,.of_steps (.one h0 om) harr⟩
end Go
namespace Go.Proofs.aQ
open Go Go.RowKit Go.SW Go.Num Go.Mem Go.Proofs Go.jQ
theorem aL3 (b c:Nat) (zs:List Int) (z0:Int) (h0:zs[0]? =some z0) (arr:Array Value) (T:TypeId) (w:World) (hx:ah w b arr T) (hc:∀ j (h:j<zs.length),arr[j]? =some (.int .i64 zs[j])) (hl:zs.length≤9223372036854775807) :
  Calls Tryz.prog 243 #[.slice (some ⟨b,0,none⟩) zs.length c] w (fun e w'=>e= .returned (.int .i64 (zs.foldl min z0))∧Below w.heap.size w w'):=by
 have hn:0<zs.length:=by
  rcases Nat.eq_zero_or_pos zs.length with h|h
  ·rw [List.getElem?_eq_none zo] at h0;cases h0
  ·exact h
 have hz0:zs[0]=z0:=by
  rw [List.getElem?_eq_getElem hn] at h0;exact Option.some.inj h0
 have h00:w.cell? ⟨b,0,none⟩=some (.int .i64 z0):=by
  rw [hx.cell,hc 0 hn,hz0]
 have lb:=hx.lt;have g1:decide ((zs.length:Int)<1)=false:=by simp;omega
 have HX:=zh hx;have HC:=zh hc;clear hx hc;go_enter Tryz.func243,Tryz.ntmps243
 go_wp2_with fail
 go_loopw [3,4] (fun m i wr=>∃ k:Nat,0<k∧k≤zs.length∧i= .int .i64 (k:Int)∧m= .int .i64 ((zs.take k).foldl min z0)∧Below w.heap.size w wr) (fun _ i _=>zs.length - (intOf i).toNat)
 case atStart =>
  refine ⟨1,by omega,hn,rfl,?_,Below.refl _ _⟩;cases zs with
  | nil=>simp at hn
  | cons x t =>
   simp only [List.getElem_cons_zero] at hz0;subst hz0;simp
 case round =>
  obtain ⟨k,hk0,hk,rfl,rfl,hb⟩:=hrel
  by_cases hlt:k<zs.length
  ·have hcell:=((HX.out.later hb).cell k).trans (HC.out k hlt)
   have hstep:(zs.take (k+1)).foldl min z0=min ((zs.take k).foldl min z0) zs[k]:=by
    rw [List.take_succ_eq_append_getElem hlt,List.foldl_append];rfl
   have HS:=zh hstep;clear hstep;generalize zs[k]=zk at *;generalize (zs.take k).foldl min z0=mk at *;go_wp2_with fail
   go_roundw
   case rel=>exact ⟨k+1,by omega,by omega,by go_num,by rw [HS.out]<;>go_num,hb⟩
   case measure=>exact zM
  ·obtain rfl:k=zs.length:=by omega
   rw [List.take_length];go_wp2_with fail
   go_ret
   exact ⟨rfl,hb⟩
theorem ZR (b c:Nat) (zs:List Int) (z0:Int) (h0:zs[0]? =some z0) (arr:Array Value) (T:TypeId) (w:World) (hx:ah w b arr T) (hc:∀ j (h:j<zs.length),arr[j]? =some (.int .i64 zs[j])) (hl:zs.length≤9223372036854775807) :
  Calls Tryz.prog 179 #[.slice (some ⟨b,0,none⟩) zs.length c] w (fun e w'=>e= .returned (.int .i64 (zs.foldl min z0))∧Below w.heap.size w w'):=by
 have H:=zh (aL3 b c zs z0 h0 arr T w hx hc hl);clear h0 hx hc hl;generalize zs.length=n at *;generalize zs.foldl min z0=z at *;go_enter Tryz.func179,Tryz.ntmps179
 go_wp2_with fail
 refine H.out.mono ?_;rintro e w1 ⟨rfl,hb1⟩;go_wp2_with fail
 go_ret
 exact ⟨rfl,hb1⟩
theorem MC (x:Int) (h1: -9223372036854775808<x) (h2:x<9223372036854775808) (w:World):Calls Tryz.prog 177 #[.int .i64 x] w (fun e w'=>e= .returned (.int .u64 (x.natAbs:Int))∧Below w.heap.size w w'):=by
 by_cases h:x<0
 ·have e:IntKind.u64.wrap (IntKind.i64.wrap (-x))=(x.natAbs:Int):=by rw [IntKind.wrap_i64,IntKind.wrap_u64];omega
  go_enter Tryz.func177,Tryz.ntmps177
  go_wp2_with fail
  go_ret
  refine ⟨?_,Below.refl _ _⟩
  show Ending.returned (.int .u64 (-x))=_
  rw [show -x=(x.natAbs:Int) by omega]
 ·have e:IntKind.u64.wrap x=(x.natAbs:Int):=by rw [IntKind.wrap_u64];omega
  go_enter Tryz.func177,Tryz.ntmps177
  go_wp2_with fail
  go_ret
  exact ⟨rfl,Below.refl _ _⟩
def uh (P d:Nat) (b neg:Bool):Int × Bool:=if vZ P d b≤1000000000000000000 then (kM (vZ P d b) neg,true) else (0,false)
theorem Zp {P d:Nat} {b neg:Bool} (h:1000000000000000000<P / d):uh P d b neg=(0,false):=by
 unfold uh vZ;generalize P / d=q at *;rw [if_neg];split<;>omega
theorem Xf {P d:Nat} {neg:Bool} (hr:0<P%d) (h:1000000000000000000<P / d+1):uh P d true neg=(0,false):=by
 unfold uh vZ;rw [if_pos (⟨hr,rfl⟩:0<P%d∧true=true),if_neg (by generalize P / d=q at*; omega)]
theorem al9 {P d:Nat} {neg:Bool} (hr:0<P%d) (h:P / d+1≤1000000000000000000):uh P d true neg=(kM (P / d+1) neg,true):=by
 unfold uh vZ;rw [if_pos (⟨hr,rfl⟩:0<P%d∧true=true),if_pos h]
theorem am0 {P d:Nat} {b neg:Bool} (hr:P%d=0∨b=false) (h:P / d≤1000000000000000000):uh P d b neg=(kM (P / d) neg,true):=by
 have hn:¬ (0<P%d∧b=true):=by
  rintro ⟨h1,h2⟩
  rcases hr with h3|h3
  ·omega
  ·rw [h3] at h2;cases h2
 have e:vZ P d b=P / d:=if_neg hn;unfold uh;rw [e,if_pos h]
def pQ (x y d:Int) (up:Bool):Int × Bool:=Bn (if d<0 then -x else x) y d.natAbs up
theorem Xe (d:Nat) (b n1 n2:Bool):uh 0 d b n1=uh 0 d b n2:=by
 have e:vZ 0 d b=0:=by unfold vZ;simp
 unfold uh kM;rw [e];cases n1<;>cases n2<;>rfl
theorem al8 (d:Nat) (b c n:Bool):uh 0 d b n=uh 0 d c n:=by
 have e:∀ b,vZ 0 d b=0:=fun b=>by unfold vZ;simp
 unfold uh;rw [e,e]
theorem Zi (n:Nat):kM n true= -(n:Int):=rfl
theorem Zl (n:Nat):kM n false=(n:Int):=rfl
theorem Zo (x y d:Int) (hd:d≠0) (up:Bool):pQ x y d up=uh (x.natAbs*y.natAbs) d.natAbs (up != ((decide (x<0) != decide (y<0)) != decide (d<0))) ((decide (x<0) != decide (y<0)) != decide (d<0)):=by
 have hd':0<d.natAbs:=by omega
 unfold pQ
 by_cases h:d<0
 ·rw [if_pos h,decide_eq_true h];have e:=OZ (-x) y hd' up;rw [Int.natAbs_neg] at e;refine e.trans ?_
  show uh _ _ _ _=_
  by_cases h0:x=0
  ·subst h0;rw [Int.natAbs_zero,Nat.zero_mul];exact (Xe _ _ _ _).trans (al8 _ _ _ _)
  ·have:decide (-x<0)= !decide (x<0):=by
    by_cases hx:x<0
    ·rw [decide_eq_true hx,decide_eq_false zo];rfl
    ·rw [decide_eq_false hx,decide_eq_true zo];rfl
   rw [this];cases decide (x<0)<;>cases decide (y<0)<;>rfl
 ·rw [if_neg h,decide_eq_false h];refine (OZ x y hd' up).trans ?_;rw [Bool.bne_false];rfl
theorem Gq (x y d:Int) (up:Bool) (hx:x.natAbs≤1000000000000000000) (hy:y.natAbs≤1000000000000000000) (hd:d≠0) (hd2:d.natAbs≤1000000000000000000) (w:World) :
    Calls Tryz.prog 95 #[.int .i64 x,.int .i64 y,.int .i64 d,.bool up] w (fun e w'=>e= .returned (.tuple #[.int .i64 (pQ x y d up).1,.bool (pQ x y d up).2])∧Below w.heap.size w w'):=by
  have S1:=zh (fun W=>MC x zo zo W);have S2:=zh (fun W=>MC y zo zo W);have S3:=zh (fun W=>MC d zo zo W);have hq:=Zo x y d hd up;obtain ⟨nx,ex⟩:∃ b,decide (x<0)=b:=⟨_,rfl⟩;obtain ⟨ny,ey⟩:∃ b,decide (y<0)=b:=⟨_,rfl⟩;obtain ⟨nd,ed⟩:∃ b,decide (d<0)=b:=⟨_,rfl⟩;rw [ex,ey,ed] at hq;obtain ⟨P,eP⟩:∃ P,x.natAbs*y.natAbs=P:=⟨_,rfl⟩;obtain ⟨D,eD⟩:∃ D,d.natAbs=D:=⟨_,rfl⟩;rw [eP,eD] at hq;rw [eD] at S3
  have hP:P<18446744073709551616*18446744073709551616:=by
    rw [← eP]
    calc x.natAbs*y.natAbs≤1000000000000000000*1000000000000000000:=Nat.mul_le_mul hx hy
      _<_:=by decide
  have hD:0<D:=by omega
  have hD2:D≤1000000000000000000:=by omega
  rw [hq]
  have M1:Hid (∀ W,Calls Tryz.prog 176 #[.int .u64 (x.natAbs:Int),.int .u64 (y.natAbs:Int)] W (fun e w'=>e= .returned (.tuple #[.int .u64 ((P / 18446744073709551616:Nat):Int),.int .u64 ((P%18446744073709551616:Nat):Int)])∧Below W.heap.size W w')):=zh fun W=>by
    refine (Tryz.bits_Mul64 x.natAbs y.natAbs zo zo W).mono ?_;rintro e w' ⟨rfl,rfl⟩;rw [eP];exact ⟨rfl,Below.refl _ _⟩
  have hlo:=Nat.mod_lt P (show 0<18446744073709551616 by omega);have Xy:=Nat.div_add_mod P 18446744073709551616
  have D1:Hid (P / 18446744073709551616<D→∀ W,Calls Tryz.prog 178 #[.int .u64 ((P / 18446744073709551616:Nat):Int),.int .u64 ((P%18446744073709551616:Nat):Int),.int .u64 (D:Int)] W (fun e w'=>e= .returned (.tuple #[.int .u64 ((P / D:Nat):Int),.int .u64 ((P%D:Nat):Int)])∧Below W.heap.size W w')):=zh fun hlt W=>by
    have:=bits.ai3 (P / 18446744073709551616) (P%18446744073709551616) D hlt zo hlo W;rw [show P / 18446744073709551616*18446744073709551616+P%18446744073709551616=P by rw [Nat.mul_comm];exact Xy] at this;exact this
  have hbig:D≤P / 18446744073709551616→18446744073709551616≤P / D:=fun h=>by
    rw [Nat.le_div_iff_mul_le hD];have:=Nat.mul_le_mul_left 18446744073709551616 h;omega
  obtain ⟨hi,ehi⟩:∃ a,P / 18446744073709551616=a:=⟨_,rfl⟩;obtain ⟨lo,elo⟩:∃ a,P%18446744073709551616=a:=⟨_,rfl⟩;rw [ehi,elo] at M1 D1;rw [ehi] at hbig;have HBG:=zh hbig;clear hx hy hd hd2 hq eP eD hP hlo Xy ehi elo hbig hD hD2;obtain ⟨q,eq⟩:∃ a,P / D=a:=⟨_,rfl⟩;obtain ⟨r,er⟩:∃ a,P%D=a:=⟨_,rfl⟩;rw [eq,er] at D1;rw [eq] at HBG;have Q1:Hid (∀ b neg,1000000000000000000<q→uh P D b neg=(0,false)):=zh fun b neg h=>Zp (by rw [eq];exact h);have Q2:Hid (∀ neg,0<r→1000000000000000000<q+1→uh P D true neg=(0,false)):=zh fun neg h1 h2=>Xf (by rw [er];exact h1) (by rw [eq];exact h2);have Q3:Hid (∀ neg,0<r→q+1≤1000000000000000000→uh P D true neg=(kM (q+1) neg,true)):=zh fun neg h1 h2=>by rw [al9 (by rw [er];exact h1) (by rw [eq];exact h2),eq]
  have Q4:Hid (∀ b neg,(r=0∨b=false)→q≤1000000000000000000→uh P D b neg=(kM q neg,true)):=zh fun b neg h1 h2=>by rw [am0 (by rw [er];exact h1) (by rw [eq];exact h2),eq]
  clear eq er;generalize uh P D=QR at *;obtain ⟨ng,hn⟩:∃ b,((nx != ny) != nd)=b:=⟨_,rfl⟩;rw [hn];obtain ⟨bb,hb0⟩:∃ b,(up != ng)=b:=⟨_,rfl⟩;rw [hb0];obtain ⟨⟨z1,z2⟩,hz⟩:∃ z,QR bb ng=z:=⟨_,rfl⟩;rw [hz];have HZ:=zh hz;clear hz;simp only;cases bb<;>cases nx<;>cases ny<;>cases nd<;>cases up
  all_goals first|(obtain rfl:true=ng:=hn)|(obtain rfl:false=ng:=hn)
  all_goals first|(exfalso;revert hb0;decide)|skip
  all_goals
    clear hb0;go_enter Tryz.func95,Tryz.ntmps95
    go_wp2_with fail
    refine (S1.out _).mono ?_;rintro e w1 ⟨rfl,hb⟩;have HB:=zh hb;clear hb;go_wp2_with fail
    refine (S2.out _).mono ?_;rintro e w2 ⟨rfl,hb⟩;replace HB:=zh (Bt HB.out hb);clear hb;go_wp2_with fail
    refine (M1.out _).mono ?_;rintro e w3 ⟨rfl,hb⟩;replace HB:=zh (Bt HB.out hb);clear hb;go_wp2_with fail
    refine (S3.out _).mono ?_;rintro e w4 ⟨rfl,hb⟩;replace HB:=zh (Bt HB.out hb);clear hb
    rcases Nat.lt_or_ge hi D with c1|c1
    rotate_left
    · have g1:decide (D≤hi)=true:=decide_eq_true zo
      have g1':D≤hi:=c1;obtain ⟨rfl,rfl⟩:z1=0∧z2=false:=by have h:=HZ.out;rw [Q1.out _ _ (by have:=HBG.out c1;omega)] at h;cases h;exact ⟨rfl,rfl⟩
      clear c1 Q1 Q2 Q3 Q4 ex ey ed;go_wp2_with fail
      go_ret2
      exact ⟨rfl,HB.out⟩
    have g1:decide (D≤hi)=false:=decide_eq_false zo;have g1':¬ D≤hi:=by omega
    have D2:=zh (D1.out c1);clear c1 ex ey ed;go_wp2_with fail
    refine (S3.out _).mono ?_;rintro e w5 ⟨rfl,hb⟩;replace HB:=zh (Bt HB.out hb);clear hb;go_wp2_with fail
    refine (D2.out _).mono ?_;rintro e w6 ⟨rfl,hb⟩;replace HB:=zh (Bt HB.out hb);clear hb g1 g1' D1 D2
    rcases Nat.lt_or_ge 1000000000000000000 q with c2|c2
    · have g2:decide ((1000000000000000000:Int)<(q:Int))=true:=decide_eq_true zo
      obtain ⟨rfl,rfl⟩:z1=0∧z2=false:=by have h:=HZ.out;rw [Q1.out _ _ c2] at h;cases h;exact ⟨rfl,rfl⟩
      have C2:=zh c2;clear c2 Q1 Q2 Q3 Q4;go_wp2_with fail
      go_ret2
      exact ⟨rfl,HB.out⟩
    have g2:decide ((1000000000000000000:Int)<(q:Int))=false:=decide_eq_false zo;have w1:IntKind.i64.wrap (q:Int)=(q:Int):=by rw [IntKind.wrap_i64];omega
    have w2:IntKind.i64.wrap (-(q:Int))= -(q:Int):=by rw [IntKind.wrap_i64];omega
    have w3:IntKind.u64.wrap ((q:Int)+1)=((q+1:Nat):Int):=by rw [IntKind.wrap_u64];omega
    rcases Nat.eq_zero_or_pos r with c3|c3
    · subst c3
      have h:=HZ.out;rw [Q4.out _ _ (.inl rfl) c2] at h
      first|rw [Zi] at h|rw [Zl] at h
      cases h
      have C2:=zh c2;clear c2 Q1 Q2 Q3 Q4 w3;go_wp2_with fail
      go_ret2
      exact ⟨rfl,HB.out⟩
    have g3:(0:Int)<(r:Int):=by omega
    first
      | (have h:=HZ.out
         rw [Q4.out false _ (Or.inr rfl) c2] at h
         first|rw [Zi] at h|rw [Zl] at h
         cases h
         have C2:=zh (And.intro c2 c3);clear c2 c3 Q1 Q2 Q3 Q4 w3;go_wp2_with fail
         go_ret2
         exact ⟨rfl,HB.out⟩)
      | (obtain ⟨q',eq'⟩:∃ a,q+1=a:=⟨_,rfl⟩
         rw [eq'] at w3 Q2 Q3
         rcases Nat.lt_or_ge 1000000000000000000 q' with c4|c4
         · have g4:decide ((1000000000000000000:Int)<(q':Int))=true:=decide_eq_true zo
           obtain ⟨rfl,rfl⟩:z1=0∧z2=false:=by have h:=HZ.out;rw [Q2.out _ c3 c4] at h;cases h;exact ⟨rfl,rfl⟩
           have C2:=zh (And.intro c2 (And.intro c3 (And.intro c4 eq')));clear c2 c3 c4 eq' Q1 Q2 Q3 Q4 w1 w2;go_wp2_with fail
           go_ret2
           exact ⟨rfl,HB.out⟩
         · have g4:decide ((1000000000000000000:Int)<(q':Int))=false:=decide_eq_false zo
           have w1':IntKind.i64.wrap (q':Int)=(q':Int):=by rw [IntKind.wrap_i64];omega
           have w2':IntKind.i64.wrap (-(q':Int))= -(q':Int):=by rw [IntKind.wrap_i64];omega
           have h:=HZ.out;rw [Q3.out _ c3 c4] at h
           first|rw [Zi] at h|rw [Zl] at h
           cases h
           have C2:=zh (And.intro c2 (And.intro c3 (And.intro c4 eq')));clear c2 c3 c4 eq' Q1 Q2 Q3 Q4 w1 w2;go_wp2_with fail
           go_ret2
           exact ⟨rfl,HB.out⟩)
theorem Zn (x y:Int) {d:Nat} (up:Bool):pQ x y (d:Int) up=Bn x y d up:=by
 unfold pQ;rw [if_neg zo,Int.natAbs_natCast]
theorem OY (x y:Int) (d:Nat) (up:Bool) (hx:x.natAbs≤1000000000000000000) (hy:y.natAbs≤1000000000000000000) (hd:0<d) (hd2:d≤1000000000000000000) (w:World) :
  Calls Tryz.prog 95 #[.int .i64 x,.int .i64 y,.int .i64 (d:Int),.bool up] w (fun e w'=>e= .returned (.tuple #[.int .i64 (Bn x y d up).1,.bool (Bn x y d up).2])∧Below w.heap.size w w'):=by
 have h:=Gq x y (d:Int) up hx hy zo zo w;rw [Zn] at h;exact h
theorem av2 (x y:Int) (up:Bool) (hx:x.natAbs≤1000000000000000000) (hy:y.natAbs≤1000000000000000000) (w:World) :
  Calls Tryz.prog 101 #[.int .i64 x,.int .i64 y,.bool up] w (fun e w'=>e= .returned (.tuple #[.int .i64 (Bn x y 1000000000000 up).1,.bool (Bn x y 1000000000000 up).2])∧Below w.heap.size w w'):=by
 have H:=zh (fun W=>OY x y 1000000000000 up hx hy zo zo W);generalize Bn x y 1000000000000 up=z at *;obtain ⟨z1,z2⟩:=z;simp only at *;go_enter Tryz.func101,Tryz.ntmps101
 go_wp2_with fail
 refine (H.out _).mono ?_;rintro e w1 ⟨rfl,hb⟩;go_wp2_with fail
 go_ret2
 exact ⟨rfl,hb⟩
end Go.Proofs.aQ
