/- Lemmas for the proof. No condition. -/
import Derived.Test.YtddblpggomphpaaGreatDoorXB01
import Derived.Test.YtddblpggomphpaaGreatDoorProg
import Derived.Laws.MakeOwn
import Derived.RangeFuncBox
import Derived.RangeFuncCalls
import Derived.OrdersIn
import Derived.ChangeKeysEq
import Derived.KernelRfl
set_option linter.unusedVariables false
set_option linter.unusedSimpArgs false
set_option maxRecDepth 100000
set_option maxHeartbeats 16000000
namespace Go.Num
theorem nZ {B:Nat} {v:List Nat} {k:Nat} (hv:v.length=k+2):val B v=val B (v.take k)+B^k*(v.getD k 0+B*v.getD (k+1) 0):=by
 have h1:=bK B (l:=v) (k:=k) zo
 have h2:=bK B (l:=v) (k:=k+1) zo
 rw [show k+1+1=v.length by omega,List.take_length] at h2
 rw [h2,h1,Nat.mul_add,Nat.pow_succ,Nat.mul_assoc,Nat.add_assoc]
theorem vE {B:Nat} {u:List Nat} {k:Nat} (hu:u.length=k+3):val B u=val B (u.take k)+B^k*(u.getD k 0+B*(u.getD (k+1) 0+B*u.getD (k+2) 0)):=by
 have h1:=bK B (l:=u) (k:=k) zo
 have h2:=bK B (l:=u) (k:=k+1) zo
 have h3:=bK B (l:=u) (k:=k+2) zo
 rw [show k+2+1=u.length by omega,List.take_length] at h3
 rw [h3,h2,h1]
 simp only [Nat.mul_add,Nat.pow_succ,Nat.mul_assoc]
 omega
structure JQ (B U V top head q r:Nat):Prop where
 split:q*top+r=head
 high:U / V≤q
 bound:q≤B+1
section
variable {B:Nat} {u v:List Nat} {k:Nat}
theorem I5 (hB:1<B) (hu:u.length=k+3) (hv:v.length=k+2) (du:dI B u) (ht:B≤2*v.getD (k+1) 0) (hlt:val B u<val B v*B) (dv:dI B v) :
  JQ B (val B u) (val B v) (v.getD (k+1) 0) (u.getD (k+2) 0*B+u.getD (k+1) 0) ((u.getD (k+2) 0*B+u.getD (k+1) 0) / v.getD (k+1) 0) ((u.getD (k+2) 0*B+u.getD (k+1) 0)%v.getD (k+1) 0):=by
 have eu:=vE (B:=B) hu
 have ev:=nZ (B:=B) hv
 have lu:=fU zo (du.take k)
 have lv:=fU zo (dv.take k)
 rw [show (u.take k).length=k by simp;omega] at lu
 rw [show (v.take k).length=k by simp;omega] at lv
 have d0:=du.getD zo k
 have d1:=du.getD zo (k+1)
 have f0:=dv.getD zo k
 generalize u.getD k 0=u2 at *
 generalize u.getD (k+1) 0=u1 at *
 generalize u.getD (k+2) 0=un at *
 generalize v.getD k 0=v2 at *
 generalize v.getD (k+1) 0=top at *
 generalize val B (u.take k)=a at *
 generalize val B (v.take k)=b at *
 have hp:0<B^k:=Nat.pow_pos zo
 generalize B^k=p at *
 have htop:0<top:=by omega
 have hV:0<val B v:=by
  rw [ev]
  have:0<p*(v2+B*top):=Nat.mul_pos hp (by have:=Nat.mul_pos (by omega:0<B) htop;omega)
  omega
 have U0:=Nat.div_add_mod (un*B+u1) top
 have hml:=Nat.mod_lt (un*B+u1) htop
 refine ⟨by rw [Nat.mul_comm];exact U0,?_,?_⟩
 ·rw [← Nat.lt_succ_iff,Nat.div_lt_iff_lt_mul hV,eu,ev]
  generalize (un*B+u1) / top=q at *
  have h1:un*B+u1+1≤(q+1)*top:=by rw [Nat.add_mul,Nat.one_mul,Nat.mul_comm q];omega
  have h2:p*(B*(un*B+u1+1))≤p*(B*((q+1)*top)):=Nat.mul_le_mul_left _ (Nat.mul_le_mul_left _ h1)
  have h3:a+p*(u2+B*(u1+B*un))<p*(B*(un*B+u1+1)):=by
   have:p*(u2+B*(u1+B*un)+1)≤p*(B*(un*B+u1+1)):=Nat.mul_le_mul_left _ (by rw [Nat.mul_add B (un*B+u1),Nat.mul_one,Nat.add_comm u1,Nat.mul_comm B un];omega)
   rw [Nat.mul_add,Nat.mul_one] at this
   omega
  have h4:p*(B*((q+1)*top))≤Nat.succ q*(b+p*(v2+B*top)):=by
   rw [Nat.succ_eq_add_one,show p*(B*((q+1)*top))=(q+1)*(p*(B*top)) by rw [Nat.mul_left_comm B,Nat.mul_left_comm p]]
   refine Nat.mul_le_mul_left _ ?_
   rw [Nat.mul_add p];omega
  omega
 ·-- the highest digit of u is at most that of v
  have h1:un≤top:=by
   rcases Nat.lt_or_ge top un with h|h
   ·exfalso
    rw [eu,ev] at hlt
    have h2:p*(B*(B*(top+1)))≤p*(B*(B*un)):=Nat.mul_le_mul_left _ (Nat.mul_le_mul_left _ (Nat.mul_le_mul_left _ h))
    have h3:(b+p*(v2+B*top))*B≤p*(B*(B*(top+1))):=by
     have:b+p*(v2+B*top)≤p*(B*(top+1)):=by
      have h5:p*(v2+1+B*top)≤p*(B*(top+1)):=Nat.mul_le_mul_left _ (by rw [Nat.mul_add B top,Nat.mul_one];omega)
      simp only [Nat.mul_add,Nat.mul_one] at h5 ⊢
      omega
     calc (b+p*(v2+B*top))*B≤p*(B*(top+1))*B:=Nat.mul_le_mul_right _ this
      _=p*(B*(B*(top+1))):=by rw [Nat.mul_assoc,Nat.mul_comm (B*(top+1)) B]
    have h4:p*(B*(B*un))≤a+p*(u2+B*(u1+B*un)):=by simp only [Nat.mul_add];omega
    omega
   ·exact h
  have h2:(un*B+u1) / top<B+2:=by
   rw [Nat.div_lt_iff_lt_mul htop]
   have h3:un*B≤top*B:=Nat.mul_le_mul_right _ h1
   rw [Nat.add_mul,Nat.mul_comm B top]
   omega
  omega
theorem LH (hB:1<B) (hu:u.length=k+3) (hv:v.length=k+2) (du:dI B u) {q r:Nat} (ht:0<v.getD (k+1) 0) (hlt:val B u<val B v*B)
  (g:JQ B (val B u) (val B v) (v.getD (k+1) 0) (u.getD (k+2) 0*B+u.getD (k+1) 0) q r) (hc:B≤q∨r*B+u.getD k 0<q*v.getD k 0) :
  1≤q∧JQ B (val B u) (val B v) (v.getD (k+1) 0) (u.getD (k+2) 0*B+u.getD (k+1) 0) (q - 1) (r+v.getD (k+1) 0):=by
 have eu:=vE (B:=B) hu
 have ev:=nZ (B:=B) hv
 have lu:=fU zo (du.take k)
 rw [show (u.take k).length=k by simp;omega] at lu
 obtain ⟨g1,g2,g3⟩:=g
 generalize u.getD k 0=u2 at *
 generalize u.getD (k+1) 0=u1 at *
 generalize u.getD (k+2) 0=un at *
 generalize v.getD k 0=v2 at *
 generalize v.getD (k+1) 0=top at *
 generalize val B (u.take k)=a at *
 generalize val B (v.take k)=b at *
 have hp:0<B^k:=Nat.pow_pos zo
 generalize B^k=p at *
 have hV:0<val B v:=by
  rw [ev]
  have:0<p*(v2+B*top):=Nat.mul_pos hp (by have:=Nat.mul_pos (by omega:0<B) ht;omega)
  omega
 have hq:val B u / val B v<q:=by
  rcases hc with hc|hc
  ·have:val B u / val B v<B:=by rw [Nat.div_lt_iff_lt_mul hV,Nat.mul_comm];exact hlt
   omega
  ·rw [Nat.div_lt_iff_lt_mul hV,eu,ev]
   have h1:u2+B*(u1+B*un)+1≤q*(v2+B*top):=by
    have:B*(q*top+r)=B*(un*B+u1):=by rw [g1]
    rw [Nat.mul_add B (q*top)] at this
    rw [Nat.mul_add q,Nat.mul_left_comm q B top]
    rw [Nat.mul_add B u1,← Nat.mul_comm un B]
    rw [Nat.mul_add B (un*B)] at this
    rw [Nat.mul_comm r B] at hc
    omega
   have h2:=Nat.mul_le_mul_left p h1
   rw [Nat.mul_add p,Nat.mul_one] at h2
   have h3:p*(q*(v2+B*top))≤q*(b+p*(v2+B*top)):=by
    rw [Nat.mul_left_comm]
    exact Nat.mul_le_mul_left _ zo
   omega
 have hq0:=Nat.zero_le (val B u / val B v)
 obtain ⟨q,rfl⟩:∃ q',q=q'+1:=⟨q - 1,by omega⟩
 refine ⟨by omega,?_,by simp only [Nat.add_sub_cancel];omega,by omega⟩
 rw [Nat.add_mul,Nat.one_mul] at g1
 simp only [Nat.add_sub_cancel]
 omega
theorem PX (hB:1<B) (hu:u.length=k+3) (hv:v.length=k+2) (dv:dI B v) {q r:Nat} (ht:0<v.getD (k+1) 0)
  (g:JQ B (val B u) (val B v) (v.getD (k+1) 0) (u.getD (k+2) 0*B+u.getD (k+1) 0) q r) (hc:q≤B) (hc2:q*v.getD k 0≤r*B+u.getD k 0):q≤val B u / val B v+1:=by
 have eu:=vE (B:=B) hu
 have ev:=nZ (B:=B) hv
 have lv:=fU zo (dv.take k)
 rw [show (v.take k).length=k by simp;omega] at lv
 obtain ⟨g1,g2,g3⟩:=g
 generalize u.getD k 0=u2 at *
 generalize u.getD (k+1) 0=u1 at *
 generalize u.getD (k+2) 0=un at *
 generalize v.getD k 0=v2 at *
 generalize v.getD (k+1) 0=top at *
 generalize val B (u.take k)=a at *
 generalize val B (v.take k)=b at *
 have hp:0<B^k:=Nat.pow_pos zo
 generalize B^k=p at *
 have hV:0<val B v:=by
  rw [ev]
  have:0<p*(v2+B*top):=Nat.mul_pos hp (by have:=Nat.mul_pos (by omega:0<B) ht;omega)
  omega
 have hq0:=Nat.zero_le (val B u / val B v)
 rcases Nat.eq_zero_or_pos q with h0|h0
 ·omega
 obtain ⟨q',rfl⟩:∃ q',q=q'+1:=⟨q - 1,by omega⟩
 rw [Nat.add_le_add_iff_right,Nat.le_div_iff_mul_le hV]
 have h1:(q'+1)*(v2+B*top)≤u2+B*(u1+B*un):=by
  have:B*((q'+1)*top+r)=B*(un*B+u1):=by rw [g1]
  rw [Nat.mul_add B ((q'+1)*top)] at this
  rw [Nat.mul_add (q'+1),Nat.mul_left_comm (q'+1) B top]
  rw [Nat.mul_add B u1,← Nat.mul_comm un B]
  rw [Nat.mul_add B (un*B)] at this
  rw [Nat.mul_comm r B] at hc2
  omega
 have h2:=Nat.mul_le_mul_left p h1
 have h3:(q'+1)*b≤B*p:=Nat.mul_le_mul hc zo
 have h4:B*p≤p*(v2+B*top):=by
  rw [Nat.mul_comm B p]
  refine Nat.mul_le_mul_left _ ?_
  have:B*1≤B*top:=Nat.mul_le_mul_left _ ht
  omega
 have h5:(q'+1)*val B v≤val B u+val B v:=by
  rw [eu,ev,Nat.mul_add,Nat.mul_left_comm (q'+1) p]
  omega
 rw [Nat.add_mul,Nat.one_mul] at h5
 omega
end
theorem Rf {B:Nat} {u v s:List Nat} {i q c b d c' b':Nat} (hiu:i<u.length) (hiv:i<v.length) (hs:s.length=i)
  (he:val B s+q*val B (v.take i)=val B (u.take i)+(b+c)*B^i) (h:d+b+(c+q*v.getD i 0)%B=u.getD i 0+b'*B) (hc:c'=(c+q*v.getD i 0) / B) :
  val B (s++[d])+q*val B (v.take (i+1))=val B (u.take (i+1))+(b'+c')*B^(i+1):=by
 rw [iw,bK B hiu,bK B hiv,hs,Nat.pow_succ]
 have h1:B*c'+(c+q*v.getD i 0)%B=c+q*v.getD i 0:=by rw [hc];exact Nat.div_add_mod _ _
 generalize (c+q*v.getD i 0)%B=m at *
 have h2:d+b+(c+q*v.getD i 0)=u.getD i 0+(b'+c')*B:=by rw [Nat.add_mul,Nat.mul_comm c' B];omega
 have h3:=congrArg (B^i* ·) h2
 simp only [Nat.mul_add] at h3 he ⊢
 rw [show (b'+c')*(B^i*B)=B^i*((b'+c')*B) by rw [Nat.mul_left_comm]]
 rw [show q*(B^i*v.getD i 0)=B^i*(q*v.getD i 0) by rw [Nat.mul_left_comm]]
 rw [Nat.mul_comm (b+c),Nat.mul_add] at he
 omega
theorem Ri {B:Nat} {u v s:List Nat} {n q b c un:Nat} (hB:1<B) (hv:v.length=n) (dv:dI B v) (hV:0<val B v)
  (he:val B s+q*val B v=val B (u.take n)+(b+c)*B^n) (hu:val B u=val B (u.take n)+B^n*un) (hc:b+c≤un) (hq1:val B u / val B v≤q) :
  q=val B u / val B v∧val B s=val B u%val B v:=by
 have h1:val B u=q*val B v+(val B s+B^n*(un - (b+c))):=by
  obtain ⟨t,rfl⟩:=Nat.le.dest hc
  rw [hu,Nat.add_sub_cancel_left,Nat.mul_add,Nat.mul_comm (B^n) (b+c)]
  omega
 have h2:q*val B v≤val B u:=by omega
 have h3:q≤val B u / val B v:=(Nat.le_div_iff_mul_le hV).2 h2
 have hq:q=val B u / val B v:=by omega
 refine ⟨hq,?_⟩
 have h4:=Nat.div_add_mod (val B u) (val B v)
 rw [← hq,Nat.mul_comm] at h4
 have h5:val B s+B^n*(un - (b+c))=val B u%val B v:=by omega
 have h6:=Nat.mod_lt (val B u) hV
 have h7:=fU zo dv
 rw [hv] at h7
 rcases Nat.eq_zero_or_pos (un - (b+c)) with h8|h8
 ·rw [h8] at h5;omega
 ·have:B^n*1≤B^n*(un - (b+c)):=Nat.mul_le_mul_left _ h8
  omega
theorem Rh {B:Nat} {u v s:List Nat} {n q b c un:Nat} (hB:1<B) (hs:s.length=n) (ds:dI B s) (hv:v.length=n) (dv:dI B v) (hV:0<val B v)
  (he:val B s+q*val B v=val B (u.take n)+(b+c)*B^n) (hu:val B u=val B (u.take n)+B^n*un) (hc:un<b+c) (hq2:q≤val B u / val B v+1) :
  q=val B u / val B v+1∧val B s+val B v=val B u%val B v+B^n:=by
 have hp:0<B^n:=Nat.pow_pos zo
 have h7:=fU zo dv
 rw [hv] at h7
 have h8:=fU zo ds
 rw [hs] at h8
 have h4:=Nat.div_add_mod (val B u) (val B v)
 have h6:=Nat.mod_lt (val B u) hV
 obtain ⟨t,ht⟩:=Nat.le.dest hc
 have h1:val B u+B^n*(t+1)=q*val B v+val B s:=by
  rw [hu,Nat.add_assoc,← Nat.mul_add,show un+(t+1)=b+c by omega,Nat.mul_comm (B^n)]
  omega
 have hpt:B^n*(t+1)=B^n*t+B^n:=by rw [Nat.mul_add,Nat.mul_one]
 have hq3:val B u / val B v+1≤q:=by
  rcases Nat.lt_or_ge (val B u / val B v) q with h|h
  ·exact h
  ·exfalso
   have:q*val B v≤val B u / val B v*val B v:=Nat.mul_le_mul_right _ h
   rw [Nat.mul_comm (val B u / val B v)] at this
   omega
 have hq:q=val B u / val B v+1:=by omega
 refine ⟨hq,?_⟩
 rw [hq,Nat.add_mul,Nat.one_mul,Nat.mul_comm (val B u / val B v)] at h1
 have h9:val B u%val B v+B^n*(t+1)=val B v+val B s:=by omega
 rcases Nat.eq_zero_or_pos t with h|h
 ·rw [h,Nat.zero_add,Nat.mul_one] at h9;omega
 ·have:B^n*1≤B^n*t:=Nat.mul_le_mul_left _ h
  omega
theorem Ig {B t:Nat} (hB:B=1000000000) (ht:0<t) (htB:t<B):B≤2*(t*(B / (t+1))):=by
 have hd:=Nat.div_add_mod B (t+1)
 have hm:=Nat.mod_lt B (Nat.succ_pos t)
 have hs:0<B / (t+1):=Nat.div_pos zo zo
 generalize B / (t+1)=s at *
 generalize B%(t+1)=m at *
 obtain ⟨s',rfl⟩:∃ s',s=s'+1:=⟨s - 1,by omega⟩
 rw [Nat.add_mul t 1,Nat.one_mul] at hd
 have h1:t*(s'+1)=t*s'+t:=by rw [Nat.mul_add,Nat.mul_one]
 have h2:m≤t:=by omega
 rcases Nat.eq_zero_or_pos s' with h|h
 ·subst h;omega
 ·obtain ⟨t',rfl⟩:∃ t',t=t'+1:=⟨t - 1,by omega⟩
  obtain ⟨r,rfl⟩:∃ r,s'=r+1:=⟨s' - 1,by omega⟩
  have h3:(t'+1)*(r+1+1)=t'*r+2*t'+r+2:=by simp only [Nat.add_mul,Nat.mul_add];omega
  have h4:0≤t'*r:=Nat.zero_le _
  rw [h3] at hd ⊢
  rcases Nat.eq_zero_or_pos t' with h5|h5
  ·subst h5;omega
  ·have h6:r≤t'*r:=by have:=Nat.mul_le_mul_right r h5;omega
   omega
theorem CP (B:Nat) {l:List Nat} {t:Nat} (ht:t≤l.length):val B l=val B (l.take t)+B^t*val B (l.drop t):=by
 conv=>lhs;rw [← List.take_append_drop t l,val_append]
 rw [List.length_take,Nat.min_eq_left ht]
theorem Ih {b k:Nat} (hs:sz 1000000000 b=k+2) :
  let t:=(bQ 1000000000 b).getD (k+1) 0
  let s:=1000000000 / (t+1)
  0<t∧t<1000000000∧0<s∧s≤500000000∧sz 1000000000 (b*s)=k+2∧1000000000≤2*(bQ 1000000000 (b*s)).getD (k+1) 0:=by
 intro t s
 have hB:1<1000000000:=by omega
 have hl:(bQ 1000000000 b).length=k+2:=hs
 have ht0:0<t:=Nat.pos_of_ne_zero (mJ hB b (k+1) hl)
 have htB:t<1000000000:=(aR hB b).getD zo (k+1)
 have hs0:0<s:=Nat.div_pos zo zo
 have hs5:s≤500000000:=by
  have:s≤1000000000 / 2:=Nat.div_le_div_left zo zo
  omega
 have hsd:s*(t+1)≤1000000000:=Nat.div_mul_le_self _ _
 have hp:0<1000000000^(k+1):=Nat.pow_pos zo
 have hb:b=val 1000000000 ((bQ 1000000000 b).take (k+1))+1000000000^(k+1)*t:=by
  have h1:=bK 1000000000 (l:=bQ 1000000000 b) (k:=k+1) zo
  rw [show k+1+1=(bQ 1000000000 b).length by omega,List.take_length,aO hB] at h1
  exact h1
 have hlow:val 1000000000 ((bQ 1000000000 b).take (k+1))<1000000000^(k+1):=by
  have:=fU zo ((aR hB b).take (k+1))
  rwa [show ((bQ 1000000000 b).take (k+1)).length=k+1 by simp;omega] at this
 have h1:b*s<1000000000^(k+2):=by
  have h2:b<1000000000^(k+1)*(t+1):=by rw [Nat.mul_add,Nat.mul_one];omega
  have h3:b*s<1000000000^(k+1)*(t+1)*s:=Nat.mul_lt_mul_of_pos_right h2 hs0
  have h4:1000000000^(k+1)*((t+1)*s)≤1000000000^(k+1)*1000000000:=Nat.mul_le_mul_left _ (by rw [Nat.mul_comm];exact hsd)
  rw [Nat.mul_assoc] at h3
  rw [Nat.pow_succ 1000000000 (k+1)]
  omega
 have h2:sz 1000000000 (b*s)=k+2:=by
  have h3:=cZ hB _ _ h1
  have h4:sz 1000000000 b≤sz 1000000000 (b*s):=gN hB (Nat.le_mul_of_pos_right _ hs0)
  omega
 refine ⟨ht0,htB,hs0,hs5,h2,?_⟩
 have hl2:(bQ 1000000000 (b*s)).length=k+2:=h2
 have hb2:b*s=val 1000000000 ((bQ 1000000000 (b*s)).take (k+1))+1000000000^(k+1)*(bQ 1000000000 (b*s)).getD (k+1) 0:=by
  have h1:=bK 1000000000 (l:=bQ 1000000000 (b*s)) (k:=k+1) zo
  rw [show k+1+1=(bQ 1000000000 (b*s)).length by omega,List.take_length,aO hB] at h1
  exact h1
 have aK6:val 1000000000 ((bQ 1000000000 (b*s)).take (k+1))<1000000000^(k+1):=by
  have:=fU zo ((aR hB (b*s)).take (k+1))
  rwa [show ((bQ 1000000000 (b*s)).take (k+1)).length=k+1 by simp;omega] at this
 have hge:=Ig (B:=1000000000) rfl ht0 htB
 generalize (bQ 1000000000 (b*s)).getD (k+1) 0=t2 at *
 have h5:t*s≤t2:=by
  rcases Nat.lt_or_ge t2 (t*s) with h|h
  ·exfalso
   have h6:1000000000^(k+1)*(t2+1)≤1000000000^(k+1)*(t*s):=Nat.mul_le_mul_left _ h
   rw [Nat.mul_add,Nat.mul_one,← Nat.mul_assoc] at h6
   have h7:1000000000^(k+1)*t*s≤b*s:=Nat.mul_le_mul_right _ zo
   omega
  ·exact h
 have h8:1000000000≤2*(t*s):=hge
 omega
theorem dividend {a b s k:Nat} (hs0:0<s) (hs1:s<1000000000) (hb:sz 1000000000 b=k+2) (hab:k+2≤sz 1000000000 a) :
  let us:=bQ 1000000000 (a*s)++List.replicate (sz 1000000000 a+1 - sz 1000000000 (a*s)) 0
  sz 1000000000 (a*s)≤sz 1000000000 a+1∧us.length=sz 1000000000 a+1∧dI 1000000000 us∧val 1000000000 us=a*s∧val 1000000000 (us.drop (sz 1000000000 a - (k+2)+1))<b*s:=by
 intro us
 have hB:1<1000000000:=by omega
 have h1:sz 1000000000 (a*s)≤sz 1000000000 a+1:=by
  have:=qV hB a s
  have h2:=cZ hB 1 s zo
  omega
 have h2:us.length=sz 1000000000 a+1:=by simp only [us,List.length_append,List.length_replicate];unfold sz at*; omega
 have h3:val 1000000000 us=a*s:=by simp only [us];rw [val_append,xV,aO hB];simp
 refine ⟨h1,h2,(aR hB _).append fun x hx=>by rw [List.eq_of_mem_replicate hx];omega,h3,?_⟩
 have h4:=CP 1000000000 (l:=us) (t:=sz 1000000000 a - (k+2)+1) zo
 rw [h3] at h4
 have h5:=FH hB (n:=b) (k:=k+1) zo
 have h6:=gZ hB a
 have h7:1000000000^sz 1000000000 a=1000000000^(k+1)*1000000000^(sz 1000000000 a - (k+2)+1):=by rw [← Nat.pow_add];congr 1;omega
 generalize 1000000000^(sz 1000000000 a - (k+2)+1)=p at *
 have h8:a<b*p:=by
  have:1000000000^(k+1)*p≤b*p:=Nat.mul_le_mul_right _ h5
  omega
 rcases Nat.lt_or_ge (val 1000000000 (us.drop (sz 1000000000 a - (k+2)+1))) (b*s) with h|h
 ·exact h
 ·exfalso
  have h9:p*(b*s)≤a*s:=by have:=Nat.mul_le_mul_left p h;omega
  have h10:a*s<b*p*s:=Nat.mul_lt_mul_of_pos_right h8 hs0
  rw [show p*(b*s)=b*p*s by rw [← Nat.mul_assoc,Nat.mul_comm p b]] at h9
  omega
theorem Pt {B:Nat} {us s s' qs:List Nat} {j V q:Nat} (hj:j<us.length) (he:val B (us.drop (j+1))=V*val B qs+val B s)
  (hq:q=val B (us.getD j 0::s) / V) (hs:val B s'=val B (us.getD j 0::s)%V):val B (us.drop j)=V*val B (q::qs)+val B s':=by
 rw [iK hj]
 have h:=Nat.div_add_mod (val B (us.getD j 0::s)) V
 rw [← hq,← hs] at h
 simp only [val] at h ⊢
 rw [he,Nat.mul_add V,Nat.mul_add B,Nat.mul_left_comm V B]
 omega
theorem OD {B x V:Nat} {s:List Nat} (hx:x<B) (hs:val B s<V):val B (x::s)<V*B:=by
 have h:B*(val B s+1)≤B*V:=Nat.mul_le_mul_left _ hs
 rw [Nat.mul_add,Nat.mul_one,Nat.mul_comm B V] at h
 simp only [val]
 omega
theorem Sb {a b s q r:Nat} (hs:0<s) (he:a*s=b*s*q+r) (hr:r<b*s):q=a / b∧r / s=a%b:=by
 have h1:a*s / (b*s)=a / b:=Nat.mul_div_mul_right _ _ hs
 have h2:a*s%(b*s)=a%b*s:=Nat.mul_mod_mul_right _ _ _
 have hp:0<b*s:=by omega
 rw [he,Nat.mul_add_div hp,Nat.div_eq_of_lt hr,Nat.add_zero] at h1
 rw [he,Nat.mul_add_mod,Nat.mod_eq_of_lt hr] at h2
 exact ⟨h1,by rw [h2,Nat.mul_div_cancel _ hs]⟩
end Go.Num
namespace Go.dB
open Go Go.Num Go.Dec Lib
theorem EH (p q:Rat):let g:=p.den.gcd q.den
  let top:=p.num*((q.den / g:Nat):Int)+q.num*((p.den / g:Nat):Int)
  let h:=top.natAbs.gcd g
  (p+q).num=top / h∧(p+q).den=p.den / g*(q.den / h):=by
 intro g top h
 have e:p+q=Rat.add p q:=rfl
 rw [e]
 unfold Rat.add
 simp only
 have hgd:g ∣ q.den:=Nat.gcd_dvd_right _ _
 have hhg:h ∣ g:=Nat.gcd_dvd_right _ _
 have hh:(p.den / g*q.den) / h=p.den / g*(q.den / h):=Nat.mul_div_assoc _ (Nat.dvd_trans hhg hgd)
 split
 ·rename_i hg
  have hg':g=1:=hg
  have h1:h=1:=Nat.dvd_one.1 (hg' ▸ hhg)
  simp only [hg',h1,Nat.div_one,top,Int.natCast_one,Int.ediv_one,and_self]
 ·rw [Rat.maybeNormalize_eq]
  simp only
  exact ⟨rfl,hh⟩
theorem DL (p q:Rat):let g:=p.num.natAbs.gcd q.den
  let h:=q.num.natAbs.gcd p.den
  (p*q).num=(p.num / g)*(q.num / h)∧(p*q).den=(p.den / h)*(q.den / g):=by
 intro g h
 have e:p*q=Rat.mul p q:=rfl
 rw [e]
 unfold Rat.mul
 simp only [Int.divExact_eq_ediv,Nat.divExact_eq_div]
 exact ⟨rfl,rfl⟩
structure Fr where
 n:ByteArray
 d:ByteArray
deriving DecidableEq
def Fr.v (a:Fr):Value:=.agg #[.string a.n,.string a.d]
def Fr.of (q:Rat):Fr:=⟨⟨(Lib.itoa q.num).toArray⟩,⟨(Lib.itoa q.den).toArray⟩⟩
def Fr.no:Fr:=⟨⟨#[]⟩,⟨#[]⟩⟩
def gK (k:Nat):Nat:=10^k
def JY (n:Nat):Bool:=decide (n<gK 600)
def dA (q:Rat):Bool:=JY q.num.natAbs&&JY q.den
theorem Dx {n k:Nat} (hk:0<k):n<gK k↔(decDigits n).length≤k :=
 ⟨fun h=>j5 k n hk h,fun h=>Nat.lt_of_lt_of_le (LQ n) (Nat.pow_le_pow_right zo h)⟩
theorem fE {n:Nat}:JY n=true↔(decDigits n).length≤600:=by
 unfold JY
 rw [decide_eq_true_iff]
 exact Dx zo
def rd (a:Fr):Option Rat :=
 match whole a.n.data.toList,whole a.d.data.toList with
 | some n,some d=>if h:0<d∧n.natAbs.Coprime d.natAbs then some ⟨n,d.natAbs,by omega,h.2⟩ else none
 | _,_=>none
theorem BX {a b:ByteArray} (h:a.data.toList=b.data.toList):a=b:=by
 cases a;cases b
 simp only [ByteArray.mk.injEq]
 exact Array.toList_inj.1 h
theorem iX {q:Rat} (h:dA q=true):rd (Fr.of q)=some q:=by
 unfold dA at h
 rw [Bool.and_eq_true,fE,fE] at h
 have e1:whole (Fr.of q).n.data.toList=some q.num:=dX h.1
 have h2:(decDigits ((q.den:Nat):Int).natAbs).length≤600:=(Int.natAbs_natCast q.den).symm ▸ h.2
 have e2:whole (Fr.of q).d.data.toList=some ((q.den:Nat):Int):=dX (z:=((q.den:Nat):Int)) h2
 unfold rd
 rw [e1,e2]
 have hd:=q.den_pos
 simp only [Int.natAbs_natCast]
 rw [dif_pos ⟨by omega,q.reduced⟩]
theorem jJ {a:Fr} {q:Rat} (h:rd a=some q):a=Fr.of q∧dA q=true:=by
 unfold rd at h
 split at h
 ·rename_i n d e1 e2
  split at h
  ·rename_i hk
   simp only [Option.some.injEq] at h
   subst h
   obtain ⟨h1,h2⟩:=nX e1
   obtain ⟨h3,h4⟩:=nX e2
   refine ⟨?_,?_⟩
   ·cases a
    unfold Fr.of
    simp only [Fr.mk.injEq] at *
    refine ⟨BX h1,BX ?_⟩
    rw [h3,show ((d.natAbs:Nat):Int)=d by omega]
   ·unfold dA
    rw [Bool.and_eq_true,fE,fE]
    exact ⟨h2,h4⟩
  ·cases h
 ·cases h
theorem Pw {q:Rat} (h:q≠0):q⁻¹.num=Mem.je q.den (decide (q.num<0))∧q⁻¹.den=q.num.natAbs:=by
 have hn:q.num≠0:=fun e=>h (Rat.num_eq_zero.1 e)
 rw [Rat.num_inv,Rat.den_inv,if_neg hn]
 refine ⟨?_,rfl⟩
 unfold Mem.je
 rcases Int.lt_trichotomy q.num 0 with h1|h1|h1
 ·rw [Int.sign_eq_neg_one_of_neg h1];simp [h1]
 ·exact absurd h1 hn
 ·rw [Int.sign_eq_one_of_pos h1]
  have:¬ q.num<0:=by omega
  simp [this]
theorem AP {n:Int} {g:Nat} (h:g ∣ n.natAbs):Mem.je (n.natAbs / g) (decide (n<0))=n / (g:Int):=by
 have h2:((g:Nat):Int) ∣ n:=by rwa [← Int.dvd_natAbs,Int.ofNat_dvd]
 have:=Mem.Ic h2
 rw [Int.natAbs_natCast,decide_eq_false (show ¬ ((g:Nat):Int)<0 by omega),Bool.bne_false] at this
 exact this
theorem Mj (p q:Rat):(p+q).num=Mem.je ((p.num*((q.den / p.den.gcd q.den:Nat):Int)+q.num*((p.den / p.den.gcd q.den:Nat):Int)).natAbs / (p.num*((q.den / p.den.gcd q.den:Nat):Int)+q.num*((p.den / p.den.gcd q.den:Nat):Int)).natAbs.gcd (p.den.gcd q.den)) (decide ((p.num*((q.den / p.den.gcd q.den:Nat):Int)+q.num*((p.den / p.den.gcd q.den:Nat):Int))<0))∧(p+q).den=p.den / p.den.gcd q.den*(q.den / (p.num*((q.den / p.den.gcd q.den:Nat):Int)+q.num*((p.den / p.den.gcd q.den:Nat):Int)).natAbs.gcd (p.den.gcd q.den)):=by
 obtain ⟨h1,h2⟩:=EH p q
 refine ⟨?_,h2⟩
 rw [h1]
 exact (AP (Nat.gcd_dvd_left _ _)).symm
theorem Lb (p q:Rat):(p*q).num=Mem.je (p.num.natAbs / p.num.natAbs.gcd q.den*(q.num.natAbs / q.num.natAbs.gcd p.den)) (decide (p.num<0) != decide (q.num<0))∧(p*q).den=p.den / q.num.natAbs.gcd p.den*(q.den / p.num.natAbs.gcd q.den):=by
 obtain ⟨h1,h2⟩:=DL p q
 refine ⟨?_,h2⟩
 rw [h1]
 have d1:((p.num.natAbs.gcd q.den:Nat):Int) ∣ p.num:=by rw [← Int.dvd_natAbs,Int.ofNat_dvd];exact Nat.gcd_dvd_left _ _
 have d2:((q.num.natAbs.gcd p.den:Nat):Int) ∣ q.num:=by rw [← Int.dvd_natAbs,Int.ofNat_dvd];exact Nat.gcd_dvd_left _ _
 have hg:0<p.num.natAbs.gcd q.den:=Nat.gcd_pos_of_pos_right _ q.den_pos
 have hh:0<q.num.natAbs.gcd p.den:=Nat.gcd_pos_of_pos_right _ p.den_pos
 have key:∀ (z:Int) (g:Nat),0<g→((g:Nat):Int) ∣ z→(z / (g:Int)).natAbs=z.natAbs / g∧(z≠0→decide (z / (g:Int)<0)=decide (z<0)):=fun z g hg hd=>by
  obtain ⟨c,rfl⟩:=hd
  rw [Int.mul_ediv_cancel_left _ zo,Int.natAbs_mul,Int.natAbs_natCast,Nat.mul_div_cancel_left _ hg]
  refine ⟨rfl,fun _=>?_⟩
  rw [Bool.eq_iff_iff,decide_eq_true_iff,decide_eq_true_iff]
  constructor
  ·exact fun h=>Int.mul_neg_of_pos_of_neg zo h
  ·intro h
   rcases Int.lt_trichotomy c 0 with h1|h1|h1
   ·exact h1
   ·subst h1;simp at h
   ·have:=Int.mul_pos (show (0:Int)<(g:Int) by omega) h1;omega
 obtain ⟨a1,a2⟩:=key p.num _ hg d1
 obtain ⟨b1,b2⟩:=key q.num _ hh d2
 rw [← Mem.AO (p.num / ((p.num.natAbs.gcd q.den:Nat):Int)),a1,b1]
 by_cases hp:p.num=0
 ·simp [hp,Mem.je]
 ·by_cases hq:q.num=0
  ·simp [hq,Mem.je]
  ·rw [a2 hp,b2 hq]
theorem La (p q:Rat):(p*q).num=Mem.je (p.num.natAbs / p.num.natAbs.gcd q.den*(q.num.natAbs / q.num.natAbs.gcd p.den)) (!(decide (p.num<0) == decide (q.num<0)))∧(p*q).den=p.den / q.num.natAbs.gcd p.den*(q.den / p.num.natAbs.gcd q.den):=Lb p q
theorem wN (n:Int) {d:Nat} (hd:0<d):(mkRat n d).num=Mem.je (n.natAbs / n.natAbs.gcd d) (decide (n<0))∧(mkRat n d).den=d / n.natAbs.gcd d:=by
 rw [Rat.num_mkRat,Rat.den_mkRat,if_neg zo,if_neg zo,Nat.gcd_comm d]
 exact ⟨(AP (Nat.gcd_dvd_left _ _)).symm,rfl⟩
theorem FJ {n:Nat} (h:600<(decDigits n).length):JY n=false:=by
 cases hk:JY n with
 | false=>rfl
 | true=>have:=fE.1 hk;omega
def wr (q:Rat):Fr × Int:=if dA q then (Fr.of q,0) else (Fr.no,6)
def Fr.res (x:Fr × Int):Value:=.tuple #[x.1.v,.int .i64 x.2]
theorem rY {q:Rat} (h:dA q=false):Fr.res (wr q)= .tuple #[.agg #[.string ⟨#[]⟩,.string ⟨#[]⟩],.int .i64 6]:=by unfold wr;rw [if_neg (by simp [h])];rfl
theorem Xz {q:Rat} (h:dA q=true):Fr.res (wr q)= .tuple #[.agg #[Mem.sO q.num,Mem.sO q.den],.int .i64 0]:=by unfold wr;rw [if_pos h];rfl
def iA (p q:Rat):Int:=if p<q then -1 else if q<p then 1 else 0
def uQ (z:Int):Int:=if z=0 then 0 else if z<0 then -1 else 1
theorem AL (p q:Rat):uQ (p.num*(q.den:Int)+ -(q.num*(p.den:Int)))=iA p q:=by
 unfold uQ iA
 by_cases h1:p<q
 ·rw [if_pos h1]
  have:=(Rat.lt_iff p q).1 h1
  rw [if_neg zo,if_pos zo]
 ·rw [if_neg h1]
  rw [Rat.lt_iff] at h1
  by_cases h2:q<p
  ·rw [if_pos h2]
   have:=(Rat.lt_iff q p).1 h2
   rw [if_neg zo,if_neg zo]
  ·rw [if_neg h2]
   rw [Rat.lt_iff] at h2
   rw [if_pos zo]
theorem OX (q:Rat):uQ q.num=iA q 0:=by
 have:=AL q 0
 simpa using this
def eF (w:World) (v:Value) (q:Rat):Prop:=∃ pa l ca pb m cb,v= .agg #[.slice pa l ca,.bool (decide (q.num<0)),.slice pb m cb]∧Mem.aM w (.slice pa l ca) q.num.natAbs∧Mem.aM w (.slice pb m cb) q.den
open RowKit Mem in
theorem eF.later {w w':World} {v:Value} {q:Rat} (h:eF w v q) (hb:Below w.heap.size w w'):eF w' v q:=by
 obtain ⟨pa,l,ca,pb,m,cb,h1,h2,h3⟩:=h
 exact ⟨pa,l,ca,pb,m,cb,h1,h2.later hb,h3.later hb⟩
open Mem in
theorem eF.mk (n d:Nat) {w:World} {pa pb:Option Addr} {l ca m cb:Nat} {b:Bool} {q:Rat} (h:aM w (.slice pa l ca) n) (k:aM w (.slice pb m cb) d) (hn:n=q.num.natAbs) (hd:d=q.den) (hb:b=decide (q.num<0)):eF w (.agg #[.slice pa l ca,.bool b,.slice pb m cb]) q:=by
 subst hn hd hb
 exact ⟨pa,l,ca,pb,m,cb,rfl,h,k⟩
open RowKit Mem in
theorem _root_.Go.Mem.aM.carry {w0 w w':World} {v:Value} {n:Nat} (_:aM w0 v n) (k:aM w v n) (hb:Below w.heap.size w w'):aM w' v n:=k.later hb
theorem eF.of {w:World} {pa pb:Option Addr} {l ca m cb:Nat} {q:Rat} (h:Mem.aM w (.slice pa l ca) q.num.natAbs) (k:Mem.aM w (.slice pb m cb) q.den):eF w (.agg #[.slice pa l ca,.bool (decide (q.num<0)),.slice pb m cb]) q:=⟨pa,l,ca,pb,m,cb,rfl,h,k⟩
def eP (k:Nat) (q:Rat):Prop:=sz 1000000000 q.num.natAbs≤k∧sz 1000000000 q.den≤k
theorem ag2:gK 600≤1000000000^67:=by decide+kernel
theorem vN {n:Nat} (h:JY n=true):sz 1000000000 n≤67:=by
 unfold JY at h
 rw [decide_eq_true_iff] at h
 exact cZ zo 67 n (Nat.lt_of_lt_of_le h ag2)
theorem gL {q:Rat} (h:dA q=true):eP 67 q:=by
 unfold dA at h
 rw [Bool.and_eq_true] at h
 exact ⟨vN h.1,vN h.2⟩
theorem eP.mono {k m:Nat} {q:Rat} (h:eP k q) (hk:k≤m):eP m q:=⟨Nat.le_trans h.1 hk,Nat.le_trans h.2 hk⟩
theorem gF {a b:Nat}:sz 1000000000 (a / b)≤sz 1000000000 a:=gN zo (Nat.div_le_self a b)
theorem Fv {a b:Nat} (hb:0<b):sz 1000000000 (a.gcd b)≤sz 1000000000 b:=gN zo (Nat.le_of_dvd hb (Nat.gcd_dvd_right _ _))
theorem kg (z:Int) (n:Nat):sz 1000000000 (z*n).natAbs≤sz 1000000000 z.natAbs+sz 1000000000 n:=by
 rw [Int.natAbs_mul,Int.natAbs_natCast]
 exact qV zo _ _
theorem jr (z y:Int):sz 1000000000 (z*y).natAbs≤sz 1000000000 z.natAbs+sz 1000000000 y.natAbs:=by
 rw [Int.natAbs_mul]
 exact qV zo _ _
theorem qx (z y:Int):sz 1000000000 (z+y).natAbs≤max (sz 1000000000 z.natAbs) (sz 1000000000 y.natAbs)+1 :=
 Nat.le_trans (gN zo (Int.natAbs_add_le z y)) (Q8 zo _ _)
theorem uj {k:Nat} {p q:Rat} (h:eP k p) (i:eP k q):eP (2*k+1) (p+q):=by
 obtain ⟨h1,h2⟩:=EH p q
 have hp:=p.den_pos
 have hq:=q.den_pos
 have a1:=kg p.num (q.den / p.den.gcd q.den)
 have a2:=kg q.num (p.den / p.den.gcd q.den)
 have a3:=qx (p.num*((q.den / p.den.gcd q.den:Nat):Int)) (q.num*((p.den / p.den.gcd q.den:Nat):Int))
 have b1:= @gF q.den (p.den.gcd q.den)
 have b2:= @gF p.den (p.den.gcd q.den)
 obtain ⟨i1,i2⟩:=i
 obtain ⟨j1,j2⟩:=h
 constructor
 ·rw [h1,Int.natAbs_ediv_of_dvd (by rw [← Int.dvd_natAbs,Int.ofNat_dvd];exact Nat.gcd_dvd_left _ _),Int.natAbs_natCast]
  refine Nat.le_trans gF ?_
  omega
 ·rw [h2]
  refine Nat.le_trans (qV zo _ _) ?_
  have b3:= @gF q.den ((p.num*((q.den / p.den.gcd q.den:Nat):Int)+q.num*((p.den / p.den.gcd q.den:Nat):Int)).natAbs.gcd (p.den.gcd q.den))
  omega
theorem qU {k:Nat} {p q:Rat} (h:eP k p) (i:eP k q):eP (2*k) (p*q):=by
 obtain ⟨h1,h2⟩:=DL p q
 obtain ⟨i1,i2⟩:=i
 obtain ⟨j1,j2⟩:=h
 constructor
 ·rw [h1]
  refine Nat.le_trans (jr _ _) ?_
  rw [Int.natAbs_ediv_of_dvd (by rw [← Int.dvd_natAbs,Int.ofNat_dvd];exact Nat.gcd_dvd_left _ _),Int.natAbs_ediv_of_dvd (by rw [← Int.dvd_natAbs,Int.ofNat_dvd];exact Nat.gcd_dvd_left _ _),Int.natAbs_natCast,Int.natAbs_natCast]
  have:= @gF p.num.natAbs (p.num.natAbs.gcd q.den)
  have:= @gF q.num.natAbs (q.num.natAbs.gcd p.den)
  omega
 ·rw [h2]
  refine Nat.le_trans (qV zo _ _) ?_
  have:= @gF p.den (q.num.natAbs.gcd p.den)
  have:= @gF q.den (p.num.natAbs.gcd q.den)
  omega
theorem qR {k:Nat} {q:Rat} (h:eP k q):eP k (-q):=by
 unfold eP at *
 rw [Rat.neg_num,Rat.neg_den,Int.natAbs_neg]
 exact h
theorem Fu {k:Nat} {q:Rat} (h:eP k q) (h0:q≠0):eP k q⁻¹:=by
 have hn:q.num≠0:=fun e=>h0 (Rat.num_eq_zero.1 e)
 unfold eP at *
 rw [Rat.num_inv,Rat.den_inv,if_neg hn,Int.natAbs_mul,Int.natAbs_natCast,Int.natAbs_sign_of_ne_zero hn,Nat.one_mul]
 exact ⟨h.2,h.1⟩
end Go.dB
namespace Go.dB
open Go Go.Num Go.Dec Lib
abbrev FrI:=Fr × Int
def zn (a:Fr):Int:=if (rd a).isSome then 0 else 20
def fI (a:Fr):Int × Int:=match rd a with
 | some q=>(iA q 0,0)
 | none=>(0,20)
def Qb (a b:Fr):Int × Int:=match rd a,rd b with
 | some p,some q=>(iA p q,0)
 | _,_=>(0,20)
def bin (f:Rat→Rat→Fr × Int) (a b:Fr):Fr × Int:=match rd a,rd b with
 | some p,some q=>f p q
 | _,_=>(Fr.no,20)
def JI (a b:Fr):Fr × Int:=bin (fun p q=>wr (p+q)) a b
def Fw (a b:Fr):Fr × Int:=bin (fun p q=>wr (p - q)) a b
def IC (a b:Fr):Fr × Int:=bin (fun p q=>wr (p*q)) a b
def zN (a b:Fr):Fr × Int:=bin (fun p q=>if q=0 then (Fr.no,7) else wr (p / q)) a b
def zY (n d:Int):Fr × Int:=if d=0 then (Fr.no,7) else wr (n / d)
theorem iL {f:Rat→Rat→Fr × Int} {a b:Fr} {p q:Rat} (h:rd a=some p) (k:rd b=some q):bin f a b=f p q:=by unfold bin;rw [h,k]
theorem pI {f:Rat→Rat→Fr × Int} {a b:Fr} (h:rd a=none):bin f a b=(Fr.no,20):=by unfold bin;rw [h]
theorem pG {f:Rat→Rat→Fr × Int} {a b:Fr} (k:rd b=none):bin f a b=(Fr.no,20):=by
 unfold bin
 cases rd a with
 | none=>rfl
 | some p=>simp [k]
theorem Nh (n d:Int) (h:d≠0):mkRat (Mem.je n.natAbs (!(decide (n<0) == decide (d<0)))) d.natAbs=(n:Rat) / (d:Rat):=by
 rw [← Rat.divInt_eq_div]
 rcases Int.lt_trichotomy d 0 with hd|hd|hd
 ·rw [← Rat.neg_divInt_neg]
  obtain ⟨k,rfl⟩:∃ k:Nat,d= -(k:Int):=⟨d.natAbs,by omega⟩
  rw [Int.neg_neg,Rat.divInt_ofNat,Int.natAbs_neg,Int.natAbs_natCast]
  congr 1
  unfold Mem.je
  by_cases hn:n<0
  ·simp [hn,hd];omega
  ·simp [hn,hd];omega
 ·exact absurd hd h
 ·obtain ⟨k,rfl⟩:∃ k:Nat,d=(k:Int):=⟨d.natAbs,by omega⟩
  rw [Rat.divInt_ofNat,Int.natAbs_natCast]
  congr 1
  have hd2:¬ (k:Int)<0:=by omega
  unfold Mem.je
  by_cases hn:n<0
  ·simp [hn,hd2];omega
  ·simp [hn,hd2];omega
theorem kK (s t:ByteArray) (e:Int):Fr.res (⟨s,t⟩,e)= .tuple #[.agg #[.string s,.string t],.int .i64 e]:=rfl
end Go.dB
namespace Go.dB
open Go Go.RowKit Go.Num Go.Mem
def jI (w:World) (T:TypeId) (v:Value) (l:List Fr):Prop :=
 ∃ a cap,v= .slice a l.length cap∧l.length≤cap∧cap≤9223372036854775807∧(a=none→cap=0) ∧
  ∀ ad,a=some ad→ad.spot=none∧∃ arr,aB w ad.block arr T∧∀ i (h:i<l.length),arr[ad.off+i*2]? =some (.string l[i].n)∧arr[ad.off+i*2+1]? =some (.string l[i].d)
theorem jI.later {w w':World} {T:TypeId} {v:Value} {l:List Fr} (h:jI w T v l) (hb:Below w.heap.size w w'):jI w' T v l:=by
 obtain ⟨a,cap,h1,h2,h3,h4,h5⟩:=h
 refine ⟨a,cap,h1,h2,h3,h4,fun ad had=>?_⟩
 obtain ⟨h6,arr,h7,h8⟩:=h5 ad had
 exact ⟨h6,arr,h7.later hb,h8⟩
theorem jI.read {w:World} {T:TypeId} {v:Value} {l:List Fr} (h:jI w T v l) :
  ∃ a cap,v= .slice a l.length cap∧l.length≤cap∧cap≤9223372036854775807∧∀ k (_:k<l.length),∃ b off,a=some ⟨b,off,none⟩∧b<w.heap.size∧w.cell? ⟨b,off+k*2,none⟩=some (.string l[k].n)∧w.cell? ⟨b,off+k*2+1,none⟩=some (.string l[k].d):=by
 obtain ⟨a,cap,h1,h2,h3,h4,h5⟩:=h
 refine ⟨a,cap,h1,h2,h3,fun k hk=>?_⟩
 cases a with
 | none=>have:=h4 rfl;omega
 | some ad =>
  obtain ⟨h6,arr,h7,h8⟩:=h5 ad rfl
  obtain ⟨b,off,sp⟩:=ad
  simp only at h6
  subst h6
  obtain ⟨h9,h10⟩:=h8 k hk
  exact ⟨b,off,rfl,h7.lt,(h7.cell _).trans h9,(h7.cell _).trans h10⟩
def dP (l:List Fr):Int:=if l.all (fun a=>(rd a).isSome) then 0 else 20
theorem tF {a:Fr} (h:(rd a).isSome=true):zn a=0:=by unfold zn;rw [h];rfl
theorem LV {a:Fr} (h:(rd a).isSome=false):zn a=20:=by unfold zn;rw [h];rfl
def bO (w:World) (v:Value) (m:List (List Fr)):Prop :=
 ∃ rs:List Value,Row w 56 v rs∧rs.length=m.length∧∀ i (h:i<rs.length) (h':i<m.length),jI w 36 rs[i] m[i]
theorem bO.later {w w':World} {v:Value} {m:List (List Fr)} (h:bO w v m) (hb:Below w.heap.size w w'):bO w' v m:=by
 obtain ⟨rs,h1,h2,h3⟩:=h
 exact ⟨rs,h1.later hb,h2,fun i h h'=>(h3 i h h').later hb⟩
def FL (m:List (List Fr)):Bool:=decide (1≤m.length)&&decide (m.length≤4)&&decide (1≤(m.headD []).length)&&decide ((m.headD []).length≤4)&&m.all (fun r=>r.length == (m.headD []).length&&dP r == 0)
def oI (m:List (List Fr)):Int:=if FL m then 0 else 50
def Fill (w:World) (g:Nat) (T:TypeId) (n k:Nat) (ok:World→Nat→Value→Value→Prop):Prop :=
 ∃ arr,aB w g arr T∧arr.size=n*2∧∀ i,i<k→∃ x y,arr[i*2]? =some x∧arr[i*2+1]? =some y∧ok w i x y
theorem Fill.box {w:World} {g:Nat} {T:TypeId} {n k:Nat} {ok:World→Nat→Value→Value→Prop} (h:Fill w g T n k ok):∃ arr,aB w g arr T∧arr.size=n*2:=by
 obtain ⟨arr,h1,h2, -⟩:=h
 exact ⟨arr,h1,h2⟩
theorem Fill.lt {w:World} {g:Nat} {T:TypeId} {n k:Nat} {ok:World→Nat→Value→Value→Prop} (h:Fill w g T n k ok):g<w.heap.size:=by
 obtain ⟨arr,h1, -⟩:=h
 exact h1.lt
theorem Fill.uS {w:World} {g:Nat} {T:TypeId} {n k:Nat} {ok:World→Nat→Value→Value→Prop} (h:Fill w g T n k ok):vX w g T:=by
 obtain ⟨arr,h1, -⟩:=h
 exact h1.uS
theorem Fill.later {w w':World} {g:Nat} {T:TypeId} {n k:Nat} {ok:World→Nat→Value→Value→Prop} (h:Fill w g T n k ok) (hb:Below w.heap.size w w') (hok:∀ i x y,ok w i x y→ok w' i x y):Fill w' g T n k ok:=by
 obtain ⟨arr,h1,h2,h3⟩:=h
 refine ⟨arr,h1.later hb,h2,fun i hi=>?_⟩
 obtain ⟨x,y,k1,k2,k3⟩:=h3 i hi
 exact ⟨x,y,k1,k2,hok _ _ _ k3⟩
theorem Fill.cells {w:World} {g:Nat} {T:TypeId} {n k:Nat} {ok:World→Nat→Value→Value→Prop} (h:Fill w g T n k ok) {j:Nat} (hj:j<n) :
  (∃ x,w.cell? ⟨g,j*2,none⟩=some x)∧(∃ y,w.cell? ⟨g,j*2+1,none⟩=some y)∧∀ o,w.frozen? ⟨g,o,none⟩=false:=by
 obtain ⟨arr,h1,h2,h3⟩:=h
 refine ⟨⟨arr[j*2]'zo,?_⟩,⟨arr[j*2+1]'zo,?_⟩,h1.free⟩
 ·rw [h1.cell];exact Array.getElem?_eq_getElem _
 ·rw [h1.cell];exact Array.getElem?_eq_getElem _
theorem Fill.step {w:World} {g:Nat} {T:TypeId} {n k:Nat} {ok:World→Nat→Value→Value→Prop} {x y:Value} (h:Fill w g T n k ok) (hk:k<n)
  (hok:∀ i x' y',ok w i x' y'→ok ((w.setCell ⟨g,k*2,none⟩ x).setCell ⟨g,k*2+1,none⟩ y) i x' y')
  (hx:ok ((w.setCell ⟨g,k*2,none⟩ x).setCell ⟨g,k*2+1,none⟩ y) k x y) :
  Fill ((w.setCell ⟨g,k*2,none⟩ x).setCell ⟨g,k*2+1,none⟩ y) g T n (k+1) ok:=by
 obtain ⟨arr,h1,h2,h3⟩:=h
 refine ⟨(arr.setIfInBounds (k*2) x).setIfInBounds (k*2+1) y,(h1.set _ _).set _ _,by simp [h2],fun i hi=>?_⟩
 rcases Nat.lt_or_ge i k with h|h
 ·obtain ⟨x',y',k1,k2,k3⟩:=h3 i h
  refine ⟨x',y',?_,?_,hok _ _ _ k3⟩
  ·rw [Array.getElem?_setIfInBounds,if_neg zo,Array.getElem?_setIfInBounds,if_neg zo,k1]
  ·rw [Array.getElem?_setIfInBounds,if_neg zo,Array.getElem?_setIfInBounds,if_neg zo,k2]
 ·obtain rfl:i=k:=by omega
  refine ⟨x,y,?_,?_,hx⟩
  ·rw [Array.getElem?_setIfInBounds,if_neg zo,Array.getElem?_setIfInBounds,if_pos rfl,if_pos zo]
  ·rw [Array.getElem?_setIfInBounds,if_pos rfl,if_pos (by simp;omega)]
theorem Fill.start {w:World} {base g n:Nat} {T:TypeId} {z:Array Value} {ok:World→Nat→Value→Value→Prop} (h:w.ownsRow base T 2 (.slice (some ⟨g,0,none⟩) n n) n (madeCells z (n*2)).toList):Fill w g T n 0 ok:=by
 obtain ⟨h1,h2|⟨g',cap,cur,h3,h4,h5,h6,h7,h8,h9⟩⟩:=h
 ·cases h2.1
 ·simp only [Value.slice.injEq,Option.some.injEq,Addr.mk.injEq,and_true,true_and] at h3
  obtain ⟨rfl,rfl⟩:=h3
  exact ⟨cur,h5,h8,fun i hi=>by omega⟩
def iF (f:Nat→Int) (w:World) (i:Nat) (x y:Value):Prop:=∃ pa l ca,x= .slice pa l ca∧y= .bool (decide (f i<0))∧aM w (.slice pa l ca) (f i).natAbs
theorem iF.later {f:Nat→Int} {w w':World} (hb:Below w.heap.size w w') (i:Nat) (x y:Value) (h:iF f w i x y):iF f w' i x y:=by
 obtain ⟨pa,l,ca,h1,h2,h3⟩:=h
 exact ⟨pa,l,ca,h1,h2,h3.later hb⟩
theorem iF.lJ {f:Nat→Int} {w:World} {b o:Nat} {T':TypeId} {u:Value} (hx:vX w b T') (hT:113≠T') (i:Nat) (x y:Value) (h:iF f w i x y):iF f (w.setCell ⟨b,o,none⟩ u) i x y:=by
 obtain ⟨pa,l,ca,h1,h2,h3⟩:=h
 exact ⟨pa,l,ca,h1,h2,h3.lJ hx hT⟩
def bZ (w:World) (v:Value) (l:List Int):Prop :=
 ∃ a cap,v= .slice a l.length cap∧l.length≤cap∧cap≤9223372036854775807∧(a=none→cap=0) ∧
  ∀ ad,a=some ad→ad.spot=none∧∃ arr,aB w ad.block arr 99∧∀ i (h:i<l.length),∃ x y,arr[ad.off+i*2]? =some x∧arr[ad.off+i*2+1]? =some y∧iF (fun i=>l.getD i 0) w i x y
theorem bZ.later {w w':World} {v:Value} {l:List Int} (h:bZ w v l) (hb:Below w.heap.size w w'):bZ w' v l:=by
 obtain ⟨a,cap,h1,h2,h3,h4,h5⟩:=h
 refine ⟨a,cap,h1,h2,h3,h4,fun ad had=>?_⟩
 obtain ⟨h6,arr,h7,h8⟩:=h5 ad had
 refine ⟨h6,arr,h7.later hb,fun i hi=>?_⟩
 obtain ⟨x,y,k1,k2,k3⟩:=h8 i hi
 exact ⟨x,y,k1,k2,iF.later hb _ _ _ k3⟩
theorem bZ.uy {w:World} {g:Nat} {l:List Int} (h:Fill w g 99 l.length l.length (iF fun i=>l.getD i 0)) (hl:l.length≤1000000):bZ w (.slice (some ⟨g,0,none⟩) l.length l.length) l:=by
 obtain ⟨arr,h1,h2,h3⟩:=h
 refine ⟨_,_,rfl,Nat.le_refl _,by omega,(fun h=>by cases h),fun ad had=>?_⟩
 cases had
 refine ⟨rfl,arr,h1,fun i hi=>?_⟩
 obtain ⟨x,y,k1,k2,k3⟩:=h3 i hi
 exact ⟨x,y,by simpa using k1,by simpa using k2,k3⟩
theorem bZ.read {w:World} {v:Value} {l:List Int} (h:bZ w v l) :
  ∃ a cap,v= .slice a l.length cap∧l.length≤cap∧cap≤9223372036854775807∧∀ k (_:k<l.length),∃ b off pa n ca,a=some ⟨b,off,none⟩∧b<w.heap.size∧w.cell? ⟨b,off+k*2,none⟩=some (.slice pa n ca)∧w.cell? ⟨b,off+k*2+1,none⟩=some (.bool (decide (l.getD k 0<0)))∧aM w (.slice pa n ca) (l.getD k 0).natAbs:=by
 obtain ⟨a,cap,h1,h2,h3,h4,h5⟩:=h
 refine ⟨a,cap,h1,h2,h3,fun k hk=>?_⟩
 cases a with
 | none=>have:=h4 rfl;omega
 | some ad =>
  obtain ⟨h6,arr,h7,h8⟩:=h5 ad rfl
  obtain ⟨b,off,sp⟩:=ad
  simp only at h6
  subst h6
  obtain ⟨x,y,h9,h10,pa,n,ca,rfl,rfl,hm⟩:=h8 k hk
  exact ⟨b,off,pa,n,ca,rfl,h7.lt,(h7.cell _).trans h9,(h7.cell _).trans h10,hm⟩
def xR (f:Nat→Fr) (_:World) (i:Nat) (x y:Value):Prop:=x= .string (f i).n∧y= .string (f i).d
theorem jI.uy {w:World} {g:Nat} {T:TypeId} {l:List Fr} (h:Fill w g T l.length l.length (xR fun i=>l.getD i Fr.no)) (hl:l.length≤1000000):jI w T (.slice (some ⟨g,0,none⟩) l.length l.length) l:=by
 obtain ⟨arr,h1,h2,h3⟩:=h
 refine ⟨_,_,rfl,Nat.le_refl _,by omega,(fun h=>by cases h),fun ad had=>?_⟩
 cases had
 refine ⟨rfl,arr,h1,fun i hi=>?_⟩
 obtain ⟨x,y,k1,k2,k3,k4⟩:=h3 i hi
 have e:l.getD i Fr.no=l[i]:=by simp [hi]
 have k3':x= .string (l.getD i Fr.no).n:=k3
 have k4':y= .string (l.getD i Fr.no).d:=k4
 rw [e] at k3' k4'
 exact ⟨by simpa [k3'] using k1,by simpa [k4'] using k2⟩
def Keep (l:List TypeId) (w w':World):Prop:=∀ b cs T,T∉l→aB w b cs T→aB w' b cs T
theorem Keep.of_below {w w':World} {l:List TypeId} (h:Below w.heap.size w w'):Keep l w w':=fun _ _ _ _ hx=>hx.later h
theorem Keep.trans {a b c:World} {l:List TypeId} (h:Keep l a b) (k:Keep l b c):Keep l a c:=fun x cs T hT hx=>k x cs T hT (h x cs T hT hx)
theorem Keep.mono {a b:World} {l m:List TypeId} (h:Keep l a b) (k:∀ T,T∈l→T∈m):Keep m a b:=fun x cs T hT hx=>h x cs T (fun e=>hT (k T e)) hx
theorem Keep.setCell {w:World} {b:Nat} {T:TypeId} {o:Nat} {u:Value} (h:vX w b T):Keep [T] w (w.setCell ⟨b,o,none⟩ u):=fun x cs T' hT hx=>by
 obtain ⟨cs',hb⟩:=h
 exact hx.setOther u (hx.ne hb (fun e=>hT (by simp [e])))
theorem Keep.others {w w':World} {row:Option Nat} (hg:w.grownBy w' row) (hr:∀ r,row=some r→∃ o:Obj,w.heap[r]? =some o∧o.isCells=false):Keep [] w w':=fun b cs T _ h=>by
 unfold aB at *
 rw [hg.block b (Array.getElem?_eq_some_iff.1 h).1 ?_]
 ·exact h
 ·intro e
  obtain ⟨o,ho,hc⟩:=hr b e.symm
  rw [h] at ho
  cases ho
  cases hc
theorem Keep.grown {w w':World} {base k:Nat} {e:TypeId} {s:Nat} {v:Value} {xs:List Value} (hown:w.ownsRow base e s v k xs) (hg:w.grownBy w' v.ownBlock):Keep [e] w w':=fun b cs T hT h=>by
 unfold aB at *
 rw [hg.block b (Array.getElem?_eq_some_iff.1 h).1 ?_]
 ·exact h
 ·intro he
  obtain ⟨-, ⟨rfl, -⟩|⟨g,cap,cur,rfl, -, hgg, -⟩⟩:=hown
  ·cases he
  ·simp only [Value.ownBlock,Option.some.injEq] at he
   subst he
   rw [h] at hgg
   cases hgg
   exact hT zi
theorem Row.kept {l:List TypeId} {w w':World} {T:TypeId} {v:Value} {xs:List Value} (h:Row w T v xs) (k:Keep l w w') (hT:T∉l):Row w' T v xs:=by
 obtain ⟨a,cap,h1,h2,h3,h4,h5⟩:=h
 refine ⟨a,cap,h1,h2,h3,h4,fun ad had=>?_⟩
 obtain ⟨h6,arr,h7,h8⟩:=h5 ad had
 exact ⟨h6,arr,k _ _ _ hT h7,h8⟩
theorem aM.kept {l:List TypeId} {w w':World} {v:Value} {n:Nat} (h:aM w v n) (k:Keep l w w') (hT:113∉l):aM w' v n:=Row.kept h k hT
theorem aZ.kept {l:List TypeId} {w w':World} {v:Value} {n:Int} (h:aZ w v n) (k:Keep l w w') (hT:113∉l):aZ w' v n:=by
 obtain ⟨pa,l,ca,h1,h2⟩:=h
 exact ⟨pa,l,ca,h1,aM.kept h2 k hT⟩
theorem iF.kept {l:List TypeId} {f:Nat→Int} {w w':World} (k:Keep l w w') (hT:113∉l) (i:Nat) (x y:Value) (h:iF f w i x y):iF f w' i x y:=by
 obtain ⟨pa,l,ca,h1,h2,h3⟩:=h
 exact ⟨pa,l,ca,h1,h2,aM.kept h3 k hT⟩
theorem bZ.kept {l:List TypeId} {w w':World} {v:Value} {xs:List Int} (h:bZ w v xs) (k:Keep l w w') (hT:113∉l) (Yc:99∉l):bZ w' v xs:=by
 obtain ⟨a,cap,h1,h2,h3,h4,h5⟩:=h
 refine ⟨a,cap,h1,h2,h3,h4,fun ad had=>?_⟩
 obtain ⟨h6,arr,h7,h8⟩:=h5 ad had
 refine ⟨h6,arr,k _ _ _ Yc h7,fun i hi=>?_⟩
 obtain ⟨x,y,k1,k2,k3⟩:=h8 i hi
 exact ⟨x,y,k1,k2,iF.kept k hT _ _ _ k3⟩
theorem jI.kept {l:List TypeId} {w w':World} {T:TypeId} {v:Value} {xs:List Fr} (h:jI w T v xs) (k:Keep l w w') (hT:T∉l):jI w' T v xs:=by
 obtain ⟨a,cap,h1,h2,h3,h4,h5⟩:=h
 refine ⟨a,cap,h1,h2,h3,h4,fun ad had=>?_⟩
 obtain ⟨h6,arr,h7,h8⟩:=h5 ad had
 exact ⟨h6,arr,k _ _ _ hT h7,h8⟩
theorem jc {l:List TypeId} {w w':World} {base k s:Nat} {e:TypeId} {v:Value} {xs:List Value} (h:w.ownsRow base e s v k xs) (hk:Keep l w w') (hT:e∉l):w'.ownsRow base e s v k xs:=by
 refine ⟨h.1,?_⟩
 rcases h.2 with hn|⟨g,cap,cur,rfl,hb,hgg,rest⟩
 ·exact .inl hn
 ·exact .inr ⟨g,cap,cur,rfl,hb,hk g cur e hT hgg,rest⟩
theorem vM {w w':World} {base k s:Nat} {e:TypeId} {v:Value} {xs:List Value} (h:w.ownsRow base e s v k xs) (hb:Below w.heap.size w w'):w'.ownsRow base e s v k xs:=jc (l:=[]) h (Keep.of_below hb) zi
def jl {α β:Type} (R:α→β→Prop) (xs:List α) (ys:List β):Prop:=ys.length=xs.length∧∀ i (h:i<xs.length) (h':i<ys.length),R xs[i] ys[i]
theorem jl.nil {α β:Type} {R:α→β→Prop}:jl R [] []:=⟨rfl,fun i h=>by cases h⟩
theorem jl.snoc {α β:Type} {R:α→β→Prop} {xs:List α} {ys:List β} {x:α} {y:β} (h:jl R xs ys) (hr:R x y):jl R (xs++[x]) (ys++[y]):=by
 obtain ⟨h1,h2⟩:=h
 refine ⟨by simp [h1],fun i h h'=>?_⟩
 by_cases hi:i<xs.length
 ·rw [List.getElem_append_left hi,List.getElem_append_left zo]
  exact h2 i hi zo
 ·have e:i=xs.length:=by simp at h;omega
  subst e
  rw [List.getElem_append_right (Nat.le_refl _),List.getElem_append_right zo]
  simpa using hr
theorem jl.mono {α β:Type} {R S:α→β→Prop} {xs:List α} {ys:List β} (h:jl R xs ys) (k:∀ x y,R x y→S x y):jl S xs ys:=⟨h.1,fun i a b=>k _ _ (h.2 i a b)⟩
def Ci (w:World) (v:Value) (xss:List (List Int)):Prop:=∃ rs,Row w 103 v rs∧jl (fun xs r=>bZ w r xs) xss rs
def zw (w:World) (v:Value) (ds:List Nat):Prop:=∃ rs,Row w 97 v rs∧jl (fun d r=>aM w r d) ds rs
theorem Ci.later {w w':World} {v:Value} {xss:List (List Int)} (h:Ci w v xss) (hb:Below w.heap.size w w'):Ci w' v xss:=by
 obtain ⟨rs,h1,h2⟩:=h
 exact ⟨rs,h1.later hb,h2.mono fun _ _ h=>h.later hb⟩
theorem zw.later {w w':World} {v:Value} {ds:List Nat} (h:zw w v ds) (hb:Below w.heap.size w w'):zw w' v ds:=by
 obtain ⟨rs,h1,h2⟩:=h
 exact ⟨rs,h1.later hb,h2.mono fun _ _ h=>h.later hb⟩
end Go.dB
namespace Go.dB
open Go Go.Num
def quo (z y:Int):Int:=Mem.je (z.natAbs / y.natAbs) (decide (z<0) != decide (y<0))
theorem YV (z y:Int):sz 1000000000 (quo z y).natAbs≤sz 1000000000 z.natAbs:=by
 have:(quo z y).natAbs=z.natAbs / y.natAbs:=by
  unfold quo Mem.je
  split
  ·rw [Int.natAbs_neg]
   exact Int.natAbs_natCast _
  ·exact Int.natAbs_natCast _
 rw [this]
 exact gF
def Jm (xs ys:List Int) (k:Nat) (d:Int) (j:Nat):Int:=quo (ys.getD k 0*xs.getD j 0+ -(xs.getD k 0*ys.getD j 0)) d
def comb (xs ys:List Int) (k:Nat) (d:Int):List Int:=(List.range xs.length).map (Jm xs ys k d)
theorem zm (xs ys:List Int) (k:Nat) (d:Int):(comb xs ys k d).length=xs.length:=by simp [comb]
theorem Qa {xs ys:List Int} {k:Nat} {d:Int} {j:Nat} (h:j<xs.length):(comb xs ys k d).getD j 0=Jm xs ys k d j:=by simp [comb,h]
theorem Ua {xs ys:List Int} {S:Nat} (k1:∀ i,sz 1000000000 (xs.getD i 0).natAbs≤S) (k2:∀ i,sz 1000000000 (ys.getD i 0).natAbs≤S) (k:Nat) (d:Int) (j:Nat):sz 1000000000 (Jm xs ys k d j).natAbs≤2*S+1:=by
 unfold Jm
 refine Nat.le_trans (YV _ _) ?_
 have a1:=jr (ys.getD k 0) (xs.getD j 0)
 have a2:=jr (xs.getD k 0) (ys.getD j 0)
 have a3:=qx (ys.getD k 0*xs.getD j 0) (-(xs.getD k 0*ys.getD j 0))
 have b1:=k1 j
 have b2:=k2 j
 have b3:=k1 k
 have b4:=k2 k
 rw [Int.natAbs_neg] at a3
 omega
theorem WQ {xs ys:List Int} {S:Nat} (k1:∀ i,sz 1000000000 (xs.getD i 0).natAbs≤S) (k2:∀ i,sz 1000000000 (ys.getD i 0).natAbs≤S) (k:Nat) (d:Int) (j:Nat):sz 1000000000 ((comb xs ys k d).getD j 0).natAbs≤2*S+1:=by
 by_cases hj:j<xs.length
 ·rw [Qa hj];exact Ua k1 k2 k d j
 ·rw [List.getD_eq_getElem?_getD,List.getElem?_eq_none (by rw [zm];omega)]
  simp [jk]
abbrev IM:=List (List Int)
def IM.at (rs:IM) (i j:Nat):Int:=(rs.getD i []).getD j 0
def pick (rs:IM) (k:Nat):Option Nat:=(List.range rs.length).find? fun i=>decide (k≤i)&& !decide (rs.at i k=0)
theorem O8 {rs:IM} {k i:Nat} (hk:k≤i) (hi:i<rs.length) (h0:∀ j,k≤j→j<i→rs.at j k=0) (h1:rs.at i k≠0):pick rs k=some i:=by
 unfold pick
 rw [List.find?_range_eq_some]
 refine ⟨by simp [hk,h1],by simpa using hi,fun j hj=>?_⟩
 by_cases hkj:k≤j
 ·simp [h0 j hkj hj]
 ·simp [hkj]
theorem O9 {rs:IM} {k:Nat} (h0:∀ j,k≤j→j<rs.length→rs.at j k=0):pick rs k=none:=by
 unfold pick
 rw [List.find?_range_eq_none]
 intro j hj
 by_cases hkj:k≤j
 ·simp [h0 j hkj hj]
 ·simp [hkj]
def qy (rs:IM) (i k:Nat):IM:=(rs.set i (rs.getD k [])).set k (rs.getD i [])
def jS (rs:IM) (k:Nat) (p:Int) (i:Nat):List Int:=if i=k then rs.getD i [] else comb (rs.getD i []) (rs.getD k []) k p
def jT (rs:IM) (k:Nat) (p:Int):IM:=(List.range rs.length).map (jS rs k p)
theorem rU (rs:IM) (k:Nat) (p:Int):(jT rs k p).length=rs.length:=by simp [jT]
theorem qj {rs:IM} {k:Nat} {p:Int} {i:Nat} (h:i<rs.length):(jT rs k p).getD i []=jS rs k p i:=by simp [jT,h]
def elim:Nat→Nat→IM→Int→Bool→Int × Bool × IM
 | 0,_,rs,p,t=>(p,t,rs)
 | m+1,k,rs,p,t=>match pick rs k with
  | none=>(0,false,rs)
  | some i=>elim m (k+1) (jT (if i=k then rs else qy rs i k) k p) ((if i=k then rs else qy rs i k).at k k) (if i=k then t else !t)
def IM.fits (rs:IM) (n c S:Nat):Prop:=rs.length=n∧(∀ i,i<n→(rs.getD i []).length=c)∧∀ i j,sz 1000000000 (rs.at i j).natAbs≤S
theorem vG {rs:IM} {n i k j:Nat} (h1:rs.length=n) (hi:i<n) (hk:k<n) (hj:j<n):(qy rs i k).getD j []=rs.getD (if j=k then i else if j=i then k else j) []:=by
 unfold qy
 simp only [List.getD_eq_getElem?_getD,List.getElem?_set,List.length_set]
 by_cases e1:j=k
 ·subst e1
  simp [h1,hj]
 ·have e1':¬ k=j:=fun e=>e1 e.symm
  rw [if_neg e1',if_neg e1]
  by_cases e2:j=i
  ·subst e2
   simp [h1,hj]
  ·have e2':¬ i=j:=fun e=>e2 e.symm
   rw [if_neg e2',if_neg e2]
theorem IM.fits.swap {rs:IM} {n c S i k:Nat} (h:rs.fits n c S) (hi:i<n) (hk:k<n):(qy rs i k).fits n c S:=by
 obtain ⟨h1,h2,h3⟩:=h
 have key:=fun j hj=>vG (j:=j) h1 hi hk hj
 refine ⟨by simp [qy,h1],fun j hj=>?_,fun j l=>?_⟩
 ·rw [key j hj]
  split
  ·exact h2 i hi
  ·split
   ·exact h2 k hk
   ·exact h2 j hj
 ·by_cases hj:j<n
  ·unfold IM.at
   rw [key j hj]
   exact h3 _ l
  ·unfold IM.at
   have e:(qy rs i k).getD j []=[]:=by rw [List.getD_eq_getElem?_getD,List.getElem?_eq_none (by simp [qy,h1];omega)];rfl
   rw [e]
   simp [jk]
theorem OQ {rs:IM} {n i k:Nat} (h1:rs.length=n) (hi:i<n) (hk:k<n):(qy rs i k).at k k=rs.at i k:=by
 unfold IM.at qy
 simp only [List.getD_eq_getElem?_getD,List.getElem?_set,List.length_set]
 simp [h1,hk]
theorem IM.fits.clear {rs:IM} {n c S k:Nat} (h:rs.fits n c S) (p:Int):(jT rs k p).fits n c (2*S+1):=by
 obtain ⟨h1,h2,h3⟩:=h
 refine ⟨by rw [rU,h1],fun j hj=>?_,fun j l=>?_⟩
 ·rw [qj zo]
  unfold jS
  split
  ·exact h2 j hj
  ·rw [zm];exact h2 j hj
 ·by_cases hj:j<n
  ·unfold IM.at
   rw [qj zo]
   unfold jS
   split
   ·have:=h3 j l;unfold IM.at at this;omega
   ·exact WQ (fun i=>h3 j i) (fun i=>h3 k i) k p l
  ·unfold IM.at
   have e:(jT rs k p).getD j []=[]:=by rw [List.getD_eq_getElem?_getD,List.getElem?_eq_none (by rw [rU];omega)];rfl
   rw [e]
   simp [jk]
def ext (rs:IM):IM:=(List.range rs.length).map fun i=>(List.range (2*rs.length)).map fun j=>if j<rs.length then rs.at i j else if j=rs.length+i then 1 else 0
theorem IM.fits.mono {rs:IM} {n c S S':Nat} (h:rs.fits n c S) (k:S≤S'):rs.fits n c S':=⟨h.1,h.2.1,fun i j=>Nat.le_trans (h.2.2 i j) k⟩
theorem Vv {rs:IM} {k i:Nat} (h:pick rs k=some i):i<rs.length:=by
 unfold pick at h
 rw [List.find?_range_eq_some] at h
 simpa using h.2.1
def D6 (S:Nat):Nat→Nat
 | 0=>S
 | m+1=>D6 (2*S+1) m
theorem IJ:∀ (m S:Nat),S≤D6 S m
 | 0,_=>Nat.le_refl _
 | m+1,S=>Nat.le_trans zo (IJ m (2*S+1))
theorem Tx {S m:Nat} (h:m≤4):D6 S m≤16*S+15:=by
 have:m=0∨m=1∨m=2∨m=3∨m=4:=by omega
 rcases this with rfl|rfl|rfl|rfl|rfl<;>simp [D6]<;>omega
theorem D7 {n c:Nat}:∀ (m k S:Nat) (rs:IM) (p:Int) (t:Bool),rs.fits n c S→sz 1000000000 p.natAbs≤S→k+m≤n→(elim m k rs p t).2.2.fits n c (D6 S m)∧sz 1000000000 (elim m k rs p t).1.natAbs≤D6 S m
 | 0,k,S,rs,p,t,h,hp,_=>⟨h,hp⟩
 | m+1,k,S,rs,p,t,h,hp,hk=>by
  unfold elim
  split
  ·exact ⟨h.mono (IJ _ _),by simp [jk]⟩
  ·rename_i i hi
   have hin:=Vv hi
   rw [h.1] at hin
   have h1:IM.fits (if i=k then rs else qy rs i k) n c S:=by
    split
    ·exact h
    ·exact h.swap hin zo
   exact D7 m (k+1) (2*S+1) _ _ _ (h1.clear p) (Nat.le_trans (h1.2.2 k k) zo) zo
theorem Ja {rs:IM} {n S:Nat} (h:rs.fits n n S) (hS:1≤S):(ext rs).fits n (2*n) S:=by
 obtain ⟨h1,h2,h3⟩:=h
 have hrow:∀ i,i<n→(ext rs).getD i []=(List.range (2*n)).map fun j=>if j<n then rs.at i j else if j=n+i then 1 else 0:=fun i hi=>by
  unfold ext
  rw [h1]
  simp [hi]
 refine ⟨by simp [ext,h1],fun i hi=>by rw [hrow i hi];simp,fun i j=>?_⟩
 unfold IM.at
 by_cases hi:i<n
 ·rw [hrow i hi]
  by_cases hj:j<2*n
  ·have e:((List.range (2*n)).map fun j=>if j<n then rs.at i j else if j=n+i then (1:Int) else 0).getD j 0=if j<n then rs.at i j else if j=n+i then 1 else 0:=by simp [hj]
   rw [e]
   split
   ·exact h3 i j
   ·split
    ·have:sz 1000000000 (1:Int).natAbs=1:=by decide+kernel
     omega
    ·simp [jk]
  ·rw [List.getD_eq_getElem?_getD,List.getElem?_eq_none (by simp;omega)]
   simp [jk]
 ·have e:(ext rs).getD i []=[]:=by rw [List.getD_eq_getElem?_getD,List.getElem?_eq_none (by simp [ext,h1];omega)];rfl
  rw [e]
  simp [jk]
end Go.dB
namespace Go.dB
open Go Go.RowKit Go.Num Go.Mem
def Off (P:Nat) (v:Value):Prop:=∀ a m c,v= .slice (some a) m c→a.block≠P
def gG (w:World) (P B off n:Nat) (f:Nat→List Int):Prop:=∃ arr,aB w B arr 103∧∀ i,i<n→∃ v,arr[off+i]? =some v∧bZ w v (f i)∧Off P v
theorem gG.uS {w:World} {P B off n:Nat} {f:Nat→List Int} (h:gG w P B off n f):vX w B 103:=by
 obtain ⟨arr,h1, -⟩:=h
 exact h1.uS
theorem gG.lt {w:World} {P B off n:Nat} {f:Nat→List Int} (h:gG w P B off n f):B<w.heap.size:=by
 obtain ⟨arr,h1, -⟩:=h
 exact h1.lt
theorem gG.free {w:World} {P B off n:Nat} {f:Nat→List Int} (h:gG w P B off n f) (o:Nat):w.frozen? ⟨B,o,none⟩=false:=by
 obtain ⟨arr,h1, -⟩:=h
 exact h1.free o
theorem gG.later {w w':World} {P B off n:Nat} {f:Nat→List Int} (h:gG w P B off n f) (hb:Below w.heap.size w w'):gG w' P B off n f:=by
 obtain ⟨arr,h1,h2⟩:=h
 refine ⟨arr,h1.later hb,fun i hi=>?_⟩
 obtain ⟨v,k1,k2,k3⟩:=h2 i hi
 exact ⟨v,k1,k2.later hb,k3⟩
theorem gG.congr {w:World} {P B off n:Nat} {f g:Nat→List Int} (h:gG w P B off n f) (e:∀ i,i<n→f i=g i):gG w P B off n g:=by
 obtain ⟨arr,h1,h2⟩:=h
 refine ⟨arr,h1,fun i hi=>?_⟩
 obtain ⟨v,k1,k2,k3⟩:=h2 i hi
 exact ⟨v,k1,e i hi ▸ k2,k3⟩
theorem gG.get {w:World} {P B off n:Nat} {f:Nat→List Int} (h:gG w P B off n f) {i:Nat} (hi:i<n) :
  ∃ a c,w.cell? ⟨B,off+i,none⟩=some (.slice a (f i).length c)∧(f i).length≤c∧c≤9223372036854775807∧bZ w (.slice a (f i).length c) (f i)∧Off P (.slice a (f i).length c):=by
 obtain ⟨arr,h1,h2⟩:=h
 obtain ⟨v,k1,k2,k3⟩:=h2 i hi
 obtain ⟨a,c,rfl,k4,k5, -⟩:=k2.read
 exact ⟨a,c,(h1.cell _).trans k1,k4,k5,k2,k3⟩
theorem bZ.elem {w:World} {P:Nat} {a:Option Addr} {m c:Nat} {l:List Int} (h:bZ w (.slice a m c) l) (ho:Off P (.slice a m c)) {j:Nat} (hj:j<l.length) :
  ∃ b o pa n ca,a=some ⟨b,o,none⟩∧b≠P∧b<w.heap.size∧w.cell? ⟨b,o+j*2,none⟩=some (.slice pa n ca)∧w.cell? ⟨b,o+j*2+1,none⟩=some (.bool (decide (l.getD j 0<0)))∧aM w (.slice pa n ca) (l.getD j 0).natAbs:=by
 obtain ⟨a',c',e, -, -, h2⟩:=h.read
 simp only [Value.slice.injEq] at e
 obtain ⟨rfl,rfl,rfl⟩:=e
 obtain ⟨b,o,pa,n,ca,rfl,k1,k2,k3,k4⟩:=h2 j hj
 exact ⟨b,o,pa,n,ca,rfl,ho _ _ _ rfl,k1,k2,k3,k4⟩
theorem bZ.sF {w:World} {P o:Nat} {v u:Value} {l:List Int} (h:bZ w v l) (hv:Off P v) (hP:vX w P 99):bZ (w.setCell ⟨P,o,none⟩ u) v l:=by
 obtain ⟨a,cap,h1,h2,h3,h4,h5⟩:=h
 refine ⟨a,cap,h1,h2,h3,h4,fun ad had=>?_⟩
 subst had
 obtain ⟨h6,arr,h7,h8⟩:=h5 ad rfl
 refine ⟨h6,arr,h7.setOther u (hv ad _ _ h1),fun i hi=>?_⟩
 obtain ⟨x,y,k1,k2,k3⟩:=h8 i hi
 exact ⟨x,y,k1,k2,iF.lJ hP zd _ _ _ k3⟩
theorem gG.sF {w:World} {P B off n o:Nat} {f:Nat→List Int} {u:Value} (h:gG w P B off n f) (hP:vX w P 99):gG (w.setCell ⟨P,o,none⟩ u) P B off n f:=by
 obtain ⟨arr,h1,h2⟩:=h
 obtain ⟨cs,hx⟩:=hP
 refine ⟨arr,h1.setOther u (h1.ne hx zd),fun i hi=>?_⟩
 obtain ⟨v,k1,k2,k3⟩:=h2 i hi
 exact ⟨v,k1,k2.sF k3 ⟨cs,hx⟩,k3⟩
theorem gG.set {w:World} {P B off n i:Nat} {f:Nat→List Int} {v:Value} {xs:List Int} (h:gG w P B off n f) (hi:i<n) (hv:bZ w v xs) (ho:Off P v):gG (w.setCell ⟨B,off+i,none⟩ v) P B off n (fun j=>if j=i then xs else f j):=by
 have hB:=h.uS
 obtain ⟨arr,h1,h2⟩:=h
 have hs:off+i<arr.size:=by
  obtain ⟨u,k1, -⟩:=h2 i hi
  exact (Array.getElem?_eq_some_iff.1 k1).1
 refine ⟨arr.setIfInBounds (off+i) v,h1.set _ _,fun j hj=>?_⟩
 by_cases e:j=i
 ·subst e
  refine ⟨v,?_,?_,ho⟩
  ·rw [Array.getElem?_setIfInBounds,if_pos rfl,if_pos hs]
  ·simp only [if_true]
   exact hv.kept (Keep.setCell hB) zd zd
 ·obtain ⟨u,k1,k2,k3⟩:=h2 j hj
  refine ⟨u,?_,?_,k3⟩
  ·rw [Array.getElem?_setIfInBounds,if_neg zo,k1]
  ·simp only [if_neg e]
   exact k2.kept (Keep.setCell hB) zd zd
def tQ (w:World) (B off n:Nat) (f:Nat→List Int):Prop:=∃ arr,aB w B arr 103∧∀ i,i<n→∃ v,arr[off+i]? =some v∧bZ w v (f i)
theorem gG.XH {w:World} {P B off n:Nat} {f:Nat→List Int} (h:gG w P B off n f):tQ w B off n f:=by
 obtain ⟨arr,h1,h2⟩:=h
 refine ⟨arr,h1,fun i hi=>?_⟩
 obtain ⟨v,k1,k2, -⟩:=h2 i hi
 exact ⟨v,k1,k2⟩
theorem bZ.off {w:World} {v:Value} {l:List Int} (h:bZ w v l) {P:Nat} (hP:w.heap.size≤P):Off P v:=by
 obtain ⟨a,cap,h1,h2,h3,h4,h5⟩:=h
 intro ad m c e
 rw [h1] at e
 simp only [Value.slice.injEq] at e
 obtain ⟨rfl, -, -⟩:=e
 obtain ⟨-, arr,h7, -⟩:=h5 ad rfl
 have:=h7.lt
 omega
theorem tQ.XG {w:World} {B off n:Nat} {f:Nat→List Int} (h:tQ w B off n f):gG w w.heap.size B off n f:=by
 obtain ⟨arr,h1,h2⟩:=h
 refine ⟨arr,h1,fun i hi=>?_⟩
 obtain ⟨v,k1,k2⟩:=h2 i hi
 exact ⟨v,k1,k2,k2.off (Nat.le_refl _)⟩
theorem gG.alloc {w:World} {P B off n:Nat} {f:Nat→List Int} (h:gG w P B off n f) (o:Obj):gG (w.alloc o) P B off n f:=h.later ((Below.refl _ _).alloc (Nat.le_refl _) _)
theorem gG.drew {w:World} {P B off n:Nat} {f:Nat→List Int} (h:gG w P B off n f):gG w.drew P B off n f:=h.later (Below.drew (Below.refl _ _))
def gY (w w':World) (B:Nat):Prop:=w.grownBy w' (some B)
theorem gY.refl (w:World) (B:Nat):gY w w B:=DK w _
theorem gY.below {a w w':World} {B:Nat} (h:gY a w B) (hb:Below w.heap.size w w'):gY a w' B :=
 ⟨hb.os.trans h.os,hb.tape.trans h.tape,hb.output.trans h.output,Nat.le_trans h.size hb.size,fun i hi hne=>(hb.block i (Nat.lt_of_lt_of_le hi h.size)).trans (h.block i hi hne)⟩
theorem gY.set {a w:World} {B:Nat} (h:gY a w B) (o:Nat) (u:Value):gY a (w.setCell ⟨B,o,none⟩ u) B:=sK h o u
theorem gY.gT {a w:World} {B P:Nat} (h:gY a w B) (hP:a.heap.size≤P) (o:Nat) (u:Value):gY a (w.setCell ⟨P,o,none⟩ u) B :=
 ⟨h.os,h.tape,h.output,by simpa [World.setCell] using h.size,fun i hi hne=>(Below.heap_setCell w _ u i (by rintro rfl;exact absurd hi (by simp;omega))).trans (h.block i hi hne)⟩
theorem gY.size {a w:World} {B:Nat} (h:gY a w B):a.heap.size≤w.heap.size:=World.grownBy.size h
theorem gY.toBelow {b a w:World} {B:Nat} (h:gY a w B) (hb:Below b.heap.size b a) (hB:b.heap.size≤B):Below b.heap.size b w :=
 vB hb h hb.size hB
def gB (w:World) (M n k:Nat) (f:Nat→List Fr):Prop :=
 ∃ arr,aB w M arr 56∧arr.size=n∧∀ i,i<k→∃ v,arr[i]? =some v∧jI w 36 v (f i)
theorem gB.lt {w:World} {M n k:Nat} {f:Nat→List Fr} (h:gB w M n k f):M<w.heap.size:=by
 obtain ⟨arr,h1, -⟩:=h
 exact h1.lt
theorem gB.uS {w:World} {M n k:Nat} {f:Nat→List Fr} (h:gB w M n k f):vX w M 56:=by
 obtain ⟨arr,h1, -⟩:=h
 exact h1.uS
theorem gB.later {w w':World} {M n k:Nat} {f:Nat→List Fr} (h:gB w M n k f) (hb:Below w.heap.size w w'):gB w' M n k f:=by
 obtain ⟨arr,h1,h2,h3⟩:=h
 refine ⟨arr,h1.later hb,h2,fun i hi=>?_⟩
 obtain ⟨v,k1,k2⟩:=h3 i hi
 exact ⟨v,k1,k2.later hb⟩
theorem gB.cell {w:World} {M n k:Nat} {f:Nat→List Fr} (h:gB w M n k f) {j:Nat} (hj:j<n):(∃ x,w.cell? ⟨M,j,none⟩=some x)∧∀ o,w.frozen? ⟨M,o,none⟩=false:=by
 obtain ⟨arr,h1,h2, -⟩:=h
 exact ⟨⟨arr[j]'zo,by rw [h1.cell];exact Array.getElem?_eq_getElem _⟩,h1.free⟩
theorem gB.start {w:World} {base g n:Nat} {z:Array Value} {f:Nat→List Fr} (h:w.ownsRow base 56 1 (.slice (some ⟨g,0,none⟩) n n) n (madeCells z n).toList):gB w g n 0 f:=by
 obtain ⟨h1,h2|⟨g',cap,cur,h3,h4,h5,h6,h7,h8,h9⟩⟩:=h
 ·cases h2.1
 ·simp only [Value.slice.injEq,Option.some.injEq,Addr.mk.injEq,and_true,true_and] at h3
  obtain ⟨rfl,rfl⟩:=h3
  exact ⟨cur,h5,by omega,fun i hi=>by omega⟩
theorem aB.uniq {w:World} {b:Nat} {cs cs':Array Value} {T T':TypeId} (h:aB w b cs T) (h':aB w b cs' T'):cs=cs':=by
 unfold aB at *
 rw [h] at h'
 injection h' with e
 injection e
theorem gY.box {w w':World} {M b:Nat} {cs:Array Value} {T:TypeId} (h:gY w w' M) (hb:aB w b cs T) (hne:b≠M):aB w' b cs T:=by
 have hl:=hb.lt
 unfold aB at *
 rw [World.grownBy.block h b hl (by simpa using hne)]
 exact hb
theorem jI.near {w w':World} {M:Nat} {T T':TypeId} {v:Value} {l:List Fr} (h:jI w T v l) (k:gY w w' M) (hM:vX w M T') (hT:T≠T'):jI w' T v l:=by
 obtain ⟨a,cap,h1,h2,h3,h4,h5⟩:=h
 refine ⟨a,cap,h1,h2,h3,h4,fun ad had=>?_⟩
 obtain ⟨h6,arr,h7,h8⟩:=h5 ad had
 obtain ⟨cs,hM⟩:=hM
 exact ⟨h6,arr,k.box h7 (h7.ne hM hT),h8⟩
theorem gB.step {w w':World} {M n k:Nat} {f:Nat→List Fr} {v:Value} (h:gB w M n k f) (hk:k<n) (hn:gY w w' M)
  (hb:∀ arr,aB w M arr 56→aB w' M (arr.setIfInBounds k v) 56) (hv:jI w' 36 v (f k)):gB w' M n (k+1) f:=by
 have hM:=h.uS
 obtain ⟨arr,h1,h2,h3⟩:=h
 refine ⟨arr.setIfInBounds k v,hb _ h1,by simp [h2],fun i hi=>?_⟩
 rcases Nat.lt_or_ge i k with h|h
 ·obtain ⟨u,k1,k2⟩:=h3 i h
  refine ⟨u,?_,k2.near hn hM zd⟩
  rw [Array.getElem?_setIfInBounds,if_neg zo,k1]
 ·obtain rfl:i=k:=by omega
  refine ⟨v,?_,hv⟩
  rw [Array.getElem?_setIfInBounds,if_pos rfl,if_pos zo]
theorem gB.zC {w:World} {M:Nat} {m:List (List Fr)} (h:gB w M m.length m.length (fun i=>m.getD i [])) (hm:m.length≤1000000):bO w (.slice (some ⟨M,0,none⟩) m.length m.length) m:=by
 obtain ⟨arr,h1,h2,h3⟩:=h
 refine ⟨arr.toList,Row.mk ?_ ?_ zo h1 ?_,?_,?_⟩
 ·simp [h2]
 ·simp [h2]
 ·intro i hi
  rw [Nat.zero_add]
  simp at hi
  simp [hi]
 ·simp [h2]
 ·intro i hi hi'
  obtain ⟨v,k1,k2⟩:=h3 i hi'
  have e:arr.toList[i]=v:=by
   rw [Array.getElem_toList]
   exact (Array.getElem?_eq_some_iff.1 k1).2
  rw [e]
  have e2:m.getD i []=m[i]:=by simp [hi']
  rw [← e2]
  exact k2
def aS (w:World) (er:Int) (m:List (List Fr)) (e:Ending) (w':World):Prop :=
 Below w.heap.size w w'∧∃ v,e= .returned (.tuple #[v,.int .i64 er])∧(er=0→bO w' v m)∧(er≠0→v= .slice none 0 0)
theorem aS.no {w w':World} {er:Int} {m:List (List Fr)} (hb:Below w.heap.size w w') (he:er≠0):aS w er m (.returned (.tuple #[.slice none 0 0,.int .i64 er])) w' :=
 ⟨hb,_,rfl,fun h=>absurd h he,fun _=>rfl⟩
theorem aS.yes {w w':World} {m:List (List Fr)} {v:Value} (hb:Below w.heap.size w w') (hv:bO w' v m):aS w 0 m (.returned (.tuple #[v,.int .i64 0])) w' :=
 ⟨hb,_,rfl,fun _=>hv,fun h=>absurd rfl h⟩
def Fr.zero:Fr:=⟨⟨#[48]⟩,⟨#[49]⟩⟩
def Fr.one:Fr:=⟨⟨#[49]⟩,⟨#[49]⟩⟩
def nP (l:List Fr) (r:Nat):List Fr:=(List.range l.length).map fun c=>if c=r then l.getD r Fr.no else Fr.zero
def oG (l:List Fr):List (List Fr):=(List.range l.length).map (nP l)
def TS (l:List Fr):Int:=if l.length<1∨4<l.length then 2 else dP l
theorem Fill.put {w:World} {G n j:Nat} {T:TypeId} {f:Nat→Fr} {x:Fr} (h:Fill w G T n n (xR f)) (hj:j<n) :
  Fill ((w.setCell ⟨G,j*2,none⟩ (.string x.n)).setCell ⟨G,j*2+1,none⟩ (.string x.d)) G T n n (xR fun c=>if c=j then x else f c):=by
 obtain ⟨arr,h1,h2,h3⟩:=h
 refine ⟨(arr.setIfInBounds (j*2) (.string x.n)).setIfInBounds (j*2+1) (.string x.d),(h1.set _ _).set _ _,by simp [h2],fun i hi=>?_⟩
 by_cases e:i=j
 ·subst e
  refine ⟨.string x.n,.string x.d,?_,?_,?_⟩
  ·rw [Array.getElem?_setIfInBounds,if_neg zo,Array.getElem?_setIfInBounds,if_pos rfl,if_pos zo]
  ·rw [Array.getElem?_setIfInBounds,if_pos rfl,if_pos (by simp;omega)]
  ·unfold xR
   simp only [if_true,and_self]
 ·obtain ⟨x',y',k1,k2,k3⟩:=h3 i hi
  refine ⟨x',y',?_,?_,?_⟩
  ·rw [Array.getElem?_setIfInBounds,if_neg zo,Array.getElem?_setIfInBounds,if_neg zo,k1]
  ·rw [Array.getElem?_setIfInBounds,if_neg zo,Array.getElem?_setIfInBounds,if_neg zo,k2]
  ·unfold xR at *
   simp only [if_neg e]
   exact k3
theorem Fill.other {w:World} {g:Nat} {T:TypeId} {n k:Nat} {f:Nat→Fr} (h:Fill w g T n k (xR f)) {a:Addr} (u:Value) (hne:g≠a.block):Fill (w.setCell a u) g T n k (xR f):=by
 obtain ⟨arr,h1,h2,h3⟩:=h
 exact ⟨arr,h1.setOther u hne,h2,h3⟩
theorem Fill.yA {w w':World} {g:Nat} {T:TypeId} {n k:Nat} {f:Nat→Fr} (h:Fill w g T n k (xR f)) (hb:Below w.heap.size w w'):Fill w' g T n k (xR f):=h.later hb (fun _ _ _ h=>h)
theorem Fill.zL {w:World} {g:Nat} {T:TypeId} {n:Nat} {l:List Fr} (h:Fill w g T n n (xR fun i=>l.getD i Fr.no)) (hn:l.length=n) (hl:n≤1000000):jI w T (.slice (some ⟨g,0,none⟩) n n) l:=by
 subst hn
 exact jI.uy h hl
theorem Fill.BQ {w:World} {g:Nat} {T:TypeId} {n k:Nat} {f f':Nat→Fr} (h:Fill w g T n k (xR f)) (e:∀ i,i<k→f i=f' i):Fill w g T n k (xR f'):=by
 obtain ⟨arr,h1,h2,h3⟩:=h
 refine ⟨arr,h1,h2,fun i hi=>?_⟩
 obtain ⟨x,y,k1,k2,k3⟩:=h3 i hi
 refine ⟨x,y,k1,k2,?_⟩
 unfold xR at *
 rw [← e i hi]
 exact k3
end Go.dB
namespace Go.dB
open Go Go.Num
def cK (qs:List Rat):Nat:=qs.foldl (fun a q=>a*(q.den / a.gcd q.den)) 1
def jN (D:Nat) (q:Rat):Int:=q.num*((D / q.den:Nat):Int)
theorem yH (qs:List Rat) (q:Rat):cK (qs++[q])=cK qs*(q.den / (cK qs).gcd q.den):=by simp [cK]
theorem Qc {qs:List Rat} {k:Nat} (h:k<qs.length):cK (qs.take (k+1))=cK (qs.take k)*(qs[k].den / (cK (qs.take k)).gcd qs[k].den):=by
 rw [List.take_succ_eq_append_getElem h,yH]
theorem sw {α:Type} {Q:List α→Prop} (h0:Q []) (h1:∀ l a,Q l→Q (l++[a])) (l:List α):Q l:=by
 have:∀ n (l:List α),l.length=n→Q l:=by
  intro n
  induction n with
  | zero=>intro l hl;rw [List.length_eq_zero_iff] at hl;subst hl;exact h0
  | succ n ih =>
   intro l hl
   have hne:l≠[]:=fun e=>by subst e;simp at hl
   rw [← List.dropLast_concat_getLast hne]
   exact h1 _ _ (ih _ (by simp [hl]))
 exact this _ l rfl
theorem jD (qs:List Rat):0<cK qs∧(∀ q∈qs,q.den ∣ cK qs):=by
 induction qs using sw with
 | h0=>exact ⟨by simp [cK],fun q h=>by cases h⟩
 | h1 l a ih =>
  obtain ⟨h1,h2⟩:=ih
  rw [yH]
  have hg:(cK l).gcd a.den ∣ a.den:=Nat.gcd_dvd_right _ _
  refine ⟨Nat.mul_pos h1 (Nat.div_pos (Nat.le_of_dvd a.den_pos hg) (Nat.gcd_pos_of_pos_right _ a.den_pos)),fun q hq=>?_⟩
  rcases List.mem_append.1 hq with h|h
  ·exact Nat.dvd_trans (h2 q h) (Nat.dvd_mul_right _ _)
  ·rw [List.mem_singleton] at h
   subst h
   obtain ⟨c,hc⟩:=Nat.gcd_dvd_left (cK l) q.den
   rw [← Nat.mul_div_assoc _ hg,Nat.mul_div_right_comm (Nat.gcd_dvd_left _ _)]
   exact Nat.dvd_mul_left _ _
theorem rF (qs:List Rat) (h:∀ q∈qs,dA q=true):sz 1000000000 (cK qs)≤67*qs.length+1:=by
 induction qs using sw with
 | h0=>exact cZ zo 1 _ (by simp [cK])
 | h1 l a ih =>
  rw [yH,List.length_append,List.length_singleton]
  have h1:=ih (fun q hq=>h q (by simp [hq]))
  have h2:=(gL (h a zi)).2
  have h3:=qV (B:=1000000000) zo (cK l) (a.den / (cK l).gcd a.den)
  have h4:= @gF a.den ((cK l).gcd a.den)
  omega
theorem NH {D:Nat} {q:Rat} (hD:0<D) (h:q.den ∣ D):((jN D q:Int):Rat) / ((D:Nat):Rat)=q:=by
 obtain ⟨c,rfl⟩:=h
 have hc:0<c:=by rcases Nat.eq_zero_or_pos c with e|e;subst e;simp at hD;exact e
 unfold jN
 rw [Nat.mul_div_cancel_left _ q.den_pos]
 have e:q=(q.num:Rat) / ((q.den:Nat):Rat):=by
  rw [← Rat.mkRat_eq_div,Rat.mkRat_self]
 have h1:((q.den:Nat):Rat)≠0:=by
  rw [Ne,Rat.natCast_eq_zero_iff]
  exact q.den_nz
 have h2:((c:Nat):Rat)≠0:=by
  rw [Ne,Rat.natCast_eq_zero_iff]
  omega
 rw [Rat.intCast_mul,Rat.natCast_mul,Rat.intCast_natCast]
 generalize hn:(q.num:Rat)=n at *
 generalize hd:((q.den:Nat):Rat)=d at *
 generalize hcc:((c:Nat):Rat)=c' at *
 rw [e]
 grind
end Go.dB
namespace Go.SW
open Go Go.RowKit
section
variable {P:Program} {ops:Array Oper} {Q:Exit→Act→World→Prop}
theorem JG {a:Act} {w:World} (is:List (K × Nat)) (hc:check ops is=true) (hal:qO P ops is)
  (hQ:∀ c (a s:Act) w,s.defers=a.defers→Q (.panic c) a w→Q (.panic c) s w)
  (h:walk P ops Q w.heap.size is [] a w.drew):wpAny P .any ops Q ops.size (Array.replicate ops.size false) a w.drew:=by
 unfold check at hc
 simp only [Bool.and_eq_true,decide_eq_true_eq] at hc
 obtain ⟨⟨⟨⟨⟨h1,h2⟩,h3⟩,h4⟩,h5⟩,h6⟩:=hc
 refine AY h1 h2 hQ w.heap.size ops.size is [] [] [] _ a a w.drew ?_ ?_ h3 h4 zi zi hal ?_ h
 ·rw [ql];exact h5
 ·refine ⟨by simp,fun i hi=>?_,fun j o hj hl=>?_,rfl,rfl,fun t _ _=>rfl,by simp,by simp,by simp,by simp⟩
  ·have hmem:i∈is.map (·.2):=by simpa using List.all_eq_true.1 h6 i (List.mem_range.2 hi)
   simp [hi] 
   simpa using hmem
  ·have hj':=(Array.getElem?_eq_some_iff.1 hj).1
   simp [hj'] at hl
 ·exact ⟨by simp,by simp,by simp,by simp,Nat.le_refl _⟩
end
theorem Ii {n l:Nat} {P:Program} {row:String} {args:Array Value} {w:World} {R:Value→World→Prop} (h:Rows P row args w R):RowsIn (Fence.wide.inRound l) n P row args w R :=
 fun c cs _=>let ⟨v,w',r,s⟩:=h c cs;⟨v,w',r,stepsIn_wide.2 s⟩
theorem Aq {P:Program} {n l:Nat} {o:Oper} {a:Act} {K:Act→World→Prop} {Q:Exit→Act→World→Prop} {r:Result Next} (h:o.upon P a K Q r):o.uponIn (Fence.wide.inRound l) n P a K Q r:=by
 cases r with
 | ok x w' =>
  cases x<;>simp only [Oper.upon,Oper.uponIn] at h ⊢<;>first|exact h|exact ⟨fun e=>(by cases e),CallsIn.inRound l (callsIn_wide.2 h)⟩|exact ⟨fun e=>(by cases e),Ii h⟩|exact h.elim
 | halt x w'=>cases x<;>simp only [Oper.upon,Oper.uponIn] at h ⊢<;>first|exact h|exact h.elim
theorem J8 {P:Program} {n l:Nat} {o:Oper} {a:Act} {w:World} {K:Act→World→Prop} {Q:Exit→Act→World→Prop} (hd:∀ c,o.op≠ .defer c) (h:o.wp P a w K Q):o.wpIn (Fence.wide.inRound l) n P a w K Q:=by
 refine ⟨fun _ _=>trivial,?_⟩
 have e:o.semAt (Fence.wide.inRound l).round a.eval=execOp a.eval o:=Oper.semAt_eq _ _ _ hd
 rw [e]
 exact Aq h
theorem Ai {P:Program} {n l:Nat} {ops:Array Oper} {i:Nat} {a:Act} {w:World} {K:Act→World→Prop} {Q:Exit→Act→World→Prop} (hd:∀ (i:Nat) o,ops[i]? =some o→∀ c,o.op≠ .defer c) (hQ:¬ LetsOut Q) (h:wpOp P ops Q i K a w):wpOpIn (Fence.wide.inRound l) n P ops Q i K a w:=by
 unfold wpOp at h
 unfold wpOpIn
 split
 ·rename_i e;simpa [e] using h
 ·rename_i o e
  simp only [e] at h
  split
  ·rename_i hw
   simp only [hw,if_true] at h
   rcases h with h|h
   ·exact J8 (hd i o e) h
   ·exact absurd h.2 hQ
  ·rename_i hw
   simp only [hw] at h
   exact ⟨fun _ _=>trivial,h⟩
theorem qp {P:Program} {n l:Nat} {ops:Array Oper} {md:Region.Mode} {Q:Exit→Act→World→Prop} (hd:∀ (i:Nat) o,ops[i]? =some o→∀ c,o.op≠ .defer c) (hQ:¬ LetsOut Q):∀ (fuel:Nat) (listed:Array Bool) (a:Act) (w:World),wpAny P md ops Q fuel listed a w→wpAnyIn (Fence.wide.inRound l) n P md ops Q fuel listed a w
 | 0,_,_,_,h=>h
 | fuel+1,_,_,_,h=>⟨h.1,fun i hi=>wpOpIn_mono (fun a w h=>qp hd hQ fuel _ a w h) (Ai hd hQ (h.2 i hi))⟩
def M9 (ops:Array Oper):Bool:=ops.all fun o=>match o.op with| .defer _=>false| _=>true
theorem FQ {ops:Array Oper} (h:M9 ops=true):∀ (i:Nat) o,ops[i]? =some o→∀ c,o.op≠ .defer c:=fun i o e c hc=>by
 have h2:=Array.getElem?_eq_some_iff.1 e
 obtain ⟨hi,rfl⟩:=h2
 have:=Array.all_eq_true.1 h i hi
 rw [hc] at this
 cases this
theorem xU {P:Program} {n l id:Nat} {ops:Array Oper} {Q:Exit→Act→World→Prop} {a:Act} {w:World} (is:List (K × Nat)) (hm:P.follows .mixedOrders=true) (hd:M9 ops=true) (hc:check ops is=true) (hal:qO P ops is) (hQ0:¬ LetsOut Q)
  (hQ:∀ c (a s:Act) w,s.defers=a.defers→Q (.panic c) a w→Q (.panic c) s w)
  (h:walk P ops Q w.heap.size is [] a w.drew):(Code.region id ops true).wpIn (Fence.wide.inRound l) n P Q a w :=
 wpIn_region_any hm (qp (FQ hd) hQ0 _ _ _ _ (JG is hc hal hQ h))
end Go.SW
namespace Go.dB
open Go Go.Num
def dK (r s:List Rat):Rat:=(List.zipWith (· * ·) r s).foldl (· + ·) 0
def wK (f:Nat→Int):Nat→Int
 | 0=>0
 | k+1=>wK f k+f k
def jP (f:Nat→Rat):Nat→Rat
 | 0=>0
 | k+1=>jP f k+f k
theorem oW {f g:Nat→Rat}:∀ {n:Nat},(∀ i,i<n→f i=g i)→jP f n=jP g n
 | 0,_=>rfl
 | n+1,h=>by simp only [jP];rw [oW (fun i hi=>h i zo),h n zo]
theorem DF (f:Nat→Int) (d:Rat):∀ n,((wK f n:Int):Rat) / d=jP (fun i=>((f i:Int):Rat) / d) n
 | 0=>by simp [wK,jP,Rat.div_def]
 | n+1=>by
  simp only [wK,jP]
  rw [← DF f d n,Rat.intCast_add,Rat.div_def,Rat.div_def,Rat.div_def,Rat.add_mul]
theorem I8 (xs:List Rat):xs.foldl (· + ·) 0=jP (fun i=>xs.getD i 0) xs.length:=by
 induction xs using sw with
 | h0=>rfl
 | h1 l a ih =>
  rw [List.foldl_append,ih,List.length_append,List.length_singleton]
  simp only [List.foldl_cons,List.foldl_nil,jP]
  congr 1
  ·exact oW fun i hi=>by simp [hi,List.getElem?_append_left]
  ·simp
theorem yF {r s:List Rat} (h:s.length=r.length):dK r s=jP (fun i=>r.getD i 0*s.getD i 0) r.length:=by
 unfold dK
 rw [I8,List.length_zipWith,h,Nat.min_self]
 exact oW fun i hi=>by
  have hs:i<s.length:=by omega
  simp [hi,hs,List.getElem?_zipWith]
theorem TN {r s:List Rat} (h:s.length=r.length) :
  ((wK (fun i=>(r.map (jN (cK r))).getD i 0*(s.map (jN (cK s))).getD i 0) r.length:Int):Rat) / ((cK r*cK s:Nat):Rat)=dK r s:=by
 rw [yF h,DF]
 refine oW fun i hi=>?_
 have hs:i<s.length:=by omega
 obtain ⟨hr1,hr2⟩:=jD r
 obtain ⟨hs1,hs2⟩:=jD s
 have e1:=NH hr1 (hr2 r[i] (List.getElem_mem hi))
 have e2:=NH hs1 (hs2 s[i] (List.getElem_mem hs))
 have g1:(r.map (jN (cK r))).getD i 0=jN (cK r) r[i]:=by simp [hi]
 have g2:(s.map (jN (cK s))).getD i 0=jN (cK s) s[i]:=by simp [hs]
 have g3:r.getD i 0=r[i]:=by simp [hi]
 have g4:s.getD i 0=s[i]:=by simp [hs]
 rw [g1,g2,g3,g4,Rat.intCast_mul,Rat.natCast_mul]
 have n1:((cK r:Nat):Rat)≠0:=by rw [Ne,Rat.natCast_eq_zero_iff];omega
 have n2:((cK s:Nat):Rat)≠0:=by rw [Ne,Rat.natCast_eq_zero_iff];omega
 generalize ((jN (cK r) r[i]:Int):Rat)=a at *
 generalize ((jN (cK s) s[i]:Int):Rat)=b at *
 generalize ((cK r:Nat):Rat)=c at *
 generalize ((cK s:Nat):Rat)=d at *
 rw [← e1,← e2]
 grind
theorem nQ {qs:List Rat} (h:∀ q∈qs,dA q=true) (hl:qs.length≤4) (i:Nat):sz 1000000000 ((qs.map (jN (cK qs))).getD i 0).natAbs≤1000:=by
 by_cases hi:i<qs.length
 ·have g1:(qs.map (jN (cK qs))).getD i 0=jN (cK qs) qs[i]:=by simp [hi]
  rw [g1]
  unfold jN
  have h1:=kg qs[i].num (cK qs / qs[i].den)
  have h2:=(gL (h _ (List.getElem_mem hi))).1
  have h3:= @gF (cK qs) qs[i].den
  have h4:=rF qs h
  omega
 ·have g1:(qs.map (jN (cK qs))).getD i 0=0:=by
   rw [List.getD_eq_getElem?_getD,List.getElem?_eq_none (by rw [List.length_map];omega)]
   rfl
  rw [g1]
  simp [jk]
end Go.dB
namespace Go.Mem
open Go Go.RowKit Go.SW Go.Num
def Nm (w:World) (v:Value) (n:Nat):Prop:=Row w 3 v (ints (bQ 10000 n))
theorem Nm.later {w w':World} {v:Value} {n:Nat} (h:Nm w v n) (hb:Below w.heap.size w w'):Nm w' v n:=Row.later h hb
theorem Nm.setOther {w:World} {v:Value} {n:Nat} (h:Nm w v n) {b:Nat} {cs:Array Value} {T':TypeId} (hx:aB w b cs T') (hT:3≠T') (o:Nat) (u:Value):Nm (w.setCell ⟨b,o,none⟩ u) v n:=Row.setOther h hx hT o u
def Gs (w:World) (v:Value) (l:List Nat):Prop:=Row w 3 v (ints l)
theorem Gs.later {w w':World} {v:Value} {l:List Nat} (h:Gs w v l) (hb:Below w.heap.size w w'):Gs w' v l:=Row.later h hb
theorem Gs.cases {w:World} {v:Value} {l:List Nat} (h:Gs w v l) :
  (v= .slice none 0 0∧l=[])∨∃ b off cap,v= .slice (some ⟨b,off,none⟩) l.length cap∧l.length≤cap∧cap≤9223372036854775807∧b<w.heap.size∧(∃ arr,aB w b arr 3)∧∀ i,i<l.length→w.cell? ⟨b,off+i,none⟩=some (.int .i64 (l.getD i 0:Nat)):=by
 rcases Row.cases h with ⟨h1,h2⟩|⟨b,off,cap,arr,h1,h2,h3,h4,h5⟩
 ·refine .inl ⟨h1,?_⟩
  unfold ints at h2
  simpa using h2
 ·refine .inr ⟨b,off,cap,by rw [h1,aT],by rwa [aT] at h2,h3,h4.lt,⟨arr,h4⟩,fun i hi=>?_⟩
  rw [h4.cell,h5 i (by rw [aT];exact hi)]
  simp [ints,hi]
theorem Gs.read {w:World} {v:Value} {l:List Nat} (h:Gs w v l) :
  ∃ a cap,v= .slice a l.length cap∧l.length≤cap∧cap≤9223372036854775807∧∀ k,k<l.length→∃ b off,a=some ⟨b,off,none⟩∧b<w.heap.size∧w.cell? ⟨b,off+k,none⟩=some (.int .i64 (l.getD k 0:Nat)):=by
 rcases Gs.cases h with ⟨rfl,rfl⟩|⟨b,off,cap,rfl,h1,h2,h3,_,h5⟩
 ·exact ⟨none,0,rfl,by simp,by simp,fun k hk=>by cases hk⟩
 ·exact ⟨some ⟨b,off,none⟩,cap,rfl,h1,h2,fun k hk=>⟨b,off,rfl,h3,h5 k hk⟩⟩
theorem Nm.RU {w:World} {v:Value} {l:List Nat} (h:Gs w v l) (hd:dI 10000 l) (ht:Top l):Nm w v (val 10000 l):=by
 unfold Nm;rw [BL zo hd ht];exact h
theorem Nm.gs {w:World} {v:Value} {n:Nat} (h:Nm w v n):Gs w v (bQ 10000 n):=h
theorem Gs.dR {w:World} {base k:Nat} {v:Value} {s:List Nat} (h:w.ownsRow base 3 1 v k (ints s)):Gs w v s:=Row.dR h
theorem qC (n:Nat):(madeCells #[Value.int .i64 0] n).toList=ints (List.replicate n 0):=by
 rw [toList_madeCells_one];simp [ints]
theorem ints_set (l:List Nat) (k d:Nat):(ints l).set k (.int .i64 (d:Int))=ints (l.set k d):=by simp [ints,List.map_set]
theorem qD {l:List Nat} {k:Nat} (h:k<l.length):(ints l)[k]? =some (.int .i64 (l.getD k 0:Nat)):=by simp [ints,h]
theorem Gs.FP {w:World} {g n m:Nat} {l post:List Nat} (h:aB w g (ints (l++post)).toArray 3) (hl:l.length=n) (hm:n≤m) (hm2:m≤9223372036854775807):Gs w (.slice (some ⟨g,0,none⟩) n m) l:=by
 refine Row.mk (by rw [aT];omega) (by rw [aT];omega) hm2 h fun i hi=>?_
 rw [aT] at hi
 rw [Nat.zero_add,List.getElem?_toArray]
 simp [ints,hi,List.getElem?_append_left]
theorem Nm.lit {w:World} {d:Nat} (h0:0<d) (h1:d<10000):Nm (w.alloc (.cells #[.int .i64 d] 3 (0,0))) (.slice (some ⟨w.heap.size,0,none⟩) 1 1) d:=by
 have e:bQ 10000 d=[d]:=by rw [jB zo h0,Nat.mod_eq_of_lt h1,Nat.div_eq_of_lt h1,eO]
 unfold Nm
 rw [e]
 refine Row.mk rfl (by simp [ints]) zo (aB.new _ _ _) fun i hi=>?_
 match i,hi with
 | 0,_=>rfl
theorem Nm.zero (w:World):Nm w (.slice none 0 0) 0:=by unfold Nm;rw [eO];exact Row.nil _ _
theorem ints_oneCell (l:List Nat):∀ v∈ints l,v.oneCell'=true:=fun v hv=>by
 obtain ⟨d,_,rfl⟩:=List.mem_map.1 hv;rfl
theorem Gs.src {w:World} {a:Option Addr} {l:List Nat} (h:∀ k,k<l.length→∃ b off,a=some ⟨b,off,none⟩∧b<w.heap.size∧w.cell? ⟨b,off+k,none⟩=some (.int .i64 (l.getD k 0:Nat))) (hl:0<(ints l).length) :
  ∃ ad,a=some ad∧∀ j v,(ints l)[j]? =some v→w.cell? (ad.add j)=some v:=by
 rw [aT] at hl
 obtain ⟨b,off,rfl,_,_⟩:=h 0 hl
 refine ⟨_,rfl,fun j v hv=>?_⟩
 have hj:j<l.length:=by
  have:=(List.getElem?_eq_some_iff.1 hv).1;rwa [aT] at this
 obtain ⟨b',off',h1,_,h3⟩:=h j hj
 simp only [Option.some.injEq,Addr.mk.injEq,and_true] at h1
 obtain ⟨rfl,rfl⟩:=h1
 rw [qD hj] at hv
 rw [Addr.add_lit,h3,← hv]
theorem Nm.slice {w:World} {v:Value} {n:Nat} (h:Nm w v n):∃ pa l ca,v= .slice pa l ca:=by
 obtain ⟨a,cap,h1, -⟩:=h
 exact ⟨_,_,_,h1⟩
def Pl (w:World) (v:Value) (z:Int):Prop:=∃ pa l ca,v= .agg #[.bool (decide (z<0)),.slice pa l ca]∧Nm w (.slice pa l ca) z.natAbs
theorem Pl.later {w w':World} {v:Value} {z:Int} (h:Pl w v z) (hb:Below w.heap.size w w'):Pl w' v z:=by
 obtain ⟨pa,l,ca,h1,h2⟩:=h
 exact ⟨pa,l,ca,h1,h2.later hb⟩
theorem Pl.mk {w:World} {m:Value} {z:Int} {b:Bool} {n:Nat} (h:Nm w m n) (hn:n=z.natAbs) (hb:b=decide (z<0)):Pl w (.agg #[.bool b,m]) z:=by
 obtain ⟨pa,l,ca,rfl⟩:=h.slice
 exact ⟨pa,l,ca,by rw [hb],hn ▸ h⟩
theorem Pl.cast {w:World} {v:Value} {y z:Int} (h:Pl w v y) (e:y=z):Pl w v z:=e ▸ h
theorem Nm.alloc {w:World} {v:Value} {n:Nat} (h:Nm w v n) (o:Obj):Nm (w.alloc o) v n:=h.later ((Below.refl _ _).alloc (Nat.le_refl _) _)
theorem Gs.alloc {w:World} {v:Value} {n:List Nat} (h:Gs w v n) (o:Obj):Gs (w.alloc o) v n:=h.later ((Below.refl _ _).alloc (Nat.le_refl _) _)
theorem Pl.agg {w:World} {v:Value} {z:Int} (h:Pl w v z):∃ b pa l ca,v= .agg #[.bool b,.slice pa l ca]:=by
 obtain ⟨pa,l,ca,h1, -⟩:=h
 exact ⟨_,_,_,_,h1⟩
theorem Pl.setOther {w:World} {v:Value} {z:Int} (h:Pl w v z) {b:Nat} {cs:Array Value} {T':TypeId} (hx:aB w b cs T') (hT:3≠T') (o:Nat) (u:Value):Pl (w.setCell ⟨b,o,none⟩ u) v z:=by
 obtain ⟨pa,l,ca,h1,h2⟩:=h
 exact ⟨pa,l,ca,h1,h2.setOther hx hT o u⟩
theorem Pl.set2 {w:World} {v:Value} {z:Int} (h:Pl w v z) {b:Nat} {cs:Array Value} {T':TypeId} (hx:aB w b cs T') (hT:3≠T') (o1 o2:Nat) (u1 u2:Value):Pl ((w.setCell ⟨b,o1,none⟩ u1).setCell ⟨b,o2,none⟩ u2) v z :=
 (h.setOther hx hT o1 u1).setOther (hx.set o1 u1) hT o2 u2
theorem Pl.nm {w:World} {b:Bool} {pa:Option Addr} {l ca:Nat} {z:Int} (h:Pl w (.agg #[.bool b,.slice pa l ca]) z):Nm w (.slice pa l ca) z.natAbs∧b=decide (z<0):=by
 obtain ⟨pa',l',ca',e,h2⟩:=h
 simp only [Value.agg.injEq,Array.mk.injEq,List.cons.injEq,Value.bool.injEq,and_true] at e
 obtain ⟨e1,e2⟩:=e
 rw [e2]
 exact ⟨h2,e1⟩
theorem Rm (z:Int):je z.natAbs (!decide (z<0))= -z:=MX z
theorem Rn (z:Int):je z.natAbs (decide (z<0))=z:=by
 unfold je
 by_cases h:z<0<;>simp [h]<;>omega
theorem Ro (n:Nat) (b:Bool):(b&&decide (0<n))=decide (je n b<0):=by
 rw [← MZ,Bool.eq_iff_iff]
 simp
 omega
theorem Nm.read {w:World} {v:Value} {n:Nat} (h:Nm w v n):∃ a cap,v= .slice a (sz 10000 n) cap∧sz 10000 n≤cap∧cap≤9223372036854775807∧∀ k,k<sz 10000 n→∃ b off,a=some ⟨b,off,none⟩∧b<w.heap.size∧w.cell? ⟨b,off+k,none⟩=some (.int .i64 ((bQ 10000 n).getD k 0:Nat)):=Gs.read h.gs
theorem Nm.VP {w:World} {pa:Option Addr} {l c n:Nat} (h:Nm w (.slice pa l c) n) (hn:0<n):0<l:=by
 obtain ⟨a,cap,e, -⟩:=h.read
 simp only [Value.slice.injEq] at e
 rw [e.2.1]
 unfold sz
 rw [List.length_pos_iff,Ne,mW zo]
 omega
theorem Nm.Zt {w:World} {pa:Option Addr} {l c n:Nat} (h:Nm w (.slice pa l c) n) (hn:n=0):l=0:=by
 obtain ⟨a,cap,e, -⟩:=h.read
 simp only [Value.slice.injEq] at e
 rw [e.2.1,hn,jk]
end Go.Mem
namespace Go.Mem
open Go Go.RowKit Go.SW Go.Num Go.dB
theorem aB.at4 (w:World) (o o2 o3 o4:Obj) (cs:Array Value) (T:TypeId):aB (((((w.alloc o).alloc o2).alloc o3).alloc o4).alloc (.cells cs T (0,0))) (w.heap.size+1+1+1+1) cs T:=aB.pW zi
theorem al5 (w:World) (c0:Array Value) (T0:TypeId) (c1:Array Value) (T1:TypeId) (c2:Array Value) (T2:TypeId) (c3:Array Value) (T3:TypeId) (c4:Array Value) (T4:TypeId):∃ y,((((w.alloc (.cells c0 T0 (0,0))).alloc (.cells c1 T1 (0,0))).alloc (.cells c2 T2 (0,0))).alloc (.cells c3 T3 (0,0))).alloc (.cells c4 T4 (0,0))=y∧Below w.heap.size w y∧Hid (aB y (w.heap.size) c0 T0)∧Hid (aB y (w.heap.size+1) c1 T1)∧Hid (aB y (w.heap.size+1+1) c2 T2)∧Hid (aB y (w.heap.size+1+1+1) c3 T3)∧Hid (aB y (w.heap.size+1+1+1+1) c4 T4):=⟨_,rfl,aN (aN (aN (aN (aN (Below.refl _ _) _) _) _) _) _,zh (aB.alloc (aB.alloc (aB.alloc (aB.alloc (aB.new _ _ _) _) _) _) _),zh (aB.alloc (aB.alloc (aB.alloc (aB.mg _ _ _ _) _) _) _),zh (aB.alloc (aB.alloc (aB.at2 _ _ _ _ _) _) _),zh (aB.alloc (aB.at3 _ _ _ _ _ _) _),zh (aB.at4 _ _ _ _ _ _ _)⟩
abbrev Rl (α:Type):=World→α→List Value→Prop
def tL {α:Type} (m:List TypeId) (R:Rl α):Prop:=∀ w w' a c,Keep m w w'→R w a c→R w' a c
theorem tL.sub {α:Type} {m l:List TypeId} {R:Rl α} (h:tL m R) (k:∀ T,T∈l→T∈m):tL l R:=fun w w' a c hk hr=>h w w' a c (hk.mono k) hr
theorem tL.nil {α:Type} {m:List TypeId} {R:Rl α} (h:tL m R):tL [] R:=h.sub (fun _ h=>by cases h)
def aX {α:Type} (w:World) (B:Nat) (T:TypeId) (s:Nat) (R:Rl α) (v:Value) (l:List α):Prop :=
 ∃ xs:List (List Value),w.ownsRow B T s v l.length xs.flatten∧jl (fun a c=>R w a c∧c.length=s) l xs
theorem aX.nil {α:Type} (w:World) (B:Nat) (T:TypeId) (s:Nat) (R:Rl α):aX w B T s R (.slice none 0 0) []:=⟨[],World.ownsRow_nil _ _ _ _,jl.nil⟩
theorem aX.slice {α:Type} {w:World} {B:Nat} {T:TypeId} {s:Nat} {R:Rl α} {v:Value} {l:List α} (h:aX w B T s R v l):∃ a c,v= .slice a l.length c:=by
 obtain ⟨xs,⟨h1,⟨rfl,h2⟩|⟨g,cap,cur,rfl, -⟩⟩, -⟩:=h
 ·exact ⟨_,_,by rw [h2]⟩
 ·exact ⟨_,_,rfl⟩
theorem aX.at {α:Type} {w:World} {B:Nat} {T:TypeId} {s n:Nat} {R:Rl α} {v:Value} {l:List α} (h:aX w B T s R v l) (hn:l.length=n):∃ a c,v= .slice a n c:=hn ▸ h.slice
theorem aX.kept {α:Type} {w w':World} {B:Nat} {T:TypeId} {s:Nat} {R:Rl α} {v:Value} {l:List α} {m:List TypeId} (h:aX w B T s R v l) (k:Keep m w w') (hT:T∉m) (hR:tL m R):aX w' B T s R v l:=by
 obtain ⟨xs,h1,h2⟩:=h
 exact ⟨xs,jc h1 k hT,h2.mono fun _ _ h=>⟨hR _ _ _ _ k h.1,h.2⟩⟩
theorem aX.later {α:Type} {w w':World} {B:Nat} {T:TypeId} {s:Nat} {R:Rl α} {v:Value} {l:List α} (h:aX w B T s R v l) (hb:Below w.heap.size w w') (hR:tL [] R):aX w' B T s R v l:=h.kept (Keep.of_below hb) zi hR
theorem bN {P:Program} {ops:Array Oper} {rest:List Oper} {o:Oper} {a:Act} {Q:Exit→Act→World→Prop} {w w0:World} (hgd:o.guard=none) (s x:Operand) (t:TypeId)
  (ho:o.op= .call { callee:=.builtin .append,args:=#[s,x],argTypes:=#[t,t] }) (e:TypeId) (i:TypeInfo) (z:Value) (size bytes:Nat) (ht:P.underlying t=some (.slice e)) (hi:P.info? e=some i) (hz:i.zero=some z)
  (hsize:i.size=size) (hby:i.bytes=bytes) (hzs:z.cells.size=size) (hsz:0<size) {α:Type} (R:Rl α) (v:Value) (l:List α) (hs:a.eval s=v) (hG:aX w w0.heap.size e size R v l) (hb:Below w0.heap.size w0 w)
  (b:Nat) (c:List Value) (y:α) (hx:a.eval x= .slice (some ⟨b,0,none⟩) 1 1) (hbx:aB w b c.toArray e) (hc:c.length=size) (h1:∀ u∈c,u.oneCell'=true) (hy:R w y c) (hR:tL [e] R) (hn:l.length≤1000000) (hbytes:bytes≤1000)
  (h:∀ v' w',aX w' w0.heap.size e size R v' (l++[y])→Below w0.heap.size w0 w'→Keep [e] w w'→wpList P ops Q rest (a.put o.dst v') w'):wpList P ops Q (o::rest) a w:=by
 obtain ⟨xs,hown,hall⟩:=hG
 refine wpList_append_own w hgd s x t ho w0.heap.size e i z size bytes ht hi hz hsize hby hzs hsz v l.length xs.flatten hs hown ⟨b,0,none⟩ 1 1 c hx (by rw [hc,Nat.one_mul]) (fun j u hu=>?_) h1 (by unfold maxLen;omega) ?_ hb.size (fun v' w' hown' hg _=>?_)
 ·rw [Addr.add_lit,hbx.cell,Nat.zero_add,List.getElem?_toArray,hu]
 ·have:=Nat.mul_le_mul (show l.length+1≤1000001 by omega) hbytes
  omega
 ·have hk:Keep [e] w w':=Keep.grown hown hg
  refine h v' w' ⟨xs++[c],?_,(jl.mono hall fun a c h=>⟨hR _ _ _ _ hk h.1,h.2⟩).snoc ⟨hR _ _ _ _ hk hy,hc⟩⟩ (hb.grown hg hb.size fun r hr=>?_) hk
  ·rw [List.length_append,List.flatten_append]
   simpa using hown'
  ·obtain ⟨-, ⟨rfl, -⟩|⟨g,cap,cur,rfl,hg1, -⟩⟩:=hown
   ·cases hr
   ·simp only [Value.ownBlock,Option.some.injEq] at hr
    omega
def tO {α:Type} (w:World) (T:TypeId) (s:Nat) (R:Rl α) (v:Value) (l:List α):Prop :=
 ∃ a cap,v= .slice a l.length cap∧l.length≤cap∧cap≤9223372036854775807∧(a=none→cap=0) ∧
  ∀ ad,a=some ad→ad.spot=none∧∃ arr,aB w ad.block arr T∧∀ i (h:i<l.length),∃ c,R w l[i] c∧c.length=s∧∀ j,j<s→arr[ad.off+i*s+j]? =c[j]?
theorem tO.kept {α:Type} {w w':World} {T:TypeId} {s:Nat} {R:Rl α} {v:Value} {l:List α} {m:List TypeId} (h:tO w T s R v l) (k:Keep m w w') (hT:T∉m) (hR:tL m R):tO w' T s R v l:=by
 obtain ⟨a,cap,h1,h2,h3,h4,h5⟩:=h
 refine ⟨a,cap,h1,h2,h3,h4,fun ad had=>?_⟩
 obtain ⟨h6,arr,h7,h8⟩:=h5 ad had
 refine ⟨h6,arr,k _ _ _ hT h7,fun i hi=>?_⟩
 obtain ⟨c,k1,k2,k3⟩:=h8 i hi
 exact ⟨c,hR _ _ _ _ k k1,k2,k3⟩
theorem tO.later {α:Type} {w w':World} {T:TypeId} {s:Nat} {R:Rl α} {v:Value} {l:List α} (h:tO w T s R v l) (hb:Below w.heap.size w w') (hR:tL [] R):tO w' T s R v l:=h.kept (Keep.of_below hb) zi hR
theorem tO.slice {α:Type} {w:World} {T:TypeId} {s:Nat} {R:Rl α} {v:Value} {l:List α} (h:tO w T s R v l):∃ a c,v= .slice a l.length c:=by
 obtain ⟨a,c,h1, -⟩:=h
 exact ⟨a,c,h1⟩
theorem tO.read {α:Type} {w:World} {T:TypeId} {s:Nat} {R:Rl α} {v:Value} {l:List α} (h:tO w T s R v l) :
  ∃ a cap,v= .slice a l.length cap∧l.length≤cap∧cap≤9223372036854775807∧∀ k (_:k<l.length),∃ b off c,a=some ⟨b,off,none⟩∧b<w.heap.size∧R w l[k] c∧c.length=s∧∀ j,j<s→w.cell? ⟨b,off+k*s+j,none⟩=c[j]? :=by
 obtain ⟨a,cap,h1,h2,h3,h4,h5⟩:=h
 refine ⟨a,cap,h1,h2,h3,fun k hk=>?_⟩
 cases a with
 | none=>have:=h4 rfl;omega
 | some ad =>
  obtain ⟨h6,arr,h7,h8⟩:=h5 ad rfl
  obtain ⟨b,off,sp⟩:=ad
  simp only at h6
  subst h6
  obtain ⟨c,k1,k2,k3⟩:=h8 k hk
  exact ⟨b,off,c,rfl,h7.lt,k1,k2,fun j hj=>(h7.cell _).trans (k3 j hj)⟩
theorem xq {xs:List (List Value)} {s:Nat} (h:∀ c∈xs,c.length=s):∀ {i:Nat} (hi:i<xs.length) {j:Nat},j<s→xs.flatten[i*s+j]? =xs[i][j]? :=by
 induction xs with
 | nil=>intro i hi;cases hi
 | cons x t ih =>
  intro i hi j hj
  have hx:=h x zi
  rw [List.flatten_cons]
  cases i with
  | zero =>
   rw [Nat.zero_mul,Nat.zero_add,List.getElem?_append_left zo]
   rfl
  | succ i =>
   rw [List.getElem?_append_right (by rw [hx,Nat.succ_mul];omega),hx]
   rw [show (i+1)*s+j - s=i*s+j by rw [Nat.succ_mul];omega]
   exact ih (fun c hc=>h c (by simp [hc])) (by simpa using hi) hj
theorem tK {α β:Type} {R:α→β→Prop} {S:β→Prop} {xs:List α} {ys:List β} (h:jl R xs ys) (k:∀ a b,R a b→S b):∀ b∈ys,S b:=fun b hb=>by
 obtain ⟨i,hi,rfl⟩:=List.getElem_of_mem hb
 exact k _ _ (h.2 i (by have:=h.1;omega) hi)
theorem aX.Dy {α:Type} {w:World} {B:Nat} {T:TypeId} {s:Nat} {R:Rl α} {v:Value} {l:List α} (h:aX w B T s R v l):tO w T s R v l:=by
 obtain ⟨xs,⟨h1,⟨rfl,h2⟩|⟨g,cap,cur,rfl,h3,h4,h5,h6,h7,h8⟩⟩,hall⟩:=h
 ·have:l=[]:=List.length_eq_zero_iff.1 h2
  subst this
  exact ⟨none,0,rfl,Nat.le_refl _,by omega,fun _=>rfl,fun _ h=>by cases h⟩
 ·unfold maxLen at h6
  refine ⟨_,cap,rfl,h5,h6,(fun h=>by cases h),fun ad had=>?_⟩
  cases had
  refine ⟨rfl,cur,h4,fun i hi=>?_⟩
  have hix:i<xs.length:=by have:=hall.1;omega
  obtain ⟨k1,k2⟩:=hall.2 i hi hix
  refine ⟨xs[i],k1,k2,fun j hj=>?_⟩
  have e:=xq (tK (S:=fun c=>c.length=s) hall fun _ _ h=>h.2) hix hj
  rw [Nat.zero_add,← Array.getElem?_toList,← e,← h8]
  have hlt:i*s+j<l.length*s:=by
   have:=Nat.mul_le_mul_right s (show i+1≤l.length by omega)
   rw [Nat.succ_mul] at this
   omega
  rw [List.getElem?_take_of_lt hlt]
theorem JH {α β:Type} {R:α→β→Prop} {xs xs':List α} {ys ys':List β} (h:jl R xs ys) (k:jl R xs' ys'):jl R (xs++xs') (ys++ys'):=by
 refine ⟨by rw [List.length_append,List.length_append,h.1,k.1],fun i hi hi'=>?_⟩
 rcases Nat.lt_or_ge i xs.length with hlt|hge
 ·have hlt':i<ys.length:=by rw [h.1];exact hlt
  rw [List.getElem_append_left hlt,List.getElem_append_left hlt']
  exact h.2 i hlt hlt'
 ·have hge':ys.length≤i:=by rw [h.1];exact hge
  rw [List.getElem_append_right hge,List.getElem_append_right hge']
  have e:=h.1
  have:=k.2 (i - xs.length) (by rw [List.length_append] at hi;omega) (by rw [List.length_append] at hi';omega)
  simpa [e] using this
theorem BI {xs:List (List Value)} {s:Nat} (h:∀ c∈xs,c.length=s):xs.flatten.length=xs.length*s:=by
 induction xs with
 | nil=>simp
 | cons x t ih =>
  rw [List.flatten_cons,List.length_append,h x zi,ih fun c hc=>h c (by simp [hc]),List.length_cons,Nat.succ_mul]
  omega
theorem kG {P:Program} {ops:Array Oper} {rest:List Oper} {o:Oper} {a:Act} {Q:Exit→Act→World→Prop} {w w0:World} (hgd:o.guard=none) (s x:Operand) (t:TypeId)
  (ho:o.op= .call { callee:=.builtin .append,args:=#[s,x],argTypes:=#[t,t] }) (e:TypeId) (i:TypeInfo) (z:Value) (size bytes:Nat) (ht:P.underlying t=some (.slice e)) (hi:P.info? e=some i) (hz:i.zero=some z)
  (hsize:i.size=size) (hby:i.bytes=bytes) (hzs:z.cells.size=size) (hsz:0<size) {α:Type} (R:Rl α) (v:Value) (l:List α) (hs:a.eval s=v) (hG:aX w w0.heap.size e size R v l) (hb:Below w0.heap.size w0 w)
  (ad:Addr) (n c:Nat) (ys:List α) (cs:List (List Value)) (hn':ys.length=n) (hx:a.eval x= .slice (some ad) n c) (hcs:jl (fun a c=>R w a c∧c.length=size) ys cs) (hat:∀ j u,cs.flatten[j]? =some u→w.cell? (ad.add j)=some u) (h1:∀ u∈cs.flatten,u.oneCell'=true)
  (hR:tL [e] R) (hn:l.length+n≤1000000) (hbytes:bytes≤1000)
  (h:∀ v' w',aX w' w0.heap.size e size R v' (l++ys)→Below w0.heap.size w0 w'→Keep [e] w w'→wpList P ops Q rest (a.put o.dst v') w'):wpList P ops Q (o::rest) a w:=by
 obtain ⟨xs,hown,hall⟩:=hG
 have hl:cs.flatten.length=n*size:=by rw [BI (tK (S:=fun c=>c.length=size) hcs fun _ _ h=>h.2),hcs.1,hn']
 refine wpList_append_own w hgd s x t ho w0.heap.size e i z size bytes ht hi hz hsize hby hzs hsz v l.length xs.flatten hs hown ad n c cs.flatten hx hl hat h1 (by unfold maxLen;omega) ?_ hb.size (fun v' w' hown' hg _=>?_)
 ·have:=Nat.mul_le_mul (show l.length+n≤1000000 by omega) hbytes
  omega
 ·have hk:Keep [e] w w':=Keep.grown hown hg
  refine h v' w' ⟨xs++cs,?_,JH (jl.mono hall fun a c h=>⟨hR _ _ _ _ hk h.1,h.2⟩) (jl.mono hcs fun a c h=>⟨hR _ _ _ _ hk h.1,h.2⟩)⟩ (hb.grown hg hb.size fun r hr=>?_) hk
  ·rw [List.length_append,List.flatten_append,hn']
   exact hown'
  ·obtain ⟨-, ⟨rfl, -⟩|⟨g,cap,cur,rfl,hg1, -⟩⟩:=hown
   ·cases hr
   ·simp only [Value.ownBlock,Option.some.injEq] at hr
    omega
theorem tO.src {α:Type} {w:World} {T:TypeId} {s n c b off:Nat} {R:Rl α} {l:List α} (h:tO w T s R (.slice (some ⟨b,off,none⟩) n c) l) (hl:l.length=n) (hs:0<s) (lo k:Nat) (hk:lo+k≤n) :
  ∃ cs:List (List Value),jl (fun a c=>R w a c∧c.length=s) ((l.drop lo).take k) cs∧∀ j u,cs.flatten[j]? =some u→w.cell? ((⟨b,off+lo*s,none⟩:Addr).add j)=some u:=by
 obtain ⟨a',cap',e, -, -, hat⟩:=h.read
 simp only [Value.slice.injEq] at e
 obtain ⟨rfl, -, -⟩:=e
 have hx:∀ i:Fin k,∃ c:List Value,R w (l[lo+i.1]'zo) c∧c.length=s∧∀ j,j<s→w.cell? ⟨b,off+(lo+i.1)*s+j,none⟩=c[j]? :=fun i=>by
  obtain ⟨b',off',c,e, -, k1,k2,k3⟩:=hat (lo+i.1) zo
  simp only [Option.some.injEq,Addr.mk.injEq,and_true] at e
  obtain ⟨rfl,rfl⟩:=e
  exact ⟨c,k1,k2,k3⟩
 refine ⟨List.ofFn fun i=>(hx i).choose,⟨by simp;omega,fun i hi hi'=>?_⟩,fun j u hu=>?_⟩
 ·have hik:i<k:=by simpa using hi'
  have:=(hx ⟨i,hik⟩).choose_spec
  simp only [List.getElem_take,List.getElem_drop,List.getElem_ofFn]
  exact ⟨this.1,this.2.1⟩
 ·have hlen:∀ c∈(List.ofFn fun i=>(hx i).choose),c.length=s:=fun c hc=>by
   obtain ⟨i,rfl⟩:=List.mem_ofFn.1 hc
   exact (hx i).choose_spec.2.1
  have hj:j<k*s:=by
   have:=(List.getElem?_eq_some_iff.1 hu).1
   rw [BI hlen,List.length_ofFn] at this
   exact this
  have hi:j / s<k:=by rw [Nat.div_lt_iff_lt_mul hs];exact hj
  have hr:j%s<s:=Nat.mod_lt _ hs
  have hjd:j / s*s+j%s=j:=by rw [Nat.mul_comm];exact Nat.div_add_mod j s
  rw [← hjd,xq hlen (by simpa using hi) hr] at hu
  have hsp:=(hx ⟨j / s,hi⟩).choose_spec.2.2 (j%s) hr
  simp only [List.getElem_ofFn] at hu
  have hj2:off+lo*s+j=off+(lo+j / s)*s+j%s:=by rw [Nat.add_mul];omega
  rw [Addr.add_lit,hj2]
  exact hsp.trans hu
def rM:Rl Fr:=fun _ f c=>c=[.string f.n,.string f.d]
theorem rM.stay (m:List TypeId):tL m rM:=fun _ _ _ _ _ h=>h
theorem tO.zL {w:World} {T:TypeId} {v:Value} {l:List Fr} (h:tO w T 2 rM v l):jI w T v l:=by
 obtain ⟨a,cap,h1,h2,h3,h4,h5⟩:=h
 refine ⟨a,cap,h1,h2,h3,h4,fun ad had=>?_⟩
 obtain ⟨h6,arr,h7,h8⟩:=h5 ad had
 refine ⟨h6,arr,h7,fun i hi=>?_⟩
 obtain ⟨c,rfl,k2,k3⟩:=h8 i hi
 exact ⟨k3 0 zo,k3 1 zo⟩
def ag6 {α:Type} (S:World→Value→List α→Prop):Rl (List α):=fun w l c=>∃ v,c=[v]∧S w v l
theorem tO.zC {w:World} {v:Value} {m:List (List Fr)} (h:tO w 56 1 (ag6 fun w v l=>jI w 36 v l) v m):bO w v m:=by
 obtain ⟨a,cap,h1,h2,h3,h4,h5⟩:=h
 cases a with
 | none =>
  have hm:m=[]:=List.length_eq_zero_iff.1 (by have:=h4 rfl;omega)
  subst hm
  have:=h4 rfl
  subst this h1
  exact ⟨[],Row.nil _ _,rfl,fun i hi=>by cases hi⟩
 | some ad =>
  obtain ⟨h6,arr,h7,h8⟩:=h5 ad rfl
  obtain ⟨b,off,sp⟩:=ad
  simp only at h6
  subst h6
  have hx:∀ i:Fin m.length,∃ x,arr[off+i.1]? =some x∧jI w 36 x m[i.1]:=fun i=>by
   obtain ⟨c,⟨x,rfl,k1⟩,k2,k3⟩:=h8 i.1 i.2
   have:=k3 0 zo
   rw [Nat.mul_one,Nat.add_zero] at this
   exact ⟨x,this,k1⟩
  refine ⟨List.ofFn fun i=>(hx i).choose,?_,by simp,fun i hi hi'=>?_⟩
  ·rw [h1]
   refine Row.mk zi (by simpa using h2) h3 h7 fun i hi=>?_
   have hi':i<m.length:=by simpa using hi
   rw [(hx ⟨i,hi'⟩).choose_spec.1]
   simp
  ·have:=(hx ⟨i,hi'⟩).choose_spec.2
   simpa using this
end Go.Mem
namespace Go.SW
open Go Go.RowKit
variable {P:Program} {ops:Array Oper} {Q:Exit→Act→World→Prop} {o:Oper} {i:Nat} {is:List (K × Nat)} {a:Act} {w:World} {N:Nat} {A:List Nat}
theorem iB (ho:ops[i]? =some o) (hw:Region.wanted o (yielded ops a.tmps)=true) (h:∀ J:Act→Prop,(∀ a,walk P ops Q N is A a w→J a)→∃ v,(∀ w',(execOp a.eval o).run P w'= .ok (.value v) w')∧J (a.put o.dst v)):walk P ops Q N ((.pure,i)::is) A a w:=by
 refine OJ ho fun J hJ=>?_
 rw [if_pos hw]
 exact h J hJ
theorem iC {T:TypeId} {x:Operand} {p:Addr} (ho:ops[i]? =some o) (hw:Region.wanted o (yielded ops a.tmps)=true) (hop:o.op= .load T x) (hx:a.eval x= .pointer (some p))
  (h:∀ J:Value→Prop,(∀ v,walk P ops Q N is A (a.put o.dst v) w→J v)→(w.cell? p).isSome=true∧∃ v,(loadVar T p).run P w= .ok v w∧J v):walk P ops Q N ((.read,i)::is) A a w:=by
 unfold walk
 simp only [ho,hw,if_true]
 obtain ⟨h1,v,h2,h3⟩:=h (fun v=>walk P ops Q N is A (a.put o.dst v) w) fun _ h=>h
 refine ⟨v,fun w' hb=>?_,h3⟩
 simp only [execOp,hop,hx,Instr.loadAt,Instr.sureAddr,Sem.run_bind,Sem.run_pure,Result.andThen_ok,vk hb h1 h2]
theorem j6 (ho:ops[i]? =some o) (hw:Region.wanted o (yielded ops a.tmps)=true) (h:∀ w',Below w.heap.size w w'→∀ J:Act→World→Prop,(∀ a' w'',Below w'.heap.size w' w''→walk P ops Q N is A a' w''→J a' w'')→o.wp P a w' J Q):walk P ops Q N ((.ext,i)::is) A a w:=by
 unfold walk
 simp only [ho,hw,if_true]
 exact fun w' hb=>h w' hb _ fun a' w'' h1 h2=>⟨h1,h2⟩
def K.soft:K→Bool
 | .pure=>true
 | .read=>true
 | .ext=>true
 | _=>false
theorem OI {k:K} (hk:k.soft=true) (ho:ops[i]? =some o) (hw:Region.wanted o (yielded ops a.tmps)=false) (h:∀ J:Act→Prop,(∀ a,walk P ops Q N is A a w→J a)→J (a.put o.dst undef)):walk P ops Q N ((k,i)::is) A a w:=by
 have h':=h (fun a=>walk P ops Q N is A a w) fun _ h=>h
 cases k with
 | pure=>unfold walk;simp only [ho,hw];exact h'
 | read=>unfold walk;simp only [ho,hw];exact h'
 | ext=>unfold walk;simp only [ho,hw];exact h'
 | alloc _ _=>cases hk
 | fin=>cases hk
end Go.SW
namespace Go.SW
open Go Go.RowKit
structure Wk (P:Program) (ops:Array Oper) (Q:Exit→Act→World→Prop) (N:Nat) (is:List (K × Nat)) (A:List Nat) (a:Act) (w:World):Prop where
 out:walk P ops Q N is A a w
variable {P:Program} {ops:Array Oper} {Q:Exit→Act→World→Prop} {o:Oper} {i:Nat} {is:List (K × Nat)} {a:Act} {w:World} {N:Nat} {A:List Nat}
theorem Aj (h:∀ w',Below w.heap.size w w'→Q .normal a w'):Wk P ops Q N [] A a w:=⟨walk_nil h⟩
theorem jE {k:K} (hk:k.soft=true) (ho:ops[i]? =some o) (hw:Region.wanted o (yielded ops a.tmps)=false) (h:∀ J:Act→Prop,(∀ a,Wk P ops Q N is A a w→J a)→J (a.put o.dst undef)):Wk P ops Q N ((k,i)::is) A a w :=
 ⟨OI hk ho hw fun J hJ=>h J fun a ha=>hJ a ha.out⟩
theorem ji (ho:ops[i]? =some o) (hw:Region.wanted o (yielded ops a.tmps)=true) (h:∀ J:Act→Prop,(∀ a,Wk P ops Q N is A a w→J a)→∃ v,(∀ w',(execOp a.eval o).run P w'= .ok (.value v) w')∧J (a.put o.dst v)):Wk P ops Q N ((.pure,i)::is) A a w :=
 ⟨iB ho hw fun J hJ=>h J fun a ha=>hJ a ha.out⟩
theorem jF {T:TypeId} {x:Operand} {p:Addr} (ho:ops[i]? =some o) (hw:Region.wanted o (yielded ops a.tmps)=true) (hop:o.op= .load T x) (hx:a.eval x= .pointer (some p))
  (h:∀ J:Value→Prop,(∀ v,Wk P ops Q N is A (a.put o.dst v) w→J v)→(w.cell? p).isSome=true∧∃ v,(loadVar T p).run P w= .ok v w∧J v):Wk P ops Q N ((.read,i)::is) A a w :=
 ⟨iC ho hw hop hx fun J hJ=>h J fun v hv=>hJ v hv.out⟩
theorem jY (ho:ops[i]? =some o) (hw:Region.wanted o (yielded ops a.tmps)=true) (h:∀ w',Below w.heap.size w w'→∀ J:Act→World→Prop,(∀ a' w'',Below w'.heap.size w' w''→Wk P ops Q N is A a' w''→J a' w'')→o.wp P a w' J Q):Wk P ops Q N ((.ext,i)::is) A a w :=
 ⟨j6 ho hw fun w' hb J hJ=>h w' hb J fun a' w'' hb' hk=>hJ a' w'' hb' hk.out⟩
theorem Ak (l:List Oper) (hl:(i::is.map (·.2)).map (ops[·]?)=l.map some) (h:∀ w',Below w.heap.size w w'→wpList P ops Q l a w'):Wk P ops Q N ((.fin,i)::is) A a w:=⟨aJ l hl h⟩
theorem Hy {cs:Array Value} {T:TypeId} (ho:ops[i]? =some o) (h:∀ b w',Below w.heap.size w w'→N≤b→b<w'.heap.size→b∉A→w'.heap[b]? =some (.cells cs T (0,0))→Wk P ops Q N is (b::A) (a.put o.dst (.pointer (some ⟨b,0,none⟩))) w'):Wk P ops Q N ((.alloc cs T,i)::is) A a w :=
 ⟨aQ ho fun b w' h1 h2 h3 h4 h5=>(h b w' h1 h2 h3 h4 h5).out⟩
theorem lg {t:TypeId} {x:Operand} {p:Option Addr} {n c:Nat} (ho:ops[i]? =some o) (hw:Region.wanted o (yielded ops a.tmps)=true) (hop:o.op= .call { callee:=.builtin .len,args:=#[x],argTypes:=#[t] }) (hx:a.eval x= .slice p n c) (ht:P.underlying t=some (.slice (P.elem t)))
  (h:∀ J:Act→Prop,(∀ a,Wk P ops Q N is A a w→J a)→J (a.put o.dst (.int .i64 n))):Wk P ops Q N ((.pure,i)::is) A a w :=
 ji ho hw fun J hJ=>⟨.int .i64 n,fun w'=>by simp [execOp,hop,hx,resolve,invoke,builtin,Sem.run_bind,run_len_slice w' _ _ _ _ _ ht,goInt],h J hJ⟩
end Go.SW
namespace Go.dB
open Go Go.Num
def Sh (rs:IM) (a b c:Nat→Int):Prop:=rs.length=3∧(∀ i,i<3→(rs.getD i []).length=6)∧∀ j,j<6→rs.at 0 j=a j∧rs.at 1 j=b j∧rs.at 2 j=c j
theorem Sh.congr {rs:IM} {a b c a' b' c':Nat→Int} (h:Sh rs a b c) (k:∀ j,j<6→a j=a' j∧b j=b' j∧c j=c' j):Sh rs a' b' c' :=
 ⟨h.1,h.2.1,fun j hj=>by obtain ⟨x,y,z⟩:=h.2.2 j hj;obtain ⟨x',y',z'⟩:=k j hj;exact ⟨x.trans x',y.trans y',z.trans z'⟩⟩
theorem Sh.swap {rs:IM} {a b c:Nat→Int} (h:Sh rs a b c) {i k:Nat} (hi:i<3) (hk:k<3) (j:Nat) (hj:j<3):(qy rs i k).getD j []=rs.getD (if j=k then i else if j=i then k else j) []:=vG h.1 hi hk hj
end Go.dB
namespace Go.Proofs
open Go Go.RowKit Go.SW Go.Num Go.Mem
theorem OY (w:World) (a1 a2 a3 a4 a5 a6 b1 b2 b3 b4 b5 b6:ByteArray) :
  (Op.equalIn 10000 38 (.agg #[.string a1,.string a2,.string a3,.string a4,.string a5,.string a6]) (.agg #[.string b1,.string b2,.string b3,.string b4,.string b5,.string b6])).run Tryz.prog w
   = .ok (((a1 == b1)&&(a2 == b2))&&((a3 == b3)&&(a4 == b4))&&((a5 == b5)&&(a6 == b6))) w:=by
 obtain ⟨i0,hi⟩:=Option.isSome_iff_exists.1 (show (Tryz.prog.info? 36).isSome=true by kernel_rfl)
 rw [run_equalIn_array w 9999 _ _ Tryz.underlying38 hi]
 have hc:Tryz.prog.cellsOf 36=2:=by kernel_rfl
 rw [hc]
 go_simp
 simp only [Op.eqItems]
 go_simp
 simp only [beq_toListBytes]
 by_cases h1:a1.toList=b1.toList<;>by_cases h2:a2.toList=b2.toList<;>by_cases h3:a3.toList=b3.toList<;>by_cases h4:a4.toList=b4.toList<;>by_cases h5:a5.toList=b5.toList<;>by_cases h6:a6.toList=b6.toList<;>simp [h1,h2,h3,h4,h5,h6]
theorem sH (a1 a2 a3 a4 a5 a6:ByteArray) (w:World) :
  (Op.equalIn 10000 38 (.agg #[.string a1,.string a2,.string a3,.string a4,.string a5,.string a6]) (.agg #[.string a1,.string a2,.string a3,.string a4,.string a5,.string a6])).run Tryz.prog w= .ok true w:=by
 rw [OY]
 simp [beq_toListBytes]
end Go.Proofs
