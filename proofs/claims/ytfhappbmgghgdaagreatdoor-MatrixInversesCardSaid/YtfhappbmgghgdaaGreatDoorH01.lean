/- Lemmas for the proof. No condition. -/
import Derived.Test.YtfhappbmgghgdaaGreatDoorIB01
import Derived.Test.YtfhappbmgghgdaaGreatDoorIB02
import Derived.Test.YtfhappbmgghgdaaGreatDoorIB03
import Derived.Test.YtfhappbmgghgdaaGreatDoorIB04
import Derived.Test.YtfhappbmgghgdaaGreatDoorIB05
import Derived.Test.YtfhappbmgghgdaaGreatDoorIB06
import Derived.Test.YtfhappbmgghgdaaGreatDoorIB07
import Derived.Test.YtfhappbmgghgdaaGreatDoorIB08
import Derived.Test.YtfhappbmgghgdaaGreatDoorIB09
import Derived.Test.YtfhappbmgghgdaaGreatDoorIB10
import Derived.Test.YtfhappbmgghgdaaGreatDoorIB11
import Derived.Test.YtfhappbmgghgdaaGreatDoorIB12
import Derived.Test.YtfhappbmgghgdaaGreatDoorIB13
import Derived.Test.YtfhappbmgghgdaaGreatDoorIB14
import Derived.Test.YtfhappbmgghgdaaGreatDoorIB15
import Derived.Test.YtfhappbmgghgdaaGreatDoorIB16
import Derived.Test.YtfhappbmgghgdaaGreatDoorIB17
import Derived.Test.YtfhappbmgghgdaaGreatDoorIB18
set_option linter.unusedVariables false
set_option linter.unusedSimpArgs false
set_option maxRecDepth 100000
set_option maxHeartbeats 16000000
namespace Go.dF
open Go Go.Num Go.Dec Lib
theorem szq_inv {k:Nat} {q:Rat} (h:qW k q) (h0:q≠0):qW k q⁻¹:=by
 have hn:q.num≠0:=fun e=>h0 (Rat.num_eq_zero.1 e)
 unfold qW at *
 rw [Rat.num_inv,Rat.den_inv,if_neg hn,Int.natAbs_mul,Int.natAbs_natCast,Int.natAbs_sign_of_ne_zero hn,Nat.one_mul]
 exact ⟨h.2,h.1⟩
end Go.dF
namespace Go.Mem
open Go Go.RowKit Go.SW Go.Num Go.dF
theorem all2_append {α β:Type} {R:α→β→Prop} {xs xs':List α} {ys ys':List β} (h:mK R xs ys) (k:mK R xs' ys'):mK R (xs++xs') (ys++ys'):=by
 refine ⟨by rw [List.length_append,List.length_append,h.1,k.1],fun i hi hi'=>?_⟩
 rcases Nat.lt_or_ge i xs.length with hlt|hge
 ·have hlt':i<ys.length:=by rw [h.1];exact hlt
  rw [List.getElem_append_left hlt,List.getElem_append_left hlt']
  exact h.2 i hlt hlt'
 ·have hge':ys.length≤i:=by rw [h.1];exact hge
  rw [List.getElem_append_right hge,List.getElem_append_right hge']
  have e:=h.1
  have:=k.2 (i - xs.length) (by rw [List.length_append] at hi;omega) (by rw [List.length_append] at hi';omega)
  simpa [e] using this
theorem wpList_growN {P:Program} {ops:Array Oper} {rest:List Oper} {o:Oper} {a:Act} {Q:Exit→Act→World→Prop} {w w0:World} (hgd:o.guard=none) (s x:Operand) (t:TypeId)
  (ho:o.op= .call { callee:=.builtin .append,args:=#[s,x],argTypes:=#[t,t] }) (e:TypeId) (i:TypeInfo) (z:Value) (size bytes:Nat) (ht:P.underlying t=some (.slice e)) (hi:P.info? e=some i) (hz:i.zero=some z)
  (hsize:i.size=size) (hby:i.bytes=bytes) (hzs:z.cells.size=size) (hsz:0<size) {α:Type} (R:Rl α) (v:Value) (l:List α) (hs:a.eval s=v) (hG:dQ w w0.heap.size e size R v l) (hb:Below w0.heap.size w0 w)
  (ad:Addr) (n c:Nat) (ys:List α) (cs:List (List Value)) (hn':ys.length=n) (hx:a.eval x= .slice (some ad) n c) (hcs:mK (fun a c=>R w a c∧c.length=size) ys cs) (hat:∀ j u,cs.flatten[j]? =some u→w.cell? (ad.add j)=some u) (h1:∀ u∈cs.flatten,u.oneCell'=true)
  (hR:sV [e] R) (hn:l.length+n≤1000000) (hbytes:bytes≤1000)
  (h:∀ v' w',dQ w' w0.heap.size e size R v' (l++ys)→Below w0.heap.size w0 w'→Keep [e] w w'→wpList P ops Q rest (a.put o.dst v') w'):wpList P ops Q (o::rest) a w:=by
 obtain ⟨xs,hown,hall⟩:=hG
 have hl:cs.flatten.length=n*size:=by rw [Uc (UO (S:=fun c=>c.length=size) hcs fun _ _ h=>h.2),hcs.1,hn']
 refine wpList_append_own w hgd s x t ho w0.heap.size e i z size bytes ht hi hz hsize hby hzs hsz v l.length xs.flatten hs hown ad n c cs.flatten hx hl hat h1 (by unfold maxLen;omega) ?_ hb.size (fun v' w' hown' hg _=>?_)
 ·have:=Nat.mul_le_mul (show l.length+n≤1000000 by omega) hbytes
  omega
 ·have hk:Keep [e] w w':=Keep.grown hown hg
  refine h v' w' ⟨xs++cs,?_,all2_append (mK.mono hall fun a c h=>⟨hR _ _ _ _ hk h.1,h.2⟩) (mK.mono hcs fun a c h=>⟨hR _ _ _ _ hk h.1,h.2⟩)⟩ (hb.grown hg hb.size fun r hr=>?_) hk
  ·rw [List.length_append,List.flatten_append,hn']
   exact hown'
  ·obtain ⟨-, ⟨rfl, -⟩|⟨g,cap,cur,rfl,hg1, -⟩⟩:=hown
   ·cases hr
   ·simp only [Value.ownBlock,Option.some.injEq] at hr
    omega
end Go.Mem
namespace Go.Proofs.aL
open Go Go.RowKit Go.SW Go.Num Go.Mem Go.Proofs Go.Dec Go.Proofs.aC Go.dF
theorem over_q (p q:Rat) (hq:q≠0):((p.num*(q.den:Int):Int):Rat) / (((p.den:Int)*q.num:Int):Rat)=p / q:=by
 have h1:=xO p
 have h2:=xO q
 have d1:=Le p
 have d2:=Le q
 have d3:((q.num:Int):Rat)≠0:=fun e=>hq (by rw [h2,e];grind)
 rw [Rat.intCast_mul,Rat.intCast_mul]
 generalize (p.num:Rat)=a at *
 generalize ((p.den:Int):Rat)=b at *
 generalize (q.num:Rat)=c at *
 generalize ((q.den:Int):Rat)=d at *
 subst h1 h2
 grind
theorem Over_ok (x y:Value) (p q:Rat) (w:World) (hx:Ra w x p) (hy:Ra w y q) (h1:qW 10000000000 p) (h2:qW 10000000000 q) (h0:q≠0):Calls Tryz.prog 80 #[x,y] w (pz w (p / q)):=by
 obtain ⟨bA,nJ,lA,nQ,bAd,Rn,lAd,UG,rfl,hA1,hA2⟩:=id hx;obtain ⟨bB,pI,lB,pJ,bBd,ab9,lBd,ah2,rfl,hB1,hB2⟩:=id hy;have QA:=zh hx;have NA:=zh hA1;have Ba:=zh hA2;have QB:=zh hy;have NB:=zh hB1;have Mq:=zh hB2
 obtain ⟨s1,s2⟩:=qW.four h1;obtain ⟨s3,s4⟩:=qW.four h2;have S1:Hid (sz 10000 p.num.natAbs≤549755813888):=zh zo;have S2:Hid (sz 10000 (p.den:Int).natAbs≤549755813888):=zh zo;have S3:Hid (sz 10000 q.num.natAbs≤549755813888):=zh zo;have S4:Hid (sz 10000 (q.den:Int).natAbs≤549755813888):=zh zo
 have L1:Hid (sz 10000 (p.num*(q.den:Int)).natAbs≤274877906944):=zh (by have:=tQ s1 s4;omega)
 have L2:Hid (sz 10000 ((p.den:Int)*q.num).natAbs≤274877906944):=zh (by have:=tQ s2 s3;omega)
 have L3:Hid ((p.den:Int)*q.num≠0):=zh (Int.mul_ne_zero (by have:=p.den_pos;omega) (fun e=>h0 (Rat.num_eq_zero.1 e)))
 have HL:=zh (fun x y w hx hy=>wD x y (p.num*(q.den:Int)) ((p.den:Int)*q.num) w hx hy L1.out L2.out L3.out)
 rw [over_q p q h0] at HL
 clear hx hy hA1 hA2 hB1 hB2 h1 h2 s1 s2 s3 s4 L1 L2 L3 h0
 go_enter Tryz.func80,Tryz.ntmps80
 go_wp2_with fail
 obtain ⟨gP,EW,hz,X1,X2,X3⟩:=al3 w #[.bool bA,.slice nJ lA nQ,.bool bAd,.slice Rn lAd UG] 123 #[.bool bB,.slice pI lB pJ,.bool bBd,.slice ab9 lBd ah2] 123 #[.bool false,.slice none 0 0,.bool false,.slice none 0 0] 123
 rw [EW]
 replace NA:=zh (NA.out.later hz)
 replace Ba:=zh (Ba.out.later hz)
 replace NB:=zh (NB.out.later hz)
 replace Mq:=zh (Mq.out.later hz)
 have hk2:=Bt (Below.refl _ _) hz
 clear EW hz
 obtain ⟨jm,ji,jl⟩:=X1.clf
 obtain ⟨oG,om,oz⟩:=X2.clf
 refine aD [(.pure,0),(.read,1),(.pure,2),(.read,3),(.pure,5),(.read,6),(.pure,7),(.read,8),(.ext,4),(.ext,9),(.ext,10),(.fin,11)] zk zk zR zP ?_
 repeat (first|(refine au rfl rfl fun J h=>?_;go_simp;refine h _ ?_;clear h J)|(refine aF rfl rfl rfl rfl fun J h=>?_;go_simp;refine h _ ?_;clear h J;try go_simp))
 refine aG rfl rfl (fun Fb hb3 J hJ=>?_);go_simp
 have hh3:Below gP.heap.size gP Fb:=belA
 clear hb3
 refine (aC.mI _ _ _ _ _ (NA.out.later hh3) (Mq.out.later hh3) S1.out S4.out).mono ?_
 rintro e xK ⟨v,rfl,hb4,hv5⟩
 obtain ⟨bC,Jo,lC,JR,rfl⟩:=hv5.agg
 refine hJ _ _ hb4 ?_
 clear hJ J
 have wP:=Bt hh3 hb4
 have NC:=zh hv5
 clear hh3 hb4 hv5
 repeat (first|(refine au rfl rfl fun J h=>?_;go_simp;refine h _ ?_;clear h J)|(refine aF rfl rfl rfl rfl fun J h=>?_;go_simp;refine h _ ?_;clear h J;try go_simp))
 refine aG rfl rfl (fun wF hb6 J hJ=>?_);go_simp
 have jY:Below gP.heap.size gP wF:=Bt wP belA
 replace NC:=zh (NC.out.later (show Below xK.heap.size xK wF from belA))
 clear hb6 wP
 refine (aC.mI _ _ _ _ _ (Ba.out.later jY) (NB.out.later jY) S2.out S3.out).mono ?_
 rintro e nH ⟨v,rfl,iA,nM⟩
 obtain ⟨bD,PI,lD,Qd,rfl⟩:=nM.agg
 refine hJ _ _ iA ?_
 clear hJ J
 have uH:=Bt jY iA
 replace NC:=zh (NC.out.later iA)
 have ND:=zh nM
 clear jY iA nM
 repeat (first|(refine au rfl rfl fun J h=>?_;go_simp;refine h _ ?_;clear h J)|(refine aF rfl rfl rfl rfl fun J h=>?_;go_simp;refine h _ ?_;clear h J;try go_simp))
 refine aG rfl rfl (fun Am ou J hJ=>?_);go_simp
 have jB:Below gP.heap.size gP Am:=Bt uH belA
 replace NC:=zh (NC.out.later (show Below nH.heap.size nH Am from belA))
 replace ND:=zh (ND.out.later (show Below nH.heap.size nH Am from belA))
 clear ou uH
 refine (HL.out _ _ _ NC.out ND.out).mono ?_
 rintro e iR ⟨v,rfl,gW,jZ⟩
 obtain ⟨bE,paE,lE,caE,bEd,aC3,lEd,aH1,rfl,aD7,aD5⟩:=id jZ
 refine hJ _ _ gW ?_
 clear hJ J
 have mE:=Bt jB gW
 replace NC:=zh (NC.out.later gW)
 replace ND:=zh (ND.out.later gW)
 have QE:=zh jZ
 clear jB gW jZ aD7 aD5
 repeat (first|(refine au rfl rfl fun J h=>?_;go_simp;refine h _ ?_;clear h J)|(refine aF rfl rfl rfl rfl fun J h=>?_;go_simp;refine h _ ?_;clear h J;try go_simp))
 refine aN [_] rfl (fun xw Tq=>?_)
 replace NC:=zh (NC.out.later (show Below iR.heap.size iR xw from belA))
 replace ND:=zh (ND.out.later (show Below iR.heap.size iR xw from belA))
 replace QE:=zh (QE.out.later (show Below iR.heap.size iR xw from belA))
 have hh12:Below gP.heap.size gP xw:=Bt mE belA
 clear Tq mE
 clear jm ji jl oG om oz
 replace NA:=zh (NA.out.later hh12)
 replace Ba:=zh (Ba.out.later hh12)
 replace NB:=zh (NB.out.later hh12)
 replace Mq:=zh (Mq.out.later hh12)
 replace X1:=X1.bl hh12
 replace X2:=X2.bl hh12
 replace X3:=X3.bl hh12
 have au8:=Bt hk2 hh12
 clear hk2
 clear hh12
 clear NC
 clear ND
 obtain ⟨Qe,PN,PX⟩:=X3.clf
 have hres:=X3.out
 have vW:=hres.cell
 have vS:=hres.free
 go_wp2_with fail
 refine dO rfl rfl boxA Tryz.underlying123 rfl zk ?_
 exact ⟨_,rfl,belA,Ra.sI QE.out hres zd _ _ _ _⟩
end Go.Proofs.aL
namespace Go.Proofs.aL
open Go Go.RowKit Go.SW Go.Num Go.Mem Go.Proofs Go.Dec Go.Proofs.aC Go.dF
theorem zero_q:((0:Int):Rat) / ((1:Int):Rat)=0:=by decide+kernel
--for F=Add|Sub|Mul;G=aH8|aB5|aC5;P=xW|UY|mI;O=p+q|p - q|p*q;S=(Ck hp hq).mono zo|(VQ hp hq).mono zo|(VT hp hq).mono zo
end Go.Proofs.aL
namespace Go.Proofs.aI
open Go Go.RowKit Go.SW Go.Num Go.Mem Go.Proofs Go.Dec Go.dF Go.Proofs.aL Go.Proofs.matrix
theorem take_all {qs:List Rat} {k:Nat} (hk:k<qs.length) (h:∀ q∈qs.take k,iU q=true) (hq:iU qs[k]=true):∀ q∈qs.take (k+1),iU q=true:=fun q hm=>by
 rw [List.take_succ_eq_append_getElem hk,List.mem_append] at hm
 rcases hm with hm|hm
 ·exact h q hm
 ·rw [List.mem_singleton.1 hm];exact hq
theorem Out_at {q:Rat} (h:Sz1 q) (x:Value) (W:World) (hx:Ra W x q):Calls Tryz.prog 75 #[x] W (ai1 W (wr q)):=Dv x q W hx h.four.1 h.four.2
theorem out_yes {q:Rat} (h:Sz1 q) (hq:iU q=true) (x:Value) (W:World) (hx:Ra W x q):Calls Tryz.prog 75 #[x] W (fun e w'=>e= .returned (.tuple #[(Fr.of q).v,.int .i64 0])∧Below W.heap.size W w'):=by
 have:=Out_at h x W hx
 rw [show wr q=(Fr.of q,0) by unfold wr;rw [if_pos hq]] at this
 exact this
theorem out_no {q:Rat} (h:Sz1 q) (hq:iU q=false) (x:Value) (W:World) (hx:Ra W x q):Calls Tryz.prog 75 #[x] W (fun e w'=>e= .returned (.tuple #[.agg #[.string ⟨#[]⟩,.string ⟨#[]⟩],.int .i64 6])∧Below W.heap.size W w'):=by
 have:=Out_at h x W hx
 rw [show wr q=(Fr.no,6) by unfold wr;rw [if_neg (by simp [hq])]] at this
 exact this
theorem all_no {qs:List Rat} {k:Nat} (hk:k<qs.length) (h:iU qs[k]=false):qs.all iU=false:=by
 rw [Bool.eq_false_iff]
 intro e
 have:=List.all_eq_true.1 e _ (List.getElem_mem hk)
 rw [h] at this
 cases this
theorem Told_ok (v:Value) (qs:List Rat) (w:World) (h:xH w v qs) (hs:∀ q∈qs,Sz1 q) (hn:qs.length≤1000) :
  Calls Tryz.prog 72 #[v] w (UZ w qs):=by
 obtain ⟨i0,hi,hz0,hz1,hz2⟩:=info_parts qE
 obtain ⟨a,cap,rfl,hc1,hc2,hread⟩:=xH.at h
 have H:=zh hread
 have HS:=zh hs
 clear h hread hs
 go_enter Tryz.func72,Tryz.ntmps72
 go_wp2_with fail
 go_loopw [4,5] (fun ov iv wr=>∃ k:Nat,iv= .int .i64 (k:Int)∧k≤qs.length∧Hid (dQ wr w.heap.size 59 2 RFr ov ((qs.take k).map Fr.of))∧Hid (∀ q∈qs.take k,iU q=true)∧Below w.heap.size w wr) (fun _ iv _=>qs.length - (intOf iv).toNat)
 case atStart=>exact ⟨0,rfl,by omega,zh (dQ.nil _ _ _ _ _),zh (fun q h=>by cases h),Below.refl _ _⟩
 case round =>
  obtain ⟨k,rfl,hk,HG,HK,hb⟩:=hrel
  rcases Nat.lt_or_ge k qs.length with hlt|hge
  ·obtain ⟨b,off,bn,pn,ln,cn,bd,pd,ld,cd,rfl,hbl,x0,x1,x2,x3,hra⟩:=H.out k hlt
   have c0:=(hb.cell (p:=⟨b,off+k*4,none⟩) hbl).trans x0
   have c1:=(hb.cell (p:=⟨b,off+k*4+1,none⟩) hbl).trans x1
   have c2:=(hb.cell (p:=⟨b,off+k*4+2,none⟩) hbl).trans x2
   have c3:=(hb.cell (p:=⟨b,off+k*4+3,none⟩) hbl).trans x3
   have RA:=zh (hra.later hb)
   have SQ:=zh (HS.out _ (List.getElem_mem hlt))
   clear x0 x1 x2 x3 hra
   obtain ⟨av,cv,rfl⟩:=HG.out.at (n:=k) (by simp;omega)
   cases hv:iU qs[k] with
   | true =>
    have HV:=zh hv
    have OU:=zh (out_yes SQ.out hv _ wr RA.out)
    obtain ⟨⟨s,t⟩,hf⟩:∃ y,Fr.of qs[k]=y:=⟨_,rfl⟩
    rw [hf] at OU
    have HF:=zh hf
    replace OU:Hid (Calls Tryz.prog 75 #[.agg #[.bool bn,.slice pn ln cn,.bool bd,.slice pd ld cd]] wr (fun e w'=>e= .returned (.tuple #[.agg #[.string s,.string t],.int .i64 0])∧Below wr.heap.size wr w')):=OU
    clear hv hf
    go_wp2_with fail
    refine OU.out.mono ?_
    rintro e w1 ⟨rfl,hb1⟩
    have HB:=zh (Bt hb hb1)
    replace HG:=zh (HG.out.later hb1 (RFr.stay _))
    clear hb hb1 c0 c1 c2 c3 OU
    go_wp2_with (at_builtin;refine wpList_grow (w0:=w) rfl (.tmp 25) (.tmp 27) 29 rfl 59 i0 (.agg #[.string ⟨#[]⟩,.string ⟨#[]⟩]) 2 32 Tryz.underlying29 hi hz0 hz1 hz2 rfl zd RFr _ ((qs.take k).map Fr.of) rfl (HG.out.later belA (RFr.stay _)) (Bt HB.out belA) _ [.string s,.string t] ⟨s,t⟩ rfl (boxA) rfl ?c1 rfl (RFr.stay _) ?c2 zo ?_)
    case c1=>intro u hu;simp only [List.mem_cons,List.not_mem_nil,or_false] at hu;rcases hu with rfl|rfl<;>rfl
    case c2=>simp;omega
    intro v' w2 hg hb2 _
    have HG2:Hid (dQ w2 w.heap.size 59 2 RFr v' ((qs.take (k+1)).map Fr.of)):=zh (by rw [List.take_succ_eq_append_getElem hlt,List.map_append,List.map_singleton,HF.out,List.map_take];exact hg)
    clear hg HG
    go_wp2_with fail
    go_roundw
    case rel=>exact ⟨k+1,by go_num,by omega,HG2,zh (take_all hlt HK.out HV.out),hb2⟩
    case measure=>exact zM
   | false =>
    have HN:=zh (all_no hlt hv)
    have OU:=zh (out_no SQ.out hv _ wr RA.out)
    clear hv
    go_wp2_with fail
    refine OU.out.mono ?_
    rintro e w1 ⟨rfl,hb1⟩
    have HB:=zh (Bt hb hb1)
    go_wp2_with fail
    go_ret2
    exact .inr ⟨HN.out,rfl,Bt HB.out belA⟩
  ·obtain rfl:k=qs.length:=by omega
   rw [List.take_length] at HG HK
   obtain ⟨av,cv,rfl⟩:=HG.out.slice
   have HY:Hid (qs.all iU=true):=zh (List.all_eq_true.2 HK.out)
   go_wp2_with fail
   go_ret2
   exact .inl ⟨HY.out,_,rfl,hb,HG.out.YG.PW⟩
theorem allM_no {m:RM} {k:Nat} (hk:k<m.length) (h:m[k].all iU=false):uR m=false:=by
 unfold uR
 rw [Bool.eq_false_iff]
 intro e
 have:=List.all_eq_true.1 e _ (List.getElem_mem hk)
 rw [h] at this
 cases this
theorem takeM_all {m:RM} {k:Nat} (hk:k<m.length) (h:∀ r∈m.take k,r.all iU=true) (hq:m[k].all iU=true):∀ r∈m.take (k+1),r.all iU=true:=fun q hm=>by
 rw [List.take_succ_eq_append_getElem hk,List.mem_append] at hm
 rcases hm with hm|hm
 ·exact h q hm
 ·rw [List.mem_singleton.1 hm];exact hq
theorem OutM_ok (v:Value) (m:RM) (w:World) (h:Dw w v m) (hs:∀ r∈m,∀ q∈r,Sz1 q) (hn:m.length≤1000∧∀ r∈m,r.length≤1000) :
  Calls Tryz.prog 69 #[v] w (MatPost w (if uR m then 0 else 6) m.fr):=by
 obtain ⟨i0,hi,hz0,hz1,hz2⟩:=info_parts Lu
 obtain ⟨a,cap,rfl,hc1,hc2,hread⟩:=Dw.at h
 have H:=zh hread
 have HS:=zh hs
 have HN:=zh hn.2
 have hn1:=hn.1
 have NO:=zh (fun k hk h=>show (if uR m then (0:Int) else 6)=6 by rw [allM_no (m:=m) (k:=k) hk h];rfl)
 have YES:Hid ((∀ r∈m,r.all iU=true)→(if uR m then (0:Int) else 6)=0):=zh fun h=>by rw [show uR m=true from List.all_eq_true.2 h];rfl
 generalize (if uR m then (0:Int) else 6)=z at *
 clear h hread hs hn
 go_enter Tryz.func69,Tryz.ntmps69
 go_wp2_with fail
 go_loopw [4,5] (fun ov iv wr=>∃ k:Nat,iv= .int .i64 (k:Int)∧k≤m.length∧Hid (dQ wr w.heap.size 29 1 uY ov ((m.take k).map fun r=>r.map Fr.of))∧Hid (∀ r∈m.take k,r.all iU=true)∧Below w.heap.size w wr) (fun _ iv _=>m.length - (intOf iv).toNat)
 case atStart=>exact ⟨0,rfl,by omega,zh (dQ.nil _ _ _ _ _),zh (fun q h=>by cases h),Below.refl _ _⟩
 case round =>
  obtain ⟨k,rfl,hk,HG,HK,hb⟩:=hrel
  rcases Nat.lt_or_ge k m.length with hlt|hge
  ·obtain ⟨b,off,a',c',rfl,hbl,hx1,hx2⟩:=H.out k hlt
   have hc1:=(hb.cell (p:=⟨b,off+k,none⟩) hbl).trans hx1
   have TO:=zh (Told_ok _ m[k] wr (hx2.later hb) (HS.out _ (List.getElem_mem hlt)) (HN.out _ (List.getElem_mem hlt)))
   clear hx1 hx2
   generalize m[k].length=n at *
   obtain ⟨av,cv,rfl⟩:=HG.out.at (n:=k) (by simp;omega)
   go_wp2_with fail
   refine TO.out.mono ?_
   rintro e w1 (⟨hy,vo,rfl,hb1,hf⟩|⟨hy,rfl,hb1⟩)
   ·obtain ⟨ax,cx,rfl, -⟩:=hf.read
    have HF:=zh hf
    have HY:=zh hy
    have HB:=zh (Bt hb hb1)
    replace HG:=zh (HG.out.later hb1 (uY.stay zi))
    clear hf hy hb hb1 hc1
    have hl:(m[k].map Fr.of).length=m[k].length:=List.length_map _
    rw [hl] at HF ⊢
    clear hl
    generalize m[k].length=n2 at *
    go_wp2_with (at_builtin;refine wpList_grow (w0:=w) rfl (.tmp 25) (.tmp 27) 23 rfl 29 i0 (.slice none 0 0) 1 24 Tryz.underlying23 hi hz0 hz1 hz2 rfl zd uY _ ((m.take k).map fun r=>r.map Fr.of) rfl (HG.out.later belA (uY.stay zi)) (Bt HB.out belA) _ [.slice ax n2 cx] (m[k].map Fr.of) rfl (ah.new _ _ _) rfl ?c1 ⟨_,rfl,HF.out.later belA⟩ (uY.stay zi) ?c2 zo ?_)
    case c1=>intro u hu;simp only [List.mem_cons,List.not_mem_nil,or_false] at hu;rcases hu with rfl;rfl
    case c2=>simp;omega
    intro v' w2 hg hb2 _
    have HG2:Hid (dQ w2 w.heap.size 29 1 uY v' ((m.take (k+1)).map fun r=>r.map Fr.of)):=zh (by rw [List.take_succ_eq_append_getElem hlt,List.map_append,List.map_singleton];first|exact hg|(rw [List.map_take];exact hg))
    clear hg HG
    go_wp2_with fail
    go_roundw
    case rel=>exact ⟨k+1,by go_num,by omega,HG2,zh (takeM_all hlt HK.out HY.out),hb2⟩
    case measure=>exact zM
   ·have HZ:=zh (NO.out k hlt hy)
    have HB:=zh (Bt hb hb1)
    clear hy
    go_wp2_with fail
    go_ret2
    rw [HZ.out]
    exact MatPost.no HB.out zd
  ·obtain rfl:k=m.length:=by omega
   rw [List.take_length] at HG HK
   have HZ:=zh (YES.out HK.out)
   obtain ⟨av,cv,rfl⟩:=HG.out.slice
   go_wp2_with fail
   go_ret2
   rw [HZ.out]
   exact MatPost.yes hb HG.out.YG.Jr
end Go.Proofs.aI
namespace Go.Proofs.aI
open Go Go.RowKit Go.SW Go.Num Go.Mem Go.Proofs Go.Dec Go.dF Go.Proofs.aL Go.Proofs.matrix
theorem Quick0 (W:World):Calls Tryz.prog 127 #[.int .i64 0,.int .i64 1] W (pz W 0):=by
 have:=UW 0 1 zo zo zo zo zo W
 rwa [zero_q] at this
end Go.Proofs.aI
namespace Go.Proofs.aI
open Go Go.RowKit Go.SW Go.Num Go.Mem Go.Proofs Go.Dec Go.dF Go.Proofs.aL Go.Proofs.matrix
theorem fits_of {q:Rat} (h:iU q=true):Fits (Fr.of q):=by
 unfold iU at h
 rw [Bool.and_eq_true] at h
 have h1:=dZ.1 h.1
 have h2:=dZ.1 h.2
 have h3:=itoa_len q.num
 have h4:=itoa_len (q.den:Int)
 rw [Int.natAbs_natCast] at h4
 exact ⟨by show (Lib.itoa q.num).length≤_;omega,by show (Lib.itoa (q.den:Int)).length≤_;omega⟩
theorem fitsL {qs:List Rat} (h:∀ q∈qs,iU q=true):∀ x∈qs.map Fr.of,Fits x:=fun x hx=>by
 obtain ⟨q,hq,rfl⟩:=List.mem_map.1 hx
 exact fits_of (h q hq)
theorem okM_of {m:RM} {n:Nat} (h:m.ok n):kW m.fr=true:=by
 have:=h.Qa
 unfold gY at this
 cases e:kW m.fr with
 | true=>rfl
 | false=>rw [e] at this;cases this
theorem fitsM {m:RM} {n:Nat} (h:m.ok n):Zu m.fr:=fun r hr=>by
 obtain ⟨s,hs,rfl⟩:=List.mem_map.1 hr
 exact fitsL (h.2.2.2.2 s hs).2
theorem szM {m:RM} {n:Nat} (h:m.ok n):∀ r∈m,∀ q∈r,qW 67 q:=fun r hr q hq=>sN ((h.2.2.2.2 r hr).2 q hq)
theorem Right_yes (v:Value) (m:RM) (n:Nat) (w:World) (h:aP w v m.fr) (hm:m.ok n):Calls Tryz.prog 57 #[v] w (fun e w'=>e= .returned (.bool true)∧Below w.heap.size w w'):=okM_of hm ▸ Right_ok v m.fr w h (fitsM hm)
end Go.Proofs.aI
namespace Go.dF
open Go Go.Num
theorem quo_mul (y q:Int) (hy:y≠0):quo (y*q) y=q:=by
 unfold quo Mem.gM
 rw [Int.natAbs_mul,Nat.mul_div_cancel_left _ zo]
 rcases Int.lt_trichotomy q 0 with h|h|h
 ·rcases Int.lt_or_lt_of_ne hy with h'|h'
  ·have e1:¬ y*q<0:=by have:=Int.mul_pos_of_neg_of_neg h' h;omega
   simp [e1,h'];omega
  ·have e1:y*q<0:=Int.mul_neg_of_pos_of_neg h' h
   have e2:¬ y<0:=by omega
   simp [e1,e2];omega
 ·subst h
  simp
 ·rcases Int.lt_or_lt_of_ne hy with h'|h'
  ·have e1:y*q<0:=Int.mul_neg_of_neg_of_pos h' h
   simp [e1,h'];omega
  ·have e1:¬ y*q<0:=by have:=Int.mul_pos h' h;omega
   have e2:¬ y<0:=by omega
   simp [e1,e2];omega
theorem pick_spec {rs:IM} {k:Nat}:(∃ i,pick rs k=some i∧k≤i∧i<rs.length∧rs.at i k≠0)∨(pick rs k=none∧∀ j,k≤j→j<rs.length→rs.at j k=0):=by
 cases h:pick rs k with
 | some i =>
  left
  have h':=h
  unfold pick at h'
  rw [List.find?_range_eq_some] at h'
  obtain ⟨h1,h2,h3⟩:=h'
  simp at h1 h2
  exact ⟨i,rfl,h1.1,h2,h1.2⟩
 | none =>
  right
  have h':=h
  unfold pick at h'
  rw [List.find?_range_eq_none] at h'
  exact ⟨rfl,fun j hj hl=>by have:=h' j hl;simpa [hj] using this⟩
end Go.dF
namespace Go.dF
open Go Go.Num
theorem elim_some {m k i:Nat} {rs:IM} {p:Int} {t:Bool} (e:pick rs k=some i):elim (m+1) k rs p t=elim m (k+1) (iL (if i=k then rs else lK rs i k) k p) ((if i=k then rs else lK rs i k).at k k) (if i=k then t else !t):=by
 conv=>lhs;unfold elim
 rw [e]
theorem elim_none {m k:Nat} {rs:IM} {p:Int} {t:Bool} (e:pick rs k=none):elim (m+1) k rs p t=(0,false,rs):=by
 unfold elim
 rw [e]
theorem elim_step {N n k m:Nat} {rs:IM} {F:Nat→Nat→Int} (h:ShN N rs n F) (hk:k<n) (hN:k<N) (p:Int) (t:Bool) :
  (∃ i,k≤i∧i<n∧F i k≠0∧∃ rs',ShN N rs' n (fun r j=>F (Nc i k r) j)∧elim (m+1) k rs p t=elim m (k+1) (iL rs' k p) (F i k) (if i=k then t else !t))∨((∀ i,k≤i→i<n→F i k=0)∧elim (m+1) k rs p t=(0,false,rs)):=by
 rcases pick_spec (rs:=rs) (k:=k) with ⟨i,e,h2,h3,h4⟩|⟨e,h2⟩
 ·have hi:i<n:=by rw [← h.1];exact h3
  rw [h.2.2 i hi k hN] at h4
  refine .inl ⟨i,h2,hi,h4,?_⟩
  rw [elim_some e]
  by_cases c:i=k
  ·subst c
   rw [if_pos rfl,if_pos rfl]
   refine ⟨rs,h.congr fun r hr j hj=>by unfold Nc;split<;>(try split)<;>simp_all,?_⟩
   rw [h.2.2 i hi i hN]
  ·rw [if_neg c,if_neg c]
   refine ⟨_,h.swap hi hk,?_⟩
   have e2:=(h.swap hi hk).2.2 k hk k hN
   have e3:Nc i k k=i:=by unfold Nc;rw [if_pos rfl]
   rw [e2]
   simp only [e3]
 ·refine .inr ⟨fun i h5 h6=>?_,?_⟩
  ·rw [← h.2.2 i h6 k hN]
   exact h2 i h5 (by rw [h.1];exact h6)
  ·exact elim_none e
def stg (n k:Nat) (U:Nat→Nat→Int) (i j:Nat):Int :=
 if k=0 then U i j
 else if k=1 then (if i=0 then U 0 j else D2 U 0 i 0 j)
 else if k=2 then (if i=0 then D2 U 0 1 j 1 else if i=1 then D2 U 0 1 0 j else D3 U 0 1 i 0 1 j)
 else if k=3 then (if i=0 then D3 U 0 1 2 j 1 2 else if i=1 then D3 U 0 1 2 0 j 2 else if i=2 then D3 U 0 1 2 0 1 j else D4 U 0 1 2 j)
 else (if i=0 then D4 U j 1 2 3 else if i=1 then D4 U 0 j 2 3 else if i=2 then D4 U 0 1 j 3 else D4 U 0 1 2 j)
def pvt (k:Nat) (U:Nat→Nat→Int):Int:=if k=0 then 1 else if k=1 then U 0 0 else if k=2 then D2 U 0 1 0 1 else if k=3 then D3 U 0 1 2 0 1 2 else D4 U 0 1 2 3
theorem stg_clr {n k:Nat} (hk:k<n) (hn:n≤4) {U:Nat→Nat→Int} (hp:pvt k U≠0) {i j:Nat} (hi:i<n):clr (stg n k U) k (pvt k U) i j=stg n (k+1) U i j:=by
 have hc:k=0∨k=1∨k=2∨k=3:=by omega
 have hii:i=0∨i=1∨i=2∨i=3:=by omega
 unfold clr
 by_cases e:i=k
 ·rw [if_pos e]
  subst e
  rcases hc with rfl|rfl|rfl|rfl<;>(simp [stg];try (unfold D2;grind))
 ·rw [if_neg e,← quo_mul (pvt k U) (stg n (k+1) U i j) hp]
  congr 1
  rcases hc with rfl|rfl|rfl|rfl<;>rcases hii with rfl|rfl|rfl|rfl<;>first|(exact absurd rfl e)|(simp [stg,pvt,D2,D3,D4];try grind)
theorem stg_pvt {n k:Nat} (hk:k<n) (hn:n≤4) {U:Nat→Nat→Int}:stg n k U k k=pvt (k+1) U:=by
 have hc:k=0∨k=1∨k=2∨k=3:=by omega
 rcases hc with rfl|rfl|rfl|rfl<;>simp [stg,pvt]
theorem stg_trp {n k i:Nat} (hk:k≤i) (hi:i<n) (hn:n≤4) {U:Nat→Nat→Int} (r j:Nat) (hr:r<n):stg n k U (Nc i k r) j=stg n k (fun r j=>U (Nc i k r) j) r j:=by
 have hc:k=0∨k=1∨k=2∨k=3:=by omega
 have hii:i=0∨i=1∨i=2∨i=3:=by omega
 have hrr:r=0∨r=1∨r=2∨r=3:=by omega
 rcases hc with rfl|rfl|rfl|rfl<;>rcases hii with rfl|rfl|rfl|rfl<;>rcases hrr with rfl|rfl|rfl|rfl<;>first|omega|(simp [stg,Nc,D2,D3,D4];done)|(simp [stg,Nc,D2,D3,D4];grind)
theorem pvt_trp {n k i:Nat} (hk:k≤i) (hi:i<n) (hn:n≤4) {U:Nat→Nat→Int}:pvt k (fun r j=>U (Nc i k r) j)=pvt k U:=by
 have hc:k=0∨k=1∨k=2∨k=3:=by omega
 have hii:i=0∨i=1∨i=2∨i=3:=by omega
 rcases hc with rfl|rfl|rfl|rfl<;>rcases hii with rfl|rfl|rfl|rfl<;>first|omega|simp [pvt,Nc,D2,D3,D4]
theorem stg_zero {n k:Nat} (hk:k<n) (hn:n≤4) {U:Nat→Nat→Int} (hp:pvt k U≠0) (h:∀ i,k≤i→i<n→stg n k U i k=0):dtn n U=0:=by
 have key:pvt k U*dtn n U=0:=by
  have hc:k=0∨k=1∨k=2∨k=3:=by omega
  have hnn:n=1∨n=2∨n=3∨n=4:=by omega
  rcases hc with rfl|rfl|rfl|rfl<;>rcases hnn with rfl|rfl|rfl|rfl<;>first
   | omega
   | (have h3:=h 3 zo zo;have h2:=h 2;have h1:=h 1;have h0:=h 0;simp [stg,pvt,dtn,D2,D3,D4] at h0 h1 h2 h3 ⊢;grind)
   | (have h2:=h 2 zo zo;have h1:=h 1;have h0:=h 0;simp [stg,pvt,dtn,D2,D3,D4] at h0 h1 h2 ⊢;grind)
   | (have h1:=h 1 zo zo;have h0:=h 0;simp [stg,pvt,dtn,D2,D3,D4] at h0 h1 ⊢;grind)
   | (have h0:=h 0 zo zo;simp [stg,pvt,dtn,D2,D3,D4] at h0 ⊢;grind)
 rcases Int.mul_eq_zero.1 key with h|h
 ·exact absurd h hp
 ·exact h
theorem stg_end {n:Nat} (hn:1≤n∧n≤4) {U:Nat→Nat→Int} {i j:Nat} (hi:i<n):sm4 n (fun k=>U i k*stg n n U k j)=pvt n U*U i j:=by
 have hnn:n=1∨n=2∨n=3∨n=4:=by omega
 have hii:i=0∨i=1∨i=2∨i=3:=by omega
 rcases hnn with rfl|rfl|rfl|rfl<;>rcases hii with rfl|rfl|rfl|rfl<;>first|omega|(simp [sm4,stg,pvt,D2,D3,D4];try grind)
theorem pvt_end {n:Nat} (hn:1≤n∧n≤4) {U:Nat→Nat→Int}:pvt n U=dtn n U:=by
 have hnn:n=1∨n=2∨n=3∨n=4:=by omega
 rcases hnn with rfl|rfl|rfl|rfl<;>simp [pvt,dtn]
theorem elimN {N n:Nat} (hn:1≤n∧n≤4) (hN:n≤N):∀ (m k:Nat) (U:Nat→Nat→Int) (t:Bool) (rs:IM),k+m=n→ShN N rs n (stg n k U)→pvt k U≠0→ai2 N n U t (elim m k rs (pvt k U) t)
 | 0,k,U,t,rs,hk,h,hp=>by
  obtain rfl:k=n:=by omega
  unfold elim
  refine ⟨by rw [if_pos rfl];exact pvt_end hn,fun _ i hi j hj=>?_⟩
  have e:sm4 k (fun r=>U i r*rs.at r j)=sm4 k (fun r=>U i r*stg k k U r j):=by
   have g:=fun r (hr:r<k)=>h.2.2 r hr j hj
   have hnn:k=1∨k=2∨k=3∨k=4:=by omega
   rcases hnn with rfl|rfl|rfl|rfl
   ·simp [sm4,g 0]
   ·simp [sm4,g 0,g 1]
   ·simp [sm4,g 0,g 1,g 2]
   ·simp [sm4,g 0,g 1,g 2,g 3]
  simp only
  rw [e,stg_end hn hi]
 | m+1,k,U,t,rs,hk,h,hp=>by
  rcases elim_step (m:=m) h (k:=k) zo zo (pvt k U) t with ⟨i,h1,h2,h3,rs',h4,h5⟩|⟨h1,h2⟩
  ·rw [h5]
   have h6:ShN N rs' n (stg n k (fun r j=>U (Nc i k r) j)):=h4.congr fun r hr j hj=>stg_trp h1 h2 hn.2 r j hr
   have hp':pvt k (fun r j=>U (Nc i k r) j)≠0:=by rw [pvt_trp h1 h2 hn.2];exact hp
   have h7:=h6.clear (by omega:k<n) zo (pvt k (fun r j=>U (Nc i k r) j))
   have h8:ShN N (iL rs' k (pvt k U)) n (stg n (k+1) (fun r j=>U (Nc i k r) j)):=by
    rw [pvt_trp h1 h2 hn.2] at h7
    refine h7.congr fun r hr j hj=>?_
    rw [← pvt_trp h1 h2 hn.2]
    exact stg_clr zo hn.2 hp' hr
   have e:stg n k U i k=pvt (k+1) (fun r j=>U (Nc i k r) j):=by
    rw [← stg_pvt (n:=n) zo hn.2]
    have:=stg_trp (U:=U) h1 h2 hn.2 k k zo
    rw [← this]
    unfold Nc
    rw [if_pos rfl]
   rw [e]
   refine ai2.swap hn h1 h2 (elimN hn hN m (k+1) _ _ _ zo h8 ?_)
   rw [← e]
   exact h3
  ·rw [h2]
   refine ⟨?_,fun h=>absurd rfl h⟩
   rw [stg_zero zo hn.2 hp h1]
   simp
end Go.dF
namespace Go.dF
open Go Go.Num
def R3 (U:Nat→Nat→Rat) (r s q a b c:Nat):Rat:=U r a*(U s b*U q c - U q b*U s c) - U r b*(U s a*U q c - U q a*U s c)+U r c*(U s a*U q b - U q a*U s b)
def R4 (U:Nat→Nat→Rat) (a b c d:Nat):Rat:=U 0 a*R3 U 1 2 3 b c d - U 0 b*R3 U 1 2 3 a c d+U 0 c*R3 U 1 2 3 a b d - U 0 d*R3 U 1 2 3 a b c
def dR (n:Nat) (U:Nat→Nat→Rat):Rat:=if n=1 then U 0 0 else if n=2 then R2 U 0 1 0 1 else if n=3 then R3 U 0 1 2 0 1 2 else R4 U 0 1 2 3
def smR (n:Nat) (f:Nat→Rat):Rat:=if n=1 then f 0 else if n=2 then f 0+f 1 else if n=3 then f 0+f 1+f 2 else f 0+f 1+f 2+f 3
def dl (i j:Nat):Rat:=if i=j then 1 else 0
theorem smR_congr {n:Nat} (hn:1≤n∧n≤4) {f g:Nat→Rat} (h:∀ i,i<n→f i=g i):smR n f=smR n g:=by
 have hnn:n=1∨n=2∨n=3∨n=4:=by omega
 rcases hnn with rfl|rfl|rfl|rfl
 ·simp [smR,h 0]
 ·simp [smR,h 0,h 1]
 ·simp [smR,h 0,h 1,h 2]
 ·simp [smR,h 0,h 1,h 2,h 3]
theorem smR_mul {n:Nat} (hn:1≤n∧n≤4) (g:Nat→Rat) (s:Rat):smR n (fun k=>g k*s)=smR n g*s:=by
 have hnn:n=1∨n=2∨n=3∨n=4:=by omega
 rcases hnn with rfl|rfl|rfl|rfl<;>simp [smR,Rat.add_mul]
theorem sm4_cast {n:Nat} (hn:1≤n∧n≤4) (f:Nat→Int):((sm4 n f:Int):Rat)=smR n (fun i=>((f i:Int):Rat)):=by
 have hnn:n=1∨n=2∨n=3∨n=4:=by omega
 rcases hnn with rfl|rfl|rfl|rfl<;>simp [sm4,smR,Rat.intCast_add]
theorem dtn_cast {n:Nat} (hn:1≤n∧n≤4) {U:Nat→Nat→Int} {f:Nat→Nat→Rat} {D:Nat→Rat} (h:∀ i,i<n→∀ j,j<n→((U i j:Int):Rat)=f i j*D i) :
  ((dtn n U:Int):Rat)=dR n f*(if n=1 then D 0 else if n=2 then D 0*D 1 else if n=3 then D 0*D 1*D 2 else D 0*D 1*D 2*D 3):=by
 have hnn:n=1∨n=2∨n=3∨n=4:=by omega
 rcases hnn with rfl|rfl|rfl|rfl<;>simp (disch:=omega) [dtn,dR,D2,D3,D4,R2,R3,R4,Rat.intCast_add,Rat.intCast_sub,Rat.intCast_mul,h]<;>try grind
theorem cancelR {n:Nat} (hn:1≤n∧n≤4) {f:Nat→Nat→Rat} {y:Nat→Rat} (hd:dR n f≠0) (h:∀ i,i<n→smR n (fun l=>f i l*y l)=0):∀ k,k<n→y k=0:=by
 have hnn:n=1∨n=2∨n=3∨n=4:=by omega
 intro k hk
 have key:dR n f*y k=0:=by
  rcases hnn with rfl|rfl|rfl|rfl
  ·have h0:=h 0 zo
   obtain rfl:k=0:=by omega
   simp [smR,dR] at h0 ⊢
   grind
  ·have h0:=h 0 zo
   have h1:=h 1 zo
   have hkk:k=0∨k=1:=by omega
   simp [smR] at h0 h1
   rcases hkk with rfl|rfl
   ·have e:dR 2 f*y 0=(f 0 0*y 0+f 0 1*y 1)*f 1 1 - (f 1 0*y 0+f 1 1*y 1)*f 0 1:=by simp [dR,R2];grind
    rw [e,h0,h1];grind
   ·have e:dR 2 f*y 1=(f 1 0*y 0+f 1 1*y 1)*f 0 0 - (f 0 0*y 0+f 0 1*y 1)*f 1 0:=by simp [dR,R2];grind
    rw [e,h0,h1];grind
  ·have h0:=h 0 zo
   have h1:=h 1 zo
   have h2:=h 2 zo
   have hkk:k=0∨k=1∨k=2:=by omega
   simp [smR] at h0 h1 h2
   have e:dR 3 f*y k=R3 (fun i j=>if j=k then f i 0*y 0+f i 1*y 1+f i 2*y 2 else f i j) 0 1 2 0 1 2:=by
    rcases hkk with rfl|rfl|rfl<;>simp [dR,R3]<;>grind
   rw [e]
   rcases hkk with rfl|rfl|rfl<;>simp [R3,h0,h1,h2]<;>grind
  ·have h0:=h 0 zo
   have h1:=h 1 zo
   have h2:=h 2 zo
   have h3:=h 3 zo
   have hkk:k=0∨k=1∨k=2∨k=3:=by omega
   simp [smR] at h0 h1 h2 h3
   have e:dR 4 f*y k=R4 (fun i j=>if j=k then f i 0*y 0+f i 1*y 1+f i 2*y 2+f i 3*y 3 else f i j) 0 1 2 3:=by
    rcases hkk with rfl|rfl|rfl|rfl<;>simp [dR,R4,R3]<;>grind
   rw [e]
   rcases hkk with rfl|rfl|rfl|rfl<;>simp [R4,R3,h0,h1,h2,h3]<;>grind
 rcases Rat.mul_eq_zero.1 key with h|h
 ·exact absurd h hd
 ·exact h
theorem ShN_ext {n:Nat} {rs:IM} (h:rs.length=n):ShN (2*n) (ext rs) n (stg n 0 (fun i j=>if j<n then rs.at i j else if j=n+i then 1 else 0)):=by
 subst h
 refine ⟨by simp [ext],fun i hi=>?_,fun i hi j hj=>?_⟩
 ·simp [ext,hi]
 ·simp [ext,IM.at,hi,hj,stg]
theorem alg1 {f x r d c:Rat} (hd:d≠0) (hr:r≠0):f*(x*c / r)=f*d*x*(c / (d*r)):=by grind
theorem alg2 {r d:Rat} (hd:d≠0) (hr:r≠0):r*((1:Int):Rat)*(d / (d*r))=1:=by
 have:((1:Int):Rat)=1:=rfl
 rw [this]
 grind
theorem inv_rat {n:Nat} (hn:1≤n∧n≤4) {f:Nat→Nat→Rat} {D:Nat→Nat} (hD:∀ i,i<n→0<D i) {rs:IM} (hl:rs.length=n) (h:∀ i,i<n→∀ j,j<n→((rs.at i j:Int):Rat)=f i j*((D i:Nat):Rat)) {R:Int × Bool × IM} (hR:elim n 0 (ext rs) 1 false=R) :
  (R.1=0↔dR n f=0)∧(R.1≠0→∀ i,i<n→∀ c,c<n→smR n (fun k=>f i k*(((R.2.2.at k (n+c)*((D c:Nat):Int):Int):Rat) / ((R.1:Int):Rat)))=dl i c):=by
 have hE:=elimN hn (by omega:n≤2*n) n 0 _ false _ zo (ShN_ext hl) (by simp [pvt])
 rw [show pvt 0 (fun i j=>if j<n then rs.at i j else if j=n+i then 1 else 0)=1 by simp [pvt],hR] at hE
 have hDq:∀ i,i<n→((D i:Nat):Rat)≠0:=fun i hi=>by
  have:=hD i hi
  intro e
  have:D i=0:=by exact_mod_cast e
  omega
 obtain ⟨h1,h2⟩:=hE
 refine ⟨?_,fun h0 i hi c hc=>?_⟩
 ·have e:=dtn_cast hn (U:=fun i j=>if j<n then rs.at i j else if j=n+i then 1 else 0) (f:=f) (D:=fun i=>((D i:Nat):Rat)) (fun i hi j hj=>by simp [hj,h i hi j hj])
  rw [← h1] at e
  have hp:(if n=1 then ((D 0:Nat):Rat) else if n=2 then ((D 0:Nat):Rat)*((D 1:Nat):Rat) else if n=3 then ((D 0:Nat):Rat)*((D 1:Nat):Rat)*((D 2:Nat):Rat) else ((D 0:Nat):Rat)*((D 1:Nat):Rat)*((D 2:Nat):Rat)*((D 3:Nat):Rat))≠0:=by
   have hnn:n=1∨n=2∨n=3∨n=4:=by omega
   rcases hnn with rfl|rfl|rfl|rfl
   ·simpa using hDq 0 zo
   ·have:=hDq 0 zo
    have:=hDq 1 zo
    simp [Rat.mul_eq_zero, *]
   ·have:=hDq 0 zo
    have:=hDq 1 zo
    have:=hDq 2 zo
    simp [Rat.mul_eq_zero, *]
   ·have:=hDq 0 zo
    have:=hDq 1 zo
    have:=hDq 2 zo
    have:=hDq 3 zo
    simp [Rat.mul_eq_zero, *]
  constructor
  ·intro h
   have:dR n f*(if n=1 then ((D 0:Nat):Rat) else if n=2 then ((D 0:Nat):Rat)*((D 1:Nat):Rat) else if n=3 then ((D 0:Nat):Rat)*((D 1:Nat):Rat)*((D 2:Nat):Rat) else ((D 0:Nat):Rat)*((D 1:Nat):Rat)*((D 2:Nat):Rat)*((D 3:Nat):Rat))=0:=by
    rw [← e,h]
    split<;>simp
   rcases Rat.mul_eq_zero.1 this with h|h
   ·exact h
   ·exact absurd h hp
  ·intro h
   rw [h,Rat.zero_mul] at e
   have:(if R.2.1=false then R.1 else -R.1)=0:=by exact_mod_cast e
   split at this<;>omega
 ·have k:=h2 h0 i hi (n+c) zo
  have k':=congrArg (fun z:Int=>(z:Rat)) k
  simp only at k'
  rw [sm4_cast hn] at k'
  have hRq:((R.1:Int):Rat)≠0:=by
   intro e
   exact h0 (by exact_mod_cast e)
  have e1:smR n (fun k=>f i k*(((R.2.2.at k (n+c)*((D c:Nat):Int):Int):Rat) / ((R.1:Int):Rat)))=smR n (fun k=>((((if k<n then rs.at i k else if k=n+i then 1 else 0)*R.2.2.at k (n+c):Int):Int):Rat))*(((D c:Nat):Rat) / (((D i:Nat):Rat)*((R.1:Int):Rat))):=by
   have e2:∀ k,k<n→f i k*(((R.2.2.at k (n+c)*((D c:Nat):Int):Int):Rat) / ((R.1:Int):Rat))=((((if k<n then rs.at i k else if k=n+i then 1 else 0)*R.2.2.at k (n+c):Int):Int):Rat)*(((D c:Nat):Rat) / (((D i:Nat):Rat)*((R.1:Int):Rat))):=fun k hk=>by
    have hx:=h i hi k hk
    have hd:=hDq i hi
    rw [if_pos hk,Rat.intCast_mul,Rat.intCast_mul,hx,Rat.intCast_natCast]
    exact alg1 hd hRq
   rw [smR_congr hn e2,smR_mul hn]
  rw [e1,k']
  rw [if_neg zo]
  have hd:=hDq i hi
  unfold dl
  by_cases e:i=c
  ·subst e
   rw [if_pos rfl,if_pos rfl,Rat.intCast_mul]
   exact alg2 hd hRq
  ·rw [if_neg zo,if_neg e]
   simp
end Go.dF
namespace Go.dF
open Go Go.Num
def prD (n:Nat) (D:Nat→Rat):Rat:=if n=1 then D 0 else if n=2 then D 0*D 1 else if n=3 then D 0*D 1*D 2 else D 0*D 1*D 2*D 3
theorem det_rat {n:Nat} (hn:1≤n∧n≤4) {f:Nat→Nat→Rat} {D:Nat→Nat} (hD:∀ i,i<n→0<D i) {rs:IM} (hl:rs.length=n) (hr:∀ i,i<n→(rs.getD i []).length=n) (h:∀ i,i<n→∀ j,j<n→((rs.at i j:Int):Rat)=f i j*((D i:Nat):Rat)) {R:Int × Bool × IM} (hR:elim n 0 rs 1 false=R) :
  (((if R.2.1 then -R.1 else R.1:Int):Int):Rat) / prD n (fun i=>((D i:Nat):Rat))=dR n f:=by
 have hE:=elimN hn (Nat.le_refl n) n 0 (fun i j=>rs.at i j) false rs zo ⟨hl,hr,fun i _ j _=>by simp [stg]⟩ (by simp [pvt])
 rw [show pvt 0 (fun i j=>rs.at i j)=1 by simp [pvt],hR] at hE
 have hDq:∀ i,i<n→((D i:Nat):Rat)≠0:=fun i hi=>by
  have:=hD i hi
  intro e
  have:D i=0:=by exact_mod_cast e
  omega
 have e:=dtn_cast hn (U:=fun i j=>rs.at i j) (f:=f) (D:=fun i=>((D i:Nat):Rat)) h
 have e1:(if R.2.1 then -R.1 else R.1:Int)=dtn n (fun i j=>rs.at i j):=by
  rw [← hE.1]
  cases R.2.1<;>simp
 rw [e1,e]
 have hp:prD n (fun i=>((D i:Nat):Rat))≠0:=by
  have hnn:n=1∨n=2∨n=3∨n=4:=by omega
  rcases hnn with rfl|rfl|rfl|rfl
  ·simpa [prD] using hDq 0 zo
  ·have:=hDq 0 zo
   have:=hDq 1 zo
   simp [prD,Rat.mul_eq_zero, *]
  ·have:=hDq 0 zo
   have:=hDq 1 zo
   have:=hDq 2 zo
   simp [prD,Rat.mul_eq_zero, *]
  ·have:=hDq 0 zo
   have:=hDq 1 zo
   have:=hDq 2 zo
   have:=hDq 3 zo
   simp [prD,Rat.mul_eq_zero, *]
 show dR n f*prD n (fun i=>((D i:Nat):Rat)) / prD n (fun i=>((D i:Nat):Rat))=dR n f
 generalize prD n (fun i=>((D i:Nat):Rat))=P at *
 generalize dR n f=d
 grind
theorem smR_swap {n:Nat} (hn:1≤n∧n≤4) (a:Nat→Rat) (b:Nat→Nat→Rat) (c:Nat→Rat):smR n (fun k=>a k*smR n (fun l=>b k l*c l))=smR n (fun l=>smR n (fun k=>a k*b k l)*c l):=by
 have hnn:n=1∨n=2∨n=3∨n=4:=by omega
 rcases hnn with rfl|rfl|rfl|rfl<;>simp [smR]<;>grind
theorem smR_dl {n:Nat} (hn:1≤n∧n≤4) {i:Nat} (hi:i<n) (x:Nat→Rat):smR n (fun l=>dl i l*x l)=x i:=by
 have hnn:n=1∨n=2∨n=3∨n=4:=by omega
 have hii:i=0∨i=1∨i=2∨i=3:=by omega
 rcases hnn with rfl|rfl|rfl|rfl<;>rcases hii with rfl|rfl|rfl|rfl<;>first|omega|(simp [smR,dl,Rat.zero_mul,Rat.one_mul,Rat.zero_add,Rat.add_zero])
theorem smR_dl2 {n:Nat} (hn:1≤n∧n≤4) {i:Nat} (hi:i<n) (x:Nat→Rat):smR n (fun l=>x l*dl l i)=x i:=by
 have:(fun l=>x l*dl l i)=fun l=>dl i l*x l:=by
  funext l
  unfold dl
  by_cases e:l=i
  ·subst e;rw [if_pos rfl,Rat.mul_comm]
  ·rw [if_neg e,if_neg (fun h=>e h.symm),Rat.mul_comm]
 rw [this,smR_dl hn hi]
theorem smR_sub {n:Nat} (hn:1≤n∧n≤4) (a b:Nat→Rat):smR n (fun k=>a k - b k)=smR n a - smR n b:=by
 have hnn:n=1∨n=2∨n=3∨n=4:=by omega
 rcases hnn with rfl|rfl|rfl|rfl<;>simp [smR]<;>grind
theorem left_inv {n:Nat} (hn:1≤n∧n≤4) {f g:Nat→Nat→Rat} (hd:dR n f≠0) (h:∀ i,i<n→∀ c,c<n→smR n (fun k=>f i k*g k c)=dl i c):∀ i,i<n→∀ c,c<n→smR n (fun k=>g i k*f k c)=dl i c:=by
 intro i hi c hc
 have:=cancelR hn (f:=f) (y:=fun k=>smR n (fun l=>g k l*f l c) - dl k c) hd (fun r hr=>by
  have e:(fun l=>f r l*(smR n (fun q=>g l q*f q c) - dl l c))=fun l=>f r l*smR n (fun q=>g l q*f q c) - f r l*dl l c:=by
   funext l
   grind
  rw [e,smR_sub hn,smR_swap hn,smR_dl2 hn hc]
  rw [smR_congr hn (g:=fun l=>dl r l*f l c) (fun l hl=>by rw [h r hr l hl]),smR_dl hn hr]
  grind) i hi
 grind
end Go.dF
namespace Go.Proofs.aI
open Go Go.RowKit Go.SW Go.Num Go.Mem Go.Proofs Go.Dec Go.dF Go.Proofs.aL Go.Proofs.matrix
def cutR (j:Nat) (r:List Rat):List Rat:=r.take j++r.drop (j+1)
def cutM (m:RM) (i j k:Nat):RM:=(if k≤i then m.take k else m.take i++(m.take k).drop (i+1)).map (cutR j)
def withoutQ (m:RM) (i j:Nat):RM:=(m.take i++m.drop (i+1)).map (cutR j)
theorem cutM_end {m:RM} {i j:Nat} (hi:i<m.length):cutM m i j m.length=withoutQ m i j:=by
 unfold cutM withoutQ
 rw [if_neg zo,List.take_length]
theorem cutM_at {m:RM} {i j:Nat} (hi:i<m.length):cutM m i j (i+1)=cutM m i j i:=by
 unfold cutM
 rw [if_neg zo,if_pos (Nat.le_refl _)]
 rw [show (m.take (i+1)).drop (i+1)=[] by simp,List.append_nil]
theorem cutM_succ {m:RM} {i j k:Nat} (hk:k<m.length) (hne:k≠i):cutM m i j (k+1)=cutM m i j k++[cutR j m[k]]:=by
 unfold cutM
 rw [← List.map_singleton,← List.map_append]
 congr 1
 rcases Nat.lt_or_ge k i with h|h
 ·rw [if_pos zo,if_pos zo,List.take_succ_eq_append_getElem hk]
 ·rw [if_neg zo,if_neg zo,List.take_succ_eq_append_getElem hk,List.drop_append_of_le_length (by simp;omega),List.append_assoc]
theorem cutM_len {m:RM} {i j k:Nat} (hk:k≤m.length):(cutM m i j k).length=if k≤i then k else k - 1:=by
 unfold cutM
 rw [List.length_map]
 split
 ·simp;omega
 ·simp;omega
theorem cutR_len {j n:Nat} {r:List Rat} (h:r.length=n) (hj:j<n):(cutR j r).length=n - 1:=by
 unfold cutR
 simp
 omega
theorem without_ok (v:Value) (m:RM) (n i j:Nat) (w:World) (h:Dw w v m) (hr:∀ r∈m,r.length=n) (hi:i<m.length) (hj:j<n) (m4:m.length≤4) (n4:n≤4) :
  Calls Tryz.prog 81 #[v,.int .i64 (i:Int),.int .i64 (j:Int)] w (Yl w (withoutQ m i j)):=by
 obtain ⟨i0,hi0,hz0,hz1,hz2⟩:=info_parts ad2
 obtain ⟨i1,hi1,hy0,hy1,hy2⟩:=info_parts Xf
 rw [← cutM_end hi]
 obtain ⟨bx,ox,cx,rfl,lx,hat⟩:=Dw.get h hr zo
 have HX:=zh hat
 have HR:=zh hr
 have CL:Hid (∀ k,k≤m.length→(cutM m i j k).length≤4):=zh fun k hk=>by rw [cutM_len hk];split<;>omega
 have CA:=zh (cutM_at (j:=j) hi)
 have CS:=zh (fun k hk hne=>cutM_succ (m:=m) (i:=i) (j:=j) (k:=k) hk hne)
 clear h hat hr
 go_enter Tryz.func81,Tryz.ntmps81
 go_wp2_with fail
 go_loopw [7,8] (fun ov iv wr=>∃ k:Nat,iv= .int .i64 (k:Int)∧k≤m.length∧Hid (dQ wr w.heap.size 118 1 Dt ov (cutM m i j k))∧Below w.heap.size w wr) (fun _ iv _=>m.length - (intOf iv).toNat)
 case atStart=>exact ⟨0,rfl,by omega,zh (by unfold cutM;exact dQ.nil _ _ _ _ _),Below.refl _ _⟩
 case round =>
  obtain ⟨k,rfl,hk,HG,hb⟩:=hrel
  obtain ⟨nc,hnc⟩:∃ nc,(cutM m i j k).length=nc:=⟨_,rfl⟩
  obtain ⟨ov,cv,rfl⟩:=HG.out.at hnc
  have hnc4:nc≤4:=by have:=CL.out k hk;omega
  have HNC:=zh hnc
  clear hnc
  rcases Nat.lt_or_ge k m.length with hlt|hge
  ·by_cases he:k=i
   ·subst he
    have g1:((k:Int) == (k:Int))=true:=by simp
    go_wp2_with fail
    go_roundw
    case rel=>exact ⟨k+1,by go_num,by omega,zh (by rw [CA.out];exact HG.out),hb⟩
    case measure=>exact zM
   ·have g1:((k:Int) == (i:Int))=false:=by simp;omega
    have CSK:=zh (CS.out k hlt he)
    obtain ⟨a',c',x1,Lx⟩:=HX.out k hlt
    obtain ⟨b2,off2,rfl,hc1,hc2⟩:=xH.first Lx (HR.out _ (List.getElem_mem hlt)) zo
    have d1:=(hb.cell (p:=⟨bx,ox+k,none⟩) lx).trans x1
    have l1:bx<wr.heap.size:=Nat.lt_of_lt_of_le lx hb.size
    have HXR:=zh (Lx.later hb)
    clear x1 Lx
    have hrl:=HR.out _ (List.getElem_mem hlt)
    have HCL:=zh (cutR_len hrl hj)
    have OC:Hid (∀ (W:World) l cs,mK (fun a c=>Vt W a c∧c.length=4) l cs→∀ u∈cs.flatten,u.oneCell'=true):=zh fun W l cs h u hu=>by
     obtain ⟨c,hc,hu⟩:=List.mem_flatten.1 hu
     obtain ⟨x,hx⟩:=UO (S:=fun c=>∃ x,Vt W x c) h (fun a b hab=>⟨a,hab.1⟩) c hc
     obtain ⟨bn,pn,ln,cn,bd,pd,ld,cd,rfl, -⟩:=hx
     simp only [List.mem_cons,List.not_mem_nil,or_false] at hu
     rcases hu with rfl|rfl|rfl|rfl<;>rfl
    have S1:Hid (∃ cs:List (List Value),mK (fun a c=>Vt wr a c∧c.length=4) (m[k].take j) cs∧∀ t u,cs.flatten[t]? =some u→wr.cell? ((⟨b2,off2,none⟩:Addr).add t)=some u):=zh (by
     have:=SlV.src HXR.out hrl zo 0 j zo
     rw [Nat.zero_mul,Nat.add_zero,List.drop_zero] at this
     exact this)
    have T1:Hid ((m[k].take j).length=j):=zh (by simp;omega)
    have T2:Hid ((m[k].drop (j+1)).length=n - (j+1)):=zh (by simp;omega)
    obtain ⟨cs1,k1,k2⟩:=S1.out
    have K1:=zh k1
    have K2:=zh k2
    have HB:=zh hb
    have CSE:Hid (cutR j m[k]=m[k].take j++m[k].drop (j+1)):=zh rfl
    clear k1 k2 S1 hrl hb
    have HJN:=zh hj
    rcases Nat.lt_or_ge (j+1) c' with hca|hca
    ·skip
     go_wp2_with (at_builtin;refine wpList_growN (w0:=wr) rfl (.tmp 19) (.tmp 25) 118 rfl 123 i0 (.agg #[.bool false,.slice none 0 0,.bool false,.slice none 0 0]) 4 64 Tryz.underlying118 hi0 hz0 hz1 hz2 rfl zd Vt _ [] rfl (dQ.nil _ _ _ _ _) (Below.refl _ _) ⟨b2,off2,none⟩ j c' (m[k].take j) cs1 T1.out rfl K1.out K2.out (OC.out _ _ _ K1.out) (Vt.stay zi) ?c2 zo ?_)
     case c2=>simp;omega
     intro v1 w2 hg1 hb2 hk2
     try rw [List.nil_append] at hg1
     obtain ⟨rv,rc,rfl⟩:=hg1.at T1.out
     have Zr:=zh hg1
     have d2:=(hb2.cell (p:=⟨bx,ox+k,none⟩) l1).trans d1
     have l2:bx<w2.heap.size:=Nat.lt_of_lt_of_le l1 hb2.size
     have HB2:=zh hb2
     have S2:Hid (∃ cs:List (List Value),mK (fun a c=>Vt w2 a c∧c.length=4) (m[k].drop (j+1)) cs∧∀ t u,cs.flatten[t]? =some u→w2.cell? ((⟨b2,off2+(j+1)*4,none⟩:Addr).add t)=some u):=zh (by (have h:=SlV.src (SlV.later HXR.out HB2.out (Vt.stay zi)) (HR.out _ (List.getElem_mem hlt)) zo (j+1) (n - (j+1)) (by have:=HJN.out;omega));rw [List.take_of_length_le (by have:=T2.out;omega)] at h;exact h)
     obtain ⟨cs2,k1,k2⟩:=S2.out
     have K3:=zh k1
     have K4:=zh k2
     clear hg1 hb2 hk2 k1 k2 S2 d1 l1
     go_wp2_with (at_builtin;refine wpList_growN (w0:=wr) rfl (.tmp 27) (.tmp 34) 118 rfl 123 i0 (.agg #[.bool false,.slice none 0 0,.bool false,.slice none 0 0]) 4 64 Tryz.underlying118 hi0 hz0 hz1 hz2 rfl zd Vt _ (m[k].take j) rfl Zr.out HB2.out ⟨b2,off2+(j+1)*4,none⟩ (n - (j+1)) (c' - (j+1)) (m[k].drop (j+1)) cs2 T2.out rfl K3.out K4.out (OC.out _ _ _ K3.out) (Vt.stay zi) ?c2 zo ?_)
     case c2=>have:=T1.out;omega
     intro v2 w3 hg2 hb3 hk3
     rw [← CSE.out] at hg2
     obtain ⟨rv2,rc2,rfl⟩:=hg2.at HCL.out
     have HV:Hid (xH w3 _ (cutR j m[k])):=zh hg2.YG
     have HB3:=zh (Bt HB.out hb3)
     replace HG:=zh (HG.out.later hb3 (Dt.stay zi zi))
     clear hg2 hb3 hk3 Zr HB2 d2 l2
     go_wp2_with (at_builtin;refine wpList_grow (w0:=w) rfl (.tmp 36) (.tmp 38) 116 rfl 118 i1 (.slice none 0 0) 1 24 Tryz.underlying116 hi1 hy0 hy1 hy2 rfl zd Dt _ (cutM m i j k) rfl (HG.out.later belA (Dt.stay zi zi)) (Bt HB3.out belA) _ [.slice rv2 (n - 1) rc2] (cutR j m[k]) rfl (ah.new _ _ _) rfl ?c1 ⟨_,rfl,HV.out.later belA⟩ (Dt.stay zi zi) ?c2 zo ?_)
     case c1=>first|(intro u hu;simp only [List.mem_cons,List.not_mem_nil,or_false] at hu;rcases hu with rfl;rfl)|rfl
     case c2=>rw [HNC.out];omega
     intro v' w4 hg hb4 _
     have HG2:Hid (dQ w4 w.heap.size 118 1 Dt v' (cutM m i j (k+1))):=zh (by rw [CSK.out];exact hg)
     clear hg HG HV
     go_wp2_with fail
     go_roundw
     case rel=>exact ⟨k+1,by go_num,by omega,HG2,hb4⟩
     case measure=>exact zM
    ·(have hcj:c'=j+1:=by omega);subst hcj
     go_wp2_with (at_builtin;refine wpList_growN (w0:=wr) rfl (.tmp 19) (.tmp 25) 118 rfl 123 i0 (.agg #[.bool false,.slice none 0 0,.bool false,.slice none 0 0]) 4 64 Tryz.underlying118 hi0 hz0 hz1 hz2 rfl zd Vt _ [] rfl (dQ.nil _ _ _ _ _) (Below.refl _ _) ⟨b2,off2,none⟩ j (j+1) (m[k].take j) cs1 T1.out rfl K1.out K2.out (OC.out _ _ _ K1.out) (Vt.stay zi) ?c2 zo ?_)
     case c2=>simp;omega
     intro v1 w2 hg1 hb2 hk2
     try rw [List.nil_append] at hg1
     obtain ⟨rv,rc,rfl⟩:=hg1.at T1.out
     have Zr:=zh hg1
     have d2:=(hb2.cell (p:=⟨bx,ox+k,none⟩) l1).trans d1
     have l2:bx<w2.heap.size:=Nat.lt_of_lt_of_le l1 hb2.size
     have HB2:=zh hb2
     have S2:Hid (∃ cs:List (List Value),mK (fun a c=>Vt w2 a c∧c.length=4) (m[k].drop (j+1)) cs∧∀ t u,cs.flatten[t]? =some u→w2.cell? ((⟨b2,off2,none⟩:Addr).add t)=some u):=zh (by refine ⟨[],?_,fun t u hu=>by cases hu⟩;rw [List.length_eq_zero_iff.1 (T2.out.trans zo:(m[k].drop (j+1)).length=0)];exact mK.nil)
     obtain ⟨cs2,k1,k2⟩:=S2.out
     have K3:=zh k1
     have K4:=zh k2
     clear hg1 hb2 hk2 k1 k2 S2 d1 l1
     go_wp2_with (at_builtin;refine wpList_growN (w0:=wr) rfl (.tmp 27) (.tmp 34) 118 rfl 123 i0 (.agg #[.bool false,.slice none 0 0,.bool false,.slice none 0 0]) 4 64 Tryz.underlying118 hi0 hz0 hz1 hz2 rfl zd Vt _ (m[k].take j) rfl Zr.out HB2.out ⟨b2,off2,none⟩ 0 0 (m[k].drop (j+1)) cs2 (T2.out.trans zo) rfl K3.out K4.out (OC.out _ _ _ K3.out) (Vt.stay zi) ?c2 zo ?_)
     case c2=>have:=T1.out;omega
     intro v2 w3 hg2 hb3 hk3
     rw [← CSE.out] at hg2
     obtain ⟨rv2,rc2,rfl⟩:=hg2.at HCL.out
     have HV:Hid (xH w3 _ (cutR j m[k])):=zh hg2.YG
     have HB3:=zh (Bt HB.out hb3)
     replace HG:=zh (HG.out.later hb3 (Dt.stay zi zi))
     clear hg2 hb3 hk3 Zr HB2 d2 l2
     go_wp2_with (at_builtin;refine wpList_grow (w0:=w) rfl (.tmp 36) (.tmp 38) 116 rfl 118 i1 (.slice none 0 0) 1 24 Tryz.underlying116 hi1 hy0 hy1 hy2 rfl zd Dt _ (cutM m i j k) rfl (HG.out.later belA (Dt.stay zi zi)) (Bt HB3.out belA) _ [.slice rv2 (n - 1) rc2] (cutR j m[k]) rfl (ah.new _ _ _) rfl ?c1 ⟨_,rfl,HV.out.later belA⟩ (Dt.stay zi zi) ?c2 zo ?_)
     case c1=>first|(intro u hu;simp only [List.mem_cons,List.not_mem_nil,or_false] at hu;rcases hu with rfl;rfl)|rfl
     case c2=>rw [HNC.out];omega
     intro v' w4 hg hb4 _
     have HG2:Hid (dQ w4 w.heap.size 118 1 Dt v' (cutM m i j (k+1))):=zh (by rw [CSK.out];exact hg)
     clear hg HG HV
     go_wp2_with fail
     go_roundw
     case rel=>exact ⟨k+1,by go_num,by omega,HG2,hb4⟩
     case measure=>exact zM
  ·obtain rfl:k=m.length:=by omega
   go_wp2_with fail
   go_ret
   exact ⟨_,rfl,hb,HG.out.YG⟩
end Go.Proofs.aI
