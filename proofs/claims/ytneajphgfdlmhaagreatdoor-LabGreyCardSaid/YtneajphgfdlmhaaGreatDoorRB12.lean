/- Lemmas for the proof. No condition. -/
import Derived.Test.YtneajphgfdlmhaaGreatDoorRB01
import Derived.Test.YtneajphgfdlmhaaGreatDoorRB02
import Derived.Test.YtneajphgfdlmhaaGreatDoorRB03
import Derived.Test.YtneajphgfdlmhaaGreatDoorRB04
import Derived.Test.YtneajphgfdlmhaaGreatDoorRB06
import Derived.Test.YtneajphgfdlmhaaGreatDoorRB07
import Derived.Test.YtneajphgfdlmhaaGreatDoorRB08
import Derived.Test.YtneajphgfdlmhaaGreatDoorRB11
import Derived.Deep.Cut
set_option linter.unusedVariables false
set_option linter.unusedSimpArgs false
set_option maxRecDepth 100000
set_option maxHeartbeats 16000000
namespace Go.Proofs.aG
open Go Go.RowKit Go.SW Go.Num Go.Mem Go.Proofs Go.Dec
theorem WR {l:List Nat} {k:Nat} (hd:iM 10000 l) (ht:Top l) (h:∀ i,i<k→(txt l)[i]? =some 48) (hk:k<(txt l).length) (hne:(txt l)[k]? ≠some 48):(txt l).drop k=Lib.decDigits (val 10000 l):=by
 have hl:l≠[]:=fun e=>by subst e;cases hk
 have hp:=jS (B:=10000) zo ht hl;obtain ⟨m,hm⟩:=Mk hd ht hl
 have hkm:k=m:=by
  rcases Nat.lt_trichotomy k m with h1|h1|h1
  ·exfalso
   rw [hm,List.getElem?_append_left (by simpa using h1)] at hne;simp [h1] at hne
  ·exact h1
  ·exfalso
   have h2:=h m h1;rw [hm,List.getElem?_append_right zi] at h2;simp only [List.length_replicate,Nat.sub_self] at h2;have:=wV (n:=val 10000 l) (by rw [List.head?_eq_getElem?];exact h2);omega
 subst hkm;rw [hm,List.drop_append_of_le_length zi,List.drop_of_length_le zi,List.nil_append]
theorem WS {l:List Nat} (hd:iM 10000 l) (ht:Top l) (h:∀ i,i<(txt l).length→(txt l)[i]? =some 48):val 10000 l=0:=by
 by_cases hl:l=[]
 ·subst hl;rfl
 ·exfalso
  have hp:=jS (B:=10000) zo ht hl;obtain ⟨m,hm⟩:=Mk hd ht hl;have h2:=h m (by rw [hm,List.length_append,List.length_replicate];have:=wU (val 10000 l);omega);rw [hm,List.getElem?_append_right zi] at h2;simp only [List.length_replicate,Nat.sub_self] at h2;have:=wV (n:=val 10000 l) (by rw [List.head?_eq_getElem?];exact h2);omega
theorem ba_eq {a b:ByteArray} (h:a.data.toList=b.data.toList):a=b:=by
 cases a;cases b
 simp only at h;rw [Array.toList_inj.1 h]
theorem Ab (z:Int):Lib.itoa z=if z<0 then 45::Lib.decDigits z.natAbs else Lib.decDigits z.natAbs:=by
 unfold Lib.itoa
 by_cases h:z<0
 ·rw [if_pos h,if_pos h]
 ·rw [if_neg h,if_neg h,show z.toNat=z.natAbs by omega]
theorem vI (S:ByteArray) (k:Nat):(S.extract k S.size).data.toList=S.data.toList.drop k:=by
 have h:S.size=S.data.toList.length:=rfl;rw [ByteArray.data_extract,Array.toList_extract];unfold List.extract;rw [List.take_of_length_le (by rw [List.length_drop,h];exact Nat.le_refl _)]
theorem au7 (x:Value) (z:Int) (w:World) (hx:Pl w x z) (hs:sz 10000 z.natAbs≤1073741824) :
  Calls Tryz.prog 207 #[x] w (fun e w'=>e= .returned (.string ⟨(Lib.itoa z).toArray⟩)∧Below w.heap.size w w'):=by
 obtain ⟨bA,JJ,lA,Ls,rfl⟩:=hx.agg;obtain ⟨hn,hbz⟩:=hx.nm;obtain ⟨l,El⟩:∃ l,eO 10000 z.natAbs=l:=⟨_,rfl⟩;obtain ⟨pa',ca',e,k1,k2,k3⟩:=hn.read;simp only [Value.slice.injEq] at e;obtain ⟨rfl,rfl,rfl⟩:=e;rw [El] at k3;have hl:l.length=sz 10000 z.natAbs:=by rw [← El];rfl
 have hdl:iM 10000 l:=by rw [← El];exact bg zo _
 have htl:Top l:=by rw [← El];exact qD zo _
 have hvl:val 10000 l=z.natAbs:=by rw [← El];exact aR zo _
 obtain ⟨L,EL⟩:∃ L,sz 10000 z.natAbs=L:=⟨_,rfl⟩;rw [EL] at hl hs k1 k3 ⊢;have h0:Below w.heap.size w (w.alloc (.cells #[.bool bA,.slice JJ L Ls] 161)):=au;have hbx:=ah.new w #[.bool bA,.slice JJ L Ls] 161;obtain ⟨W,EW⟩:∃ y,w.alloc (.cells #[.bool bA,.slice JJ L Ls] 161)=y:=⟨_,rfl⟩;rw [EW] at h0 hbx
 have k4:∀ k,k<L→∃ b off,JJ=some ⟨b,off,none⟩∧b<W.heap.size∧W.cell? ⟨b,off+k,none⟩=some (.int .i64 (l.getD k 0:Nat)):=fun k hk=>by
  obtain ⟨b,off,e,h1,h2⟩:=k3 k hk;exact ⟨b,off,e,Nat.lt_of_lt_of_le h1 h0.size,(h0.cell (by exact h1)).trans h2⟩
 have K4:=zh k4;have HX:=zh hbx;have HL:=zh hl;have HDL:=zh hdl;have HTL:=zh htl;have HVL:=zh hvl;have HBZ:=zh hbz;have c0:=hbx.cell;clear k3 k4 hbx hl hdl htl hvl hbz hn hx EL El;go_enter Tryz.func207,Tryz.ntmps207
 go_wp2_with fail
 clear EW c0
 go_loopw [3,4] (fun sv iv wr=>∃ (q:Int) (S:ByteArray), -1≤q∧q<L∧iv= .int .i64 q∧sv= .string S∧Hid (S.data.toList=txt (l.drop (q+1).toNat))∧Hid (Below W.heap.size W wr)) (fun _ iv _=>(intOf iv+1).toNat)
 case atStart =>
  have e:((L:Int) - 1+1).toNat=l.length:=by have:=HL.out;omega
  exact ⟨(L:Int) - 1,⟨#[]⟩,by omega,by omega,rfl,rfl,zh (by rw [e,List.drop_length];rfl),zh (Below.refl _ _)⟩
 case round =>
  obtain ⟨q,S,hq1,hq2,rfl,rfl,HS,HB⟩:=hrel;have hbx:=HX.out.later HB.out;have c0:=hbx.cell
  by_cases hq:q<0
  ·have hq0:q= -1:=by omega
   subst hq0;have hS:S.data.toList=txt l:=by have:=HS.out;simpa using this
   have HS2:=zh hS;clear hS HS
   have hsz:S.size=4*L:=by
    have h1:S.size=S.data.toList.length:=rfl;rw [h1,HS2.out,UW,HL.out]
   go_wp2_with fail
   go_loop [5] (fun kv=>∃ k:Nat,k≤S.size∧kv= .int .i64 k∧Hid (∀ i,i<k→S.data.toList[i]? =some 48)) (fun kv=>S.size - (intOf kv).toNat)
   case atStart=>exact ⟨0,Nat.zero_le _,rfl,zh fun i hi=>by cases hi⟩
   case round =>
    obtain ⟨k,hk,rfl,HK⟩:=hrel
    by_cases hks:k<S.size
    ·have hg:(txt l)[k]? =some S[k]:=by
      rw [← HS2.out];exact List.getElem?_eq_getElem (by exact hks)
     by_cases h48:S[k]=48
     ·have e:((S[k].toNat:Int) == 48)=true:=by rw [h48];rfl
      have Jz:Hid (∀ i,i<k+1→S.data.toList[i]? =some 48):=zh fun i hi=>by
       by_cases hik:i<k
       ·exact HK.out i hik
       ·obtain rfl:i=k:=by omega
        rw [HS2.out,hg,h48]
      clear hg h48;go_wp2_with fail
      go_round
      case rel=>exact ⟨k+1,by omega,by go_num,Jz⟩
      case measure=>exact zM
     ·have e:((S[k].toNat:Int) == 48)=false:=by
       rw [beq_eq_false_iff_ne];intro h;have bs2:S[k].toNat=48:=by omega
       exact h48 (UInt8.toNat_inj.1 (by rw [bs2];rfl))
      have hdrop:=WR HDL.out HTL.out (fun i hi=>by rw [← HS2.out];exact HK.out i hi) (by rw [← HS2.out];exact hks) (by rw [hg];intro h;exact h48 (Option.some.inj h))
      have hT:(S.extract k (4*L)).data.toList=Lib.decDigits z.natAbs:=by
       rw [← hsz,vI,HS2.out,hdrop,HVL.out]
      have hE:(S.extract k (4*L)).toList.isEmpty=false:=by
       rw [ByteArray.toList_eq,hT];have:=wU z.natAbs;cases h:Lib.decDigits z.natAbs with
       | nil=>rw [h] at this;cases this
       | cons a b=>rfl
      have HT:=zh hT;clear hdrop hT hg h48 HK;cases bA
      ·have hz:¬ z<0:=by have:=HBZ.out;intro h;rw [decide_eq_true h] at this;cases this
       have eS:S.extract k (4*L)=⟨(Lib.itoa z).toArray⟩:=ba_eq (by rw [HT.out,Ab,if_neg hz]);have ES:=zh eS;clear eS hz;go_wp2_with fail
       go_ret
       exact ⟨congrArg (fun s=>Ending.returned (.string s)) ES.out,Bt h0 HB.out⟩
      ·have hz:z<0:=of_decide_eq_true HBZ.out.symm
       have eS:(⟨#[45]⟩:ByteArray)++S.extract k (4*L)=⟨(Lib.itoa z).toArray⟩:=ba_eq (by
        rw [Ab,if_pos hz,ByteArray.data_append,Array.toList_append,HT.out];rfl)
       have ES:=zh eS
       have hsm:¬ 9223372036854775807<1+(S.extract k (4*L)).size:=by
        have h1:(S.extract k (4*L)).size=(S.extract k (4*L)).data.toList.length:=rfl;have h2:=HT.out;rw [← hsz,vI] at h2
        have h3:(S.extract k (4*L)).data.toList.length≤S.data.toList.length:=by
         rw [← hsz,vI,List.length_drop];omega
        have h4:S.data.toList.length=S.size:=rfl;omega
       clear eS hz;go_wp2_with fail
       go_ret
       exact ⟨congrArg (fun s=>Ending.returned (.string s)) ES.out,Bt h0 HB.out⟩
    ·have hke:k=S.size:=by omega
     subst hke
     have hz0:z.natAbs=0:=by
      rw [← HVL.out]
      exact WS HDL.out HTL.out fun i hi=>by
       rw [← HS2.out] at hi ⊢;exact HK.out i hi
     have hz:z=0:=by omega
     have EZ:Hid ((⟨#[48]⟩:ByteArray)=⟨(Lib.itoa z).toArray⟩):=zh (by rw [hz];exact ba_eq (by rw [Ab];simp [jJ]));clear hz hz0 HK;go_wp2_with fail
     go_ret
     exact ⟨congrArg (fun s=>Ending.returned (.string s)) EZ.out,Bt h0 HB.out⟩
  ·obtain ⟨j,rfl⟩:=Int.eq_ofNat_of_zero_le (by omega:0≤q);have ej:((j:Int)+1).toNat=j+1:=by omega
   rw [ej] at HS;obtain ⟨b,off,rfl,hb1,hc1⟩:=K4.out j zo;have hcj:wr.cell? ⟨b,off+j,none⟩=some (.int .i64 (l.getD j 0:Nat)):=(HB.out.cell (by exact hb1)).trans hc1;have hdj:=HDL.out.getD zo j;have HST:Hid (txt (l.drop j)=S.data.toList++pad 4 (l.getD j 0)):=zh (by rw [HS.out];exact YR (by rw [HL.out];omega));have HSL:Hid (S.data.toList.length=4*(L - (j+1))):=zh (by rw [HS.out,UW,List.length_drop,HL.out]);clear HS hc1;generalize l.getD j 0=d at *;have HF:=zh (aq2 d hdj)
   have hsum:¬ 9223372036854775807<S.size+(pad 4 d).length:=by
    have h1:S.size=S.data.toList.length:=rfl;rw [su,h1,HSL.out];omega
   go_wp2_with fail
   refine (HF.out _).mono ?_;rintro e w1 ⟨rfl,hb⟩;have HB1:=zh (Bt HB.out hb);clear hb hbx c0 hcj;go_wp2_with fail
   go_roundw
   case rel =>
    have e1:((j:Int) - 1+1).toNat=j:=by omega
    exact ⟨(j:Int) - 1,S++⟨(pad 4 d).toArray⟩,by omega,by omega,rfl,rfl,zh (by rw [e1,HST.out];simp),HB1⟩
   case measure=>simp [intOf]
theorem Ue (n:Nat):(Lib.decDigits n).length≤4*sz 10000 n+1:=by
 refine nZ _ _ zo ?_;have h1:=ku (B:=10000) zo n;have h2:(10:Nat)^(4*sz 10000 n)=10000^sz 10000 n:=by rw [Nat.pow_mul]
 rw [Nat.pow_succ,h2];omega
def Zx (z:Int):Value:=if jQ.nC z.natAbs then .tuple #[dP z,.int .i64 0] else .tuple #[.string ⟨#[]⟩,.int .i64 6]
theorem ab2 (z:Int):(Lib.itoa z).length=(Lib.decDigits z.natAbs).length+(if z<0 then 1 else 0):=by
 rw [Ab]
 by_cases h:z<0
 ·rw [if_pos h,if_pos h];rfl
 ·rw [if_neg h,if_neg h];rfl
theorem Oj (x:Value) (z:Int) (w:World) (hx:Pl w x z) (hs:sz 10000 z.natAbs≤1073741824) :
  Calls Tryz.prog 209 #[x] w (fun e w'=>e= .returned (Zx z)∧Below w.heap.size w w'):=by
 obtain ⟨bA,JJ,lA,Ls,rfl⟩:=hx.agg;obtain ⟨hn,hbz⟩:=hx.nm;have NA:=zh hx;have hlen:=ab2 z;have hok:=jQ.iN (n:=z.natAbs);obtain ⟨S,ES⟩:∃ S:ByteArray,Hid (S=⟨(Lib.itoa z).toArray⟩):=⟨_,zh rfl⟩;have hsz:S.size=(Lib.itoa z).length:=by rw [ES.out];simp [ByteArray.size]
 have hsb:(Lib.decDigits z.natAbs).length≤4294967297:=by
  have:=Ue z.natAbs;omega
 have HT:=zh (fun W (hb:Below w.heap.size w W)=>au7 _ z W (hx.later hb) hs);rw [← ES.out] at HT
 have hv:Zx z=if (Lib.decDigits z.natAbs).length≤600 then .tuple #[.string S,.int .i64 0] else .tuple #[.string ⟨#[]⟩,.int .i64 6]:=by
  unfold Zx;rw [ES.out]
  by_cases h:(Lib.decDigits z.natAbs).length≤600
  ·rw [if_pos h,if_pos (hok.2 h)];rfl
  ·rw [if_neg h,if_neg (fun h'=>h (hok.1 h'))]
 rw [hv];obtain ⟨n,En⟩:∃ n,(Lib.decDigits z.natAbs).length=n:=⟨_,rfl⟩;rw [En] at hlen hsb ⊢;rw [hlen] at hsz;have h0:Below w.heap.size w (w.alloc (.cells #[.bool bA,.slice JJ lA Ls] 161)):=au;have hbx:=ah.new w #[.bool bA,.slice JJ lA Ls] 161;have uX:=zh hbx;have HH0:=zh h0
 by_cases hz:z<0
 ·have hbt:bA=true:=by rw [hbz,decide_eq_true hz]
  subst hbt;rw [if_pos hz] at hsz;clear hz hlen hok hn hbz hv En hs hx NA h0 hbx
  by_cases hbig:n≤600
  ·rw [if_pos hbig];have e1:¬ (600:Int)<(n:Int)+1 - 1:=by omega
   go_enter Tryz.func209,Tryz.ntmps209
   go_wp2_with fail
   refine (HT.out _ HH0.out).mono ?_;rintro e w1 ⟨rfl,hb⟩;have c0:=(uX.out.later hb).cell;go_wp2_with fail
   go_ret2
   exact ⟨rfl,Bt HH0.out hb⟩
  ·rw [if_neg hbig];have e1:(600:Int)<(n:Int)+1 - 1:=by omega
   go_enter Tryz.func209,Tryz.ntmps209
   go_wp2_with fail
   refine (HT.out _ HH0.out).mono ?_;rintro e w1 ⟨rfl,hb⟩;have c0:=(uX.out.later hb).cell;go_wp2_with fail
   go_ret2
   exact ⟨rfl,Bt HH0.out hb⟩
 ·have hbt:bA=false:=by rw [hbz,decide_eq_false hz]
  subst hbt;rw [if_neg hz,Nat.add_zero] at hsz;clear hz hlen hok hn hbz hv En hs hx NA h0 hbx
  by_cases hbig:n≤600
  ·rw [if_pos hbig];have e1:¬ (600:Int)<(n:Int):=by omega
   go_enter Tryz.func209,Tryz.ntmps209
   go_wp2_with fail
   refine (HT.out _ HH0.out).mono ?_;rintro e w1 ⟨rfl,hb⟩;have c0:=(uX.out.later hb).cell;go_wp2_with fail
   go_ret2
   exact ⟨rfl,Bt HH0.out hb⟩
  ·rw [if_neg hbig];have e1:(600:Int)<(n:Int):=by omega
   go_enter Tryz.func209,Tryz.ntmps209
   go_wp2_with fail
   refine (HT.out _ HH0.out).mono ?_;rintro e w1 ⟨rfl,hb⟩;have c0:=(uX.out.later hb).cell;go_wp2_with fail
   go_ret2
   exact ⟨rfl,Bt HH0.out hb⟩
end Go.Proofs.aG
namespace Go.Proofs.dL
open Go Go.RowKit Go.SW Go.Num Go.Mem Go.Proofs Go.Dec Go.Proofs.aG
def Ra (w:World) (v:Value) (q:Rat):Prop:=∃ bn pn ln cn bd pd ld cd,v= .agg #[.bool bn,.slice pn ln cn,.bool bd,.slice pd ld cd]∧Pl w (.agg #[.bool bn,.slice pn ln cn]) q.num∧Pl w (.agg #[.bool bd,.slice pd ld cd]) q.den
theorem Ra.later {w w':World} {v:Value} {q:Rat} (h:Ra w v q) (hb:Below w.heap.size w w'):Ra w' v q:=by
 obtain ⟨bn,pn,ln,cn,bd,pd,ld,cd,e,h1,h2⟩:=h;exact ⟨bn,pn,ln,cn,bd,pd,ld,cd,e,h1.later hb,h2.later hb⟩
def Jo (w:World) (q:Rat) (e:Ending) (w':World):Prop:=∃ v',e= .returned v'∧Below w.heap.size w w'∧Ra w' v' q
theorem Bw {n d:Int} (hd:0<d):((n:Rat) / (d:Rat)).num=n / (Nat.gcd n.natAbs d.natAbs:Int)∧(((n:Rat) / (d:Rat)).den:Int)=d / (Nat.gcd n.natAbs d.natAbs:Int):=by
 obtain ⟨k,rfl⟩:=Int.eq_ofNat_of_zero_le (Int.le_of_lt hd);have hk:0<k:=by omega
 have e:(n:Rat) / ((k:Int):Rat)=mkRat n k:=by
  rw [Rat.mkRat_eq_div];rfl
 have h:=jQ.zX n hk;rw [e,Int.natAbs_natCast];refine ⟨?_,?_⟩
 ·rw [h.1,jQ.Gm (Nat.gcd_dvd_left _ _)]
 ·rw [h.2,Int.natCast_ediv]
theorem Pl.Gn {w:World} {v:Value} {z:Int} (h:Pl w v z) {b:Nat} {cs:Array Value} {T':TypeId} (hx:ah w b cs T') (hT:3≠T') (u0 u1 u2 u3:Value) :
  Pl ((((w.setCell ⟨b,0,none⟩ u0).setCell ⟨b,1,none⟩ u1).setCell ⟨b,2,none⟩ u2).setCell ⟨b,3,none⟩ u3) v z :=
 (h.set2 hx hT 0 1 u0 u1).set2 ((hx.set 0 u0).set 1 u1) hT 2 3 u2 u3
theorem Ra.Gn {w:World} {v:Value} {q:Rat} (h:Ra w v q) {b:Nat} {cs:Array Value} {T':TypeId} (hx:ah w b cs T') (hT:3≠T') (u0 u1 u2 u3:Value) :
  Ra ((((w.setCell ⟨b,0,none⟩ u0).setCell ⟨b,1,none⟩ u1).setCell ⟨b,2,none⟩ u2).setCell ⟨b,3,none⟩ u3) v q:=by
 obtain ⟨bn,pn,ln,cn,bd,pd,ld,cd,e,h1,h2⟩:=h;exact ⟨bn,pn,ln,cn,bd,pd,ld,cd,e,Pl.Gn h1 hx hT u0 u1 u2 u3,Pl.Gn h2 hx hT u0 u1 u2 u3⟩
theorem Ux (x y:Value) (n d:Int) (w:World) (hx:Pl w x n) (hy:Pl w y d) (ha:sz 10000 n.natAbs≤274877906944) (hb:sz 10000 d.natAbs≤274877906944) (hd:0<d) :
  Calls Tryz.prog 210 #[x,y] w (Jo w ((n:Rat) / (d:Rat))):=by
 obtain ⟨e1,e2⟩:=Bw (n:=n) hd;obtain ⟨q,Eq⟩:∃ q:Rat,(n:Rat) / (d:Rat)=q:=⟨_,rfl⟩;rw [Eq] at e1 e2 ⊢;obtain ⟨bA,JJ,lA,Ls,rfl⟩:=hx.agg;obtain ⟨bB,Yz,lB,YE,rfl⟩:=hy.agg;have hbf:bB=false:=by rw [hy.nm.2];simp;omega
 subst hbf;have NA:=zh hx;have NB:=zh hy;have KA:=zh ha;have KB:=zh hb;have hg0:0<Nat.gcd n.natAbs d.natAbs:=Nat.gcd_pos_of_pos_right _ zo;have hgd:Nat.gcd n.natAbs d.natAbs≤d.natAbs:=Nat.le_of_dvd zo (Nat.gcd_dvd_right _ _);have dn:((Nat.gcd n.natAbs d.natAbs:Nat):Int) ∣ n:=by rw [← Int.dvd_natAbs,Int.ofNat_dvd];exact Nat.gcd_dvd_left _ _
 have dd:((Nat.gcd n.natAbs d.natAbs:Nat):Int) ∣ d:=by rw [← Int.dvd_natAbs,Int.ofNat_dvd];exact Nat.gcd_dvd_right _ _
 have LA:=zh (fun W=>Jt (.agg #[.bool bA,.slice JJ lA Ls]) (.agg #[.bool false,.slice Yz lB YE]) n d W);generalize Nat.gcd n.natAbs d.natAbs=g at *;have G0:Hid (0<(g:Int)):=zh zo;have KG:Hid (sz 10000 (g:Int).natAbs≤274877906944):=zh (Nat.le_trans (jO zo (by simpa using hgd)) hb);have DN:=zh dn;have DD:=zh dd;have E1:=zh e1;have E2:=zh e2;clear e1 e2 Eq hx hy ha hb hd hg0 hgd dn dd;go_enter Tryz.func210,Tryz.ntmps210
 go_wp2_with fail
 obtain ⟨xW,EW,hz,X1,X2,X3⟩:=Jy w #[.bool bA,.slice JJ lA Ls] 161 #[.bool false,.slice Yz lB YE] 161 #[.bool false,.slice none 0 0,.bool false,.slice none 0 0] 163;rw [EW];replace NA:=zh (NA.out.later hz);replace NB:=zh (NB.out.later hz);have hk2:=Bt (Below.refl _ _) hz;clear EW hz;refine (LA.out _ NA.out NB.out KA.out KB.out).mono ?_;rintro e Fv ⟨v,rfl,hb3,hv4⟩;obtain ⟨bG,paG,lG,caG,rfl⟩:=hv4.agg;replace NA:=zh (NA.out.later hb3);replace NB:=zh (NB.out.later hb3);replace X1:=X1.bl hb3;replace X2:=X2.bl hb3;replace X3:=X3.bl hb3;have hk5:=Bt hk2 hb3;clear hk2;have NG:=zh hv4;clear hb3 hv4;obtain ⟨aO,aN,aP⟩:=X1.clf
 go_upto_region 4 with fail
 clear aO aN aP;obtain ⟨wq6,EW,hz,X4⟩:=pJ Fv #[.bool bG,.slice paG lG caG] 161;rw [EW];replace NA:=zh (NA.out.later hz);replace NB:=zh (NB.out.later hz);replace X1:=X1.bl hz;replace X2:=X2.bl hz;replace X3:=X3.bl hz;replace NG:=zh (NG.out.later hz);have hk7:=Bt hk5 hz;clear hk5;clear EW hz;generalize Fv.heap.size=pq6 at *;obtain ⟨aO,aN,aP⟩:=X1.clf;obtain ⟨xS,xK,xQ⟩:=X4.clf;go_wp2_with fail
 clear aO aN aP xS xK xQ;refine (AA _ _ _ _ _ NA.out NG.out KA.out KG.out G0.out (.inr DN.out)).mono ?_;rintro e wc8 ⟨vx,vy,rfl,Bd,hq,hr⟩;obtain ⟨bX,paX,lX,caX,rfl⟩:=hq.agg;obtain ⟨bU,Yx,lU,YC,rfl⟩:=hr.agg;replace NA:=zh (NA.out.later Bd);replace NB:=zh (NB.out.later Bd);replace X1:=X1.bl Bd;replace X2:=X2.bl Bd;replace X3:=X3.bl Bd;replace NG:=zh (NG.out.later Bd);replace X4:=X4.bl Bd;have hk10:=Bt hk7 Bd;clear hk7;have NX:=zh hq;clear Bd hq;obtain ⟨dI,dH,dO⟩:=X2.clf;obtain ⟨xS,xK,xQ⟩:=X4.clf
 go_upto_region 5 with fail
 clear dI dH dO xS xK xQ;obtain ⟨aj1,EW,hz,X5, -⟩:=uH wc8 #[.bool bX,.slice paX lX caX] 161 #[.bool bU,.slice Yx lU YC] 161;rw [EW];clear NA;replace NB:=zh (NB.out.later hz);clear X1;replace X2:=X2.bl hz;replace X3:=X3.bl hz;replace NG:=zh (NG.out.later hz);replace X4:=X4.bl hz;replace NX:=zh (NX.out.later hz);have be1:=Bt hk10 hz;clear hk10;clear EW hz;generalize wc8.heap.size=bJ1 at *;obtain ⟨dI,dH,dO⟩:=X2.clf;obtain ⟨xS,xK,xQ⟩:=X4.clf;go_wp2_with fail
 clear dI dH dO xS xK xQ;refine (AA _ _ _ _ _ NB.out NG.out KB.out KG.out G0.out (.inr DD.out)).mono ?_;rintro e aR3 ⟨vx,vy,rfl,Ns,hq,hr⟩;obtain ⟨bY,paY,lY,caY,rfl⟩:=hq.agg;obtain ⟨bV,Yw,lV,YB,rfl⟩:=hr.agg;replace NB:=zh (NB.out.later Ns);replace X2:=X2.bl Ns;replace X3:=X3.bl Ns;replace NG:=zh (NG.out.later Ns);replace X4:=X4.bl Ns;replace NX:=zh (NX.out.later Ns);replace X5:=X5.bl Ns;have bd9:=Bt be1 Ns;clear be1;have NY:=zh hq;clear Ns hq;obtain ⟨XY,Xr,XU⟩:=X5.clf;obtain ⟨qo,qb,qH⟩:=X3.clf
 go_upto_region 6 with fail
 clear XY Xr XU qo qb qH;obtain ⟨bF0,EW,hz,X7, -⟩:=uH aR3 #[.bool bY,.slice paY lY caY] 161 #[.bool bV,.slice Yw lV YB] 161;rw [EW];clear NB;clear X2;replace X3:=X3.bl hz;clear NG;clear X4;replace NX:=zh (NX.out.later hz);replace X5:=X5.bl hz;replace NY:=zh (NY.out.later hz);have bO4:=Bt bd9 hz;clear bd9;clear EW hz;generalize aR3.heap.size=bI9 at *;obtain ⟨XY,Xr,XU⟩:=X5.clf;obtain ⟨gY,gW,gX⟩:=X7.clf;obtain ⟨qo,qb,qH⟩:=X3.clf;have hres:=X3.out;have Dt:=hres.cell;have Dp:=hres.free;go_wp2_with fail
 refine dG rfl rfl aH Tryz.underlying163 rfl zk ?_;have hx:=Pl.Gn NX.out hres zd (.bool bX) (.slice paX lX caX) (.bool bY) (.slice paY lY caY);have hy:=Pl.Gn NY.out hres zd (.bool bX) (.slice paX lX caX) (.bool bY) (.slice paY lY caY);rw [← E1.out] at hx;rw [← E2.out] at hy;exact ⟨_,rfl,au,_,_,_,_,_,_,_,_,rfl,hx,hy⟩
theorem Uy (x y:Value) (n d:Int) (w:World) (hx:Pl w x n) (hy:Pl w y d) (ha:sz 10000 n.natAbs≤274877906944) (hb:sz 10000 d.natAbs≤274877906944) (hd:d<0) :
  Calls Tryz.prog 210 #[x,y] w (Jo w ((n:Rat) / (d:Rat))):=by
 obtain ⟨e1,e2⟩:=Bw (n:= -n) (d:= -d) zo;rw [show ((-n:Int):Rat) / ((-d:Int):Rat)=(n:Rat) / (d:Rat) by rw [Rat.intCast_neg,Rat.intCast_neg,Rat.div_def,Rat.div_def];grind,Int.natAbs_neg,Int.natAbs_neg] at e1 e2;obtain ⟨q,Eq⟩:∃ q:Rat,(n:Rat) / (d:Rat)=q:=⟨_,rfl⟩;rw [Eq] at e1 e2 ⊢;obtain ⟨bA,JJ,lA,Ls,rfl⟩:=hx.agg;obtain ⟨bB,Yz,lB,YE,rfl⟩:=hy.agg;have hbf:bB=true:=by rw [hy.nm.2];simp;omega
 subst hbf;have NA:=zh hx;have NB:=zh hy;have KA:=zh ha;have KB:=zh hb;have hg0:0<Nat.gcd n.natAbs d.natAbs:=Nat.gcd_pos_of_pos_right _ zo;have hgd:Nat.gcd n.natAbs d.natAbs≤d.natAbs:=Nat.le_of_dvd zo (Nat.gcd_dvd_right _ _);have dn:((Nat.gcd n.natAbs d.natAbs:Nat):Int) ∣ -n:=by rw [Int.dvd_neg];rw [← Int.dvd_natAbs,Int.ofNat_dvd];exact Nat.gcd_dvd_left _ _
 have dd:((Nat.gcd n.natAbs d.natAbs:Nat):Int) ∣ -d:=by rw [Int.dvd_neg];rw [← Int.dvd_natAbs,Int.ofNat_dvd];exact Nat.gcd_dvd_right _ _
 have LA:=zh (fun x y W=>Jt x y (-n) (-d) W);have KA':Hid (sz 10000 (-n).natAbs≤274877906944):=zh (by rw [Int.natAbs_neg];exact ha);have KB':Hid (sz 10000 (-d).natAbs≤274877906944):=zh (by rw [Int.natAbs_neg];exact hb);rw [Int.natAbs_neg,Int.natAbs_neg] at LA;generalize Nat.gcd n.natAbs d.natAbs=g at *;have G0:Hid (0<(g:Int)):=zh zo;have KG:Hid (sz 10000 (g:Int).natAbs≤274877906944):=zh (Nat.le_trans (jO zo (by simpa using hgd)) hb);have DN:=zh dn;have DD:=zh dd;have E1:=zh e1;have E2:=zh e2;clear e1 e2 Eq hx hy ha hb hd hg0 hgd dn dd;go_enter Tryz.func210,Tryz.ntmps210
 go_wp2_with fail
 obtain ⟨xW,EW,hz,X1,X2,X3⟩:=Jy w #[.bool bA,.slice JJ lA Ls] 161 #[.bool true,.slice Yz lB YE] 161 #[.bool false,.slice none 0 0,.bool false,.slice none 0 0] 163;rw [EW];replace NA:=zh (NA.out.later hz);replace NB:=zh (NB.out.later hz);have hk2:=Bt (Below.refl _ _) hz;clear EW hz;obtain ⟨aO,aN,aP⟩:=X1.clf;obtain ⟨dI,dH,dO⟩:=X2.clf;refine aC [(.read,0),(.read,2),(.ext,1),(.ext,3),(.fin,4),(.fin,5)] zk zk zR zP ?_;refine zV ?_;refine aL rfl rfl (fun we3 hb3 J hJ=>?_);go_simp;have hh3:Below xW.heap.size xW we3:=au;clear hb3;refine (Fa _ _ _ (NA.out.later hh3)).mono ?_;rintro e wc4 ⟨v,rfl,hb4,hv5⟩;obtain ⟨bC,Yy,lC,YD,rfl⟩:=hv5.agg;refine hJ _ _ hb4 ?_;clear hJ J;have hh4:=Bt hh3 hb4;have NC:=zh hv5;clear hh3 hb4 hv5;refine zV ?_;refine aL rfl rfl (fun we6 hb6 J hJ=>?_);go_simp;have Qb:Below xW.heap.size xW we6:=Bt hh4 au
 replace NC:=zh (NC.out.later (show Below wc4.heap.size wc4 we6 from au));clear hb6 hh4;refine (Fa _ _ _ (NB.out.later Qb)).mono ?_;rintro e wc7 ⟨v,rfl,qZ,Tt⟩;obtain ⟨bD,paD,lD,caD,rfl⟩:=Tt.agg;refine hJ _ _ qZ ?_;clear hJ J;have hh7:=Bt Qb qZ;replace NC:=zh (NC.out.later qZ);have ND:=zh Tt;clear Qb qZ Tt;refine zV ?_;refine dK [_,_] rfl (fun wf9 hf9=>?_);replace NC:=zh (NC.out.later (show Below wc7.heap.size wc7 wf9 from au));replace ND:=zh (ND.out.later (show Below wc7.heap.size wc7 wf9 from au));have VE:Below xW.heap.size xW wf9:=Bt hh7 au;clear hf9 hh7;clear aO aN aP dI dH dO;replace NA:=zh (NA.out.later VE);replace NB:=zh (NB.out.later VE);replace X1:=X1.bl VE;replace X2:=X2.bl VE;replace X3:=X3.bl VE;have hk10:=Bt hk2 VE;clear hk2;clear VE;obtain ⟨aO,aN,aP⟩:=X1.clf;obtain ⟨dI,dH,dO⟩:=X2.clf
 go_upto_region 3 with fail
 clear aO aN aP dI dH dO;have hz:Below w.heap.size w ((((wf9.setCell ⟨w.heap.size,0,none⟩ (.bool bC)).setCell ⟨w.heap.size,1,none⟩ (.slice Yy lC YD)).setCell ⟨w.heap.size+1,0,none⟩ (.bool bD)).setCell ⟨w.heap.size+1,1,none⟩ (.slice paD lD caD)):=au;obtain ⟨aj1,EW⟩:∃ y,((((wf9.setCell ⟨w.heap.size,0,none⟩ (.bool bC)).setCell ⟨w.heap.size,1,none⟩ (.slice Yy lC YD)).setCell ⟨w.heap.size+1,0,none⟩ (.bool bD)).setCell ⟨w.heap.size+1,1,none⟩ (.slice paD lD caD))=y:=⟨_,rfl⟩;have nW:=((((X1.out.set 0 (.bool bC)).set 1 (.slice Yy lC YD)).setOther (a:=⟨w.heap.size+1,0,none⟩) (.bool bD) (by first|assumption|(simp;done)|(simp;omega))).setOther (a:=⟨w.heap.size+1,1,none⟩) (.slice paD lD caD) (by first|assumption|(simp;done)|(simp;omega)))
 have RJ:=((((X2.out.setOther (a:=⟨w.heap.size,0,none⟩) (.bool bC) (by first|assumption|(simp;done)|(simp;omega))).setOther (a:=⟨w.heap.size,1,none⟩) (.slice Yy lC YD) (by first|assumption|(simp;done)|(simp;omega))).set 0 (.bool bD)).set 1 (.slice paD lD caD));have YV:=((((X3.out.setOther (a:=⟨w.heap.size,0,none⟩) (.bool bC) (by first|assumption|(simp;done)|(simp;omega))).setOther (a:=⟨w.heap.size,1,none⟩) (.slice Yy lC YD) (by first|assumption|(simp;done)|(simp;omega))).setOther (a:=⟨w.heap.size+1,0,none⟩) (.bool bD) (by first|assumption|(simp;done)|(simp;omega))).setOther (a:=⟨w.heap.size+1,1,none⟩) (.slice paD lD caD) (by first|assumption|(simp;done)|(simp;omega)))
 have tNC:=((((NC.out.setOther X1.out zd 0 (.bool bC)).setOther (X1.out.set 0 (.bool bC)) zd 1 (.slice Yy lC YD)).setOther ((X2.out.setOther (a:=⟨w.heap.size,0,none⟩) (.bool bC) (by first|assumption|(simp;done)|(simp;omega))).setOther (a:=⟨w.heap.size,1,none⟩) (.slice Yy lC YD) (by first|assumption|(simp;done)|(simp;omega))) zd 0 (.bool bD)).setOther (((X2.out.setOther (a:=⟨w.heap.size,0,none⟩) (.bool bC) (by first|assumption|(simp;done)|(simp;omega))).setOther (a:=⟨w.heap.size,1,none⟩) (.slice Yy lC YD) (by first|assumption|(simp;done)|(simp;omega))).set 0 (.bool bD)) zd 1 (.slice paD lD caD))
 have tND:=((((ND.out.setOther X1.out zd 0 (.bool bC)).setOther (X1.out.set 0 (.bool bC)) zd 1 (.slice Yy lC YD)).setOther ((X2.out.setOther (a:=⟨w.heap.size,0,none⟩) (.bool bC) (by first|assumption|(simp;done)|(simp;omega))).setOther (a:=⟨w.heap.size,1,none⟩) (.slice Yy lC YD) (by first|assumption|(simp;done)|(simp;omega))) zd 0 (.bool bD)).setOther (((X2.out.setOther (a:=⟨w.heap.size,0,none⟩) (.bool bC) (by first|assumption|(simp;done)|(simp;omega))).setOther (a:=⟨w.heap.size,1,none⟩) (.slice Yy lC YD) (by first|assumption|(simp;done)|(simp;omega))).set 0 (.bool bD)) zd 1 (.slice paD lD caD));clear NA;clear NB;rw [EW] at nW;replace X1:Hid (ah aj1 (w.heap.size) #[.bool bC,.slice Yy lC YD] 161):=zh nW;clear nW;rw [EW] at RJ;replace X2:Hid (ah aj1 (w.heap.size+1) #[.bool bD,.slice paD lD caD] 161):=zh RJ;clear RJ;rw [EW] at YV
 replace X3:Hid (ah aj1 (w.heap.size+1+1) #[.bool false,.slice none 0 0,.bool false,.slice none 0 0] 163):=zh YV;clear YV;rw [EW] at tNC;replace NC:=zh tNC;clear tNC;rw [EW] at tND;replace ND:=zh tND;clear tND;rw [EW] at hz ⊢;clear EW;clear hk10;have aC6:=hz;clear hz;obtain ⟨aO,aN,aP⟩:=X1.clf;obtain ⟨dI,dH,dO⟩:=X2.clf;go_wp2_with fail
 clear aO aN aP dI dH dO;refine (LA.out _ _ _ NC.out ND.out KA.out KB.out).mono ?_;rintro e aR4 ⟨v,rfl,TD,aC0⟩;obtain ⟨bG,paG,lG,caG,rfl⟩:=aC0.agg;replace X1:=X1.bl TD;replace X2:=X2.bl TD;replace X3:=X3.bl TD;replace NC:=zh (NC.out.later TD);replace ND:=zh (ND.out.later TD);have be0:=Bt aC6 TD;clear aC6;have NG:=zh aC0;clear TD aC0;obtain ⟨aO,aN,aP⟩:=X1.clf
 go_upto_region 4 with fail
 clear aO aN aP;obtain ⟨aj0,EW,hz,X4⟩:=pJ aR4 #[.bool bG,.slice paG lG caG] 161;rw [EW];replace X1:=X1.bl hz;replace X2:=X2.bl hz;replace X3:=X3.bl hz;replace NC:=zh (NC.out.later hz);replace ND:=zh (ND.out.later hz);replace NG:=zh (NG.out.later hz);have aC5:=Bt be0 hz;clear be0;clear EW hz;generalize aR4.heap.size=bJ0 at *;obtain ⟨aO,aN,aP⟩:=X1.clf;obtain ⟨xS,xK,xQ⟩:=X4.clf;go_wp2_with fail
 clear aO aN aP xS xK xQ;refine (AA _ _ _ _ _ NC.out NG.out KA'.out KG.out G0.out (.inr DN.out)).mono ?_;rintro e aR2 ⟨vx,vy,rfl,Nr,hq,hr⟩;obtain ⟨bX,paX,lX,caX,rfl⟩:=hq.agg;obtain ⟨bU,Yx,lU,YC,rfl⟩:=hr.agg;replace X1:=X1.bl Nr;replace X2:=X2.bl Nr;replace X3:=X3.bl Nr;replace NC:=zh (NC.out.later Nr);replace ND:=zh (ND.out.later Nr);replace NG:=zh (NG.out.later Nr);replace X4:=X4.bl Nr;have bd8:=Bt aC5 Nr;clear aC5;have NX:=zh hq;clear Nr hq;obtain ⟨dI,dH,dO⟩:=X2.clf;obtain ⟨xS,xK,xQ⟩:=X4.clf
 go_upto_region 5 with fail
 clear dI dH dO xS xK xQ;obtain ⟨bE9,EW,hz,X5, -⟩:=uH aR2 #[.bool bX,.slice paX lX caX] 161 #[.bool bU,.slice Yx lU YC] 161;rw [EW];clear X1;replace X2:=X2.bl hz;replace X3:=X3.bl hz;clear NC;replace ND:=zh (ND.out.later hz);replace NG:=zh (NG.out.later hz);replace X4:=X4.bl hz;replace NX:=zh (NX.out.later hz);have bd7:=Bt bd8 hz;clear bd8;clear EW hz;generalize aR2.heap.size=bI8 at *;obtain ⟨dI,dH,dO⟩:=X2.clf;obtain ⟨xS,xK,xQ⟩:=X4.clf;go_wp2_with fail
 clear dI dH dO xS xK xQ;refine (AA _ _ _ _ _ ND.out NG.out KB'.out KG.out G0.out (.inr DD.out)).mono ?_;rintro e aR1 ⟨vx,vy,rfl,Nq,hq,hr⟩;obtain ⟨bY,paY,lY,caY,rfl⟩:=hq.agg;obtain ⟨bV,Yw,lV,YB,rfl⟩:=hr.agg;replace X2:=X2.bl Nq;replace X3:=X3.bl Nq;replace ND:=zh (ND.out.later Nq);replace NG:=zh (NG.out.later Nq);replace X4:=X4.bl Nq;replace NX:=zh (NX.out.later Nq);replace X5:=X5.bl Nq;have bd6:=Bt bd7 Nq;clear bd7;have NY:=zh hq;clear Nq hq;obtain ⟨XY,Xr,XU⟩:=X5.clf;obtain ⟨qo,qb,qH⟩:=X3.clf
 go_upto_region 6 with fail
 clear XY Xr XU qo qb qH;obtain ⟨bE8,EW,hz,X7, -⟩:=uH aR1 #[.bool bY,.slice paY lY caY] 161 #[.bool bV,.slice Yw lV YB] 161;rw [EW];clear X2;replace X3:=X3.bl hz;clear ND;clear NG;clear X4;replace NX:=zh (NX.out.later hz);replace X5:=X5.bl hz;replace NY:=zh (NY.out.later hz);have bO3:=Bt bd6 hz;clear bd6;clear EW hz;generalize aR1.heap.size=bI7 at *;obtain ⟨XY,Xr,XU⟩:=X5.clf;obtain ⟨gY,gW,gX⟩:=X7.clf;obtain ⟨qo,qb,qH⟩:=X3.clf;have hres:=X3.out;have Dt:=hres.cell;have Dp:=hres.free;go_wp2_with fail
 refine dG rfl rfl aH Tryz.underlying163 rfl zk ?_;have hx:=Pl.Gn NX.out hres zd (.bool bX) (.slice paX lX caX) (.bool bY) (.slice paY lY caY);have hy:=Pl.Gn NY.out hres zd (.bool bX) (.slice paX lX caX) (.bool bY) (.slice paY lY caY);rw [← E1.out] at hx;rw [← E2.out] at hy;exact ⟨_,rfl,au,_,_,_,_,_,_,_,_,rfl,hx,hy⟩
theorem Yk (x y:Value) (n d:Int) (w:World) (hx:Pl w x n) (hy:Pl w y d) (ha:sz 10000 n.natAbs≤274877906944) (hb:sz 10000 d.natAbs≤274877906944) (hd:d≠0) :
  Calls Tryz.prog 210 #[x,y] w (Jo w ((n:Rat) / (d:Rat))):=by
 by_cases h:0<d
 ·exact Ux x y n d w hx hy ha hb h
 ·exact Uy x y n d w hx hy ha hb zo
end Go.Proofs.dL
namespace Go.Proofs.dL
open Go Go.RowKit Go.SW Go.Num Go.Mem Go.Proofs Go.Dec Go.Proofs.aG Go.jQ
theorem Gy (z:Int):∃ (s:ByteArray) (k:Int),Zx z= .tuple #[.string s,.int .i64 k]∧((nC z.natAbs=true∧k=0∧s=⟨(Lib.itoa z).toArray⟩)∨(nC z.natAbs=false∧k=6)):=by
 unfold Zx
 by_cases h:nC z.natAbs=true
 ·rw [if_pos h];exact ⟨_,_,rfl,.inl ⟨h,rfl,rfl⟩⟩
 ·rw [if_neg h];exact ⟨_,_,rfl,.inr ⟨by simpa using h,rfl⟩⟩
def ai1 (w:World) (x:Fr × Int) (e:Ending) (w':World):Prop:=e= .returned (Fr.res x)∧Below w.heap.size w w'
theorem Oj (x:Value) (q:Rat) (w:World) (hx:Ra w x q) (h1:sz 10000 q.num.natAbs≤1073741824) (h2:sz 10000 q.den≤1073741824) :
  Calls Tryz.prog 133 #[x] w (ai1 w (wr q)):=by
 obtain ⟨bn,pn,ln,cn,bd,pd,ld,cd,rfl,NN,ND⟩:=hx;obtain ⟨s1,k1,e1,c1⟩:=Gy q.num;obtain ⟨s2,k2,e2,c2⟩:=Gy (q.den:Int);have H1:=zh (fun W (hb:Below w.heap.size w W)=>aG.Oj _ q.num W (NN.later hb) h1);have H2:=zh (fun W (hb:Below w.heap.size w W)=>aG.Oj _ (q.den:Int) W (ND.later hb) (by simpa using h2));rw [e1] at H1;rw [e2] at H2
 have hw:wr q=if k1=0∧k2=0 then (⟨s1,s2⟩,0) else (Fr.no,6):=by
  unfold wr wD;rw [Int.natAbs_natCast] at c2
  rcases c1 with ⟨a1,a2,a3⟩|⟨a1,a2⟩<;>rcases c2 with ⟨b1,b2,b3⟩|⟨b1,b2⟩<;>subst a2<;>subst b2<;>rw [a1,b1]
  ·subst a3;subst b3;rfl
  ·rfl
  ·rfl
  ·rfl
 rw [hw];have d1:k1=0∨k1=6:=c1.elim (fun h=>.inl h.2.1) (fun h=>.inr h.2);have d2:k2=0∨k2=6:=c2.elim (fun h=>.inl h.2.1) (fun h=>.inr h.2);clear hw e1 e2 c1 c2 h1 h2 NN ND
 rcases d1 with rfl|rfl<;>rcases d2 with rfl|rfl
 ·rw [if_pos ⟨rfl,rfl⟩];go_enter Tryz.func133,Tryz.ntmps133
  go_wp2_with fail
  obtain ⟨xW,EW,hz,X1,X2⟩:=uH w #[.bool bn,.slice pn ln cn,.bool bd,.slice pd ld cd] 163 #[.string ⟨#[]⟩,.string ⟨#[]⟩] 32;rw [EW];have hk2:=Bt (Below.refl _ _) hz;clear EW hz;refine (H1.out _ hk2).mono ?_;rintro e Fv ⟨rfl,hb3⟩;replace X1:=X1.bl hb3;replace X2:=X2.bl hb3;have hk5:=Bt hk2 hb3;clear hk2;clear hb3;obtain ⟨aO,aN,aP⟩:=X1.clf;go_wp2_with fail
  clear aO aN aP;refine (H2.out _ hk5).mono ?_;rintro e wc6 ⟨rfl,hb6⟩;replace X1:=X1.bl hb6;replace X2:=X2.bl hb6;have hk8:=Bt hk5 hb6;clear hk5;clear hb6;obtain ⟨dI,dH,dO⟩:=X2.clf;have hres:=X2.out;have Dt:=hres.cell;have Dp:=hres.free;go_wp2_with fail
  refine aK rfl rfl aH Tryz.underlying32 rfl zk ?_;exact ⟨rfl,au⟩
 ·rw [if_neg zo];go_enter Tryz.func133,Tryz.ntmps133
  go_wp2_with fail
  obtain ⟨xW,EW,hz,X1,X2⟩:=uH w #[.bool bn,.slice pn ln cn,.bool bd,.slice pd ld cd] 163 #[.string ⟨#[]⟩,.string ⟨#[]⟩] 32;rw [EW];have hk2:=Bt (Below.refl _ _) hz;clear EW hz;refine (H1.out _ hk2).mono ?_;rintro e Fv ⟨rfl,hb3⟩;replace X1:=X1.bl hb3;replace X2:=X2.bl hb3;have hk5:=Bt hk2 hb3;clear hk2;clear hb3;obtain ⟨aO,aN,aP⟩:=X1.clf;go_wp2_with fail
  clear aO aN aP;refine (H2.out _ hk5).mono ?_;rintro e wc6 ⟨rfl,hb6⟩;replace X1:=X1.bl hb6;replace X2:=X2.bl hb6;have hk8:=Bt hk5 hb6;clear hk5;clear hb6;obtain ⟨dI,dH,dO⟩:=X2.clf;have hres:=X2.out;have Dt:=hres.cell;have Dp:=hres.free;go_wp2_with fail
  refine aK rfl rfl aH Tryz.underlying32 rfl zk ?_;exact ⟨rfl,au⟩
 ·rw [if_neg zo];go_enter Tryz.func133,Tryz.ntmps133
  go_wp2_with fail
  obtain ⟨xW,EW,hz,X1,X2⟩:=uH w #[.bool bn,.slice pn ln cn,.bool bd,.slice pd ld cd] 163 #[.string ⟨#[]⟩,.string ⟨#[]⟩] 32;rw [EW];have hk2:=Bt (Below.refl _ _) hz;clear EW hz;refine (H1.out _ hk2).mono ?_;rintro e Fv ⟨rfl,hb3⟩;replace X1:=X1.bl hb3;replace X2:=X2.bl hb3;have hk5:=Bt hk2 hb3;clear hk2;clear hb3;obtain ⟨aO,aN,aP⟩:=X1.clf;go_wp2_with fail
  clear aO aN aP;refine (H2.out _ hk5).mono ?_;rintro e wc6 ⟨rfl,hb6⟩;replace X1:=X1.bl hb6;replace X2:=X2.bl hb6;have hk8:=Bt hk5 hb6;clear hk5;clear hb6;obtain ⟨dI,dH,dO⟩:=X2.clf;have hres:=X2.out;have Dt:=hres.cell;have Dp:=hres.free;go_wp2_with fail
  refine aK rfl rfl aH Tryz.underlying32 rfl zk ?_;exact ⟨rfl,au⟩
 ·rw [if_neg zo];go_enter Tryz.func133,Tryz.ntmps133
  go_wp2_with fail
  obtain ⟨xW,EW,hz,X1,X2⟩:=uH w #[.bool bn,.slice pn ln cn,.bool bd,.slice pd ld cd] 163 #[.string ⟨#[]⟩,.string ⟨#[]⟩] 32;rw [EW];have hk2:=Bt (Below.refl _ _) hz;clear EW hz;refine (H1.out _ hk2).mono ?_;rintro e Fv ⟨rfl,hb3⟩;replace X1:=X1.bl hb3;replace X2:=X2.bl hb3;have hk5:=Bt hk2 hb3;clear hk2;clear hb3;obtain ⟨aO,aN,aP⟩:=X1.clf;go_wp2_with fail
  clear aO aN aP;refine (H2.out _ hk5).mono ?_;rintro e wc6 ⟨rfl,hb6⟩;replace X1:=X1.bl hb6;replace X2:=X2.bl hb6;have hk8:=Bt hk5 hb6;clear hk5;clear hb6;obtain ⟨dI,dH,dO⟩:=X2.clf;have hres:=X2.out;have Dt:=hres.cell;have Dp:=hres.free;go_wp2_with fail
  refine aK rfl rfl aH Tryz.underlying32 rfl zk ?_;exact ⟨rfl,au⟩
theorem Td {n d:Int} (hd:d≠0):((n:Rat) / (d:Rat)).num.natAbs≤n.natAbs∧((n:Rat) / (d:Rat)).den≤d.natAbs:=by
 have key:∀ n d:Int,0<d→((n:Rat) / (d:Rat)).num.natAbs≤n.natAbs∧((n:Rat) / (d:Rat)).den≤d.natAbs:=fun n d hd=>by
  obtain ⟨e1,e2⟩:=Bw (n:=n) hd;have g1:=Nat.gcd_dvd_left n.natAbs d.natAbs;have g2:=Nat.gcd_dvd_right n.natAbs d.natAbs;have g0:0<Nat.gcd n.natAbs d.natAbs:=Nat.gcd_pos_of_pos_right _ zo;generalize Nat.gcd n.natAbs d.natAbs=g at *;generalize ((n:Rat) / (d:Rat))=q at *;obtain ⟨a,ha⟩:=g1;obtain ⟨b,hb⟩:=g2
  have h1:n=(g:Int)*(if 0≤n then (a:Int) else -(a:Int)):=by
   have:=congrArg (fun x:Nat=>(x:Int)) ha;simp only [Int.natCast_mul] at this;split
   ·omega
   ·rw [Int.mul_neg];omega
  have h2:d=(g:Int)*(b:Int):=by
   have:=congrArg (fun x:Nat=>(x:Int)) hb;simp only [Int.natCast_mul] at this;omega
  have h3:n / (g:Int)=(if 0≤n then (a:Int) else -(a:Int)):=by
   conv=>lhs;rw [h1]
   exact Int.mul_ediv_cancel_left _ zo
  have h4:d / (g:Int)=(b:Int):=by
   rw [h2];exact Int.mul_ediv_cancel_left _ zo
  rw [h3] at e1;rw [h4] at e2;have k1:a≤g*a:=Nat.le_mul_of_pos_left _ g0;have k2:b≤g*b:=Nat.le_mul_of_pos_left _ g0;refine ⟨?_,?_⟩
  ·rw [e1,ha];split<;>simp<;>exact k1
  ·rw [hb];have:q.den=b:=by exact_mod_cast e2
   omega
 by_cases h:0<d
 ·exact key n d h
 ·have:=key (-n) (-d) zo;rw [show ((-n:Int):Rat) / ((-d:Int):Rat)=(n:Rat) / (d:Rat) by rw [Rat.intCast_neg,Rat.intCast_neg,Rat.div_def,Rat.div_def];grind,Int.natAbs_neg,Int.natAbs_neg] at this;exact this
theorem Mr {n:Int} (h1: -9223372036854775808≤n) (h2:n≤9223372036854775807):sz 10000 n.natAbs≤5 :=
 bH zo 5 _ zo
theorem ah0 (n d:Int) (h1: -9223372036854775808≤n) (h2:n≤9223372036854775807) (h3: -9223372036854775808≤d) (h4:d≤9223372036854775807) (hd:d≠0) (w:World) :
  Calls Tryz.prog 197 #[.int .i64 n,.int .i64 d] w (Jo w ((n:Rat) / (d:Rat))):=by
 have H1:=zh (fun W=>Js n W h1 h2);have H2:=zh (fun W=>Js d W h3 h4);have H3:=zh (fun x y W hx hy=>Yk x y n d W hx hy (Nat.le_trans (Mr h1 h2) zo) (Nat.le_trans (Mr h3 h4) zo) hd);generalize (n:Rat) / (d:Rat)=q at *;clear h1 h2 h3 h4 hd;go_enter Tryz.func197,Tryz.ntmps197
 go_wp2_with fail
 obtain ⟨xW,EW,hz,X1⟩:=pJ w #[.bool false,.slice none 0 0,.bool false,.slice none 0 0] 163;rw [EW];have hk2:=Bt (Below.refl _ _) hz;clear EW hz;refine (H1.out _).mono ?_;rintro e Fv ⟨v,rfl,hb3,hv4⟩;obtain ⟨bA,JJ,lA,Ls,rfl⟩:=hv4.agg;replace X1:=X1.bl hb3;have hk5:=Bt hk2 hb3;clear hk2;have NA:=zh hv4;clear hb3 hv4;go_wp2_with fail
 refine (H2.out _).mono ?_;rintro e wc6 ⟨v,rfl,hb6,hv7⟩;obtain ⟨bB,Yz,lB,YE,rfl⟩:=hv7.agg;replace X1:=X1.bl hb6;replace NA:=zh (NA.out.later hb6);have hk8:=Bt hk5 hb6;clear hk5;have NB:=zh hv7;clear hb6 hv7;go_wp2_with fail
 refine (H3.out _ _ _ NA.out NB.out).mono ?_;rintro e wc9 ⟨_,rfl,DW,bn,pn,ln,cn,bd,pd,ld,cd,rfl,hn,hd⟩;replace X1:=X1.bl DW;replace NA:=zh (NA.out.later DW);replace NB:=zh (NB.out.later DW);have aC6:=Bt hk8 DW;clear hk8;have NX:=zh hn;have NY:=zh hd;clear DW hd hn;obtain ⟨aO,aN,aP⟩:=X1.clf;have hres:=X1.out;have Dt:=hres.cell;have Dp:=hres.free;go_wp2_with fail
 refine dG rfl rfl aH Tryz.underlying163 rfl zk ?_;have hx:=Pl.Gn NX.out hres zd (.bool bn) (.slice pn ln cn) (.bool bd) (.slice pd ld cd);have hy:=Pl.Gn NY.out hres zd (.bool bn) (.slice pn ln cn) (.bool bd) (.slice pd ld cd);exact ⟨_,rfl,au,_,_,_,_,_,_,_,_,rfl,hx,hy⟩
end Go.Proofs.dL
namespace Go.jQ
open Go Go.Num Go.Proofs
def Hq (k:Nat) (q:Rat):Prop:=∃ n d:Int,0<d∧d.natAbs≤kL k∧n.natAbs≤kL k∧q=(n:Rat) / (d:Rat)
theorem zB (a b:Nat):kL (a+b)=kL a*kL b:=Nat.pow_add _ _ _
theorem WQ {a b:Nat} (h:a≤b):kL a≤kL b:=Nat.pow_le_pow_right zo h
theorem aj5 {a b:Nat} (h:a<b):kL a<kL b:=Nat.pow_lt_pow_right zo h
theorem Hq.mono {a b:Nat} {q:Rat} (h:Hq a q) (k:a≤b):Hq b q:=by
 obtain ⟨n,d,h1,h2,h3,h4⟩:=h;have:=WQ k;exact ⟨n,d,h1,by omega,by omega,h4⟩
theorem Hq.ok {a:Nat} {q:Rat} (h:Hq a q) (k:a<600):wD q=true:=by
 obtain ⟨n,d,h1,h2,h3,rfl⟩:=h;obtain ⟨l1,l2⟩:=dL.Td (n:=n) (d:=d) zo;have:=aj5 k;unfold wD nC;generalize kL 600=X at *;rw [Bool.and_eq_true];exact ⟨decide_eq_true zo,decide_eq_true zo⟩
theorem Ao {d:Int} (h:0<d):(d:Rat)≠0:=fun e=>by
 have:d=0:=by exact_mod_cast e
 omega
theorem Hq.mul {a b:Nat} {p q:Rat} (h:Hq a p) (k:Hq b q):Hq (a+b) (p*q):=by
 obtain ⟨n,d,h1,h2,h3,rfl⟩:=h;obtain ⟨n',d',k1,k2,k3,rfl⟩:=k;refine ⟨n*n',d*d',Int.mul_pos h1 k1,?_,?_,?_⟩
 ·rw [zB,Int.natAbs_mul];exact Nat.mul_le_mul h2 k2
 ·rw [zB,Int.natAbs_mul];exact Nat.mul_le_mul h3 k3
 ·have e1:=Ao h1;have e2:=Ao k1;rw [Rat.intCast_mul,Rat.intCast_mul]
  grind
theorem Hq.add {a b:Nat} {p q:Rat} (h:Hq a p) (k:Hq b q):Hq (a+b+1) (p+q):=by
 obtain ⟨n,d,h1,h2,h3,rfl⟩:=h;obtain ⟨n',d',k1,k2,k3,rfl⟩:=k;have t:kL (a+b+1)=10*(kL a*kL b):=by rw [zB,zB];show _*10=_;omega
 refine ⟨n*d'+n'*d,d*d',Int.mul_pos h1 k1,?_,?_,?_⟩
 ·have:=Nat.mul_le_mul h2 k2;rw [t,Int.natAbs_mul];omega
 ·have x1:=Nat.mul_le_mul h3 k2;have x2:=Nat.mul_le_mul k3 h2;rw [Nat.mul_comm (kL b)] at x2;have x3:=Int.natAbs_add_le (n*d') (n'*d);rw [Int.natAbs_mul,Int.natAbs_mul] at x3;rw [t];omega
 ·have e1:=Ao h1;have e2:=Ao k1;rw [Rat.intCast_add,Rat.intCast_mul,Rat.intCast_mul,Rat.intCast_mul]
  grind
theorem Hq.neg {a:Nat} {p:Rat} (h:Hq a p):Hq a (-p):=by
 obtain ⟨n,d,h1,h2,h3,rfl⟩:=h;exact ⟨-n,d,h1,h2,by rw [Int.natAbs_neg];exact h3,by rw [Rat.intCast_neg];grind⟩
theorem Hq.zero:Hq 0 0:=⟨0,1,by omega,by decide,by decide,by decide+kernel⟩
theorem Hq.one:Hq 0 1:=⟨1,1,by omega,by decide,by decide,by decide+kernel⟩
end Go.jQ
namespace Go.Proofs
open Go Go.RowKit Go.SW Go.Num Go.Mem Go.jQ
theorem Qf (n:Int) (h:n.natAbs≤1000000000000000000):(qE n 1000000000000).2=0:=by
 have hq:Hq 18 ((n:Rat) / ((1000000000000:Int):Rat)):=⟨n,1000000000000,by omega,by decide+kernel,Nat.le_trans h (by decide+kernel),rfl⟩;unfold qE wr;rw [if_neg zo,if_pos (hq.ok zo)]
theorem bu9 {s t s' t' y y':ByteArray} {k:Int} (hx:Kk ⟨s,t⟩ ⟨s',t'⟩=(⟨y,y'⟩,k)) (w:World) (ht:jw.Pow w):Calls Tryz.prog 168 #[.agg #[.string s,.string t],.agg #[.string s',.string t']] w (fun e w'=>e= .returned (.tuple #[.agg #[.string y,.string y'],.int .i64 k])∧Below w.heap.size w w'):=by
 have h:=fM.Jv ⟨s,t⟩ ⟨s',t'⟩ w ht;rw [hx] at h;exact h
theorem bu2 {s t s' t' y y':ByteArray} {k:Int} (hx:RQ ⟨s,t⟩ ⟨s',t'⟩=(⟨y,y'⟩,k)) (w:World) (ht:jw.Pow w):Calls Tryz.prog 171 #[.agg #[.string s,.string t],.agg #[.string s',.string t']] w (fun e w'=>e= .returned (.tuple #[.agg #[.string y,.string y'],.int .i64 k])∧Below w.heap.size w w'):=by
 have h:=fM.Uv ⟨s,t⟩ ⟨s',t'⟩ w ht;rw [hx] at h;exact h
theorem bu4 {s t s' t' y y':ByteArray} {k:Int} (hx:yL ⟨s,t⟩ ⟨s',t'⟩=(⟨y,y'⟩,k)) (w:World) (ht:jw.Pow w):Calls Tryz.prog 18 #[.agg #[.string s,.string t],.agg #[.string s',.string t']] w (fun e w'=>e= .returned (.tuple #[.agg #[.string y,.string y'],.int .i64 k])∧Below w.heap.size w w'):=by
 have h:=fM.Ci ⟨s,t⟩ ⟨s',t'⟩ w ht;rw [hx] at h;exact h
theorem bu6 {s t s' t' y y':ByteArray} {k:Int} (hx:Dq ⟨s,t⟩ ⟨s',t'⟩=(⟨y,y'⟩,k)) (w:World) (ht:jw.Pow w):Calls Tryz.prog 128 #[.agg #[.string s,.string t],.agg #[.string s',.string t']] w (fun e w'=>e= .returned (.tuple #[.agg #[.string y,.string y'],.int .i64 k])∧Below w.heap.size w w'):=by
 have h:=fM.Ju ⟨s,t⟩ ⟨s',t'⟩ w ht;rw [hx] at h;exact h
theorem bu7 {s t s' t':ByteArray} {v k:Int} (hx:Ak ⟨s,t⟩ ⟨s',t'⟩=(v,k)) (w:World):Calls Tryz.prog 19 #[.agg #[.string s,.string t],.agg #[.string s',.string t']] w (fun e w'=>e= .returned (.tuple #[.int .i64 v,.int .i64 k])∧Below w.heap.size w w'):=by
 have h:=fM.Oo ⟨s,t⟩ ⟨s',t'⟩ w;rw [hx] at h;exact h
theorem af0 {s t:ByteArray} {v k:Int} (hx:uK ⟨s,t⟩=(v,k)) (w:World):Calls Tryz.prog 104 #[.agg #[.string s,.string t]] w (fun e w'=>e= .returned (.tuple #[.int .i64 v,.int .i64 k])∧Below w.heap.size w w'):=by
 have h:=fM.Og ⟨s,t⟩ w;rw [hx] at h;exact h
theorem cOf {n d:Int} {y y':ByteArray} {k:Int} (hx:qE n d=(⟨y,y'⟩,k)) (w:World) (ht:jw.Pow w) (n0: -9223372036854775808≤n:=by omega) (n1:n≤9223372036854775807:=by omega) (d0: -9223372036854775808≤d:=by omega) (d1:d≤9223372036854775807:=by omega) :
  Calls Tryz.prog 115 #[.int .i64 n,.int .i64 d] w (fun e w'=>e= .returned (.tuple #[.agg #[.string y,.string y'],.int .i64 k])∧Below w.heap.size w w'):=by
 have h:=fM.tZ n d n0 n1 d0 d1 w ht;rw [hx] at h;exact h
theorem as1 {s t:ByteArray} {x y k:Int} (hx:aQ.mP ⟨s,t⟩=((x,y),k)) (w:World) (ht:jw.Pow w) (he:whole.Er w):Calls Tryz.prog 36 #[.agg #[.string s,.string t]] w (fun e w'=>e= .returned (.tuple #[.agg #[.int .i64 x,.int .i64 y],.int .i64 k])∧Below w.heap.size w w'):=by
 have h:=aQ.Yt ⟨s,t⟩ w ht he;rw [hx] at h;exact h
theorem bh6 {lo hi q x y k:Int} (hx:power.pwE lo hi 1 q=((x,y),k)) (w:World) (ht:jw.Pow w) (he:whole.Er w):Calls Tryz.prog 124 #[.agg #[.int .i64 lo,.int .i64 hi],.int .i64 q] w (fun e w'=>e= .returned (.tuple #[.agg #[.int .i64 x,.int .i64 y],.int .i64 k])∧Below w.heap.size w w'):=by
 have h:=power.Oh lo hi q w ht he;rw [hx] at h;exact h
theorem ay4 {x y x' y' u v k:Int} (hx:aQ.Qw (x,y) (x',y')=((u,v),k)) (w:World):Calls Tryz.prog 30 #[.agg #[.int .i64 x,.int .i64 y],.agg #[.int .i64 x',.int .i64 y']] w (fun e w'=>e= .returned (.tuple #[.agg #[.int .i64 u,.int .i64 v],.int .i64 k])∧Below w.heap.size w w'):=by
 have h:=aQ.Jv x y x' y' w;rw [hx] at h;exact h
theorem Wq {x y x' y' u v k:Int} (hx:aQ.Db (x,y) (x',y')=((u,v),k)) (w:World):Calls Tryz.prog 50 #[.agg #[.int .i64 x,.int .i64 y],.agg #[.int .i64 x',.int .i64 y']] w (fun e w'=>e= .returned (.tuple #[.agg #[.int .i64 u,.int .i64 v],.int .i64 k])∧Below w.heap.size w w'):=by
 have h:=aQ.Uv x y x' y' w;rw [hx] at h;exact h
theorem af3 {x y x' y' u v k:Int} (hx:aQ.Tc (x,y) (x',y')=((u,v),k)) (w:World):Calls Tryz.prog 31 #[.agg #[.int .i64 x,.int .i64 y],.agg #[.int .i64 x',.int .i64 y']] w (fun e w'=>e= .returned (.tuple #[.agg #[.int .i64 u,.int .i64 v],.int .i64 k])∧Below w.heap.size w w'):=by
 have h:=aQ.Ci x y x' y' w;rw [hx] at h;exact h
theorem bh8 {x y x' y' u v k:Int} (hx:aQ.ae1 (x,y) (x',y')=((u,v),k)) (w:World):Calls Tryz.prog 74 #[.agg #[.int .i64 x,.int .i64 y],.agg #[.int .i64 x',.int .i64 y']] w (fun e w'=>e= .returned (.tuple #[.agg #[.int .i64 u,.int .i64 v],.int .i64 k])∧Below w.heap.size w w'):=by
 have h:=aQ.Ju x y x' y' w;rw [hx] at h;exact h
theorem ar9 {x y n d u v k:Int} (hx:aQ.yI (x,y) n d=((u,v),k)) (w:World):Calls Tryz.prog 130 #[.agg #[.int .i64 x,.int .i64 y],.int .i64 n,.int .i64 d] w (fun e w'=>e= .returned (.tuple #[.agg #[.int .i64 u,.int .i64 v],.int .i64 k])∧Below w.heap.size w w'):=by
 have h:=aQ.ag8 x y n d w;rw [hx] at h;exact h
theorem as0 {x y n d u v k:Int} (hx:aQ.ae7 (x,y) n d=((u,v),k)) (w:World):Calls Tryz.prog 73 #[.agg #[.int .i64 x,.int .i64 y],.int .i64 n,.int .i64 d] w (fun e w'=>e= .returned (.tuple #[.agg #[.int .i64 u,.int .i64 v],.int .i64 k])∧Below w.heap.size w w'):=by
 have h:=aQ.ai5 x y n d w;rw [hx] at h;exact h
theorem aH5 {n u v k:Int} (hx:aQ.Zr n=((u,v),k)) (w:World):Calls Tryz.prog 131 #[.int .i64 n] w (fun e w'=>e= .returned (.tuple #[.agg #[.int .i64 u,.int .i64 v],.int .i64 k])∧Below w.heap.size w w'):=by
 have h:=aQ.ah2 n w;rw [hx] at h;exact h
def aQ.ofE (lo hi:Int):(Int × Int) × Int:=if aQ.jF lo hi then ((lo,hi),0) else ((0,0),30)
theorem bu8 {lo hi u v k:Int} (hx:aQ.ofE lo hi=((u,v),k)) (w:World):Calls Tryz.prog 183 #[.int .i64 lo,.int .i64 hi] w (fun e w'=>e= .returned (.tuple #[.agg #[.int .i64 u,.int .i64 v],.int .i64 k])∧Below w.heap.size w w'):=by
 have h:=aQ.tZ lo hi w;unfold aQ.ofE at hx
 revert h
 cases hb:aQ.jF lo hi<;>rw [hb] at hx<;>(try rw [if_pos rfl] at hx)<;>(try rw [if_neg zd] at hx)<;>cases hx<;>exact fun h=>h
def aA0 (a:Fr) (n:Nat):Fr × Int:=match rd a with
 | some p=>wr (p^n)
 | none=>(Fr.no,20)
theorem bu3 {s t y y':ByteArray} {n:Nat} {k:Int} (hx:aA0 ⟨s,t⟩ n=(⟨y,y'⟩,k)) (w:World) (ht:jw.Pow w) (h:∃ p,rd ⟨s,t⟩=some p∧0≤p) (n40:n≤40:=by omega):Calls Tryz.prog 127 #[.agg #[.string s,.string t],.int .i64 (n:Int)] w (fun e w'=>e= .returned (.tuple #[.agg #[.string y,.string y'],.int .i64 k])∧Below w.heap.size w w'):=by
 obtain ⟨p,hp,h0⟩:=h;obtain ⟨e,ok⟩:=oZ hp;have h:=fM.zu p n ok h0 n40 w ht;unfold aA0 at hx;rw [hp] at hx;replace hx:wr (p^n)=(⟨y,y'⟩,k):=hx;rw [hx,← e] at h;exact h
theorem bu5 {lo hi k:Int} {y y':ByteArray} (hx:aQ.an8 (lo,hi)=(⟨y,y'⟩,k)) (w:World) (ht:jw.Pow w) (hb:aQ.jF lo hi=true):Calls Tryz.prog 244 #[.agg #[.int .i64 lo,.int .i64 hi]] w (fun e w'=>e= .returned (.tuple #[.agg #[.string y,.string y'],.int .i64 k])∧Below w.heap.size w w'):=by
 unfold aQ.an8 at hx;rw [if_pos hb] at hx;obtain ⟨h1,h2,h3⟩:=aQ.GH hb
 have hk:k=0:=by
  have:=Qf lo zo;have e:(qE lo 1000000000000).2=k:=congrArg Prod.snd hx;rw [← e,this]
 subst hk;exact aQ.aL6 lo hi y y' w hb fun W hW=>aQ.BQ lo y y' W zo zo (ht.later hW) hx
theorem bh7 {lo hi k:Int} {y y':ByteArray} (hx:aQ.VD (lo,hi)=(⟨y,y'⟩,k)) (w:World) (ht:jw.Pow w) (hb:aQ.jF lo hi=true):Calls Tryz.prog 245 #[.agg #[.int .i64 lo,.int .i64 hi]] w (fun e w'=>e= .returned (.tuple #[.agg #[.string y,.string y'],.int .i64 k])∧Below w.heap.size w w'):=by
 unfold aQ.VD at hx;rw [if_pos hb] at hx;obtain ⟨h1,h2,h3⟩:=aQ.GH hb
 have hk:k=0:=by
  have:=Qf hi zo;have e:(qE hi 1000000000000).2=k:=congrArg Prod.snd hx;rw [← e,this]
 subst hk;exact aQ.av8 lo hi y y' w hb fun W hW=>aQ.BQ hi y y' W zo zo (ht.later hW) hx
end Go.Proofs
namespace Go.Proofs.lab
open Go Go.RowKit Go.SW Go.Num Go.Mem Go.Proofs Go.jQ
def thrown (er:Int):Ending:=.panicked [{ v:=.iface 43 (.int .i64 er),recovered:=false }]
abbrev Try:=bi0 thrown
theorem tK {s t:ByteArray} {k:Int} (w:World):Calls Tryz.prog 126 #[.agg #[.string s,.string t],.int .i64 k] w (Try w (.agg #[.string s,.string t]) k):=by
 by_cases h:k=0
 ·subst h;go_enter Tryz.func126,Tryz.ntmps126
  go_wp2_with fail
  refine dG rfl rfl aH Tryz.underlying32 rfl zk ?_;exact ⟨au,.inl ⟨rfl,rfl⟩⟩
 ·have b1:(k != 0)=true:=by simp [h]
  have H:=zh h;clear h;go_enter Tryz.func126,Tryz.ntmps126
  go_wp2_with fail
  exact ⟨rfl,au,.inr ⟨H.out,rfl⟩⟩
theorem jU {x y:Int} {k:Int} (w:World):Calls Tryz.prog 49 #[.agg #[.int .i64 x,.int .i64 y],.int .i64 k] w (Try w (.agg #[.int .i64 x,.int .i64 y]) k):=by
 by_cases h:k=0
 ·subst h;go_enter Tryz.func49,Tryz.ntmps49
  go_wp2_with fail
  refine dG rfl rfl aH Tryz.underlying40 rfl zk ?_;exact ⟨au,.inl ⟨rfl,rfl⟩⟩
 ·have b1:(k != 0)=true:=by simp [h]
  have H:=zh h;clear h;go_enter Tryz.func49,Tryz.ntmps49
  go_wp2_with fail
  exact ⟨rfl,au,.inr ⟨H.out,rfl⟩⟩
theorem DL {v k:Int} (w:World):Calls Tryz.prog 103 #[.int .i64 v,.int .i64 k] w (Try w (.int .i64 v) k):=by
 by_cases h:k=0
 ·subst h;go_enter Tryz.func103,Tryz.ntmps103
  go_wp2_with fail
  go_ret
  exact ⟨Below.refl _ _,.inl ⟨rfl,rfl⟩⟩
 ·have b1:(k != 0)=true:=by simp [h]
  have H:=zh h;clear h;go_enter Tryz.func103,Tryz.ntmps103
  go_wp2_with fail
  exact ⟨rfl,Below.refl _ _,.inr ⟨H.out,rfl⟩⟩
theorem Wu {s t s' t' y y':ByteArray} {k:Int} (hx:gD (Kk ⟨s,t⟩ ⟨s',t'⟩) ⟨y,y'⟩ k) (w:World) (ht:jw.Pow w) :
  Calls Tryz.prog 83 #[.agg #[.string s,.string t],.agg #[.string s',.string t']] w (Try w (.agg #[.string y,.string y']) k):=by
 have HR:=zh hx;have HP:=zh ht;clear hx ht;go_enter Tryz.func83,Tryz.ntmps83
 have HB:=zh (Below.refl w.heap.size w);go_wp2_with fail
 obtain ⟨w4,EW,hz,X1,X2,X3⟩:=Jy w #[.string s,.string t] 32 #[.string (s'),.string (t')] 32 #[.string ⟨#[]⟩,.string ⟨#[]⟩] 32;rw [EW];clear EW;replace HB:=zh (Bt HB.out hz);clear hz;obtain ⟨⟨s5,t5⟩,k5,EX,HN⟩:=kE HR.out;refine (bu9 EX _ (HP.out.later HB.out)).mono ?_;rintro e u5 ⟨rfl,h⟩;have HM:=zh HN;clear HN EX;replace X1:=X1.bl h;replace X2:=X2.bl h;replace X3:=X3.bl h;replace HB:=zh (Bt HB.out h);clear h;obtain ⟨aO,aN,aP⟩:=X1.clf;obtain ⟨dI,dH,dO⟩:=X2.clf;obtain ⟨qo,qb,qH⟩:=X3.clf;go_wp2_with fail
 clear aO aN aP dI dH dO qo qb qH;refine (tK _).mono ?_;rintro e u6 H;obtain ⟨h,⟨hk,rfl,HR2⟩|⟨hk,rfl⟩⟩:=aF H HM.out
 rotate_left
 ·exact ⟨rfl,Bt HB.out h,.inr ⟨hk,rfl⟩⟩
 clear H HM;subst hk;replace HR:=zh HR2;clear HR2;replace X1:=X1.bl h;replace X2:=X2.bl h;replace X3:=X3.bl h;replace HB:=zh (Bt HB.out h);clear h;obtain ⟨aO,aN,aP⟩:=X1.clf;obtain ⟨dI,dH,dO⟩:=X2.clf;obtain ⟨qo,qb,qH⟩:=X3.clf;go_wp2_with fail
 clear aO aN aP dI dH dO qo qb qH;obtain ⟨hk,hv⟩:=HR.out;cases hk
 cases hv rfl
 have hr:=X3.out;have hb:=HB.out;refine dG rfl rfl aH Tryz.underlying32 rfl zk ?_;exact ⟨au,.inl ⟨rfl,rfl⟩⟩
theorem Ze {s t s' t' y y':ByteArray} {k:Int} (hx:gD (RQ ⟨s,t⟩ ⟨s',t'⟩) ⟨y,y'⟩ k) (w:World) (ht:jw.Pow w) :
  Calls Tryz.prog 90 #[.agg #[.string s,.string t],.agg #[.string s',.string t']] w (Try w (.agg #[.string y,.string y']) k):=by
 have HR:=zh hx;have HP:=zh ht;clear hx ht;go_enter Tryz.func90,Tryz.ntmps90
 have HB:=zh (Below.refl w.heap.size w);go_wp2_with fail
 obtain ⟨w4,EW,hz,X1,X2,X3⟩:=Jy w #[.string s,.string t] 32 #[.string (s'),.string (t')] 32 #[.string ⟨#[]⟩,.string ⟨#[]⟩] 32;rw [EW];clear EW;replace HB:=zh (Bt HB.out hz);clear hz;obtain ⟨⟨s5,t5⟩,k5,EX,HN⟩:=kE HR.out;refine (bu2 EX _ (HP.out.later HB.out)).mono ?_;rintro e u5 ⟨rfl,h⟩;have HM:=zh HN;clear HN EX;replace X1:=X1.bl h;replace X2:=X2.bl h;replace X3:=X3.bl h;replace HB:=zh (Bt HB.out h);clear h;obtain ⟨aO,aN,aP⟩:=X1.clf;obtain ⟨dI,dH,dO⟩:=X2.clf;obtain ⟨qo,qb,qH⟩:=X3.clf;go_wp2_with fail
 clear aO aN aP dI dH dO qo qb qH;refine (tK _).mono ?_;rintro e u6 H;obtain ⟨h,⟨hk,rfl,HR2⟩|⟨hk,rfl⟩⟩:=aF H HM.out
 rotate_left
 ·exact ⟨rfl,Bt HB.out h,.inr ⟨hk,rfl⟩⟩
 clear H HM;subst hk;replace HR:=zh HR2;clear HR2;replace X1:=X1.bl h;replace X2:=X2.bl h;replace X3:=X3.bl h;replace HB:=zh (Bt HB.out h);clear h;obtain ⟨aO,aN,aP⟩:=X1.clf;obtain ⟨dI,dH,dO⟩:=X2.clf;obtain ⟨qo,qb,qH⟩:=X3.clf;go_wp2_with fail
 clear aO aN aP dI dH dO qo qb qH;obtain ⟨hk,hv⟩:=HR.out;cases hk
 cases hv rfl
 have hr:=X3.out;have hb:=HB.out;refine dG rfl rfl aH Tryz.underlying32 rfl zk ?_;exact ⟨au,.inl ⟨rfl,rfl⟩⟩
theorem GN {s t s' t' y y':ByteArray} {k:Int} (hx:gD (yL ⟨s,t⟩ ⟨s',t'⟩) ⟨y,y'⟩ k) (w:World) (ht:jw.Pow w) :
  Calls Tryz.prog 91 #[.agg #[.string s,.string t],.agg #[.string s',.string t']] w (Try w (.agg #[.string y,.string y']) k):=by
 have HR:=zh hx;have HP:=zh ht;clear hx ht;go_enter Tryz.func91,Tryz.ntmps91
 have HB:=zh (Below.refl w.heap.size w);go_wp2_with fail
 obtain ⟨w4,EW,hz,X1,X2,X3⟩:=Jy w #[.string s,.string t] 32 #[.string (s'),.string (t')] 32 #[.string ⟨#[]⟩,.string ⟨#[]⟩] 32;rw [EW];clear EW;replace HB:=zh (Bt HB.out hz);clear hz;obtain ⟨⟨s5,t5⟩,k5,EX,HN⟩:=kE HR.out;refine (bu4 EX _ (HP.out.later HB.out)).mono ?_;rintro e u5 ⟨rfl,h⟩;have HM:=zh HN;clear HN EX;replace X1:=X1.bl h;replace X2:=X2.bl h;replace X3:=X3.bl h;replace HB:=zh (Bt HB.out h);clear h;obtain ⟨aO,aN,aP⟩:=X1.clf;obtain ⟨dI,dH,dO⟩:=X2.clf;obtain ⟨qo,qb,qH⟩:=X3.clf;go_wp2_with fail
 clear aO aN aP dI dH dO qo qb qH;refine (tK _).mono ?_;rintro e u6 H;obtain ⟨h,⟨hk,rfl,HR2⟩|⟨hk,rfl⟩⟩:=aF H HM.out
 rotate_left
 ·exact ⟨rfl,Bt HB.out h,.inr ⟨hk,rfl⟩⟩
 clear H HM;subst hk;replace HR:=zh HR2;clear HR2;replace X1:=X1.bl h;replace X2:=X2.bl h;replace X3:=X3.bl h;replace HB:=zh (Bt HB.out h);clear h;obtain ⟨aO,aN,aP⟩:=X1.clf;obtain ⟨dI,dH,dO⟩:=X2.clf;obtain ⟨qo,qb,qH⟩:=X3.clf;go_wp2_with fail
 clear aO aN aP dI dH dO qo qb qH;obtain ⟨hk,hv⟩:=HR.out;cases hk
 cases hv rfl
 have hr:=X3.out;have hb:=HB.out;refine dG rfl rfl aH Tryz.underlying32 rfl zk ?_;exact ⟨au,.inl ⟨rfl,rfl⟩⟩
theorem CX {s t s' t' y y':ByteArray} {k:Int} (hx:gD (Dq ⟨s,t⟩ ⟨s',t'⟩) ⟨y,y'⟩ k) (w:World) (ht:jw.Pow w) :
  Calls Tryz.prog 48 #[.agg #[.string s,.string t],.agg #[.string s',.string t']] w (Try w (.agg #[.string y,.string y']) k):=by
 have HR:=zh hx;have HP:=zh ht;clear hx ht;go_enter Tryz.func48,Tryz.ntmps48
 have HB:=zh (Below.refl w.heap.size w);go_wp2_with fail
 obtain ⟨w4,EW,hz,X1,X2,X3⟩:=Jy w #[.string s,.string t] 32 #[.string (s'),.string (t')] 32 #[.string ⟨#[]⟩,.string ⟨#[]⟩] 32;rw [EW];clear EW;replace HB:=zh (Bt HB.out hz);clear hz;obtain ⟨⟨s5,t5⟩,k5,EX,HN⟩:=kE HR.out;refine (bu6 EX _ (HP.out.later HB.out)).mono ?_;rintro e u5 ⟨rfl,h⟩;have HM:=zh HN;clear HN EX;replace X1:=X1.bl h;replace X2:=X2.bl h;replace X3:=X3.bl h;replace HB:=zh (Bt HB.out h);clear h;obtain ⟨aO,aN,aP⟩:=X1.clf;obtain ⟨dI,dH,dO⟩:=X2.clf;obtain ⟨qo,qb,qH⟩:=X3.clf;go_wp2_with fail
 clear aO aN aP dI dH dO qo qb qH;refine (tK _).mono ?_;rintro e u6 H;obtain ⟨h,⟨hk,rfl,HR2⟩|⟨hk,rfl⟩⟩:=aF H HM.out
 rotate_left
 ·exact ⟨rfl,Bt HB.out h,.inr ⟨hk,rfl⟩⟩
 clear H HM;subst hk;replace HR:=zh HR2;clear HR2;replace X1:=X1.bl h;replace X2:=X2.bl h;replace X3:=X3.bl h;replace HB:=zh (Bt HB.out h);clear h;obtain ⟨aO,aN,aP⟩:=X1.clf;obtain ⟨dI,dH,dO⟩:=X2.clf;obtain ⟨qo,qb,qH⟩:=X3.clf;go_wp2_with fail
 clear aO aN aP dI dH dO qo qb qH;obtain ⟨hk,hv⟩:=HR.out;cases hk
 cases hv rfl
 have hr:=X3.out;have hb:=HB.out;refine dG rfl rfl aH Tryz.underlying32 rfl zk ?_;exact ⟨au,.inl ⟨rfl,rfl⟩⟩
theorem kJ {n d:Int} {y y':ByteArray} {k:Int} (hx:gD (qE n d) ⟨y,y'⟩ k) (w:World) (ht:jw.Pow w) (n0: -9223372036854775808≤n:=by omega) (n1:n≤9223372036854775807:=by omega) (d0: -9223372036854775808≤d:=by omega) (d1:d≤9223372036854775807:=by omega) :
  Calls Tryz.prog 84 #[.int .i64 n,.int .i64 d] w (Try w (.agg #[.string y,.string y']) k):=by
 have HR:=zh hx;have HP:=zh ht;clear hx ht;go_enter Tryz.func84,Tryz.ntmps84
 have HB:=zh (Below.refl w.heap.size w);go_wp2_with fail
 obtain ⟨w2,EW,hz,X1⟩:=pJ w #[.string ⟨#[]⟩,.string ⟨#[]⟩] 32;rw [EW];clear EW;replace HB:=zh (Bt HB.out hz);clear hz;obtain ⟨⟨s3,t3⟩,k3,EX,HN⟩:=kE HR.out;refine (cOf EX _ (HP.out.later HB.out)).mono ?_;rintro e u3 ⟨rfl,h⟩;have HM:=zh HN;clear HN EX;replace X1:=X1.bl h;replace HB:=zh (Bt HB.out h);clear h;obtain ⟨aO,aN,aP⟩:=X1.clf;go_wp2_with fail
 clear aO aN aP;refine (tK _).mono ?_;rintro e u4 H;obtain ⟨h,⟨hk,rfl,HR2⟩|⟨hk,rfl⟩⟩:=aF H HM.out
 rotate_left
 ·exact ⟨rfl,Bt HB.out h,.inr ⟨hk,rfl⟩⟩
 clear H HM;subst hk;replace HR:=zh HR2;clear HR2;replace X1:=X1.bl h;replace HB:=zh (Bt HB.out h);clear h;obtain ⟨aO,aN,aP⟩:=X1.clf;go_wp2_with fail
 clear aO aN aP;obtain ⟨hk,hv⟩:=HR.out;cases hk
 cases hv rfl
 have hr:=X1.out;have hb:=HB.out;refine dG rfl rfl aH Tryz.underlying32 rfl zk ?_;exact ⟨au,.inl ⟨rfl,rfl⟩⟩
theorem sP {s t:ByteArray} {x y k:Int} (hx:gD (aQ.mP ⟨s,t⟩) (x,y) k) (w:World) (ht:jw.Pow w) (he:whole.Er w) :
  Calls Tryz.prog 110 #[.agg #[.string s,.string t]] w (Try w (.agg #[.int .i64 x,.int .i64 y]) k):=by
 have HR:=zh hx;have HP:=zh ht;have HE:=zh he;clear hx ht he;go_enter Tryz.func110,Tryz.ntmps110
 have HB:=zh (Below.refl w.heap.size w);go_wp2_with fail
 obtain ⟨w3,EW,hz,X1,X2⟩:=uH w #[.string s,.string t] 32 #[.int .i64 0,.int .i64 0] 40;rw [EW];clear EW;replace HB:=zh (Bt HB.out hz);clear hz;obtain ⟨⟨x4,y4⟩,k4,EX,HN⟩:=kE HR.out;refine (as1 EX _ (HP.out.later HB.out) (HE.out.later HB.out)).mono ?_;rintro e u4 ⟨rfl,h⟩;have HM:=zh HN;clear HN EX;replace X1:=X1.bl h;replace X2:=X2.bl h;replace HB:=zh (Bt HB.out h);clear h;obtain ⟨aO,aN,aP⟩:=X1.clf;obtain ⟨dI,dH,dO⟩:=X2.clf;go_wp2_with fail
 clear aO aN aP dI dH dO;refine (jU _).mono ?_;rintro e u5 H;obtain ⟨h,⟨hk,rfl,HR2⟩|⟨hk,rfl⟩⟩:=aF H HM.out
 rotate_left
 ·exact ⟨rfl,Bt HB.out h,.inr ⟨hk,rfl⟩⟩
 clear H HM;subst hk;replace HR:=zh HR2;clear HR2;replace X1:=X1.bl h;replace X2:=X2.bl h;replace HB:=zh (Bt HB.out h);clear h;obtain ⟨aO,aN,aP⟩:=X1.clf;obtain ⟨dI,dH,dO⟩:=X2.clf;go_wp2_with fail
 clear aO aN aP dI dH dO;obtain ⟨hk,hv⟩:=HR.out;cases hk
 cases hv rfl
 have hr:=X2.out;have hb:=HB.out;refine dG rfl rfl aH Tryz.underlying40 rfl zk ?_;exact ⟨au,.inl ⟨rfl,rfl⟩⟩
def wZ (a b:Fr):Bool × Int:=aU false (Ak a b) fun c=>vF (decide (0<c))
theorem Ww {s t s' t':ByteArray} {v:Bool} {k:Int} (hx:gD (wZ ⟨s,t⟩ ⟨s',t'⟩) v k) (w:World) :
  Calls Tryz.prog 123 #[.agg #[.string s,.string t],.agg #[.string s',.string t']] w (Try w (.bool v) k):=by
 have HR:=zh hx;clear hx;unfold wZ at HR;go_enter Tryz.func123,Tryz.ntmps123
 have HB:=zh (Below.refl w.heap.size w);go_wp2_with fail
 obtain ⟨w3,EW,hz,X1,X2⟩:=uH w #[.string s,.string t] 32 #[.string (s'),.string (t')] 32;rw [EW];clear EW;replace HB:=zh (Bt HB.out hz);clear hz;obtain ⟨v4,k4,EX,HN⟩:=aD HR.out;refine (bu7 EX _).mono ?_;rintro e u4 ⟨rfl,h⟩;have HM:=zh HN;clear HN EX;replace X1:=X1.bl h;replace X2:=X2.bl h;replace HB:=zh (Bt HB.out h);clear h;obtain ⟨aO,aN,aP⟩:=X1.clf;obtain ⟨dI,dH,dO⟩:=X2.clf;go_wp2_with fail
 clear aO aN aP dI dH dO;refine (DL _).mono ?_;rintro e u5 H;obtain ⟨h,⟨hk,rfl,HR2⟩|⟨hk,rfl⟩⟩:=aF H HM.out
 rotate_left
 ·exact ⟨rfl,Bt HB.out h,.inr ⟨hk,rfl⟩⟩
 clear H HM;subst hk;replace HR:=zh HR2;clear HR2;replace X1:=X1.bl h;replace X2:=X2.bl h;replace HB:=zh (Bt HB.out h);clear h;obtain ⟨aO,aN,aP⟩:=X1.clf;obtain ⟨dI,dH,dO⟩:=X2.clf;go_wp2_with fail
 clear aO aN aP dI dH dO;obtain ⟨hk,hv⟩:=HR.out;cases hk
 cases hv rfl
 go_ret
 exact ⟨HB.out,.inl ⟨rfl,rfl⟩⟩
theorem DJ {n x y k:Int} (hx:gD (aQ.Zr (n*1000000000000)) (x,y) k) (w:World) (h1: -1000≤n:=by omega) (h2:n≤1000:=by omega) :
  Calls Tryz.prog 52 #[.int .i64 n] w (Try w (.agg #[.int .i64 x,.int .i64 y]) k):=by
 have HR:=zh hx;have hw:IntKind.i64.wrap (n*1000000000000)=n*1000000000000:=by rw [IntKind.wrap_i64];omega
 clear hx h1 h2;go_enter Tryz.func52,Tryz.ntmps52
 have HB:=zh (Below.refl w.heap.size w);go_wp2_with fail
 obtain ⟨w2,EW,hz,X1⟩:=pJ w #[.int .i64 0,.int .i64 0] 40;rw [EW];clear EW;replace HB:=zh (Bt HB.out hz);clear hz;obtain ⟨⟨x3,y3⟩,k3,EX,HN⟩:=kE HR.out;refine (aH5 EX _).mono ?_;rintro e u3 ⟨rfl,h⟩;have HM:=zh HN;clear HN EX;replace X1:=X1.bl h;replace HB:=zh (Bt HB.out h);clear h;obtain ⟨aO,aN,aP⟩:=X1.clf;go_wp2_with fail
 clear aO aN aP;refine (jU _).mono ?_;rintro e u4 H;obtain ⟨h,⟨hk,rfl,HR2⟩|⟨hk,rfl⟩⟩:=aF H HM.out
 rotate_left
 ·exact ⟨rfl,Bt HB.out h,.inr ⟨hk,rfl⟩⟩
 clear H HM;subst hk;replace HR:=zh HR2;clear HR2;replace X1:=X1.bl h;replace HB:=zh (Bt HB.out h);clear h;obtain ⟨aO,aN,aP⟩:=X1.clf;go_wp2_with fail
 clear aO aN aP;obtain ⟨hk,hv⟩:=HR.out;cases hk
 cases hv rfl
 have hr:=X1.out;have hb:=HB.out;refine dG rfl rfl aH Tryz.underlying40 rfl zk ?_;exact ⟨au,.inl ⟨rfl,rfl⟩⟩
theorem xB {u v n d x y k:Int} (hx:gD (aQ.yI (u,v) n d) (x,y) k) (w:World) :
  Calls Tryz.prog 51 #[.agg #[.int .i64 u,.int .i64 v],.int .i64 n,.int .i64 d] w (Try w (.agg #[.int .i64 x,.int .i64 y]) k):=by
 have HR:=zh hx;clear hx;go_enter Tryz.func51,Tryz.ntmps51
 have HB:=zh (Below.refl w.heap.size w);go_wp2_with fail
 obtain ⟨w3,EW,hz,X1,X2⟩:=uH w #[.int .i64 u,.int .i64 v] 40 #[.int .i64 0,.int .i64 0] 40;rw [EW];clear EW;replace HB:=zh (Bt HB.out hz);clear hz;obtain ⟨⟨x4,y4⟩,k4,EX,HN⟩:=kE HR.out;refine (ar9 EX _).mono ?_;rintro e u4 ⟨rfl,h⟩;have HM:=zh HN;clear HN EX;replace X1:=X1.bl h;replace X2:=X2.bl h;replace HB:=zh (Bt HB.out h);clear h;obtain ⟨aO,aN,aP⟩:=X1.clf;obtain ⟨dI,dH,dO⟩:=X2.clf;go_wp2_with fail
 clear aO aN aP dI dH dO;refine (jU _).mono ?_;rintro e u5 H;obtain ⟨h,⟨hk,rfl,HR2⟩|⟨hk,rfl⟩⟩:=aF H HM.out
 rotate_left
 ·exact ⟨rfl,Bt HB.out h,.inr ⟨hk,rfl⟩⟩
 clear H HM;subst hk;replace HR:=zh HR2;clear HR2;replace X1:=X1.bl h;replace X2:=X2.bl h;replace HB:=zh (Bt HB.out h);clear h;obtain ⟨aO,aN,aP⟩:=X1.clf;obtain ⟨dI,dH,dO⟩:=X2.clf;go_wp2_with fail
 clear aO aN aP dI dH dO;obtain ⟨hk,hv⟩:=HR.out;cases hk
 cases hv rfl
 have hr:=X2.out;have hb:=HB.out;refine dG rfl rfl aH Tryz.underlying40 rfl zk ?_;exact ⟨au,.inl ⟨rfl,rfl⟩⟩
theorem Da (w:World):Calls Tryz.prog 47 #[] w (fun e w'=>e= .returned (.agg #[.func (.func 122) #[] #[],.func (.func 125) #[] #[]])∧Below w.heap.size w w'):=by
 go_enter Tryz.func47,Tryz.ntmps47
 go_wp2_with fail
 refine dG rfl rfl aH Tryz.underlying93 rfl zk ?_;exact ⟨rfl,au⟩
def IW (t:Fr):(Int × Int) × Int :=
 aU (0,0) (qE 216 24389) fun r=>aU (0,0) (wZ t r) fun c=>cond c
  (aU (0,0) (aQ.mP t) fun b=>aU (0,0) (power.pwE b.1 b.2 1 3) vF)
  (aU (0,0) (qE 841 108) fun p=>aU (0,0) (yL p t) fun m=>aU (0,0) (qE 4 29) fun q=>aU (0,0) (Kk m q) fun s=>aU (0,0) (aQ.mP s) vF)
theorem Nz {s t:ByteArray} {x y k:Int} (hx:gD (IW ⟨s,t⟩) (x,y) k) (w:World) (ht:jw.Pow w) (he:whole.Er w) :
  Calls Tryz.prog 122 #[.agg #[.string s,.string t]] w (Try w (.agg #[.int .i64 x,.int .i64 y]) k):=by
 have HR:=zh hx;have HP:=zh ht;have HE:=zh he;clear hx ht he;unfold IW at HR;go_enter Tryz.func122,Tryz.ntmps122
 have HB:=zh (Below.refl w.heap.size w);go_wp2_with fail
 obtain ⟨w3,EW,hz,X1,X2⟩:=uH w #[.string s,.string t] 32 #[.int .i64 0,.int .i64 0] 40;rw [EW];clear EW;replace HB:=zh (Bt HB.out hz);clear hz;refine aC [(.read,0),(.ext,1),(.ext,2)] zk zk zR zP ?_;refine Wk.out ?_;obtain ⟨aO,aN,aP⟩:=X1.clf;refine zS ?_;clear aO aN aP;obtain ⟨⟨s4,t4⟩,k4,EX,HN⟩:=aD HR.out;refine aM rfl rfl (fun we hbe J hJ=>?_);go_simp;have hx:Below w3.heap.size w3 we:=au;have aW:=zh (Bt HB.out hx);refine (kJ (gD.of EX) _ (HP.out.later aW.out)).mono ?_;rintro e u4 H;obtain ⟨h,⟨hk,rfl,HR2⟩|⟨hk,rfl⟩⟩:=aF H HN
 rotate_left
 ·exact ⟨rfl,Bt (Bt HB.out hx) h,.inr ⟨hk,rfl⟩⟩
 clear H HN EX;subst hk;replace HR:=zh HR2;clear HR2;have hy:=Bt hx h;refine hJ _ _ h ?_;clear hJ J hbe hx h aW;replace X1:=X1.bl hy;replace X2:=X2.bl hy;replace HB:=zh (Bt HB.out hy);clear hy;obtain ⟨aO,aN,aP⟩:=X1.clf;refine zS ?_;clear aO aN aP;obtain ⟨v5,k5,EX,HN⟩:=aD HR.out;refine aM rfl rfl (fun we hbe J hJ=>?_);go_simp;have hx:Below u4.heap.size u4 we:=au;have aW:=zh (Bt HB.out hx);refine (Ww (gD.of EX) _).mono ?_;rintro e u5 H;obtain ⟨h,⟨hk,rfl,HR2⟩|⟨hk,rfl⟩⟩:=aF H HN
 rotate_left
 ·exact ⟨rfl,Bt (Bt HB.out hx) h,.inr ⟨hk,rfl⟩⟩
 clear H HN EX;subst hk;replace HR:=zh HR2;clear HR2;have hy:=Bt hx h;refine hJ _ _ h ?_;clear hJ J hbe hx h aW;replace X1:=X1.bl hy;replace X2:=X2.bl hy;replace HB:=zh (Bt HB.out hy);clear hy;obtain ⟨aO,aN,aP⟩:=X1.clf;refine zS ?_;clear aO aN aP;refine YI (fun u6 hbf=>?_);have hy:Below u5.heap.size u5 u6:=au;replace X1:=X1.bl hy;replace X2:=X2.bl hy;replace HB:=zh (Bt HB.out hy);clear hy hbf;cases v5
 ·skip
  replace HR:=zh (gD.cond_false HR.out);obtain ⟨aO,aN,aP⟩:=X1.clf;obtain ⟨dI,dH,dO⟩:=X2.clf;go_wp2_with fail
  clear aO aN aP dI dH dO;refine aC [(.read,1),(.ext,0),(.ext,2),(.ext,3),(.ext,4),(.ext,5),(.fin,6)] zk zk zR zP ?_;refine Wk.out ?_;obtain ⟨aO,aN,aP⟩:=X1.clf;refine zS ?_;clear aO aN aP;obtain ⟨⟨s7,t7⟩,k7,EX,HN⟩:=aD HR.out;refine aM rfl rfl (fun we hbe J hJ=>?_);go_simp;have hx:Below u6.heap.size u6 we:=au;have aW:=zh (Bt HB.out hx);refine (kJ (gD.of EX) _ (HP.out.later aW.out)).mono ?_;rintro e u7 H;obtain ⟨h,⟨hk,rfl,HR2⟩|⟨hk,rfl⟩⟩:=aF H HN
  rotate_left
  ·exact ⟨rfl,Bt (Bt HB.out hx) h,.inr ⟨hk,rfl⟩⟩
  clear H HN EX;subst hk;replace HR:=zh HR2;clear HR2;have hy:=Bt hx h;refine hJ _ _ h ?_;clear hJ J hbe hx h aW;replace X1:=X1.bl hy;replace X2:=X2.bl hy;replace HB:=zh (Bt HB.out hy);clear hy;obtain ⟨aO,aN,aP⟩:=X1.clf;refine zS ?_;clear aO aN aP;obtain ⟨⟨s8,t8⟩,k8,EX,HN⟩:=aD HR.out;refine aM rfl rfl (fun we hbe J hJ=>?_);go_simp;have hx:Below u7.heap.size u7 we:=au;have aW:=zh (Bt HB.out hx);refine (GN (gD.of EX) _ (HP.out.later aW.out)).mono ?_;rintro e u8 H;obtain ⟨h,⟨hk,rfl,HR2⟩|⟨hk,rfl⟩⟩:=aF H HN
  rotate_left
  ·exact ⟨rfl,Bt (Bt HB.out hx) h,.inr ⟨hk,rfl⟩⟩
  clear H HN EX;subst hk;replace HR:=zh HR2;clear HR2;have hy:=Bt hx h;refine hJ _ _ h ?_;clear hJ J hbe hx h aW;replace X1:=X1.bl hy;replace X2:=X2.bl hy;replace HB:=zh (Bt HB.out hy);clear hy;obtain ⟨aO,aN,aP⟩:=X1.clf;refine zS ?_;clear aO aN aP;obtain ⟨⟨s9,t9⟩,k9,EX,HN⟩:=aD HR.out;refine aM rfl rfl (fun we hbe J hJ=>?_);go_simp;have hx:Below u8.heap.size u8 we:=au;have aW:=zh (Bt HB.out hx);refine (kJ (gD.of EX) _ (HP.out.later aW.out)).mono ?_;rintro e u9 H;obtain ⟨h,⟨hk,rfl,HR2⟩|⟨hk,rfl⟩⟩:=aF H HN
  rotate_left
  ·exact ⟨rfl,Bt (Bt HB.out hx) h,.inr ⟨hk,rfl⟩⟩
  clear H HN EX;subst hk;replace HR:=zh HR2;clear HR2;have hy:=Bt hx h;refine hJ _ _ h ?_;clear hJ J hbe hx h aW;replace X1:=X1.bl hy;replace X2:=X2.bl hy;replace HB:=zh (Bt HB.out hy);clear hy;obtain ⟨aO,aN,aP⟩:=X1.clf;refine zS ?_;clear aO aN aP;obtain ⟨⟨s10,t10⟩,k10,EX,HN⟩:=aD HR.out;refine aM rfl rfl (fun we hbe J hJ=>?_);go_simp;have hx:Below u9.heap.size u9 we:=au;have aW:=zh (Bt HB.out hx);refine (Wu (gD.of EX) _ (HP.out.later aW.out)).mono ?_;rintro e Yv H;obtain ⟨h,⟨hk,rfl,HR2⟩|⟨hk,rfl⟩⟩:=aF H HN
  rotate_left
  ·exact ⟨rfl,Bt (Bt HB.out hx) h,.inr ⟨hk,rfl⟩⟩
  clear H HN EX;subst hk;replace HR:=zh HR2;clear HR2;have hy:=Bt hx h;refine hJ _ _ h ?_;clear hJ J hbe hx h aW;replace X1:=X1.bl hy;replace X2:=X2.bl hy;replace HB:=zh (Bt HB.out hy);clear hy;obtain ⟨aO,aN,aP⟩:=X1.clf;refine zS ?_;clear aO aN aP;obtain ⟨⟨x11,y11⟩,k11,EX,HN⟩:=aD HR.out;refine aM rfl rfl (fun we hbe J hJ=>?_);go_simp;have hx:Below Yv.heap.size Yv we:=au;have aW:=zh (Bt HB.out hx);refine (sP (gD.of EX) _ (HP.out.later aW.out) (HE.out.later aW.out)).mono ?_;rintro e Mj H;obtain ⟨h,⟨hk,rfl,HR2⟩|⟨hk,rfl⟩⟩:=aF H HN
  rotate_left
  ·exact ⟨rfl,Bt (Bt HB.out hx) h,.inr ⟨hk,rfl⟩⟩
  clear H HN EX;subst hk;replace HR:=zh HR2;clear HR2;have hy:=Bt hx h;refine hJ _ _ h ?_;clear hJ J hbe hx h aW;replace X1:=X1.bl hy;replace X2:=X2.bl hy;replace HB:=zh (Bt HB.out hy);clear hy;obtain ⟨aO,aN,aP⟩:=X1.clf;refine zS ?_;clear aO aN aP;refine iK [_] rfl (fun Oq hbf=>?_);have hy:Below Mj.heap.size Mj Oq:=au;replace X1:=X1.bl hy;replace X2:=X2.bl hy;replace HB:=zh (Bt HB.out hy);clear hy hbf;obtain ⟨aO,aN,aP⟩:=X1.clf;obtain ⟨dI,dH,dO⟩:=X2.clf;go_wp2_with fail
  clear aO aN aP dI dH dO;obtain ⟨hk,hv⟩:=HR.out;cases hk
  cases hv rfl
  have hr:=X2.out;have hb:=HB.out;refine dG rfl rfl aH Tryz.underlying40 rfl zk ?_;exact ⟨au,.inl ⟨rfl,rfl⟩⟩
 ·skip
  replace HR:=zh (gD.cond_true HR.out);obtain ⟨aO,aN,aP⟩:=X1.clf;obtain ⟨dI,dH,dO⟩:=X2.clf;go_wp2_with fail
  clear aO aN aP dI dH dO;obtain ⟨⟨x13,y13⟩,k13,EX,HN⟩:=aD HR.out;refine (sP (gD.of EX) _ (HP.out.later HB.out) (HE.out.later HB.out)).mono ?_;rintro e Mi H;obtain ⟨h,⟨hk,rfl,HR2⟩|⟨hk,rfl⟩⟩:=aF H HN
  rotate_left
  ·exact ⟨rfl,Bt HB.out h,.inr ⟨hk,rfl⟩⟩
  clear H HN EX;subst hk;replace HR:=zh HR2;clear HR2;replace X1:=X1.bl h;replace X2:=X2.bl h;replace HB:=zh (Bt HB.out h);clear h;obtain ⟨aO,aN,aP⟩:=X1.clf;obtain ⟨dI,dH,dO⟩:=X2.clf;go_wp2_with fail
  clear aO aN aP dI dH dO;obtain ⟨⟨x14,y14⟩,k14,EX,HN⟩:=aD HR.out;refine (bh6 EX _ (HP.out.later HB.out) (HE.out.later HB.out)).mono ?_;rintro e u14 ⟨rfl,h⟩;have HM:=zh HN;clear HN EX;replace X1:=X1.bl h;replace X2:=X2.bl h;replace HB:=zh (Bt HB.out h);clear h;obtain ⟨aO,aN,aP⟩:=X1.clf;obtain ⟨dI,dH,dO⟩:=X2.clf;go_wp2_with fail
  clear aO aN aP dI dH dO;refine (jU _).mono ?_;rintro e KF H;obtain ⟨h,⟨hk,rfl,HR2⟩|⟨hk,rfl⟩⟩:=aF H HM.out
  rotate_left
  ·exact ⟨rfl,Bt HB.out h,.inr ⟨hk,rfl⟩⟩
  clear H HM;subst hk;replace HR:=zh HR2;clear HR2;replace X1:=X1.bl h;replace X2:=X2.bl h;replace HB:=zh (Bt HB.out h);clear h;obtain ⟨aO,aN,aP⟩:=X1.clf;obtain ⟨dI,dH,dO⟩:=X2.clf;go_wp2_with fail
  clear aO aN aP dI dH dO;obtain ⟨hk,hv⟩:=HR.out;cases hk
  cases hv rfl
  have hr:=X2.out;have hb:=HB.out;refine dG rfl rfl aH Tryz.underlying40 rfl zk ?_;exact ⟨au,.inl ⟨rfl,rfl⟩⟩
def sG (f:Fr):Fr × Int :=
 aU Fr.no (qE 6 29) fun r=>aU Fr.no (wZ f r) fun c=>cond c
  (aU Fr.no (aA0 f 3) vF)
  (aU Fr.no (qE 108 841) fun p=>aU Fr.no (qE 4 29) fun q=>aU Fr.no (RQ f q) fun d=>aU Fr.no (yL p d) vF)
theorem Ye {f r:Fr} {q:Rat} {k:Int} (h:wZ f r=(true,k)) (hr:rd r=some q) (hq:0≤q):∃ p,rd f=some p∧0≤p:=by
 unfold wZ Ak at h;cases hf:rd f with
 | none =>
  rw [hf] at h;have:(false,(20:Int))=(true,k):=h;cases this
 | some p =>
  rw [hf,hr] at h;have h2:(decide (0<og p q),(0:Int))=(true,k):=h;have h3:decide (0<og p q)=true:=congrArg Prod.fst h2;refine ⟨p,rfl,?_⟩;have h4:=of_decide_eq_true h3;unfold og at h4;split at h4
  ·omega
  ·split at h4
   ·rename_i h5
    grind
   ·omega
theorem aX0 {s t:ByteArray} (h:qE 6 29=(⟨s,t⟩,0)):rd ⟨s,t⟩=some (6 / 29):=by
 have e:qE 6 29=(Fr.of ((6:Int) / (29:Int):Rat),0):=by decide+kernel
 rw [e] at h;have h2:Fr.of ((6:Int) / (29:Int):Rat)=⟨s,t⟩:=congrArg Prod.fst h;rw [← h2];exact oQ (by decide+kernel)
theorem uQ {s t y y':ByteArray} {k:Int} (hx:gD (sG ⟨s,t⟩) ⟨y,y'⟩ k) (w:World) (ht:jw.Pow w) :
  Calls Tryz.prog 125 #[.agg #[.string s,.string t]] w (Try w (.agg #[.string y,.string y']) k):=by
 have HR:=zh hx;have HP:=zh ht;clear hx ht;unfold sG at HR;go_enter Tryz.func125,Tryz.ntmps125
 have HB:=zh (Below.refl w.heap.size w);go_wp2_with fail
 obtain ⟨w3,EW,hz,X1,X2⟩:=uH w #[.string s,.string t] 32 #[.string ⟨#[]⟩,.string ⟨#[]⟩] 32;rw [EW];clear EW;replace HB:=zh (Bt HB.out hz);clear hz;refine aC [(.read,0),(.ext,1),(.ext,2)] zk zk zR zP ?_;refine Wk.out ?_;obtain ⟨aO,aN,aP⟩:=X1.clf;refine zS ?_;clear aO aN aP;obtain ⟨⟨s4,t4⟩,k4,EX,HN⟩:=aD HR.out;refine aM rfl rfl (fun we hbe J hJ=>?_);go_simp;have hx:Below w3.heap.size w3 we:=au;have aW:=zh (Bt HB.out hx);refine (kJ (gD.of EX) _ (HP.out.later aW.out)).mono ?_;rintro e u4 H;obtain ⟨h,⟨hk,rfl,HR2⟩|⟨hk,rfl⟩⟩:=aF H HN
 rotate_left
 ·exact ⟨rfl,Bt (Bt HB.out hx) h,.inr ⟨hk,rfl⟩⟩
 have E1:=zh EX;clear H HN EX;subst hk;replace HR:=zh HR2;clear HR2;have hy:=Bt hx h;refine hJ _ _ h ?_;clear hJ J hbe hx h aW;replace X1:=X1.bl hy;replace X2:=X2.bl hy;replace HB:=zh (Bt HB.out hy);clear hy;obtain ⟨aO,aN,aP⟩:=X1.clf;refine zS ?_;clear aO aN aP;obtain ⟨v5,k5,EX,HN⟩:=aD HR.out;refine aM rfl rfl (fun we hbe J hJ=>?_);go_simp;have hx:Below u4.heap.size u4 we:=au;have aW:=zh (Bt HB.out hx);refine (Ww (gD.of EX) _).mono ?_;rintro e u5 H;obtain ⟨h,⟨hk,rfl,HR2⟩|⟨hk,rfl⟩⟩:=aF H HN
 rotate_left
 ·exact ⟨rfl,Bt (Bt HB.out hx) h,.inr ⟨hk,rfl⟩⟩
 have E2:=zh EX;clear H HN EX;subst hk;replace HR:=zh HR2;clear HR2;have hy:=Bt hx h;refine hJ _ _ h ?_;clear hJ J hbe hx h aW;replace X1:=X1.bl hy;replace X2:=X2.bl hy;replace HB:=zh (Bt HB.out hy);clear hy;obtain ⟨aO,aN,aP⟩:=X1.clf;refine zS ?_;clear aO aN aP;refine YI (fun u6 hbf=>?_);have hy:Below u5.heap.size u5 u6:=au;replace X1:=X1.bl hy;replace X2:=X2.bl hy;replace HB:=zh (Bt HB.out hy);clear hy hbf;cases v5
 ·skip
  replace HR:=zh (gD.cond_false HR.out);obtain ⟨aO,aN,aP⟩:=X1.clf;obtain ⟨dI,dH,dO⟩:=X2.clf;go_wp2_with fail
  clear aO aN aP dI dH dO;refine aC [(.read,1),(.ext,0),(.ext,2),(.ext,3),(.ext,4),(.fin,5)] zk zk zR zP ?_;refine Wk.out ?_;obtain ⟨aO,aN,aP⟩:=X1.clf;refine zS ?_;clear aO aN aP;obtain ⟨⟨s7,t7⟩,k7,EX,HN⟩:=aD HR.out;refine aM rfl rfl (fun we hbe J hJ=>?_);go_simp;have hx:Below u6.heap.size u6 we:=au;have aW:=zh (Bt HB.out hx);refine (kJ (gD.of EX) _ (HP.out.later aW.out)).mono ?_;rintro e u7 H;obtain ⟨h,⟨hk,rfl,HR2⟩|⟨hk,rfl⟩⟩:=aF H HN
  rotate_left
  ·exact ⟨rfl,Bt (Bt HB.out hx) h,.inr ⟨hk,rfl⟩⟩
  clear H HN EX;subst hk;replace HR:=zh HR2;clear HR2;have hy:=Bt hx h;refine hJ _ _ h ?_;clear hJ J hbe hx h aW;replace X1:=X1.bl hy;replace X2:=X2.bl hy;replace HB:=zh (Bt HB.out hy);clear hy;obtain ⟨aO,aN,aP⟩:=X1.clf;refine zS ?_;clear aO aN aP;obtain ⟨⟨s8,t8⟩,k8,EX,HN⟩:=aD HR.out;refine aM rfl rfl (fun we hbe J hJ=>?_);go_simp;have hx:Below u7.heap.size u7 we:=au;have aW:=zh (Bt HB.out hx);refine (kJ (gD.of EX) _ (HP.out.later aW.out)).mono ?_;rintro e u8 H;obtain ⟨h,⟨hk,rfl,HR2⟩|⟨hk,rfl⟩⟩:=aF H HN
  rotate_left
  ·exact ⟨rfl,Bt (Bt HB.out hx) h,.inr ⟨hk,rfl⟩⟩
  clear H HN EX;subst hk;replace HR:=zh HR2;clear HR2;have hy:=Bt hx h;refine hJ _ _ h ?_;clear hJ J hbe hx h aW;replace X1:=X1.bl hy;replace X2:=X2.bl hy;replace HB:=zh (Bt HB.out hy);clear hy;obtain ⟨aO,aN,aP⟩:=X1.clf;refine zS ?_;clear aO aN aP;obtain ⟨⟨s9,t9⟩,k9,EX,HN⟩:=aD HR.out;refine aM rfl rfl (fun we hbe J hJ=>?_);go_simp;have hx:Below u8.heap.size u8 we:=au;have aW:=zh (Bt HB.out hx);refine (Ze (gD.of EX) _ (HP.out.later aW.out)).mono ?_;rintro e u9 H;obtain ⟨h,⟨hk,rfl,HR2⟩|⟨hk,rfl⟩⟩:=aF H HN
  rotate_left
  ·exact ⟨rfl,Bt (Bt HB.out hx) h,.inr ⟨hk,rfl⟩⟩
  clear H HN EX;subst hk;replace HR:=zh HR2;clear HR2;have hy:=Bt hx h;refine hJ _ _ h ?_;clear hJ J hbe hx h aW;replace X1:=X1.bl hy;replace X2:=X2.bl hy;replace HB:=zh (Bt HB.out hy);clear hy;obtain ⟨aO,aN,aP⟩:=X1.clf;refine zS ?_;clear aO aN aP;obtain ⟨⟨s10,t10⟩,k10,EX,HN⟩:=aD HR.out;refine aM rfl rfl (fun we hbe J hJ=>?_);go_simp;have hx:Below u9.heap.size u9 we:=au;have aW:=zh (Bt HB.out hx);refine (GN (gD.of EX) _ (HP.out.later aW.out)).mono ?_;rintro e Yv H;obtain ⟨h,⟨hk,rfl,HR2⟩|⟨hk,rfl⟩⟩:=aF H HN
  rotate_left
  ·exact ⟨rfl,Bt (Bt HB.out hx) h,.inr ⟨hk,rfl⟩⟩
  clear H HN EX;subst hk;replace HR:=zh HR2;clear HR2;have hy:=Bt hx h;refine hJ _ _ h ?_;clear hJ J hbe hx h aW;replace X1:=X1.bl hy;replace X2:=X2.bl hy;replace HB:=zh (Bt HB.out hy);clear hy;obtain ⟨aO,aN,aP⟩:=X1.clf;refine zS ?_;clear aO aN aP;refine iK [_] rfl (fun Mj hbf=>?_);have hy:Below Yv.heap.size Yv Mj:=au;replace X1:=X1.bl hy;replace X2:=X2.bl hy;replace HB:=zh (Bt HB.out hy);clear hy hbf;obtain ⟨aO,aN,aP⟩:=X1.clf;obtain ⟨dI,dH,dO⟩:=X2.clf;go_wp2_with fail
  clear aO aN aP dI dH dO;obtain ⟨hk,hv⟩:=HR.out;cases hk
  cases hv rfl
  have hr:=X2.out;have hb:=HB.out;refine dG rfl rfl aH Tryz.underlying32 rfl zk ?_;exact ⟨au,.inl ⟨rfl,rfl⟩⟩
 ·skip
  replace HR:=zh (gD.cond_true HR.out);obtain ⟨aO,aN,aP⟩:=X1.clf;obtain ⟨dI,dH,dO⟩:=X2.clf;go_wp2_with fail
  clear aO aN aP dI dH dO;obtain ⟨⟨s12,t12⟩,k12,EX,HN⟩:=aD HR.out;refine (bu3 EX _ (HP.out.later HB.out) (Ye E2.out (aX0 E1.out) (by decide+kernel))).mono ?_;rintro e Oq ⟨rfl,h⟩;have HM:=zh HN;clear HN EX;replace X1:=X1.bl h;replace X2:=X2.bl h;replace HB:=zh (Bt HB.out h);clear h;obtain ⟨aO,aN,aP⟩:=X1.clf;obtain ⟨dI,dH,dO⟩:=X2.clf;go_wp2_with fail
  clear aO aN aP dI dH dO;refine (tK _).mono ?_;rintro e Mi H;obtain ⟨h,⟨hk,rfl,HR2⟩|⟨hk,rfl⟩⟩:=aF H HM.out
  rotate_left
  ·exact ⟨rfl,Bt HB.out h,.inr ⟨hk,rfl⟩⟩
  clear H HM;subst hk;replace HR:=zh HR2;clear HR2;replace X1:=X1.bl h;replace X2:=X2.bl h;replace HB:=zh (Bt HB.out h);clear h;obtain ⟨aO,aN,aP⟩:=X1.clf;obtain ⟨dI,dH,dO⟩:=X2.clf;go_wp2_with fail
  clear aO aN aP dI dH dO;obtain ⟨hk,hv⟩:=HR.out;cases hk
  cases hv rfl
  have hr:=X2.out;have hb:=HB.out;refine dG rfl rfl aH Tryz.underlying32 rfl zk ?_;exact ⟨au,.inl ⟨rfl,rfl⟩⟩
theorem aX1 {lo hi k:Int} {y y':ByteArray} (hx:gD (aQ.an8 (lo,hi)) ⟨y,y'⟩ k) (w:World) (ht:jw.Pow w) (hb:aQ.jF lo hi=true) :
  Calls Tryz.prog 181 #[.agg #[.int .i64 lo,.int .i64 hi]] w (Try w (.agg #[.string y,.string y']) k):=by
 have HR:=zh hx;have HP:=zh ht;have HV:=zh hb;clear hx ht hb;go_enter Tryz.func181,Tryz.ntmps181
 have HB:=zh (Below.refl w.heap.size w);go_wp2_with fail
 obtain ⟨w3,EW,hz,X1,X2⟩:=uH w #[.int .i64 lo,.int .i64 hi] 202 #[.string ⟨#[]⟩,.string ⟨#[]⟩] 32;rw [EW];clear EW;replace HB:=zh (Bt HB.out hz);clear hz;obtain ⟨⟨s4,t4⟩,k4,EX,HN⟩:=kE HR.out;refine (bu5 EX _ (HP.out.later HB.out) HV.out).mono ?_;rintro e u4 ⟨rfl,h⟩;have HM:=zh HN;clear HN EX;replace X1:=X1.bl h;replace X2:=X2.bl h;replace HB:=zh (Bt HB.out h);clear h;obtain ⟨aO,aN,aP⟩:=X1.clf;obtain ⟨dI,dH,dO⟩:=X2.clf;go_wp2_with fail
 clear aO aN aP dI dH dO;refine (tK _).mono ?_;rintro e u5 H;obtain ⟨h,⟨hk,rfl,HR2⟩|⟨hk,rfl⟩⟩:=aF H HM.out
 rotate_left
 ·exact ⟨rfl,Bt HB.out h,.inr ⟨hk,rfl⟩⟩
 clear H HM;subst hk;replace HR:=zh HR2;clear HR2;replace X1:=X1.bl h;replace X2:=X2.bl h;replace HB:=zh (Bt HB.out h);clear h;obtain ⟨aO,aN,aP⟩:=X1.clf;obtain ⟨dI,dH,dO⟩:=X2.clf;go_wp2_with fail
 clear aO aN aP dI dH dO;obtain ⟨hk,hv⟩:=HR.out;cases hk
 cases hv rfl
 have hr:=X2.out;have hb:=HB.out;refine dG rfl rfl aH Tryz.underlying32 rfl zk ?_;exact ⟨au,.inl ⟨rfl,rfl⟩⟩
theorem aC9 {lo hi k:Int} {y y':ByteArray} (hx:gD (aQ.VD (lo,hi)) ⟨y,y'⟩ k) (w:World) (ht:jw.Pow w) (hb:aQ.jF lo hi=true) :
  Calls Tryz.prog 182 #[.agg #[.int .i64 lo,.int .i64 hi]] w (Try w (.agg #[.string y,.string y']) k):=by
 have HR:=zh hx;have HP:=zh ht;have HV:=zh hb;clear hx ht hb;go_enter Tryz.func182,Tryz.ntmps182
 have HB:=zh (Below.refl w.heap.size w);go_wp2_with fail
 obtain ⟨w3,EW,hz,X1,X2⟩:=uH w #[.int .i64 lo,.int .i64 hi] 202 #[.string ⟨#[]⟩,.string ⟨#[]⟩] 32;rw [EW];clear EW;replace HB:=zh (Bt HB.out hz);clear hz;obtain ⟨⟨s4,t4⟩,k4,EX,HN⟩:=kE HR.out;refine (bh7 EX _ (HP.out.later HB.out) HV.out).mono ?_;rintro e u4 ⟨rfl,h⟩;have HM:=zh HN;clear HN EX;replace X1:=X1.bl h;replace X2:=X2.bl h;replace HB:=zh (Bt HB.out h);clear h;obtain ⟨aO,aN,aP⟩:=X1.clf;obtain ⟨dI,dH,dO⟩:=X2.clf;go_wp2_with fail
 clear aO aN aP dI dH dO;refine (tK _).mono ?_;rintro e u5 H;obtain ⟨h,⟨hk,rfl,HR2⟩|⟨hk,rfl⟩⟩:=aF H HM.out
 rotate_left
 ·exact ⟨rfl,Bt HB.out h,.inr ⟨hk,rfl⟩⟩
 clear H HM;subst hk;replace HR:=zh HR2;clear HR2;replace X1:=X1.bl h;replace X2:=X2.bl h;replace HB:=zh (Bt HB.out h);clear h;obtain ⟨aO,aN,aP⟩:=X1.clf;obtain ⟨dI,dH,dO⟩:=X2.clf;go_wp2_with fail
 clear aO aN aP dI dH dO;obtain ⟨hk,hv⟩:=HR.out;cases hk
 cases hv rfl
 have hr:=X2.out;have hb:=HB.out;refine dG rfl rfl aH Tryz.underlying32 rfl zk ?_;exact ⟨au,.inl ⟨rfl,rfl⟩⟩
end Go.Proofs.lab
