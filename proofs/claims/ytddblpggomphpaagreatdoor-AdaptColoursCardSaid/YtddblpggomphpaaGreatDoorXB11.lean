/- Lemmas for the proof. No condition. -/
import Derived.Test.YtddblpggomphpaaGreatDoorXB01
import Derived.Test.YtddblpggomphpaaGreatDoorXB02
import Derived.Test.YtddblpggomphpaaGreatDoorXB10
import Derived.Deep.Cut
set_option linter.unusedVariables false
set_option linter.unusedSimpArgs false
set_option maxRecDepth 100000
set_option maxHeartbeats 16000000
namespace Go.Proofs.aF
open Go Go.RowKit Go.SW Go.Num Go.Mem Go.Proofs Go.Dec
theorem OT {l:List Nat} {k:Nat} (hd:dI 10000 l) (ht:Top l) (h:∀ i,i<k→(txt l)[i]? =some 48) (hk:k<(txt l).length) (hne:(txt l)[k]? ≠some 48):(txt l).drop k=Lib.decDigits (val 10000 l):=by
 have hl:l≠[]:=fun e=>by subst e;cases hk
 have hp:=gJ (B:=10000) zo ht hl
 obtain ⟨m,hm⟩:=Fj hd ht hl
 have hkm:k=m:=by
  rcases Nat.lt_trichotomy k m with h1|h1|h1
  ·exfalso
   rw [hm,List.getElem?_append_left (by simpa using h1)] at hne
   simp [h1] at hne
  ·exact h1
  ·exfalso
   have h2:=h m h1
   rw [hm,List.getElem?_append_right zi] at h2
   simp only [List.length_replicate,Nat.sub_self] at h2
   have:=xw (n:=val 10000 l) (by rw [List.head?_eq_getElem?];exact h2)
   omega
 subst hkm
 rw [hm,List.drop_append_of_le_length zi,List.drop_of_length_le zi,List.nil_append]
theorem OW {l:List Nat} (hd:dI 10000 l) (ht:Top l) (h:∀ i,i<(txt l).length→(txt l)[i]? =some 48):val 10000 l=0:=by
 by_cases hl:l=[]
 ·subst hl;rfl
 ·exfalso
  have hp:=gJ (B:=10000) zo ht hl
  obtain ⟨m,hm⟩:=Fj hd ht hl
  have h2:=h m (by rw [hm,List.length_append,List.length_replicate];have:=zf (val 10000 l);omega)
  rw [hm,List.getElem?_append_right zi] at h2
  simp only [List.length_replicate,Nat.sub_self] at h2
  have:=xw (n:=val 10000 l) (by rw [List.head?_eq_getElem?];exact h2)
  omega
theorem ba_eq {a b:ByteArray} (h:a.data.toList=b.data.toList):a=b:=by
 cases a;cases b
 simp only at h
 rw [Array.toList_inj.1 h]
theorem wT (z:Int):Lib.itoa z=if z<0 then 45::Lib.decDigits z.natAbs else Lib.decDigits z.natAbs:=by
 unfold Lib.itoa
 by_cases h:z<0
 ·rw [if_pos h,if_pos h]
 ·rw [if_neg h,if_neg h,show z.toNat=z.natAbs by omega]
theorem rA (S:ByteArray) (k:Nat):(S.extract k S.size).data.toList=S.data.toList.drop k:=by
 have h:S.size=S.data.toList.length:=rfl
 rw [ByteArray.data_extract,Array.toList_extract]
 unfold List.extract
 rw [List.take_of_length_le (by rw [List.length_drop,h];exact Nat.le_refl _)]
theorem Oh (x:Value) (z:Int) (w:World) (hx:Pl w x z) (hs:sz 10000 z.natAbs≤1073741824) :
  Calls Tryz.prog 198 #[x] w (fun e w'=>e= .returned (.string ⟨(Lib.itoa z).toArray⟩)∧Below w.heap.size w w'):=by
 obtain ⟨bA,kV,lA,kX,rfl⟩:=hx.agg
 obtain ⟨hn,hbz⟩:=hx.nm
 obtain ⟨l,El⟩:∃ l,bQ 10000 z.natAbs=l:=⟨_,rfl⟩
 obtain ⟨pa',ca',e,k1,k2,k3⟩:=hn.read
 simp only [Value.slice.injEq] at e
 obtain ⟨rfl,rfl,rfl⟩:=e
 rw [El] at k3
 have hl:l.length=sz 10000 z.natAbs:=by rw [← El];rfl
 have hdl:dI 10000 l:=by rw [← El];exact aR zo _
 have htl:Top l:=by rw [← El];exact mJ zo _
 have hvl:val 10000 l=z.natAbs:=by rw [← El];exact aO zo _
 obtain ⟨L,EL⟩:∃ L,sz 10000 z.natAbs=L:=⟨_,rfl⟩
 rw [EL] at hl hs k1 k3 ⊢
 have h0:Below w.heap.size w (w.alloc (.cells #[.bool bA,.slice kV L kX] 150)):=aA
 have hbx:=aB.new w #[.bool bA,.slice kV L kX] 150
 obtain ⟨W,EW⟩:∃ y,w.alloc (.cells #[.bool bA,.slice kV L kX] 150)=y:=⟨_,rfl⟩
 rw [EW] at h0 hbx
 have k4:∀ k,k<L→∃ b off,kV=some ⟨b,off,none⟩∧b<W.heap.size∧W.cell? ⟨b,off+k,none⟩=some (.int .i64 (l.getD k 0:Nat)):=fun k hk=>by
  obtain ⟨b,off,e,h1,h2⟩:=k3 k hk
  exact ⟨b,off,e,Nat.lt_of_lt_of_le h1 h0.size,(h0.cell (by exact h1)).trans h2⟩
 have K4:=zh k4
 have HX:=zh hbx
 have HL:=zh hl
 have Cn:=zh hdl
 have HTL:=zh htl
 have HVL:=zh hvl
 have HBZ:=zh hbz
 have c0:=hbx.cell
 clear k3 k4 hbx hl hdl htl hvl hbz hn hx EL El
 go_enter Tryz.func198,Tryz.ntmps198
 go_wp2_with fail
 clear EW c0
 go_loopw [3,4] (fun sv iv wr=>∃ (q:Int) (S:ByteArray), -1≤q∧q<L∧iv= .int .i64 q∧sv= .string S∧Hid (S.data.toList=txt (l.drop (q+1).toNat))∧Hid (Below W.heap.size W wr)) (fun _ iv _=>(intOf iv+1).toNat)
 case atStart =>
  have e:((L:Int) - 1+1).toNat=l.length:=by have:=HL.out;omega
  exact ⟨(L:Int) - 1,⟨#[]⟩,by omega,by omega,rfl,rfl,zh (by rw [e,List.drop_length];rfl),zh (Below.refl _ _)⟩
 case round =>
  obtain ⟨q,S,hq1,hq2,rfl,rfl,HS,HB⟩:=hrel
  have hbx:=HX.out.later HB.out
  have c0:=hbx.cell
  by_cases hq:q<0
  ·have hq0:q= -1:=by omega
   subst hq0
   have hS:S.data.toList=txt l:=by have:=HS.out;simpa using this
   have HS2:=zh hS
   clear hS HS
   have hsz:S.size=4*L:=by
    have h1:S.size=S.data.toList.length:=rfl
    rw [h1,HS2.out,MR,HL.out]
   go_wp2_with fail
   go_loop [5] (fun kv=>∃ k:Nat,k≤S.size∧kv= .int .i64 k∧Hid (∀ i,i<k→S.data.toList[i]? =some 48)) (fun kv=>S.size - (intOf kv).toNat)
   case atStart=>exact ⟨0,Nat.zero_le _,rfl,zh fun i hi=>by cases hi⟩
   case round =>
    obtain ⟨k,hk,rfl,HK⟩:=hrel
    by_cases hks:k<S.size
    ·have hg:(txt l)[k]? =some S[k]:=by
      rw [← HS2.out]
      exact List.getElem?_eq_getElem (by exact hks)
     by_cases h48:S[k]=48
     ·have e:((S[k].toNat:Int) == 48)=true:=by rw [h48];rfl
      have HK1:Hid (∀ i,i<k+1→S.data.toList[i]? =some 48):=zh fun i hi=>by
       by_cases hik:i<k
       ·exact HK.out i hik
       ·obtain rfl:i=k:=by omega
        rw [HS2.out,hg,h48]
      clear hg h48
      go_wp2_with fail
      go_round
      case rel=>exact ⟨k+1,by omega,by go_num,HK1⟩
      case measure=>exact zM
     ·have e:((S[k].toNat:Int) == 48)=false:=by
       rw [beq_eq_false_iff_ne]
       intro h
       exact h48 (UInt8.toNat_inj.1 (by
        have:S[k].toNat=48:=by omega
        rw [this];rfl))
      have hdrop:=OT Cn.out HTL.out (fun i hi=>by rw [← HS2.out];exact HK.out i hi) (by rw [← HS2.out];exact hks) (by rw [hg];intro h;exact h48 (Option.some.inj h))
      have hT:(S.extract k (4*L)).data.toList=Lib.decDigits z.natAbs:=by
       rw [← hsz,rA,HS2.out,hdrop,HVL.out]
      have hE:(S.extract k (4*L)).toList.isEmpty=false:=by
       rw [ByteArray.toList_eq,hT]
       have:=zf z.natAbs
       cases h:Lib.decDigits z.natAbs with
       | nil=>rw [h] at this;cases this
       | cons a b=>rfl
      have HT:=zh hT
      clear hdrop hT hg h48 HK
      cases bA
      ·have hz:¬ z<0:=by have:=HBZ.out;intro h;rw [decide_eq_true h] at this;cases this
       have eS:S.extract k (4*L)=⟨(Lib.itoa z).toArray⟩:=ba_eq (by rw [HT.out,wT,if_neg hz])
       have ES:=zh eS
       clear eS hz
       go_wp2_with fail
       go_ret
       exact ⟨congrArg (fun s=>Ending.returned (.string s)) ES.out,Bt h0 HB.out⟩
      ·have hz:z<0:=of_decide_eq_true HBZ.out.symm
       have eS:(⟨#[45]⟩:ByteArray)++S.extract k (4*L)=⟨(Lib.itoa z).toArray⟩:=ba_eq (by
        rw [wT,if_pos hz,ByteArray.data_append,Array.toList_append,HT.out]
        rfl)
       have ES:=zh eS
       have hsm:¬ 9223372036854775807<1+(S.extract k (4*L)).size:=by
        have h1:(S.extract k (4*L)).size=(S.extract k (4*L)).data.toList.length:=rfl
        have h2:=HT.out
        rw [← hsz,rA] at h2
        have h3:(S.extract k (4*L)).data.toList.length≤S.data.toList.length:=by
         rw [← hsz,rA,List.length_drop]
         omega
        have h4:S.data.toList.length=S.size:=rfl
        omega
       clear eS hz
       go_wp2_with fail
       go_ret
       exact ⟨congrArg (fun s=>Ending.returned (.string s)) ES.out,Bt h0 HB.out⟩
    ·have hke:k=S.size:=by omega
     subst hke
     have hz0:z.natAbs=0:=by
      rw [← HVL.out]
      exact OW Cn.out HTL.out fun i hi=>by
       rw [← HS2.out] at hi ⊢
       exact HK.out i hi
     have hz:z=0:=by omega
     have EZ:Hid ((⟨#[48]⟩:ByteArray)=⟨(Lib.itoa z).toArray⟩):=zh (by rw [hz];exact ba_eq (by rw [wT];simp [gH]))
     clear hz hz0 HK
     go_wp2_with fail
     go_ret
     exact ⟨congrArg (fun s=>Ending.returned (.string s)) EZ.out,Bt h0 HB.out⟩
  ·obtain ⟨j,rfl⟩:=Int.eq_ofNat_of_zero_le (by omega:0≤q)
   have ej:((j:Int)+1).toNat=j+1:=by omega
   rw [ej] at HS
   obtain ⟨b,off,rfl,hb1,hc1⟩:=K4.out j zo
   have hcj:wr.cell? ⟨b,off+j,none⟩=some (.int .i64 (l.getD j 0:Nat)):=(HB.out.cell (by exact hb1)).trans hc1
   have hdj:=Cn.out.getD zo j
   have HST:Hid (txt (l.drop j)=S.data.toList++pad 4 (l.getD j 0)):=zh (by rw [HS.out];exact Q5 (by rw [HL.out];omega))
   have HSL:Hid (S.data.toList.length=4*(L - (j+1))):=zh (by rw [HS.out,MR,List.length_drop,HL.out])
   clear HS hc1
   generalize l.getD j 0=d at *
   have HF:=zh (WG d hdj)
   have hsum:¬ 9223372036854775807<S.size+(pad 4 d).length:=by
    have h1:S.size=S.data.toList.length:=rfl
    rw [ou,h1,HSL.out]
    omega
   go_wp2_with fail
   refine (HF.out _).mono ?_
   rintro e w1 ⟨rfl,hb⟩
   have HB1:=zh (Bt HB.out hb)
   clear hb hbx c0 hcj
   go_wp2_with fail
   go_roundw
   case rel =>
    have e1:((j:Int) - 1+1).toNat=j:=by omega
    exact ⟨(j:Int) - 1,S++⟨(pad 4 d).toArray⟩,by omega,by omega,rfl,rfl,zh (by rw [e1,HST.out];simp),HB1⟩
   case measure=>simp [intOf]
theorem LM (n:Nat):(Lib.decDigits n).length≤4*sz 10000 n+1:=by
 refine j5 _ _ zo ?_
 have h1:=gZ (B:=10000) zo n
 have h2:(10:Nat)^(4*sz 10000 n)=10000^sz 10000 n:=by rw [Nat.pow_mul]
 rw [Nat.pow_succ,h2]
 omega
def RG (z:Int):Value:=if dB.JY z.natAbs then .tuple #[sO z,.int .i64 0] else .tuple #[.string ⟨#[]⟩,.int .i64 6]
theorem wS (z:Int):(Lib.itoa z).length=(Lib.decDigits z.natAbs).length+(if z<0 then 1 else 0):=by
 rw [wT]
 by_cases h:z<0
 ·rw [if_pos h,if_pos h];rfl
 ·rw [if_neg h,if_neg h];rfl
theorem qm (x:Value) (z:Int) (w:World) (hx:Pl w x z) (hs:sz 10000 z.natAbs≤1073741824) :
  Calls Tryz.prog 162 #[x] w (fun e w'=>e= .returned (RG z)∧Below w.heap.size w w'):=by
 obtain ⟨bA,kV,lA,kX,rfl⟩:=hx.agg
 obtain ⟨hn,hbz⟩:=hx.nm
 have NA:=zh hx
 have hlen:=wS z
 have hok:=dB.fE (n:=z.natAbs)
 obtain ⟨S,ES⟩:∃ S:ByteArray,Hid (S=⟨(Lib.itoa z).toArray⟩):=⟨_,zh rfl⟩
 have hsz:S.size=(Lib.itoa z).length:=by rw [ES.out];simp [ByteArray.size]
 have hsb:(Lib.decDigits z.natAbs).length≤4294967297:=by
  have:=LM z.natAbs
  omega
 have HT:=zh (fun W (hb:Below w.heap.size w W)=>Oh _ z W (hx.later hb) hs)
 rw [← ES.out] at HT
 have hv:RG z=if (Lib.decDigits z.natAbs).length≤600 then .tuple #[.string S,.int .i64 0] else .tuple #[.string ⟨#[]⟩,.int .i64 6]:=by
  unfold RG
  rw [ES.out]
  by_cases h:(Lib.decDigits z.natAbs).length≤600
  ·rw [if_pos h,if_pos (hok.2 h)];rfl
  ·rw [if_neg h,if_neg (fun h'=>h (hok.1 h'))]
 rw [hv]
 obtain ⟨n,En⟩:∃ n,(Lib.decDigits z.natAbs).length=n:=⟨_,rfl⟩
 rw [En] at hlen hsb ⊢
 rw [hlen] at hsz
 have h0:Below w.heap.size w (w.alloc (.cells #[.bool bA,.slice kV lA kX] 150)):=aA
 have hbx:=aB.new w #[.bool bA,.slice kV lA kX] 150
 have pO:=zh hbx
 have HH0:=zh h0
 by_cases hz:z<0
 ·have hbt:bA=true:=by rw [hbz,decide_eq_true hz]
  subst hbt
  rw [if_pos hz] at hsz
  clear hz hlen hok hn hbz hv En hs hx NA h0 hbx
  by_cases hbig:n≤600
  ·rw [if_pos hbig]
   have e1:¬ (600:Int)<(n:Int)+1 - 1:=by omega
   go_enter Tryz.func162,Tryz.ntmps162
   go_wp2_with fail
   refine (HT.out _ HH0.out).mono ?_
   rintro e w1 ⟨rfl,hb⟩
   have c0:=(pO.out.later hb).cell
   go_wp2_with fail
   go_ret2
   exact ⟨rfl,Bt HH0.out hb⟩
  ·rw [if_neg hbig]
   have e1:(600:Int)<(n:Int)+1 - 1:=by omega
   go_enter Tryz.func162,Tryz.ntmps162
   go_wp2_with fail
   refine (HT.out _ HH0.out).mono ?_
   rintro e w1 ⟨rfl,hb⟩
   have c0:=(pO.out.later hb).cell
   go_wp2_with fail
   go_ret2
   exact ⟨rfl,Bt HH0.out hb⟩
 ·have hbt:bA=false:=by rw [hbz,decide_eq_false hz]
  subst hbt
  rw [if_neg hz,Nat.add_zero] at hsz
  clear hz hlen hok hn hbz hv En hs hx NA h0 hbx
  by_cases hbig:n≤600
  ·rw [if_pos hbig]
   have e1:¬ (600:Int)<(n:Int):=by omega
   go_enter Tryz.func162,Tryz.ntmps162
   go_wp2_with fail
   refine (HT.out _ HH0.out).mono ?_
   rintro e w1 ⟨rfl,hb⟩
   have c0:=(pO.out.later hb).cell
   go_wp2_with fail
   go_ret2
   exact ⟨rfl,Bt HH0.out hb⟩
  ·rw [if_neg hbig]
   have e1:(600:Int)<(n:Int):=by omega
   go_enter Tryz.func162,Tryz.ntmps162
   go_wp2_with fail
   refine (HT.out _ HH0.out).mono ?_
   rintro e w1 ⟨rfl,hb⟩
   have c0:=(pO.out.later hb).cell
   go_wp2_with fail
   go_ret2
   exact ⟨rfl,Bt HH0.out hb⟩
theorem K5 {d:List UInt8} {neg:Bool} (h:d.length<1∨600<d.length):dM d neg=false:=by
 unfold dM
 rcases h with h|h
 ·have:d=[]:=List.length_eq_zero_iff.1 zo
  subst this;rfl
 ·have:decide (d.length≤600)=false:=by simp;omega
  simp [this]
theorem FK {d:List UInt8} {neg:Bool} {b:UInt8} (h:b∈d) (hb:b.toNat<48∨57<b.toNat):dM d neg=false:=by
 cases hk:dM d neg with
 | false=>rfl
 | true=>have:=o7 hk b h;omega
theorem RP {d:List UInt8} {neg:Bool} (h1:1≤d.length) (h2:d.length≤600) (h:∀ b∈d,48≤b.toNat∧b.toNat≤57):dM d neg= !(d.head? == some 48&&(neg || decide (1<d.length))):=by
 unfold dM
 have e1:decide (d≠[])=true:=by simp;intro h;subst h;simp at h1
 have e2:d.all (fun b=>decide (48≤b.toNat)&&decide (b.toNat≤57))=true:=by
  rw [List.all_eq_true]
  intro b hb
  have:=h b hb
  simp [this.1,this.2]
 rw [e1,e2,decide_eq_true h2]
 simp
theorem J9 (bs:List UInt8):(whole bs).isSome=dM (cut bs).1 (cut bs).2:=by
 unfold whole
 cases dM (cut bs).1 (cut bs).2<;>rfl
theorem mV {s:ByteArray} {i f:Nat} (hf:f≤i) (hi:i<s.size):s[i]∈s.data.toList.drop f:=by
 have h:s.data.toList[i]? =some s[i]:=List.getElem?_eq_getElem (by exact hi)
 rw [List.mem_iff_getElem?]
 exact ⟨i - f,by rw [List.getElem?_drop,show f+(i - f)=i by omega];exact h⟩
theorem oK (s:ByteArray) (w:World) (hs:s.size≤4611686018427387904) :
  Calls Tryz.prog 196 #[.string s] w (fun e w'=>e= .returned (.bool (whole s.data.toList).isSome)∧w=w'):=by
 rw [J9]
 have hsz:s.data.toList.length=s.size:=rfl
 by_cases h0:s.size=0
 ·have e:s.data.toList=[]:=List.length_eq_zero_iff.1 (by rw [hsz,h0])
  rw [e,K5 (.inl (by unfold Dec.cut;simp))]
  have hs0:(s.size:Int)=0:=by omega
  clear hs hsz e
  go_enter Tryz.func196,Tryz.ntmps196
  go_wp2
  go_ret
  exact ⟨rfl,rfl⟩
 ·have hs0:0<s.size:=by omega
  have hd0:s.data.toList[0]? =some s[0]:=List.getElem?_eq_getElem (by exact hs0)
  have hhd:s.data.toList.head? =some s[0]:=by rw [List.head?_eq_getElem?];exact hd0
  obtain ⟨d,Ed⟩:∃ d,(Dec.cut s.data.toList).1=d:=⟨_,rfl⟩
  obtain ⟨ng,En⟩:∃ ng,(Dec.cut s.data.toList).2=ng:=⟨_,rfl⟩
  rw [Ed,En]
  by_cases h45:s[0]=45
  ·have hC:d=s.data.toList.drop 1∧ng=true:=by
    unfold Dec.cut at Ed En
    rw [if_pos (by rw [hhd,h45])] at Ed En
    exact ⟨by rw [← Ed,List.drop_one],En.symm⟩
   obtain ⟨hd,V7⟩:=hC
   subst V7
   have hq:((s[0].toNat:Int) == 45)=true:=by
    rw [h45];rfl
   have hdl:d.length=s.size - 1:=by rw [hd,List.length_drop,hsz]
   have HD:=zh hd
   clear hd Ed En hhd hd0 h45
   by_cases hbad:s.size - 1<1∨600<s.size - 1
   ·rw [K5 (by rw [hdl];exact hbad)]
    have hb1:(s.size:Int) - 1<1∨(600:Int)<(s.size:Int) - 1:=by omega
    clear hsz hdl
    rcases hb1 with hb1|hb1
    ·go_enter Tryz.func196,Tryz.ntmps196
     go_wp2
     all_goals (go_ret;exact ⟨rfl,rfl⟩)
    ·have hb2:¬ (s.size:Int) - 1<1:=by omega
     go_enter Tryz.func196,Tryz.ntmps196
     go_wp2
     go_ret
     exact ⟨rfl,rfl⟩
   ·have hb1:¬ (s.size:Int) - 1<1:=by omega
    have hb2:¬ (600:Int)<(s.size:Int) - 1:=by omega
    have Cn:=zh hdl
    obtain ⟨R,ER⟩:∃ R,Hid (dM d true=R):=⟨_,zh rfl⟩
    rw [ER.out]
    clear hsz hdl hbad
    go_enter Tryz.func196,Tryz.ntmps196
    go_wp2
    go_loop [5] (fun iv=>∃ i:Nat,1≤i∧i≤s.size∧iv= .int .i64 i∧Hid (∀ j (h:j<s.size),1≤j→j<i→48≤s[j].toNat∧s[j].toNat≤57)) (fun iv=>s.size - (intOf iv).toNat)
    case atStart=>exact ⟨1,Nat.le_refl _,by omega,rfl,zh fun j h h1 h2=>absurd h2 zo⟩
    case round =>
     obtain ⟨i,hi1,hi2,rfl,HK⟩:=hrel
     by_cases his:i<s.size
     ·by_cases hlo:s[i].toNat<48
      ·have q1:(s[i].toNat:Int)<48:=by omega
       have HR:Hid (R=false):=zh (by rw [← ER.out];exact FK (by rw [HD.out];exact mV hi1 his) (.inl hlo))
       clear hlo
       go_wp2
       go_ret
       exact ⟨by rw [HR.out];rfl,rfl⟩
      ·by_cases hhi:57<s[i].toNat
       ·have q1:¬ (s[i].toNat:Int)<48:=by omega
        have q2:(57:Int)<(s[i].toNat:Int):=by omega
        have HR:Hid (R=false):=zh (by rw [← ER.out];exact FK (by rw [HD.out];exact mV hi1 his) (.inr hhi))
        clear hlo hhi
        go_wp2
        go_ret
        exact ⟨by rw [HR.out];rfl,rfl⟩
       ·have q1:¬ (s[i].toNat:Int)<48:=by omega
        have q2:¬ (57:Int)<(s[i].toNat:Int):=by omega
        have HK2:Hid (∀ j (h:j<s.size),1≤j→j<i+1→48≤s[j].toNat∧s[j].toNat≤57):=zh fun j h h1 h2=>by
         by_cases hji:j<i
         ·exact HK.out j h h1 hji
         ·obtain rfl:j=i:=by omega
          omega
        clear hlo hhi
        go_wp2
        go_round
        case rel=>exact ⟨i+1,by omega,by omega,by go_num,HK2⟩
        case measure=>exact zM
     ·have hie:i=s.size:=by omega
      subst hie
      have hF:1<s.size:=by omega
      have hall:dM d true= !(d.head? == some 48&&(true || decide (1<d.length))):=RP (by rw [Cn.out];omega) (by rw [Cn.out];omega) fun b hb=>by
       rw [HD.out] at hb
       obtain ⟨j,hj,rfl⟩:=List.getElem_of_mem hb
       rw [List.length_drop] at hj
       have hj2:j+1<s.size:=by
        have:s.data.toList.length=s.size:=rfl
        omega
       have:=HK.out (j+1) hj2 zo zo
       rw [List.getElem_drop]
       have e:s.data.toList[1+j]'(by have:s.data.toList.length=s.size:=rfl;omega)=s[j+1]:=by
        simp only [Nat.add_comm 1 j]
        rfl
       rw [e]
       exact this
      have hh:d.head? =some s[1]:=by
       rw [HD.out,List.head?_eq_getElem?, List.getElem?_drop]
       exact List.getElem?_eq_getElem (by exact hF)
      rw [hh,Cn.out,ER.out] at hall
      clear hh HK
      by_cases h48:s[1]=48
      ·have q3:((s[1].toNat:Int) == 48)=true:=by rw [h48];rfl
       have q4:((s[1].toNat:Int) != 48)=false:=by rw [h48];rfl
       have q5:((s.size:Int) == 1)=false:=by simp;omega
       have HR:Hid (R=false):=zh (by rw [hall,h48];rfl)
       clear h48 hall
       go_wp2
       go_ret
       exact ⟨by rw [HR.out];rfl,rfl⟩
      ·have q3:((s[1].toNat:Int) == 48)=false:=by
        rw [beq_eq_false_iff_ne]
        intro h
        exact h48 (UInt8.toNat_inj.1 (by
         have:s[1].toNat=48:=by omega
         rw [this];rfl))
       have q4:((s[1].toNat:Int) != 48)=true:=by rw [bne,q3];rfl
       have q5:(some s[1] == some (48:UInt8))=false:=by
        rw [beq_eq_false_iff_ne]
        intro h
        exact h48 (Option.some.inj h)
       have HR:Hid (R=true):=zh (by rw [hall,q5];rfl)
       clear h48 q5 hall
       go_wp2
       go_ret
       exact ⟨by rw [HR.out];rfl,rfl⟩
  ·have hC:d=s.data.toList.drop 0∧ng=false:=by
    unfold Dec.cut at Ed En
    rw [if_neg (by rw [hhd];intro h;exact h45 (Option.some.inj h))] at Ed En
    exact ⟨by rw [← Ed];rfl,En.symm⟩
   obtain ⟨hd,V7⟩:=hC
   subst V7
   have hq:((s[0].toNat:Int) == 45)=false:=by
    rw [beq_eq_false_iff_ne]
    intro h
    exact h45 (UInt8.toNat_inj.1 (by
     have:s[0].toNat=45:=by omega
     rw [this];rfl))
   have hdl:d.length=s.size - 0:=by rw [hd,List.length_drop,hsz]
   have HD:=zh hd
   clear hd Ed En hhd hd0 h45
   by_cases hbad:s.size - 0<1∨600<s.size - 0
   ·rw [K5 (by rw [hdl];exact hbad)]
    have hb1:(s.size:Int) - 0<1∨(600:Int)<(s.size:Int) - 0:=by omega
    clear hsz hdl
    rcases hb1 with hb1|hb1
    ·go_enter Tryz.func196,Tryz.ntmps196
     go_wp2
     all_goals (go_ret;exact ⟨rfl,rfl⟩)
    ·have hb2:¬ (s.size:Int) - 0<1:=by omega
     go_enter Tryz.func196,Tryz.ntmps196
     go_wp2
     go_ret
     exact ⟨rfl,rfl⟩
   ·have hb1:¬ (s.size:Int) - 0<1:=by omega
    have hb2:¬ (600:Int)<(s.size:Int) - 0:=by omega
    have Cn:=zh hdl
    obtain ⟨R,ER⟩:∃ R,Hid (dM d false=R):=⟨_,zh rfl⟩
    rw [ER.out]
    clear hsz hdl hbad
    go_enter Tryz.func196,Tryz.ntmps196
    go_wp2
    go_loop [5] (fun iv=>∃ i:Nat,0≤i∧i≤s.size∧iv= .int .i64 i∧Hid (∀ j (h:j<s.size),0≤j→j<i→48≤s[j].toNat∧s[j].toNat≤57)) (fun iv=>s.size - (intOf iv).toNat)
    case atStart=>exact ⟨0,Nat.le_refl _,by omega,rfl,zh fun j h h1 h2=>absurd h2 zo⟩
    case round =>
     obtain ⟨i,hi1,hi2,rfl,HK⟩:=hrel
     by_cases his:i<s.size
     ·by_cases hlo:s[i].toNat<48
      ·have q1:(s[i].toNat:Int)<48:=by omega
       have HR:Hid (R=false):=zh (by rw [← ER.out];exact FK (by rw [HD.out];exact mV hi1 his) (.inl hlo))
       clear hlo
       go_wp2
       go_ret
       exact ⟨by rw [HR.out];rfl,rfl⟩
      ·by_cases hhi:57<s[i].toNat
       ·have q1:¬ (s[i].toNat:Int)<48:=by omega
        have q2:(57:Int)<(s[i].toNat:Int):=by omega
        have HR:Hid (R=false):=zh (by rw [← ER.out];exact FK (by rw [HD.out];exact mV hi1 his) (.inr hhi))
        clear hlo hhi
        go_wp2
        go_ret
        exact ⟨by rw [HR.out];rfl,rfl⟩
       ·have q1:¬ (s[i].toNat:Int)<48:=by omega
        have q2:¬ (57:Int)<(s[i].toNat:Int):=by omega
        have HK2:Hid (∀ j (h:j<s.size),0≤j→j<i+1→48≤s[j].toNat∧s[j].toNat≤57):=zh fun j h h1 h2=>by
         by_cases hji:j<i
         ·exact HK.out j h h1 hji
         ·obtain rfl:j=i:=by omega
          omega
        clear hlo hhi
        go_wp2
        go_round
        case rel=>exact ⟨i+1,by omega,by omega,by go_num,HK2⟩
        case measure=>exact zM
     ·have hie:i=s.size:=by omega
      subst hie
      have hF:0<s.size:=by omega
      have hall:dM d false= !(d.head? == some 48&&(false || decide (1<d.length))):=RP (by rw [Cn.out];omega) (by rw [Cn.out];omega) fun b hb=>by
       rw [HD.out] at hb
       obtain ⟨j,hj,rfl⟩:=List.getElem_of_mem hb
       rw [List.length_drop] at hj
       have hj2:j+0<s.size:=by
        have:s.data.toList.length=s.size:=rfl
        omega
       have:=HK.out (j+0) hj2 zo zo
       rw [List.getElem_drop]
       have e:s.data.toList[0+j]'(by have:s.data.toList.length=s.size:=rfl;omega)=s[j+0]:=by
        simp only [Nat.add_comm 0 j]
        rfl
       rw [e]
       exact this
      have hh:d.head? =some s[0]:=by
       rw [HD.out,List.head?_eq_getElem?, List.getElem?_drop]
       exact List.getElem?_eq_getElem (by exact hF)
      rw [hh,Cn.out,ER.out] at hall
      clear hh HK
      by_cases h48:s[0]=48
      ·have q3:((s[0].toNat:Int) == 48)=true:=by rw [h48];rfl
       have q4:((s[0].toNat:Int) != 48)=false:=by rw [h48];rfl
       by_cases h1:s.size=1
       ·have q5:((s.size:Int) == 1)=true:=by simp;omega
        have HR:Hid (R=true):=zh (by rw [hall,h48,h1];rfl)
        clear h48 hall
        go_wp2
        go_ret
        exact ⟨by rw [HR.out];rfl,rfl⟩
       ·have q5:((s.size:Int) == 1)=false:=by simp;omega
        have q6:decide (1<s.size - 0)=true:=by simp;omega
        have HR:Hid (R=false):=zh (by rw [hall,h48,q6];rfl)
        clear h48 q6 hall
        go_wp2
        go_ret
        exact ⟨by rw [HR.out];rfl,rfl⟩
      ·have q3:((s[0].toNat:Int) == 48)=false:=by
        rw [beq_eq_false_iff_ne]
        intro h
        exact h48 (UInt8.toNat_inj.1 (by
         have:s[0].toNat=48:=by omega
         rw [this];rfl))
       have q4:((s[0].toNat:Int) != 48)=true:=by rw [bne,q3];rfl
       have q5:(some s[0] == some (48:UInt8))=false:=by
        rw [beq_eq_false_iff_ne]
        intro h
        exact h48 (Option.some.inj h)
       have HR:Hid (R=true):=zh (by rw [hall,q5];rfl)
       clear h48 q5 hall
       go_wp2
       go_ret
       exact ⟨by rw [HR.out];rfl,rfl⟩
theorem kr {bs:List UInt8} {f:Nat} (hd:qN (bs.drop f)) {st i:Nat} (hf:f≤st) (h4:i - st≤4):num ((bs.take i).drop st)<10000:=by
 have h1:=RY ((bs.take i).drop st) (fun b hb=>by
  refine hd b ?_
  have h:b∈(bs.take i).drop f:=by
   obtain ⟨j,hj,rfl⟩:=List.getElem_of_mem hb
   rw [List.getElem_drop]
   have:(bs.take i).drop st=((bs.take i).drop f).drop (st - f):=by rw [List.drop_drop,show f+(st - f)=st by omega]
   rw [List.mem_iff_getElem?]
   refine ⟨st - f+j,?_⟩
   rw [List.getElem?_drop,show f+(st - f+j)=st+j by omega]
   exact List.getElem?_eq_getElem _
  rw [List.drop_take] at h
  exact List.mem_of_mem_take h)
 have h2:(10:Nat)^((bs.take i).drop st).length≤10^4:=Nat.pow_le_pow_right zo (by rw [List.length_drop,List.length_take];omega)
 omega
theorem nN {bs:List UInt8} {st i:Nat} {x:UInt8} (hst:st≤i) (hb:48≤x.toNat∧x.toNat≤57) (hx:bs[i]? =some x) :
  ((num ((bs.take i).drop st):Nat):Int)*10+((x.toNat:Int) - 48)=(num ((bs.take (i+1)).drop st):Nat):=by
 rw [su hst hx,ow]
 omega
theorem tZ (s:ByteArray) (z:Int) (w:World) (hz:whole s.data.toList=some z) :
  Calls Tryz.prog 197 #[.string s] w (Gz w z):=by
 obtain ⟨i0,hi,hz0,hz1,hz2⟩:=info_parts o8
 obtain ⟨bs,hbs⟩:∃ bs,s.data.toList=bs:=⟨_,rfl⟩
 rw [hbs] at hz
 have hn:bs.length=s.size:=by rw [← hbs];rfl
 have hok:dM (Dec.cut bs).1 (Dec.cut bs).2=true:=by
  unfold whole at hz
  split at hz
  ·assumption
  ·cases hz
 have hzz:Dec.mk (num (Dec.cut bs).1) (Dec.cut bs).2=z:=by
  unfold whole at hz
  rw [if_pos hok] at hz
  exact Option.some.inj hz
 have hsz:s.size≤601:=by
  have h1:(Dec.cut bs).1.length≤600:=by
   unfold dM at hok
   simp only [Bool.and_eq_true,decide_eq_true_eq] at hok
   exact hok.1.1.2
  have h2:bs.length≤(Dec.cut bs).1.length+1:=by
   unfold Dec.cut
   split
   ·simp;omega
   ·simp
  omega
 have hs0:0<s.size:=by
  rcases Nat.eq_zero_or_pos s.size with h|h
  ·have:bs=[]:=List.length_eq_zero_iff.1 zo
   subst this
   exact absurd hok (by simp [Dec.cut,dM])
  ·exact h
 have hhd:bs.head? =some s[0]:=by
  rw [List.head?_eq_getElem?, ← hbs]
  exact List.getElem?_eq_getElem (by exact hs0)
 obtain ⟨d,Ed⟩:∃ d,(Dec.cut bs).1=d:=⟨_,rfl⟩
 obtain ⟨ng,En⟩:∃ ng,(Dec.cut bs).2=ng:=⟨_,rfl⟩
 rw [Ed,En] at hok hzz
 have HZ:Hid (je (num d) ng=z):=zh hzz
 have hC:(d=bs.drop 1∧ng=true)∨(d=bs.drop 0∧ng=false):=by
  unfold Dec.cut at Ed En
  by_cases h:bs.head? =some 45
  ·rw [if_pos h] at Ed En
   exact .inl ⟨by rw [← Ed,List.drop_one],En.symm⟩
  ·rw [if_neg h] at Ed En
   exact .inr ⟨by rw [← Ed];rfl,En.symm⟩
 have h45:(ng=true→s[0]=45)∧(s[0]=45→ng=true):=by
  unfold Dec.cut at En
  constructor
  ·intro h
   by_cases h':bs.head? =some 45
   ·rw [hhd] at h';exact Option.some.inj h'
   ·rw [if_neg h'] at En;rw [← En] at h;cases h
  ·intro h
   rw [if_pos (by rw [hhd,h])] at En
   exact En.symm
 have h0:Below w.heap.size w (w.alloc (.cells #[.bool false,.slice none 0 0] 150)):=aA
 have hx:=aB.new w #[.bool false,.slice none 0 0] 150
 have Ow:=zh hbs
 have HN:=zh hn
 clear hz hzz hhd Ed En hbs hn
 rcases hC with hC|hC
 ·obtain ⟨hd,V7⟩:=hC
  subst V7
  have HD:=zh hd
  have hds:qN (bs.drop 1):=by rw [← hd];exact o7 hok
  have hle:1<s.size:=by
   have h1:d≠[]:=fun e=>by rw [e] at hok;exact absurd hok (by simp [dM])
   have h2:0<d.length:=List.length_pos_iff.2 h1
   rw [hd,List.length_drop,HN.out] at h2
   omega
  have hq:((s[0].toNat:Int) == 45)=true:=by
   have:s[0]=45:=by have:=h45.1 rfl;exact this
   rw [this];rfl
  have G8:=zh hds
  clear hd hds hok h45
  go_enter Tryz.func197,Tryz.ntmps197
  go_wp2_with fail
  go_loopw [4,5,6,7] (fun dv ev _ _ wr=>∃ (q:Int) (ls:List Nat),ev= .int .i64 q∧ -4≤q∧q≤s.size∧Hid ((1:Int)<q→(s.size:Int) - q=4*ls.length)∧Hid (ls.length≤s.size)∧Hid (dI 10000 ls)∧Hid (val 10000 ls=num (bs.drop (max q 1).toNat))∧wr.ownsRow (w.heap.size+1) 3 1 dv ls.length (ints ls) ∧
    Below (w.heap.size+1) (w.alloc (.cells #[.bool false,.slice none 0 0] 150)) wr) (fun _ ev _ _ _=>(intOf ev+4).toNat)
  case atStart=>exact ⟨s.size,[],rfl,by omega,by omega,zh (by intro h;simp),zh zi,zh dI.nil,zh (by rw [show (max (s.size:Int) 1).toNat=bs.length by rw [HN.out];omega,List.drop_length];simp [val,num]),World.ownsRow_nil _ _ _ _,Below.refl _ _⟩
  case round =>
   obtain ⟨q,ls,rfl,hq4,hqs,HE,HLL,Cn,HV,hown,hb⟩:=hrel
   by_cases hqf:q≤1
   ·have hv:val 10000 ls=num (bs.drop 1):=by rw [HV.out,show (max q 1).toNat=1 by omega]
    have hz:je (val 10000 ls) true=z:=by rw [hv,← HD.out];exact HZ.out
    have h1:Below w.heap.size w wr:=⟨hb.os,hb.tape,hb.output,Nat.le_trans zi hb.size,fun i hi=>(hb.block i zo).trans (h0.block i hi)⟩
    have qP:=hx.later (w':=wr) ⟨hb.os,hb.tape,hb.output,by have:=hb.size;simpa using this,fun i hi=>hb.block i (by simpa using hi)⟩
    have cx:=qP.cell
    have fx:=qP.free
    have hg:=uD true u4 ls wr (Gs.dR hown) Cn.out
    rw [hz] at hg
    have HG:=zh hg
    obtain ⟨pa,ca,rfl, -⟩:=(Gs.dR hown).read
    clear hv hz hg hown HE HV hb
    go_wp2_with fail
    refine HG.out.mono ?_
    rintro e w' ⟨v',rfl,hb,hv⟩
    obtain ⟨bNV,Y3,lNV,af8,rfl⟩:=hv.agg;have NV:=zh hv;clear hv
    have hy:=qP.later hb
    clear cx fx
    have cy:=hy.cell
    have fy:=hy.free
    go_wp2_with fail
    refine bP rfl rfl aL Tryz.underlying150 rfl zk ?_
    exact ⟨_,rfl,aA,NV.out.set2 hy zd _ _ _ _⟩
   ·obtain ⟨e,rfl⟩:∃ e:Nat,q=(e:Int):=⟨q.toNat,by omega⟩
    have hef:1<e:=by omega
    have aF1:(1:Int)<(e:Int):=by omega
    rcases Int.lt_or_le ((e:Int) - 4) 1 with h4|h4
    ·have hst':(e:Int) - 4<1:=by omega
     have Li:max ((e:Int) - 4) 1=1:=by omega
     have hgl:=kr (bs:=bs) (f:=1) G8.out (Nat.le_refl _) (i:=e) zo
     have HE2:Hid ((s.size:Int) - e=4*ls.length):=zh (HE.out zo)
     clear HE
     go_wp2_with fail
     obtain ⟨wo,rfl⟩:∃ wo:World,wo=wr:=⟨_,rfl⟩
     go_loopw [6,7] (fun v6 v7 wi=>∃ i:Nat,v7= .int .i64 (i:Int)∧1≤i∧i≤e∧Hid (v6= .int .i64 (num ((bs.take i).drop 1):Nat))∧wo=wi) (fun _ v7 _=>e - (intOf v7).toNat)
     case atStart=>exact ⟨1,rfl,Nat.le_refl _,by omega,zh (by rw [List.drop_eq_nil_of_le (by rw [List.length_take];omega)];rfl),rfl⟩
     case round =>
      obtain ⟨i,rfl,hi1,hi2,H6,rfl⟩:=hrel
      have e6:=H6.out
      subst e6
      rcases Nat.lt_or_ge i e with hie|hie
      ·have his:i<s.size:=by omega
       have hx2:bs[i]? =some s[i]:=by rw [← Ow.out];exact List.getElem?_eq_getElem (by exact his)
       have hdi:=G8.out s[i] (by rw [← Ow.out];exact mV zo his)
       have HS:=zh (nN (bs:=bs) (st:=1) (x:=s[i]) hi1 hdi hx2)
       have hgb:=kr (bs:=bs) (f:=1) G8.out (Nat.le_refl _) (i:=i) zo
       generalize num ((bs.take i).drop 1)=g at *
       go_wp2_with fail
       exact ⟨⟨i+1,rfl,by omega,by omega,zh (by rw [← HS.out]),trivial⟩,by simp only [intOf];omega⟩
      ·have hie:i=e:=by omega
       subst hie
       have HG:=zh (nU (bs:=bs) (s:=1) (e:=i) zo (by have:=HN.out;omega))
       have hlen:bs.length - i=4*ls.length:=by have:=HE2.out;have:=HN.out;omega
       have hmx:(max (i:Int) 1).toNat=i:=by omega
       have hv0:=HV.out
       rw [hmx] at hv0
       rw [hlen,Nat.pow_mul,← hv0] at HG
       generalize num ((bs.take i).drop 1)=gv at *
       have hll:ls.length+1≤s.size:=by have:=HE2.out;omega
       have ec:ints ls++[.int .i64 (gv:Int)]=ints (ls++[gv]):=by unfold ints;simp only [List.map_append,List.map_cons,List.map_nil]
       have EC:=zh ec
       clear H6 ec
       go_wp2_with (at_builtin;refine wpList_append_own _ rfl (.tmp 35) (.tmp 37) 148 rfl (w.heap.size+1) 3 i0 (.int .i64 0) 1 8 Tryz.underlying148 hi hz0 hz1 hz2 rfl zd _ _ _ rfl (hown.alloc _) ⟨wo.heap.size,0,none⟩ 1 1 [.int .i64 (gv:Int)] rfl rfl (by intro t u ht;match t,ht with|0,ht=>simp at ht;subst ht;simp [Addr.add]) (by intro u hu;simp at hu;subst hu;rfl) (by unfold maxLen;omega) zo (by have:=hb.size;simp at*; omega) ?_)
       intro v' w1 hown1 hgrow1 _
       rw [EC.out] at hown1
       have hb3:Below (w.heap.size+1) (w.alloc (.cells #[.bool false,.slice none 0 0] 150)) w1:=(hb.alloc (by have:=hb.size;simpa using this) _).grown hgrow1 (by simp;have:=hb.size;simp at*; omega) (fun k hk=>(hown.lt k hk).1)
       have zx:Hid (val 10000 (ls++[gv])=num (bs.drop (max ((i:Int) - 4) 1).toNat)):=by
        unfold Hid
        rw [show (max ((i:Int) - 4) 1).toNat=1 by omega,iw,HG.out,Nat.add_comm,Nat.mul_comm]
       clear hown hgrow1 hst' Li
       go_wp2_with fail
       refine ⟨⟨(i:Int) - 4,ls++[gv],rfl,by omega,by omega,zh (fun h=>?_),zh (by rw [List.length_append];exact hll),zh (Cn.out.snoc hgl),zx,by rw [List.length_append];exact hown1,hb3⟩,?_⟩
       ·have:=HE2.out
        rw [List.length_append,List.length_singleton]
        omega
       ·simp only [intOf]
        omega
    ·obtain ⟨f,rfl⟩:∃ f,e=f+4:=⟨e - 4,by omega⟩
     have s1:1≤f:=by omega
     have hst':¬ (f:Int)<1:=by omega
     have Li:max (f:Int) 1=(f:Int):=by omega
     have hgl:=kr (bs:=bs) (f:=1) G8.out s1 (i:=f+4) zo
     have HE2:Hid ((s.size:Int) - ((f+4:Nat):Int)=4*ls.length):=zh (HE.out zo)
     clear HE
     go_wp2_with fail
     obtain ⟨wo,rfl⟩:∃ wo:World,wo=wr:=⟨_,rfl⟩
     go_loopw [6,7] (fun v6 v7 wi=>∃ i:Nat,v7= .int .i64 (i:Int)∧f≤i∧i≤f+4∧Hid (v6= .int .i64 (num ((bs.take i).drop f):Nat))∧wo=wi) (fun _ v7 _=>f+4 - (intOf v7).toNat)
     case atStart=>exact ⟨f,rfl,Nat.le_refl _,by omega,zh (by rw [List.drop_eq_nil_of_le (by rw [List.length_take];omega)];rfl),rfl⟩
     case round =>
      obtain ⟨i,rfl,hi1,hi2,H6,rfl⟩:=hrel
      have e6:=H6.out
      subst e6
      rcases Nat.lt_or_ge i (f+4) with hie|hie
      ·have his:i<s.size:=by omega
       have hx2:bs[i]? =some s[i]:=by rw [← Ow.out];exact List.getElem?_eq_getElem (by exact his)
       have hdi:=G8.out s[i] (by rw [← Ow.out];exact mV zo his)
       have HS:=zh (nN (bs:=bs) (st:=f) (x:=s[i]) hi1 hdi hx2)
       have hgb:=kr (bs:=bs) (f:=1) G8.out s1 (i:=i) zo
       generalize num ((bs.take i).drop f)=g at *
       go_wp2_with fail
       exact ⟨⟨i+1,rfl,by omega,by omega,zh (by rw [← HS.out]),trivial⟩,by simp only [intOf];omega⟩
      ·obtain rfl:i=f+4:=by omega
       have HG:=zh (nU (bs:=bs) (s:=f) (e:=f+4) zo (by have:=HN.out;omega))
       have hlen:bs.length - (f+4)=4*ls.length:=by have:=HE2.out;have:=HN.out;omega
       have hmx:(max ((f+4:Nat):Int) 1).toNat=f+4:=by omega
       have hv0:=HV.out
       rw [hmx] at hv0
       rw [hlen,Nat.pow_mul,← hv0] at HG
       generalize num ((bs.take (f+4)).drop f)=gv at *
       have hll:ls.length+1≤s.size:=by have:=HE2.out;omega
       have ec:ints ls++[.int .i64 (gv:Int)]=ints (ls++[gv]):=by unfold ints;simp only [List.map_append,List.map_cons,List.map_nil]
       have EC:=zh ec
       clear H6 ec
       go_wp2_with (at_builtin;refine wpList_append_own _ rfl (.tmp 35) (.tmp 37) 148 rfl (w.heap.size+1) 3 i0 (.int .i64 0) 1 8 Tryz.underlying148 hi hz0 hz1 hz2 rfl zd _ _ _ rfl (hown.alloc _) ⟨wo.heap.size,0,none⟩ 1 1 [.int .i64 (gv:Int)] rfl rfl (by intro t u ht;match t,ht with|0,ht=>simp at ht;subst ht;simp [Addr.add]) (by intro u hu;simp at hu;subst hu;rfl) (by unfold maxLen;omega) zo (by have:=hb.size;simp at*; omega) ?_)
       intro v' w1 hown1 hgrow1 _
       rw [EC.out] at hown1
       have hb3:Below (w.heap.size+1) (w.alloc (.cells #[.bool false,.slice none 0 0] 150)) w1:=(hb.alloc (by have:=hb.size;simpa using this) _).grown hgrow1 (by simp;have:=hb.size;simp at*; omega) (fun k hk=>(hown.lt k hk).1)
       have zx:Hid (val 10000 (ls++[gv])=num (bs.drop (max (f:Int) 1).toNat)):=by
        unfold Hid
        rw [show (max (f:Int) 1).toNat=f by omega,iw,HG.out,Nat.add_comm,Nat.mul_comm]
       clear hown hgrow1 hst' Li
       go_wp2_with fail
       refine ⟨⟨(f:Int),ls++[gv],rfl,by omega,by omega,zh (fun h=>?_),zh (by rw [List.length_append];exact hll),zh (Cn.out.snoc hgl),zx,by rw [List.length_append];exact hown1,hb3⟩,?_⟩
       ·have:=HE2.out
        rw [List.length_append,List.length_singleton]
        omega
       ·simp only [intOf]
        omega
 ·obtain ⟨hd,V7⟩:=hC
  subst V7
  have HD:=zh hd
  have hds:qN (bs.drop 0):=by rw [← hd];exact o7 hok
  have hle:0<s.size:=by
   have h1:d≠[]:=fun e=>by rw [e] at hok;exact absurd hok (by simp [dM])
   have h2:0<d.length:=List.length_pos_iff.2 h1
   rw [hd,List.length_drop,HN.out] at h2
   omega
  have hq:((s[0].toNat:Int) == 45)=false:=by
   have h:s[0]≠45:=fun e=>by have:=h45.2 e;cases this
   rw [beq_eq_false_iff_ne]
   intro h2
   exact h (UInt8.toNat_inj.1 (by
    have:s[0].toNat=45:=by omega
    rw [this];rfl))
  have G8:=zh hds
  clear hd hds hok h45
  go_enter Tryz.func197,Tryz.ntmps197
  go_wp2_with fail
  go_loopw [4,5,6,7] (fun dv ev _ _ wr=>∃ (q:Int) (ls:List Nat),ev= .int .i64 q∧ -4≤q∧q≤s.size∧Hid ((0:Int)<q→(s.size:Int) - q=4*ls.length)∧Hid (ls.length≤s.size)∧Hid (dI 10000 ls)∧Hid (val 10000 ls=num (bs.drop (max q 0).toNat))∧wr.ownsRow (w.heap.size+1) 3 1 dv ls.length (ints ls) ∧
    Below (w.heap.size+1) (w.alloc (.cells #[.bool false,.slice none 0 0] 150)) wr) (fun _ ev _ _ _=>(intOf ev+4).toNat)
  case atStart=>exact ⟨s.size,[],rfl,by omega,by omega,zh (by intro h;simp),zh zi,zh dI.nil,zh (by rw [show (max (s.size:Int) 0).toNat=bs.length by rw [HN.out];omega,List.drop_length];simp [val,num]),World.ownsRow_nil _ _ _ _,Below.refl _ _⟩
  case round =>
   obtain ⟨q,ls,rfl,hq4,hqs,HE,HLL,Cn,HV,hown,hb⟩:=hrel
   by_cases hqf:q≤0
   ·have hv:val 10000 ls=num (bs.drop 0):=by rw [HV.out,show (max q 0).toNat=0 by omega]
    have hz:je (val 10000 ls) false=z:=by rw [hv,← HD.out];exact HZ.out
    have h1:Below w.heap.size w wr:=⟨hb.os,hb.tape,hb.output,Nat.le_trans zi hb.size,fun i hi=>(hb.block i zo).trans (h0.block i hi)⟩
    have qP:=hx.later (w':=wr) ⟨hb.os,hb.tape,hb.output,by have:=hb.size;simpa using this,fun i hi=>hb.block i (by simpa using hi)⟩
    have cx:=qP.cell
    have fx:=qP.free
    have hg:=uD false u4 ls wr (Gs.dR hown) Cn.out
    rw [hz] at hg
    have HG:=zh hg
    obtain ⟨pa,ca,rfl, -⟩:=(Gs.dR hown).read
    clear hv hz hg hown HE HV hb
    go_wp2_with fail
    refine HG.out.mono ?_
    rintro e w' ⟨v',rfl,hb,hv⟩
    obtain ⟨bNV,Y3,lNV,af8,rfl⟩:=hv.agg;have NV:=zh hv;clear hv
    have hy:=qP.later hb
    clear cx fx
    have cy:=hy.cell
    have fy:=hy.free
    go_wp2_with fail
    refine bP rfl rfl aL Tryz.underlying150 rfl zk ?_
    exact ⟨_,rfl,aA,NV.out.set2 hy zd _ _ _ _⟩
   ·obtain ⟨e,rfl⟩:∃ e:Nat,q=(e:Int):=⟨q.toNat,by omega⟩
    have hef:0<e:=by omega
    have aF1:(0:Int)<(e:Int):=by omega
    rcases Int.lt_or_le ((e:Int) - 4) 0 with h4|h4
    ·have hst':(e:Int) - 4<0:=by omega
     have Li:max ((e:Int) - 4) 0=0:=by omega
     have hgl:=kr (bs:=bs) (f:=0) G8.out (Nat.le_refl _) (i:=e) zo
     have HE2:Hid ((s.size:Int) - e=4*ls.length):=zh (HE.out zo)
     clear HE
     go_wp2_with fail
     obtain ⟨wo,rfl⟩:∃ wo:World,wo=wr:=⟨_,rfl⟩
     go_loopw [6,7] (fun v6 v7 wi=>∃ i:Nat,v7= .int .i64 (i:Int)∧0≤i∧i≤e∧Hid (v6= .int .i64 (num ((bs.take i).drop 0):Nat))∧wo=wi) (fun _ v7 _=>e - (intOf v7).toNat)
     case atStart=>exact ⟨0,rfl,Nat.le_refl _,by omega,zh (by rw [List.drop_eq_nil_of_le (by rw [List.length_take];omega)];rfl),rfl⟩
     case round =>
      obtain ⟨i,rfl,hi1,hi2,H6,rfl⟩:=hrel
      have e6:=H6.out
      subst e6
      rcases Nat.lt_or_ge i e with hie|hie
      ·have his:i<s.size:=by omega
       have hx2:bs[i]? =some s[i]:=by rw [← Ow.out];exact List.getElem?_eq_getElem (by exact his)
       have hdi:=G8.out s[i] (by rw [← Ow.out];exact mV zo his)
       have HS:=zh (nN (bs:=bs) (st:=0) (x:=s[i]) hi1 hdi hx2)
       have hgb:=kr (bs:=bs) (f:=0) G8.out (Nat.le_refl _) (i:=i) zo
       generalize num ((bs.take i).drop 0)=g at *
       go_wp2_with fail
       exact ⟨⟨i+1,rfl,by omega,by omega,zh (by rw [← HS.out]),trivial⟩,by simp only [intOf];omega⟩
      ·have hie:i=e:=by omega
       subst hie
       have HG:=zh (nU (bs:=bs) (s:=0) (e:=i) zo (by have:=HN.out;omega))
       have hlen:bs.length - i=4*ls.length:=by have:=HE2.out;have:=HN.out;omega
       have hmx:(max (i:Int) 0).toNat=i:=by omega
       have hv0:=HV.out
       rw [hmx] at hv0
       rw [hlen,Nat.pow_mul,← hv0] at HG
       generalize num ((bs.take i).drop 0)=gv at *
       have hll:ls.length+1≤s.size:=by have:=HE2.out;omega
       have ec:ints ls++[.int .i64 (gv:Int)]=ints (ls++[gv]):=by unfold ints;simp only [List.map_append,List.map_cons,List.map_nil]
       have EC:=zh ec
       clear H6 ec
       go_wp2_with (at_builtin;refine wpList_append_own _ rfl (.tmp 35) (.tmp 37) 148 rfl (w.heap.size+1) 3 i0 (.int .i64 0) 1 8 Tryz.underlying148 hi hz0 hz1 hz2 rfl zd _ _ _ rfl (hown.alloc _) ⟨wo.heap.size,0,none⟩ 1 1 [.int .i64 (gv:Int)] rfl rfl (by intro t u ht;match t,ht with|0,ht=>simp at ht;subst ht;simp [Addr.add]) (by intro u hu;simp at hu;subst hu;rfl) (by unfold maxLen;omega) zo (by have:=hb.size;simp at*; omega) ?_)
       intro v' w1 hown1 hgrow1 _
       rw [EC.out] at hown1
       have hb3:Below (w.heap.size+1) (w.alloc (.cells #[.bool false,.slice none 0 0] 150)) w1:=(hb.alloc (by have:=hb.size;simpa using this) _).grown hgrow1 (by simp;have:=hb.size;simp at*; omega) (fun k hk=>(hown.lt k hk).1)
       have zx:Hid (val 10000 (ls++[gv])=num (bs.drop (max ((i:Int) - 4) 0).toNat)):=by
        unfold Hid
        rw [show (max ((i:Int) - 4) 0).toNat=0 by omega,iw,HG.out,Nat.add_comm,Nat.mul_comm]
       clear hown hgrow1 hst' Li
       go_wp2_with fail
       refine ⟨⟨(i:Int) - 4,ls++[gv],rfl,by omega,by omega,zh (fun h=>?_),zh (by rw [List.length_append];exact hll),zh (Cn.out.snoc hgl),zx,by rw [List.length_append];exact hown1,hb3⟩,?_⟩
       ·have:=HE2.out
        rw [List.length_append,List.length_singleton]
        omega
       ·simp only [intOf]
        omega
    ·obtain ⟨f,rfl⟩:∃ f,e=f+4:=⟨e - 4,by omega⟩
     have s1:0≤f:=by omega
     have hst':¬ (f:Int)<0:=by omega
     have Li:max (f:Int) 0=(f:Int):=by omega
     have hgl:=kr (bs:=bs) (f:=0) G8.out s1 (i:=f+4) zo
     have HE2:Hid ((s.size:Int) - ((f+4:Nat):Int)=4*ls.length):=zh (HE.out zo)
     clear HE
     go_wp2_with fail
     obtain ⟨wo,rfl⟩:∃ wo:World,wo=wr:=⟨_,rfl⟩
     go_loopw [6,7] (fun v6 v7 wi=>∃ i:Nat,v7= .int .i64 (i:Int)∧f≤i∧i≤f+4∧Hid (v6= .int .i64 (num ((bs.take i).drop f):Nat))∧wo=wi) (fun _ v7 _=>f+4 - (intOf v7).toNat)
     case atStart=>exact ⟨f,rfl,Nat.le_refl _,by omega,zh (by rw [List.drop_eq_nil_of_le (by rw [List.length_take];omega)];rfl),rfl⟩
     case round =>
      obtain ⟨i,rfl,hi1,hi2,H6,rfl⟩:=hrel
      have e6:=H6.out
      subst e6
      rcases Nat.lt_or_ge i (f+4) with hie|hie
      ·have his:i<s.size:=by omega
       have hx2:bs[i]? =some s[i]:=by rw [← Ow.out];exact List.getElem?_eq_getElem (by exact his)
       have hdi:=G8.out s[i] (by rw [← Ow.out];exact mV zo his)
       have HS:=zh (nN (bs:=bs) (st:=f) (x:=s[i]) hi1 hdi hx2)
       have hgb:=kr (bs:=bs) (f:=0) G8.out s1 (i:=i) zo
       generalize num ((bs.take i).drop f)=g at *
       go_wp2_with fail
       exact ⟨⟨i+1,rfl,by omega,by omega,zh (by rw [← HS.out]),trivial⟩,by simp only [intOf];omega⟩
      ·obtain rfl:i=f+4:=by omega
       have HG:=zh (nU (bs:=bs) (s:=f) (e:=f+4) zo (by have:=HN.out;omega))
       have hlen:bs.length - (f+4)=4*ls.length:=by have:=HE2.out;have:=HN.out;omega
       have hmx:(max ((f+4:Nat):Int) 0).toNat=f+4:=by omega
       have hv0:=HV.out
       rw [hmx] at hv0
       rw [hlen,Nat.pow_mul,← hv0] at HG
       generalize num ((bs.take (f+4)).drop f)=gv at *
       have hll:ls.length+1≤s.size:=by have:=HE2.out;omega
       have ec:ints ls++[.int .i64 (gv:Int)]=ints (ls++[gv]):=by unfold ints;simp only [List.map_append,List.map_cons,List.map_nil]
       have EC:=zh ec
       clear H6 ec
       go_wp2_with (at_builtin;refine wpList_append_own _ rfl (.tmp 35) (.tmp 37) 148 rfl (w.heap.size+1) 3 i0 (.int .i64 0) 1 8 Tryz.underlying148 hi hz0 hz1 hz2 rfl zd _ _ _ rfl (hown.alloc _) ⟨wo.heap.size,0,none⟩ 1 1 [.int .i64 (gv:Int)] rfl rfl (by intro t u ht;match t,ht with|0,ht=>simp at ht;subst ht;simp [Addr.add]) (by intro u hu;simp at hu;subst hu;rfl) (by unfold maxLen;omega) zo (by have:=hb.size;simp at*; omega) ?_)
       intro v' w1 hown1 hgrow1 _
       rw [EC.out] at hown1
       have hb3:Below (w.heap.size+1) (w.alloc (.cells #[.bool false,.slice none 0 0] 150)) w1:=(hb.alloc (by have:=hb.size;simpa using this) _).grown hgrow1 (by simp;have:=hb.size;simp at*; omega) (fun k hk=>(hown.lt k hk).1)
       have zx:Hid (val 10000 (ls++[gv])=num (bs.drop (max (f:Int) 0).toNat)):=by
        unfold Hid
        rw [show (max (f:Int) 0).toNat=f by omega,iw,HG.out,Nat.add_comm,Nat.mul_comm]
       clear hown hgrow1 hst' Li
       go_wp2_with fail
       refine ⟨⟨(f:Int),ls++[gv],rfl,by omega,by omega,zh (fun h=>?_),zh (by rw [List.length_append];exact hll),zh (Cn.out.snoc hgl),zx,by rw [List.length_append];exact hown1,hb3⟩,?_⟩
       ·have:=HE2.out
        rw [List.length_append,List.length_singleton]
        omega
       ·simp only [intOf]
        omega
def Words (w:World) (v:Value):Prop:=∃ (a:Option Addr) (n cap:Nat) (U:Nat→Int),v= .slice a n cap∧n≤9223372036854775807∧∀ k,k<n→∃ b off,a=some ⟨b,off,none⟩∧b<w.heap.size∧w.cell? ⟨b,off+k,none⟩=some (.int .u16 (U k))∧0≤U k∧U k≤65535
theorem Words.later {w w':World} {v:Value} (h:Words w v) (hb:Below w.heap.size w w'):Words w' v:=by
 obtain ⟨a,n,cap,U,rfl,hn,h⟩:=h
 refine ⟨a,n,cap,U,rfl,hn,fun k hk=>?_⟩
 obtain ⟨b,off,rfl,h1,h2,h3⟩:=h k hk
 exact ⟨b,off,rfl,Nat.lt_of_lt_of_le h1 hb.size,(hb.cell (p:=⟨b,off+k,none⟩) h1).trans h2,h3⟩
def uP (U:Nat→Int):Nat→Int
 | 0=>0
 | k+1=>uP U k*1000+(U k).tmod 1000
theorem JK (f:Bool) (v:Value) (z:Int) (w:World) (h:Words w v):∃ m:Int,(-999999≤m∧m≤999999)∧∀ W,Below w.heap.size w W →
  Calls Tryz.prog 206 #[.agg #[.bool f,v,.int .u16 z]] W (fun e w'=>e= .returned (.int .i64 m)∧Below W.heap.size W w'):=by
 have W0:∀ z:Int, -1000000000≤z∧z≤1000000000→IntKind.i64.wrap z=z:=fun z h=>by unfold IntKind.wrap;simp [IntKind.bits,IntKind.signed];split<;>omega
 obtain ⟨a,n,cap,U,rfl,hn,hread⟩:=h
 have R0:∀ k,k<n→0≤(U k).tmod 1000∧(U k).tmod 1000≤999:=fun k hk=>by
  obtain ⟨_,_,_,_,_,h0,_⟩:=hread k hk
  rw [Int.tmod_eq_emod_of_nonneg h0]
  omega
 have T0:∀ k,k≤n→k≤2→0≤uP U k∧uP U k<1000^k:=fun k hk h2=>by
  rcases (by omega:k=0∨k=1∨k=2) with rfl|rfl|rfl
  ·simp [uP]
  ·have:=R0 0 zo
   simp [uP]
   omega
  ·have:=R0 0 zo
   have:=R0 1 zo
   simp [uP]
   omega
 have T1:∀ k,k≤n→k≤2→0≤uP U k∧uP U k≤999999:=fun k hk h2=>by
  have:=T0 k hk h2
  rcases (by omega:k=0∨k=1∨k=2) with rfl|rfl|rfl<;>omega
 have TM:=T1 (min n 2) zo zo
 refine ⟨if f then -uP U (min n 2) else uP U (min n 2),by split<;>omega,fun W hW=>?_⟩
 have H:Hid (∀ k,k<n→∃ b off,a=some ⟨b,off,none⟩∧b<W.heap.size∧W.cell? ⟨b,off+k,none⟩=some (.int .u16 (U k))∧0≤U k∧U k≤65535):=zh fun k hk=>by
  obtain ⟨b,off,rfl,h1,h2,h3⟩:=hread k hk
  exact ⟨b,off,rfl,Nat.lt_of_lt_of_le h1 hW.size,(hW.cell (p:=⟨b,off+k,none⟩) h1).trans h2,h3⟩
 have HW:=zh W0
 have HR:=zh R0
 have HT:=zh T1
 have HS:Hid (∀ k,uP U (k+1)=uP U k*1000+(U k).tmod 1000):=zh fun k=>rfl
 have H0:Hid (uP U 0=0):=zh rfl
 obtain ⟨mv,Emv⟩:∃ y,Hid ((if f=true then -uP U (min n 2) else uP U (min n 2))=y):=⟨_,zh rfl⟩
 rw [Emv.out]
 clear hread W0 R0 T0 T1 TM hW w
 generalize uP U=F at *
 go_enter Tryz.func206,Tryz.ntmps206
 go_wp2_with fail
 go_loopw [3,4] (fun tv iv wr=>∃ k:Nat,iv= .int .i64 (k:Int)∧tv= .int .i64 (F k)∧k≤n∧k≤2∧Below W.heap.size W wr∧aB wr W.heap.size #[.bool f,.slice a n cap,.int .u16 z] 209) (fun _ iv _=>2 - (intOf iv).toNat)
 case atStart=>exact ⟨0,rfl,by rw [H0.out],by omega,by omega,aA,aL⟩
 case round =>
  obtain ⟨k,rfl,rfl,hkn,hk2,hb,hB⟩:=hrel
  have cB:=hB.cell
  have lB:=hB.lt
  have ht:=HT.out k hkn hk2
  by_cases hex:k<n∧k<2
  ·obtain ⟨h1,h2⟩:=hex
   obtain ⟨b,off,rfl,lb,cx,u0,u1⟩:=H.out k h1
   have cx':=(hb.cell (p:=⟨b,off+k,none⟩) lb).trans cx
   have g1:decide ((k:Int)<(n:Int))=true:=by simp;omega
   have g2:decide ((k:Int)<2)=true:=by simp;omega
   have hr:=HR.out k h1
   have HSk:=zh (HS.out k)
   obtain ⟨r,Er⟩:∃ r,(U k).tmod 1000=r:=⟨_,rfl⟩
   rw [Er] at hr HSk
   obtain ⟨t,Et⟩:∃ t,F k=t:=⟨_,rfl⟩
   rw [Et] at ht HSk ⊢
   have t2:t≤999999:=ht.2
   have w1:IntKind.u16.wrap r=r:=by unfold IntKind.wrap;simp [IntKind.bits,IntKind.signed];omega
   have w2:=HW.out r zo
   have w3:=HW.out (t*1000) zo
   have w4:=HW.out (t*1000+r) zo
   clear cx lb
   go_wp2_with fail
   go_roundw
   case rel=>exact ⟨k+1,by go_num,by rw [HSk.out],by omega,by omega,hb,hB⟩
   case measure=>exact zM
  ·have hkm:k=min n 2:=by omega
   have QF:=HW.out (-F k) zo
   have HM:Hid (mv=if f=true then -F k else F k):=zh (by rw [← Emv.out,hkm])
   obtain ⟨t,Et⟩:∃ t,F k=t:=⟨_,rfl⟩
   rw [Et] at QF HM ⊢
   clear ht Et Emv hkm
   rcases (by omega:k=n∨(k=2∧2<n)) with rfl|⟨rfl,h3⟩
   ·cases f
    ·go_wp2_with fail
     go_ret
     exact ⟨by rw [HM.out];rfl,hb⟩
    ·go_wp2_with fail
     go_ret
     exact ⟨by rw [HM.out];rfl,hb⟩
   ·have g1:decide ((2:Int)<(n:Int))=true:=by simp;omega
    cases f
    ·go_wp2_with fail
     go_ret
     exact ⟨by rw [HM.out];rfl,hb⟩
    ·go_wp2_with fail
     go_ret
     exact ⟨by rw [HM.out];rfl,hb⟩
end Go.Proofs.aF
namespace Go.Proofs.aG
open Go Go.RowKit Go.SW Go.Num Go.Mem Go.Proofs Go.Dec Go.Proofs.aF
def Ra (w:World) (v:Value) (q:Rat):Prop:=∃ bn pn ln cn bd pd ld cd,v= .agg #[.bool bn,.slice pn ln cn,.bool bd,.slice pd ld cd]∧Pl w (.agg #[.bool bn,.slice pn ln cn]) q.num∧Pl w (.agg #[.bool bd,.slice pd ld cd]) q.den
theorem Ra.later {w w':World} {v:Value} {q:Rat} (h:Ra w v q) (hb:Below w.heap.size w w'):Ra w' v q:=by
 obtain ⟨bn,pn,ln,cn,bd,pd,ld,cd,e,h1,h2⟩:=h
 exact ⟨bn,pn,ln,cn,bd,pd,ld,cd,e,h1.later hb,h2.later hb⟩
def dH (w:World) (q:Rat) (e:Ending) (w':World):Prop:=∃ v',e= .returned v'∧Below w.heap.size w w'∧Ra w' v' q
theorem yw {n d:Int} (hd:0<d):((n:Rat) / (d:Rat)).num=n / (Nat.gcd n.natAbs d.natAbs:Int)∧(((n:Rat) / (d:Rat)).den:Int)=d / (Nat.gcd n.natAbs d.natAbs:Int):=by
 obtain ⟨k,rfl⟩:=Int.eq_ofNat_of_zero_le (Int.le_of_lt hd)
 have hk:0<k:=by omega
 have e:(n:Rat) / ((k:Int):Rat)=mkRat n k:=by
  rw [Rat.mkRat_eq_div]
  rfl
 have h:=dB.wN n hk
 rw [e,Int.natAbs_natCast]
 refine ⟨?_,?_⟩
 ·rw [h.1,dB.AP (Nat.gcd_dvd_left _ _)]
 ·rw [h.2,Int.natCast_ediv]
theorem Pl.kJ {w:World} {v:Value} {z:Int} (h:Pl w v z) {b:Nat} {cs:Array Value} {T':TypeId} (hx:aB w b cs T') (hT:3≠T') (u0 u1 u2 u3:Value) :
  Pl ((((w.setCell ⟨b,0,none⟩ u0).setCell ⟨b,1,none⟩ u1).setCell ⟨b,2,none⟩ u2).setCell ⟨b,3,none⟩ u3) v z :=
 (h.set2 hx hT 0 1 u0 u1).set2 ((hx.set 0 u0).set 1 u1) hT 2 3 u2 u3
theorem Ra.kJ {w:World} {v:Value} {q:Rat} (h:Ra w v q) {b:Nat} {cs:Array Value} {T':TypeId} (hx:aB w b cs T') (hT:3≠T') (u0 u1 u2 u3:Value) :
  Ra ((((w.setCell ⟨b,0,none⟩ u0).setCell ⟨b,1,none⟩ u1).setCell ⟨b,2,none⟩ u2).setCell ⟨b,3,none⟩ u3) v q:=by
 obtain ⟨bn,pn,ln,cn,bd,pd,ld,cd,e,h1,h2⟩:=h
 exact ⟨bn,pn,ln,cn,bd,pd,ld,cd,e,Pl.kJ h1 hx hT u0 u1 u2 u3,Pl.kJ h2 hx hT u0 u1 u2 u3⟩
theorem Mr (x y:Value) (n d:Int) (w:World) (hx:Pl w x n) (hy:Pl w y d) (ha:sz 10000 n.natAbs≤274877906944) (hb:sz 10000 d.natAbs≤274877906944) (hd:0<d) :
  Calls Tryz.prog 158 #[x,y] w (dH w ((n:Rat) / (d:Rat))):=by
 obtain ⟨e1,e2⟩:=yw (n:=n) hd
 obtain ⟨q,Eq⟩:∃ q:Rat,(n:Rat) / (d:Rat)=q:=⟨_,rfl⟩
 rw [Eq] at e1 e2 ⊢
 obtain ⟨bA,kV,lA,kX,rfl⟩:=hx.agg
 obtain ⟨bB,nu,lB,nD,rfl⟩:=hy.agg
 have hbf:bB=false:=by rw [hy.nm.2];simp;omega
 subst hbf
 have NA:=zh hx
 have NB:=zh hy
 have KA:=zh ha
 have KB:=zh hb
 have hg0:0<Nat.gcd n.natAbs d.natAbs:=Nat.gcd_pos_of_pos_right _ zo
 have hgd:Nat.gcd n.natAbs d.natAbs≤d.natAbs:=Nat.le_of_dvd zo (Nat.gcd_dvd_right _ _)
 have dn:((Nat.gcd n.natAbs d.natAbs:Nat):Int) ∣ n:=by rw [← Int.dvd_natAbs,Int.ofNat_dvd];exact Nat.gcd_dvd_left _ _
 have dd:((Nat.gcd n.natAbs d.natAbs:Nat):Int) ∣ d:=by rw [← Int.dvd_natAbs,Int.ofNat_dvd];exact Nat.gcd_dvd_right _ _
 have GN:=zh (fun W=>wu (.agg #[.bool bA,.slice kV lA kX]) (.agg #[.bool false,.slice nu lB nD]) n d W)
 generalize Nat.gcd n.natAbs d.natAbs=g at *
 have G0:Hid (0<(g:Int)):=zh zo
 have KG:Hid (sz 10000 (g:Int).natAbs≤274877906944):=zh (Nat.le_trans (gN zo (by simpa using hgd)) hb)
 have DN:=zh dn
 have DD:=zh dd
 have E1:=zh e1
 have E2:=zh e2
 clear e1 e2 Eq hx hy ha hb hd hg0 hgd dn dd
 go_enter Tryz.func158,Tryz.ntmps158
 go_wp2_with fail
 obtain ⟨cO,EW,hz,X1,X2,X3⟩:=yM w #[.bool bA,.slice kV lA kX] 150 #[.bool false,.slice nu lB nD] 150 #[.bool false,.slice none 0 0,.bool false,.slice none 0 0] 152
 rw [EW]
 replace NA:=zh (NA.out.later hz)
 replace NB:=zh (NB.out.later hz)
 have hk2:=Bt (Below.refl _ _) hz
 clear EW hz
 refine (GN.out _ NA.out NB.out KA.out KB.out).mono ?_
 rintro e iN ⟨v,rfl,hb3,hv4⟩
 obtain ⟨bG,Qz,lG,QL,rfl⟩:=hv4.agg
 replace NA:=zh (NA.out.later hb3)
 replace NB:=zh (NB.out.later hb3)
 replace X1:=X1.bl hb3
 replace X2:=X2.bl hb3
 replace X3:=X3.bl hb3
 have hk5:=Bt hk2 hb3
 clear hk2
 have NG:=zh hv4
 clear hb3 hv4
 obtain ⟨dW,dU,fG⟩:=X1.dx
 go_upto_region 4 with fail
 clear dW dU fG
 obtain ⟨wq6,EW,hz,X4⟩:=G7 iN #[.bool bG,.slice Qz lG QL] 150
 rw [EW]
 replace NA:=zh (NA.out.later hz)
 replace NB:=zh (NB.out.later hz)
 replace X1:=X1.bl hz
 replace X2:=X2.bl hz
 replace X3:=X3.bl hz
 replace NG:=zh (NG.out.later hz)
 have Cx:=Bt hk5 hz
 clear hk5
 clear EW hz
 generalize iN.heap.size=pq6 at *
 obtain ⟨dW,dU,fG⟩:=X1.dx
 obtain ⟨zT,zF,P6⟩:=X4.dx
 go_wp2_with fail
 clear dW dU fG zT zF P6
 refine (xM _ _ _ _ _ NA.out NG.out KA.out KG.out G0.out (.inr DN.out)).mono ?_
 rintro e wc8 ⟨vx,vy,rfl,kE,hq,hr⟩
 obtain ⟨bX,Y2,lX,caX,rfl⟩:=hq.agg
 obtain ⟨bU,Qy,lU,QK,rfl⟩:=hr.agg
 replace NA:=zh (NA.out.later kE)
 replace NB:=zh (NB.out.later kE)
 replace X1:=X1.bl kE
 replace X2:=X2.bl kE
 replace X3:=X3.bl kE
 replace NG:=zh (NG.out.later kE)
 replace X4:=X4.bl kE
 have hk10:=Bt Cx kE
 clear Cx
 have NX:=zh hq
 clear kE hq
 obtain ⟨dV,dS,gM⟩:=X2.dx
 obtain ⟨zT,zF,P6⟩:=X4.dx
 go_upto_region 5 with fail
 clear dV dS gM zT zF P6
 obtain ⟨Vd,EW,hz,X5, -⟩:=zU wc8 #[.bool bX,.slice Y2 lX caX] 150 #[.bool bU,.slice Qy lU QK] 150
 rw [EW]
 clear NA
 replace NB:=zh (NB.out.later hz)
 clear X1
 replace X2:=X2.bl hz
 replace X3:=X3.bl hz
 replace NG:=zh (NG.out.later hz)
 replace X4:=X4.bl hz
 replace NX:=zh (NX.out.later hz)
 have PD:=Bt hk10 hz
 clear hk10
 clear EW hz
 generalize wc8.heap.size=aP8 at *
 obtain ⟨dV,dS,gM⟩:=X2.dx
 obtain ⟨zT,zF,P6⟩:=X4.dx
 go_wp2_with fail
 clear dV dS gM zT zF P6
 refine (xM _ _ _ _ _ NB.out NG.out KB.out KG.out G0.out (.inr DD.out)).mono ?_
 rintro e iR ⟨vx,vy,rfl,fA,hq,hr⟩
 obtain ⟨bY,Y1,lY,caY,rfl⟩:=hq.agg
 obtain ⟨bV,Qx,lV,QJ,rfl⟩:=hr.agg
 replace NB:=zh (NB.out.later fA)
 replace X2:=X2.bl fA
 replace X3:=X3.bl fA
 replace NG:=zh (NG.out.later fA)
 replace X4:=X4.bl fA
 replace NX:=zh (NX.out.later fA)
 replace X5:=X5.bl fA
 have CZ:=Bt PD fA
 clear PD
 have NY:=zh hq
 clear fA hq
 obtain ⟨zS,zD,fX5⟩:=X5.dx
 obtain ⟨mF,mD,pz⟩:=X3.dx
 go_upto_region 6 with fail
 clear zS zD fX5 mF mD pz
 obtain ⟨aM3,EW,hz,X7, -⟩:=zU iR #[.bool bY,.slice Y1 lY caY] 150 #[.bool bV,.slice Qx lV QJ] 150
 rw [EW]
 clear NB
 clear X2
 replace X3:=X3.bl hz
 clear NG
 clear X4
 replace NX:=zh (NX.out.later hz)
 replace X5:=X5.bl hz
 replace NY:=zh (NY.out.later hz)
 have aU7:=Bt CZ hz
 clear CZ
 clear EW hz
 generalize iR.heap.size=aP7 at *
 obtain ⟨zS,zD,fX5⟩:=X5.dx
 obtain ⟨cX7,lX7,fX7⟩:=X7.dx
 obtain ⟨mF,mD,pz⟩:=X3.dx
 have hres:=X3.out
 have gW:=hres.cell
 have gV:=hres.free
 go_wp2_with fail
 refine bP rfl rfl aL Tryz.underlying152 rfl zk ?_
 have hx:=Pl.kJ NX.out hres zd (.bool bX) (.slice Y2 lX caX) (.bool bY) (.slice Y1 lY caY)
 have hy:=Pl.kJ NY.out hres zd (.bool bX) (.slice Y2 lX caX) (.bool bY) (.slice Y1 lY caY)
 rw [← E1.out] at hx
 rw [← E2.out] at hy
 exact ⟨_,rfl,aA,_,_,_,_,_,_,_,_,rfl,hx,hy⟩
theorem Mw (x y:Value) (n d:Int) (w:World) (hx:Pl w x n) (hy:Pl w y d) (ha:sz 10000 n.natAbs≤274877906944) (hb:sz 10000 d.natAbs≤274877906944) (hd:d<0) :
  Calls Tryz.prog 158 #[x,y] w (dH w ((n:Rat) / (d:Rat))):=by
 obtain ⟨e1,e2⟩:=yw (n:= -n) (d:= -d) zo
 rw [show ((-n:Int):Rat) / ((-d:Int):Rat)=(n:Rat) / (d:Rat) by rw [Rat.intCast_neg,Rat.intCast_neg,Rat.div_def,Rat.div_def];grind,Int.natAbs_neg,Int.natAbs_neg] at e1 e2
 obtain ⟨q,Eq⟩:∃ q:Rat,(n:Rat) / (d:Rat)=q:=⟨_,rfl⟩
 rw [Eq] at e1 e2 ⊢
 obtain ⟨bA,kV,lA,kX,rfl⟩:=hx.agg
 obtain ⟨bB,nu,lB,nD,rfl⟩:=hy.agg
 have hbf:bB=true:=by rw [hy.nm.2];simp;omega
 subst hbf
 have NA:=zh hx
 have NB:=zh hy
 have KA:=zh ha
 have KB:=zh hb
 have hg0:0<Nat.gcd n.natAbs d.natAbs:=Nat.gcd_pos_of_pos_right _ zo
 have hgd:Nat.gcd n.natAbs d.natAbs≤d.natAbs:=Nat.le_of_dvd zo (Nat.gcd_dvd_right _ _)
 have dn:((Nat.gcd n.natAbs d.natAbs:Nat):Int) ∣ -n:=by rw [Int.dvd_neg];rw [← Int.dvd_natAbs,Int.ofNat_dvd];exact Nat.gcd_dvd_left _ _
 have dd:((Nat.gcd n.natAbs d.natAbs:Nat):Int) ∣ -d:=by rw [Int.dvd_neg];rw [← Int.dvd_natAbs,Int.ofNat_dvd];exact Nat.gcd_dvd_right _ _
 have GN:=zh (fun x y W=>wu x y (-n) (-d) W)
 have KA':Hid (sz 10000 (-n).natAbs≤274877906944):=zh (by rw [Int.natAbs_neg];exact ha)
 have KB':Hid (sz 10000 (-d).natAbs≤274877906944):=zh (by rw [Int.natAbs_neg];exact hb)
 rw [Int.natAbs_neg,Int.natAbs_neg] at GN
 generalize Nat.gcd n.natAbs d.natAbs=g at *
 have G0:Hid (0<(g:Int)):=zh zo
 have KG:Hid (sz 10000 (g:Int).natAbs≤274877906944):=zh (Nat.le_trans (gN zo (by simpa using hgd)) hb)
 have DN:=zh dn
 have DD:=zh dd
 have E1:=zh e1
 have E2:=zh e2
 clear e1 e2 Eq hx hy ha hb hd hg0 hgd dn dd
 go_enter Tryz.func158,Tryz.ntmps158
 go_wp2_with fail
 obtain ⟨cO,EW,hz,X1,X2,X3⟩:=yM w #[.bool bA,.slice kV lA kX] 150 #[.bool true,.slice nu lB nD] 150 #[.bool false,.slice none 0 0,.bool false,.slice none 0 0] 152
 rw [EW]
 replace NA:=zh (NA.out.later hz)
 replace NB:=zh (NB.out.later hz)
 have hk2:=Bt (Below.refl _ _) hz
 clear EW hz
 obtain ⟨dW,dU,fG⟩:=X1.dx
 obtain ⟨dV,dS,gM⟩:=X2.dx
 refine aC [(.read,0),(.read,2),(.ext,1),(.ext,3),(.fin,4),(.fin,5)] zk zk zR zP ?_
 repeat (first|(refine ah rfl rfl fun J h=>?_;go_simp;refine h _ ?_;clear h J)|(refine au rfl rfl rfl rfl fun J h=>?_;go_simp;refine h _ ?_;clear h J;try go_simp))
 refine aD rfl rfl (fun uO hb3 J hJ=>?_);go_simp
 have hh3:Below cO.heap.size cO uO:=aA
 clear hb3
 refine (pJ _ _ _ (NA.out.later hh3)).mono ?_
 rintro e rT ⟨v,rfl,hb4,hv5⟩
 obtain ⟨bC,Cw,lC,Cz,rfl⟩:=hv5.agg
 refine hJ _ _ hb4 ?_
 clear hJ J
 have nG:=Bt hh3 hb4
 have NC:=zh hv5
 clear hh3 hb4 hv5
 repeat (first|(refine ah rfl rfl fun J h=>?_;go_simp;refine h _ ?_;clear h J)|(refine au rfl rfl rfl rfl fun J h=>?_;go_simp;refine h _ ?_;clear h J;try go_simp))
 refine aD rfl rfl (fun qQ hb6 J hJ=>?_);go_simp
 have ig:Below cO.heap.size cO qQ:=Bt nG aA
 replace NC:=zh (NC.out.later (show Below rT.heap.size rT qQ from aA))
 clear hb6 nG
 refine (pJ _ _ _ (NB.out.later ig)).mono ?_
 rintro e kC ⟨v,rfl,dY,kD⟩
 obtain ⟨bD,Ir,lD,Jz,rfl⟩:=kD.agg
 refine hJ _ _ dY ?_
 clear hJ J
 have o9:=Bt ig dY
 replace NC:=zh (NC.out.later dY)
 have ND:=zh kD
 clear ig dY kD
 repeat (first|(refine ah rfl rfl fun J h=>?_;go_simp;refine h _ ?_;clear h J)|(refine au rfl rfl rfl rfl fun J h=>?_;go_simp;refine h _ ?_;clear h J;try go_simp))
 refine aJ [_,_] rfl (fun zB Ta=>?_)
 replace NC:=zh (NC.out.later (show Below kC.heap.size kC zB from aA))
 replace ND:=zh (ND.out.later (show Below kC.heap.size kC zB from aA))
 have gI:Below cO.heap.size cO zB:=Bt o9 aA
 clear Ta o9
 clear dW dU fG dV dS gM
 replace NA:=zh (NA.out.later gI)
 replace NB:=zh (NB.out.later gI)
 replace X1:=X1.bl gI
 replace X2:=X2.bl gI
 replace X3:=X3.bl gI
 have hk10:=Bt hk2 gI
 clear hk2
 clear gI
 obtain ⟨dW,dU,fG⟩:=X1.dx
 obtain ⟨dV,dS,gM⟩:=X2.dx
 go_upto_region 3 with fail
 clear dW dU fG dV dS gM
 have hz:Below w.heap.size w ((((zB.setCell ⟨w.heap.size,0,none⟩ (.bool bC)).setCell ⟨w.heap.size,1,none⟩ (.slice Cw lC Cz)).setCell ⟨w.heap.size+1,0,none⟩ (.bool bD)).setCell ⟨w.heap.size+1,1,none⟩ (.slice Ir lD Jz)):=aA
 obtain ⟨Vd,EW⟩:∃ y,((((zB.setCell ⟨w.heap.size,0,none⟩ (.bool bC)).setCell ⟨w.heap.size,1,none⟩ (.slice Cw lC Cz)).setCell ⟨w.heap.size+1,0,none⟩ (.bool bD)).setCell ⟨w.heap.size+1,1,none⟩ (.slice Ir lD Jz))=y:=⟨_,rfl⟩
 have tX1:=((((X1.out.set 0 (.bool bC)).set 1 (.slice Cw lC Cz)).setOther (a:=⟨w.heap.size+1,0,none⟩) (.bool bD) (by first|assumption|(simp;done)|(simp;omega))).setOther (a:=⟨w.heap.size+1,1,none⟩) (.slice Ir lD Jz) (by first|assumption|(simp;done)|(simp;omega)))
 have Kk:=((((X2.out.setOther (a:=⟨w.heap.size,0,none⟩) (.bool bC) (by first|assumption|(simp;done)|(simp;omega))).setOther (a:=⟨w.heap.size,1,none⟩) (.slice Cw lC Cz) (by first|assumption|(simp;done)|(simp;omega))).set 0 (.bool bD)).set 1 (.slice Ir lD Jz))
 have Kj:=((((X3.out.setOther (a:=⟨w.heap.size,0,none⟩) (.bool bC) (by first|assumption|(simp;done)|(simp;omega))).setOther (a:=⟨w.heap.size,1,none⟩) (.slice Cw lC Cz) (by first|assumption|(simp;done)|(simp;omega))).setOther (a:=⟨w.heap.size+1,0,none⟩) (.bool bD) (by first|assumption|(simp;done)|(simp;omega))).setOther (a:=⟨w.heap.size+1,1,none⟩) (.slice Ir lD Jz) (by first|assumption|(simp;done)|(simp;omega)))
 have tNC:=((((NC.out.setOther X1.out zd 0 (.bool bC)).setOther (X1.out.set 0 (.bool bC)) zd 1 (.slice Cw lC Cz)).setOther ((X2.out.setOther (a:=⟨w.heap.size,0,none⟩) (.bool bC) (by first|assumption|(simp;done)|(simp;omega))).setOther (a:=⟨w.heap.size,1,none⟩) (.slice Cw lC Cz) (by first|assumption|(simp;done)|(simp;omega))) zd 0 (.bool bD)).setOther (((X2.out.setOther (a:=⟨w.heap.size,0,none⟩) (.bool bC) (by first|assumption|(simp;done)|(simp;omega))).setOther (a:=⟨w.heap.size,1,none⟩) (.slice Cw lC Cz) (by first|assumption|(simp;done)|(simp;omega))).set 0 (.bool bD)) zd 1 (.slice Ir lD Jz))
 have tND:=((((ND.out.setOther X1.out zd 0 (.bool bC)).setOther (X1.out.set 0 (.bool bC)) zd 1 (.slice Cw lC Cz)).setOther ((X2.out.setOther (a:=⟨w.heap.size,0,none⟩) (.bool bC) (by first|assumption|(simp;done)|(simp;omega))).setOther (a:=⟨w.heap.size,1,none⟩) (.slice Cw lC Cz) (by first|assumption|(simp;done)|(simp;omega))) zd 0 (.bool bD)).setOther (((X2.out.setOther (a:=⟨w.heap.size,0,none⟩) (.bool bC) (by first|assumption|(simp;done)|(simp;omega))).setOther (a:=⟨w.heap.size,1,none⟩) (.slice Cw lC Cz) (by first|assumption|(simp;done)|(simp;omega))).set 0 (.bool bD)) zd 1 (.slice Ir lD Jz))
 clear NA
 clear NB
 rw [EW] at tX1
 replace X1:Hid (aB Vd (w.heap.size) #[.bool bC,.slice Cw lC Cz] 150):=zh tX1
 clear tX1
 rw [EW] at Kk
 replace X2:Hid (aB Vd (w.heap.size+1) #[.bool bD,.slice Ir lD Jz] 150):=zh Kk
 clear Kk
 rw [EW] at Kj
 replace X3:Hid (aB Vd (w.heap.size+1+1) #[.bool false,.slice none 0 0,.bool false,.slice none 0 0] 152):=zh Kj
 clear Kj
 rw [EW] at tNC
 replace NC:=zh tNC
 clear tNC
 rw [EW] at tND
 replace ND:=zh tND
 clear tND
 rw [EW] at hz ⊢
 clear EW
 clear hk10
 have vR:=hz
 clear hz
 obtain ⟨dW,dU,fG⟩:=X1.dx
 obtain ⟨dV,dS,gM⟩:=X2.dx
 go_wp2_with fail
 clear dW dU fG dV dS gM
 refine (GN.out _ _ _ NC.out ND.out KA.out KB.out).mono ?_
 rintro e Fa ⟨v,rfl,eZ,ZG⟩
 obtain ⟨bG,Qz,lG,QL,rfl⟩:=ZG.agg
 replace X1:=X1.bl eZ
 replace X2:=X2.bl eZ
 replace X3:=X3.bl eZ
 replace NC:=zh (NC.out.later eZ)
 replace ND:=zh (ND.out.later eZ)
 have Gc:=Bt vR eZ
 clear vR
 have NG:=zh ZG
 clear eZ ZG
 obtain ⟨dW,dU,fG⟩:=X1.dx
 go_upto_region 4 with fail
 clear dW dU fG
 obtain ⟨xS,EW,hz,X4⟩:=G7 Fa #[.bool bG,.slice Qz lG QL] 150
 rw [EW]
 replace X1:=X1.bl hz
 replace X2:=X2.bl hz
 replace X3:=X3.bl hz
 replace NC:=zh (NC.out.later hz)
 replace ND:=zh (ND.out.later hz)
 replace NG:=zh (NG.out.later hz)
 have Pz:=Bt Gc hz
 clear Gc
 clear EW hz
 generalize Fa.heap.size=aC2 at *
 obtain ⟨dW,dU,fG⟩:=X1.dx
 obtain ⟨zT,zF,P6⟩:=X4.dx
 go_wp2_with fail
 clear dW dU fG zT zF P6
 refine (xM _ _ _ _ _ NC.out NG.out KA'.out KG.out G0.out (.inr DN.out)).mono ?_
 rintro e OH ⟨vx,vy,rfl,oP,hq,hr⟩
 obtain ⟨bX,Y2,lX,caX,rfl⟩:=hq.agg
 obtain ⟨bU,Qy,lU,QK,rfl⟩:=hr.agg
 replace X1:=X1.bl oP
 replace X2:=X2.bl oP
 replace X3:=X3.bl oP
 replace NC:=zh (NC.out.later oP)
 replace ND:=zh (ND.out.later oP)
 replace NG:=zh (NG.out.later oP)
 replace X4:=X4.bl oP
 have Gb:=Bt Pz oP
 clear Pz
 have NX:=zh hq
 clear oP hq
 obtain ⟨dV,dS,gM⟩:=X2.dx
 obtain ⟨zT,zF,P6⟩:=X4.dx
 go_upto_region 5 with fail
 clear dV dS gM zT zF P6
 obtain ⟨aM2,EW,hz,X5, -⟩:=zU OH #[.bool bX,.slice Y2 lX caX] 150 #[.bool bU,.slice Qy lU QK] 150
 rw [EW]
 clear X1
 replace X2:=X2.bl hz
 replace X3:=X3.bl hz
 clear NC
 replace ND:=zh (ND.out.later hz)
 replace NG:=zh (NG.out.later hz)
 replace X4:=X4.bl hz
 replace NX:=zh (NX.out.later hz)
 have ar9:=Bt Gb hz
 clear Gb
 clear EW hz
 generalize OH.heap.size=aP6 at *
 obtain ⟨dV,dS,gM⟩:=X2.dx
 obtain ⟨zT,zF,P6⟩:=X4.dx
 go_wp2_with fail
 clear dV dS gM zT zF P6
 refine (xM _ _ _ _ _ ND.out NG.out KB'.out KG.out G0.out (.inr DD.out)).mono ?_
 rintro e ao0 ⟨vx,vy,rfl,Gj,hq,hr⟩
 obtain ⟨bY,Y1,lY,caY,rfl⟩:=hq.agg
 obtain ⟨bV,Qx,lV,QJ,rfl⟩:=hr.agg
 replace X2:=X2.bl Gj
 replace X3:=X3.bl Gj
 replace ND:=zh (ND.out.later Gj)
 replace NG:=zh (NG.out.later Gj)
 replace X4:=X4.bl Gj
 replace NX:=zh (NX.out.later Gj)
 replace X5:=X5.bl Gj
 have ar8:=Bt ar9 Gj
 clear ar9
 have NY:=zh hq
 clear Gj hq
 obtain ⟨zS,zD,fX5⟩:=X5.dx
 obtain ⟨mF,mD,pz⟩:=X3.dx
 go_upto_region 6 with fail
 clear zS zD fX5 mF mD pz
 obtain ⟨YL,EW,hz,X7, -⟩:=zU ao0 #[.bool bY,.slice Y1 lY caY] 150 #[.bool bV,.slice Qx lV QJ] 150
 rw [EW]
 clear X2
 replace X3:=X3.bl hz
 clear ND
 clear NG
 clear X4
 replace NX:=zh (NX.out.later hz)
 replace X5:=X5.bl hz
 replace NY:=zh (NY.out.later hz)
 have Z0:=Bt ar8 hz
 clear ar8
 clear EW hz
 generalize ao0.heap.size=aP5 at *
 obtain ⟨zS,zD,fX5⟩:=X5.dx
 obtain ⟨cX7,lX7,fX7⟩:=X7.dx
 obtain ⟨mF,mD,pz⟩:=X3.dx
 have hres:=X3.out
 have gW:=hres.cell
 have gV:=hres.free
 go_wp2_with fail
 refine bP rfl rfl aL Tryz.underlying152 rfl zk ?_
 have hx:=Pl.kJ NX.out hres zd (.bool bX) (.slice Y2 lX caX) (.bool bY) (.slice Y1 lY caY)
 have hy:=Pl.kJ NY.out hres zd (.bool bX) (.slice Y2 lX caX) (.bool bY) (.slice Y1 lY caY)
 rw [← E1.out] at hx
 rw [← E2.out] at hy
 exact ⟨_,rfl,aA,_,_,_,_,_,_,_,_,rfl,hx,hy⟩
theorem uM (x y:Value) (n d:Int) (w:World) (hx:Pl w x n) (hy:Pl w y d) (ha:sz 10000 n.natAbs≤274877906944) (hb:sz 10000 d.natAbs≤274877906944) (hd:d≠0) :
  Calls Tryz.prog 158 #[x,y] w (dH w ((n:Rat) / (d:Rat))):=by
 by_cases h:0<d
 ·exact Mr x y n d w hx hy ha hb h
 ·exact Mw x y n d w hx hy ha hb zo
end Go.Proofs.aG
namespace Go.Proofs.aG
open Go Go.RowKit Go.SW Go.Num Go.Mem Go.Proofs Go.Dec Go.Proofs.aF Go.dB
theorem AZ (z:Int):∃ (s:ByteArray) (k:Int),RG z= .tuple #[.string s,.int .i64 k]∧((JY z.natAbs=true∧k=0∧s=⟨(Lib.itoa z).toArray⟩)∨(JY z.natAbs=false∧k=6)):=by
 unfold RG
 by_cases h:JY z.natAbs=true
 ·rw [if_pos h]
  exact ⟨_,_,rfl,.inl ⟨h,rfl,rfl⟩⟩
 ·rw [if_neg h]
  exact ⟨_,_,rfl,.inr ⟨by simpa using h,rfl⟩⟩
def oM (w:World) (x:Fr × Int) (e:Ending) (w':World):Prop:=e= .returned (Fr.res x)∧Below w.heap.size w w'
theorem qm (x:Value) (q:Rat) (w:World) (hx:Ra w x q) (h1:sz 10000 q.num.natAbs≤1073741824) (h2:sz 10000 q.den≤1073741824) :
  Calls Tryz.prog 109 #[x] w (oM w (wr q)):=by
 obtain ⟨bn,pn,ln,cn,bd,pd,ld,cd,rfl,NN,ND⟩:=hx
 obtain ⟨s1,k1,e1,c1⟩:=AZ q.num
 obtain ⟨s2,k2,e2,c2⟩:=AZ (q.den:Int)
 have H1:=zh (fun W (hb:Below w.heap.size w W)=>aF.qm _ q.num W (NN.later hb) h1)
 have H2:=zh (fun W (hb:Below w.heap.size w W)=>aF.qm _ (q.den:Int) W (ND.later hb) (by simpa using h2))
 rw [e1] at H1
 rw [e2] at H2
 have hw:wr q=if k1=0∧k2=0 then (⟨s1,s2⟩,0) else (Fr.no,6):=by
  unfold wr dA
  rw [Int.natAbs_natCast] at c2
  rcases c1 with ⟨a1,a2,a3⟩|⟨a1,a2⟩<;>rcases c2 with ⟨b1,b2,b3⟩|⟨b1,b2⟩<;>subst a2<;>subst b2<;>rw [a1,b1]
  ·subst a3
   subst b3
   rfl
  ·rfl
  ·rfl
  ·rfl
 rw [hw]
 have d1:k1=0∨k1=6:=c1.elim (fun h=>.inl h.2.1) (fun h=>.inr h.2)
 have d2:k2=0∨k2=6:=c2.elim (fun h=>.inl h.2.1) (fun h=>.inr h.2)
 clear hw e1 e2 c1 c2 h1 h2 NN ND
 rcases d1 with rfl|rfl<;>rcases d2 with rfl|rfl
 ·rw [if_pos ⟨rfl,rfl⟩]
  go_enter Tryz.func109,Tryz.ntmps109
  go_wp2_with fail
  obtain ⟨cO,EW,hz,X1,X2⟩:=zU w #[.bool bn,.slice pn ln cn,.bool bd,.slice pd ld cd] 152 #[.string ⟨#[]⟩,.string ⟨#[]⟩] 36
  rw [EW]
  have hk2:=Bt (Below.refl _ _) hz
  clear EW hz
  refine (H1.out _ hk2).mono ?_
  rintro e iN ⟨rfl,hb3⟩
  replace X1:=X1.bl hb3
  replace X2:=X2.bl hb3
  have hk5:=Bt hk2 hb3
  clear hk2
  clear hb3
  obtain ⟨dW,dU,fG⟩:=X1.dx
  go_wp2_with fail
  clear dW dU fG
  refine (H2.out _ hk5).mono ?_
  rintro e fQ ⟨rfl,hb6⟩
  replace X1:=X1.bl hb6
  replace X2:=X2.bl hb6
  have jW:=Bt hk5 hb6
  clear hk5
  clear hb6
  obtain ⟨dV,dS,gM⟩:=X2.dx
  have hres:=X2.out
  have gW:=hres.cell
  have gV:=hres.free
  go_wp2_with fail
  refine aP rfl rfl aL Tryz.underlying36 rfl zk ?_
  exact ⟨rfl,aA⟩
 ·rw [if_neg zo]
  go_enter Tryz.func109,Tryz.ntmps109
  go_wp2_with fail
  obtain ⟨cO,EW,hz,X1,X2⟩:=zU w #[.bool bn,.slice pn ln cn,.bool bd,.slice pd ld cd] 152 #[.string ⟨#[]⟩,.string ⟨#[]⟩] 36
  rw [EW]
  have hk2:=Bt (Below.refl _ _) hz
  clear EW hz
  refine (H1.out _ hk2).mono ?_
  rintro e iN ⟨rfl,hb3⟩
  replace X1:=X1.bl hb3
  replace X2:=X2.bl hb3
  have hk5:=Bt hk2 hb3
  clear hk2
  clear hb3
  obtain ⟨dW,dU,fG⟩:=X1.dx
  go_wp2_with fail
  clear dW dU fG
  refine (H2.out _ hk5).mono ?_
  rintro e fQ ⟨rfl,hb6⟩
  replace X1:=X1.bl hb6
  replace X2:=X2.bl hb6
  have jW:=Bt hk5 hb6
  clear hk5
  clear hb6
  obtain ⟨dV,dS,gM⟩:=X2.dx
  have hres:=X2.out
  have gW:=hres.cell
  have gV:=hres.free
  go_wp2_with fail
  refine aP rfl rfl aL Tryz.underlying36 rfl zk ?_
  exact ⟨rfl,aA⟩
 ·rw [if_neg zo]
  go_enter Tryz.func109,Tryz.ntmps109
  go_wp2_with fail
  obtain ⟨cO,EW,hz,X1,X2⟩:=zU w #[.bool bn,.slice pn ln cn,.bool bd,.slice pd ld cd] 152 #[.string ⟨#[]⟩,.string ⟨#[]⟩] 36
  rw [EW]
  have hk2:=Bt (Below.refl _ _) hz
  clear EW hz
  refine (H1.out _ hk2).mono ?_
  rintro e iN ⟨rfl,hb3⟩
  replace X1:=X1.bl hb3
  replace X2:=X2.bl hb3
  have hk5:=Bt hk2 hb3
  clear hk2
  clear hb3
  obtain ⟨dW,dU,fG⟩:=X1.dx
  go_wp2_with fail
  clear dW dU fG
  refine (H2.out _ hk5).mono ?_
  rintro e fQ ⟨rfl,hb6⟩
  replace X1:=X1.bl hb6
  replace X2:=X2.bl hb6
  have jW:=Bt hk5 hb6
  clear hk5
  clear hb6
  obtain ⟨dV,dS,gM⟩:=X2.dx
  have hres:=X2.out
  have gW:=hres.cell
  have gV:=hres.free
  go_wp2_with fail
  refine aP rfl rfl aL Tryz.underlying36 rfl zk ?_
  exact ⟨rfl,aA⟩
 ·rw [if_neg zo]
  go_enter Tryz.func109,Tryz.ntmps109
  go_wp2_with fail
  obtain ⟨cO,EW,hz,X1,X2⟩:=zU w #[.bool bn,.slice pn ln cn,.bool bd,.slice pd ld cd] 152 #[.string ⟨#[]⟩,.string ⟨#[]⟩] 36
  rw [EW]
  have hk2:=Bt (Below.refl _ _) hz
  clear EW hz
  refine (H1.out _ hk2).mono ?_
  rintro e iN ⟨rfl,hb3⟩
  replace X1:=X1.bl hb3
  replace X2:=X2.bl hb3
  have hk5:=Bt hk2 hb3
  clear hk2
  clear hb3
  obtain ⟨dW,dU,fG⟩:=X1.dx
  go_wp2_with fail
  clear dW dU fG
  refine (H2.out _ hk5).mono ?_
  rintro e fQ ⟨rfl,hb6⟩
  replace X1:=X1.bl hb6
  replace X2:=X2.bl hb6
  have jW:=Bt hk5 hb6
  clear hk5
  clear hb6
  obtain ⟨dV,dS,gM⟩:=X2.dx
  have hres:=X2.out
  have gW:=hres.cell
  have gV:=hres.free
  go_wp2_with fail
  refine aP rfl rfl aL Tryz.underlying36 rfl zk ?_
  exact ⟨rfl,aA⟩
theorem yx {n d:Int} (hd:d≠0):((n:Rat) / (d:Rat)).num.natAbs≤n.natAbs∧((n:Rat) / (d:Rat)).den≤d.natAbs:=by
 have key:∀ n d:Int,0<d→((n:Rat) / (d:Rat)).num.natAbs≤n.natAbs∧((n:Rat) / (d:Rat)).den≤d.natAbs:=fun n d hd=>by
  obtain ⟨e1,e2⟩:=yw (n:=n) hd
  have g1:=Nat.gcd_dvd_left n.natAbs d.natAbs
  have g2:=Nat.gcd_dvd_right n.natAbs d.natAbs
  have g0:0<Nat.gcd n.natAbs d.natAbs:=Nat.gcd_pos_of_pos_right _ zo
  generalize Nat.gcd n.natAbs d.natAbs=g at *
  generalize ((n:Rat) / (d:Rat))=q at *
  obtain ⟨a,ha⟩:=g1
  obtain ⟨b,hb⟩:=g2
  have h1:n=(g:Int)*(if 0≤n then (a:Int) else -(a:Int)):=by
   have:=congrArg (fun x:Nat=>(x:Int)) ha
   simp only [Int.natCast_mul] at this
   split
   ·omega
   ·rw [Int.mul_neg];omega
  have h2:d=(g:Int)*(b:Int):=by
   have:=congrArg (fun x:Nat=>(x:Int)) hb
   simp only [Int.natCast_mul] at this
   omega
  have h3:n / (g:Int)=(if 0≤n then (a:Int) else -(a:Int)):=by
   conv=>lhs;rw [h1]
   exact Int.mul_ediv_cancel_left _ zo
  have h4:d / (g:Int)=(b:Int):=by
   rw [h2]
   exact Int.mul_ediv_cancel_left _ zo
  rw [h3] at e1
  rw [h4] at e2
  have k1:a≤g*a:=Nat.le_mul_of_pos_left _ g0
  have k2:b≤g*b:=Nat.le_mul_of_pos_left _ g0
  refine ⟨?_,?_⟩
  ·rw [e1,ha]
   split<;>simp<;>exact k1
  ·rw [hb]
   have:q.den=b:=by exact_mod_cast e2
   omega
 by_cases h:0<d
 ·exact key n d h
 ·have:=key (-n) (-d) zo
  rw [show ((-n:Int):Rat) / ((-d:Int):Rat)=(n:Rat) / (d:Rat) by rw [Rat.intCast_neg,Rat.intCast_neg,Rat.div_def,Rat.div_def];grind,Int.natAbs_neg,Int.natAbs_neg] at this
  exact this
theorem xX {n:Int} (h1: -9223372036854775808≤n) (h2:n≤9223372036854775807):sz 10000 n.natAbs≤5 :=
 cZ zo 5 _ zo
theorem tT (n d:Int) (h1: -9223372036854775808≤n) (h2:n≤9223372036854775807) (h3: -9223372036854775808≤d) (h4:d≤9223372036854775807) (hd:d≠0) (w:World) :
  Calls Tryz.prog 110 #[.int .i64 n,.int .i64 d] w (dH w ((n:Rat) / (d:Rat))):=by
 have H1:=zh (fun W=>Ck n W h1 h2)
 have H2:=zh (fun W=>Ck d W h3 h4)
 have H3:=zh (fun x y W hx hy=>uM x y n d W hx hy (Nat.le_trans (xX h1 h2) zo) (Nat.le_trans (xX h3 h4) zo) hd)
 generalize (n:Rat) / (d:Rat)=q at *
 clear h1 h2 h3 h4 hd
 go_enter Tryz.func110,Tryz.ntmps110
 go_wp2_with fail
 obtain ⟨cO,EW,hz,X1⟩:=G7 w #[.bool false,.slice none 0 0,.bool false,.slice none 0 0] 152
 rw [EW]
 have hk2:=Bt (Below.refl _ _) hz
 clear EW hz
 refine (H1.out _).mono ?_
 rintro e iN ⟨v,rfl,hb3,hv4⟩
 obtain ⟨bA,kV,lA,kX,rfl⟩:=hv4.agg
 replace X1:=X1.bl hb3
 have hk5:=Bt hk2 hb3
 clear hk2
 have NA:=zh hv4
 clear hb3 hv4
 go_wp2_with fail
 refine (H2.out _).mono ?_
 rintro e fQ ⟨v,rfl,hb6,hv7⟩
 obtain ⟨bB,nu,lB,nD,rfl⟩:=hv7.agg
 replace X1:=X1.bl hb6
 replace NA:=zh (NA.out.later hb6)
 have jW:=Bt hk5 hb6
 clear hk5
 have NB:=zh hv7
 clear hb6 hv7
 go_wp2_with fail
 refine (H3.out _ _ _ NA.out NB.out).mono ?_
 rintro e wc9 ⟨_,rfl,gQ,bn,pn,ln,cn,bd,pd,ld,cd,rfl,hn,hd⟩
 replace X1:=X1.bl gQ
 replace NA:=zh (NA.out.later gQ)
 replace NB:=zh (NB.out.later gQ)
 have vR:=Bt jW gQ
 clear jW
 have NX:=zh hn
 have NY:=zh hd
 clear gQ hd hn
 obtain ⟨dW,dU,fG⟩:=X1.dx
 have hres:=X1.out
 have gW:=hres.cell
 have gV:=hres.free
 go_wp2_with fail
 refine bP rfl rfl aL Tryz.underlying152 rfl zk ?_
 have hx:=Pl.kJ NX.out hres zd (.bool bn) (.slice pn ln cn) (.bool bd) (.slice pd ld cd)
 have hy:=Pl.kJ NY.out hres zd (.bool bn) (.slice pn ln cn) (.bool bd) (.slice pd ld cd)
 exact ⟨_,rfl,aA,_,_,_,_,_,_,_,_,rfl,hx,hy⟩
theorem vC (n d:Int) (h1: -9223372036854775808≤n) (h2:n≤9223372036854775807) (h3: -9223372036854775808≤d) (h4:d≤9223372036854775807) (w:World) :
  Calls Tryz.prog 46 #[.int .i64 n,.int .i64 d] w (oM w (zY n d)):=by
 unfold zY
 by_cases hd:d=0
 ·subst hd
  rw [if_pos rfl]
  clear h1 h2 h3 h4
  go_enter Tryz.func46,Tryz.ntmps46
  go_wp2_with fail
  refine aP rfl rfl aL Tryz.underlying36 rfl zk ?_
  exact ⟨rfl,aA⟩
 ·rw [if_neg hd]
  have H1:=zh (fun W=>tT n d h1 h2 h3 h4 hd W)
  obtain ⟨l1,l2⟩:=yx (n:=n) hd
  have H2:=zh (fun x W hx=>qm x ((n:Rat) / (d:Rat)) W hx (Nat.le_trans (gN zo l1) (Nat.le_trans (xX h1 h2) zo)) (Nat.le_trans (gN zo l2) (Nat.le_trans (xX h3 h4) zo)))
  clear l1 l2
  generalize (n:Rat) / (d:Rat)=q at *
  obtain ⟨⟨⟨s1,s2⟩,k⟩,E⟩:∃ y,wr q=y:=⟨_,rfl⟩
  rw [E] at H2 ⊢
  replace H2:Hid (∀ x W,Ra W x q→Calls Tryz.prog 109 #[x] W (fun e w'=>e= .returned (.tuple #[.agg #[.string s1,.string s2],.int .i64 k])∧Below W.heap.size W w')):=H2
  clear E h1 h2 h3 h4
  go_enter Tryz.func46,Tryz.ntmps46
  go_wp2_with fail
  obtain ⟨cO,EW,hz,X1⟩:=G7 w #[.string ⟨#[]⟩,.string ⟨#[]⟩] 36
  rw [EW]
  have hk2:=Bt (Below.refl _ _) hz
  clear EW hz
  refine (H1.out _).mono ?_
  rintro e iN ⟨vq,rfl,hb3,hq⟩
  replace X1:=X1.bl hb3
  have hk5:=Bt hk2 hb3
  clear hk2
  have NQ:=zh hq
  clear hb3 hq
  go_wp2_with fail
  refine (H2.out _ _ NQ.out).mono ?_
  rintro e fQ ⟨rfl,hb6⟩
  replace X1:=X1.bl hb6
  replace NQ:=zh (NQ.out.later hb6)
  have jW:=Bt hk5 hb6
  clear hk5
  clear hb6
  obtain ⟨dW,dU,fG⟩:=X1.dx
  have hres:=X1.out
  have gW:=hres.cell
  have gV:=hres.free
  go_wp2_with fail
  refine aP rfl rfl aL Tryz.underlying36 rfl zk ?_
  exact ⟨rfl,aA⟩
theorem Vs {n d:Int} (h1: -999≤n∧n≤999) (h2:1≤d∧d≤60):dA ((n:Rat) / (d:Rat))=true:=by
 obtain ⟨l1,l2⟩:=yx (n:=n) (d:=d) zo
 have h3:2000<gK 600:=by
  unfold gK
  have:=Nat.pow_le_pow_right (n:=10) zo (show 4≤600 by omega)
  omega
 unfold dA JY
 rw [Bool.and_eq_true]
 exact ⟨decide_eq_true zo,decide_eq_true zo⟩
theorem Un (f1 f2:Bool) (v1 v2:Value) (z1 z2:Int) (w0:World) (h1:Words w0 v1) (h2:Words w0 v2):∃ q:Rat,dA q=true∧∀ w,Below w0.heap.size w0 w →
  Calls Tryz.prog 161 #[.agg #[.bool f1,v1,.int .u16 z1,.bool f2,v2,.int .u16 z2]] w (fun e w'=>e= .returned (Fr.of q).v∧Below w.heap.size w w'):=by
 have W0:∀ z:Int, -1000000000≤z∧z≤1000000000→IntKind.i64.wrap z=z:=fun z h=>by unfold IntKind.wrap;simp [IntKind.bits,IntKind.signed];split<;>omega
 obtain ⟨n,hn,A1⟩:=JK f1 v1 z1 w0 h1
 obtain ⟨m,hm,A2⟩:=JK f2 v2 z2 w0 h2
 obtain ⟨a1,n1,c1,U1,rfl, -⟩:=h1
 obtain ⟨a2,n2,c2,U2,rfl, -⟩:=h2
 obtain ⟨t,Et⟩:∃ t,n.tmod 1000=t:=⟨_,rfl⟩
 obtain ⟨r,Er⟩:∃ r,(if m<0 then -m else m).tmod 60=r:=⟨_,rfl⟩
 have e1:=Int.tmod_lt_of_pos n (show (0:Int)<1000 by omega)
 have e2:=Int.lt_tmod_of_pos n (show (0:Int)<1000 by omega)
 have e3:=Int.tmod_eq_emod_of_nonneg (b:=60) (show 0≤(if m<0 then -m else m) by split<;>omega)
 rw [Et] at e1 e2
 rw [Er] at e3
 have r0:0≤r∧r≤59:=by rw [e3];omega
 have wt:=W0 t zo
 have wr':=W0 r zo
 have wr1:=W0 (1+r) zo
 have wm:=W0 (-m) zo
 have hq:=Vs (n:=t) (d:=1+r) zo zo
 refine ⟨(t:Rat) / ((1+r:Int):Rat),hq,fun w hW=>?_⟩
 have H1:=zh (fun W (h:Below w.heap.size w W)=>A1 W (Bt hW h))
 have H2:=zh (fun W (h:Below w.heap.size w W)=>A2 W (Bt hW h))
 have H3:=zh (fun W=>tT t (1+r) zo zo zo zo zo W)
 obtain ⟨l1,l2⟩:=yx (n:=t) (d:=1+r) zo
 have H4:=zh (fun x W hx=>qm x ((t:Rat) / ((1+r:Int):Rat)) W hx (Nat.le_trans (gN zo l1) (Nat.le_trans (xX zo zo) zo)) (Nat.le_trans (gN zo l2) (Nat.le_trans (xX zo zo) zo)))
 clear A1 A2 hW l1 l2 W0
 generalize (t:Rat) / ((1+r:Int):Rat)=q at *
 have E:wr q=(Fr.of q,0):=by unfold wr;rw [if_pos hq]
 rw [E] at H4
 obtain ⟨⟨s1,s2⟩,EQ⟩:∃ y,Fr.of q=y:=⟨_,rfl⟩
 rw [EQ] at H4 ⊢
 replace H4:Hid (∀ x W,Ra W x q→Calls Tryz.prog 109 #[x] W (fun e w'=>e= .returned (.tuple #[.agg #[.string s1,.string s2],.int .i64 0])∧Below W.heap.size W w')):=H4
 unfold Fr.v
 clear E EQ hq e1 e2 e3 hn hm
 by_cases hm0:m<0
 ·rw [if_pos hm0] at Er
  go_enter Tryz.func161,Tryz.ntmps161
  go_wp2_with fail
  obtain ⟨cO,EW,hz,X1,X2⟩:=zU w #[.bool f1,.slice a1 n1 c1,.int .u16 z1,.bool f2,.slice a2 n2 c2,.int .u16 z2] 211 #[.string ⟨#[]⟩,.string ⟨#[]⟩] 36
  rw [EW]
  have hk2:=Bt (Below.refl _ _) hz
  clear EW hz
  refine (H2.out _ hk2).mono ?_
  rintro e iN ⟨rfl,hb3⟩
  replace X1:=X1.bl hb3
  replace X2:=X2.bl hb3
  have hk5:=Bt hk2 hb3
  clear hk2
  clear hb3
  obtain ⟨dW,dU,fG⟩:=X1.dx
  go_wp2_with fail
  clear dW dU fG
  refine (H1.out _ hk5).mono ?_
  rintro e fQ ⟨rfl,hb6⟩
  replace X1:=X1.bl hb6
  replace X2:=X2.bl hb6
  have jW:=Bt hk5 hb6
  clear hk5
  clear hb6
  go_wp2_with fail
  refine (H3.out _).mono ?_
  rintro e wc9 ⟨vq,rfl,gQ,hq⟩
  replace X1:=X1.bl gQ
  replace X2:=X2.bl gQ
  have vR:=Bt jW gQ
  clear jW
  have NQ:=zh hq
  clear gQ hq
  go_wp2_with fail
  refine (H4.out _ _ NQ.out).mono ?_
  rintro e Fa ⟨rfl,eZ⟩
  replace X1:=X1.bl eZ
  replace X2:=X2.bl eZ
  replace NQ:=zh (NQ.out.later eZ)
  have Gc:=Bt vR eZ
  clear vR
  clear eZ
  obtain ⟨dV,dS,gM⟩:=X2.dx
  have hres:=X2.out
  have gW:=hres.cell
  have gV:=hres.free
  go_wp2_with fail
  refine bP rfl rfl aL Tryz.underlying36 rfl zk ?_
  exact ⟨rfl,aA⟩
 ·rw [if_neg hm0] at Er
  go_enter Tryz.func161,Tryz.ntmps161
  go_wp2_with fail
  obtain ⟨cO,EW,hz,X1,X2⟩:=zU w #[.bool f1,.slice a1 n1 c1,.int .u16 z1,.bool f2,.slice a2 n2 c2,.int .u16 z2] 211 #[.string ⟨#[]⟩,.string ⟨#[]⟩] 36
  rw [EW]
  have hk2:=Bt (Below.refl _ _) hz
  clear EW hz
  refine (H2.out _ hk2).mono ?_
  rintro e iN ⟨rfl,hb3⟩
  replace X1:=X1.bl hb3
  replace X2:=X2.bl hb3
  have hk5:=Bt hk2 hb3
  clear hk2
  clear hb3
  obtain ⟨dW,dU,fG⟩:=X1.dx
  go_wp2_with fail
  clear dW dU fG
  refine (H1.out _ hk5).mono ?_
  rintro e fQ ⟨rfl,hb6⟩
  replace X1:=X1.bl hb6
  replace X2:=X2.bl hb6
  have jW:=Bt hk5 hb6
  clear hk5
  clear hb6
  go_wp2_with fail
  refine (H3.out _).mono ?_
  rintro e wc9 ⟨vq,rfl,gQ,hq⟩
  replace X1:=X1.bl gQ
  replace X2:=X2.bl gQ
  have vR:=Bt jW gQ
  clear jW
  have NQ:=zh hq
  clear gQ hq
  go_wp2_with fail
  refine (H4.out _ _ NQ.out).mono ?_
  rintro e Fa ⟨rfl,eZ⟩
  replace X1:=X1.bl eZ
  replace X2:=X2.bl eZ
  replace NQ:=zh (NQ.out.later eZ)
  have Gc:=Bt vR eZ
  clear vR
  clear eZ
  obtain ⟨dV,dS,gM⟩:=X2.dx
  have hres:=X2.out
  have gW:=hres.cell
  have gV:=hres.free
  go_wp2_with fail
  refine bP rfl rfl aL Tryz.underlying36 rfl zk ?_
  exact ⟨rfl,aA⟩
theorem vF {n k:Nat} (h:sz 1000000000 n≤k):sz 10000 n≤3*k:=by
 refine cZ zo _ _ ?_
 have h1:=gZ (B:=1000000000) zo n
 have h2:(1000000000:Nat)^sz 1000000000 n≤1000000000^k:=Nat.pow_le_pow_right zo h
 have h3:(1000000000:Nat)^k≤(10000^3)^k:=Nat.pow_le_pow_left zd k
 rw [Nat.pow_mul]
 omega
theorem uw (q:Rat):q=(q.num:Rat) / ((q.den:Int):Rat):=by
 have:=Rat.mkRat_self q
 rw [Rat.mkRat_eq_div] at this
 exact this.symm
theorem DC (q:Rat):((q.den:Int):Rat)≠0:=fun e=>by
 have h:(q.den:Int)=0:=by exact_mod_cast e
 have:=q.den_pos
 omega
theorem Vo (p q:Rat):((p.num*q.num:Int):Rat) / (((p.den:Int)*(q.den:Int):Int):Rat)=p*q:=by
 have h1:=uw p
 have h2:=uw q
 have d1:=DC p
 have d2:=DC q
 rw [Rat.intCast_mul,Rat.intCast_mul]
 generalize (p.num:Rat)=a at *
 generalize ((p.den:Int):Rat)=b at *
 generalize (q.num:Rat)=c at *
 generalize ((q.den:Int):Rat)=d at *
 subst h1 h2
 grind
theorem Zc (p q:Rat) (hq:q≠0):((p.num*(q.den:Int):Int):Rat) / (((p.den:Int)*q.num:Int):Rat)=p / q:=by
 have h1:=uw p
 have h2:=uw q
 have d1:=DC p
 have d2:=DC q
 have d3:((q.num:Int):Rat)≠0:=fun e=>hq (by rw [h2,e];grind)
 rw [Rat.intCast_mul,Rat.intCast_mul]
 generalize (p.num:Rat)=a at *
 generalize ((p.den:Int):Rat)=b at *
 generalize (q.num:Rat)=c at *
 generalize ((q.den:Int):Rat)=d at *
 subst h1 h2
 grind
theorem YX (p q:Rat):((p.num*(q.den:Int)+q.num*(p.den:Int):Int):Rat) / (((p.den:Int)*(q.den:Int):Int):Rat)=p+q:=by
 have h1:=uw p
 have h2:=uw q
 have d1:=DC p
 have d2:=DC q
 rw [Rat.intCast_add,Rat.intCast_mul,Rat.intCast_mul,Rat.intCast_mul]
 generalize (p.num:Rat)=a at *
 generalize ((p.den:Int):Rat)=b at *
 generalize (q.num:Rat)=c at *
 generalize ((q.den:Int):Rat)=d at *
 subst h1 h2
 grind
theorem eP.four {k:Nat} {q:Rat} (h:eP k q):sz 10000 q.num.natAbs≤3*k∧sz 10000 (q.den:Int).natAbs≤3*k:=⟨vF h.1,by rw [Int.natAbs_natCast];exact vF h.2⟩
theorem nK {a b:Int} {m n:Nat} (h:sz 10000 a.natAbs≤m) (k:sz 10000 b.natAbs≤n):sz 10000 (a*b).natAbs≤m+n:=by
 rw [Int.natAbs_mul]
 have:=qV (B:=10000) zo a.natAbs b.natAbs
 omega
theorem Vq {a b:Int} {m:Nat} (h:sz 10000 a.natAbs≤m) (k:sz 10000 b.natAbs≤m):sz 10000 (a+b).natAbs≤m+1:=by
 have h1:=gN (B:=10000) zo (Int.natAbs_add_le a b)
 have h2:=Q8 (B:=10000) zo a.natAbs b.natAbs
 omega
theorem pJ (x:Value) (p:Rat) (w:World) (hx:Ra w x p):Calls Tryz.prog 103 #[x] w (dH w (-p)):=by
 obtain ⟨bA,kV,lA,kX,J4,uR,JZ,uW,rfl,hA1,hA2⟩:=id hx
 have QA:=zh hx
 have NA:=zh hA1
 have uL:=zh hA2
 obtain ⟨z,ez⟩:∃ z,p.num=z:=⟨_,rfl⟩
 obtain ⟨d,ed⟩:∃ d,p.den=d:=⟨_,rfl⟩
 have hq:∀ w v,Ra w v (-p)↔∃ bn pn ln cn bd pd ld cd,v= .agg #[.bool bn,.slice pn ln cn,.bool bd,.slice pd ld cd]∧Pl w (.agg #[.bool bn,.slice pn ln cn]) (-z)∧Pl w (.agg #[.bool bd,.slice pd ld cd]) d:=fun w v=>by
  unfold Ra
  rw [Rat.neg_num,Rat.neg_den,ez,ed]
 have HQ:=zh hq
 rw [ez] at NA
 rw [ed] at uL
 clear hx hA1 hA2 ez ed hq
 go_enter Tryz.func103,Tryz.ntmps103
 go_wp2_with fail
 obtain ⟨cO,EW,hz,X1,X2⟩:=zU w #[.bool bA,.slice kV lA kX,.bool J4,.slice uR JZ uW] 152 #[.bool false,.slice none 0 0,.bool false,.slice none 0 0] 152
 rw [EW]
 replace NA:=zh (NA.out.later hz)
 replace uL:=zh (uL.out.later hz)
 have hk2:=Bt (Below.refl _ _) hz
 clear EW hz
 obtain ⟨dW,dU,fG⟩:=X1.dx
 refine aC [(.pure,0),(.read,1),(.pure,3),(.read,4),(.ext,2),(.pure,5),(.fin,6)] zk zk zR zP ?_
 repeat (first|(refine ah rfl rfl fun J h=>?_;go_simp;refine h _ ?_;clear h J)|(refine au rfl rfl rfl rfl fun J h=>?_;go_simp;refine h _ ?_;clear h J;try go_simp))
 refine aD rfl rfl (fun uO hb3 J hJ=>?_);go_simp
 have hh3:Below cO.heap.size cO uO:=aA
 clear hb3
 refine (aF.pJ _ _ _ (NA.out.later hh3)).mono ?_
 rintro e rT ⟨v,rfl,hb4,hv5⟩
 obtain ⟨bB,nu,lB,nD,rfl⟩:=hv5.agg
 refine hJ _ _ hb4 ?_
 clear hJ J
 have nG:=Bt hh3 hb4
 have NB:=zh hv5
 clear hh3 hb4 hv5
 repeat (first|(refine ah rfl rfl fun J h=>?_;go_simp;refine h _ ?_;clear h J)|(refine au rfl rfl rfl rfl fun J h=>?_;go_simp;refine h _ ?_;clear h J;try go_simp))
 refine aJ [_] rfl (fun JX Wo=>?_)
 replace NB:=zh (NB.out.later (show Below rT.heap.size rT JX from aA))
 have ig:Below cO.heap.size cO JX:=Bt nG aA
 clear Wo nG
 clear dW dU fG
 replace NA:=zh (NA.out.later ig)
 replace uL:=zh (uL.out.later ig)
 replace X1:=X1.bl ig
 replace X2:=X2.bl ig
 have Cx:=Bt hk2 ig
 clear hk2
 clear ig
 obtain ⟨dV,dS,gM⟩:=X2.dx
 have hres:=X2.out
 have gW:=hres.cell
 have gV:=hres.free
 go_wp2_with fail
 refine bP rfl rfl aL Tryz.underlying152 rfl zk ?_
 exact ⟨_,rfl,aA,(HQ.out _ _).2 ⟨_,_,_,_,_,_,_,_,rfl,Pl.kJ NB.out hres zd _ _ _ _,Pl.kJ uL.out hres zd _ _ _ _⟩⟩
theorem iM (x y:Value) (p q:Rat) (w:World) (hx:Ra w x p) (hy:Ra w y q) (h1:eP 10000000000 p) (h2:eP 10000000000 q):Calls Tryz.prog 156 #[x,y] w (dH w (p*q)):=by
 obtain ⟨bA,kV,lA,kX,J4,uR,JZ,uW,rfl,hA1,hA2⟩:=id hx;obtain ⟨bB,nu,lB,nD,Ob,wM,Ni,xG,rfl,hB1,hB2⟩:=id hy;have QA:=zh hx;have NA:=zh hA1;have uL:=zh hA2;have QB:=zh hy;have NB:=zh hB1;have yN:=zh hB2
 obtain ⟨s1,s2⟩:=eP.four h1;obtain ⟨s3,s4⟩:=eP.four h2;have S1:Hid (sz 10000 p.num.natAbs≤549755813888):=zh zo;have S2:Hid (sz 10000 (p.den:Int).natAbs≤549755813888):=zh zo;have S3:Hid (sz 10000 q.num.natAbs≤549755813888):=zh zo;have S4:Hid (sz 10000 (q.den:Int).natAbs≤549755813888):=zh zo
 have L1:Hid (sz 10000 (p.num*q.num).natAbs≤274877906944):=zh (by have:=nK s1 s3;omega)
 have L2:Hid (sz 10000 ((p.den:Int)*(q.den:Int)).natAbs≤274877906944):=zh (by have:=nK s2 s4;omega)
 have L3:Hid ((p.den:Int)*(q.den:Int)≠0):=zh (Int.mul_ne_zero (by have:=p.den_pos;omega) (by have:=q.den_pos;omega))
 have HL:=zh (fun x y w hx hy=>uM x y (p.num*q.num) ((p.den:Int)*(q.den:Int)) w hx hy L1.out L2.out L3.out)
 rw [Vo] at HL
 clear hx hy hA1 hA2 hB1 hB2 h1 h2 s1 s2 s3 s4 L1 L2 L3
 go_enter Tryz.func156,Tryz.ntmps156
 go_wp2_with fail
 obtain ⟨cO,EW,hz,X1,X2,X3⟩:=yM w #[.bool bA,.slice kV lA kX,.bool J4,.slice uR JZ uW] 152 #[.bool bB,.slice nu lB nD,.bool Ob,.slice wM Ni xG] 152 #[.bool false,.slice none 0 0,.bool false,.slice none 0 0] 152
 rw [EW]
 replace NA:=zh (NA.out.later hz)
 replace uL:=zh (uL.out.later hz)
 replace NB:=zh (NB.out.later hz)
 replace yN:=zh (yN.out.later hz)
 have hk2:=Bt (Below.refl _ _) hz
 clear EW hz
 obtain ⟨dW,dU,fG⟩:=X1.dx
 obtain ⟨dV,dS,gM⟩:=X2.dx
 refine aC [(.pure,0),(.read,1),(.pure,2),(.read,3),(.pure,5),(.read,6),(.pure,7),(.read,8),(.ext,4),(.ext,9),(.ext,10),(.fin,11)] zk zk zR zP ?_
 repeat (first|(refine ah rfl rfl fun J h=>?_;go_simp;refine h _ ?_;clear h J)|(refine au rfl rfl rfl rfl fun J h=>?_;go_simp;refine h _ ?_;clear h J;try go_simp))
 refine aD rfl rfl (fun uO hb3 J hJ=>?_);go_simp
 have hh3:Below cO.heap.size cO uO:=aA
 clear hb3
 refine (aF.iM _ _ _ _ _ (NA.out.later hh3) (NB.out.later hh3) S1.out S3.out).mono ?_
 rintro e rT ⟨v,rfl,hb4,hv5⟩
 obtain ⟨bC,Cw,lC,Cz,rfl⟩:=hv5.agg
 refine hJ _ _ hb4 ?_
 clear hJ J
 have nG:=Bt hh3 hb4
 have NC:=zh hv5
 clear hh3 hb4 hv5
 repeat (first|(refine ah rfl rfl fun J h=>?_;go_simp;refine h _ ?_;clear h J)|(refine au rfl rfl rfl rfl fun J h=>?_;go_simp;refine h _ ?_;clear h J;try go_simp))
 refine aD rfl rfl (fun qQ hb6 J hJ=>?_);go_simp
 have ig:Below cO.heap.size cO qQ:=Bt nG aA
 replace NC:=zh (NC.out.later (show Below rT.heap.size rT qQ from aA))
 clear hb6 nG
 refine (aF.iM _ _ _ _ _ (uL.out.later ig) (yN.out.later ig) S2.out S4.out).mono ?_
 rintro e kC ⟨v,rfl,dY,kD⟩
 obtain ⟨bD,Ir,lD,Jz,rfl⟩:=kD.agg
 refine hJ _ _ dY ?_
 clear hJ J
 have o9:=Bt ig dY
 replace NC:=zh (NC.out.later dY)
 have ND:=zh kD
 clear ig dY kD
 repeat (first|(refine ah rfl rfl fun J h=>?_;go_simp;refine h _ ?_;clear h J)|(refine au rfl rfl rfl rfl fun J h=>?_;go_simp;refine h _ ?_;clear h J;try go_simp))
 refine aD rfl rfl (fun oU gQ J hJ=>?_);go_simp
 have gI:Below cO.heap.size cO oU:=Bt o9 aA
 replace NC:=zh (NC.out.later (show Below kC.heap.size kC oU from aA))
 replace ND:=zh (ND.out.later (show Below kC.heap.size kC oU from aA))
 clear gQ o9
 refine (HL.out _ _ _ NC.out ND.out).mono ?_
 rintro e dN ⟨v,rfl,dh,gy⟩
 obtain ⟨bE,paE,lE,caE,bEd,Y8,lEd,ag1,rfl,Bo,Bn⟩:=id gy
 refine hJ _ _ dh ?_
 clear hJ J
 have fF:=Bt gI dh
 replace NC:=zh (NC.out.later dh)
 replace ND:=zh (ND.out.later dh)
 have QE:=zh gy
 clear gI dh gy Bo Bn
 repeat (first|(refine ah rfl rfl fun J h=>?_;go_simp;refine h _ ?_;clear h J)|(refine au rfl rfl rfl rfl fun J h=>?_;go_simp;refine h _ ?_;clear h J;try go_simp))
 refine aJ [_] rfl (fun mZ yC=>?_)
 replace NC:=zh (NC.out.later (show Below dN.heap.size dN mZ from aA))
 replace ND:=zh (ND.out.later (show Below dN.heap.size dN mZ from aA))
 replace QE:=zh (QE.out.later (show Below dN.heap.size dN mZ from aA))
 have hh12:Below cO.heap.size cO mZ:=Bt fF aA
 clear yC fF
 clear dW dU fG dV dS gM
 replace NA:=zh (NA.out.later hh12)
 replace uL:=zh (uL.out.later hh12)
 replace NB:=zh (NB.out.later hh12)
 replace yN:=zh (yN.out.later hh12)
 replace X1:=X1.bl hh12
 replace X2:=X2.bl hh12
 replace X3:=X3.bl hh12
 have Lj:=Bt hk2 hh12
 clear hk2
 clear hh12
 clear NC
 clear ND
 obtain ⟨mF,mD,pz⟩:=X3.dx
 have hres:=X3.out
 have gW:=hres.cell
 have gV:=hres.free
 go_wp2_with fail
 refine bP rfl rfl aL Tryz.underlying152 rfl zk ?_
 exact ⟨_,rfl,aA,Ra.kJ QE.out hres zd _ _ _ _⟩
theorem Oj (x y:Value) (p q:Rat) (w:World) (hx:Ra w x p) (hy:Ra w y q) (h1:eP 10000000000 p) (h2:eP 10000000000 q) (h0:q≠0):Calls Tryz.prog 101 #[x,y] w (dH w (p / q)):=by
 obtain ⟨bA,kV,lA,kX,J4,uR,JZ,uW,rfl,hA1,hA2⟩:=id hx;obtain ⟨bB,nu,lB,nD,Ob,wM,Ni,xG,rfl,hB1,hB2⟩:=id hy;have QA:=zh hx;have NA:=zh hA1;have uL:=zh hA2;have QB:=zh hy;have NB:=zh hB1;have yN:=zh hB2
 obtain ⟨s1,s2⟩:=eP.four h1;obtain ⟨s3,s4⟩:=eP.four h2;have S1:Hid (sz 10000 p.num.natAbs≤549755813888):=zh zo;have S2:Hid (sz 10000 (p.den:Int).natAbs≤549755813888):=zh zo;have S3:Hid (sz 10000 q.num.natAbs≤549755813888):=zh zo;have S4:Hid (sz 10000 (q.den:Int).natAbs≤549755813888):=zh zo
 have L1:Hid (sz 10000 (p.num*(q.den:Int)).natAbs≤274877906944):=zh (by have:=nK s1 s4;omega)
 have L2:Hid (sz 10000 ((p.den:Int)*q.num).natAbs≤274877906944):=zh (by have:=nK s2 s3;omega)
 have L3:Hid ((p.den:Int)*q.num≠0):=zh (Int.mul_ne_zero (by have:=p.den_pos;omega) (fun e=>h0 (Rat.num_eq_zero.1 e)))
 have HL:=zh (fun x y w hx hy=>uM x y (p.num*(q.den:Int)) ((p.den:Int)*q.num) w hx hy L1.out L2.out L3.out)
 rw [Zc p q h0] at HL
 clear hx hy hA1 hA2 hB1 hB2 h1 h2 s1 s2 s3 s4 L1 L2 L3 h0
 go_enter Tryz.func101,Tryz.ntmps101
 go_wp2_with fail
 obtain ⟨cO,EW,hz,X1,X2,X3⟩:=yM w #[.bool bA,.slice kV lA kX,.bool J4,.slice uR JZ uW] 152 #[.bool bB,.slice nu lB nD,.bool Ob,.slice wM Ni xG] 152 #[.bool false,.slice none 0 0,.bool false,.slice none 0 0] 152
 rw [EW]
 replace NA:=zh (NA.out.later hz)
 replace uL:=zh (uL.out.later hz)
 replace NB:=zh (NB.out.later hz)
 replace yN:=zh (yN.out.later hz)
 have hk2:=Bt (Below.refl _ _) hz
 clear EW hz
 obtain ⟨dW,dU,fG⟩:=X1.dx
 obtain ⟨dV,dS,gM⟩:=X2.dx
 refine aC [(.pure,0),(.read,1),(.pure,2),(.read,3),(.pure,5),(.read,6),(.pure,7),(.read,8),(.ext,4),(.ext,9),(.ext,10),(.fin,11)] zk zk zR zP ?_
 repeat (first|(refine ah rfl rfl fun J h=>?_;go_simp;refine h _ ?_;clear h J)|(refine au rfl rfl rfl rfl fun J h=>?_;go_simp;refine h _ ?_;clear h J;try go_simp))
 refine aD rfl rfl (fun uO hb3 J hJ=>?_);go_simp
 have hh3:Below cO.heap.size cO uO:=aA
 clear hb3
 refine (aF.iM _ _ _ _ _ (NA.out.later hh3) (yN.out.later hh3) S1.out S4.out).mono ?_
 rintro e rT ⟨v,rfl,hb4,hv5⟩
 obtain ⟨bC,Cw,lC,Cz,rfl⟩:=hv5.agg
 refine hJ _ _ hb4 ?_
 clear hJ J
 have nG:=Bt hh3 hb4
 have NC:=zh hv5
 clear hh3 hb4 hv5
 repeat (first|(refine ah rfl rfl fun J h=>?_;go_simp;refine h _ ?_;clear h J)|(refine au rfl rfl rfl rfl fun J h=>?_;go_simp;refine h _ ?_;clear h J;try go_simp))
 refine aD rfl rfl (fun qQ hb6 J hJ=>?_);go_simp
 have ig:Below cO.heap.size cO qQ:=Bt nG aA
 replace NC:=zh (NC.out.later (show Below rT.heap.size rT qQ from aA))
 clear hb6 nG
 refine (aF.iM _ _ _ _ _ (uL.out.later ig) (NB.out.later ig) S2.out S3.out).mono ?_
 rintro e kC ⟨v,rfl,dY,kD⟩
 obtain ⟨bD,Ir,lD,Jz,rfl⟩:=kD.agg
 refine hJ _ _ dY ?_
 clear hJ J
 have o9:=Bt ig dY
 replace NC:=zh (NC.out.later dY)
 have ND:=zh kD
 clear ig dY kD
 repeat (first|(refine ah rfl rfl fun J h=>?_;go_simp;refine h _ ?_;clear h J)|(refine au rfl rfl rfl rfl fun J h=>?_;go_simp;refine h _ ?_;clear h J;try go_simp))
 refine aD rfl rfl (fun oU gQ J hJ=>?_);go_simp
 have gI:Below cO.heap.size cO oU:=Bt o9 aA
 replace NC:=zh (NC.out.later (show Below kC.heap.size kC oU from aA))
 replace ND:=zh (ND.out.later (show Below kC.heap.size kC oU from aA))
 clear gQ o9
 refine (HL.out _ _ _ NC.out ND.out).mono ?_
 rintro e dN ⟨v,rfl,dh,gy⟩
 obtain ⟨bE,paE,lE,caE,bEd,Y8,lEd,ag1,rfl,Bo,Bn⟩:=id gy
 refine hJ _ _ dh ?_
 clear hJ J
 have fF:=Bt gI dh
 replace NC:=zh (NC.out.later dh)
 replace ND:=zh (ND.out.later dh)
 have QE:=zh gy
 clear gI dh gy Bo Bn
 repeat (first|(refine ah rfl rfl fun J h=>?_;go_simp;refine h _ ?_;clear h J)|(refine au rfl rfl rfl rfl fun J h=>?_;go_simp;refine h _ ?_;clear h J;try go_simp))
 refine aJ [_] rfl (fun mZ yC=>?_)
 replace NC:=zh (NC.out.later (show Below dN.heap.size dN mZ from aA))
 replace ND:=zh (ND.out.later (show Below dN.heap.size dN mZ from aA))
 replace QE:=zh (QE.out.later (show Below dN.heap.size dN mZ from aA))
 have hh12:Below cO.heap.size cO mZ:=Bt fF aA
 clear yC fF
 clear dW dU fG dV dS gM
 replace NA:=zh (NA.out.later hh12)
 replace uL:=zh (uL.out.later hh12)
 replace NB:=zh (NB.out.later hh12)
 replace yN:=zh (yN.out.later hh12)
 replace X1:=X1.bl hh12
 replace X2:=X2.bl hh12
 replace X3:=X3.bl hh12
 have Lj:=Bt hk2 hh12
 clear hk2
 clear hh12
 clear NC
 clear ND
 obtain ⟨mF,mD,pz⟩:=X3.dx
 have hres:=X3.out
 have gW:=hres.cell
 have gV:=hres.free
 go_wp2_with fail
 refine bP rfl rfl aL Tryz.underlying152 rfl zk ?_
 exact ⟨_,rfl,aA,Ra.kJ QE.out hres zd _ _ _ _⟩
theorem rO (x y:Value) (p q:Rat) (w:World) (hx:Ra w x p) (hy:Ra w y q) (h1:eP 10000000000 p) (h2:eP 10000000000 q):Calls Tryz.prog 157 #[x,y] w (dH w (p+q)):=by
 obtain ⟨bA,kV,lA,kX,J4,uR,JZ,uW,rfl,hA1,hA2⟩:=id hx;obtain ⟨bB,nu,lB,nD,Ob,wM,Ni,xG,rfl,hB1,hB2⟩:=id hy;have QA:=zh hx;have NA:=zh hA1;have uL:=zh hA2;have QB:=zh hy;have NB:=zh hB1;have yN:=zh hB2
 obtain ⟨s1,s2⟩:=eP.four h1;obtain ⟨s3,s4⟩:=eP.four h2;have S1:Hid (sz 10000 p.num.natAbs≤549755813888):=zh zo;have S2:Hid (sz 10000 (p.den:Int).natAbs≤549755813888):=zh zo;have S3:Hid (sz 10000 q.num.natAbs≤549755813888):=zh zo;have S4:Hid (sz 10000 (q.den:Int).natAbs≤549755813888):=zh zo
 have a1:=nK s1 s4
 have a2:=nK s3 s2
 have P1:Hid (sz 10000 (p.num*(q.den:Int)).natAbs≤549755813888):=zh zo
 have P2:Hid (sz 10000 (q.num*(p.den:Int)).natAbs≤549755813888):=zh zo
 have L1:Hid (sz 10000 (p.num*(q.den:Int)+q.num*(p.den:Int)).natAbs≤274877906944):=zh (by have:=Vq a1 a2;omega)
 have L2:Hid (sz 10000 ((p.den:Int)*(q.den:Int)).natAbs≤274877906944):=zh (by have:=nK s2 s4;omega)
 have L3:Hid ((p.den:Int)*(q.den:Int)≠0):=zh (Int.mul_ne_zero (by have:=p.den_pos;omega) (by have:=q.den_pos;omega))
 have HL:=zh (fun x y w hx hy=>uM x y (p.num*(q.den:Int)+q.num*(p.den:Int)) ((p.den:Int)*(q.den:Int)) w hx hy L1.out L2.out L3.out)
 rw [YX] at HL
 clear hx hy hA1 hA2 hB1 hB2 h1 h2 s1 s2 s3 s4 L1 L2 L3 a1 a2
 go_enter Tryz.func157,Tryz.ntmps157
 go_wp2_with fail
 obtain ⟨cO,EW,hz,X1,X2,X3⟩:=yM w #[.bool bA,.slice kV lA kX,.bool J4,.slice uR JZ uW] 152 #[.bool bB,.slice nu lB nD,.bool Ob,.slice wM Ni xG] 152 #[.bool false,.slice none 0 0,.bool false,.slice none 0 0] 152
 rw [EW]
 replace NA:=zh (NA.out.later hz)
 replace uL:=zh (uL.out.later hz)
 replace NB:=zh (NB.out.later hz)
 replace yN:=zh (yN.out.later hz)
 have hk2:=Bt (Below.refl _ _) hz
 clear EW hz
 obtain ⟨dW,dU,fG⟩:=X1.dx
 obtain ⟨dV,dS,gM⟩:=X2.dx
 refine aC [(.pure,0),(.read,1),(.pure,2),(.read,3),(.pure,5),(.read,6),(.pure,7),(.read,8),(.ext,4),(.ext,9),(.ext,10),(.alloc #[.bool false,.slice none 0 0] 150,11),(.fin,12)] zk zk zR zP ?_
 repeat (first|(refine ah rfl rfl fun J h=>?_;go_simp;refine h _ ?_;clear h J)|(refine au rfl rfl rfl rfl fun J h=>?_;go_simp;refine h _ ?_;clear h J;try go_simp))
 refine aD rfl rfl (fun uO hb3 J hJ=>?_);go_simp
 have hh3:Below cO.heap.size cO uO:=aA
 clear hb3
 refine (aF.iM _ _ _ _ _ (NA.out.later hh3) (yN.out.later hh3) S1.out S4.out).mono ?_
 rintro e rT ⟨v,rfl,hb4,hv5⟩
 obtain ⟨bC,Cw,lC,Cz,rfl⟩:=hv5.agg
 refine hJ _ _ hb4 ?_
 clear hJ J
 have nG:=Bt hh3 hb4
 have NC:=zh hv5
 clear hh3 hb4 hv5
 repeat (first|(refine ah rfl rfl fun J h=>?_;go_simp;refine h _ ?_;clear h J)|(refine au rfl rfl rfl rfl fun J h=>?_;go_simp;refine h _ ?_;clear h J;try go_simp))
 refine aD rfl rfl (fun qQ hb6 J hJ=>?_);go_simp
 have ig:Below cO.heap.size cO qQ:=Bt nG aA
 replace NC:=zh (NC.out.later (show Below rT.heap.size rT qQ from aA))
 clear hb6 nG
 refine (aF.iM _ _ _ _ _ (NB.out.later ig) (uL.out.later ig) S3.out S2.out).mono ?_
 rintro e kC ⟨v,rfl,dY,kD⟩
 obtain ⟨bD,Ir,lD,Jz,rfl⟩:=kD.agg
 refine hJ _ _ dY ?_
 clear hJ J
 have o9:=Bt ig dY
 replace NC:=zh (NC.out.later dY)
 have ND:=zh kD
 clear ig dY kD
 repeat (first|(refine ah rfl rfl fun J h=>?_;go_simp;refine h _ ?_;clear h J)|(refine au rfl rfl rfl rfl fun J h=>?_;go_simp;refine h _ ?_;clear h J;try go_simp))
 refine aD rfl rfl (fun oU gQ J hJ=>?_);go_simp
 have gI:Below cO.heap.size cO oU:=Bt o9 aA
 replace NC:=zh (NC.out.later (show Below kC.heap.size kC oU from aA))
 replace ND:=zh (ND.out.later (show Below kC.heap.size kC oU from aA))
 clear gQ o9
 refine (aF.rO _ _ _ _ _ NC.out ND.out P1.out P2.out).mono ?_
 rintro e dN ⟨v,rfl,dh,gy⟩
 obtain ⟨bF,paF,lF,caF,rfl⟩:=gy.agg
 refine hJ _ _ dh ?_
 clear hJ J
 have fF:=Bt gI dh
 replace NC:=zh (NC.out.later dh)
 replace ND:=zh (ND.out.later dh)
 have NF:=zh gy
 clear gI dh gy
 repeat (first|(refine ah rfl rfl fun J h=>?_;go_simp;refine h _ ?_;clear h J)|(refine au rfl rfl rfl rfl fun J h=>?_;go_simp;refine h _ ?_;clear h J;try go_simp))
 refine aQ rfl (fun yK aB8 Sy qb Ga LG oz=>?_);go_simp;replace oz:aB _ _ _ _:=oz;have LC:w.heap.size≤yK:=(by first|omega|exact Nat.le_trans (Below.size (B:=w.heap.size) aA) qb)
 refine aJ [_] rfl (fun QZ au8=>?_)
 replace NC:=zh (NC.out.later (show Below dN.heap.size dN QZ from aA))
 replace ND:=zh (ND.out.later (show Below dN.heap.size dN QZ from aA))
 replace NF:=zh (NF.out.later (show Below dN.heap.size dN QZ from aA))
 have mR:Below cO.heap.size cO QZ:=Bt fF aA
 have hq0:=oz.later au8;have TW:=hq0.cell;have TA:=hq0.free
 clear oz au8 fF
 clear dW dU fG dV dS gM
 go_wp2_with fail
 obtain ⟨Hw,EW⟩:∃ y,((QZ.setCell ⟨yK,0,none⟩ (.bool bF)).setCell ⟨yK,1,none⟩ (.slice paF lF caF))=y:=⟨_,rfl⟩
 have hz:Below cO.heap.size cO Hw:=by rw [← EW];exact ((mR.setCell qb _).setCell qb _)
 have X4:Hid (aB Hw yK #[.bool bF,.slice paF lF caF] 150):=zh (by rw [← EW];exact ((hq0.set 0 _).set 1 _))
 clear NC
 clear ND
 have t:=((NF.out.setOther hq0 zd 0 (.bool bF)).setOther (hq0.set 0 _) zd 1 (.slice paF lF caF))
 rw [EW] at t
 replace NF:=zh t
 clear t
 rw [EW]
 clear EW hq0 TW TA mR
 replace NA:=zh (NA.out.later hz)
 replace uL:=zh (uL.out.later hz)
 replace NB:=zh (NB.out.later hz)
 replace yN:=zh (yN.out.later hz)
 replace X1:=X1.bl hz
 replace X2:=X2.bl hz
 replace X3:=X3.bl hz
 have CZ:=Bt hk2 hz
 clear hk2
 clear hz
 clear Sy qb Ga LG LC
 go_wp2_with fail
 obtain ⟨zT,zF,P6⟩:=X4.dx
 obtain ⟨dW,dU,fG⟩:=X1.dx
 obtain ⟨dV,dS,gM⟩:=X2.dx
 refine aC [(.read,0),(.pure,1),(.read,2),(.pure,3),(.read,4),(.ext,5),(.ext,6),(.fin,7)] zk zk zR zP ?_
 repeat (first|(refine ah rfl rfl fun J h=>?_;go_simp;refine h _ ?_;clear h J)|(refine au rfl rfl rfl rfl fun J h=>?_;go_simp;refine h _ ?_;clear h J;try go_simp))
 refine aD rfl rfl (fun YN iZ J hJ=>?_);go_simp
 have oC:Below Hw.heap.size Hw YN:=aA
 clear iZ
 refine (aF.iM _ _ _ _ _ (uL.out.later oC) (yN.out.later oC) S2.out S4.out).mono ?_
 rintro e OH ⟨v,rfl,oP,ZF⟩
 obtain ⟨bG,Qz,lG,QL,rfl⟩:=ZF.agg
 refine hJ _ _ oP ?_
 clear hJ J
 have sP:=Bt oC oP
 have NG:=zh ZF
 clear oC oP ZF
 repeat (first|(refine ah rfl rfl fun J h=>?_;go_simp;refine h _ ?_;clear h J)|(refine au rfl rfl rfl rfl fun J h=>?_;go_simp;refine h _ ?_;clear h J;try go_simp))
 refine aD rfl rfl (fun an9 iO J hJ=>?_);go_simp
 have pY:Below Hw.heap.size Hw an9:=Bt sP aA
 replace NG:=zh (NG.out.later (show Below OH.heap.size OH an9 from aA))
 clear iO sP
 refine (HL.out _ _ _ (NF.out.later pY) NG.out).mono ?_
 rintro e Q0 ⟨v,rfl,sS,Lg⟩
 obtain ⟨bE,paE,lE,caE,bEd,Y8,lEd,ag1,rfl,aD5,aD3⟩:=id Lg
 refine hJ _ _ sS ?_
 clear hJ J
 have PN:=Bt pY sS
 replace NG:=zh (NG.out.later sS)
 have QE:=zh Lg
 clear pY sS Lg aD5 aD3
 repeat (first|(refine ah rfl rfl fun J h=>?_;go_simp;refine h _ ?_;clear h J)|(refine au rfl rfl rfl rfl fun J h=>?_;go_simp;refine h _ ?_;clear h J;try go_simp))
 refine aJ [_] rfl (fun YM aF0=>?_)
 replace NG:=zh (NG.out.later (show Below Q0.heap.size Q0 YM from aA))
 replace QE:=zh (QE.out.later (show Below Q0.heap.size Q0 YM from aA))
 have Bq:Below Hw.heap.size Hw YM:=Bt PN aA
 clear aF0 PN
 clear zT zF P6 dW dU fG dV dS gM
 replace NA:=zh (NA.out.later Bq)
 replace uL:=zh (uL.out.later Bq)
 replace NB:=zh (NB.out.later Bq)
 replace yN:=zh (yN.out.later Bq)
 replace X1:=X1.bl Bq
 replace X2:=X2.bl Bq
 replace X3:=X3.bl Bq
 replace X4:=X4.bl Bq
 replace NF:=zh (NF.out.later Bq)
 have SX:=Bt CZ Bq
 clear CZ
 clear Bq
 clear NG
 obtain ⟨mF,mD,pz⟩:=X3.dx
 have hres:=X3.out
 have gW:=hres.cell
 have gV:=hres.free
 go_wp2_with fail
 refine bP rfl rfl aL Tryz.underlying152 rfl zk ?_
 exact ⟨_,rfl,aA,Ra.kJ QE.out hres zd _ _ _ _⟩
theorem tX (x y:Value) (p q:Rat) (w:World) (hx:Ra w x p) (hy:Ra w y q) (h1:eP 10000000000 p) (h2:eP 10000000000 q):Calls Tryz.prog 200 #[x,y] w (dH w (p - q)):=by
 obtain ⟨bA,kV,lA,kX,J4,uR,JZ,uW,rfl,hA1,hA2⟩:=id hx;obtain ⟨bB,nu,lB,nD,Ob,wM,Ni,xG,rfl,hB1,hB2⟩:=id hy;have QA:=zh hx;have NA:=zh hA1;have uL:=zh hA2;have QB:=zh hy;have NB:=zh hB1;have yN:=zh hB2
 have H1:=zh h1
 have H2:=zh (qR h2)
 have HP:=zh (fun x y w hx hy=>rO x y p (-q) w hx hy h1 (qR h2))
 rw [← Rat.sub_eq_add_neg] at HP
 clear hx hy hA1 hA2 hB1 hB2 h1 h2
 go_enter Tryz.func200,Tryz.ntmps200
 go_wp2_with fail
 obtain ⟨cO,EW,hz,X1,X2,X3⟩:=yM w #[.bool bA,.slice kV lA kX,.bool J4,.slice uR JZ uW] 152 #[.bool bB,.slice nu lB nD,.bool Ob,.slice wM Ni xG] 152 #[.bool false,.slice none 0 0,.bool false,.slice none 0 0] 152
 rw [EW]
 replace QA:=zh (QA.out.later hz)
 replace QB:=zh (QB.out.later hz)
 have hk2:=Bt (Below.refl _ _) hz
 clear EW hz
 obtain ⟨dW,dU,fG⟩:=X1.dx
 obtain ⟨dV,dS,gM⟩:=X2.dx
 refine aC [(.read,0),(.read,1),(.ext,2),(.ext,3),(.fin,4)] zk zk zR zP ?_
 repeat (first|(refine ah rfl rfl fun J h=>?_;go_simp;refine h _ ?_;clear h J)|(refine au rfl rfl rfl rfl fun J h=>?_;go_simp;refine h _ ?_;clear h J;try go_simp))
 refine aD rfl rfl (fun uO hb3 J hJ=>?_);go_simp
 have hh3:Below cO.heap.size cO uO:=aA
 clear hb3
 refine (pJ _ _ _ (QB.out.later hh3)).mono ?_
 rintro e rT ⟨v,rfl,hb4,hv5⟩
 obtain ⟨bC,Cw,lC,Cz,bCd,Vy,lCd,Xa,rfl,hx5,hy5⟩:=id hv5
 refine hJ _ _ hb4 ?_
 clear hJ J
 have nG:=Bt hh3 hb4
 have QC:=zh hv5
 clear hh3 hb4 hv5 hx5 hy5
 repeat (first|(refine ah rfl rfl fun J h=>?_;go_simp;refine h _ ?_;clear h J)|(refine au rfl rfl rfl rfl fun J h=>?_;go_simp;refine h _ ?_;clear h J;try go_simp))
 refine aD rfl rfl (fun qQ hb6 J hJ=>?_);go_simp
 have ig:Below cO.heap.size cO qQ:=Bt nG aA
 replace QC:=zh (QC.out.later (show Below rT.heap.size rT qQ from aA))
 clear hb6 nG
 refine (HP.out _ _ _ (QA.out.later ig) QC.out).mono ?_
 rintro e kC ⟨v,rfl,dY,kD⟩
 obtain ⟨bE,paE,lE,caE,bEd,Y8,lEd,ag1,rfl,XL,hy8⟩:=id kD
 refine hJ _ _ dY ?_
 clear hJ J
 have o9:=Bt ig dY
 replace QC:=zh (QC.out.later dY)
 have QE:=zh kD
 clear ig dY kD XL hy8
 repeat (first|(refine ah rfl rfl fun J h=>?_;go_simp;refine h _ ?_;clear h J)|(refine au rfl rfl rfl rfl fun J h=>?_;go_simp;refine h _ ?_;clear h J;try go_simp))
 refine aJ [_] rfl (fun zB Ta=>?_)
 replace QC:=zh (QC.out.later (show Below kC.heap.size kC zB from aA))
 replace QE:=zh (QE.out.later (show Below kC.heap.size kC zB from aA))
 have gI:Below cO.heap.size cO zB:=Bt o9 aA
 clear Ta o9
 clear dW dU fG dV dS gM
 replace QA:=zh (QA.out.later gI)
 replace QB:=zh (QB.out.later gI)
 replace X1:=X1.bl gI
 replace X2:=X2.bl gI
 replace X3:=X3.bl gI
 have hk10:=Bt hk2 gI
 clear hk2
 clear gI
 clear QC
 obtain ⟨mF,mD,pz⟩:=X3.dx
 have hres:=X3.out
 have gW:=hres.cell
 have gV:=hres.free
 go_wp2_with fail
 refine bP rfl rfl aL Tryz.underlying152 rfl zk ?_
 exact ⟨_,rfl,aA,Ra.kJ QE.out hres zd _ _ _ _⟩
theorem af2 (p q:Rat):WS (p.num*(q.den:Int)) (q.num*(p.den:Int))=iA p q:=by
 rw [← AL]
 unfold WS uQ
 split
 ·rw [if_neg zo,if_pos zo]
 ·split
  ·rw [if_neg zo,if_neg zo]
  ·rw [if_pos zo]
theorem Cj (x y:Value) (p q:Rat) (w:World) (hx:Ra w x p) (hy:Ra w y q) (h1:eP 10000000000 p) (h2:eP 10000000000 q):Calls Tryz.prog 201 #[x,y] w (fun e w'=>e= .returned (.int .i64 (iA p q))∧Below w.heap.size w w'):=by
 obtain ⟨bA,kV,lA,kX,J4,uR,JZ,uW,rfl,hA1,hA2⟩:=id hx;obtain ⟨bB,nu,lB,nD,Ob,wM,Ni,xG,rfl,hB1,hB2⟩:=id hy;have QA:=zh hx;have NA:=zh hA1;have uL:=zh hA2;have QB:=zh hy;have NB:=zh hB1;have yN:=zh hB2
 obtain ⟨s1,s2⟩:=eP.four h1;obtain ⟨s3,s4⟩:=eP.four h2;have S1:Hid (sz 10000 p.num.natAbs≤549755813888):=zh zo;have S2:Hid (sz 10000 (p.den:Int).natAbs≤549755813888):=zh zo;have S3:Hid (sz 10000 q.num.natAbs≤549755813888):=zh zo;have S4:Hid (sz 10000 (q.den:Int).natAbs≤549755813888):=zh zo
 have a1:=nK s1 s4
 have a2:=nK s3 s2
 have P1:Hid (sz 10000 (p.num*(q.den:Int)).natAbs≤549755813888):=zh zo
 have P2:Hid (sz 10000 (q.num*(p.den:Int)).natAbs≤549755813888):=zh zo
 have HO:=zh (fun x y w hx hy=>aF.Cj x y (p.num*(q.den:Int)) (q.num*(p.den:Int)) w hx hy P1.out P2.out)
 rw [af2] at HO
 clear hx hy hA1 hA2 hB1 hB2 h1 h2 s1 s2 s3 s4 a1 a2
 generalize iA p q=cc at *
 go_enter Tryz.func201,Tryz.ntmps201
 go_wp2_with fail
 obtain ⟨cO,EW,hz,X1,X2⟩:=zU w #[.bool bA,.slice kV lA kX,.bool J4,.slice uR JZ uW] 152 #[.bool bB,.slice nu lB nD,.bool Ob,.slice wM Ni xG] 152
 rw [EW]
 replace NA:=zh (NA.out.later hz)
 replace uL:=zh (uL.out.later hz)
 replace NB:=zh (NB.out.later hz)
 replace yN:=zh (yN.out.later hz)
 have hk2:=Bt (Below.refl _ _) hz
 clear EW hz
 obtain ⟨dW,dU,fG⟩:=X1.dx
 obtain ⟨dV,dS,gM⟩:=X2.dx
 refine aC [(.pure,0),(.read,1),(.pure,2),(.read,3),(.pure,5),(.read,6),(.pure,7),(.read,8),(.ext,4),(.ext,9),(.ext,10),(.fin,11)] zk zk zR zP ?_
 repeat (first|(refine ah rfl rfl fun J h=>?_;go_simp;refine h _ ?_;clear h J)|(refine au rfl rfl rfl rfl fun J h=>?_;go_simp;refine h _ ?_;clear h J;try go_simp))
 refine aD rfl rfl (fun uO hb3 J hJ=>?_);go_simp
 have hh3:Below cO.heap.size cO uO:=aA
 clear hb3
 refine (aF.iM _ _ _ _ _ (NA.out.later hh3) (yN.out.later hh3) S1.out S4.out).mono ?_
 rintro e rT ⟨v,rfl,hb4,hv5⟩
 obtain ⟨bC,Cw,lC,Cz,rfl⟩:=hv5.agg
 refine hJ _ _ hb4 ?_
 clear hJ J
 have nG:=Bt hh3 hb4
 have NC:=zh hv5
 clear hh3 hb4 hv5
 repeat (first|(refine ah rfl rfl fun J h=>?_;go_simp;refine h _ ?_;clear h J)|(refine au rfl rfl rfl rfl fun J h=>?_;go_simp;refine h _ ?_;clear h J;try go_simp))
 refine aD rfl rfl (fun qQ hb6 J hJ=>?_);go_simp
 have ig:Below cO.heap.size cO qQ:=Bt nG aA
 replace NC:=zh (NC.out.later (show Below rT.heap.size rT qQ from aA))
 clear hb6 nG
 refine (aF.iM _ _ _ _ _ (NB.out.later ig) (uL.out.later ig) S3.out S2.out).mono ?_
 rintro e kC ⟨v,rfl,dY,kD⟩
 obtain ⟨bD,Ir,lD,Jz,rfl⟩:=kD.agg
 refine hJ _ _ dY ?_
 clear hJ J
 have o9:=Bt ig dY
 replace NC:=zh (NC.out.later dY)
 have ND:=zh kD
 clear ig dY kD
 repeat (first|(refine ah rfl rfl fun J h=>?_;go_simp;refine h _ ?_;clear h J)|(refine au rfl rfl rfl rfl fun J h=>?_;go_simp;refine h _ ?_;clear h J;try go_simp))
 refine aD rfl rfl (fun oU gQ J hJ=>?_);go_simp
 have gI:Below cO.heap.size cO oU:=Bt o9 aA
 replace NC:=zh (NC.out.later (show Below kC.heap.size kC oU from aA))
 replace ND:=zh (ND.out.later (show Below kC.heap.size kC oU from aA))
 clear gQ o9
 refine (HO.out _ _ _ NC.out ND.out).mono ?_
 rintro e dN ⟨rfl,dh⟩
 refine hJ _ _ dh ?_
 clear hJ J
 have fF:=Bt gI dh
 replace NC:=zh (NC.out.later dh)
 replace ND:=zh (ND.out.later dh)
 clear gI dh
 repeat (first|(refine ah rfl rfl fun J h=>?_;go_simp;refine h _ ?_;clear h J)|(refine au rfl rfl rfl rfl fun J h=>?_;go_simp;refine h _ ?_;clear h J;try go_simp))
 refine aJ [_] rfl (fun mZ yC=>?_)
 replace NC:=zh (NC.out.later (show Below dN.heap.size dN mZ from aA))
 replace ND:=zh (ND.out.later (show Below dN.heap.size dN mZ from aA))
 have hh12:Below cO.heap.size cO mZ:=Bt fF aA
 clear yC fF
 clear dW dU fG dV dS gM
 replace NA:=zh (NA.out.later hh12)
 replace uL:=zh (uL.out.later hh12)
 replace NB:=zh (NB.out.later hh12)
 replace yN:=zh (yN.out.later hh12)
 replace X1:=X1.bl hh12
 replace X2:=X2.bl hh12
 have Lj:=Bt hk2 hh12
 clear hk2
 clear hh12
 clear NC
 clear ND
 go_wp2_with fail
 go_ret
 exact ⟨rfl,Lj⟩
end Go.Proofs.aG
