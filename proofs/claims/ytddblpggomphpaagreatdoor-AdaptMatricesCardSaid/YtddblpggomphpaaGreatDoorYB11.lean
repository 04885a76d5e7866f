/- Lemmas for the proof. No condition. -/
import Derived.Test.YtddblpggomphpaaGreatDoorYB01
import Derived.Test.YtddblpggomphpaaGreatDoorYB02
import Derived.Test.YtddblpggomphpaaGreatDoorYB10
import Derived.Deep.Cut
set_option linter.unusedVariables false
set_option linter.unusedSimpArgs false
set_option maxRecDepth 100000
set_option maxHeartbeats 16000000
namespace Go.Proofs.aF
open Go Go.RowKit Go.SW Go.Num Go.Mem Go.Proofs Go.Dec
theorem Oo {l:List Nat} {k:Nat} (hd:dF 10000 l) (ht:Top l) (h:∀ i,i<k→(txt l)[i]? =some 48) (hk:k<(txt l).length) (hne:(txt l)[k]? ≠some 48):(txt l).drop k=Lib.decDigits (val 10000 l):=by
 have hl:l≠[]:=fun e=>by subst e;cases hk
 have hp:=gu (B:=10000) zo ht hl
 obtain ⟨m,hm⟩:=EH hd ht hl
 have hkm:k=m:=by
  rcases Nat.lt_trichotomy k m with h1|h1|h1
  ·exfalso
   rw [hm,List.getElem?_append_left (by simpa using h1)] at hne
   simp [h1] at hne
  ·exact h1
  ·exfalso
   have h2:=h m h1
   rw [hm,List.getElem?_append_right zi] at h2
   simp only [List.length_replicate,Nat.sub_self] at h2
   have:=wW (n:=val 10000 l) (by rw [List.head?_eq_getElem?];exact h2)
   omega
 subst hkm
 rw [hm,List.drop_append_of_le_length zi,List.drop_of_length_le zi,List.nil_append]
theorem Oq {l:List Nat} (hd:dF 10000 l) (ht:Top l) (h:∀ i,i<(txt l).length→(txt l)[i]? =some 48):val 10000 l=0:=by
 by_cases hl:l=[]
 ·subst hl;rfl
 ·exfalso
  have hp:=gu (B:=10000) zo ht hl
  obtain ⟨m,hm⟩:=EH hd ht hl
  have h2:=h m (by rw [hm,List.length_append,List.length_replicate];have:=y7 (val 10000 l);omega)
  rw [hm,List.getElem?_append_right zi] at h2
  simp only [List.length_replicate,Nat.sub_self] at h2
  have:=wW (n:=val 10000 l) (by rw [List.head?_eq_getElem?];exact h2)
  omega
theorem ba_eq {a b:ByteArray} (h:a.data.toList=b.data.toList):a=b:=by
 cases a;cases b
 simp only at h
 rw [Array.toList_inj.1 h]
theorem wM (z:Int):Lib.itoa z=if z<0 then 45::Lib.decDigits z.natAbs else Lib.decDigits z.natAbs:=by
 unfold Lib.itoa
 by_cases h:z<0
 ·rw [if_pos h,if_pos h]
 ·rw [if_neg h,if_neg h,show z.toNat=z.natAbs by omega]
theorem q8 (S:ByteArray) (k:Nat):(S.extract k S.size).data.toList=S.data.toList.drop k:=by
 have h:S.size=S.data.toList.length:=rfl
 rw [ByteArray.data_extract,Array.toList_extract]
 unfold List.extract
 rw [List.take_of_length_le (by rw [List.length_drop,h];exact Nat.le_refl _)]
theorem Nu (x:Value) (z:Int) (w:World) (hx:Pl w x z) (hs:sz 10000 z.natAbs≤1073741824) :
  Calls Tryz.prog 198 #[x] w (fun e w'=>e= .returned (.string ⟨(Lib.itoa z).toArray⟩)∧Below w.heap.size w w'):=by
 obtain ⟨bA,gG,lA,gK,rfl⟩:=hx.agg
 obtain ⟨hn,hbz⟩:=hx.nm
 obtain ⟨l,El⟩:∃ l,bN 10000 z.natAbs=l:=⟨_,rfl⟩
 obtain ⟨pa',ca',e,k1,k2,k3⟩:=hn.read
 simp only [Value.slice.injEq] at e
 obtain ⟨rfl,rfl,rfl⟩:=e
 rw [El] at k3
 have hl:l.length=sz 10000 z.natAbs:=by rw [← El];rfl
 have hdl:dF 10000 l:=by rw [← El];exact aS zo _
 have htl:Top l:=by rw [← El];exact mD zo _
 have hvl:val 10000 l=z.natAbs:=by rw [← El];exact aN zo _
 obtain ⟨L,EL⟩:∃ L,sz 10000 z.natAbs=L:=⟨_,rfl⟩
 rw [EL] at hl hs k1 k3 ⊢
 have h0:Below w.heap.size w (w.alloc (.cells #[.bool bA,.slice gG L gK] 150)):=aA
 have hbx:=au.new w #[.bool bA,.slice gG L gK] 150
 obtain ⟨W,EW⟩:∃ y,w.alloc (.cells #[.bool bA,.slice gG L gK] 150)=y:=⟨_,rfl⟩
 rw [EW] at h0 hbx
 have k4:∀ k,k<L→∃ b off,gG=some ⟨b,off,none⟩∧b<W.heap.size∧W.cell? ⟨b,off+k,none⟩=some (.int .i64 (l.getD k 0:Nat)):=fun k hk=>by
  obtain ⟨b,off,e,h1,h2⟩:=k3 k hk
  exact ⟨b,off,e,Nat.lt_of_lt_of_le h1 h0.size,(h0.cell (by exact h1)).trans h2⟩
 have K4:=zh k4
 have HX:=zh hbx
 have HL:=zh hl
 have BX:=zh hdl
 have HTL:=zh htl
 have HVL:=zh hvl
 have HBZ:=zh hbz
 have c0:=hbx.cell
 clear k3 k4 hbx hl hdl htl hvl hbz hn hx EL El
 go_enter Tryz.func198,Tryz.ntmps198
 go_wp2_with fail
 clear EW c0
 go_loopw [3,4] (fun sv iv wr=>∃ (q:Int) (S:ByteArray), -1≤q∧q<L∧iv= .int .i64 q∧sv= .string S∧Hid (S.data.toList=txt (l.drop (q+1).toNat))∧Hid (Below W.heap.size W wr)) (fun _ iv _=>(intOf iv+1).toNat)
 case atStart =>
  have e:((L:Int) - 1+1).toNat=l.length:=by have:=HL.out;omega
  exact ⟨(L:Int) - 1,⟨#[]⟩,by omega,by omega,rfl,rfl,zh (by rw [e,List.drop_length];rfl),zh (Below.refl _ _)⟩
 case round =>
  obtain ⟨q,S,hq1,hq2,rfl,rfl,HS,HB⟩:=hrel
  have hbx:=HX.out.later HB.out
  have c0:=hbx.cell
  by_cases hq:q<0
  ·have hq0:q= -1:=by omega
   subst hq0
   have hS:S.data.toList=txt l:=by have:=HS.out;simpa using this
   have HS2:=zh hS
   clear hS HS
   have hsz:S.size=4*L:=by
    have h1:S.size=S.data.toList.length:=rfl
    rw [h1,HS2.out,Mi,HL.out]
   go_wp2_with fail
   go_loop [5] (fun kv=>∃ k:Nat,k≤S.size∧kv= .int .i64 k∧Hid (∀ i,i<k→S.data.toList[i]? =some 48)) (fun kv=>S.size - (intOf kv).toNat)
   case atStart=>exact ⟨0,Nat.zero_le _,rfl,zh fun i hi=>by cases hi⟩
   case round =>
    obtain ⟨k,hk,rfl,HK⟩:=hrel
    by_cases hks:k<S.size
    ·have hg:(txt l)[k]? =some S[k]:=by
      rw [← HS2.out]
      exact List.getElem?_eq_getElem (by exact hks)
     by_cases h48:S[k]=48
     ·have e:((S[k].toNat:Int) == 48)=true:=by rw [h48];rfl
      have HK1:Hid (∀ i,i<k+1→S.data.toList[i]? =some 48):=zh fun i hi=>by
       by_cases hik:i<k
       ·exact HK.out i hik
       ·obtain rfl:i=k:=by omega
        rw [HS2.out,hg,h48]
      clear hg h48
      go_wp2_with fail
      go_round
      case rel=>exact ⟨k+1,by omega,by go_num,HK1⟩
      case measure=>exact zM
     ·have e:((S[k].toNat:Int) == 48)=false:=by
       rw [beq_eq_false_iff_ne]
       intro h
       exact h48 (UInt8.toNat_inj.1 (by
        have:S[k].toNat=48:=by omega
        rw [this];rfl))
      have hdrop:=Oo BX.out HTL.out (fun i hi=>by rw [← HS2.out];exact HK.out i hi) (by rw [← HS2.out];exact hks) (by rw [hg];intro h;exact h48 (Option.some.inj h))
      have hT:(S.extract k (4*L)).data.toList=Lib.decDigits z.natAbs:=by
       rw [← hsz,q8,HS2.out,hdrop,HVL.out]
      have hE:(S.extract k (4*L)).toList.isEmpty=false:=by
       rw [ByteArray.toList_eq,hT]
       have:=y7 z.natAbs
       cases h:Lib.decDigits z.natAbs with
       | nil=>rw [h] at this;cases this
       | cons a b=>rfl
      have HT:=zh hT
      clear hdrop hT hg h48 HK
      cases bA
      ·have hz:¬ z<0:=by have:=HBZ.out;intro h;rw [decide_eq_true h] at this;cases this
       have eS:S.extract k (4*L)=⟨(Lib.itoa z).toArray⟩:=ba_eq (by rw [HT.out,wM,if_neg hz])
       have ES:=zh eS
       clear eS hz
       go_wp2_with fail
       go_ret
       exact ⟨congrArg (fun s=>Ending.returned (.string s)) ES.out,Bt h0 HB.out⟩
      ·have hz:z<0:=of_decide_eq_true HBZ.out.symm
       have eS:(⟨#[45]⟩:ByteArray)++S.extract k (4*L)=⟨(Lib.itoa z).toArray⟩:=ba_eq (by
        rw [wM,if_pos hz,ByteArray.data_append,Array.toList_append,HT.out]
        rfl)
       have ES:=zh eS
       have hsm:¬ 9223372036854775807<1+(S.extract k (4*L)).size:=by
        have h1:(S.extract k (4*L)).size=(S.extract k (4*L)).data.toList.length:=rfl
        have h2:=HT.out
        rw [← hsz,q8] at h2
        have h3:(S.extract k (4*L)).data.toList.length≤S.data.toList.length:=by
         rw [← hsz,q8,List.length_drop]
         omega
        have h4:S.data.toList.length=S.size:=rfl
        omega
       clear eS hz
       go_wp2_with fail
       go_ret
       exact ⟨congrArg (fun s=>Ending.returned (.string s)) ES.out,Bt h0 HB.out⟩
    ·have hke:k=S.size:=by omega
     subst hke
     have hz0:z.natAbs=0:=by
      rw [← HVL.out]
      exact Oq BX.out HTL.out fun i hi=>by
       rw [← HS2.out] at hi ⊢
       exact HK.out i hi
     have hz:z=0:=by omega
     have EZ:Hid ((⟨#[48]⟩:ByteArray)=⟨(Lib.itoa z).toArray⟩):=zh (by rw [hz];exact ba_eq (by rw [wM];simp [fV]))
     clear hz hz0 HK
     go_wp2_with fail
     go_ret
     exact ⟨congrArg (fun s=>Ending.returned (.string s)) EZ.out,Bt h0 HB.out⟩
  ·obtain ⟨j,rfl⟩:=Int.eq_ofNat_of_zero_le (by omega:0≤q)
   have ej:((j:Int)+1).toNat=j+1:=by omega
   rw [ej] at HS
   obtain ⟨b,off,rfl,hb1,hc1⟩:=K4.out j zo
   have hcj:wr.cell? ⟨b,off+j,none⟩=some (.int .i64 (l.getD j 0:Nat)):=(HB.out.cell (by exact hb1)).trans hc1
   have hdj:=BX.out.getD zo j
   have HST:Hid (txt (l.drop j)=S.data.toList++pad 4 (l.getD j 0)):=zh (by rw [HS.out];exact Qy (by rw [HL.out];omega))
   have HSL:Hid (S.data.toList.length=4*(L - (j+1))):=zh (by rw [HS.out,Mi,List.length_drop,HL.out])
   clear HS hc1
   generalize l.getD j 0=d at *
   have HF:=zh (Wn d hdj)
   have hsum:¬ 9223372036854775807<S.size+(pad 4 d).length:=by
    have h1:S.size=S.data.toList.length:=rfl
    rw [oh,h1,HSL.out]
    omega
   go_wp2_with fail
   refine (HF.out _).mono ?_
   rintro e w1 ⟨rfl,hb⟩
   have HB1:=zh (Bt HB.out hb)
   clear hb hbx c0 hcj
   go_wp2_with fail
   go_roundw
   case rel =>
    have e1:((j:Int) - 1+1).toNat=j:=by omega
    exact ⟨(j:Int) - 1,S++⟨(pad 4 d).toArray⟩,by omega,by omega,rfl,rfl,zh (by rw [e1,HST.out];simp),HB1⟩
   case measure=>simp [intOf]
theorem Li (n:Nat):(Lib.decDigits n).length≤4*sz 10000 n+1:=by
 refine j3 _ _ zo ?_
 have h1:=gM (B:=10000) zo n
 have h2:(10:Nat)^(4*sz 10000 n)=10000^sz 10000 n:=by rw [Nat.pow_mul]
 rw [Nat.pow_succ,h2]
 omega
def Rf (z:Int):Value:=if dx.Kj z.natAbs then .tuple #[sO z,.int .i64 0] else .tuple #[.string ⟨#[]⟩,.int .i64 6]
theorem wL (z:Int):(Lib.itoa z).length=(Lib.decDigits z.natAbs).length+(if z<0 then 1 else 0):=by
 rw [wM]
 by_cases h:z<0
 ·rw [if_pos h,if_pos h];rfl
 ·rw [if_neg h,if_neg h];rfl
theorem rF (x:Value) (z:Int) (w:World) (hx:Pl w x z) (hs:sz 10000 z.natAbs≤1073741824) :
  Calls Tryz.prog 162 #[x] w (fun e w'=>e= .returned (Rf z)∧Below w.heap.size w w'):=by
 obtain ⟨bA,gG,lA,gK,rfl⟩:=hx.agg
 obtain ⟨hn,hbz⟩:=hx.nm
 have NA:=zh hx
 have hlen:=wL z
 have hok:=dx.eX (n:=z.natAbs)
 obtain ⟨S,ES⟩:∃ S:ByteArray,Hid (S=⟨(Lib.itoa z).toArray⟩):=⟨_,zh rfl⟩
 have hsz:S.size=(Lib.itoa z).length:=by rw [ES.out];simp [ByteArray.size]
 have hsb:(Lib.decDigits z.natAbs).length≤4294967297:=by
  have:=Li z.natAbs
  omega
 have HT:=zh (fun W (hb:Below w.heap.size w W)=>Nu _ z W (hx.later hb) hs)
 rw [← ES.out] at HT
 have hv:Rf z=if (Lib.decDigits z.natAbs).length≤600 then .tuple #[.string S,.int .i64 0] else .tuple #[.string ⟨#[]⟩,.int .i64 6]:=by
  unfold Rf
  rw [ES.out]
  by_cases h:(Lib.decDigits z.natAbs).length≤600
  ·rw [if_pos h,if_pos (hok.2 h)];rfl
  ·rw [if_neg h,if_neg (fun h'=>h (hok.1 h'))]
 rw [hv]
 obtain ⟨n,En⟩:∃ n,(Lib.decDigits z.natAbs).length=n:=⟨_,rfl⟩
 rw [En] at hlen hsb ⊢
 rw [hlen] at hsz
 have h0:Below w.heap.size w (w.alloc (.cells #[.bool bA,.slice gG lA gK] 150)):=aA
 have hbx:=au.new w #[.bool bA,.slice gG lA gK] 150
 have rY:=zh hbx
 have HH0:=zh h0
 by_cases hz:z<0
 ·have hbt:bA=true:=by rw [hbz,decide_eq_true hz]
  subst hbt
  rw [if_pos hz] at hsz
  clear hz hlen hok hn hbz hv En hs hx NA h0 hbx
  by_cases hbig:n≤600
  ·rw [if_pos hbig]
   have e1:¬ (600:Int)<(n:Int)+1 - 1:=by omega
   go_enter Tryz.func162,Tryz.ntmps162
   go_wp2_with fail
   refine (HT.out _ HH0.out).mono ?_
   rintro e w1 ⟨rfl,hb⟩
   have c0:=(rY.out.later hb).cell
   go_wp2_with fail
   go_ret2
   exact ⟨rfl,Bt HH0.out hb⟩
  ·rw [if_neg hbig]
   have e1:(600:Int)<(n:Int)+1 - 1:=by omega
   go_enter Tryz.func162,Tryz.ntmps162
   go_wp2_with fail
   refine (HT.out _ HH0.out).mono ?_
   rintro e w1 ⟨rfl,hb⟩
   have c0:=(rY.out.later hb).cell
   go_wp2_with fail
   go_ret2
   exact ⟨rfl,Bt HH0.out hb⟩
 ·have hbt:bA=false:=by rw [hbz,decide_eq_false hz]
  subst hbt
  rw [if_neg hz,Nat.add_zero] at hsz
  clear hz hlen hok hn hbz hv En hs hx NA h0 hbx
  by_cases hbig:n≤600
  ·rw [if_pos hbig]
   have e1:¬ (600:Int)<(n:Int):=by omega
   go_enter Tryz.func162,Tryz.ntmps162
   go_wp2_with fail
   refine (HT.out _ HH0.out).mono ?_
   rintro e w1 ⟨rfl,hb⟩
   have c0:=(rY.out.later hb).cell
   go_wp2_with fail
   go_ret2
   exact ⟨rfl,Bt HH0.out hb⟩
  ·rw [if_neg hbig]
   have e1:(600:Int)<(n:Int):=by omega
   go_enter Tryz.func162,Tryz.ntmps162
   go_wp2_with fail
   refine (HT.out _ HH0.out).mono ?_
   rintro e w1 ⟨rfl,hb⟩
   have c0:=(rY.out.later hb).cell
   go_wp2_with fail
   go_ret2
   exact ⟨rfl,Bt HH0.out hb⟩
theorem Km {d:List UInt8} {neg:Bool} (h:d.length<1∨600<d.length):dI d neg=false:=by
 unfold dI
 rcases h with h|h
 ·have:d=[]:=List.length_eq_zero_iff.1 zo
  subst this;rfl
 ·have:decide (d.length≤600)=false:=by simp;omega
  simp [this]
theorem Fu {d:List UInt8} {neg:Bool} {b:UInt8} (h:b∈d) (hb:b.toNat<48∨57<b.toNat):dI d neg=false:=by
 cases hk:dI d neg with
 | false=>rfl
 | true=>have:=oP hk b h;omega
theorem Rm {d:List UInt8} {neg:Bool} (h1:1≤d.length) (h2:d.length≤600) (h:∀ b∈d,48≤b.toNat∧b.toNat≤57):dI d neg= !(d.head? == some 48&&(neg || decide (1<d.length))):=by
 unfold dI
 have e1:decide (d≠[])=true:=by simp;intro h;subst h;simp at h1
 have e2:d.all (fun b=>decide (48≤b.toNat)&&decide (b.toNat≤57))=true:=by
  rw [List.all_eq_true]
  intro b hb
  have:=h b hb
  simp [this.1,this.2]
 rw [e1,e2,decide_eq_true h2]
 simp
theorem JO (bs:List UInt8):(whole bs).isSome=dI (cut bs).1 (cut bs).2:=by
 unfold whole
 cases dI (cut bs).1 (cut bs).2<;>rfl
theorem mK {s:ByteArray} {i f:Nat} (hf:f≤i) (hi:i<s.size):s[i]∈s.data.toList.drop f:=by
 have h:s.data.toList[i]? =some s[i]:=List.getElem?_eq_getElem (by exact hi)
 rw [List.mem_iff_getElem?]
 exact ⟨i - f,by rw [List.getElem?_drop,show f+(i - f)=i by omega];exact h⟩
theorem oG (s:ByteArray) (w:World) (hs:s.size≤4611686018427387904) :
  Calls Tryz.prog 196 #[.string s] w (fun e w'=>e= .returned (.bool (whole s.data.toList).isSome)∧w=w'):=by
 rw [JO]
 have hsz:s.data.toList.length=s.size:=rfl
 by_cases h0:s.size=0
 ·have e:s.data.toList=[]:=List.length_eq_zero_iff.1 (by rw [hsz,h0])
  rw [e,Km (.inl (by unfold Dec.cut;simp))]
  have hs0:(s.size:Int)=0:=by omega
  clear hs hsz e
  go_enter Tryz.func196,Tryz.ntmps196
  go_wp2
  go_ret
  exact ⟨rfl,rfl⟩
 ·have hs0:0<s.size:=by omega
  have hd0:s.data.toList[0]? =some s[0]:=List.getElem?_eq_getElem (by exact hs0)
  have hhd:s.data.toList.head? =some s[0]:=by rw [List.head?_eq_getElem?];exact hd0
  obtain ⟨d,Ed⟩:∃ d,(Dec.cut s.data.toList).1=d:=⟨_,rfl⟩
  obtain ⟨ng,En⟩:∃ ng,(Dec.cut s.data.toList).2=ng:=⟨_,rfl⟩
  rw [Ed,En]
  by_cases h45:s[0]=45
  ·have hC:d=s.data.toList.drop 1∧ng=true:=by
    unfold Dec.cut at Ed En
    rw [if_pos (by rw [hhd,h45])] at Ed En
    exact ⟨by rw [← Ed,List.drop_one],En.symm⟩
   obtain ⟨hd,VN⟩:=hC
   subst VN
   have hq:((s[0].toNat:Int) == 45)=true:=by
    rw [h45];rfl
   have hdl:d.length=s.size - 1:=by rw [hd,List.length_drop,hsz]
   have HD:=zh hd
   clear hd Ed En hhd hd0 h45
   by_cases hbad:s.size - 1<1∨600<s.size - 1
   ·rw [Km (by rw [hdl];exact hbad)]
    have hb1:(s.size:Int) - 1<1∨(600:Int)<(s.size:Int) - 1:=by omega
    clear hsz hdl
    rcases hb1 with hb1|hb1
    ·go_enter Tryz.func196,Tryz.ntmps196
     go_wp2
     all_goals (go_ret;exact ⟨rfl,rfl⟩)
    ·have hb2:¬ (s.size:Int) - 1<1:=by omega
     go_enter Tryz.func196,Tryz.ntmps196
     go_wp2
     go_ret
     exact ⟨rfl,rfl⟩
   ·have hb1:¬ (s.size:Int) - 1<1:=by omega
    have hb2:¬ (600:Int)<(s.size:Int) - 1:=by omega
    have BX:=zh hdl
    obtain ⟨R,ER⟩:∃ R,Hid (dI d true=R):=⟨_,zh rfl⟩
    rw [ER.out]
    clear hsz hdl hbad
    go_enter Tryz.func196,Tryz.ntmps196
    go_wp2
    go_loop [5] (fun iv=>∃ i:Nat,1≤i∧i≤s.size∧iv= .int .i64 i∧Hid (∀ j (h:j<s.size),1≤j→j<i→48≤s[j].toNat∧s[j].toNat≤57)) (fun iv=>s.size - (intOf iv).toNat)
    case atStart=>exact ⟨1,Nat.le_refl _,by omega,rfl,zh fun j h h1 h2=>absurd h2 zo⟩
    case round =>
     obtain ⟨i,hi1,hi2,rfl,HK⟩:=hrel
     by_cases his:i<s.size
     ·by_cases hlo:s[i].toNat<48
      ·have q1:(s[i].toNat:Int)<48:=by omega
       have HR:Hid (R=false):=zh (by rw [← ER.out];exact Fu (by rw [HD.out];exact mK hi1 his) (.inl hlo))
       clear hlo
       go_wp2
       go_ret
       exact ⟨by rw [HR.out];rfl,rfl⟩
      ·by_cases hhi:57<s[i].toNat
       ·have q1:¬ (s[i].toNat:Int)<48:=by omega
        have q2:(57:Int)<(s[i].toNat:Int):=by omega
        have HR:Hid (R=false):=zh (by rw [← ER.out];exact Fu (by rw [HD.out];exact mK hi1 his) (.inr hhi))
        clear hlo hhi
        go_wp2
        go_ret
        exact ⟨by rw [HR.out];rfl,rfl⟩
       ·have q1:¬ (s[i].toNat:Int)<48:=by omega
        have q2:¬ (57:Int)<(s[i].toNat:Int):=by omega
        have HK2:Hid (∀ j (h:j<s.size),1≤j→j<i+1→48≤s[j].toNat∧s[j].toNat≤57):=zh fun j h h1 h2=>by
         by_cases hji:j<i
         ·exact HK.out j h h1 hji
         ·obtain rfl:j=i:=by omega
          omega
        clear hlo hhi
        go_wp2
        go_round
        case rel=>exact ⟨i+1,by omega,by omega,by go_num,HK2⟩
        case measure=>exact zM
     ·have hie:i=s.size:=by omega
      subst hie
      have hF:1<s.size:=by omega
      have hall:dI d true= !(d.head? == some 48&&(true || decide (1<d.length))):=Rm (by rw [BX.out];omega) (by rw [BX.out];omega) fun b hb=>by
       rw [HD.out] at hb
       obtain ⟨j,hj,rfl⟩:=List.getElem_of_mem hb
       rw [List.length_drop] at hj
       have hj2:j+1<s.size:=by
        have:s.data.toList.length=s.size:=rfl
        omega
       have:=HK.out (j+1) hj2 zo zo
       rw [List.getElem_drop]
       have e:s.data.toList[1+j]'(by have:s.data.toList.length=s.size:=rfl;omega)=s[j+1]:=by
        simp only [Nat.add_comm 1 j]
        rfl
       rw [e]
       exact this
      have hh:d.head? =some s[1]:=by
       rw [HD.out,List.head?_eq_getElem?, List.getElem?_drop]
       exact List.getElem?_eq_getElem (by exact hF)
      rw [hh,BX.out,ER.out] at hall
      clear hh HK
      by_cases h48:s[1]=48
      ·have q3:((s[1].toNat:Int) == 48)=true:=by rw [h48];rfl
       have q4:((s[1].toNat:Int) != 48)=false:=by rw [h48];rfl
       have q5:((s.size:Int) == 1)=false:=by simp;omega
       have HR:Hid (R=false):=zh (by rw [hall,h48];rfl)
       clear h48 hall
       go_wp2
       go_ret
       exact ⟨by rw [HR.out];rfl,rfl⟩
      ·have q3:((s[1].toNat:Int) == 48)=false:=by
        rw [beq_eq_false_iff_ne]
        intro h
        exact h48 (UInt8.toNat_inj.1 (by
         have:s[1].toNat=48:=by omega
         rw [this];rfl))
       have q4:((s[1].toNat:Int) != 48)=true:=by rw [bne,q3];rfl
       have q5:(some s[1] == some (48:UInt8))=false:=by
        rw [beq_eq_false_iff_ne]
        intro h
        exact h48 (Option.some.inj h)
       have HR:Hid (R=true):=zh (by rw [hall,q5];rfl)
       clear h48 q5 hall
       go_wp2
       go_ret
       exact ⟨by rw [HR.out];rfl,rfl⟩
  ·have hC:d=s.data.toList.drop 0∧ng=false:=by
    unfold Dec.cut at Ed En
    rw [if_neg (by rw [hhd];intro h;exact h45 (Option.some.inj h))] at Ed En
    exact ⟨by rw [← Ed];rfl,En.symm⟩
   obtain ⟨hd,VN⟩:=hC
   subst VN
   have hq:((s[0].toNat:Int) == 45)=false:=by
    rw [beq_eq_false_iff_ne]
    intro h
    exact h45 (UInt8.toNat_inj.1 (by
     have:s[0].toNat=45:=by omega
     rw [this];rfl))
   have hdl:d.length=s.size - 0:=by rw [hd,List.length_drop,hsz]
   have HD:=zh hd
   clear hd Ed En hhd hd0 h45
   by_cases hbad:s.size - 0<1∨600<s.size - 0
   ·rw [Km (by rw [hdl];exact hbad)]
    have hb1:(s.size:Int) - 0<1∨(600:Int)<(s.size:Int) - 0:=by omega
    clear hsz hdl
    rcases hb1 with hb1|hb1
    ·go_enter Tryz.func196,Tryz.ntmps196
     go_wp2
     all_goals (go_ret;exact ⟨rfl,rfl⟩)
    ·have hb2:¬ (s.size:Int) - 0<1:=by omega
     go_enter Tryz.func196,Tryz.ntmps196
     go_wp2
     go_ret
     exact ⟨rfl,rfl⟩
   ·have hb1:¬ (s.size:Int) - 0<1:=by omega
    have hb2:¬ (600:Int)<(s.size:Int) - 0:=by omega
    have BX:=zh hdl
    obtain ⟨R,ER⟩:∃ R,Hid (dI d false=R):=⟨_,zh rfl⟩
    rw [ER.out]
    clear hsz hdl hbad
    go_enter Tryz.func196,Tryz.ntmps196
    go_wp2
    go_loop [5] (fun iv=>∃ i:Nat,0≤i∧i≤s.size∧iv= .int .i64 i∧Hid (∀ j (h:j<s.size),0≤j→j<i→48≤s[j].toNat∧s[j].toNat≤57)) (fun iv=>s.size - (intOf iv).toNat)
    case atStart=>exact ⟨0,Nat.le_refl _,by omega,rfl,zh fun j h h1 h2=>absurd h2 zo⟩
    case round =>
     obtain ⟨i,hi1,hi2,rfl,HK⟩:=hrel
     by_cases his:i<s.size
     ·by_cases hlo:s[i].toNat<48
      ·have q1:(s[i].toNat:Int)<48:=by omega
       have HR:Hid (R=false):=zh (by rw [← ER.out];exact Fu (by rw [HD.out];exact mK hi1 his) (.inl hlo))
       clear hlo
       go_wp2
       go_ret
       exact ⟨by rw [HR.out];rfl,rfl⟩
      ·by_cases hhi:57<s[i].toNat
       ·have q1:¬ (s[i].toNat:Int)<48:=by omega
        have q2:(57:Int)<(s[i].toNat:Int):=by omega
        have HR:Hid (R=false):=zh (by rw [← ER.out];exact Fu (by rw [HD.out];exact mK hi1 his) (.inr hhi))
        clear hlo hhi
        go_wp2
        go_ret
        exact ⟨by rw [HR.out];rfl,rfl⟩
       ·have q1:¬ (s[i].toNat:Int)<48:=by omega
        have q2:¬ (57:Int)<(s[i].toNat:Int):=by omega
        have HK2:Hid (∀ j (h:j<s.size),0≤j→j<i+1→48≤s[j].toNat∧s[j].toNat≤57):=zh fun j h h1 h2=>by
         by_cases hji:j<i
         ·exact HK.out j h h1 hji
         ·obtain rfl:j=i:=by omega
          omega
        clear hlo hhi
        go_wp2
        go_round
        case rel=>exact ⟨i+1,by omega,by omega,by go_num,HK2⟩
        case measure=>exact zM
     ·have hie:i=s.size:=by omega
      subst hie
      have hF:0<s.size:=by omega
      have hall:dI d false= !(d.head? == some 48&&(false || decide (1<d.length))):=Rm (by rw [BX.out];omega) (by rw [BX.out];omega) fun b hb=>by
       rw [HD.out] at hb
       obtain ⟨j,hj,rfl⟩:=List.getElem_of_mem hb
       rw [List.length_drop] at hj
       have hj2:j+0<s.size:=by
        have:s.data.toList.length=s.size:=rfl
        omega
       have:=HK.out (j+0) hj2 zo zo
       rw [List.getElem_drop]
       have e:s.data.toList[0+j]'(by have:s.data.toList.length=s.size:=rfl;omega)=s[j+0]:=by
        simp only [Nat.add_comm 0 j]
        rfl
       rw [e]
       exact this
      have hh:d.head? =some s[0]:=by
       rw [HD.out,List.head?_eq_getElem?, List.getElem?_drop]
       exact List.getElem?_eq_getElem (by exact hF)
      rw [hh,BX.out,ER.out] at hall
      clear hh HK
      by_cases h48:s[0]=48
      ·have q3:((s[0].toNat:Int) == 48)=true:=by rw [h48];rfl
       have q4:((s[0].toNat:Int) != 48)=false:=by rw [h48];rfl
       by_cases h1:s.size=1
       ·have q5:((s.size:Int) == 1)=true:=by simp;omega
        have HR:Hid (R=true):=zh (by rw [hall,h48,h1];rfl)
        clear h48 hall
        go_wp2
        go_ret
        exact ⟨by rw [HR.out];rfl,rfl⟩
       ·have q5:((s.size:Int) == 1)=false:=by simp;omega
        have q6:decide (1<s.size - 0)=true:=by simp;omega
        have HR:Hid (R=false):=zh (by rw [hall,h48,q6];rfl)
        clear h48 q6 hall
        go_wp2
        go_ret
        exact ⟨by rw [HR.out];rfl,rfl⟩
      ·have q3:((s[0].toNat:Int) == 48)=false:=by
        rw [beq_eq_false_iff_ne]
        intro h
        exact h48 (UInt8.toNat_inj.1 (by
         have:s[0].toNat=48:=by omega
         rw [this];rfl))
       have q4:((s[0].toNat:Int) != 48)=true:=by rw [bne,q3];rfl
       have q5:(some s[0] == some (48:UInt8))=false:=by
        rw [beq_eq_false_iff_ne]
        intro h
        exact h48 (Option.some.inj h)
       have HR:Hid (R=true):=zh (by rw [hall,q5];rfl)
       clear h48 q5 hall
       go_wp2
       go_ret
       exact ⟨by rw [HR.out];rfl,rfl⟩
theorem kg {bs:List UInt8} {f:Nat} (hd:qI (bs.drop f)) {st i:Nat} (hf:f≤st) (h4:i - st≤4):num ((bs.take i).drop st)<10000:=by
 have h1:=Rt ((bs.take i).drop st) (fun b hb=>by
  refine hd b ?_
  have h:b∈(bs.take i).drop f:=by
   obtain ⟨j,hj,rfl⟩:=List.getElem_of_mem hb
   rw [List.getElem_drop]
   have:(bs.take i).drop st=((bs.take i).drop f).drop (st - f):=by rw [List.drop_drop,show f+(st - f)=st by omega]
   rw [List.mem_iff_getElem?]
   refine ⟨st - f+j,?_⟩
   rw [List.getElem?_drop,show f+(st - f+j)=st+j by omega]
   exact List.getElem?_eq_getElem _
  rw [List.drop_take] at h
  exact List.mem_of_mem_take h)
 have h2:(10:Nat)^((bs.take i).drop st).length≤10^4:=Nat.pow_le_pow_right zo (by rw [List.length_drop,List.length_take];omega)
 omega
theorem nK {bs:List UInt8} {st i:Nat} {x:UInt8} (hst:st≤i) (hb:48≤x.toNat∧x.toNat≤57) (hx:bs[i]? =some x) :
  ((num ((bs.take i).drop st):Nat):Int)*10+((x.toNat:Int) - 48)=(num ((bs.take (i+1)).drop st):Nat):=by
 rw [sw hst hx,om]
 omega
theorem tV (s:ByteArray) (z:Int) (w:World) (hz:whole s.data.toList=some z) :
  Calls Tryz.prog 197 #[.string s] w (Gh w z):=by
 obtain ⟨i0,hi,hz0,hz1,hz2⟩:=info_parts oQ
 obtain ⟨bs,hbs⟩:∃ bs,s.data.toList=bs:=⟨_,rfl⟩
 rw [hbs] at hz
 have hn:bs.length=s.size:=by rw [← hbs];rfl
 have hok:dI (Dec.cut bs).1 (Dec.cut bs).2=true:=by
  unfold whole at hz
  split at hz
  ·assumption
  ·cases hz
 have hzz:Dec.mk (num (Dec.cut bs).1) (Dec.cut bs).2=z:=by
  unfold whole at hz
  rw [if_pos hok] at hz
  exact Option.some.inj hz
 have hsz:s.size≤601:=by
  have h1:(Dec.cut bs).1.length≤600:=by
   unfold dI at hok
   simp only [Bool.and_eq_true,decide_eq_true_eq] at hok
   exact hok.1.1.2
  have h2:bs.length≤(Dec.cut bs).1.length+1:=by
   unfold Dec.cut
   split
   ·simp;omega
   ·simp
  omega
 have hs0:0<s.size:=by
  rcases Nat.eq_zero_or_pos s.size with h|h
  ·have:bs=[]:=List.length_eq_zero_iff.1 zo
   subst this
   exact absurd hok (by simp [Dec.cut,dI])
  ·exact h
 have hhd:bs.head? =some s[0]:=by
  rw [List.head?_eq_getElem?, ← hbs]
  exact List.getElem?_eq_getElem (by exact hs0)
 obtain ⟨d,Ed⟩:∃ d,(Dec.cut bs).1=d:=⟨_,rfl⟩
 obtain ⟨ng,En⟩:∃ ng,(Dec.cut bs).2=ng:=⟨_,rfl⟩
 rw [Ed,En] at hok hzz
 have HZ:Hid (jg (num d) ng=z):=zh hzz
 have hC:(d=bs.drop 1∧ng=true)∨(d=bs.drop 0∧ng=false):=by
  unfold Dec.cut at Ed En
  by_cases h:bs.head? =some 45
  ·rw [if_pos h] at Ed En
   exact .inl ⟨by rw [← Ed,List.drop_one],En.symm⟩
  ·rw [if_neg h] at Ed En
   exact .inr ⟨by rw [← Ed];rfl,En.symm⟩
 have h45:(ng=true→s[0]=45)∧(s[0]=45→ng=true):=by
  unfold Dec.cut at En
  constructor
  ·intro h
   by_cases h':bs.head? =some 45
   ·rw [hhd] at h';exact Option.some.inj h'
   ·rw [if_neg h'] at En;rw [← En] at h;cases h
  ·intro h
   rw [if_pos (by rw [hhd,h])] at En
   exact En.symm
 have h0:Below w.heap.size w (w.alloc (.cells #[.bool false,.slice none 0 0] 150)):=aA
 have hx:=au.new w #[.bool false,.slice none 0 0] 150
 have NZ:=zh hbs
 have HN:=zh hn
 clear hz hzz hhd Ed En hbs hn
 rcases hC with hC|hC
 ·obtain ⟨hd,VN⟩:=hC
  subst VN
  have HD:=zh hd
  have hds:qI (bs.drop 1):=by rw [← hd];exact oP hok
  have hle:1<s.size:=by
   have h1:d≠[]:=fun e=>by rw [e] at hok;exact absurd hok (by simp [dI])
   have h2:0<d.length:=List.length_pos_iff.2 h1
   rw [hd,List.length_drop,HN.out] at h2
   omega
  have hq:((s[0].toNat:Int) == 45)=true:=by
   have:s[0]=45:=by have:=h45.1 rfl;exact this
   rw [this];rfl
  have GI:=zh hds
  clear hd hds hok h45
  go_enter Tryz.func197,Tryz.ntmps197
  go_wp2_with fail
  go_loopw [4,5,6,7] (fun dv ev _ _ wr=>∃ (q:Int) (ls:List Nat),ev= .int .i64 q∧ -4≤q∧q≤s.size∧Hid ((1:Int)<q→(s.size:Int) - q=4*ls.length)∧Hid (ls.length≤s.size)∧Hid (dF 10000 ls)∧Hid (val 10000 ls=num (bs.drop (max q 1).toNat))∧wr.ownsRow (w.heap.size+1) 3 1 dv ls.length (ints ls) ∧
    Below (w.heap.size+1) (w.alloc (.cells #[.bool false,.slice none 0 0] 150)) wr) (fun _ ev _ _ _=>(intOf ev+4).toNat)
  case atStart=>exact ⟨s.size,[],rfl,by omega,by omega,zh (by intro h;simp),zh zi,zh dF.nil,zh (by rw [show (max (s.size:Int) 1).toNat=bs.length by rw [HN.out];omega,List.drop_length];simp [val,num]),World.ownsRow_nil _ _ _ _,Below.refl _ _⟩
  case round =>
   obtain ⟨q,ls,rfl,hq4,hqs,HE,HLL,BX,HV,hown,hb⟩:=hrel
   by_cases hqf:q≤1
   ·have hv:val 10000 ls=num (bs.drop 1):=by rw [HV.out,show (max q 1).toNat=1 by omega]
    have hz:jg (val 10000 ls) true=z:=by rw [hv,← HD.out];exact HZ.out
    have h1:Below w.heap.size w wr:=⟨hb.os,hb.tape,hb.output,Nat.le_trans zi hb.size,fun i hi=>(hb.block i zo).trans (h0.block i hi)⟩
    have qK:=hx.later (w':=wr) ⟨hb.os,hb.tape,hb.output,by have:=hb.size;simpa using this,fun i hi=>hb.block i (by simpa using hi)⟩
    have cx:=qK.cell
    have fx:=qK.free
    have hg:=uw true u4 ls wr (Gs.dN hown) BX.out
    rw [hz] at hg
    have HG:=zh hg
    obtain ⟨pa,ca,rfl, -⟩:=(Gs.dN hown).read
    clear hv hz hg hown HE HV hb
    go_wp2_with fail
    refine HG.out.mono ?_
    rintro e w' ⟨v',rfl,hb,hv⟩
    obtain ⟨bNV,YS,lNV,ae8,rfl⟩:=hv.agg;have NV:=zh hv;clear hv
    have hy:=qK.later hb
    clear cx fx
    have cy:=hy.cell
    have fy:=hy.free
    go_wp2_with fail
    refine bO rfl rfl aJ Tryz.underlying150 rfl zk ?_
    exact ⟨_,rfl,aA,NV.out.set2 hy zd _ _ _ _⟩
   ·obtain ⟨e,rfl⟩:∃ e:Nat,q=(e:Int):=⟨q.toNat,by omega⟩
    have hef:1<e:=by omega
    have aE5:(1:Int)<(e:Int):=by omega
    rcases Int.lt_or_le ((e:Int) - 4) 1 with h4|h4
    ·have hst':(e:Int) - 4<1:=by omega
     have KO:max ((e:Int) - 4) 1=1:=by omega
     have hgl:=kg (bs:=bs) (f:=1) GI.out (Nat.le_refl _) (i:=e) zo
     have HE2:Hid ((s.size:Int) - e=4*ls.length):=zh (HE.out zo)
     clear HE
     go_wp2_with fail
     obtain ⟨wo,rfl⟩:∃ wo:World,wo=wr:=⟨_,rfl⟩
     go_loopw [6,7] (fun v6 v7 wi=>∃ i:Nat,v7= .int .i64 (i:Int)∧1≤i∧i≤e∧Hid (v6= .int .i64 (num ((bs.take i).drop 1):Nat))∧wo=wi) (fun _ v7 _=>e - (intOf v7).toNat)
     case atStart=>exact ⟨1,rfl,Nat.le_refl _,by omega,zh (by rw [List.drop_eq_nil_of_le (by rw [List.length_take];omega)];rfl),rfl⟩
     case round =>
      obtain ⟨i,rfl,hi1,hi2,H6,rfl⟩:=hrel
      have e6:=H6.out
      subst e6
      rcases Nat.lt_or_ge i e with hie|hie
      ·have his:i<s.size:=by omega
       have hx2:bs[i]? =some s[i]:=by rw [← NZ.out];exact List.getElem?_eq_getElem (by exact his)
       have hdi:=GI.out s[i] (by rw [← NZ.out];exact mK zo his)
       have HS:=zh (nK (bs:=bs) (st:=1) (x:=s[i]) hi1 hdi hx2)
       have hgb:=kg (bs:=bs) (f:=1) GI.out (Nat.le_refl _) (i:=i) zo
       generalize num ((bs.take i).drop 1)=g at *
       go_wp2_with fail
       exact ⟨⟨i+1,rfl,by omega,by omega,zh (by rw [← HS.out]),trivial⟩,by simp only [intOf];omega⟩
      ·have hie:i=e:=by omega
       subst hie
       have HG:=zh (nS (bs:=bs) (s:=1) (e:=i) zo (by have:=HN.out;omega))
       have hlen:bs.length - i=4*ls.length:=by have:=HE2.out;have:=HN.out;omega
       have hmx:(max (i:Int) 1).toNat=i:=by omega
       have hv0:=HV.out
       rw [hmx] at hv0
       rw [hlen,Nat.pow_mul,← hv0] at HG
       generalize num ((bs.take i).drop 1)=gv at *
       have hll:ls.length+1≤s.size:=by have:=HE2.out;omega
       have ec:ints ls++[.int .i64 (gv:Int)]=ints (ls++[gv]):=by unfold ints;simp only [List.map_append,List.map_cons,List.map_nil]
       have EC:=zh ec
       clear H6 ec
       go_wp2_with (at_builtin;refine wpList_append_own _ rfl (.tmp 35) (.tmp 37) 148 rfl (w.heap.size+1) 3 i0 (.int .i64 0) 1 8 Tryz.underlying148 hi hz0 hz1 hz2 rfl zd _ _ _ rfl (hown.alloc _) ⟨wo.heap.size,0,none⟩ 1 1 [.int .i64 (gv:Int)] rfl rfl (by intro t u ht;match t,ht with|0,ht=>simp at ht;subst ht;simp [Addr.add]) (by intro u hu;simp at hu;subst hu;rfl) (by unfold maxLen;omega) zo (by have:=hb.size;simp at*; omega) ?_)
       intro v' w1 hown1 hgrow1 _
       rw [EC.out] at hown1
       have hb3:Below (w.heap.size+1) (w.alloc (.cells #[.bool false,.slice none 0 0] 150)) w1:=(hb.alloc (by have:=hb.size;simpa using this) _).grown hgrow1 (by simp;have:=hb.size;simp at*; omega) (fun k hk=>(hown.lt k hk).1)
       have zm:Hid (val 10000 (ls++[gv])=num (bs.drop (max ((i:Int) - 4) 1).toNat)):=by
        unfold Hid
        rw [show (max ((i:Int) - 4) 1).toNat=1 by omega,gQ,HG.out,Nat.add_comm,Nat.mul_comm]
       clear hown hgrow1 hst' KO
       go_wp2_with fail
       refine ⟨⟨(i:Int) - 4,ls++[gv],rfl,by omega,by omega,zh (fun h=>?_),zh (by rw [List.length_append];exact hll),zh (BX.out.snoc hgl),zm,by rw [List.length_append];exact hown1,hb3⟩,?_⟩
       ·have:=HE2.out
        rw [List.length_append,List.length_singleton]
        omega
       ·simp only [intOf]
        omega
    ·obtain ⟨f,rfl⟩:∃ f,e=f+4:=⟨e - 4,by omega⟩
     have s1:1≤f:=by omega
     have hst':¬ (f:Int)<1:=by omega
     have KO:max (f:Int) 1=(f:Int):=by omega
     have hgl:=kg (bs:=bs) (f:=1) GI.out s1 (i:=f+4) zo
     have HE2:Hid ((s.size:Int) - ((f+4:Nat):Int)=4*ls.length):=zh (HE.out zo)
     clear HE
     go_wp2_with fail
     obtain ⟨wo,rfl⟩:∃ wo:World,wo=wr:=⟨_,rfl⟩
     go_loopw [6,7] (fun v6 v7 wi=>∃ i:Nat,v7= .int .i64 (i:Int)∧f≤i∧i≤f+4∧Hid (v6= .int .i64 (num ((bs.take i).drop f):Nat))∧wo=wi) (fun _ v7 _=>f+4 - (intOf v7).toNat)
     case atStart=>exact ⟨f,rfl,Nat.le_refl _,by omega,zh (by rw [List.drop_eq_nil_of_le (by rw [List.length_take];omega)];rfl),rfl⟩
     case round =>
      obtain ⟨i,rfl,hi1,hi2,H6,rfl⟩:=hrel
      have e6:=H6.out
      subst e6
      rcases Nat.lt_or_ge i (f+4) with hie|hie
      ·have his:i<s.size:=by omega
       have hx2:bs[i]? =some s[i]:=by rw [← NZ.out];exact List.getElem?_eq_getElem (by exact his)
       have hdi:=GI.out s[i] (by rw [← NZ.out];exact mK zo his)
       have HS:=zh (nK (bs:=bs) (st:=f) (x:=s[i]) hi1 hdi hx2)
       have hgb:=kg (bs:=bs) (f:=1) GI.out s1 (i:=i) zo
       generalize num ((bs.take i).drop f)=g at *
       go_wp2_with fail
       exact ⟨⟨i+1,rfl,by omega,by omega,zh (by rw [← HS.out]),trivial⟩,by simp only [intOf];omega⟩
      ·obtain rfl:i=f+4:=by omega
       have HG:=zh (nS (bs:=bs) (s:=f) (e:=f+4) zo (by have:=HN.out;omega))
       have hlen:bs.length - (f+4)=4*ls.length:=by have:=HE2.out;have:=HN.out;omega
       have hmx:(max ((f+4:Nat):Int) 1).toNat=f+4:=by omega
       have hv0:=HV.out
       rw [hmx] at hv0
       rw [hlen,Nat.pow_mul,← hv0] at HG
       generalize num ((bs.take (f+4)).drop f)=gv at *
       have hll:ls.length+1≤s.size:=by have:=HE2.out;omega
       have ec:ints ls++[.int .i64 (gv:Int)]=ints (ls++[gv]):=by unfold ints;simp only [List.map_append,List.map_cons,List.map_nil]
       have EC:=zh ec
       clear H6 ec
       go_wp2_with (at_builtin;refine wpList_append_own _ rfl (.tmp 35) (.tmp 37) 148 rfl (w.heap.size+1) 3 i0 (.int .i64 0) 1 8 Tryz.underlying148 hi hz0 hz1 hz2 rfl zd _ _ _ rfl (hown.alloc _) ⟨wo.heap.size,0,none⟩ 1 1 [.int .i64 (gv:Int)] rfl rfl (by intro t u ht;match t,ht with|0,ht=>simp at ht;subst ht;simp [Addr.add]) (by intro u hu;simp at hu;subst hu;rfl) (by unfold maxLen;omega) zo (by have:=hb.size;simp at*; omega) ?_)
       intro v' w1 hown1 hgrow1 _
       rw [EC.out] at hown1
       have hb3:Below (w.heap.size+1) (w.alloc (.cells #[.bool false,.slice none 0 0] 150)) w1:=(hb.alloc (by have:=hb.size;simpa using this) _).grown hgrow1 (by simp;have:=hb.size;simp at*; omega) (fun k hk=>(hown.lt k hk).1)
       have zm:Hid (val 10000 (ls++[gv])=num (bs.drop (max (f:Int) 1).toNat)):=by
        unfold Hid
        rw [show (max (f:Int) 1).toNat=f by omega,gQ,HG.out,Nat.add_comm,Nat.mul_comm]
       clear hown hgrow1 hst' KO
       go_wp2_with fail
       refine ⟨⟨(f:Int),ls++[gv],rfl,by omega,by omega,zh (fun h=>?_),zh (by rw [List.length_append];exact hll),zh (BX.out.snoc hgl),zm,by rw [List.length_append];exact hown1,hb3⟩,?_⟩
       ·have:=HE2.out
        rw [List.length_append,List.length_singleton]
        omega
       ·simp only [intOf]
        omega
 ·obtain ⟨hd,VN⟩:=hC
  subst VN
  have HD:=zh hd
  have hds:qI (bs.drop 0):=by rw [← hd];exact oP hok
  have hle:0<s.size:=by
   have h1:d≠[]:=fun e=>by rw [e] at hok;exact absurd hok (by simp [dI])
   have h2:0<d.length:=List.length_pos_iff.2 h1
   rw [hd,List.length_drop,HN.out] at h2
   omega
  have hq:((s[0].toNat:Int) == 45)=false:=by
   have h:s[0]≠45:=fun e=>by have:=h45.2 e;cases this
   rw [beq_eq_false_iff_ne]
   intro h2
   exact h (UInt8.toNat_inj.1 (by
    have:s[0].toNat=45:=by omega
    rw [this];rfl))
  have GI:=zh hds
  clear hd hds hok h45
  go_enter Tryz.func197,Tryz.ntmps197
  go_wp2_with fail
  go_loopw [4,5,6,7] (fun dv ev _ _ wr=>∃ (q:Int) (ls:List Nat),ev= .int .i64 q∧ -4≤q∧q≤s.size∧Hid ((0:Int)<q→(s.size:Int) - q=4*ls.length)∧Hid (ls.length≤s.size)∧Hid (dF 10000 ls)∧Hid (val 10000 ls=num (bs.drop (max q 0).toNat))∧wr.ownsRow (w.heap.size+1) 3 1 dv ls.length (ints ls) ∧
    Below (w.heap.size+1) (w.alloc (.cells #[.bool false,.slice none 0 0] 150)) wr) (fun _ ev _ _ _=>(intOf ev+4).toNat)
  case atStart=>exact ⟨s.size,[],rfl,by omega,by omega,zh (by intro h;simp),zh zi,zh dF.nil,zh (by rw [show (max (s.size:Int) 0).toNat=bs.length by rw [HN.out];omega,List.drop_length];simp [val,num]),World.ownsRow_nil _ _ _ _,Below.refl _ _⟩
  case round =>
   obtain ⟨q,ls,rfl,hq4,hqs,HE,HLL,BX,HV,hown,hb⟩:=hrel
   by_cases hqf:q≤0
   ·have hv:val 10000 ls=num (bs.drop 0):=by rw [HV.out,show (max q 0).toNat=0 by omega]
    have hz:jg (val 10000 ls) false=z:=by rw [hv,← HD.out];exact HZ.out
    have h1:Below w.heap.size w wr:=⟨hb.os,hb.tape,hb.output,Nat.le_trans zi hb.size,fun i hi=>(hb.block i zo).trans (h0.block i hi)⟩
    have qK:=hx.later (w':=wr) ⟨hb.os,hb.tape,hb.output,by have:=hb.size;simpa using this,fun i hi=>hb.block i (by simpa using hi)⟩
    have cx:=qK.cell
    have fx:=qK.free
    have hg:=uw false u4 ls wr (Gs.dN hown) BX.out
    rw [hz] at hg
    have HG:=zh hg
    obtain ⟨pa,ca,rfl, -⟩:=(Gs.dN hown).read
    clear hv hz hg hown HE HV hb
    go_wp2_with fail
    refine HG.out.mono ?_
    rintro e w' ⟨v',rfl,hb,hv⟩
    obtain ⟨bNV,YS,lNV,ae8,rfl⟩:=hv.agg;have NV:=zh hv;clear hv
    have hy:=qK.later hb
    clear cx fx
    have cy:=hy.cell
    have fy:=hy.free
    go_wp2_with fail
    refine bO rfl rfl aJ Tryz.underlying150 rfl zk ?_
    exact ⟨_,rfl,aA,NV.out.set2 hy zd _ _ _ _⟩
   ·obtain ⟨e,rfl⟩:∃ e:Nat,q=(e:Int):=⟨q.toNat,by omega⟩
    have hef:0<e:=by omega
    have aE5:(0:Int)<(e:Int):=by omega
    rcases Int.lt_or_le ((e:Int) - 4) 0 with h4|h4
    ·have hst':(e:Int) - 4<0:=by omega
     have KO:max ((e:Int) - 4) 0=0:=by omega
     have hgl:=kg (bs:=bs) (f:=0) GI.out (Nat.le_refl _) (i:=e) zo
     have HE2:Hid ((s.size:Int) - e=4*ls.length):=zh (HE.out zo)
     clear HE
     go_wp2_with fail
     obtain ⟨wo,rfl⟩:∃ wo:World,wo=wr:=⟨_,rfl⟩
     go_loopw [6,7] (fun v6 v7 wi=>∃ i:Nat,v7= .int .i64 (i:Int)∧0≤i∧i≤e∧Hid (v6= .int .i64 (num ((bs.take i).drop 0):Nat))∧wo=wi) (fun _ v7 _=>e - (intOf v7).toNat)
     case atStart=>exact ⟨0,rfl,Nat.le_refl _,by omega,zh (by rw [List.drop_eq_nil_of_le (by rw [List.length_take];omega)];rfl),rfl⟩
     case round =>
      obtain ⟨i,rfl,hi1,hi2,H6,rfl⟩:=hrel
      have e6:=H6.out
      subst e6
      rcases Nat.lt_or_ge i e with hie|hie
      ·have his:i<s.size:=by omega
       have hx2:bs[i]? =some s[i]:=by rw [← NZ.out];exact List.getElem?_eq_getElem (by exact his)
       have hdi:=GI.out s[i] (by rw [← NZ.out];exact mK zo his)
       have HS:=zh (nK (bs:=bs) (st:=0) (x:=s[i]) hi1 hdi hx2)
       have hgb:=kg (bs:=bs) (f:=0) GI.out (Nat.le_refl _) (i:=i) zo
       generalize num ((bs.take i).drop 0)=g at *
       go_wp2_with fail
       exact ⟨⟨i+1,rfl,by omega,by omega,zh (by rw [← HS.out]),trivial⟩,by simp only [intOf];omega⟩
      ·have hie:i=e:=by omega
       subst hie
       have HG:=zh (nS (bs:=bs) (s:=0) (e:=i) zo (by have:=HN.out;omega))
       have hlen:bs.length - i=4*ls.length:=by have:=HE2.out;have:=HN.out;omega
       have hmx:(max (i:Int) 0).toNat=i:=by omega
       have hv0:=HV.out
       rw [hmx] at hv0
       rw [hlen,Nat.pow_mul,← hv0] at HG
       generalize num ((bs.take i).drop 0)=gv at *
       have hll:ls.length+1≤s.size:=by have:=HE2.out;omega
       have ec:ints ls++[.int .i64 (gv:Int)]=ints (ls++[gv]):=by unfold ints;simp only [List.map_append,List.map_cons,List.map_nil]
       have EC:=zh ec
       clear H6 ec
       go_wp2_with (at_builtin;refine wpList_append_own _ rfl (.tmp 35) (.tmp 37) 148 rfl (w.heap.size+1) 3 i0 (.int .i64 0) 1 8 Tryz.underlying148 hi hz0 hz1 hz2 rfl zd _ _ _ rfl (hown.alloc _) ⟨wo.heap.size,0,none⟩ 1 1 [.int .i64 (gv:Int)] rfl rfl (by intro t u ht;match t,ht with|0,ht=>simp at ht;subst ht;simp [Addr.add]) (by intro u hu;simp at hu;subst hu;rfl) (by unfold maxLen;omega) zo (by have:=hb.size;simp at*; omega) ?_)
       intro v' w1 hown1 hgrow1 _
       rw [EC.out] at hown1
       have hb3:Below (w.heap.size+1) (w.alloc (.cells #[.bool false,.slice none 0 0] 150)) w1:=(hb.alloc (by have:=hb.size;simpa using this) _).grown hgrow1 (by simp;have:=hb.size;simp at*; omega) (fun k hk=>(hown.lt k hk).1)
       have zm:Hid (val 10000 (ls++[gv])=num (bs.drop (max ((i:Int) - 4) 0).toNat)):=by
        unfold Hid
        rw [show (max ((i:Int) - 4) 0).toNat=0 by omega,gQ,HG.out,Nat.add_comm,Nat.mul_comm]
       clear hown hgrow1 hst' KO
       go_wp2_with fail
       refine ⟨⟨(i:Int) - 4,ls++[gv],rfl,by omega,by omega,zh (fun h=>?_),zh (by rw [List.length_append];exact hll),zh (BX.out.snoc hgl),zm,by rw [List.length_append];exact hown1,hb3⟩,?_⟩
       ·have:=HE2.out
        rw [List.length_append,List.length_singleton]
        omega
       ·simp only [intOf]
        omega
    ·obtain ⟨f,rfl⟩:∃ f,e=f+4:=⟨e - 4,by omega⟩
     have s1:0≤f:=by omega
     have hst':¬ (f:Int)<0:=by omega
     have KO:max (f:Int) 0=(f:Int):=by omega
     have hgl:=kg (bs:=bs) (f:=0) GI.out s1 (i:=f+4) zo
     have HE2:Hid ((s.size:Int) - ((f+4:Nat):Int)=4*ls.length):=zh (HE.out zo)
     clear HE
     go_wp2_with fail
     obtain ⟨wo,rfl⟩:∃ wo:World,wo=wr:=⟨_,rfl⟩
     go_loopw [6,7] (fun v6 v7 wi=>∃ i:Nat,v7= .int .i64 (i:Int)∧f≤i∧i≤f+4∧Hid (v6= .int .i64 (num ((bs.take i).drop f):Nat))∧wo=wi) (fun _ v7 _=>f+4 - (intOf v7).toNat)
     case atStart=>exact ⟨f,rfl,Nat.le_refl _,by omega,zh (by rw [List.drop_eq_nil_of_le (by rw [List.length_take];omega)];rfl),rfl⟩
     case round =>
      obtain ⟨i,rfl,hi1,hi2,H6,rfl⟩:=hrel
      have e6:=H6.out
      subst e6
      rcases Nat.lt_or_ge i (f+4) with hie|hie
      ·have his:i<s.size:=by omega
       have hx2:bs[i]? =some s[i]:=by rw [← NZ.out];exact List.getElem?_eq_getElem (by exact his)
       have hdi:=GI.out s[i] (by rw [← NZ.out];exact mK zo his)
       have HS:=zh (nK (bs:=bs) (st:=f) (x:=s[i]) hi1 hdi hx2)
       have hgb:=kg (bs:=bs) (f:=0) GI.out s1 (i:=i) zo
       generalize num ((bs.take i).drop f)=g at *
       go_wp2_with fail
       exact ⟨⟨i+1,rfl,by omega,by omega,zh (by rw [← HS.out]),trivial⟩,by simp only [intOf];omega⟩
      ·obtain rfl:i=f+4:=by omega
       have HG:=zh (nS (bs:=bs) (s:=f) (e:=f+4) zo (by have:=HN.out;omega))
       have hlen:bs.length - (f+4)=4*ls.length:=by have:=HE2.out;have:=HN.out;omega
       have hmx:(max ((f+4:Nat):Int) 0).toNat=f+4:=by omega
       have hv0:=HV.out
       rw [hmx] at hv0
       rw [hlen,Nat.pow_mul,← hv0] at HG
       generalize num ((bs.take (f+4)).drop f)=gv at *
       have hll:ls.length+1≤s.size:=by have:=HE2.out;omega
       have ec:ints ls++[.int .i64 (gv:Int)]=ints (ls++[gv]):=by unfold ints;simp only [List.map_append,List.map_cons,List.map_nil]
       have EC:=zh ec
       clear H6 ec
       go_wp2_with (at_builtin;refine wpList_append_own _ rfl (.tmp 35) (.tmp 37) 148 rfl (w.heap.size+1) 3 i0 (.int .i64 0) 1 8 Tryz.underlying148 hi hz0 hz1 hz2 rfl zd _ _ _ rfl (hown.alloc _) ⟨wo.heap.size,0,none⟩ 1 1 [.int .i64 (gv:Int)] rfl rfl (by intro t u ht;match t,ht with|0,ht=>simp at ht;subst ht;simp [Addr.add]) (by intro u hu;simp at hu;subst hu;rfl) (by unfold maxLen;omega) zo (by have:=hb.size;simp at*; omega) ?_)
       intro v' w1 hown1 hgrow1 _
       rw [EC.out] at hown1
       have hb3:Below (w.heap.size+1) (w.alloc (.cells #[.bool false,.slice none 0 0] 150)) w1:=(hb.alloc (by have:=hb.size;simpa using this) _).grown hgrow1 (by simp;have:=hb.size;simp at*; omega) (fun k hk=>(hown.lt k hk).1)
       have zm:Hid (val 10000 (ls++[gv])=num (bs.drop (max (f:Int) 0).toNat)):=by
        unfold Hid
        rw [show (max (f:Int) 0).toNat=f by omega,gQ,HG.out,Nat.add_comm,Nat.mul_comm]
       clear hown hgrow1 hst' KO
       go_wp2_with fail
       refine ⟨⟨(f:Int),ls++[gv],rfl,by omega,by omega,zh (fun h=>?_),zh (by rw [List.length_append];exact hll),zh (BX.out.snoc hgl),zm,by rw [List.length_append];exact hown1,hb3⟩,?_⟩
       ·have:=HE2.out
        rw [List.length_append,List.length_singleton]
        omega
       ·simp only [intOf]
        omega
end Go.Proofs.aF
namespace Go.Proofs.aH
open Go Go.RowKit Go.SW Go.Num Go.Mem Go.Proofs Go.Dec Go.Proofs.aF
def Ra (w:World) (v:Value) (q:Rat):Prop:=∃ bn pn ln cn bd pd ld cd,v= .agg #[.bool bn,.slice pn ln cn,.bool bd,.slice pd ld cd]∧Pl w (.agg #[.bool bn,.slice pn ln cn]) q.num∧Pl w (.agg #[.bool bd,.slice pd ld cd]) q.den
theorem Ra.later {w w':World} {v:Value} {q:Rat} (h:Ra w v q) (hb:Below w.heap.size w w'):Ra w' v q:=by
 obtain ⟨bn,pn,ln,cn,bd,pd,ld,cd,e,h1,h2⟩:=h
 exact ⟨bn,pn,ln,cn,bd,pd,ld,cd,e,h1.later hb,h2.later hb⟩
def dD (w:World) (q:Rat) (e:Ending) (w':World):Prop:=∃ v',e= .returned v'∧Below w.heap.size w w'∧Ra w' v' q
theorem x9 {n d:Int} (hd:0<d):((n:Rat) / (d:Rat)).num=n / (Nat.gcd n.natAbs d.natAbs:Int)∧(((n:Rat) / (d:Rat)).den:Int)=d / (Nat.gcd n.natAbs d.natAbs:Int):=by
 obtain ⟨k,rfl⟩:=Int.eq_ofNat_of_zero_le (Int.le_of_lt hd)
 have hk:0<k:=by omega
 have e:(n:Rat) / ((k:Int):Rat)=mkRat n k:=by
  rw [Rat.mkRat_eq_div]
  rfl
 have h:=dx.wG n hk
 rw [e,Int.natAbs_natCast]
 refine ⟨?_,?_⟩
 ·rw [h.1,dx.Au (Nat.gcd_dvd_left _ _)]
 ·rw [h.2,Int.natCast_ediv]
theorem Pl.kH {w:World} {v:Value} {z:Int} (h:Pl w v z) {b:Nat} {cs:Array Value} {T':TypeId} (hx:au w b cs T') (hT:3≠T') (u0 u1 u2 u3:Value) :
  Pl ((((w.setCell ⟨b,0,none⟩ u0).setCell ⟨b,1,none⟩ u1).setCell ⟨b,2,none⟩ u2).setCell ⟨b,3,none⟩ u3) v z :=
 (h.set2 hx hT 0 1 u0 u1).set2 ((hx.set 0 u0).set 1 u1) hT 2 3 u2 u3
theorem Ra.kH {w:World} {v:Value} {q:Rat} (h:Ra w v q) {b:Nat} {cs:Array Value} {T':TypeId} (hx:au w b cs T') (hT:3≠T') (u0 u1 u2 u3:Value) :
  Ra ((((w.setCell ⟨b,0,none⟩ u0).setCell ⟨b,1,none⟩ u1).setCell ⟨b,2,none⟩ u2).setCell ⟨b,3,none⟩ u3) v q:=by
 obtain ⟨bn,pn,ln,cn,bd,pd,ld,cd,e,h1,h2⟩:=h
 exact ⟨bn,pn,ln,cn,bd,pd,ld,cd,e,Pl.kH h1 hx hT u0 u1 u2 u3,Pl.kH h2 hx hT u0 u1 u2 u3⟩
theorem LJ (x y:Value) (n d:Int) (w:World) (hx:Pl w x n) (hy:Pl w y d) (ha:sz 10000 n.natAbs≤274877906944) (hb:sz 10000 d.natAbs≤274877906944) (hd:0<d) :
  Calls Tryz.prog 158 #[x,y] w (dD w ((n:Rat) / (d:Rat))):=by
 obtain ⟨e1,e2⟩:=x9 (n:=n) hd
 obtain ⟨q,Eq⟩:∃ q:Rat,(n:Rat) / (d:Rat)=q:=⟨_,rfl⟩
 rw [Eq] at e1 e2 ⊢
 obtain ⟨bA,gG,lA,gK,rfl⟩:=hx.agg
 obtain ⟨bB,iK,lB,iP,rfl⟩:=hy.agg
 have hbf:bB=false:=by rw [hy.nm.2];simp;omega
 subst hbf
 have NA:=zh hx
 have NB:=zh hy
 have KA:=zh ha
 have KB:=zh hb
 have hg0:0<Nat.gcd n.natAbs d.natAbs:=Nat.gcd_pos_of_pos_right _ zo
 have hgd:Nat.gcd n.natAbs d.natAbs≤d.natAbs:=Nat.le_of_dvd zo (Nat.gcd_dvd_right _ _)
 have dn:((Nat.gcd n.natAbs d.natAbs:Nat):Int) ∣ n:=by rw [← Int.dvd_natAbs,Int.ofNat_dvd];exact Nat.gcd_dvd_left _ _
 have dd:((Nat.gcd n.natAbs d.natAbs:Nat):Int) ∣ d:=by rw [← Int.dvd_natAbs,Int.ofNat_dvd];exact Nat.gcd_dvd_right _ _
 have Gr:=zh (fun W=>vV (.agg #[.bool bA,.slice gG lA gK]) (.agg #[.bool false,.slice iK lB iP]) n d W)
 generalize Nat.gcd n.natAbs d.natAbs=g at *
 have G0:Hid (0<(g:Int)):=zh zo
 have KG:Hid (sz 10000 (g:Int).natAbs≤274877906944):=zh (Nat.le_trans (iH zo (by simpa using hgd)) hb)
 have DN:=zh dn
 have DD:=zh dd
 have E1:=zh e1
 have E2:=zh e2
 clear e1 e2 Eq hx hy ha hb hd hg0 hgd dn dd
 go_enter Tryz.func158,Tryz.ntmps158
 go_wp2_with fail
 have hz:Below w.heap.size w (((w.alloc (.cells #[.bool bA,.slice gG lA gK] 150)).alloc (.cells #[.bool false,.slice iK lB iP] 150)).alloc (.cells #[.bool false,.slice none 0 0,.bool false,.slice none 0 0] 152)):=aA
 obtain ⟨aO,EW⟩:∃ y,(((w.alloc (.cells #[.bool bA,.slice gG lA gK] 150)).alloc (.cells #[.bool false,.slice iK lB iP] 150)).alloc (.cells #[.bool false,.slice none 0 0,.bool false,.slice none 0 0] 152))=y:=⟨_,rfl⟩
 have X1:Hid (au aO (w.heap.size) #[.bool bA,.slice gG lA gK] 150):=zh (by rw [← EW];exact au.alloc (au.alloc (au.new _ _ _) _) _)
 have X2:Hid (au aO (w.heap.size+1) #[.bool false,.slice iK lB iP] 150):=zh (by rw [← EW];exact au.alloc (au.fZ _ _ _ _) _)
 have X3:Hid (au aO (w.heap.size+1+1) #[.bool false,.slice none 0 0,.bool false,.slice none 0 0] 152):=zh (by rw [← EW];exact au.at2 _ _ _ _ _)
 rw [EW] at hz ⊢
 replace NA:=zh (NA.out.later hz)
 replace NB:=zh (NB.out.later hz)
 have hk2:=Bt (Below.refl _ _) hz
 clear EW hz
 refine (Gr.out _ NA.out NB.out KA.out KB.out).mono ?_
 rintro e fM ⟨v,rfl,hb3,hv4⟩
 obtain ⟨bG,JH,lG,JL,rfl⟩:=hv4.agg
 replace NA:=zh (NA.out.later hb3)
 replace NB:=zh (NB.out.later hb3)
 replace X1:=zh (X1.out.later hb3)
 replace X2:=zh (X2.out.later hb3)
 replace X3:=zh (X3.out.later hb3)
 have hk5:=Bt hk2 hb3
 clear hk2
 have NG:=zh hv4
 clear hb3 hv4
 have eP:=X1.out.cell;have eO:=X1.out.lt;have fU:=X1.out.free
 go_upto_region 4 with fail
 clear eP eO fU
 have hz:Below fM.heap.size fM (fM.alloc (.cells #[.bool bG,.slice JH lG JL] 150)):=aA
 obtain ⟨UZ,EW⟩:∃ y,(fM.alloc (.cells #[.bool bG,.slice JH lG JL] 150))=y:=⟨_,rfl⟩
 have X4:Hid (au UZ (fM.heap.size) #[.bool bG,.slice JH lG JL] 150):=zh (by rw [← EW];exact au.new _ _ _)
 rw [EW] at hz ⊢
 replace NA:=zh (NA.out.later hz)
 replace NB:=zh (NB.out.later hz)
 replace X1:=zh (X1.out.later hz)
 replace X2:=zh (X2.out.later hz)
 replace X3:=zh (X3.out.later hz)
 replace NG:=zh (NG.out.later hz)
 have Cz:=Bt hk5 hz
 clear hk5
 clear EW hz
 generalize fM.heap.size=pq6 at *
 have eP:=X1.out.cell;have eO:=X1.out.lt;have fU:=X1.out.free
 have rX:=X4.out.cell;have rW:=X4.out.lt;have JJ:=X4.out.free
 go_wp2_with fail
 clear eP eO fU rX rW JJ
 refine (xG _ _ _ _ _ NA.out NG.out KA.out KG.out G0.out (.inr DN.out)).mono ?_
 rintro e UA ⟨vx,vy,rfl,kD,hq,hr⟩
 obtain ⟨bX,Q7,lX,TH,rfl⟩:=hq.agg
 obtain ⟨bU,MG,lU,Nn,rfl⟩:=hr.agg
 replace NA:=zh (NA.out.later kD)
 replace NB:=zh (NB.out.later kD)
 replace X1:=zh (X1.out.later kD)
 replace X2:=zh (X2.out.later kD)
 replace X3:=zh (X3.out.later kD)
 replace NG:=zh (NG.out.later kD)
 replace X4:=zh (X4.out.later kD)
 have hk10:=Bt Cz kD
 clear Cz
 have NX:=zh hq
 clear kD hq
 have dY:=X2.out.cell;have dW:=X2.out.lt;have gN:=X2.out.free
 have rX:=X4.out.cell;have rW:=X4.out.lt;have JJ:=X4.out.free
 go_upto_region 5 with fail
 clear dY dW gN rX rW JJ
 have hz:Below UA.heap.size UA ((UA.alloc (.cells #[.bool bX,.slice Q7 lX TH] 150)).alloc (.cells #[.bool bU,.slice MG lU Nn] 150)):=aA
 obtain ⟨Qs,EW⟩:∃ y,((UA.alloc (.cells #[.bool bX,.slice Q7 lX TH] 150)).alloc (.cells #[.bool bU,.slice MG lU Nn] 150))=y:=⟨_,rfl⟩
 have X5:Hid (au Qs (UA.heap.size) #[.bool bX,.slice Q7 lX TH] 150):=zh (by rw [← EW];exact au.alloc (au.new _ _ _) _)
 rw [EW] at hz ⊢
 clear NA
 replace NB:=zh (NB.out.later hz)
 clear X1
 replace X2:=zh (X2.out.later hz)
 replace X3:=zh (X3.out.later hz)
 replace NG:=zh (NG.out.later hz)
 replace X4:=zh (X4.out.later hz)
 replace NX:=zh (NX.out.later hz)
 have Pf:=Bt hk10 hz
 clear hk10
 clear EW hz
 generalize UA.heap.size=aP2 at *
 have dY:=X2.out.cell;have dW:=X2.out.lt;have gN:=X2.out.free
 have rX:=X4.out.cell;have rW:=X4.out.lt;have JJ:=X4.out.free
 go_wp2_with fail
 clear dY dW gN rX rW JJ
 refine (xG _ _ _ _ _ NB.out NG.out KB.out KG.out G0.out (.inr DD.out)).mono ?_
 rintro e gY ⟨vx,vy,rfl,fF,hq,hr⟩
 obtain ⟨bY,Q6,lY,TF,rfl⟩:=hq.agg
 obtain ⟨bV,MF,lV,Nl,rfl⟩:=hr.agg
 replace NB:=zh (NB.out.later fF)
 replace X2:=zh (X2.out.later fF)
 replace X3:=zh (X3.out.later fF)
 replace NG:=zh (NG.out.later fF)
 replace X4:=zh (X4.out.later fF)
 replace NX:=zh (NX.out.later fF)
 replace X5:=zh (X5.out.later fF)
 have CB:=Bt Pf fF
 clear Pf
 have NY:=zh hq
 clear fF hq
 have zS:=X5.out.cell;have zJ:=X5.out.lt;have XY:=X5.out.free
 have mo:=X3.out.cell;have mg:=X3.out.lt;have pX:=X3.out.free
 go_upto_region 6 with fail
 clear zS zJ XY mo mg pX
 have hz:Below gY.heap.size gY ((gY.alloc (.cells #[.bool bY,.slice Q6 lY TF] 150)).alloc (.cells #[.bool bV,.slice MF lV Nl] 150)):=aA
 obtain ⟨ay7,EW⟩:∃ y,((gY.alloc (.cells #[.bool bY,.slice Q6 lY TF] 150)).alloc (.cells #[.bool bV,.slice MF lV Nl] 150))=y:=⟨_,rfl⟩
 have X7:Hid (au ay7 (gY.heap.size) #[.bool bY,.slice Q6 lY TF] 150):=zh (by rw [← EW];exact au.alloc (au.new _ _ _) _)
 rw [EW] at hz ⊢
 clear NB
 clear X2
 replace X3:=zh (X3.out.later hz)
 clear NG
 clear X4
 replace NX:=zh (NX.out.later hz)
 replace X5:=zh (X5.out.later hz)
 replace NY:=zh (NY.out.later hz)
 have aU1:=Bt CB hz
 clear CB
 clear EW hz
 generalize gY.heap.size=aP1 at *
 have zS:=X5.out.cell;have zJ:=X5.out.lt;have XY:=X5.out.free
 have cX7:=X7.out.cell;have lX7:=X7.out.lt;have fX7:=X7.out.free
 have mo:=X3.out.cell;have mg:=X3.out.lt;have pX:=X3.out.free
 have hres:=X3.out
 have iU:=hres.cell
 have iT:=hres.free
 go_wp2_with fail
 refine bO rfl rfl aJ Tryz.underlying152 rfl zk ?_
 have hx:=Pl.kH NX.out hres zd (.bool bX) (.slice Q7 lX TH) (.bool bY) (.slice Q6 lY TF)
 have hy:=Pl.kH NY.out hres zd (.bool bX) (.slice Q7 lX TH) (.bool bY) (.slice Q6 lY TF)
 rw [← E1.out] at hx
 rw [← E2.out] at hy
 exact ⟨_,rfl,aA,_,_,_,_,_,_,_,_,rfl,hx,hy⟩
theorem LK (x y:Value) (n d:Int) (w:World) (hx:Pl w x n) (hy:Pl w y d) (ha:sz 10000 n.natAbs≤274877906944) (hb:sz 10000 d.natAbs≤274877906944) (hd:d<0) :
  Calls Tryz.prog 158 #[x,y] w (dD w ((n:Rat) / (d:Rat))):=by
 obtain ⟨e1,e2⟩:=x9 (n:= -n) (d:= -d) zo
 rw [show ((-n:Int):Rat) / ((-d:Int):Rat)=(n:Rat) / (d:Rat) by rw [Rat.intCast_neg,Rat.intCast_neg,Rat.div_def,Rat.div_def];grind,Int.natAbs_neg,Int.natAbs_neg] at e1 e2
 obtain ⟨q,Eq⟩:∃ q:Rat,(n:Rat) / (d:Rat)=q:=⟨_,rfl⟩
 rw [Eq] at e1 e2 ⊢
 obtain ⟨bA,gG,lA,gK,rfl⟩:=hx.agg
 obtain ⟨bB,iK,lB,iP,rfl⟩:=hy.agg
 have hbf:bB=true:=by rw [hy.nm.2];simp;omega
 subst hbf
 have NA:=zh hx
 have NB:=zh hy
 have KA:=zh ha
 have KB:=zh hb
 have hg0:0<Nat.gcd n.natAbs d.natAbs:=Nat.gcd_pos_of_pos_right _ zo
 have hgd:Nat.gcd n.natAbs d.natAbs≤d.natAbs:=Nat.le_of_dvd zo (Nat.gcd_dvd_right _ _)
 have dn:((Nat.gcd n.natAbs d.natAbs:Nat):Int) ∣ -n:=by rw [Int.dvd_neg];rw [← Int.dvd_natAbs,Int.ofNat_dvd];exact Nat.gcd_dvd_left _ _
 have dd:((Nat.gcd n.natAbs d.natAbs:Nat):Int) ∣ -d:=by rw [Int.dvd_neg];rw [← Int.dvd_natAbs,Int.ofNat_dvd];exact Nat.gcd_dvd_right _ _
 have Gr:=zh (fun x y W=>vV x y (-n) (-d) W)
 have KA':Hid (sz 10000 (-n).natAbs≤274877906944):=zh (by rw [Int.natAbs_neg];exact ha)
 have KB':Hid (sz 10000 (-d).natAbs≤274877906944):=zh (by rw [Int.natAbs_neg];exact hb)
 rw [Int.natAbs_neg,Int.natAbs_neg] at Gr
 generalize Nat.gcd n.natAbs d.natAbs=g at *
 have G0:Hid (0<(g:Int)):=zh zo
 have KG:Hid (sz 10000 (g:Int).natAbs≤274877906944):=zh (Nat.le_trans (iH zo (by simpa using hgd)) hb)
 have DN:=zh dn
 have DD:=zh dd
 have E1:=zh e1
 have E2:=zh e2
 clear e1 e2 Eq hx hy ha hb hd hg0 hgd dn dd
 go_enter Tryz.func158,Tryz.ntmps158
 go_wp2_with fail
 have hz:Below w.heap.size w (((w.alloc (.cells #[.bool bA,.slice gG lA gK] 150)).alloc (.cells #[.bool true,.slice iK lB iP] 150)).alloc (.cells #[.bool false,.slice none 0 0,.bool false,.slice none 0 0] 152)):=aA
 obtain ⟨aO,EW⟩:∃ y,(((w.alloc (.cells #[.bool bA,.slice gG lA gK] 150)).alloc (.cells #[.bool true,.slice iK lB iP] 150)).alloc (.cells #[.bool false,.slice none 0 0,.bool false,.slice none 0 0] 152))=y:=⟨_,rfl⟩
 have X1:Hid (au aO (w.heap.size) #[.bool bA,.slice gG lA gK] 150):=zh (by rw [← EW];exact au.alloc (au.alloc (au.new _ _ _) _) _)
 have X2:Hid (au aO (w.heap.size+1) #[.bool true,.slice iK lB iP] 150):=zh (by rw [← EW];exact au.alloc (au.fZ _ _ _ _) _)
 have X3:Hid (au aO (w.heap.size+1+1) #[.bool false,.slice none 0 0,.bool false,.slice none 0 0] 152):=zh (by rw [← EW];exact au.at2 _ _ _ _ _)
 rw [EW] at hz ⊢
 replace NA:=zh (NA.out.later hz)
 replace NB:=zh (NB.out.later hz)
 have hk2:=Bt (Below.refl _ _) hz
 clear EW hz
 have eP:=X1.out.cell;have eO:=X1.out.lt;have fU:=X1.out.free
 have dY:=X2.out.cell;have dW:=X2.out.lt;have gN:=X2.out.free
 refine aC [(.read,0),(.read,2),(.ext,1),(.ext,3),(.fin,4),(.fin,5)] zk zk zR zP ?_
 repeat (first|(refine ah rfl rfl fun J h=>?_;go_simp;refine h _ ?_;clear h J)|(refine aB rfl rfl rfl rfl fun J h=>?_;go_simp;refine h _ ?_;clear h J;try go_simp))
 refine aD rfl rfl (fun uZ hb3 J hJ=>?_);go_simp
 have hh3:Below aO.heap.size aO uZ:=aA
 clear hb3
 refine (o8 _ _ _ (NA.out.later hh3)).mono ?_
 rintro e rP ⟨v,rfl,hb4,hv5⟩
 obtain ⟨bC,Ch,lC,Cj,rfl⟩:=hv5.agg
 refine hJ _ _ hb4 ?_
 clear hJ J
 have ow:=Bt hh3 hb4
 have NC:=zh hv5
 clear hh3 hb4 hv5
 repeat (first|(refine ah rfl rfl fun J h=>?_;go_simp;refine h _ ?_;clear h J)|(refine aB rfl rfl rfl rfl fun J h=>?_;go_simp;refine h _ ?_;clear h J;try go_simp))
 refine aD rfl rfl (fun qL hb6 J hJ=>?_);go_simp
 have iD:Below aO.heap.size aO qL:=Bt ow aA
 replace NC:=zh (NC.out.later (show Below rP.heap.size rP qL from aA))
 clear hb6 ow
 refine (o8 _ _ _ (NB.out.later iD)).mono ?_
 rintro e ku ⟨v,rfl,dQ,kC⟩
 obtain ⟨bD,Ic,lD,Jl,rfl⟩:=kC.agg
 refine hJ _ _ dQ ?_
 clear hJ J
 have oU:=Bt iD dQ
 replace NC:=zh (NC.out.later dQ)
 have ND:=zh kC
 clear iD dQ kC
 repeat (first|(refine ah rfl rfl fun J h=>?_;go_simp;refine h _ ?_;clear h J)|(refine aB rfl rfl rfl rfl fun J h=>?_;go_simp;refine h _ ?_;clear h J;try go_simp))
 refine aI [_,_] rfl (fun zq Si=>?_)
 replace NC:=zh (NC.out.later (show Below ku.heap.size ku zq from aA))
 replace ND:=zh (ND.out.later (show Below ku.heap.size ku zq from aA))
 have gH:Below aO.heap.size aO zq:=Bt oU aA
 clear Si oU
 clear eP eO fU dY dW gN
 replace NA:=zh (NA.out.later gH)
 replace NB:=zh (NB.out.later gH)
 replace X1:=zh (X1.out.later gH)
 replace X2:=zh (X2.out.later gH)
 replace X3:=zh (X3.out.later gH)
 have hk10:=Bt hk2 gH
 clear hk2
 clear gH
 have eP:=X1.out.cell;have eO:=X1.out.lt;have fU:=X1.out.free
 have dY:=X2.out.cell;have dW:=X2.out.lt;have gN:=X2.out.free
 go_upto_region 3 with fail
 clear eP eO fU dY dW gN
 have hz:Below w.heap.size w ((((zq.setCell ⟨w.heap.size,0,none⟩ (.bool bC)).setCell ⟨w.heap.size,1,none⟩ (.slice Ch lC Cj)).setCell ⟨w.heap.size+1,0,none⟩ (.bool bD)).setCell ⟨w.heap.size+1,1,none⟩ (.slice Ic lD Jl)):=aA
 obtain ⟨Qs,EW⟩:∃ y,((((zq.setCell ⟨w.heap.size,0,none⟩ (.bool bC)).setCell ⟨w.heap.size,1,none⟩ (.slice Ch lC Cj)).setCell ⟨w.heap.size+1,0,none⟩ (.bool bD)).setCell ⟨w.heap.size+1,1,none⟩ (.slice Ic lD Jl))=y:=⟨_,rfl⟩
 have tX1:=((((X1.out.set 0 (.bool bC)).set 1 (.slice Ch lC Cj)).setOther (a:=⟨w.heap.size+1,0,none⟩) (.bool bD) (by first|assumption|(simp;done)|(simp;omega))).setOther (a:=⟨w.heap.size+1,1,none⟩) (.slice Ic lD Jl) (by first|assumption|(simp;done)|(simp;omega)))
 have JW:=((((X2.out.setOther (a:=⟨w.heap.size,0,none⟩) (.bool bC) (by first|assumption|(simp;done)|(simp;omega))).setOther (a:=⟨w.heap.size,1,none⟩) (.slice Ch lC Cj) (by first|assumption|(simp;done)|(simp;omega))).set 0 (.bool bD)).set 1 (.slice Ic lD Jl))
 have JV:=((((X3.out.setOther (a:=⟨w.heap.size,0,none⟩) (.bool bC) (by first|assumption|(simp;done)|(simp;omega))).setOther (a:=⟨w.heap.size,1,none⟩) (.slice Ch lC Cj) (by first|assumption|(simp;done)|(simp;omega))).setOther (a:=⟨w.heap.size+1,0,none⟩) (.bool bD) (by first|assumption|(simp;done)|(simp;omega))).setOther (a:=⟨w.heap.size+1,1,none⟩) (.slice Ic lD Jl) (by first|assumption|(simp;done)|(simp;omega)))
 have tNC:=((((NC.out.setOther X1.out zd 0 (.bool bC)).setOther (X1.out.set 0 (.bool bC)) zd 1 (.slice Ch lC Cj)).setOther ((X2.out.setOther (a:=⟨w.heap.size,0,none⟩) (.bool bC) (by first|assumption|(simp;done)|(simp;omega))).setOther (a:=⟨w.heap.size,1,none⟩) (.slice Ch lC Cj) (by first|assumption|(simp;done)|(simp;omega))) zd 0 (.bool bD)).setOther (((X2.out.setOther (a:=⟨w.heap.size,0,none⟩) (.bool bC) (by first|assumption|(simp;done)|(simp;omega))).setOther (a:=⟨w.heap.size,1,none⟩) (.slice Ch lC Cj) (by first|assumption|(simp;done)|(simp;omega))).set 0 (.bool bD)) zd 1 (.slice Ic lD Jl))
 have tND:=((((ND.out.setOther X1.out zd 0 (.bool bC)).setOther (X1.out.set 0 (.bool bC)) zd 1 (.slice Ch lC Cj)).setOther ((X2.out.setOther (a:=⟨w.heap.size,0,none⟩) (.bool bC) (by first|assumption|(simp;done)|(simp;omega))).setOther (a:=⟨w.heap.size,1,none⟩) (.slice Ch lC Cj) (by first|assumption|(simp;done)|(simp;omega))) zd 0 (.bool bD)).setOther (((X2.out.setOther (a:=⟨w.heap.size,0,none⟩) (.bool bC) (by first|assumption|(simp;done)|(simp;omega))).setOther (a:=⟨w.heap.size,1,none⟩) (.slice Ch lC Cj) (by first|assumption|(simp;done)|(simp;omega))).set 0 (.bool bD)) zd 1 (.slice Ic lD Jl))
 clear NA
 clear NB
 rw [EW] at tX1
 replace X1:Hid (au Qs (w.heap.size) #[.bool bC,.slice Ch lC Cj] 150):=zh tX1
 clear tX1
 rw [EW] at JW
 replace X2:Hid (au Qs (w.heap.size+1) #[.bool bD,.slice Ic lD Jl] 150):=zh JW
 clear JW
 rw [EW] at JV
 replace X3:Hid (au Qs (w.heap.size+1+1) #[.bool false,.slice none 0 0,.bool false,.slice none 0 0] 152):=zh JV
 clear JV
 rw [EW] at tNC
 replace NC:=zh tNC
 clear tNC
 rw [EW] at tND
 replace ND:=zh tND
 clear tND
 rw [EW] at hz ⊢
 clear EW
 clear hk10
 have CF:=hz
 clear hz
 have eP:=X1.out.cell;have eO:=X1.out.lt;have fU:=X1.out.free
 have dY:=X2.out.cell;have dW:=X2.out.lt;have gN:=X2.out.free
 go_wp2_with fail
 clear eP eO fU dY dW gN
 refine (Gr.out _ _ _ NC.out ND.out KA.out KB.out).mono ?_
 rintro e vg ⟨v,rfl,iE,Zw⟩
 obtain ⟨bG,JH,lG,JL,rfl⟩:=Zw.agg
 replace X1:=zh (X1.out.later iE)
 replace X2:=zh (X2.out.later iE)
 replace X3:=zh (X3.out.later iE)
 replace NC:=zh (NC.out.later iE)
 replace ND:=zh (ND.out.later iE)
 have KU:=Bt CF iE
 clear CF
 have NG:=zh Zw
 clear iE Zw
 have eP:=X1.out.cell;have eO:=X1.out.lt;have fU:=X1.out.free
 go_upto_region 4 with fail
 clear eP eO fU
 have hz:Below vg.heap.size vg (vg.alloc (.cells #[.bool bG,.slice JH lG JL] 150)):=aA
 obtain ⟨uY,EW⟩:∃ y,(vg.alloc (.cells #[.bool bG,.slice JH lG JL] 150))=y:=⟨_,rfl⟩
 have X4:Hid (au uY (vg.heap.size) #[.bool bG,.slice JH lG JL] 150):=zh (by rw [← EW];exact au.new _ _ _)
 rw [EW] at hz ⊢
 replace X1:=zh (X1.out.later hz)
 replace X2:=zh (X2.out.later hz)
 replace X3:=zh (X3.out.later hz)
 replace NC:=zh (NC.out.later hz)
 replace ND:=zh (ND.out.later hz)
 replace NG:=zh (NG.out.later hz)
 have Pb:=Bt KU hz
 clear KU
 clear EW hz
 generalize vg.heap.size=aB7 at *
 have eP:=X1.out.cell;have eO:=X1.out.lt;have fU:=X1.out.free
 have rX:=X4.out.cell;have rW:=X4.out.lt;have JJ:=X4.out.free
 go_wp2_with fail
 clear eP eO fU rX rW JJ
 refine (xG _ _ _ _ _ NC.out NG.out KA'.out KG.out G0.out (.inr DN.out)).mono ?_
 rintro e Cn ⟨vx,vy,rfl,oK,hq,hr⟩
 obtain ⟨bX,Q7,lX,TH,rfl⟩:=hq.agg
 obtain ⟨bU,MG,lU,Nn,rfl⟩:=hr.agg
 replace X1:=zh (X1.out.later oK)
 replace X2:=zh (X2.out.later oK)
 replace X3:=zh (X3.out.later oK)
 replace NC:=zh (NC.out.later oK)
 replace ND:=zh (ND.out.later oK)
 replace NG:=zh (NG.out.later oK)
 replace X4:=zh (X4.out.later oK)
 have FT:=Bt Pb oK
 clear Pb
 have NX:=zh hq
 clear oK hq
 have dY:=X2.out.cell;have dW:=X2.out.lt;have gN:=X2.out.free
 have rX:=X4.out.cell;have rW:=X4.out.lt;have JJ:=X4.out.free
 go_upto_region 5 with fail
 clear dY dW gN rX rW JJ
 have hz:Below Cn.heap.size Cn ((Cn.alloc (.cells #[.bool bX,.slice Q7 lX TH] 150)).alloc (.cells #[.bool bU,.slice MG lU Nn] 150)):=aA
 obtain ⟨ay6,EW⟩:∃ y,((Cn.alloc (.cells #[.bool bX,.slice Q7 lX TH] 150)).alloc (.cells #[.bool bU,.slice MG lU Nn] 150))=y:=⟨_,rfl⟩
 have X5:Hid (au ay6 (Cn.heap.size) #[.bool bX,.slice Q7 lX TH] 150):=zh (by rw [← EW];exact au.alloc (au.new _ _ _) _)
 rw [EW] at hz ⊢
 clear X1
 replace X2:=zh (X2.out.later hz)
 replace X3:=zh (X3.out.later hz)
 clear NC
 replace ND:=zh (ND.out.later hz)
 replace NG:=zh (NG.out.later hz)
 replace X4:=zh (X4.out.later hz)
 replace NX:=zh (NX.out.later hz)
 have aq3:=Bt FT hz
 clear FT
 clear EW hz
 generalize Cn.heap.size=aP0 at *
 have dY:=X2.out.cell;have dW:=X2.out.lt;have gN:=X2.out.free
 have rX:=X4.out.cell;have rW:=X4.out.lt;have JJ:=X4.out.free
 go_wp2_with fail
 clear dY dW gN rX rW JJ
 refine (xG _ _ _ _ _ ND.out NG.out KB'.out KG.out G0.out (.inr DD.out)).mono ?_
 rintro e Oe ⟨vx,vy,rfl,FY,hq,hr⟩
 obtain ⟨bY,Q6,lY,TF,rfl⟩:=hq.agg
 obtain ⟨bV,MF,lV,Nl,rfl⟩:=hr.agg
 replace X2:=zh (X2.out.later FY)
 replace X3:=zh (X3.out.later FY)
 replace ND:=zh (ND.out.later FY)
 replace NG:=zh (NG.out.later FY)
 replace X4:=zh (X4.out.later FY)
 replace NX:=zh (NX.out.later FY)
 replace X5:=zh (X5.out.later FY)
 have aq2:=Bt aq3 FY
 clear aq3
 have NY:=zh hq
 clear FY hq
 have zS:=X5.out.cell;have zJ:=X5.out.lt;have XY:=X5.out.free
 have mo:=X3.out.cell;have mg:=X3.out.lt;have pX:=X3.out.free
 go_upto_region 6 with fail
 clear zS zJ XY mo mg pX
 have hz:Below Oe.heap.size Oe ((Oe.alloc (.cells #[.bool bY,.slice Q6 lY TF] 150)).alloc (.cells #[.bool bV,.slice MF lV Nl] 150)):=aA
 obtain ⟨U0,EW⟩:∃ y,((Oe.alloc (.cells #[.bool bY,.slice Q6 lY TF] 150)).alloc (.cells #[.bool bV,.slice MF lV Nl] 150))=y:=⟨_,rfl⟩
 have X7:Hid (au U0 (Oe.heap.size) #[.bool bY,.slice Q6 lY TF] 150):=zh (by rw [← EW];exact au.alloc (au.new _ _ _) _)
 rw [EW] at hz ⊢
 clear X2
 replace X3:=zh (X3.out.later hz)
 clear ND
 clear NG
 clear X4
 replace NX:=zh (NX.out.later hz)
 replace X5:=zh (X5.out.later hz)
 replace NY:=zh (NY.out.later hz)
 have ZK:=Bt aq2 hz
 clear aq2
 clear EW hz
 generalize Oe.heap.size=aO9 at *
 have zS:=X5.out.cell;have zJ:=X5.out.lt;have XY:=X5.out.free
 have cX7:=X7.out.cell;have lX7:=X7.out.lt;have fX7:=X7.out.free
 have mo:=X3.out.cell;have mg:=X3.out.lt;have pX:=X3.out.free
 have hres:=X3.out
 have iU:=hres.cell
 have iT:=hres.free
 go_wp2_with fail
 refine bO rfl rfl aJ Tryz.underlying152 rfl zk ?_
 have hx:=Pl.kH NX.out hres zd (.bool bX) (.slice Q7 lX TH) (.bool bY) (.slice Q6 lY TF)
 have hy:=Pl.kH NY.out hres zd (.bool bX) (.slice Q7 lX TH) (.bool bY) (.slice Q6 lY TF)
 rw [← E1.out] at hx
 rw [← E2.out] at hy
 exact ⟨_,rfl,aA,_,_,_,_,_,_,_,_,rfl,hx,hy⟩
theorem uJ (x y:Value) (n d:Int) (w:World) (hx:Pl w x n) (hy:Pl w y d) (ha:sz 10000 n.natAbs≤274877906944) (hb:sz 10000 d.natAbs≤274877906944) (hd:d≠0) :
  Calls Tryz.prog 158 #[x,y] w (dD w ((n:Rat) / (d:Rat))):=by
 by_cases h:0<d
 ·exact LJ x y n d w hx hy ha hb h
 ·exact LK x y n d w hx hy ha hb zo
end Go.Proofs.aH
namespace Go.Proofs.aH
open Go Go.RowKit Go.SW Go.Num Go.Mem Go.Proofs Go.Dec Go.Proofs.aF Go.dx
theorem AJ (z:Int):∃ (s:ByteArray) (k:Int),Rf z= .tuple #[.string s,.int .i64 k]∧((Kj z.natAbs=true∧k=0∧s=⟨(Lib.itoa z).toArray⟩)∨(Kj z.natAbs=false∧k=6)):=by
 unfold Rf
 by_cases h:Kj z.natAbs=true
 ·rw [if_pos h]
  exact ⟨_,_,rfl,.inl ⟨h,rfl,rfl⟩⟩
 ·rw [if_neg h]
  exact ⟨_,_,rfl,.inr ⟨by simpa using h,rfl⟩⟩
def oH (w:World) (x:Fr × Int) (e:Ending) (w':World):Prop:=e= .returned (Fr.res x)∧Below w.heap.size w w'
theorem rF (x:Value) (q:Rat) (w:World) (hx:Ra w x q) (h1:sz 10000 q.num.natAbs≤1073741824) (h2:sz 10000 q.den≤1073741824) :
  Calls Tryz.prog 109 #[x] w (oH w (wr q)):=by
 obtain ⟨bn,pn,ln,cn,bd,pd,ld,cd,rfl,NN,ND⟩:=hx
 obtain ⟨s1,k1,e1,c1⟩:=AJ q.num
 obtain ⟨s2,k2,e2,c2⟩:=AJ (q.den:Int)
 have H1:=zh (fun W (hb:Below w.heap.size w W)=>aF.rF _ q.num W (NN.later hb) h1)
 have H2:=zh (fun W (hb:Below w.heap.size w W)=>aF.rF _ (q.den:Int) W (ND.later hb) (by simpa using h2))
 rw [e1] at H1
 rw [e2] at H2
 have hw:wr q=if k1=0∧k2=0 then (⟨s1,s2⟩,0) else (Fr.no,6):=by
  unfold wr dz
  rw [Int.natAbs_natCast] at c2
  rcases c1 with ⟨a1,a2,a3⟩|⟨a1,a2⟩<;>rcases c2 with ⟨b1,b2,b3⟩|⟨b1,b2⟩<;>subst a2<;>subst b2<;>rw [a1,b1]
  ·subst a3
   subst b3
   rfl
  ·rfl
  ·rfl
  ·rfl
 rw [hw]
 have d1:k1=0∨k1=6:=c1.elim (fun h=>.inl h.2.1) (fun h=>.inr h.2)
 have d2:k2=0∨k2=6:=c2.elim (fun h=>.inl h.2.1) (fun h=>.inr h.2)
 clear hw e1 e2 c1 c2 h1 h2 NN ND
 rcases d1 with rfl|rfl<;>rcases d2 with rfl|rfl
 ·rw [if_pos ⟨rfl,rfl⟩]
  go_enter Tryz.func109,Tryz.ntmps109
  go_wp2_with fail
  have hz:Below w.heap.size w ((w.alloc (.cells #[.bool bn,.slice pn ln cn,.bool bd,.slice pd ld cd] 152)).alloc (.cells #[.string ⟨#[]⟩,.string ⟨#[]⟩] 36)):=aA
  obtain ⟨aO,EW⟩:∃ y,((w.alloc (.cells #[.bool bn,.slice pn ln cn,.bool bd,.slice pd ld cd] 152)).alloc (.cells #[.string ⟨#[]⟩,.string ⟨#[]⟩] 36))=y:=⟨_,rfl⟩
  have X1:Hid (au aO (w.heap.size) #[.bool bn,.slice pn ln cn,.bool bd,.slice pd ld cd] 152):=zh (by rw [← EW];exact au.alloc (au.new _ _ _) _)
  have X2:Hid (au aO (w.heap.size+1) #[.string ⟨#[]⟩,.string ⟨#[]⟩] 36):=zh (by rw [← EW];exact au.fZ _ _ _ _)
  rw [EW] at hz ⊢
  have hk2:=Bt (Below.refl _ _) hz
  clear EW hz
  refine (H1.out _ hk2).mono ?_
  rintro e fM ⟨rfl,hb3⟩
  replace X1:=zh (X1.out.later hb3)
  replace X2:=zh (X2.out.later hb3)
  have hk5:=Bt hk2 hb3
  clear hk2
  clear hb3
  have eP:=X1.out.cell;have eO:=X1.out.lt;have fU:=X1.out.free
  go_wp2_with fail
  clear eP eO fU
  refine (H2.out _ hk5).mono ?_
  rintro e iC ⟨rfl,hb6⟩
  replace X1:=zh (X1.out.later hb6)
  replace X2:=zh (X2.out.later hb6)
  have oI:=Bt hk5 hb6
  clear hk5
  clear hb6
  have dY:=X2.out.cell;have dW:=X2.out.lt;have gN:=X2.out.free
  have hres:=X2.out
  have iU:=hres.cell
  have iT:=hres.free
  go_wp2_with fail
  refine aP rfl rfl aJ Tryz.underlying36 rfl zk ?_
  exact ⟨rfl,aA⟩
 ·rw [if_neg zo]
  go_enter Tryz.func109,Tryz.ntmps109
  go_wp2_with fail
  have hz:Below w.heap.size w ((w.alloc (.cells #[.bool bn,.slice pn ln cn,.bool bd,.slice pd ld cd] 152)).alloc (.cells #[.string ⟨#[]⟩,.string ⟨#[]⟩] 36)):=aA
  obtain ⟨aO,EW⟩:∃ y,((w.alloc (.cells #[.bool bn,.slice pn ln cn,.bool bd,.slice pd ld cd] 152)).alloc (.cells #[.string ⟨#[]⟩,.string ⟨#[]⟩] 36))=y:=⟨_,rfl⟩
  have X1:Hid (au aO (w.heap.size) #[.bool bn,.slice pn ln cn,.bool bd,.slice pd ld cd] 152):=zh (by rw [← EW];exact au.alloc (au.new _ _ _) _)
  have X2:Hid (au aO (w.heap.size+1) #[.string ⟨#[]⟩,.string ⟨#[]⟩] 36):=zh (by rw [← EW];exact au.fZ _ _ _ _)
  rw [EW] at hz ⊢
  have hk2:=Bt (Below.refl _ _) hz
  clear EW hz
  refine (H1.out _ hk2).mono ?_
  rintro e fM ⟨rfl,hb3⟩
  replace X1:=zh (X1.out.later hb3)
  replace X2:=zh (X2.out.later hb3)
  have hk5:=Bt hk2 hb3
  clear hk2
  clear hb3
  have eP:=X1.out.cell;have eO:=X1.out.lt;have fU:=X1.out.free
  go_wp2_with fail
  clear eP eO fU
  refine (H2.out _ hk5).mono ?_
  rintro e iC ⟨rfl,hb6⟩
  replace X1:=zh (X1.out.later hb6)
  replace X2:=zh (X2.out.later hb6)
  have oI:=Bt hk5 hb6
  clear hk5
  clear hb6
  have dY:=X2.out.cell;have dW:=X2.out.lt;have gN:=X2.out.free
  have hres:=X2.out
  have iU:=hres.cell
  have iT:=hres.free
  go_wp2_with fail
  refine aP rfl rfl aJ Tryz.underlying36 rfl zk ?_
  exact ⟨rfl,aA⟩
 ·rw [if_neg zo]
  go_enter Tryz.func109,Tryz.ntmps109
  go_wp2_with fail
  have hz:Below w.heap.size w ((w.alloc (.cells #[.bool bn,.slice pn ln cn,.bool bd,.slice pd ld cd] 152)).alloc (.cells #[.string ⟨#[]⟩,.string ⟨#[]⟩] 36)):=aA
  obtain ⟨aO,EW⟩:∃ y,((w.alloc (.cells #[.bool bn,.slice pn ln cn,.bool bd,.slice pd ld cd] 152)).alloc (.cells #[.string ⟨#[]⟩,.string ⟨#[]⟩] 36))=y:=⟨_,rfl⟩
  have X1:Hid (au aO (w.heap.size) #[.bool bn,.slice pn ln cn,.bool bd,.slice pd ld cd] 152):=zh (by rw [← EW];exact au.alloc (au.new _ _ _) _)
  have X2:Hid (au aO (w.heap.size+1) #[.string ⟨#[]⟩,.string ⟨#[]⟩] 36):=zh (by rw [← EW];exact au.fZ _ _ _ _)
  rw [EW] at hz ⊢
  have hk2:=Bt (Below.refl _ _) hz
  clear EW hz
  refine (H1.out _ hk2).mono ?_
  rintro e fM ⟨rfl,hb3⟩
  replace X1:=zh (X1.out.later hb3)
  replace X2:=zh (X2.out.later hb3)
  have hk5:=Bt hk2 hb3
  clear hk2
  clear hb3
  have eP:=X1.out.cell;have eO:=X1.out.lt;have fU:=X1.out.free
  go_wp2_with fail
  clear eP eO fU
  refine (H2.out _ hk5).mono ?_
  rintro e iC ⟨rfl,hb6⟩
  replace X1:=zh (X1.out.later hb6)
  replace X2:=zh (X2.out.later hb6)
  have oI:=Bt hk5 hb6
  clear hk5
  clear hb6
  have dY:=X2.out.cell;have dW:=X2.out.lt;have gN:=X2.out.free
  have hres:=X2.out
  have iU:=hres.cell
  have iT:=hres.free
  go_wp2_with fail
  refine aP rfl rfl aJ Tryz.underlying36 rfl zk ?_
  exact ⟨rfl,aA⟩
 ·rw [if_neg zo]
  go_enter Tryz.func109,Tryz.ntmps109
  go_wp2_with fail
  have hz:Below w.heap.size w ((w.alloc (.cells #[.bool bn,.slice pn ln cn,.bool bd,.slice pd ld cd] 152)).alloc (.cells #[.string ⟨#[]⟩,.string ⟨#[]⟩] 36)):=aA
  obtain ⟨aO,EW⟩:∃ y,((w.alloc (.cells #[.bool bn,.slice pn ln cn,.bool bd,.slice pd ld cd] 152)).alloc (.cells #[.string ⟨#[]⟩,.string ⟨#[]⟩] 36))=y:=⟨_,rfl⟩
  have X1:Hid (au aO (w.heap.size) #[.bool bn,.slice pn ln cn,.bool bd,.slice pd ld cd] 152):=zh (by rw [← EW];exact au.alloc (au.new _ _ _) _)
  have X2:Hid (au aO (w.heap.size+1) #[.string ⟨#[]⟩,.string ⟨#[]⟩] 36):=zh (by rw [← EW];exact au.fZ _ _ _ _)
  rw [EW] at hz ⊢
  have hk2:=Bt (Below.refl _ _) hz
  clear EW hz
  refine (H1.out _ hk2).mono ?_
  rintro e fM ⟨rfl,hb3⟩
  replace X1:=zh (X1.out.later hb3)
  replace X2:=zh (X2.out.later hb3)
  have hk5:=Bt hk2 hb3
  clear hk2
  clear hb3
  have eP:=X1.out.cell;have eO:=X1.out.lt;have fU:=X1.out.free
  go_wp2_with fail
  clear eP eO fU
  refine (H2.out _ hk5).mono ?_
  rintro e iC ⟨rfl,hb6⟩
  replace X1:=zh (X1.out.later hb6)
  replace X2:=zh (X2.out.later hb6)
  have oI:=Bt hk5 hb6
  clear hk5
  clear hb6
  have dY:=X2.out.cell;have dW:=X2.out.lt;have gN:=X2.out.free
  have hres:=X2.out
  have iU:=hres.cell
  have iT:=hres.free
  go_wp2_with fail
  refine aP rfl rfl aJ Tryz.underlying36 rfl zk ?_
  exact ⟨rfl,aA⟩
theorem FB {n d:Int} (hd:d≠0):((n:Rat) / (d:Rat)).num.natAbs≤n.natAbs∧((n:Rat) / (d:Rat)).den≤d.natAbs:=by
 have key:∀ n d:Int,0<d→((n:Rat) / (d:Rat)).num.natAbs≤n.natAbs∧((n:Rat) / (d:Rat)).den≤d.natAbs:=fun n d hd=>by
  obtain ⟨e1,e2⟩:=x9 (n:=n) hd
  have g1:=Nat.gcd_dvd_left n.natAbs d.natAbs
  have g2:=Nat.gcd_dvd_right n.natAbs d.natAbs
  have g0:0<Nat.gcd n.natAbs d.natAbs:=Nat.gcd_pos_of_pos_right _ zo
  generalize Nat.gcd n.natAbs d.natAbs=g at *
  generalize ((n:Rat) / (d:Rat))=q at *
  obtain ⟨a,ha⟩:=g1
  obtain ⟨b,hb⟩:=g2
  have h1:n=(g:Int)*(if 0≤n then (a:Int) else -(a:Int)):=by
   have:=congrArg (fun x:Nat=>(x:Int)) ha
   simp only [Int.natCast_mul] at this
   split
   ·omega
   ·rw [Int.mul_neg];omega
  have h2:d=(g:Int)*(b:Int):=by
   have:=congrArg (fun x:Nat=>(x:Int)) hb
   simp only [Int.natCast_mul] at this
   omega
  have h3:n / (g:Int)=(if 0≤n then (a:Int) else -(a:Int)):=by
   conv=>lhs;rw [h1]
   exact Int.mul_ediv_cancel_left _ zo
  have h4:d / (g:Int)=(b:Int):=by
   rw [h2]
   exact Int.mul_ediv_cancel_left _ zo
  rw [h3] at e1
  rw [h4] at e2
  have k1:a≤g*a:=Nat.le_mul_of_pos_left _ g0
  have k2:b≤g*b:=Nat.le_mul_of_pos_left _ g0
  refine ⟨?_,?_⟩
  ·rw [e1,ha]
   split<;>simp<;>exact k1
  ·rw [hb]
   have:q.den=b:=by exact_mod_cast e2
   omega
 by_cases h:0<d
 ·exact key n d h
 ·have:=key (-n) (-d) zo
  rw [show ((-n:Int):Rat) / ((-d:Int):Rat)=(n:Rat) / (d:Rat) by rw [Rat.intCast_neg,Rat.intCast_neg,Rat.div_def,Rat.div_def];grind,Int.natAbs_neg,Int.natAbs_neg] at this
  exact this
theorem EO {n:Int} (h1: -9223372036854775808≤n) (h2:n≤9223372036854775807):sz 10000 n.natAbs≤5 :=
 cK zo 5 _ zo
theorem xE (n d:Int) (h1: -9223372036854775808≤n) (h2:n≤9223372036854775807) (h3: -9223372036854775808≤d) (h4:d≤9223372036854775807) (hd:d≠0) (w:World) :
  Calls Tryz.prog 110 #[.int .i64 n,.int .i64 d] w (dD w ((n:Rat) / (d:Rat))):=by
 have H1:=zh (fun W=>BU n W h1 h2)
 have H2:=zh (fun W=>BU d W h3 h4)
 have H3:=zh (fun x y W hx hy=>uJ x y n d W hx hy (Nat.le_trans (EO h1 h2) zo) (Nat.le_trans (EO h3 h4) zo) hd)
 generalize (n:Rat) / (d:Rat)=q at *
 clear h1 h2 h3 h4 hd
 go_enter Tryz.func110,Tryz.ntmps110
 go_wp2_with fail
 have hz:Below w.heap.size w (w.alloc (.cells #[.bool false,.slice none 0 0,.bool false,.slice none 0 0] 152)):=aA
 obtain ⟨aO,EW⟩:∃ y,(w.alloc (.cells #[.bool false,.slice none 0 0,.bool false,.slice none 0 0] 152))=y:=⟨_,rfl⟩
 have X1:Hid (au aO (w.heap.size) #[.bool false,.slice none 0 0,.bool false,.slice none 0 0] 152):=zh (by rw [← EW];exact au.new _ _ _)
 rw [EW] at hz ⊢
 have hk2:=Bt (Below.refl _ _) hz
 clear EW hz
 refine (H1.out _).mono ?_
 rintro e fM ⟨v,rfl,hb3,hv4⟩
 obtain ⟨bA,gG,lA,gK,rfl⟩:=hv4.agg
 replace X1:=zh (X1.out.later hb3)
 have hk5:=Bt hk2 hb3
 clear hk2
 have NA:=zh hv4
 clear hb3 hv4
 go_wp2_with fail
 refine (H2.out _).mono ?_
 rintro e iC ⟨v,rfl,hb6,hv7⟩
 obtain ⟨bB,iK,lB,iP,rfl⟩:=hv7.agg
 replace X1:=zh (X1.out.later hb6)
 replace NA:=zh (NA.out.later hb6)
 have oI:=Bt hk5 hb6
 clear hk5
 have NB:=zh hv7
 clear hb6 hv7
 go_wp2_with fail
 refine (H3.out _ _ _ NA.out NB.out).mono ?_
 rintro e wc9 ⟨_,rfl,gX,bn,pn,ln,cn,bd,pd,ld,cd,rfl,hn,hd⟩
 replace X1:=zh (X1.out.later gX)
 replace NA:=zh (NA.out.later gX)
 replace NB:=zh (NB.out.later gX)
 have CF:=Bt oI gX
 clear oI
 have NX:=zh hn
 have NY:=zh hd
 clear gX hd hn
 have eP:=X1.out.cell;have eO:=X1.out.lt;have fU:=X1.out.free
 have hres:=X1.out
 have iU:=hres.cell
 have iT:=hres.free
 go_wp2_with fail
 refine bO rfl rfl aJ Tryz.underlying152 rfl zk ?_
 have hx:=Pl.kH NX.out hres zd (.bool bn) (.slice pn ln cn) (.bool bd) (.slice pd ld cd)
 have hy:=Pl.kH NY.out hres zd (.bool bn) (.slice pn ln cn) (.bool bd) (.slice pd ld cd)
 exact ⟨_,rfl,aA,_,_,_,_,_,_,_,_,rfl,hx,hy⟩
theorem tO (n d:Int) (h1: -9223372036854775808≤n) (h2:n≤9223372036854775807) (h3: -9223372036854775808≤d) (h4:d≤9223372036854775807) (w:World) :
  Calls Tryz.prog 46 #[.int .i64 n,.int .i64 d] w (oH w (yR n d)):=by
 unfold yR
 by_cases hd:d=0
 ·subst hd
  rw [if_pos rfl]
  clear h1 h2 h3 h4
  go_enter Tryz.func46,Tryz.ntmps46
  go_wp2_with fail
  refine aP rfl rfl aJ Tryz.underlying36 rfl zk ?_
  exact ⟨rfl,aA⟩
 ·rw [if_neg hd]
  have H1:=zh (fun W=>xE n d h1 h2 h3 h4 hd W)
  obtain ⟨l1,l2⟩:=FB (n:=n) hd
  have H2:=zh (fun x W hx=>rF x ((n:Rat) / (d:Rat)) W hx (Nat.le_trans (iH zo l1) (Nat.le_trans (EO h1 h2) zo)) (Nat.le_trans (iH zo l2) (Nat.le_trans (EO h3 h4) zo)))
  clear l1 l2
  generalize (n:Rat) / (d:Rat)=q at *
  obtain ⟨⟨⟨s1,s2⟩,k⟩,E⟩:∃ y,wr q=y:=⟨_,rfl⟩
  rw [E] at H2 ⊢
  replace H2:Hid (∀ x W,Ra W x q→Calls Tryz.prog 109 #[x] W (fun e w'=>e= .returned (.tuple #[.agg #[.string s1,.string s2],.int .i64 k])∧Below W.heap.size W w')):=H2
  clear E h1 h2 h3 h4
  go_enter Tryz.func46,Tryz.ntmps46
  go_wp2_with fail
  have hz:Below w.heap.size w (w.alloc (.cells #[.string ⟨#[]⟩,.string ⟨#[]⟩] 36)):=aA
  obtain ⟨aO,EW⟩:∃ y,(w.alloc (.cells #[.string ⟨#[]⟩,.string ⟨#[]⟩] 36))=y:=⟨_,rfl⟩
  have X1:Hid (au aO (w.heap.size) #[.string ⟨#[]⟩,.string ⟨#[]⟩] 36):=zh (by rw [← EW];exact au.new _ _ _)
  rw [EW] at hz ⊢
  have hk2:=Bt (Below.refl _ _) hz
  clear EW hz
  refine (H1.out _).mono ?_
  rintro e fM ⟨vq,rfl,hb3,hq⟩
  replace X1:=zh (X1.out.later hb3)
  have hk5:=Bt hk2 hb3
  clear hk2
  have NQ:=zh hq
  clear hb3 hq
  go_wp2_with fail
  refine (H2.out _ _ NQ.out).mono ?_
  rintro e iC ⟨rfl,hb6⟩
  replace X1:=zh (X1.out.later hb6)
  replace NQ:=zh (NQ.out.later hb6)
  have oI:=Bt hk5 hb6
  clear hk5
  clear hb6
  have eP:=X1.out.cell;have eO:=X1.out.lt;have fU:=X1.out.free
  have hres:=X1.out
  have iU:=hres.cell
  have iT:=hres.free
  go_wp2_with fail
  refine aP rfl rfl aJ Tryz.underlying36 rfl zk ?_
  exact ⟨rfl,aA⟩
theorem vw {n k:Nat} (h:sz 1000000000 n≤k):sz 10000 n≤3*k:=by
 refine cK zo _ _ ?_
 have h1:=gM (B:=1000000000) zo n
 have h2:(1000000000:Nat)^sz 1000000000 n≤1000000000^k:=Nat.pow_le_pow_right zo h
 have h3:(1000000000:Nat)^k≤(10000^3)^k:=Nat.pow_le_pow_left zd k
 rw [Nat.pow_mul]
 omega
theorem uj (q:Rat):q=(q.num:Rat) / ((q.den:Int):Rat):=by
 have:=Rat.mkRat_self q
 rw [Rat.mkRat_eq_div] at this
 exact this.symm
theorem Dq (q:Rat):((q.den:Int):Rat)≠0:=fun e=>by
 have h:(q.den:Int)=0:=by exact_mod_cast e
 have:=q.den_pos
 omega
theorem U6 (p q:Rat):((p.num*q.num:Int):Rat) / (((p.den:Int)*(q.den:Int):Int):Rat)=p*q:=by
 have h1:=uj p
 have h2:=uj q
 have d1:=Dq p
 have d2:=Dq q
 rw [Rat.intCast_mul,Rat.intCast_mul]
 generalize (p.num:Rat)=a at *
 generalize ((p.den:Int):Rat)=b at *
 generalize (q.num:Rat)=c at *
 generalize ((q.den:Int):Rat)=d at *
 subst h1 h2
 grind
theorem YX (p q:Rat) (hq:q≠0):((p.num*(q.den:Int):Int):Rat) / (((p.den:Int)*q.num:Int):Rat)=p / q:=by
 have h1:=uj p
 have h2:=uj q
 have d1:=Dq p
 have d2:=Dq q
 have d3:((q.num:Int):Rat)≠0:=fun e=>hq (by rw [h2,e];grind)
 rw [Rat.intCast_mul,Rat.intCast_mul]
 generalize (p.num:Rat)=a at *
 generalize ((p.den:Int):Rat)=b at *
 generalize (q.num:Rat)=c at *
 generalize ((q.den:Int):Rat)=d at *
 subst h1 h2
 grind
theorem YQ (p q:Rat):((p.num*(q.den:Int)+q.num*(p.den:Int):Int):Rat) / (((p.den:Int)*(q.den:Int):Int):Rat)=p+q:=by
 have h1:=uj p
 have h2:=uj q
 have d1:=Dq p
 have d2:=Dq q
 rw [Rat.intCast_add,Rat.intCast_mul,Rat.intCast_mul,Rat.intCast_mul]
 generalize (p.num:Rat)=a at *
 generalize ((p.den:Int):Rat)=b at *
 generalize (q.num:Rat)=c at *
 generalize ((q.den:Int):Rat)=d at *
 subst h1 h2
 grind
theorem dZ.four {k:Nat} {q:Rat} (h:dZ k q):sz 10000 q.num.natAbs≤3*k∧sz 10000 (q.den:Int).natAbs≤3*k:=⟨vw h.1,by rw [Int.natAbs_natCast];exact vw h.2⟩
theorem nD {a b:Int} {m n:Nat} (h:sz 10000 a.natAbs≤m) (k:sz 10000 b.natAbs≤n):sz 10000 (a*b).natAbs≤m+n:=by
 rw [Int.natAbs_mul]
 have:=qO (B:=10000) zo a.natAbs b.natAbs
 omega
theorem U8 {a b:Int} {m:Nat} (h:sz 10000 a.natAbs≤m) (k:sz 10000 b.natAbs≤m):sz 10000 (a+b).natAbs≤m+1:=by
 have h1:=iH (B:=10000) zo (Int.natAbs_add_le a b)
 have h2:=QF (B:=10000) zo a.natAbs b.natAbs
 omega
theorem o8 (x:Value) (p:Rat) (w:World) (hx:Ra w x p):Calls Tryz.prog 103 #[x] w (dD w (-p)):=by
 obtain ⟨bA,gG,lA,gK,xL,kW,xK,kX,rfl,hA1,hA2⟩:=id hx
 have QA:=zh hx
 have NA:=zh hA1
 have uI:=zh hA2
 obtain ⟨z,ez⟩:∃ z,p.num=z:=⟨_,rfl⟩
 obtain ⟨d,ed⟩:∃ d,p.den=d:=⟨_,rfl⟩
 have hq:∀ w v,Ra w v (-p)↔∃ bn pn ln cn bd pd ld cd,v= .agg #[.bool bn,.slice pn ln cn,.bool bd,.slice pd ld cd]∧Pl w (.agg #[.bool bn,.slice pn ln cn]) (-z)∧Pl w (.agg #[.bool bd,.slice pd ld cd]) d:=fun w v=>by
  unfold Ra
  rw [Rat.neg_num,Rat.neg_den,ez,ed]
 have HQ:=zh hq
 rw [ez] at NA
 rw [ed] at uI
 clear hx hA1 hA2 ez ed hq
 go_enter Tryz.func103,Tryz.ntmps103
 go_wp2_with fail
 have hz:Below w.heap.size w ((w.alloc (.cells #[.bool bA,.slice gG lA gK,.bool xL,.slice kW xK kX] 152)).alloc (.cells #[.bool false,.slice none 0 0,.bool false,.slice none 0 0] 152)):=aA
 obtain ⟨aO,EW⟩:∃ y,((w.alloc (.cells #[.bool bA,.slice gG lA gK,.bool xL,.slice kW xK kX] 152)).alloc (.cells #[.bool false,.slice none 0 0,.bool false,.slice none 0 0] 152))=y:=⟨_,rfl⟩
 have X1:Hid (au aO (w.heap.size) #[.bool bA,.slice gG lA gK,.bool xL,.slice kW xK kX] 152):=zh (by rw [← EW];exact au.alloc (au.new _ _ _) _)
 have X2:Hid (au aO (w.heap.size+1) #[.bool false,.slice none 0 0,.bool false,.slice none 0 0] 152):=zh (by rw [← EW];exact au.fZ _ _ _ _)
 rw [EW] at hz ⊢
 replace NA:=zh (NA.out.later hz)
 replace uI:=zh (uI.out.later hz)
 have hk2:=Bt (Below.refl _ _) hz
 clear EW hz
 have eP:=X1.out.cell;have eO:=X1.out.lt;have fU:=X1.out.free
 refine aC [(.pure,0),(.read,1),(.pure,3),(.read,4),(.ext,2),(.pure,5),(.fin,6)] zk zk zR zP ?_
 repeat (first|(refine ah rfl rfl fun J h=>?_;go_simp;refine h _ ?_;clear h J)|(refine aB rfl rfl rfl rfl fun J h=>?_;go_simp;refine h _ ?_;clear h J;try go_simp))
 refine aD rfl rfl (fun uZ hb3 J hJ=>?_);go_simp
 have hh3:Below aO.heap.size aO uZ:=aA
 clear hb3
 refine (aF.o8 _ _ _ (NA.out.later hh3)).mono ?_
 rintro e rP ⟨v,rfl,hb4,hv5⟩
 obtain ⟨bB,iK,lB,iP,rfl⟩:=hv5.agg
 refine hJ _ _ hb4 ?_
 clear hJ J
 have ow:=Bt hh3 hb4
 have NB:=zh hv5
 clear hh3 hb4 hv5
 repeat (first|(refine ah rfl rfl fun J h=>?_;go_simp;refine h _ ?_;clear h J)|(refine aB rfl rfl rfl rfl fun J h=>?_;go_simp;refine h _ ?_;clear h J;try go_simp))
 refine aI [_] rfl (fun Mf hf6=>?_)
 replace NB:=zh (NB.out.later (show Below rP.heap.size rP Mf from aA))
 have iD:Below aO.heap.size aO Mf:=Bt ow aA
 clear hf6 ow
 clear eP eO fU
 replace NA:=zh (NA.out.later iD)
 replace uI:=zh (uI.out.later iD)
 replace X1:=zh (X1.out.later iD)
 replace X2:=zh (X2.out.later iD)
 have Cz:=Bt hk2 iD
 clear hk2
 clear iD
 have dY:=X2.out.cell;have dW:=X2.out.lt;have gN:=X2.out.free
 have hres:=X2.out
 have iU:=hres.cell
 have iT:=hres.free
 go_wp2_with fail
 refine bO rfl rfl aJ Tryz.underlying152 rfl zk ?_
 exact ⟨_,rfl,aA,(HQ.out _ _).2 ⟨_,_,_,_,_,_,_,_,rfl,Pl.kH NB.out hres zd _ _ _ _,Pl.kH uI.out hres zd _ _ _ _⟩⟩
theorem iR (x y:Value) (p q:Rat) (w:World) (hx:Ra w x p) (hy:Ra w y q) (h1:dZ 10000000000 p) (h2:dZ 10000000000 q):Calls Tryz.prog 156 #[x,y] w (dD w (p*q)):=by
 obtain ⟨bA,gG,lA,gK,xL,kW,xK,kX,rfl,hA1,hA2⟩:=id hx;obtain ⟨bB,iK,lB,iP,zT,nG,zK,nP,rfl,hB1,hB2⟩:=id hy;have QA:=zh hx;have NA:=zh hA1;have uI:=zh hA2;have QB:=zh hy;have NB:=zh hB1;have yF:=zh hB2
 obtain ⟨s1,s2⟩:=dZ.four h1;obtain ⟨s3,s4⟩:=dZ.four h2;have S1:Hid (sz 10000 p.num.natAbs≤549755813888):=zh zo;have S2:Hid (sz 10000 (p.den:Int).natAbs≤549755813888):=zh zo;have S3:Hid (sz 10000 q.num.natAbs≤549755813888):=zh zo;have S4:Hid (sz 10000 (q.den:Int).natAbs≤549755813888):=zh zo
 have L1:Hid (sz 10000 (p.num*q.num).natAbs≤274877906944):=zh (by have:=nD s1 s3;omega)
 have L2:Hid (sz 10000 ((p.den:Int)*(q.den:Int)).natAbs≤274877906944):=zh (by have:=nD s2 s4;omega)
 have L3:Hid ((p.den:Int)*(q.den:Int)≠0):=zh (Int.mul_ne_zero (by have:=p.den_pos;omega) (by have:=q.den_pos;omega))
 have HL:=zh (fun x y w hx hy=>uJ x y (p.num*q.num) ((p.den:Int)*(q.den:Int)) w hx hy L1.out L2.out L3.out)
 rw [U6] at HL
 clear hx hy hA1 hA2 hB1 hB2 h1 h2 s1 s2 s3 s4 L1 L2 L3
 go_enter Tryz.func156,Tryz.ntmps156
 go_wp2_with fail
 have hz:Below w.heap.size w (((w.alloc (.cells #[.bool bA,.slice gG lA gK,.bool xL,.slice kW xK kX] 152)).alloc (.cells #[.bool bB,.slice iK lB iP,.bool zT,.slice nG zK nP] 152)).alloc (.cells #[.bool false,.slice none 0 0,.bool false,.slice none 0 0] 152)):=aA
 obtain ⟨aO,EW⟩:∃ y,(((w.alloc (.cells #[.bool bA,.slice gG lA gK,.bool xL,.slice kW xK kX] 152)).alloc (.cells #[.bool bB,.slice iK lB iP,.bool zT,.slice nG zK nP] 152)).alloc (.cells #[.bool false,.slice none 0 0,.bool false,.slice none 0 0] 152))=y:=⟨_,rfl⟩
 have X1:Hid (au aO (w.heap.size) #[.bool bA,.slice gG lA gK,.bool xL,.slice kW xK kX] 152):=zh (by rw [← EW];exact au.alloc (au.alloc (au.new _ _ _) _) _)
 have X2:Hid (au aO (w.heap.size+1) #[.bool bB,.slice iK lB iP,.bool zT,.slice nG zK nP] 152):=zh (by rw [← EW];exact au.alloc (au.fZ _ _ _ _) _)
 have X3:Hid (au aO (w.heap.size+1+1) #[.bool false,.slice none 0 0,.bool false,.slice none 0 0] 152):=zh (by rw [← EW];exact au.at2 _ _ _ _ _)
 rw [EW] at hz ⊢
 replace NA:=zh (NA.out.later hz)
 replace uI:=zh (uI.out.later hz)
 replace NB:=zh (NB.out.later hz)
 replace yF:=zh (yF.out.later hz)
 have hk2:=Bt (Below.refl _ _) hz
 clear EW hz
 have eP:=X1.out.cell;have eO:=X1.out.lt;have fU:=X1.out.free
 have dY:=X2.out.cell;have dW:=X2.out.lt;have gN:=X2.out.free
 refine aC [(.pure,0),(.read,1),(.pure,2),(.read,3),(.pure,5),(.read,6),(.pure,7),(.read,8),(.ext,4),(.ext,9),(.ext,10),(.fin,11)] zk zk zR zP ?_
 repeat (first|(refine ah rfl rfl fun J h=>?_;go_simp;refine h _ ?_;clear h J)|(refine aB rfl rfl rfl rfl fun J h=>?_;go_simp;refine h _ ?_;clear h J;try go_simp))
 refine aD rfl rfl (fun uZ hb3 J hJ=>?_);go_simp
 have hh3:Below aO.heap.size aO uZ:=aA
 clear hb3
 refine (aF.iR _ _ _ _ _ (NA.out.later hh3) (NB.out.later hh3) S1.out S3.out).mono ?_
 rintro e rP ⟨v,rfl,hb4,hv5⟩
 obtain ⟨bC,Ch,lC,Cj,rfl⟩:=hv5.agg
 refine hJ _ _ hb4 ?_
 clear hJ J
 have ow:=Bt hh3 hb4
 have NC:=zh hv5
 clear hh3 hb4 hv5
 repeat (first|(refine ah rfl rfl fun J h=>?_;go_simp;refine h _ ?_;clear h J)|(refine aB rfl rfl rfl rfl fun J h=>?_;go_simp;refine h _ ?_;clear h J;try go_simp))
 refine aD rfl rfl (fun qL hb6 J hJ=>?_);go_simp
 have iD:Below aO.heap.size aO qL:=Bt ow aA
 replace NC:=zh (NC.out.later (show Below rP.heap.size rP qL from aA))
 clear hb6 ow
 refine (aF.iR _ _ _ _ _ (uI.out.later iD) (yF.out.later iD) S2.out S4.out).mono ?_
 rintro e ku ⟨v,rfl,dQ,kC⟩
 obtain ⟨bD,Ic,lD,Jl,rfl⟩:=kC.agg
 refine hJ _ _ dQ ?_
 clear hJ J
 have oU:=Bt iD dQ
 replace NC:=zh (NC.out.later dQ)
 have ND:=zh kC
 clear iD dQ kC
 repeat (first|(refine ah rfl rfl fun J h=>?_;go_simp;refine h _ ?_;clear h J)|(refine aB rfl rfl rfl rfl fun J h=>?_;go_simp;refine h _ ?_;clear h J;try go_simp))
 refine aD rfl rfl (fun pW gX J hJ=>?_);go_simp
 have gH:Below aO.heap.size aO pW:=Bt oU aA
 replace NC:=zh (NC.out.later (show Below ku.heap.size ku pW from aA))
 replace ND:=zh (ND.out.later (show Below ku.heap.size ku pW from aA))
 clear gX oU
 refine (HL.out _ _ _ NC.out ND.out).mono ?_
 rintro e dO ⟨v,rfl,dh,fJ⟩
 obtain ⟨bE,paE,lE,caE,bEd,YV,lEd,af2,rfl,Bb,Ba⟩:=id fJ
 refine hJ _ _ dh ?_
 clear hJ J
 have fE:=Bt gH dh
 replace NC:=zh (NC.out.later dh)
 replace ND:=zh (ND.out.later dh)
 have QE:=zh fJ
 clear gH dh fJ Bb Ba
 repeat (first|(refine ah rfl rfl fun J h=>?_;go_simp;refine h _ ?_;clear h J)|(refine aB rfl rfl rfl rfl fun J h=>?_;go_simp;refine h _ ?_;clear h J;try go_simp))
 refine aI [_] rfl (fun mV yh=>?_)
 replace NC:=zh (NC.out.later (show Below dO.heap.size dO mV from aA))
 replace ND:=zh (ND.out.later (show Below dO.heap.size dO mV from aA))
 replace QE:=zh (QE.out.later (show Below dO.heap.size dO mV from aA))
 have hh12:Below aO.heap.size aO mV:=Bt fE aA
 clear yh fE
 clear eP eO fU dY dW gN
 replace NA:=zh (NA.out.later hh12)
 replace uI:=zh (uI.out.later hh12)
 replace NB:=zh (NB.out.later hh12)
 replace yF:=zh (yF.out.later hh12)
 replace X1:=zh (X1.out.later hh12)
 replace X2:=zh (X2.out.later hh12)
 replace X3:=zh (X3.out.later hh12)
 have KW:=Bt hk2 hh12
 clear hk2
 clear hh12
 clear NC
 clear ND
 have mo:=X3.out.cell;have mg:=X3.out.lt;have pX:=X3.out.free
 have hres:=X3.out
 have iU:=hres.cell
 have iT:=hres.free
 go_wp2_with fail
 refine bO rfl rfl aJ Tryz.underlying152 rfl zk ?_
 exact ⟨_,rfl,aA,Ra.kH QE.out hres zd _ _ _ _⟩
theorem Ny (x y:Value) (p q:Rat) (w:World) (hx:Ra w x p) (hy:Ra w y q) (h1:dZ 10000000000 p) (h2:dZ 10000000000 q) (h0:q≠0):Calls Tryz.prog 101 #[x,y] w (dD w (p / q)):=by
 obtain ⟨bA,gG,lA,gK,xL,kW,xK,kX,rfl,hA1,hA2⟩:=id hx;obtain ⟨bB,iK,lB,iP,zT,nG,zK,nP,rfl,hB1,hB2⟩:=id hy;have QA:=zh hx;have NA:=zh hA1;have uI:=zh hA2;have QB:=zh hy;have NB:=zh hB1;have yF:=zh hB2
 obtain ⟨s1,s2⟩:=dZ.four h1;obtain ⟨s3,s4⟩:=dZ.four h2;have S1:Hid (sz 10000 p.num.natAbs≤549755813888):=zh zo;have S2:Hid (sz 10000 (p.den:Int).natAbs≤549755813888):=zh zo;have S3:Hid (sz 10000 q.num.natAbs≤549755813888):=zh zo;have S4:Hid (sz 10000 (q.den:Int).natAbs≤549755813888):=zh zo
 have L1:Hid (sz 10000 (p.num*(q.den:Int)).natAbs≤274877906944):=zh (by have:=nD s1 s4;omega)
 have L2:Hid (sz 10000 ((p.den:Int)*q.num).natAbs≤274877906944):=zh (by have:=nD s2 s3;omega)
 have L3:Hid ((p.den:Int)*q.num≠0):=zh (Int.mul_ne_zero (by have:=p.den_pos;omega) (fun e=>h0 (Rat.num_eq_zero.1 e)))
 have HL:=zh (fun x y w hx hy=>uJ x y (p.num*(q.den:Int)) ((p.den:Int)*q.num) w hx hy L1.out L2.out L3.out)
 rw [YX p q h0] at HL
 clear hx hy hA1 hA2 hB1 hB2 h1 h2 s1 s2 s3 s4 L1 L2 L3 h0
 go_enter Tryz.func101,Tryz.ntmps101
 go_wp2_with fail
 have hz:Below w.heap.size w (((w.alloc (.cells #[.bool bA,.slice gG lA gK,.bool xL,.slice kW xK kX] 152)).alloc (.cells #[.bool bB,.slice iK lB iP,.bool zT,.slice nG zK nP] 152)).alloc (.cells #[.bool false,.slice none 0 0,.bool false,.slice none 0 0] 152)):=aA
 obtain ⟨aO,EW⟩:∃ y,(((w.alloc (.cells #[.bool bA,.slice gG lA gK,.bool xL,.slice kW xK kX] 152)).alloc (.cells #[.bool bB,.slice iK lB iP,.bool zT,.slice nG zK nP] 152)).alloc (.cells #[.bool false,.slice none 0 0,.bool false,.slice none 0 0] 152))=y:=⟨_,rfl⟩
 have X1:Hid (au aO (w.heap.size) #[.bool bA,.slice gG lA gK,.bool xL,.slice kW xK kX] 152):=zh (by rw [← EW];exact au.alloc (au.alloc (au.new _ _ _) _) _)
 have X2:Hid (au aO (w.heap.size+1) #[.bool bB,.slice iK lB iP,.bool zT,.slice nG zK nP] 152):=zh (by rw [← EW];exact au.alloc (au.fZ _ _ _ _) _)
 have X3:Hid (au aO (w.heap.size+1+1) #[.bool false,.slice none 0 0,.bool false,.slice none 0 0] 152):=zh (by rw [← EW];exact au.at2 _ _ _ _ _)
 rw [EW] at hz ⊢
 replace NA:=zh (NA.out.later hz)
 replace uI:=zh (uI.out.later hz)
 replace NB:=zh (NB.out.later hz)
 replace yF:=zh (yF.out.later hz)
 have hk2:=Bt (Below.refl _ _) hz
 clear EW hz
 have eP:=X1.out.cell;have eO:=X1.out.lt;have fU:=X1.out.free
 have dY:=X2.out.cell;have dW:=X2.out.lt;have gN:=X2.out.free
 refine aC [(.pure,0),(.read,1),(.pure,2),(.read,3),(.pure,5),(.read,6),(.pure,7),(.read,8),(.ext,4),(.ext,9),(.ext,10),(.fin,11)] zk zk zR zP ?_
 repeat (first|(refine ah rfl rfl fun J h=>?_;go_simp;refine h _ ?_;clear h J)|(refine aB rfl rfl rfl rfl fun J h=>?_;go_simp;refine h _ ?_;clear h J;try go_simp))
 refine aD rfl rfl (fun uZ hb3 J hJ=>?_);go_simp
 have hh3:Below aO.heap.size aO uZ:=aA
 clear hb3
 refine (aF.iR _ _ _ _ _ (NA.out.later hh3) (yF.out.later hh3) S1.out S4.out).mono ?_
 rintro e rP ⟨v,rfl,hb4,hv5⟩
 obtain ⟨bC,Ch,lC,Cj,rfl⟩:=hv5.agg
 refine hJ _ _ hb4 ?_
 clear hJ J
 have ow:=Bt hh3 hb4
 have NC:=zh hv5
 clear hh3 hb4 hv5
 repeat (first|(refine ah rfl rfl fun J h=>?_;go_simp;refine h _ ?_;clear h J)|(refine aB rfl rfl rfl rfl fun J h=>?_;go_simp;refine h _ ?_;clear h J;try go_simp))
 refine aD rfl rfl (fun qL hb6 J hJ=>?_);go_simp
 have iD:Below aO.heap.size aO qL:=Bt ow aA
 replace NC:=zh (NC.out.later (show Below rP.heap.size rP qL from aA))
 clear hb6 ow
 refine (aF.iR _ _ _ _ _ (uI.out.later iD) (NB.out.later iD) S2.out S3.out).mono ?_
 rintro e ku ⟨v,rfl,dQ,kC⟩
 obtain ⟨bD,Ic,lD,Jl,rfl⟩:=kC.agg
 refine hJ _ _ dQ ?_
 clear hJ J
 have oU:=Bt iD dQ
 replace NC:=zh (NC.out.later dQ)
 have ND:=zh kC
 clear iD dQ kC
 repeat (first|(refine ah rfl rfl fun J h=>?_;go_simp;refine h _ ?_;clear h J)|(refine aB rfl rfl rfl rfl fun J h=>?_;go_simp;refine h _ ?_;clear h J;try go_simp))
 refine aD rfl rfl (fun pW gX J hJ=>?_);go_simp
 have gH:Below aO.heap.size aO pW:=Bt oU aA
 replace NC:=zh (NC.out.later (show Below ku.heap.size ku pW from aA))
 replace ND:=zh (ND.out.later (show Below ku.heap.size ku pW from aA))
 clear gX oU
 refine (HL.out _ _ _ NC.out ND.out).mono ?_
 rintro e dO ⟨v,rfl,dh,fJ⟩
 obtain ⟨bE,paE,lE,caE,bEd,YV,lEd,af2,rfl,Bb,Ba⟩:=id fJ
 refine hJ _ _ dh ?_
 clear hJ J
 have fE:=Bt gH dh
 replace NC:=zh (NC.out.later dh)
 replace ND:=zh (ND.out.later dh)
 have QE:=zh fJ
 clear gH dh fJ Bb Ba
 repeat (first|(refine ah rfl rfl fun J h=>?_;go_simp;refine h _ ?_;clear h J)|(refine aB rfl rfl rfl rfl fun J h=>?_;go_simp;refine h _ ?_;clear h J;try go_simp))
 refine aI [_] rfl (fun mV yh=>?_)
 replace NC:=zh (NC.out.later (show Below dO.heap.size dO mV from aA))
 replace ND:=zh (ND.out.later (show Below dO.heap.size dO mV from aA))
 replace QE:=zh (QE.out.later (show Below dO.heap.size dO mV from aA))
 have hh12:Below aO.heap.size aO mV:=Bt fE aA
 clear yh fE
 clear eP eO fU dY dW gN
 replace NA:=zh (NA.out.later hh12)
 replace uI:=zh (uI.out.later hh12)
 replace NB:=zh (NB.out.later hh12)
 replace yF:=zh (yF.out.later hh12)
 replace X1:=zh (X1.out.later hh12)
 replace X2:=zh (X2.out.later hh12)
 replace X3:=zh (X3.out.later hh12)
 have KW:=Bt hk2 hh12
 clear hk2
 clear hh12
 clear NC
 clear ND
 have mo:=X3.out.cell;have mg:=X3.out.lt;have pX:=X3.out.free
 have hres:=X3.out
 have iU:=hres.cell
 have iT:=hres.free
 go_wp2_with fail
 refine bO rfl rfl aJ Tryz.underlying152 rfl zk ?_
 exact ⟨_,rfl,aA,Ra.kH QE.out hres zd _ _ _ _⟩
theorem rE (x y:Value) (p q:Rat) (w:World) (hx:Ra w x p) (hy:Ra w y q) (h1:dZ 10000000000 p) (h2:dZ 10000000000 q):Calls Tryz.prog 157 #[x,y] w (dD w (p+q)):=by
 obtain ⟨bA,gG,lA,gK,xL,kW,xK,kX,rfl,hA1,hA2⟩:=id hx;obtain ⟨bB,iK,lB,iP,zT,nG,zK,nP,rfl,hB1,hB2⟩:=id hy;have QA:=zh hx;have NA:=zh hA1;have uI:=zh hA2;have QB:=zh hy;have NB:=zh hB1;have yF:=zh hB2
 obtain ⟨s1,s2⟩:=dZ.four h1;obtain ⟨s3,s4⟩:=dZ.four h2;have S1:Hid (sz 10000 p.num.natAbs≤549755813888):=zh zo;have S2:Hid (sz 10000 (p.den:Int).natAbs≤549755813888):=zh zo;have S3:Hid (sz 10000 q.num.natAbs≤549755813888):=zh zo;have S4:Hid (sz 10000 (q.den:Int).natAbs≤549755813888):=zh zo
 have a1:=nD s1 s4
 have a2:=nD s3 s2
 have P1:Hid (sz 10000 (p.num*(q.den:Int)).natAbs≤549755813888):=zh zo
 have P2:Hid (sz 10000 (q.num*(p.den:Int)).natAbs≤549755813888):=zh zo
 have L1:Hid (sz 10000 (p.num*(q.den:Int)+q.num*(p.den:Int)).natAbs≤274877906944):=zh (by have:=U8 a1 a2;omega)
 have L2:Hid (sz 10000 ((p.den:Int)*(q.den:Int)).natAbs≤274877906944):=zh (by have:=nD s2 s4;omega)
 have L3:Hid ((p.den:Int)*(q.den:Int)≠0):=zh (Int.mul_ne_zero (by have:=p.den_pos;omega) (by have:=q.den_pos;omega))
 have HL:=zh (fun x y w hx hy=>uJ x y (p.num*(q.den:Int)+q.num*(p.den:Int)) ((p.den:Int)*(q.den:Int)) w hx hy L1.out L2.out L3.out)
 rw [YQ] at HL
 clear hx hy hA1 hA2 hB1 hB2 h1 h2 s1 s2 s3 s4 L1 L2 L3 a1 a2
 go_enter Tryz.func157,Tryz.ntmps157
 go_wp2_with fail
 have hz:Below w.heap.size w (((w.alloc (.cells #[.bool bA,.slice gG lA gK,.bool xL,.slice kW xK kX] 152)).alloc (.cells #[.bool bB,.slice iK lB iP,.bool zT,.slice nG zK nP] 152)).alloc (.cells #[.bool false,.slice none 0 0,.bool false,.slice none 0 0] 152)):=aA
 obtain ⟨aO,EW⟩:∃ y,(((w.alloc (.cells #[.bool bA,.slice gG lA gK,.bool xL,.slice kW xK kX] 152)).alloc (.cells #[.bool bB,.slice iK lB iP,.bool zT,.slice nG zK nP] 152)).alloc (.cells #[.bool false,.slice none 0 0,.bool false,.slice none 0 0] 152))=y:=⟨_,rfl⟩
 have X1:Hid (au aO (w.heap.size) #[.bool bA,.slice gG lA gK,.bool xL,.slice kW xK kX] 152):=zh (by rw [← EW];exact au.alloc (au.alloc (au.new _ _ _) _) _)
 have X2:Hid (au aO (w.heap.size+1) #[.bool bB,.slice iK lB iP,.bool zT,.slice nG zK nP] 152):=zh (by rw [← EW];exact au.alloc (au.fZ _ _ _ _) _)
 have X3:Hid (au aO (w.heap.size+1+1) #[.bool false,.slice none 0 0,.bool false,.slice none 0 0] 152):=zh (by rw [← EW];exact au.at2 _ _ _ _ _)
 rw [EW] at hz ⊢
 replace NA:=zh (NA.out.later hz)
 replace uI:=zh (uI.out.later hz)
 replace NB:=zh (NB.out.later hz)
 replace yF:=zh (yF.out.later hz)
 have hk2:=Bt (Below.refl _ _) hz
 clear EW hz
 have eP:=X1.out.cell;have eO:=X1.out.lt;have fU:=X1.out.free
 have dY:=X2.out.cell;have dW:=X2.out.lt;have gN:=X2.out.free
 refine aC [(.pure,0),(.read,1),(.pure,2),(.read,3),(.pure,5),(.read,6),(.pure,7),(.read,8),(.ext,4),(.ext,9),(.ext,10),(.alloc #[.bool false,.slice none 0 0] 150,11),(.fin,12)] zk zk zR zP ?_
 repeat (first|(refine ah rfl rfl fun J h=>?_;go_simp;refine h _ ?_;clear h J)|(refine aB rfl rfl rfl rfl fun J h=>?_;go_simp;refine h _ ?_;clear h J;try go_simp))
 refine aD rfl rfl (fun uZ hb3 J hJ=>?_);go_simp
 have hh3:Below aO.heap.size aO uZ:=aA
 clear hb3
 refine (aF.iR _ _ _ _ _ (NA.out.later hh3) (yF.out.later hh3) S1.out S4.out).mono ?_
 rintro e rP ⟨v,rfl,hb4,hv5⟩
 obtain ⟨bC,Ch,lC,Cj,rfl⟩:=hv5.agg
 refine hJ _ _ hb4 ?_
 clear hJ J
 have ow:=Bt hh3 hb4
 have NC:=zh hv5
 clear hh3 hb4 hv5
 repeat (first|(refine ah rfl rfl fun J h=>?_;go_simp;refine h _ ?_;clear h J)|(refine aB rfl rfl rfl rfl fun J h=>?_;go_simp;refine h _ ?_;clear h J;try go_simp))
 refine aD rfl rfl (fun qL hb6 J hJ=>?_);go_simp
 have iD:Below aO.heap.size aO qL:=Bt ow aA
 replace NC:=zh (NC.out.later (show Below rP.heap.size rP qL from aA))
 clear hb6 ow
 refine (aF.iR _ _ _ _ _ (NB.out.later iD) (uI.out.later iD) S3.out S2.out).mono ?_
 rintro e ku ⟨v,rfl,dQ,kC⟩
 obtain ⟨bD,Ic,lD,Jl,rfl⟩:=kC.agg
 refine hJ _ _ dQ ?_
 clear hJ J
 have oU:=Bt iD dQ
 replace NC:=zh (NC.out.later dQ)
 have ND:=zh kC
 clear iD dQ kC
 repeat (first|(refine ah rfl rfl fun J h=>?_;go_simp;refine h _ ?_;clear h J)|(refine aB rfl rfl rfl rfl fun J h=>?_;go_simp;refine h _ ?_;clear h J;try go_simp))
 refine aD rfl rfl (fun pW gX J hJ=>?_);go_simp
 have gH:Below aO.heap.size aO pW:=Bt oU aA
 replace NC:=zh (NC.out.later (show Below ku.heap.size ku pW from aA))
 replace ND:=zh (ND.out.later (show Below ku.heap.size ku pW from aA))
 clear gX oU
 refine (aF.rE _ _ _ _ _ NC.out ND.out P1.out P2.out).mono ?_
 rintro e dO ⟨v,rfl,dh,fJ⟩
 obtain ⟨bF,paF,lF,caF,rfl⟩:=fJ.agg
 refine hJ _ _ dh ?_
 clear hJ J
 have fE:=Bt gH dh
 replace NC:=zh (NC.out.later dh)
 replace ND:=zh (ND.out.later dh)
 have NF:=zh fJ
 clear gH dh fJ
 repeat (first|(refine ah rfl rfl fun J h=>?_;go_simp;refine h _ ?_;clear h J)|(refine aB rfl rfl rfl rfl fun J h=>?_;go_simp;refine h _ ?_;clear h J;try go_simp))
 refine aR rfl (fun yD aB3 RX pO FQ Lf ou=>?_);go_simp;replace ou:au _ _ _ _:=ou;have Ld:w.heap.size≤yD:=(by first|omega|exact Nat.le_trans (Below.size (B:=w.heap.size) aA) pO)
 refine aI [_] rfl (fun Qu as9=>?_)
 replace NC:=zh (NC.out.later (show Below dO.heap.size dO Qu from aA))
 replace ND:=zh (ND.out.later (show Below dO.heap.size dO Qu from aA))
 replace NF:=zh (NF.out.later (show Below dO.heap.size dO Qu from aA))
 have lN:Below aO.heap.size aO Qu:=Bt fE aA
 have hq0:=ou.later as9;have Tv:=hq0.cell;have Ta:=hq0.free
 clear ou as9 fE
 clear eP eO fU dY dW gN
 go_wp2_with fail
 obtain ⟨GR,EW⟩:∃ y,((Qu.setCell ⟨yD,0,none⟩ (.bool bF)).setCell ⟨yD,1,none⟩ (.slice paF lF caF))=y:=⟨_,rfl⟩
 have hz:Below aO.heap.size aO GR:=by rw [← EW];exact ((lN.setCell pO _).setCell pO _)
 have X4:Hid (au GR yD #[.bool bF,.slice paF lF caF] 150):=zh (by rw [← EW];exact ((hq0.set 0 _).set 1 _))
 clear NC
 clear ND
 have t:=((NF.out.setOther hq0 zd 0 (.bool bF)).setOther (hq0.set 0 _) zd 1 (.slice paF lF caF))
 rw [EW] at t
 replace NF:=zh t
 clear t
 rw [EW]
 clear EW hq0 Tv Ta lN
 replace NA:=zh (NA.out.later hz)
 replace uI:=zh (uI.out.later hz)
 replace NB:=zh (NB.out.later hz)
 replace yF:=zh (yF.out.later hz)
 replace X1:=zh (X1.out.later hz)
 replace X2:=zh (X2.out.later hz)
 replace X3:=zh (X3.out.later hz)
 have CB:=Bt hk2 hz
 clear hk2
 clear hz
 clear RX pO FQ Lf Ld
 go_wp2_with fail
 have rX:=X4.out.cell;have rW:=X4.out.lt;have JJ:=X4.out.free
 have eP:=X1.out.cell;have eO:=X1.out.lt;have fU:=X1.out.free
 have dY:=X2.out.cell;have dW:=X2.out.lt;have gN:=X2.out.free
 refine aC [(.read,0),(.pure,1),(.read,2),(.pure,3),(.read,4),(.ext,5),(.ext,6),(.fin,7)] zk zk zR zP ?_
 repeat (first|(refine ah rfl rfl fun J h=>?_;go_simp;refine h _ ?_;clear h J)|(refine aB rfl rfl rfl rfl fun J h=>?_;go_simp;refine h _ ?_;clear h J;try go_simp))
 refine aD rfl rfl (fun Qv jF J hJ=>?_);go_simp
 have nH:Below GR.heap.size GR Qv:=aA
 clear jF
 refine (aF.iR _ _ _ _ _ (uI.out.later nH) (yF.out.later nH) S2.out S4.out).mono ?_
 rintro e Cn ⟨v,rfl,oK,Zv⟩
 obtain ⟨bG,JH,lG,JL,rfl⟩:=Zv.agg
 refine hJ _ _ oK ?_
 clear hJ J
 have sP:=Bt nH oK
 have NG:=zh Zv
 clear nH oK Zv
 repeat (first|(refine ah rfl rfl fun J h=>?_;go_simp;refine h _ ?_;clear h J)|(refine aB rfl rfl rfl rfl fun J h=>?_;go_simp;refine h _ ?_;clear h J;try go_simp))
 refine aD rfl rfl (fun am3 jk J hJ=>?_);go_simp
 have rR:Below GR.heap.size GR am3:=Bt sP aA
 replace NG:=zh (NG.out.later (show Below Cn.heap.size Cn am3 from aA))
 clear jk sP
 refine (HL.out _ _ _ (NF.out.later rR) NG.out).mono ?_
 rintro e Qw ⟨v,rfl,sU,KJ⟩
 obtain ⟨bE,paE,lE,caE,bEd,YV,lEd,af2,rfl,aC9,aC7⟩:=id KJ
 refine hJ _ _ sU ?_
 clear hJ J
 have Pm:=Bt rR sU
 replace NG:=zh (NG.out.later sU)
 have QE:=zh KJ
 clear rR sU KJ aC9 aC7
 repeat (first|(refine ah rfl rfl fun J h=>?_;go_simp;refine h _ ?_;clear h J)|(refine aB rfl rfl rfl rfl fun J h=>?_;go_simp;refine h _ ?_;clear h J;try go_simp))
 refine aI [_] rfl (fun YC aE4=>?_)
 replace NG:=zh (NG.out.later (show Below Qw.heap.size Qw YC from aA))
 replace QE:=zh (QE.out.later (show Below Qw.heap.size Qw YC from aA))
 have Bd:Below GR.heap.size GR YC:=Bt Pm aA
 clear aE4 Pm
 clear rX rW JJ eP eO fU dY dW gN
 replace NA:=zh (NA.out.later Bd)
 replace uI:=zh (uI.out.later Bd)
 replace NB:=zh (NB.out.later Bd)
 replace yF:=zh (yF.out.later Bd)
 replace X1:=zh (X1.out.later Bd)
 replace X2:=zh (X2.out.later Bd)
 replace X3:=zh (X3.out.later Bd)
 replace X4:=zh (X4.out.later Bd)
 replace NF:=zh (NF.out.later Bd)
 have Sc:=Bt CB Bd
 clear CB
 clear Bd
 clear NG
 have mo:=X3.out.cell;have mg:=X3.out.lt;have pX:=X3.out.free
 have hres:=X3.out
 have iU:=hres.cell
 have iT:=hres.free
 go_wp2_with fail
 refine bO rfl rfl aJ Tryz.underlying152 rfl zk ?_
 exact ⟨_,rfl,aA,Ra.kH QE.out hres zd _ _ _ _⟩
theorem tT (x y:Value) (p q:Rat) (w:World) (hx:Ra w x p) (hy:Ra w y q) (h1:dZ 10000000000 p) (h2:dZ 10000000000 q):Calls Tryz.prog 200 #[x,y] w (dD w (p - q)):=by
 obtain ⟨bA,gG,lA,gK,xL,kW,xK,kX,rfl,hA1,hA2⟩:=id hx;obtain ⟨bB,iK,lB,iP,zT,nG,zK,nP,rfl,hB1,hB2⟩:=id hy;have QA:=zh hx;have NA:=zh hA1;have uI:=zh hA2;have QB:=zh hy;have NB:=zh hB1;have yF:=zh hB2
 have H1:=zh h1
 have H2:=zh (qM h2)
 have HP:=zh (fun x y w hx hy=>rE x y p (-q) w hx hy h1 (qM h2))
 rw [← Rat.sub_eq_add_neg] at HP
 clear hx hy hA1 hA2 hB1 hB2 h1 h2
 go_enter Tryz.func200,Tryz.ntmps200
 go_wp2_with fail
 have hz:Below w.heap.size w (((w.alloc (.cells #[.bool bA,.slice gG lA gK,.bool xL,.slice kW xK kX] 152)).alloc (.cells #[.bool bB,.slice iK lB iP,.bool zT,.slice nG zK nP] 152)).alloc (.cells #[.bool false,.slice none 0 0,.bool false,.slice none 0 0] 152)):=aA
 obtain ⟨aO,EW⟩:∃ y,(((w.alloc (.cells #[.bool bA,.slice gG lA gK,.bool xL,.slice kW xK kX] 152)).alloc (.cells #[.bool bB,.slice iK lB iP,.bool zT,.slice nG zK nP] 152)).alloc (.cells #[.bool false,.slice none 0 0,.bool false,.slice none 0 0] 152))=y:=⟨_,rfl⟩
 have X1:Hid (au aO (w.heap.size) #[.bool bA,.slice gG lA gK,.bool xL,.slice kW xK kX] 152):=zh (by rw [← EW];exact au.alloc (au.alloc (au.new _ _ _) _) _)
 have X2:Hid (au aO (w.heap.size+1) #[.bool bB,.slice iK lB iP,.bool zT,.slice nG zK nP] 152):=zh (by rw [← EW];exact au.alloc (au.fZ _ _ _ _) _)
 have X3:Hid (au aO (w.heap.size+1+1) #[.bool false,.slice none 0 0,.bool false,.slice none 0 0] 152):=zh (by rw [← EW];exact au.at2 _ _ _ _ _)
 rw [EW] at hz ⊢
 replace QA:=zh (QA.out.later hz)
 replace QB:=zh (QB.out.later hz)
 have hk2:=Bt (Below.refl _ _) hz
 clear EW hz
 have eP:=X1.out.cell;have eO:=X1.out.lt;have fU:=X1.out.free
 have dY:=X2.out.cell;have dW:=X2.out.lt;have gN:=X2.out.free
 refine aC [(.read,0),(.read,1),(.ext,2),(.ext,3),(.fin,4)] zk zk zR zP ?_
 repeat (first|(refine ah rfl rfl fun J h=>?_;go_simp;refine h _ ?_;clear h J)|(refine aB rfl rfl rfl rfl fun J h=>?_;go_simp;refine h _ ?_;clear h J;try go_simp))
 refine aD rfl rfl (fun uZ hb3 J hJ=>?_);go_simp
 have hh3:Below aO.heap.size aO uZ:=aA
 clear hb3
 refine (o8 _ _ _ (QB.out.later hh3)).mono ?_
 rintro e rP ⟨v,rfl,hb4,hv5⟩
 obtain ⟨bC,Ch,lC,Cj,bCd,Vi,lCd,WC,rfl,hx5,hy5⟩:=id hv5
 refine hJ _ _ hb4 ?_
 clear hJ J
 have ow:=Bt hh3 hb4
 have QC:=zh hv5
 clear hh3 hb4 hv5 hx5 hy5
 repeat (first|(refine ah rfl rfl fun J h=>?_;go_simp;refine h _ ?_;clear h J)|(refine aB rfl rfl rfl rfl fun J h=>?_;go_simp;refine h _ ?_;clear h J;try go_simp))
 refine aD rfl rfl (fun qL hb6 J hJ=>?_);go_simp
 have iD:Below aO.heap.size aO qL:=Bt ow aA
 replace QC:=zh (QC.out.later (show Below rP.heap.size rP qL from aA))
 clear hb6 ow
 refine (HP.out _ _ _ (QA.out.later iD) QC.out).mono ?_
 rintro e ku ⟨v,rfl,dQ,kC⟩
 obtain ⟨bE,paE,lE,caE,bEd,YV,lEd,af2,rfl,Xy,hy8⟩:=id kC
 refine hJ _ _ dQ ?_
 clear hJ J
 have oU:=Bt iD dQ
 replace QC:=zh (QC.out.later dQ)
 have QE:=zh kC
 clear iD dQ kC Xy hy8
 repeat (first|(refine ah rfl rfl fun J h=>?_;go_simp;refine h _ ?_;clear h J)|(refine aB rfl rfl rfl rfl fun J h=>?_;go_simp;refine h _ ?_;clear h J;try go_simp))
 refine aI [_] rfl (fun zq Si=>?_)
 replace QC:=zh (QC.out.later (show Below ku.heap.size ku zq from aA))
 replace QE:=zh (QE.out.later (show Below ku.heap.size ku zq from aA))
 have gH:Below aO.heap.size aO zq:=Bt oU aA
 clear Si oU
 clear eP eO fU dY dW gN
 replace QA:=zh (QA.out.later gH)
 replace QB:=zh (QB.out.later gH)
 replace X1:=zh (X1.out.later gH)
 replace X2:=zh (X2.out.later gH)
 replace X3:=zh (X3.out.later gH)
 have hk10:=Bt hk2 gH
 clear hk2
 clear gH
 clear QC
 have mo:=X3.out.cell;have mg:=X3.out.lt;have pX:=X3.out.free
 have hres:=X3.out
 have iU:=hres.cell
 have iT:=hres.free
 go_wp2_with fail
 refine bO rfl rfl aJ Tryz.underlying152 rfl zk ?_
 exact ⟨_,rfl,aA,Ra.kH QE.out hres zd _ _ _ _⟩
theorem ae2 (p q:Rat):Ww (p.num*(q.den:Int)) (q.num*(p.den:Int))=gV p q:=by
 rw [← Aq]
 unfold Ww uK
 split
 ·rw [if_neg zo,if_pos zo]
 ·split
  ·rw [if_neg zo,if_neg zo]
  ·rw [if_pos zo]
theorem BS (x y:Value) (p q:Rat) (w:World) (hx:Ra w x p) (hy:Ra w y q) (h1:dZ 10000000000 p) (h2:dZ 10000000000 q):Calls Tryz.prog 201 #[x,y] w (fun e w'=>e= .returned (.int .i64 (gV p q))∧Below w.heap.size w w'):=by
 obtain ⟨bA,gG,lA,gK,xL,kW,xK,kX,rfl,hA1,hA2⟩:=id hx;obtain ⟨bB,iK,lB,iP,zT,nG,zK,nP,rfl,hB1,hB2⟩:=id hy;have QA:=zh hx;have NA:=zh hA1;have uI:=zh hA2;have QB:=zh hy;have NB:=zh hB1;have yF:=zh hB2
 obtain ⟨s1,s2⟩:=dZ.four h1;obtain ⟨s3,s4⟩:=dZ.four h2;have S1:Hid (sz 10000 p.num.natAbs≤549755813888):=zh zo;have S2:Hid (sz 10000 (p.den:Int).natAbs≤549755813888):=zh zo;have S3:Hid (sz 10000 q.num.natAbs≤549755813888):=zh zo;have S4:Hid (sz 10000 (q.den:Int).natAbs≤549755813888):=zh zo
 have a1:=nD s1 s4
 have a2:=nD s3 s2
 have P1:Hid (sz 10000 (p.num*(q.den:Int)).natAbs≤549755813888):=zh zo
 have P2:Hid (sz 10000 (q.num*(p.den:Int)).natAbs≤549755813888):=zh zo
 have HO:=zh (fun x y w hx hy=>aF.BS x y (p.num*(q.den:Int)) (q.num*(p.den:Int)) w hx hy P1.out P2.out)
 rw [ae2] at HO
 clear hx hy hA1 hA2 hB1 hB2 h1 h2 s1 s2 s3 s4 a1 a2
 generalize gV p q=cc at *
 go_enter Tryz.func201,Tryz.ntmps201
 go_wp2_with fail
 have hz:Below w.heap.size w ((w.alloc (.cells #[.bool bA,.slice gG lA gK,.bool xL,.slice kW xK kX] 152)).alloc (.cells #[.bool bB,.slice iK lB iP,.bool zT,.slice nG zK nP] 152)):=aA
 obtain ⟨aO,EW⟩:∃ y,((w.alloc (.cells #[.bool bA,.slice gG lA gK,.bool xL,.slice kW xK kX] 152)).alloc (.cells #[.bool bB,.slice iK lB iP,.bool zT,.slice nG zK nP] 152))=y:=⟨_,rfl⟩
 have X1:Hid (au aO (w.heap.size) #[.bool bA,.slice gG lA gK,.bool xL,.slice kW xK kX] 152):=zh (by rw [← EW];exact au.alloc (au.new _ _ _) _)
 have X2:Hid (au aO (w.heap.size+1) #[.bool bB,.slice iK lB iP,.bool zT,.slice nG zK nP] 152):=zh (by rw [← EW];exact au.fZ _ _ _ _)
 rw [EW] at hz ⊢
 replace NA:=zh (NA.out.later hz)
 replace uI:=zh (uI.out.later hz)
 replace NB:=zh (NB.out.later hz)
 replace yF:=zh (yF.out.later hz)
 have hk2:=Bt (Below.refl _ _) hz
 clear EW hz
 have eP:=X1.out.cell;have eO:=X1.out.lt;have fU:=X1.out.free
 have dY:=X2.out.cell;have dW:=X2.out.lt;have gN:=X2.out.free
 refine aC [(.pure,0),(.read,1),(.pure,2),(.read,3),(.pure,5),(.read,6),(.pure,7),(.read,8),(.ext,4),(.ext,9),(.ext,10),(.fin,11)] zk zk zR zP ?_
 repeat (first|(refine ah rfl rfl fun J h=>?_;go_simp;refine h _ ?_;clear h J)|(refine aB rfl rfl rfl rfl fun J h=>?_;go_simp;refine h _ ?_;clear h J;try go_simp))
 refine aD rfl rfl (fun uZ hb3 J hJ=>?_);go_simp
 have hh3:Below aO.heap.size aO uZ:=aA
 clear hb3
 refine (aF.iR _ _ _ _ _ (NA.out.later hh3) (yF.out.later hh3) S1.out S4.out).mono ?_
 rintro e rP ⟨v,rfl,hb4,hv5⟩
 obtain ⟨bC,Ch,lC,Cj,rfl⟩:=hv5.agg
 refine hJ _ _ hb4 ?_
 clear hJ J
 have ow:=Bt hh3 hb4
 have NC:=zh hv5
 clear hh3 hb4 hv5
 repeat (first|(refine ah rfl rfl fun J h=>?_;go_simp;refine h _ ?_;clear h J)|(refine aB rfl rfl rfl rfl fun J h=>?_;go_simp;refine h _ ?_;clear h J;try go_simp))
 refine aD rfl rfl (fun qL hb6 J hJ=>?_);go_simp
 have iD:Below aO.heap.size aO qL:=Bt ow aA
 replace NC:=zh (NC.out.later (show Below rP.heap.size rP qL from aA))
 clear hb6 ow
 refine (aF.iR _ _ _ _ _ (NB.out.later iD) (uI.out.later iD) S3.out S2.out).mono ?_
 rintro e ku ⟨v,rfl,dQ,kC⟩
 obtain ⟨bD,Ic,lD,Jl,rfl⟩:=kC.agg
 refine hJ _ _ dQ ?_
 clear hJ J
 have oU:=Bt iD dQ
 replace NC:=zh (NC.out.later dQ)
 have ND:=zh kC
 clear iD dQ kC
 repeat (first|(refine ah rfl rfl fun J h=>?_;go_simp;refine h _ ?_;clear h J)|(refine aB rfl rfl rfl rfl fun J h=>?_;go_simp;refine h _ ?_;clear h J;try go_simp))
 refine aD rfl rfl (fun pW gX J hJ=>?_);go_simp
 have gH:Below aO.heap.size aO pW:=Bt oU aA
 replace NC:=zh (NC.out.later (show Below ku.heap.size ku pW from aA))
 replace ND:=zh (ND.out.later (show Below ku.heap.size ku pW from aA))
 clear gX oU
 refine (HO.out _ _ _ NC.out ND.out).mono ?_
 rintro e dO ⟨rfl,dh⟩
 refine hJ _ _ dh ?_
 clear hJ J
 have fE:=Bt gH dh
 replace NC:=zh (NC.out.later dh)
 replace ND:=zh (ND.out.later dh)
 clear gH dh
 repeat (first|(refine ah rfl rfl fun J h=>?_;go_simp;refine h _ ?_;clear h J)|(refine aB rfl rfl rfl rfl fun J h=>?_;go_simp;refine h _ ?_;clear h J;try go_simp))
 refine aI [_] rfl (fun mV yh=>?_)
 replace NC:=zh (NC.out.later (show Below dO.heap.size dO mV from aA))
 replace ND:=zh (ND.out.later (show Below dO.heap.size dO mV from aA))
 have hh12:Below aO.heap.size aO mV:=Bt fE aA
 clear yh fE
 clear eP eO fU dY dW gN
 replace NA:=zh (NA.out.later hh12)
 replace uI:=zh (uI.out.later hh12)
 replace NB:=zh (NB.out.later hh12)
 replace yF:=zh (yF.out.later hh12)
 replace X1:=zh (X1.out.later hh12)
 replace X2:=zh (X2.out.later hh12)
 have KW:=Bt hk2 hh12
 clear hk2
 clear hh12
 clear NC
 clear ND
 go_wp2_with fail
 go_ret
 exact ⟨rfl,KW⟩
end Go.Proofs.aH
