/- Lemmas for the proof. No condition. -/
import Derived.Test.YtlpjmogillpnbaaGreatDoorTB31
import Derived.Deep.Cut
set_option linter.unusedVariables false
set_option linter.unusedSimpArgs false
set_option maxRecDepth 100000
set_option maxHeartbeats 16000000
open Bool renaming and_eq_true → aF
open Go.Ending renaming returned → ah
open Go.IntKind renaming i64 → I
open Go.Value renaming agg → au, bool → ay, int → Z, slice → aj, string → O, tuple → aD
open List renaming append_assoc → iF, cons_append → cZ, getElem?_append_left → dP, getElem?_append_right → dK, length_cons → aZ, replicate → bD, take_of_length_le → gY
open Nat renaming add_zero → eO, le_refl → aI, le_trans → aB, lt_of_lt_of_le → aL, mul_comm → aJ, mul_le_mul → dJ, pow_add → d9, pow_le_pow_right → bE, pow_succ → bF, zero_add → dw
namespace Go.Proofs.aV
open Go Go.RowKit Go.SW Go.Num Go.Mem Go.Proofs Go.Dec
theorem Qz (d:Nat) (hd:d<10000) (w:World) :
  Calls Tryz.prog 238 #[Z I (d:Int)] w fun e w'=>e= ah (O ⟨(pad 4 d).toArray⟩)∧Below w.heap.size w w':=by
 have hp:pad 4 d=[UInt8.ofNat (48+d / 1000),UInt8.ofNat (48+d / 100%10),UInt8.ofNat (48+d / 10%10),UInt8.ofNat (48+d%10)]:=by
  simp only [pad,List.nil_append,cZ];rw [show d / 10 / 10 / 10%10=d / 1000 by omega,show d / 10 / 10%10=d / 100%10 by omega]
 have hb:∀ x:Nat,x<10→((UInt8.ofNat (48+x)).toNat:Int)=48+(x:Int):=fun x hx=>by
  rw [kU hx];omega
 have e1:=hb (d / 1000) zo;have e2:=hb (d / 100%10) zo;have e3:=hb (d / 10%10) zo;have e4:=hb (d%10) zo
 have hcv:(convert 186 9 (aj (some ⟨w.heap.size,0,none⟩) 4 4)).run Tryz.prog (w.alloc (.cells #[Z .u8 (48+(d:Int) / 1000),Z .u8 (48+(d:Int) / 100%10),Z .u8 (48+(d:Int) / 10%10),Z .u8 (48+(d:Int)%10)] 5))
   = .ok (O ⟨(pad 4 d).toArray⟩) (w.alloc (.cells #[Z .u8 (48+(d:Int) / 1000),Z .u8 (48+(d:Int) / 100%10),Z .u8 (48+(d:Int) / 10%10),Z .u8 (48+(d:Int)%10)] 5)):=by
  have hx:=aC.new w #[Z .u8 (48+(d:Int) / 1000),Z .u8 (48+(d:Int) / 100%10),Z .u8 (48+(d:Int) / 10%10),Z .u8 (48+(d:Int)%10)] 5;have hl:=mV 4 d
  have:=run_convert_bytes_back (P:=Tryz.prog) (w.alloc (.cells #[Z .u8 (48+(d:Int) / 1000),Z .u8 (48+(d:Int) / 100%10),Z .u8 (48+(d:Int) / 10%10),Z .u8 (48+(d:Int)%10)] 5)) 186 9 5 ⟨w.heap.size,0,none⟩ 4 (pad 4 d) Tryz.underlying186 Tryz.underlying5 Tryz.underlying9 (fun j hj=>by
   rw [Addr.add_lit,hx.cell,dw];rw [hl] at hj
   match j,hj with
   | 0,_=>simp only [hp,List.getElem_cons_zero,e1];rfl
   | 1,_=>simp only [hp,List.getElem_cons_zero,List.getElem_cons_succ,e2];rfl
   | 2,_=>simp only [hp,List.getElem_cons_zero,List.getElem_cons_succ,e3];rfl
   | 3,_=>simp only [hp,List.getElem_cons_zero,List.getElem_cons_succ,e4];rfl)
  rwa [hl] at this
 obtain ⟨B,EB⟩:∃ B:ByteArray,Hid ((⟨(pad 4 d).toArray⟩:ByteArray)=B):=⟨_,zh rfl⟩;rw [EB.out] at hcv ⊢;clear e1 e2 e3 e4 hb hp EB;go_enter Tryz.func238,Tryz.ntmps238
 go_wp2
 go_ret
 exact ⟨rfl,aN⟩
def txt:List Nat→List UInt8
 | []=>[]
 | d::l=>txt l++pad 4 d
theorem LH {l:List Nat} {i:Nat} (h:i<l.length):txt (l.drop i)=txt (l.drop (i+1))++pad 4 (l.getD i 0):=by
 rw [iW h];rfl
theorem AQ:∀ {l:List Nat},fD 10000 l→Top l→l≠[]→∃ m,txt l=bD m 48++Lib.decDigits (val 10000 l)
 | [],_,_,h=>absurd rfl h
 | d::l,hd,ht,_=>by
  by_cases hl:l=[]
  ·subst hl;refine ⟨4 - (Lib.decDigits d).length,?_⟩;have h1:=uh 4 d zo (by have:=hd.head;omega)
   show []++pad 4 d=_
   rw [← h1];simp [val]
  ·obtain ⟨m,hm⟩:=AQ hd.tail ht.tail hl;refine ⟨m,?_⟩;have hp:=iw (B:=10000) zo ht.tail hl
   show txt l++pad 4 d=_
   rw [hm,iF,← wM 4 _ d hp (by have:=hd.head;omega)];simp only [val];rw [show val 10000 l*10^4+d=d+10000*val 10000 l by omega]
theorem Hw (l:List Nat):(txt l).length=4*l.length:=by
 induction l with
 | nil=>rfl
 | cons d l ih=>show (txt l++pad 4 d).length=_;rw [List.length_append,ih,mV,aZ];omega
theorem Ju {l:List Nat} {k:Nat} (hd:fD 10000 l) (ht:Top l) (h:∀ i,i<k→(txt l)[i]? =some 48) (hk:k<(txt l).length) (hne:(txt l)[k]? ≠some 48):(txt l).drop k=Lib.decDigits (val 10000 l):=by
 have hl:l≠[]:=fun e=>by subst e;cases hk
 have hp:=iw (B:=10000) zo ht hl;obtain ⟨m,hm⟩:=AQ hd ht hl
 have hkm:k=m:=by
  rcases Nat.lt_trichotomy k m with h1|h1|h1
  ·exfalso
   rw [hm,dP (by simpa using h1)] at hne;simp [h1] at hne
  ·exact h1
  ·exfalso
   have h2:=h m h1;rw [hm,dK zi] at h2;simp only [List.length_replicate,Nat.sub_self] at h2;have:=qD (n:=val 10000 l) (by rw [List.head?_eq_getElem?];exact h2);omega
 subst hkm;rw [hm,List.drop_append_of_le_length zi,List.drop_of_length_le zi,List.nil_append]
theorem Jv {l:List Nat} (hd:fD 10000 l) (ht:Top l) (h:∀ i,i<(txt l).length→(txt l)[i]? =some 48):val 10000 l=0:=by
 by_cases hl:l=[]
 ·subst hl;rfl
 ·exfalso
  have hp:=iw (B:=10000) zo ht hl;obtain ⟨m,hm⟩:=AQ hd ht hl;have h2:=h m (by rw [hm,List.length_append,List.length_replicate];have:=qC (val 10000 l);omega);rw [hm,dK zi] at h2;simp only [List.length_replicate,Nat.sub_self] at h2;have:=qD (n:=val 10000 l) (by rw [List.head?_eq_getElem?];exact h2);omega
theorem ba_eq {a b:ByteArray} (h:a.data.toList=b.data.toList):a=b:=by
 cases a;cases b
 simp only at h;rw [Array.toList_inj.1 h]
theorem tQ (z:Int):Lib.itoa z=if z<0 then 45::Lib.decDigits z.natAbs else Lib.decDigits z.natAbs:=by
 unfold Lib.itoa
 by_cases h:z<0
 ·rw [if_pos h,if_pos h]
 ·rw [if_neg h,if_neg h,show z.toNat=z.natAbs by omega]
theorem pz (S:ByteArray) (k:Nat):(S.extract k S.size).data.toList=S.data.toList.drop k:=by
 have h:S.size=S.data.toList.length:=rfl;rw [ByteArray.data_extract,Array.toList_extract];unfold List.extract;rw [gY (by rw [List.length_drop,h];exact aI _)]
theorem Ri (x:Value) (z:Int) (w:World) (hx:Pl w x z) (hs:sz 10000 z.natAbs≤1073741824) :
  Calls Tryz.prog 186 #[x] w (fun e w'=>e= ah (O ⟨(Lib.itoa z).toArray⟩)∧Below w.heap.size w w'):=by
 obtain ⟨bA,BU,lA,EA,rfl⟩:=hx.agg;obtain ⟨hn,hbz⟩:=hx.nm;obtain ⟨l,El⟩:∃ l,dF 10000 z.natAbs=l:=⟨_,rfl⟩;obtain ⟨pa',Pb,e,k1,k2,k3⟩:=hn.read;simp only [Value.slice.injEq] at e;obtain ⟨rfl,rfl,rfl⟩:=e;rw [El] at k3;have hl:l.length=sz 10000 z.natAbs:=by rw [← El];rfl
 have hdl:fD 10000 l:=by rw [← El];exact bN zo _
 have htl:Top l:=by rw [← El];exact lg zo _
 have hvl:val 10000 l=z.natAbs:=by rw [← El];exact bH zo _
 obtain ⟨L,EL⟩:∃ L,sz 10000 z.natAbs=L:=⟨_,rfl⟩;rw [EL] at hl hs k1 k3 ⊢;have h0:Below w.heap.size w (w.alloc (.cells #[ay bA,aj BU L EA] 144)):=aN;have hbx:=aC.new w #[ay bA,aj BU L EA] 144;obtain ⟨W,EW⟩:∃ y,w.alloc (.cells #[ay bA,aj BU L EA] 144)=y:=⟨_,rfl⟩;rw [EW] at h0 hbx
 have k4:∀ k,k<L→∃ b off,BU=some ⟨b,off,none⟩∧b<W.heap.size∧W.cell? ⟨b,off+k,none⟩=some (.int .i64 (l.getD k 0:Nat)):=fun k hk=>by
  obtain ⟨b,off,e,h1,h2⟩:=k3 k hk;exact ⟨b,off,e,aL h1 h0.size,(h0.cell (by exact h1)).trans h2⟩
 have K4:=zh k4;have HX:=zh hbx;have HL:=zh hl;have Ze:=zh hdl;have HTL:=zh htl;have YX:=zh hvl;have HBZ:=zh hbz;have c0:=hbx.cell;clear k3 k4 hbx hl hdl htl hvl hbz hn hx EL El;go_enter Tryz.func186,Tryz.ntmps186
 go_wp2_with fail
 clear EW c0
 go_loopw [3,4] (fun sv iv wr=>∃ (q:Int) (S:ByteArray), -1≤q∧q<L∧iv= Z I q∧sv= O S∧Hid (S.data.toList=txt (l.drop (q+1).toNat))∧Hid (Below W.heap.size W wr)) (fun _ iv _=>(intOf iv+1).toNat)
 case atStart =>
  have e:((L:Int) - 1+1).toNat=l.length:=by have:=HL.out;omega
  exact ⟨(L:Int) - 1,⟨#[]⟩,by omega,by omega,rfl,rfl,zh (by rw [e,List.drop_length];rfl),zh (Below.refl _ _)⟩
 case round =>
  obtain ⟨q,S,hq1,hq2,rfl,rfl,HS,HB⟩:=hrel;have hbx:=HX.out.later HB.out;have c0:=hbx.cell
  by_cases hq:q<0
  ·have hq0:q= -1:=by omega
   subst hq0;have hS:S.data.toList=txt l:=by have:=HS.out;simpa using this
   have HS2:=zh hS;clear hS HS
   have hsz:S.size=4*L:=by
    have h1:S.size=S.data.toList.length:=rfl;rw [h1,HS2.out,Hw,HL.out]
   go_wp2_with fail
   go_loop [5] (fun kv=>∃ k:Nat,k≤S.size∧kv= Z I k∧Hid (∀ i,i<k→S.data.toList[i]? =some 48)) (fun kv=>S.size - (intOf kv).toNat)
   case atStart=>exact ⟨0,Nat.zero_le _,rfl,zh fun i hi=>by cases hi⟩
   case round =>
    obtain ⟨k,hk,rfl,HK⟩:=hrel
    by_cases hks:k<S.size
    ·have hg:(txt l)[k]? =some S[k]:=by
      rw [← HS2.out];exact List.getElem?_eq_getElem (by exact hks)
     by_cases h48:S[k]=48
     ·have e:((S[k].toNat:Int) == 48)=true:=by rw [h48];rfl
      have ZY:Hid (∀ i,i<k+1→S.data.toList[i]? =some 48):=zh fun i hi=>by
       by_cases hik:i<k
       ·exact HK.out i hik
       ·obtain rfl:i=k:=by omega
        rw [HS2.out,hg,h48]
      clear hg h48;go_wp2_with fail
      go_round
      case rel=>exact ⟨k+1,by omega,by go_num,ZY⟩
      case measure=>exact zM
     ·have e:((S[k].toNat:Int) == 48)=false:=by
       rw [beq_eq_false_iff_ne];intro h;have ad6:S[k].toNat=48:=by omega
       exact h48 (UInt8.toNat_inj.1 (by rw [ad6];rfl))
      have hdrop:=Ju Ze.out HTL.out (fun i hi=>by rw [← HS2.out];exact HK.out i hi) (by rw [← HS2.out];exact hks) (by rw [hg];intro h;exact h48 (Option.some.inj h))
      have hT:(S.extract k (4*L)).data.toList=Lib.decDigits z.natAbs:=by
       rw [← hsz,pz,HS2.out,hdrop,YX.out]
      have hE:(S.extract k (4*L)).toList.isEmpty=false:=by
       rw [ByteArray.toList_eq,hT];have:=qC z.natAbs;cases h:Lib.decDigits z.natAbs with
       | nil=>rw [h] at this;cases this
       | cons a b=>rfl
      have HT:=zh hT;clear hdrop hT hg h48 HK;cases bA
      ·have hz:¬ z<0:=by have:=HBZ.out;intro h;rw [decide_eq_true h] at this;cases this
       have eS:S.extract k (4*L)=⟨(Lib.itoa z).toArray⟩:=ba_eq (by rw [HT.out,tQ,if_neg hz]);have ES:=zh eS;clear eS hz;go_wp2_with fail
       go_ret
       exact ⟨congrArg (fun s=>Ending.returned (O s)) ES.out,Bt h0 HB.out⟩
      ·have hz:z<0:=of_decide_eq_true HBZ.out.symm
       have eS:(⟨#[45]⟩:ByteArray)++S.extract k (4*L)=⟨(Lib.itoa z).toArray⟩:=ba_eq (by
        rw [tQ,if_pos hz,ByteArray.data_append,Array.toList_append,HT.out];rfl)
       have ES:=zh eS
       have hsm:¬ 9223372036854775807<1+(S.extract k (4*L)).size:=by
        have h1:(S.extract k (4*L)).size=(S.extract k (4*L)).data.toList.length:=rfl;have h2:=HT.out;rw [← hsz,pz] at h2
        have h3:(S.extract k (4*L)).data.toList.length≤S.data.toList.length:=by
         rw [← hsz,pz,List.length_drop];omega
        have h4:S.data.toList.length=S.size:=rfl;omega
       clear eS hz;go_wp2_with fail
       go_ret
       exact ⟨congrArg (fun s=>Ending.returned (O s)) ES.out,Bt h0 HB.out⟩
    ·have hke:k=S.size:=by omega
     subst hke
     have hz0:z.natAbs=0:=by
      rw [← YX.out]
      exact Jv Ze.out HTL.out fun i hi=>by
       rw [← HS2.out] at hi ⊢;exact HK.out i hi
     have hz:z=0:=by omega
     have EZ:Hid ((⟨#[48]⟩:ByteArray)=⟨(Lib.itoa z).toArray⟩):=zh (by rw [hz];exact ba_eq (by rw [tQ];simp [gM]));clear hz hz0 HK;go_wp2_with fail
     go_ret
     exact ⟨congrArg (fun s=>Ending.returned (O s)) EZ.out,Bt h0 HB.out⟩
  ·obtain ⟨j,rfl⟩:=Int.eq_ofNat_of_zero_le (by omega:0≤q);have ej:((j:Int)+1).toNat=j+1:=by omega
   rw [ej] at HS;obtain ⟨b,off,rfl,hb1,hc1⟩:=K4.out j zo;have hcj:wr.cell? ⟨b,off+j,none⟩=some (.int .i64 (l.getD j 0:Nat)):=(HB.out.cell (by exact hb1)).trans hc1;have hdj:=Ze.out.getD zo j;have HST:Hid (txt (l.drop j)=S.data.toList++pad 4 (l.getD j 0)):=zh (by rw [HS.out];exact LH (by rw [HL.out];omega));have HSL:Hid (S.data.toList.length=4*(L - (j+1))):=zh (by rw [HS.out,Hw,List.length_drop,HL.out]);clear HS hc1;generalize l.getD j 0=d at *;have HF:=zh (Qz d hdj)
   have hsum:¬ 9223372036854775807<S.size+(pad 4 d).length:=by
    have h1:S.size=S.data.toList.length:=rfl;rw [mV,h1,HSL.out];omega
   go_wp2_with fail
   refine (HF.out _).mono ?_;rintro e w1 ⟨rfl,hb⟩;have HB1:=zh (Bt HB.out hb);clear hb hbx c0 hcj;go_wp2_with fail
   go_roundw
   case rel =>
    have e1:((j:Int) - 1+1).toNat=j:=by omega
    exact ⟨(j:Int) - 1,S++⟨(pad 4 d).toArray⟩,by omega,by omega,rfl,rfl,zh (by rw [e1,HST.out];simp),HB1⟩
   case measure=>simp [intOf]
theorem Gv (n:Nat):(Lib.decDigits n).length≤4*sz 10000 n+1:=by
 refine jh _ _ zo ?_;have h1:=iV (B:=10000) zo n;have h2:(10:Nat)^(4*sz 10000 n)=10000^sz 10000 n:=by rw [Nat.pow_mul]
 rw [bF,h2];omega
def MF (z:Int):Value:=if gW.kg z.natAbs then aD #[dA z,Z I 0] else aD #[O ⟨#[]⟩,Z I 6]
theorem Nk (z:Int):(Lib.itoa z).length=(Lib.decDigits z.natAbs).length+(if z<0 then 1 else 0):=by
 rw [tQ]
 by_cases h:z<0
 ·rw [if_pos h,if_pos h];rfl
 ·rw [if_neg h,if_neg h];rfl
theorem BQ (x:Value) (z:Int) (w:World) (hx:Pl w x z) (hs:sz 10000 z.natAbs≤1073741824) :
  Calls Tryz.prog 146 #[x] w (fun e w'=>e= ah (MF z)∧Below w.heap.size w w'):=by
 obtain ⟨bA,BU,lA,EA,rfl⟩:=hx.agg;obtain ⟨hn,hbz⟩:=hx.nm;have NA:=zh hx;have hlen:=Nk z;have hok:=gW.dZ (n:=z.natAbs);obtain ⟨S,ES⟩:∃ S:ByteArray,Hid (S=⟨(Lib.itoa z).toArray⟩):=⟨_,zh rfl⟩;have hsz:S.size=(Lib.itoa z).length:=by rw [ES.out];simp [ByteArray.size]
 have hsb:(Lib.decDigits z.natAbs).length≤4294967297:=by
  have:=Gv z.natAbs;omega
 have HT:=zh (fun W (hb:Below w.heap.size w W)=>Ri _ z W (hx.later hb) hs);rw [← ES.out] at HT
 have hv:MF z=if (Lib.decDigits z.natAbs).length≤600 then aD #[O S,Z I 0] else aD #[O ⟨#[]⟩,Z I 6]:=by
  unfold MF;rw [ES.out]
  by_cases h:(Lib.decDigits z.natAbs).length≤600
  ·rw [if_pos h,if_pos (hok.2 h)];rfl
  ·rw [if_neg h,if_neg (fun h'=>h (hok.1 h'))]
 rw [hv];obtain ⟨n,En⟩:∃ n,(Lib.decDigits z.natAbs).length=n:=⟨_,rfl⟩;rw [En] at hlen hsb ⊢;rw [hlen] at hsz;have h0:Below w.heap.size w (w.alloc (.cells #[ay bA,aj BU lA EA] 144)):=aN;have hbx:=aC.new w #[ay bA,aj BU lA EA] 144;have oL:=zh hbx;have HH0:=zh h0
 by_cases hz:z<0
 ·have hbt:bA=true:=by rw [hbz,decide_eq_true hz]
  subst hbt;rw [if_pos hz] at hsz;clear hz hlen hok hn hbz hv En hs hx NA h0 hbx
  by_cases hbig:n≤600
  ·rw [if_pos hbig];have e1:¬ (600:Int)<(n:Int)+1 - 1:=by omega
   go_enter Tryz.func146,Tryz.ntmps146
   go_wp2_with fail
   refine (HT.out _ HH0.out).mono ?_;rintro e w1 ⟨rfl,hb⟩;have c0:=(oL.out.later hb).cell;go_wp2_with fail
   go_ret2
   exact ⟨rfl,Bt HH0.out hb⟩
  ·rw [if_neg hbig];have e1:(600:Int)<(n:Int)+1 - 1:=by omega
   go_enter Tryz.func146,Tryz.ntmps146
   go_wp2_with fail
   refine (HT.out _ HH0.out).mono ?_;rintro e w1 ⟨rfl,hb⟩;have c0:=(oL.out.later hb).cell;go_wp2_with fail
   go_ret2
   exact ⟨rfl,Bt HH0.out hb⟩
 ·have hbt:bA=false:=by rw [hbz,decide_eq_false hz]
  subst hbt;rw [if_neg hz,eO] at hsz;clear hz hlen hok hn hbz hv En hs hx NA h0 hbx
  by_cases hbig:n≤600
  ·rw [if_pos hbig];have e1:¬ (600:Int)<(n:Int):=by omega
   go_enter Tryz.func146,Tryz.ntmps146
   go_wp2_with fail
   refine (HT.out _ HH0.out).mono ?_;rintro e w1 ⟨rfl,hb⟩;have c0:=(oL.out.later hb).cell;go_wp2_with fail
   go_ret2
   exact ⟨rfl,Bt HH0.out hb⟩
  ·rw [if_neg hbig];have e1:(600:Int)<(n:Int):=by omega
   go_enter Tryz.func146,Tryz.ntmps146
   go_wp2_with fail
   refine (HT.out _ HH0.out).mono ?_;rintro e w1 ⟨rfl,hb⟩;have c0:=(oL.out.later hb).cell;go_wp2_with fail
   go_ret2
   exact ⟨rfl,Bt HH0.out hb⟩
end Go.Proofs.aV
namespace Go.Proofs.dQ
open Go Go.RowKit Go.SW Go.Num Go.Mem Go.Proofs Go.Dec Go.Proofs.aV Go.Fx
def Ra (w:World) (v:Value) (q:Rat):Prop:=∃ bn pn ln cn bd pd ld cd,v= au #[ay bn,aj pn ln cn,ay bd,aj pd ld cd]∧Pl w (au #[ay bn,aj pn ln cn]) q.num∧Pl w (au #[ay bd,aj pd ld cd]) q.den
theorem Ra.later {w w':World} {v:Value} {q:Rat} (h:Ra w v q) (hb:Below w.heap.size w w'):Ra w' v q:=by
 obtain ⟨bn,pn,ln,cn,bd,pd,ld,cd,e,h1,h2⟩:=h;exact ⟨bn,pn,ln,cn,bd,pd,ld,cd,e,h1.later hb,h2.later hb⟩
def BO (w:World) (q:Rat) (e:Ending) (w':World):Prop:=∃ v',e= ah v'∧Below w.heap.size w w'∧Ra w' v' q
theorem uV {n d:Int} (hd:0<d):((n:Rat) / (d:Rat)).num=n / (Nat.gcd n.natAbs d.natAbs:Int)∧(((n:Rat) / (d:Rat)).den:Int)=d / (Nat.gcd n.natAbs d.natAbs:Int):=by
 obtain ⟨k,rfl⟩:=Int.eq_ofNat_of_zero_le (Int.le_of_lt hd);have hk:0<k:=by omega
 have e:(n:Rat) / ((k:Int):Rat)=mkRat n k:=by
  rw [Rat.mkRat_eq_div];rfl
 have h:=gW.qo n hk;rw [e,Int.natAbs_natCast];refine ⟨?_,?_⟩
 ·rw [h.1,gW.xG (Nat.gcd_dvd_left _ _)]
 ·rw [h.2,Int.natCast_ediv]
theorem Pl.XC {w:World} {v:Value} {z:Int} (h:Pl w v z) {b:Nat} {cs:Array Value} {T':TypeId} (hx:aC w b cs T') (hT:3≠T') (u0 u1 u2 u3:Value) :
  Pl ((((w.setCell ⟨b,0,none⟩ u0).setCell ⟨b,1,none⟩ u1).setCell ⟨b,2,none⟩ u2).setCell ⟨b,3,none⟩ u3) v z :=
 (h.set2 hx hT 0 1 u0 u1).set2 ((hx.set 0 u0).set 1 u1) hT 2 3 u2 u3
theorem _root_.Go.Mem.Pl.keep {l:List TypeId} {w w':World} {v:Value} {z:Int} (h:Pl w v z) (k:Kept l w w') (hT:l.contains 3=false:=by kernel_rfl):Pl w' v z:=by
 obtain ⟨pa,n,ca,h1,h2⟩:=h;exact ⟨pa,n,ca,h1,Row.keep h2 k (MO hT)⟩
theorem Ra.keep {l:List TypeId} {w w':World} {v:Value} {q:Rat} (h:Ra w v q) (k:Kept l w w') (hT:l.contains 3=false:=by kernel_rfl):Ra w' v q:=by
 obtain ⟨bn,pn,ln,cn,bd,pd,ld,cd,e,h1,h2⟩:=h;exact ⟨bn,pn,ln,cn,bd,pd,ld,cd,e,h1.keep k hT,h2.keep k hT⟩
def ah4 (w:World) (z:Int) (e:Ending) (w':World):Prop:=∃ b pa l ca,e= ah (au #[ay b,aj pa l ca])∧Below w.heap.size w w'∧Pl w' (au #[ay b,aj pa l ca]) z
theorem Tq {w:World} {z:Int} {e:Ending} {w':World} (h:OI w z e w'):ah4 w z e w':=by
 obtain ⟨v,rfl,h,hv⟩:=h;obtain ⟨b,pa,l,ca,rfl⟩:=hv.agg;exact ⟨b,pa,l,ca,rfl,h,hv⟩
def YT (w:World) (x y:Int) (e:Ending) (w':World):Prop:=∃ b pa l ca b' pa' l' Pb,e= ah (aD #[au #[ay b,aj pa l ca],au #[ay b',aj pa' l' Pb]])∧Below w.heap.size w w'∧Pl w' (au #[ay b,aj pa l ca]) x∧Pl w' (au #[ay b',aj pa' l' Pb]) y
theorem Iq {w:World} {x y:Int} {e:Ending} {w':World} (h:yT w x y e w'):YT w x y e w':=by
 obtain ⟨v,u,rfl,h,hv,hu⟩:=h;obtain ⟨b,pa,l,ca,rfl⟩:=hv.agg;obtain ⟨b',pa',l',Pb,rfl⟩:=hu.agg;exact ⟨b,pa,l,ca,b',pa',l',Pb,rfl,h,hv,hu⟩
theorem GN (x y:Value) (n d:Int) (w:World) (hx:Pl w x n) (hy:Pl w y d) (ha:sz 10000 n.natAbs≤274877906944) (hb:sz 10000 d.natAbs≤274877906944) (hd:0<d) :
  Calls Tryz.prog 147 #[x,y] w (BO w ((n:Rat) / (d:Rat))):=by
 obtain ⟨e1,e2⟩:=uV (n:=n) hd;generalize (n:Rat) / (d:Rat)=q at *;obtain ⟨bA,BU,lA,EA,rfl⟩:=hx.agg;obtain ⟨bB,MC,lB,Ol,rfl⟩:=hy.agg;have hbf:bB=false:=by rw [hy.nm.2];simp;omega
 subst hbf;have hg0:0<Nat.gcd n.natAbs d.natAbs:=Nat.gcd_pos_of_pos_right _ zo;have hgd:Nat.gcd n.natAbs d.natAbs≤d.natAbs:=Nat.le_of_dvd zo (Nat.gcd_dvd_right _ _);have dn:((Nat.gcd n.natAbs d.natAbs:Nat):Int) ∣ n:=by rw [← Int.dvd_natAbs,Int.ofNat_dvd];exact Nat.gcd_dvd_left _ _
 have dd:((Nat.gcd n.natAbs d.natAbs:Nat):Int) ∣ d:=by rw [← Int.dvd_natAbs,Int.ofNat_dvd];exact Nat.gcd_dvd_right _ _
 have DV:=fun x y W h k=>(yX x y n d W h k ha hb).mono fun _ _ q=>Tq q;generalize Nat.gcd n.natAbs d.natAbs=g at *;have G0:0<(g:Int):=by omega
 have KG:sz 10000 (g:Int).natAbs≤274877906944:=aB (gZ zo (by simpa using hgd)) hb;have P1:=fun v u W h k=>(uH v u (n) g W h k ha KG G0 (.inr dn)).mono fun _ _ q=>Iq q;have P2:=fun v u W h k=>(uH v u (d) g W h k hb KG G0 (.inr dd)).mono fun _ _ q=>Iq q;rw [← e1] at P1;rw [← e2] at P2;refine Fx.door Tryz.func147 rfl (.nil w []) ?_;have B0:=Fx.Fa.nil w;refine Fx.new [] 2 #[ay bA,aj BU lA EA] 144 [] [] fun gV=>?_;refine Fx.new [] 3 #[ay false,aj MC lB Ol] 144 [] [] fun iD=>?_;refine Fx.bq [] 4 146 [] [] fun iL=>?_;refine Fx.j5 [4,2,3,4] 18 [] [] (fun W M=>DV _ _ _ (hx.later (B0.at M)) (hy.later (B0.at M))) ?_;rintro W w4 e M ⟨b3,p3,l3,c3,rfl,D4,Q3⟩;refine ⟨D4,fun M4=>?_⟩;have B4:=B0.next M4
 refine Fx.bq [] 5 144 [] [] fun rz=>?_;refine Fx.j5 [6,3,6] 22 [] [(3,#[ay b3,aj p3 l3 c3])] (fun W M=>P1 _ _ _ (hx.later (B4.at M)) (Q3.keep (M4.keep M))) ?_;rintro W w6 e M ⟨b4,p4,l4,c4,x4,y4,z4,u4,rfl,D6,Q4, -⟩;refine ⟨D6,fun M6=>?_⟩;replace Q3:=Q3.keep (M4.keep M6);have B6:=B4.next M6
 refine Fx.bq [] 6 144 [(23,au #[ay b4,aj p4 l4 c4]),(24,au #[ay x4,aj y4 z4 u4])] [] fun Aq=>?_;refine Fx.bq [] 7 144 [] [] fun Le=>?_;refine Fx.j5 [7,8,4,6] 28 [] [(4,#[ay b4,aj p4 l4 c4]),(5,#[ay x4,aj y4 z4 u4])] (fun W M=>P2 _ _ _ (hy.later (B6.at M)) (Q3.keep (M6.keep M))) ?_;rintro W w9 e M ⟨b5,p5,l5,c5,x5,y5,z5,u5,rfl,D9,Q5, -⟩;refine ⟨D9,fun M9=>?_⟩;replace Q4:=Q4.keep (M6.keep M9);have B9:=B6.next M9
 refine Fx.bq [] 8 144 [(29,au #[ay b5,aj p5 l5 c5]),(30,au #[ay x5,aj y5 z5 u5])] [] fun Ov=>?_;refine Fx.bq [] 9 144 [] [] fun Kk=>?_;exact Fx.iC (cs:=#[ay b4,aj p4 l4 c4,ay b5,aj p5 l5 c5]) 2 iL [9,10,7,9,5] [(2,#[ay b4,aj p4 l4 c4,ay b5,aj p5 l5 c5]),(6,#[ay b5,aj p5 l5 c5]),(7,#[ay x5,aj y5 z5 u5])] (fun W M=>by have HB:=(B9.at M);exact ⟨_,rfl,HB,_,_,_,_,_,_,_,_,rfl,(Q4.keep (M9.keep M)),(Q5.keep (M9.keep M))⟩)
theorem GQ (x y:Value) (n d:Int) (w:World) (hx:Pl w x n) (hy:Pl w y d) (ha:sz 10000 n.natAbs≤274877906944) (hb:sz 10000 d.natAbs≤274877906944) (hd:d<0) :
  Calls Tryz.prog 147 #[x,y] w (BO w ((n:Rat) / (d:Rat))):=by
 obtain ⟨e1,e2⟩:=uV (n:= -n) (d:= -d) zo;rw [show ((-n:Int):Rat) / ((-d:Int):Rat)=(n:Rat) / (d:Rat) by rw [Rat.intCast_neg,Rat.intCast_neg,Rat.div_def,Rat.div_def];grind,Int.natAbs_neg,Int.natAbs_neg] at e1 e2;generalize (n:Rat) / (d:Rat)=q at *;obtain ⟨bA,BU,lA,EA,rfl⟩:=hx.agg;obtain ⟨bB,MC,lB,Ol,rfl⟩:=hy.agg;have hbf:bB=true:=by rw [hy.nm.2];simp;omega
 subst hbf;have hg0:0<Nat.gcd n.natAbs d.natAbs:=Nat.gcd_pos_of_pos_right _ zo;have hgd:Nat.gcd n.natAbs d.natAbs≤d.natAbs:=Nat.le_of_dvd zo (Nat.gcd_dvd_right _ _);have dn:((Nat.gcd n.natAbs d.natAbs:Nat):Int) ∣ -n:=by rw [Int.dvd_neg];rw [← Int.dvd_natAbs,Int.ofNat_dvd];exact Nat.gcd_dvd_left _ _
 have dd:((Nat.gcd n.natAbs d.natAbs:Nat):Int) ∣ -d:=by rw [Int.dvd_neg];rw [← Int.dvd_natAbs,Int.ofNat_dvd];exact Nat.gcd_dvd_right _ _
 have ha2:sz 10000 (-n).natAbs≤274877906944:=by rw [Int.natAbs_neg];exact ha
 have hb2:sz 10000 (-d).natAbs≤274877906944:=by rw [Int.natAbs_neg];exact hb
 have DV:=fun x y W h k=>(yX x y (-n) (-d) W h k ha2 hb2).mono fun _ _ q=>Tq q;rw [Int.natAbs_neg,Int.natAbs_neg] at DV;have T:=fun z W v h=>(Rh v z W h).mono fun _ _ q=>Tq q;generalize Nat.gcd n.natAbs d.natAbs=g at *;have G0:0<(g:Int):=by omega
 have KG:sz 10000 (g:Int).natAbs≤274877906944:=aB (gZ zo (by simpa using hgd)) hb;have P1:=fun v u W h k=>(uH v u (-n) g W h k ha2 KG G0 (.inr dn)).mono fun _ _ q=>Iq q;have P2:=fun v u W h k=>(uH v u (-d) g W h k hb2 KG G0 (.inr dd)).mono fun _ _ q=>Iq q;rw [← e1] at P1;rw [← e2] at P2;refine Fx.door Tryz.func147 rfl (.nil w []) ?_;have B0:=Fx.Fa.nil w;refine Fx.new [] 2 #[ay bA,aj BU lA EA] 144 [] [] fun gV=>?_;refine Fx.new [] 3 #[ay true,aj MC lB Ol] 144 [] [] fun iD=>?_;refine Fx.bq [] 4 146 [] [] fun iL=>?_;refine Fx.draw [4,1] [0,2,1,3,4,5] [] [] [] ?_;refine Fx.j5 [3,4] 13 [(14,au #[ay true,aj MC lB Ol])] [] (fun W M=>T _ _ _ (hx.later (B0.at M))) ?_;rintro W w4 e M ⟨b1,p1,l1,c1,rfl,D4,Q1⟩;refine ⟨D4,fun M4=>?_⟩;have B4:=B0.next M4
 refine Fx.j5 [] 15 [] [] (fun W M=>T _ _ _ (hy.later (B4.at M))) ?_;rintro W w5 e M ⟨b2,p2,l2,c2,rfl,D5,Q2⟩;refine ⟨D5,fun M5=>?_⟩;replace Q1:=Q1.keep (M4.keep M5);have B5:=B4.next M5
 refine Fx.j5 [3,4,3,4] 18 [] [(0,#[ay b1,aj p1 l1 c1]),(1,#[ay b2,aj p2 l2 c2])] (fun W M=>DV _ _ _ (Q1.keep (M5.keep M)) (Q2.keep (M5.keep M))) ?_;rintro W w6 e M ⟨b3,p3,l3,c3,rfl,D6,Q3⟩;refine ⟨D6,fun M6=>?_⟩;replace Q1:=Q1.keep (M5.keep M6);replace Q2:=Q2.keep (M5.keep M6);have B6:=B5.next M6
 refine Fx.bq [] 5 144 [] [] fun Aq=>?_;refine Fx.j5 [6,3,6] 22 [] [(3,#[ay b3,aj p3 l3 c3])] (fun W M=>P1 _ _ _ (Q1.keep (M6.keep M)) (Q3.keep (M6.keep M))) ?_;rintro W w8 e M ⟨b4,p4,l4,c4,x4,y4,z4,u4,rfl,D8,Q4, -⟩;refine ⟨D8,fun M8=>?_⟩;replace Q2:=Q2.keep (M6.keep M8);replace Q3:=Q3.keep (M6.keep M8);have B8:=B6.next M8
 refine Fx.bq [] 6 144 [(23,au #[ay b4,aj p4 l4 c4]),(24,au #[ay x4,aj y4 z4 u4])] [] fun YI=>?_;refine Fx.bq [] 7 144 [] [] fun Ov=>?_;refine Fx.j5 [7,8,4,6] 28 [] [(4,#[ay b4,aj p4 l4 c4]),(5,#[ay x4,aj y4 z4 u4])] (fun W M=>P2 _ _ _ (Q2.keep (M8.keep M)) (Q3.keep (M8.keep M))) ?_;rintro W w11 e M ⟨b5,p5,l5,c5,x5,y5,z5,u5,rfl,D11,Q5, -⟩;refine ⟨D11,fun M11=>?_⟩;replace Q4:=Q4.keep (M8.keep M11);have B11:=B8.next M11
 refine Fx.bq [] 8 144 [(29,au #[ay b5,aj p5 l5 c5]),(30,au #[ay x5,aj y5 z5 u5])] [] fun Kj=>?_;refine Fx.bq [] 9 144 [] [] fun Gy=>?_;exact Fx.iC (cs:=#[ay b4,aj p4 l4 c4,ay b5,aj p5 l5 c5]) 2 iL [9,10,7,9,5] [(2,#[ay b4,aj p4 l4 c4,ay b5,aj p5 l5 c5]),(6,#[ay b5,aj p5 l5 c5]),(7,#[ay x5,aj y5 z5 u5])] (fun W M=>by have HB:=(B11.at M);exact ⟨_,rfl,HB,_,_,_,_,_,_,_,_,rfl,(Q4.keep (M11.keep M)),(Q5.keep (M11.keep M))⟩)
theorem KE (x y:Value) (n d:Int) (w:World) (hx:Pl w x n) (hy:Pl w y d) (ha:sz 10000 n.natAbs≤274877906944) (hb:sz 10000 d.natAbs≤274877906944) (hd:d≠0) :
  Calls Tryz.prog 147 #[x,y] w (BO w ((n:Rat) / (d:Rat))):=by
 by_cases h:0<d
 ·exact GN x y n d w hx hy ha hb h
 ·exact GQ x y n d w hx hy ha hb zo
end Go.Proofs.dQ
namespace Go.Proofs.dQ
open Go Go.RowKit Go.SW Go.Num Go.Mem Go.Proofs Go.Dec Go.Proofs.aV Go.gW
theorem xR (z:Int):∃ (s:ByteArray) (k:Int),MF z= aD #[O s,Z I k]∧((kg z.natAbs=true∧k=0∧s=⟨(Lib.itoa z).toArray⟩)∨(kg z.natAbs=false∧k=6)):=by
 unfold MF
 by_cases h:kg z.natAbs=true
 ·rw [if_pos h];exact ⟨_,_,rfl,.inl ⟨h,rfl,rfl⟩⟩
 ·rw [if_neg h];exact ⟨_,_,rfl,.inr ⟨by simpa using h,rfl⟩⟩
def OY (w:World) (x:Fr × Int) (e:Ending) (w':World):Prop:=e= ah (Fr.res x)∧Below w.heap.size w w'
theorem BQ (x:Value) (q:Rat) (w:World) (hx:Ra w x q) (h1:sz 10000 q.num.natAbs≤1073741824) (h2:sz 10000 q.den≤1073741824) :
  Calls Tryz.prog 100 #[x] w (OY w (wr q)):=by
 obtain ⟨bn,pn,ln,cn,bd,pd,ld,cd,rfl,NN,ND⟩:=hx;obtain ⟨s1,k1,e1,c1⟩:=xR q.num;obtain ⟨s2,k2,e2,c2⟩:=xR (q.den:Int);have H1:=zh (fun W (hb:Below w.heap.size w W)=>aV.BQ _ q.num W (NN.later hb) h1);have H2:=zh (fun W (hb:Below w.heap.size w W)=>aV.BQ _ (q.den:Int) W (ND.later hb) (by simpa using h2));rw [e1] at H1;rw [e2] at H2
 have hw:wr q=if k1=0∧k2=0 then (⟨s1,s2⟩,0) else (Fr.no,6):=by
  unfold wr zF;rw [Int.natAbs_natCast] at c2
  rcases c1 with ⟨a1,a2,a3⟩|⟨a1,a2⟩<;>rcases c2 with ⟨b1,b2,b3⟩|⟨b1,b2⟩<;>subst a2<;>subst b2<;>rw [a1,b1]
  ·subst a3;subst b3;rfl
  ·rfl
  ·rfl
  ·rfl
 rw [hw];have d1:k1=0∨k1=6:=c1.elim (fun h=>.inl h.2.1) (fun h=>.inr h.2);have d2:k2=0∨k2=6:=c2.elim (fun h=>.inl h.2.1) (fun h=>.inr h.2);clear hw e1 e2 c1 c2 h1 h2 NN ND
 rcases d1 with rfl|rfl<;>rcases d2 with rfl|rfl
 ·rw [if_pos ⟨rfl,rfl⟩];go_enter Tryz.func100,Tryz.ntmps100
  go_wp2_with fail
  obtain ⟨Te,EW,hz,X1,X2⟩:=Sz w #[ay bn,aj pn ln cn,ay bd,aj pd ld cd] 146 #[O ⟨#[]⟩,O ⟨#[]⟩] 29;rw [EW];have hk2:=Bt (Below.refl _ _) hz;clear EW hz;refine (H1.out _ hk2).mono ?_;rintro e Co ⟨rfl,hb3⟩;replace X1:=X1.bl hb3;replace X2:=X2.bl hb3;have hk5:=Bt hk2 hb3;clear hk2;clear hb3;obtain ⟨zq,zm,Fg⟩:=X1.clf;go_wp2_with fail
  clear zq zm Fg;refine (H2.out _ hk5).mono ?_;rintro e Xw ⟨rfl,hb6⟩;replace X1:=X1.bl hb6;replace X2:=X2.bl hb6;have TU:=Bt hk5 hb6;clear hk5;clear hb6;obtain ⟨Ld,Lb,Wh⟩:=X2.clf;have hres:=X2.out;have Oe:=hres.cell;have NI:=hres.free;go_wp2_with fail
  refine aY rfl rfl bf Tryz.underlying29 rfl zk ?_;exact ⟨rfl,aN⟩
 ·rw [if_neg zo];go_enter Tryz.func100,Tryz.ntmps100
  go_wp2_with fail
  obtain ⟨Te,EW,hz,X1,X2⟩:=Sz w #[ay bn,aj pn ln cn,ay bd,aj pd ld cd] 146 #[O ⟨#[]⟩,O ⟨#[]⟩] 29;rw [EW];have hk2:=Bt (Below.refl _ _) hz;clear EW hz;refine (H1.out _ hk2).mono ?_;rintro e Co ⟨rfl,hb3⟩;replace X1:=X1.bl hb3;replace X2:=X2.bl hb3;have hk5:=Bt hk2 hb3;clear hk2;clear hb3;obtain ⟨zq,zm,Fg⟩:=X1.clf;go_wp2_with fail
  clear zq zm Fg;refine (H2.out _ hk5).mono ?_;rintro e Xw ⟨rfl,hb6⟩;replace X1:=X1.bl hb6;replace X2:=X2.bl hb6;have TU:=Bt hk5 hb6;clear hk5;clear hb6;obtain ⟨Ld,Lb,Wh⟩:=X2.clf;have hres:=X2.out;have Oe:=hres.cell;have NI:=hres.free;go_wp2_with fail
  refine aY rfl rfl bf Tryz.underlying29 rfl zk ?_;exact ⟨rfl,aN⟩
 ·rw [if_neg zo];go_enter Tryz.func100,Tryz.ntmps100
  go_wp2_with fail
  obtain ⟨Te,EW,hz,X1,X2⟩:=Sz w #[ay bn,aj pn ln cn,ay bd,aj pd ld cd] 146 #[O ⟨#[]⟩,O ⟨#[]⟩] 29;rw [EW];have hk2:=Bt (Below.refl _ _) hz;clear EW hz;refine (H1.out _ hk2).mono ?_;rintro e Co ⟨rfl,hb3⟩;replace X1:=X1.bl hb3;replace X2:=X2.bl hb3;have hk5:=Bt hk2 hb3;clear hk2;clear hb3;obtain ⟨zq,zm,Fg⟩:=X1.clf;go_wp2_with fail
  clear zq zm Fg;refine (H2.out _ hk5).mono ?_;rintro e Xw ⟨rfl,hb6⟩;replace X1:=X1.bl hb6;replace X2:=X2.bl hb6;have TU:=Bt hk5 hb6;clear hk5;clear hb6;obtain ⟨Ld,Lb,Wh⟩:=X2.clf;have hres:=X2.out;have Oe:=hres.cell;have NI:=hres.free;go_wp2_with fail
  refine aY rfl rfl bf Tryz.underlying29 rfl zk ?_;exact ⟨rfl,aN⟩
 ·rw [if_neg zo];go_enter Tryz.func100,Tryz.ntmps100
  go_wp2_with fail
  obtain ⟨Te,EW,hz,X1,X2⟩:=Sz w #[ay bn,aj pn ln cn,ay bd,aj pd ld cd] 146 #[O ⟨#[]⟩,O ⟨#[]⟩] 29;rw [EW];have hk2:=Bt (Below.refl _ _) hz;clear EW hz;refine (H1.out _ hk2).mono ?_;rintro e Co ⟨rfl,hb3⟩;replace X1:=X1.bl hb3;replace X2:=X2.bl hb3;have hk5:=Bt hk2 hb3;clear hk2;clear hb3;obtain ⟨zq,zm,Fg⟩:=X1.clf;go_wp2_with fail
  clear zq zm Fg;refine (H2.out _ hk5).mono ?_;rintro e Xw ⟨rfl,hb6⟩;replace X1:=X1.bl hb6;replace X2:=X2.bl hb6;have TU:=Bt hk5 hb6;clear hk5;clear hb6;obtain ⟨Ld,Lb,Wh⟩:=X2.clf;have hres:=X2.out;have Oe:=hres.cell;have NI:=hres.free;go_wp2_with fail
  refine aY rfl rfl bf Tryz.underlying29 rfl zk ?_;exact ⟨rfl,aN⟩
theorem M0 {n d:Int} (hd:d≠0):((n:Rat) / (d:Rat)).num.natAbs≤n.natAbs∧((n:Rat) / (d:Rat)).den≤d.natAbs:=by
 have key:∀ n d:Int,0<d→((n:Rat) / (d:Rat)).num.natAbs≤n.natAbs∧((n:Rat) / (d:Rat)).den≤d.natAbs:=fun n d hd=>by
  obtain ⟨e1,e2⟩:=uV (n:=n) hd;have g1:=Nat.gcd_dvd_left n.natAbs d.natAbs;have g2:=Nat.gcd_dvd_right n.natAbs d.natAbs;have g0:0<Nat.gcd n.natAbs d.natAbs:=Nat.gcd_pos_of_pos_right _ zo;generalize Nat.gcd n.natAbs d.natAbs=g at *;generalize ((n:Rat) / (d:Rat))=q at *;obtain ⟨a,ha⟩:=g1;obtain ⟨b,hb⟩:=g2
  have h1:n=(g:Int)*(if 0≤n then (a:Int) else -(a:Int)):=by
   have:=congrArg (fun x:Nat=>(x:Int)) ha;simp only [Int.natCast_mul] at this;split
   ·omega
   ·rw [Int.mul_neg];omega
  have h2:d=(g:Int)*(b:Int):=by
   have:=congrArg (fun x:Nat=>(x:Int)) hb;simp only [Int.natCast_mul] at this;omega
  have h3:n / (g:Int)=(if 0≤n then (a:Int) else -(a:Int)):=by
   conv=>lhs;rw [h1]
   exact Int.mul_ediv_cancel_left _ zo
  have h4:d / (g:Int)=(b:Int):=by
   rw [h2];exact Int.mul_ediv_cancel_left _ zo
  rw [h3] at e1;rw [h4] at e2;have k1:a≤g*a:=Nat.le_mul_of_pos_left _ g0;have k2:b≤g*b:=Nat.le_mul_of_pos_left _ g0;refine ⟨?_,?_⟩
  ·rw [e1,ha];split<;>simp<;>exact k1
  ·rw [hb];have:q.den=b:=by exact_mod_cast e2
   omega
 by_cases h:0<d
 ·exact key n d h
 ·have:=key (-n) (-d) zo;rw [show ((-n:Int):Rat) / ((-d:Int):Rat)=(n:Rat) / (d:Rat) by rw [Rat.intCast_neg,Rat.intCast_neg,Rat.div_def,Rat.div_def];grind,Int.natAbs_neg,Int.natAbs_neg] at this;exact this
theorem AU {n:Int} (h1: -9223372036854775808≤n) (h2:n≤9223372036854775807):sz 10000 n.natAbs≤5 :=
 bY zo 5 _ zo
theorem OE (n d:Int) (h1: -9223372036854775808≤n) (h2:n≤9223372036854775807) (h3: -9223372036854775808≤d) (h4:d≤9223372036854775807) (hd:d≠0) (w:World) :
  Calls Tryz.prog 101 #[Z I n,Z I d] w (BO w ((n:Rat) / (d:Rat))):=by
 have H1:=zh (fun W=>yV n W h1 h2);have H2:=zh (fun W=>yV d W h3 h4);have H3:=zh (fun x y W hx hy=>KE x y n d W hx hy (aB (AU h1 h2) zo) (aB (AU h3 h4) zo) hd);generalize (n:Rat) / (d:Rat)=q at *;clear h1 h2 h3 h4 hd;go_enter Tryz.func101,Tryz.ntmps101
 go_wp2_with fail
 obtain ⟨Te,EW,hz,X1⟩:=EP w #[ay false,aj none 0 0,ay false,aj none 0 0] 146;rw [EW];have hk2:=Bt (Below.refl _ _) hz;clear EW hz;refine (H1.out _).mono ?_;rintro e Co ⟨v,rfl,hb3,hv4⟩;obtain ⟨bA,BU,lA,EA,rfl⟩:=hv4.agg;replace X1:=X1.bl hb3;have hk5:=Bt hk2 hb3;clear hk2;have NA:=zh hv4;clear hb3 hv4;go_wp2_with fail
 refine (H2.out _).mono ?_;rintro e Xw ⟨v,rfl,hb6,hv7⟩;obtain ⟨bB,MC,lB,Ol,rfl⟩:=hv7.agg;replace X1:=X1.bl hb6;replace NA:=zh (NA.out.later hb6);have TU:=Bt hk5 hb6;clear hk5;have NB:=zh hv7;clear hb6 hv7;go_wp2_with fail
 refine (H3.out _ _ _ NA.out NB.out).mono ?_;rintro e wc9 ⟨_,rfl,zn,bn,pn,ln,cn,bd,pd,ld,cd,rfl,hn,hd⟩;replace X1:=X1.bl zn;replace NA:=zh (NA.out.later zn);replace NB:=zh (NB.out.later zn);have ar3:=Bt TU zn;clear TU;have NX:=zh hn;have NY:=zh hd;clear zn hd hn;obtain ⟨zq,zm,Fg⟩:=X1.clf;have hres:=X1.out;have Oe:=hres.cell;have NI:=hres.free;go_wp2_with fail
 refine iT rfl rfl bf Tryz.underlying146 rfl zk ?_;have hx:=Pl.XC NX.out hres zd (ay bn) (aj pn ln cn) (ay bd) (aj pd ld cd);have hy:=Pl.XC NY.out hres zd (ay bn) (aj pn ln cn) (ay bd) (aj pd ld cd);exact ⟨_,rfl,aN,_,_,_,_,_,_,_,_,rfl,hx,hy⟩
end Go.Proofs.dQ
namespace Go.gW
open Go Go.Num Go.Proofs
def Hq (k:Nat) (q:Rat):Prop:=∃ n d:Int,0<d∧d.natAbs≤jN k∧n.natAbs≤jN k∧q=(n:Rat) / (d:Rat)
theorem sJ (a b:Nat):jN (a+b)=jN a*jN b:=d9 _ _ _
theorem Jr {a b:Nat} (h:a≤b):jN a≤jN b:=bE zo h
theorem Pz {a b:Nat} (h:a<b):jN a<jN b:=Nat.pow_lt_pow_right zo h
theorem Hq.mono {a b:Nat} {q:Rat} (h:Hq a q) (k:a≤b):Hq b q:=by
 obtain ⟨n,d,h1,h2,h3,h4⟩:=h;have:=Jr k;exact ⟨n,d,h1,by omega,by omega,h4⟩
theorem Hq.ok {a:Nat} {q:Rat} (h:Hq a q) (k:a<600):zF q=true:=by
 obtain ⟨n,d,h1,h2,h3,rfl⟩:=h;obtain ⟨l1,l2⟩:=dQ.M0 (n:=n) (d:=d) zo;have:=Pz k;unfold zF kg;generalize jN 600=X at *;rw [aF];exact ⟨decide_eq_true zo,decide_eq_true zo⟩
theorem uy {d:Int} (h:0<d):(d:Rat)≠0:=fun e=>by
 have:d=0:=by exact_mod_cast e
 omega
theorem Hq.mul {a b:Nat} {p q:Rat} (h:Hq a p) (k:Hq b q):Hq (a+b) (p*q):=by
 obtain ⟨n,d,h1,h2,h3,rfl⟩:=h;obtain ⟨n',d',k1,k2,k3,rfl⟩:=k;refine ⟨n*n',d*d',Int.mul_pos h1 k1,?_,?_,?_⟩
 ·rw [sJ,Int.natAbs_mul];exact dJ h2 k2
 ·rw [sJ,Int.natAbs_mul];exact dJ h3 k3
 ·have e1:=uy h1;have e2:=uy k1;rw [Rat.intCast_mul,Rat.intCast_mul]
  grind
theorem Hq.add {a b:Nat} {p q:Rat} (h:Hq a p) (k:Hq b q):Hq (a+b+1) (p+q):=by
 obtain ⟨n,d,h1,h2,h3,rfl⟩:=h;obtain ⟨n',d',k1,k2,k3,rfl⟩:=k;have t:jN (a+b+1)=10*(jN a*jN b):=by rw [sJ,sJ];show _*10=_;omega
 refine ⟨n*d'+n'*d,d*d',Int.mul_pos h1 k1,?_,?_,?_⟩
 ·have:=dJ h2 k2;rw [t,Int.natAbs_mul];omega
 ·have x1:=dJ h3 k2;have x2:=dJ k3 h2;rw [aJ (jN b)] at x2;have x3:=Int.natAbs_add_le (n*d') (n'*d);rw [Int.natAbs_mul,Int.natAbs_mul] at x3;rw [t];omega
 ·have e1:=uy h1;have e2:=uy k1;rw [Rat.intCast_add,Rat.intCast_mul,Rat.intCast_mul,Rat.intCast_mul]
  grind
theorem Hq.neg {a:Nat} {p:Rat} (h:Hq a p):Hq a (-p):=by
 obtain ⟨n,d,h1,h2,h3,rfl⟩:=h;exact ⟨-n,d,h1,h2,by rw [Int.natAbs_neg];exact h3,by rw [Rat.intCast_neg];grind⟩
theorem Hq.sub {a b:Nat} {p q:Rat} (h:Hq a p) (k:Hq b q):Hq (a+b+1) (p - q):=by
 rw [Rat.sub_eq_add_neg];exact h.add k.neg
theorem Hq.zero:Hq 0 0:=⟨0,1,by omega,by decide,by decide,by decide+kernel⟩
theorem Hq.one:Hq 0 1:=⟨1,1,by omega,by decide,by decide,by decide+kernel⟩
end Go.gW
