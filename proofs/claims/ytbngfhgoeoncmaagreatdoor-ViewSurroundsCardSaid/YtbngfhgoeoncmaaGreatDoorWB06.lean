/- Lemmas for the proof. No condition. -/
import Derived.Test.YtbngfhgoeoncmaaGreatDoorWB02
import Derived.Test.YtbngfhgoeoncmaaGreatDoorWB03
import Derived.WalkMore
import Derived.Lib.Strings
import Derived.Lib.Slices
import Derived.Lib.Walk
import Derived.Deep.QuietTactic
import Derived.BigQuiet
import Derived.WalkSmall
import Derived.Deep.DeepCutAuto
import Derived.Deep.CutBlock
import Derived.Laws.CopyOwn
set_option linter.unusedVariables false
set_option linter.unusedSimpArgs false
set_option maxRecDepth 100000
set_option maxHeartbeats 16000000
open Bool renaming eq_iff_iff → iZ
open Go.Ending renaming returned → aj
open Go.IntKind renaming i64 → I
open Go.Value renaming agg → aB, bool → ak, int → Z, slice → ah, string → O, tuple → aD
open List renaming all_eq_true → dI, getElem_mem → dx
open Nat renaming le_refl → aC, lt_or_ge → aH, mul_le_mul → fq
namespace Go.Proofs.whole
open Go Go.RowKit Go.SW Go.Num Go.Mem Go.Proofs
theorem _root_.Go.zs1 {G:Prop} (h:G:=by
 go_enter zq1,zq2
 go_wp2
 go_loop [0] (fun v=>∃ k:Nat,k≤l.length∧trimLen l k=trimLen l l.length∧v= .slice (some ⟨b,off,none⟩) k c) (fun v=>match v with| .slice _ k _=>k| _=>0)
 case atStart=>exact ⟨l.length,Nat.le_refl _,rfl,rfl⟩
 case round =>
  obtain ⟨k,hk,ht,rfl⟩:=hrel;have HT:=zh ht;clear ht
  rcases Nat.eq_zero_or_pos k with h0|h0
  ·subst h0
   go_wp2
   go_ret
   exact ⟨by rw [← HT.out];rfl,rfl⟩
  ·obtain ⟨j,rfl⟩:∃ j,k=j+1:=⟨k - 1,by omega⟩;have hcj:=hc j zo;have HS:Hid (trimLen l (j+1)=if l.getD j 0=0 then trimLen l j else j+1):=rfl;generalize l.getD j 0=d at hcj HS;clear hc
   rcases Nat.eq_zero_or_pos d with hd|hd
   ·subst hd
    go_wp2
    go_round
    case rel=>exact ⟨j,by omega,by rw [← HT.out,HS.out];rfl,rfl⟩
    case measure=>exact Nat.lt_succ_self _
   ·have hz:((d:Int) == 0)=false:=by simp;omega
    go_wp2
    go_ret
    exact ⟨by rw [← HT.out,HS.out,if_neg zo];rfl,rfl⟩):G:=h
theorem AY (b off c:Nat) (l:List Nat) (w:World) (hl:l.length≤c) (hm:c≤9223372036854775807)
   (hc:∀ k,k<l.length→w.cell? ⟨b,off+k,none⟩=some (.int .u32 (l.getD k 0:Nat))) :
    Calls Tryz.prog 248 #[ah (some ⟨b,off,none⟩) l.length c] w fun e w'=>e= aj (ah (some ⟨b,off,none⟩) (trimLen l l.length) c)∧w=w':=zs1
theorem Dx (w:World):Calls Tryz.prog 248 #[ah none 0 0] w fun e w'=>e= aj (ah none 0 0)∧w=w':=by
 go_enter Tryz.func248,Tryz.ntmps248
 go_wp2
 refine wp_loop_rounds 1 ?_;rw [rounds_succ]
 go_wp2
 go_ret
 exact ⟨rfl,rfl⟩
theorem _root_.Go.zs2 {G:Prop} (h:G:=by
 rcases nR.cases h with ⟨rfl,rfl⟩|⟨b,off,cap,rfl,h1,h2,h3,⟨arr,h4⟩,h5⟩
 ·refine (Dx w).mono ?_;rintro e w' ⟨rfl,rfl⟩;exact ⟨_,rfl,rfl,by rw [show val 1000000000 ([]:List Nat)=0 from rfl];unfold aZ;rw [iA];exact Row.nil _ _⟩
 ·refine (AY b off cap l w h1 h2 h5).mono ?_;rintro e w' ⟨rfl,rfl⟩;refine ⟨_,rfl,rfl,?_⟩;have ht:=trimLen_le l l.length;have e:val 1000000000 l=val 1000000000 (l.take (trimLen l l.length)):=by rw [zw _ _ _ (Nat.le_refl _)];simp
  rw [e];refine aZ.OO ?_ (hd.take _) (zx l _ (Nat.le_refl _));refine Row.mk (arr:=arr) (by rw [fI];simp;omega) (by rw [fI];simp;omega) h2 h4 fun i hi=>?_;rw [fI] at hi;have hi2:i<l.length:=by simp at hi;omega
  have:=h5 i hi2;rw [h4.cell] at this;rw [this];simp [dX,hi2]):G:=h
theorem qb (v:Value) (l:List Nat) (w:World) (h:nR w v l) (hd:fV 1000000000 l) :
  Calls Tryz.prog 248 #[v] w fun e w'=>∃ v',e= aj v'∧w=w'∧aZ w v' (val 1000000000 l):=zs2
end Go.Proofs.whole
namespace Go.Proofs.whole
open Go Go.RowKit Go.SW Go.Num Go.Mem Go.Proofs Go.Dec
theorem Wd:(Tryz.prog.info? 22).map (fun i=>(i.zero,i.size,i.bytes))=some (some (.int .u32 0),1,4):=by kernel_rfl
theorem _root_.Go.zs3 {G:Prop} (h:G:=by
 obtain ⟨i0,hi,hz0,hz1,hz2⟩:=info_parts Wd;generalize hbs:s.data.toList=bs at *;have hn:bs.length=s.size:=by rw [← hbs];rfl
 have RL:=zh hbs;have HN:=zh hn;clear hbs hn;go_enter zq3,zq4
 go_wp2_with fail
 go_step3
 go_wp2_with fail
 go_step3
 go_wp2_with fail
 go_loopw [3,4] (fun mv ev wr=>∃ (e:Nat) (ls:List Nat),ev= .int .i64 (e:Int)∧Hid (e+9*ls.length=s.size)∧fV 1000000000 ls∧Hid (val 1000000000 ls=num (bs.drop e))∧wr.ownsRow w.heap.size 22 1 mv ls.length (dX ls)∧Bw w wr) (fun _ ev _=>(intOf ev).toNat)
 case atStart=>exact ⟨s.size,[],rfl,zh zi,fV.nil,zh (by rw [← HN.out,List.drop_length];simp [val,num]),World.ownsRow_nil _ _ _ _,Below.refl _ _⟩
 case round =>
  obtain ⟨e,ls,rfl,HE,hdl,HV,hown,hbr⟩:=hrel;have he:e≤s.size:=by have:=HE.out;omega
  rcases Nat.lt_or_ge e 9 with h9|h9
  ·skip
   have hmx:(e:Int) - 9<0:=by omega
   have bi2:max ((e:Int) - 9) 0=0:=by omega
   have hgl:=FP hd (st:=0) (i:=e) zo;go_wp2_with fail
   go_loopw [6,7] (fun v6 v7 wi=>∃ i:Nat,v7= .int .i64 (i:Int)∧0≤i∧i≤e∧Hid (v6= .int .u32 (num ((bs.take i).drop (0)):Nat))∧wr=wi) (fun _ v7 _=>e - (intOf v7).toNat)
   case atStart=>exact ⟨0,rfl,Nat.le_refl _,by omega,zh (by rw [List.drop_eq_nil_of_le (by rw [List.length_take];omega)];rfl),rfl⟩
   case round =>
    obtain ⟨i,rfl,hi1,hi2,H6,rfl⟩:=hrel;have e6:=H6.out;subst e6
    rcases Nat.lt_or_ge i e with hie|hie
    ·have his:i<s.size:=by omega
     have hx:bs[i]? =some s[i]:=by rw [← RL.out,Array.getElem?_toList];exact Array.getElem?_eq_getElem his
     have HS:=zh (Cc hd hi1 zo hx);go_wp2_with fail
     exact ⟨⟨i+1,rfl,by omega,by omega,zh (by simp only [List.drop_zero] at HS ⊢;rw [HS.out]),trivial⟩,by simp only [intOf];omega⟩
    ·have hie:i=e:=by omega
     subst hie;have HG:=zh (qA (bs:=bs) (s:=0) (e:=i) zo (by have:=HN.out;omega));have hlen:bs.length - i=9*ls.length:=by have:=HE.out;have:=HN.out;omega
     rw [hlen,Nat.pow_mul,← HV.out] at HG;generalize num ((bs.take i).drop (0))=gv at *;clear H6;go_wp2_with (at_builtin;refine wpList_append_own _ rfl (.tmp 29) (.tmp 31) K6 rfl w.heap.size 22 i0 (.int .u32 0) 1 4 Lb hi hz0 hz1 hz2 rfl zd _ _ _ rfl (hown.alloc _) ⟨wr.heap.size,0,none⟩ 1 1 [.int .u32 (gv:Int)] rfl rfl (by intro t u ht;match t,ht with|0,ht=>simp at ht;subst ht;simp [Addr.add]) (by intro u hu;simp at hu;subst hu;rfl) (by unfold maxLen;have:=HE.out;omega) (by have:=HE.out;omega) (by have:=hbr.size;simp;omega) ?_)
     intro v' w1 hown1 hgrow1 _
     have hown2:w1.ownsRow w.heap.size 22 1 v' (ls++[gv]).length (dX (ls++[gv])):=by
      have e:dX (ls++[gv])=dX ls++[.int .u32 (gv:Int)]:=by unfold dX;simp only [List.map_append,List.map_cons,List.map_nil]
      rw [e,List.length_append];exact hown1
     have hb3:Bw w w1:=(hbr.alloc hbr.size _).grown hgrow1 (by simp;have:=hbr.size;omega) (fun k hk=>(hown.lt k hk).1)
     have Ci:Hid (val 1000000000 (ls++[gv])=num (bs.drop (0))):=by
      unfold Hid;rw [jy,HG.out,Nat.add_comm,Nat.mul_comm]
     clear hown hown1 hgrow1;have ZP:fV 1000000000 (ls++[gv]):=hdl.snoc hgl;go_wp2_with ((first|go_at_call 248|go_at_call 161|go_at_call 212);refine (qb _ _ _ (Row.gP hown2) ZP).mono ?_;rintro e w' ⟨v,rfl,rfl,hv⟩;have HM:=zh hv;clear hv)
     rw [Ci.out,List.drop_zero] at HM;rw [Exit.noGoto_ret];go_ret
     exact ⟨_,rfl,hb3,HM.out⟩
  ·skip
   obtain ⟨f,rfl⟩:∃ f,e=f+9:=⟨e - 9,by omega⟩;have hgl:=FP hd (st:=f) (i:=f+9) zo;go_wp2_with fail
   go_loopw [6,7] (fun v6 v7 wi=>∃ i:Nat,v7= .int .i64 (i:Int)∧f≤i∧i≤f+9∧Hid (v6= .int .u32 (num ((bs.take i).drop (f)):Nat))∧wr=wi) (fun _ v7 _=>f+9 - (intOf v7).toNat)
   case atStart=>exact ⟨f,rfl,Nat.le_refl _,by omega,zh (by rw [List.drop_eq_nil_of_le (by rw [List.length_take];omega)];rfl),rfl⟩
   case round =>
    obtain ⟨i,rfl,hi1,hi2,H6,rfl⟩:=hrel;have e6:=H6.out;subst e6
    rcases Nat.lt_or_ge i (f+9) with hie|hie
    ·have his:i<s.size:=by omega
     have hx:bs[i]? =some s[i]:=by rw [← RL.out,Array.getElem?_toList];exact Array.getElem?_eq_getElem his
     have HS:=zh (Cc hd hi1 zo hx);go_wp2_with fail
     exact ⟨⟨i+1,rfl,by omega,by omega,zh (by rw [HS.out]),trivial⟩,by simp only [intOf];omega⟩
    ·obtain rfl:i=f+9:=by omega
     have HG:=zh (qA (bs:=bs) (s:=f) (e:=f+9) zo (by have:=HN.out;omega));have hlen:bs.length - (f+9)=9*ls.length:=by have:=HE.out;have:=HN.out;omega
     rw [hlen,Nat.pow_mul,← HV.out] at HG;generalize num ((bs.take (f+9)).drop f)=gv at *;clear H6;go_wp2_with (at_builtin;refine wpList_append_own _ rfl (.tmp 29) (.tmp 31) K6 rfl w.heap.size 22 i0 (.int .u32 0) 1 4 Lb hi hz0 hz1 hz2 rfl zd _ _ _ rfl (hown.alloc _) ⟨wr.heap.size,0,none⟩ 1 1 [.int .u32 (gv:Int)] rfl rfl (by intro t u ht;match t,ht with|0,ht=>simp at ht;subst ht;simp [Addr.add]) (by intro u hu;simp at hu;subst hu;rfl) (by unfold maxLen;have:=HE.out;omega) (by have:=HE.out;omega) (by have:=hbr.size;simp;omega) ?_)
     intro v' w1 hown1 hgrow1 _
     have hown2:w1.ownsRow w.heap.size 22 1 v' (ls++[gv]).length (dX (ls++[gv])):=by
      have e:dX (ls++[gv])=dX ls++[.int .u32 (gv:Int)]:=by unfold dX;simp only [List.map_append,List.map_cons,List.map_nil]
      rw [e,List.length_append];exact hown1
     have hb3:Bw w w1:=(hbr.alloc hbr.size _).grown hgrow1 (by simp;have:=hbr.size;omega) (fun k hk=>(hown.lt k hk).1)
     have Ci:Hid (val 1000000000 (ls++[gv])=num (bs.drop (f))):=by
      unfold Hid;rw [jy,HG.out,Nat.add_comm,Nat.mul_comm]
     clear hown hown1 hgrow1;have ZP:fV 1000000000 (ls++[gv]):=hdl.snoc hgl
     rcases Nat.eq_zero_or_pos f with hf|hf
     ·subst hf;rw [List.drop_zero] at Ci;go_wp2_with ((first|go_at_call 248|go_at_call 161|go_at_call 212);refine (qb _ _ _ (Row.gP hown2) ZP).mono ?_;rintro e w' ⟨v,rfl,rfl,hv⟩;have HM:=zh hv;clear hv)
      rw [Ci.out] at HM;rw [Exit.noGoto_ret];go_ret
      exact ⟨_,rfl,hb3,HM.out⟩
     ·have hf0:((f:Int) == 0)=false:=by simp;omega
      go_wp2_with fail
      refine ⟨⟨f,ls++[gv],rfl,zh ?_,ZP,Ci,hown2,hb3⟩,?_⟩
      ·have:=HE.out;rw [List.length_append,List.length_singleton];omega
      ·simp only [intOf];omega):G:=h
theorem tN (s:ByteArray) (hs:s.size≤1099511627776) (hd:rA s.data.toList) (w:World) :
  Calls Tryz.prog 232 #[O s] w (fun e w'=>∃ v,e= aj v∧Bw w w'∧aZ w' v (num s.data.toList)):=zs3
theorem Hf (s p:ByteArray) (w:World) :
  Calls Tryz.prog 221 #[O s,O p] w fun e w'=>e= aj (aD #[O ⟨(Lib.trimPrefix s.data.toList p.data.toList).toArray⟩,ak (Lib.hasPrefix s.data.toList p.data.toList)])∧w'=w:=by
 go_enter Tryz.func221,Tryz.ntmps221
 go_wp2
 ·have h2:(!((s.extract 0 p.size).toList == p.toList))=true:=by assumption
  have h3:(decide (p.size≤s.size)&&((s.extract 0 p.size).toList == p.toList))=false:=by
   have:((s.extract 0 p.size).toList == p.toList)=false:=by simpa using h2
   rw [this];simp
  go_ret2
  refine ⟨?_,rfl⟩;rw [Lib.trimPrefix_miss s p h3,← Lib.hasPrefix_raw,h3];rfl
 ·have h1:p.size≤s.size:=by assumption
  have h2:(!((s.extract 0 p.size).toList == p.toList))=false:=by assumption
  have h2':((s.extract 0 p.size).toList == p.toList)=true:=by simpa using h2
  go_ret2
  refine ⟨?_,rfl⟩;rw [Lib.trimPrefix_hit s p h1 h2',← Lib.hasPrefix_raw,h2',decide_eq_true h1];rfl
 ·have h1:¬ p.size≤s.size:=by assumption
  have h3:(decide (p.size≤s.size)&&((s.extract 0 p.size).toList == p.toList))=false:=by simp [h1]
  go_ret2
  refine ⟨?_,rfl⟩;rw [Lib.trimPrefix_miss s p h3,← Lib.hasPrefix_raw,h3];rfl
theorem aw5 (l:List UInt8):cut l=(Lib.trimPrefix l [45],Lib.hasPrefix l [45]):=by
 unfold cut Lib.trimPrefix Lib.hasPrefix;cases l with
 | nil=>rfl
 | cons x t =>
  by_cases h:x=45
  ·subst h;simp
  ·have h2:¬ (45:UInt8)=x:=fun e=>h e.symm;simp [h,h2,List.isPrefixOf]
theorem uS (s:ByteArray) (w:World) :
  Calls Tryz.prog 221 #[O s,O ⟨#[45]⟩] w fun e w'=>e= aj (aD #[O ⟨(cut s.data.toList).1.toArray⟩,ak (cut s.data.toList).2])∧w=w':=by
 refine (Hf s ⟨#[45]⟩ w).mono ?_;rintro e w' ⟨rfl,rfl⟩;rw [aw5];exact ⟨rfl,rfl⟩
def XA (w:World) (c:Bool) (e:Ending) (w':World):Prop:=(∃ pa n ca ng,e= aj (aD #[aB #[ah pa n ca,ak ng],ak c]))∧Bw w w'
theorem SA {pa:Option Addr} {n ca:Nat} {ng b c:Bool} (h:c=b):∃ pa' n' Ob ng',Ending.returned (aD #[aB #[ah pa n ca,ak ng],ak b])= aj (aD #[aB #[ah pa' n' Ob,ak ng'],ak c]):=⟨pa,n,ca,ng,by rw [h]⟩
theorem JB (s:ByteArray) (w:World) :
    Calls Tryz.prog 163 #[O s] w (XA w (whole s.data.toList).isSome):=by
  have HC:=zh (uS s);have hw:(whole s.data.toList).isSome=gT (cut s.data.toList).1 (cut s.data.toList).2:=by unfold whole;split<;>simp_all
  rw [hw];clear hw;generalize cut s.data.toList=c at *;obtain ⟨d,ng⟩:=c;simp only at HC ⊢;have hsz:(⟨d.toArray⟩:ByteArray).size=d.length:=rfl;have h0:d=[]→gT d ng=false:=fun e=>by subst e;rfl
  have h1:600<d.length→gT d ng=false:=fun e=>by
    have h2:¬ d.length≤600:=by omega
    unfold gT;simp [h2]
  have H0:=zh h0;have H1:=zh h1;clear h0 h1;have hbx:aA (w.alloc (.cells #[ah none 0 0,ak false] 234 (0,0))) w.heap.size #[ah none 0 0,ak false] 234:=aA.new _ _ _;have hbl:Below w.heap.size w (w.alloc (.cells #[ah none 0 0,ak false] 234 (0,0))):=(Below.refl _ _).alloc (aC _) _;have ug:=zh hbx;clear hbx;go_enter Tryz.func163,Tryz.ntmps163
  go_wp2_with (go_at_call 221;refine (HC.out _).mono ?_;rintro e w1 ⟨rfl,rfl⟩)
  · refine bX rfl rfl ug.out Tryz.underlying234 rfl zk ⟨⟨none,0,0,false,?_⟩,hbl⟩
    rw [H0.out (by assumption)];rfl
  · refine bX rfl rfl ug.out Tryz.underlying234 rfl zk ⟨⟨none,0,0,false,?_⟩,hbl⟩
    have h1:¬ d=[]:=by assumption
    have h2:((d.length:Int) == 0)=true∨(600:Int)<d.length:=by assumption
    rw [H1.out (by
      rcases h2 with h2|h2
      · have:=List.length_pos_iff.mpr h1
        simp at h2
        exact absurd h2 h1
      · omega)]
    rfl
  · have h1:¬ d=[]:=by assumption
    have h2:((d.length:Int) == 0)=false∧(d.length:Int)≤600:=by assumption
    have hl0:=List.length_pos_iff.mpr h1;have hl1:d.length≤600:=by omega
    clear h2
    go_loopw [23] (fun v wr=>∃ i:Nat,v= Z I (i:Int)∧i≤d.length∧Hid (∀ k (h:k<d.length),k<i→48≤d[k].toNat∧d[k].toNat≤57)∧w.alloc (.cells #[ah none 0 0,ak false] 234 (0,0))=wr) (fun v _=>d.length - (intOf v).toNat)
    case atStart=>exact ⟨0,rfl,by omega,zh (fun k _ h=>by omega),rfl⟩
    case round =>
      obtain ⟨i,rfl,hi,HK,rfl⟩:=hrel
      rcases aH i d.length with hlt|hge
      · have hgt:(⟨d.toArray⟩:ByteArray)[i]'(by exact hlt)=d[i]:=rfl
        have HGT:=zh hgt
        by_cases hdig:48≤d[i].toNat∧d[i].toNat≤57
        · have q1:decide (((⟨d.toArray⟩:ByteArray)[i]'(by exact hlt)).toNat<(48:Int))=false:=by rw [hgt];simp;omega
          have q2:decide ((57:Int)<((⟨d.toArray⟩:ByteArray)[i]'(by exact hlt)).toNat)=false:=by rw [hgt];simp;omega
          clear hgt;go_wp2_with fail
          refine ⟨⟨i+1,rfl,by omega,zh fun k hk hki=>?_,trivial⟩,by simp only [intOf];omega⟩
          rcases aH k i with h|h
          · exact HK.out k hk h
          · obtain rfl:k=i:=by omega
            exact hdig
        · clear hgt
          have hno:gT d ng=false:=by
            have:d.all (fun b=>decide (48≤b.toNat)&&decide (b.toNat≤57))=false:=by
              rw [List.all_eq_false];exact ⟨d[i],dx _,by simpa using hdig⟩
            unfold gT;simp [this]
          have HNO:=zh hno;clear hno;go_wp2_with fail
          all_goals first
            | (exfalso
               have h3:(48:Int)≤((⟨d.toArray⟩:ByteArray)[i]'(by exact hlt)).toNat∧(((⟨d.toArray⟩:ByteArray)[i]'(by exact hlt)).toNat:Int)≤57:=by assumption
               rw [HGT.out] at h3;omega)
            | (try simp only [Exit.inBlock,Exit.then]
               refine bX rfl rfl ug.out Tryz.underlying234 rfl zk ⟨⟨none,0,0,false,?_⟩,hbl⟩;rw [HNO.out];rfl)
      · obtain rfl:i=d.length:=by omega
        have hdd:rA d:=fun b hb=>by
          obtain ⟨k,hk,rfl⟩:=List.getElem_of_mem hb;exact HK.out k hk zo
        have HDD:=zh hdd;have hgt:(⟨d.toArray⟩:ByteArray)[0]'(by exact hl0)=d[0]:=rfl
        have hhd:(d.head? == some 48)=decide (d[0].toNat=48):=by
          rw [List.head?_eq_getElem?, List.getElem?_eq_getElem hl0,iZ];simp only [beq_iff_eq,Option.some.injEq,decide_eq_true_eq];exact ⟨fun h=>by rw [h];rfl,fun h=>UInt8.toNat_inj.mp h⟩
        have hok:gT d ng= !(decide (d[0].toNat=48)&&(ng || decide (1<d.length))):=by
          have:d.all (fun b=>decide (48≤b.toNat)&&decide (b.toNat≤57))=true:=by
            rw [dI];intro b hb
            simpa using hdd b hb
          unfold gT;rw [this,hhd];simp [h1,hl1]
        have aV7:rA (⟨d.toArray⟩:ByteArray).data.toList:=hdd;clear hdd hhd HK H0 H1 HC hge hi;generalize d[0]=x at *
        have q0:((((⟨d.toArray⟩:ByteArray)[0]'(by exact hl0)).toNat:Int) == 48)=decide (x.toNat=48):=by
          rw [hgt,iZ];simp
          omega
        have q1:decide ((1:Int)<d.length)=decide (1<d.length):=by
          rw [iZ,decide_eq_true_iff,decide_eq_true_iff];omega
        clear hgt;have XL:=zh hok;clear hok;have HG:=zh (tN ⟨d.toArray⟩ (by rw [hsz];omega) aV7 (w.alloc (.cells #[ah none 0 0,ak false] 234 (0,0))))
        by_cases hx:x.toNat=48
        all_goals by_cases hl:1<d.length
        all_goals cases ng
        all_goals simp only [hx,hl,decide_true,decide_false,Bool.true_and,Bool.false_and,Bool.true_or,Bool.false_or,Bool.not_true,Bool.not_false] at XL q0 q1
        all_goals go_wp2_with (go_at_call 232;refine (HG.out).mono ?_;rintro e w2 ⟨v,rfl,hb2,hv⟩;obtain ⟨pa,ca,rfl, -⟩:=hv;have tL:=ug.out.later hb2;have c0:w2.cell? ⟨w.heap.size,0,none⟩=some (.slice none 0 0):=(tL.cell 0).trans rfl;have c1:w2.cell? ⟨w.heap.size,1,none⟩=some (.bool false):=(tL.cell 1).trans rfl;have f0:=tL.free 0;have f1:=tL.free 1)
        all_goals (try simp only [Exit.inBlock,Exit.then])
        all_goals first
          | (refine bX rfl rfl ug.out Tryz.underlying234 rfl zk ⟨⟨none,0,0,false,?_⟩,hbl⟩
             rw [XL.out];rfl)
          | (rename_i hb2 _ _ _ _
             refine bX rfl rfl (((ug.out.later hb2).set 0 _).set 1 _) Tryz.underlying234 rfl zk ⟨SA XL.out,((Bt hbl hb2).setCell (aC _) _).setCell (aC _) _⟩)
theorem mE (s:ByteArray) (w:World) :
  Calls Tryz.prog 146 #[O s] w (fun e w'=>e= aj (Z I (if (whole s.data.toList).isSome then 0 else 10))∧Bw w w'):=by
 have H:=zh (JB s);generalize (whole s.data.toList).isSome=b at *;cases b
 all_goals
  go_enter Tryz.func146,Tryz.ntmps146
  go_wp2_with (go_at_call 163;refine (H.out _).mono ?_;rintro e w1 ⟨⟨pa,n,ca,ng,rfl⟩,hb1⟩)
  go_ret
  exact ⟨rfl,Bt hb1 ((Below.refl _ _).alloc (aC _) _)⟩
theorem Vv (z:Int) (h0: -9223372036854775808≤z) (h1:z≤9223372036854775807) (w:World) (ht:ko.Pow w) :
  Calls Tryz.prog 86 #[Z I z] w (fun e w'=>e= aj (fO z)∧Bw w w'):=by
 have H:=zh (Tryz.strconv_Itoa z h0 h1 w ht);clear ht;go_enter Tryz.func86,Tryz.ntmps86
 go_wp2_with (go_at_call 149;refine (H.out).mono ?_;rintro e w1 ⟨rfl,k,os,rfl⟩)
 go_ret
 exact ⟨rfl,ko.below_grow _ _ _⟩
end Go.Proofs.whole
namespace Go.Proofs.dZ
open Go Go.RowKit Go.SW Go.Num Go.Mem Go.Proofs
theorem AY (b off c:Nat) (l:List Nat) (w:World) (hl:l.length≤c) (hm:c≤9223372036854775807)
   (hc:∀ k,k<l.length→w.cell? ⟨b,off+k,none⟩=some (.int .u32 (l.getD k 0:Nat))) :
    Calls Tryz.prog 161 #[ah (some ⟨b,off,none⟩) l.length c] w fun e w'=>e= aj (ah (some ⟨b,off,none⟩) (trimLen l l.length) c)∧w=w':=zs1
theorem Dx (w:World):Calls Tryz.prog 161 #[ah none 0 0] w fun e w'=>e= aj (ah none 0 0)∧w=w':=by
 go_enter Tryz.func161,Tryz.ntmps161
 go_wp2
 refine wp_loop_rounds 1 ?_;rw [rounds_succ]
 go_wp2
 go_ret
 exact ⟨rfl,rfl⟩
theorem qb (v:Value) (l:List Nat) (w:World) (h:nR w v l) (hd:fV 1000000000 l) :
  Calls Tryz.prog 161 #[v] w fun e w'=>∃ v',e= aj v'∧w=w'∧aZ w v' (val 1000000000 l):=zs2
theorem _root_.Go.zs4 {G:Prop} (h:G:=by
 obtain ⟨a,cap,rfl, -⟩:=h
 have e:decide (n=0)=((((d9 1000000000 n).length:Nat):Int) == 0):=by
  rw [Bool.eq_iff_iff];simp [pz]
 rw [e,fI];clear e;generalize (d9 1000000000 n).length=k;go_enter zq7,zq8
 go_wp2
 go_ret
 exact ⟨rfl,rfl⟩):G:=h
theorem iI (v:Value) (n:Nat) (w:World) (h:aZ w v n) :
  Calls Tryz.prog 138 #[v] w fun e w'=>e= aj (ak (decide (n=0)))∧w=w':=zs4
def sQ (a b:Nat):Int:=if a<b then -1 else if b<a then 1 else 0
theorem qH {a b:Nat} (h:a<b):sQ a b= -1:=if_pos h
theorem pK {a b:Nat} (h:b<a):sQ a b=1:=by unfold sQ;rw [if_neg zo,if_pos h]
theorem rY (a:Nat):sQ a a=0:=by unfold sQ;simp
theorem _root_.Go.zs5 {G:Prop} (h:G:=by
 rcases Nat.lt_trichotomy a b with h|h|h
 ·rw [qH h];go_enter Tryz.func230,Tryz.ntmps230
  go_wp2
  go_ret
  exact ⟨rfl,rfl⟩
 ·subst h;rw [rY];go_enter Tryz.func230,Tryz.ntmps230
  go_wp2
  go_ret
  exact ⟨rfl,rfl⟩
 ·rw [pK h];go_enter Tryz.func230,Tryz.ntmps230
  go_wp2
  go_ret
  exact ⟨rfl,rfl⟩):G:=h
theorem Ki (a b:Nat) (w:World):Calls Tryz.prog 230 #[Z I a,Z I b] w fun e w'=>e= aj (Z I (sQ a b))∧w=w':=zs5
theorem _root_.Go.zs6 {G:Prop} (h:G:=by
 rcases Nat.lt_trichotomy a b with h|h|h
 ·rw [qH h];go_enter Tryz.func231,Tryz.ntmps231
  go_wp2
  go_ret
  exact ⟨rfl,rfl⟩
 ·subst h;rw [rY];go_enter Tryz.func231,Tryz.ntmps231
  go_wp2
  go_ret
  exact ⟨rfl,rfl⟩
 ·rw [pK h];go_enter Tryz.func231,Tryz.ntmps231
  go_wp2
  go_ret
  exact ⟨rfl,rfl⟩):G:=h
theorem Kh (a b:Nat) (w:World):Calls Tryz.prog 231 #[Z .u32 a,Z .u32 b] w fun e w'=>e= aj (Z I (sQ a b))∧w=w':=zs6
theorem _root_.Go.zs7 {G:Prop} (h:G:=by
 have h1:((m:Int) == (n:Int))=false:=by simp;omega
 have h2:((m:Int) != (n:Int))=true:=by simp;omega
 go_enter zq9,Yx
 go_wp2_with (go_at_call 230;refine (Ki _ _ _).mono ?_;rintro e w' ⟨rfl,rfl⟩)
 go_ret
 exact ⟨rfl,rfl⟩):G:=h
theorem wQ (a b:Option Addr) (m n c d:Nat) (w:World) (h:m≠n) :
  Calls Tryz.prog 156 #[ah a m c,ah b n d] w fun e w'=>e= aj (Z I (sQ m n))∧w=w':=zs7
theorem _root_.Go.zs8 {G:Prop} (h:G:=by
 have HL:=zh hlen;clear hlen;rw [← HL.out];have h1:((l.length:Int) == (l.length:Int))=true:=by simp
 have h2:((l.length:Int) != (l.length:Int))=false:=by simp
 go_enter zq9,Yx
 go_wp2
 clear h1 h2
 go_loopw [5] (fun i wr=>∃ q:Int, -1≤q∧q<l.length∧i= .int .i64 q∧l.drop (q+1).toNat=m.drop (q+1).toNat∧Bw w wr) (fun i _=>(intOf i+1).toNat)
 case atStart=>exact ⟨(l.length:Int) - 1,by omega,by omega,rfl,by rw [show ((l.length:Int) - 1+1).toNat=l.length by omega,List.drop_length];rw [HL.out,List.drop_length],Below.refl _ _⟩
 case round =>
  obtain ⟨q,hq1,hq2,rfl,hdr,hb⟩:=hrel;have HD:=zh hdr;clear hdr
  by_cases hq:q<0
  ·have hq0:q= -1:=by omega
   subst hq0
   go_wp2
   go_ret
   have e:l=m:=by have:=HD.out;simpa using this
   rw [e,rY];exact ⟨rfl,hb⟩
  ·obtain ⟨j,rfl⟩:=Int.eq_ofNat_of_zero_le (by omega:0≤q);have hjl:j<l.length:=by omega
   have hjm:j<m.length:=by rw [← HL.out];exact hjl
   obtain ⟨ba,oa,rfl,hba,hx0⟩:=hc j hjl;obtain ⟨bb,ob,rfl,hbb,hy0⟩:=hd j hjm;have hx:wr.cell? ⟨ba,oa+j,none⟩=some (.int .u32 (l.getD j 0:Nat)):=(hb.cell (by exact hba)).trans hx0;have hy:wr.cell? ⟨bb,ob+j,none⟩=some (.int .u32 (m.getD j 0:Nat)):=(hb.cell (by exact hbb)).trans hy0;clear hx0 hy0;have HD2:Hid (l.drop (j+1)=m.drop (j+1)):=by have:=HD.out;rwa [show ((j:Int)+1).toNat=j+1 by omega] at this
   have hlt:Hid (l.getD j 0<m.getD j 0→val 1000000000 l<val 1000000000 m):=xq zo hl hjl hjm HD2.out;have hgt:Hid (m.getD j 0<l.getD j 0→val 1000000000 m<val 1000000000 l):=xq zo hmd hjm hjl HD2.out.symm;have heq:Hid (l.getD j 0=m.getD j 0→l.drop j=m.drop j):=fun e=>by rw [kF hjl,kF hjm,HD2.out,e]
   generalize l.getD j 0=x at *;generalize m.getD j 0=y at *;clear HD HD2 hc hd
   by_cases hxy:x=y
   ·subst hxy;have h1:((x:Int) == (x:Int))=true:=by simp
    have h2:((x:Int) != (x:Int))=false:=by simp
    go_wp2
    go_quiet (fail)
    go_wp2
    go_roundw
    case rel=>exact ⟨(j:Int) - 1,by omega,by omega,rfl,by rw [show ((j:Int) - 1+1).toNat=j by omega];exact heq.out trivial,below_drewN hb _⟩
    case measure=>simp [intOf]
   ·have h1:((x:Int) == (y:Int))=false:=by simp;omega
    have h2:((x:Int) != (y:Int))=true:=by simp;omega
    go_wp2
    go_quiet (fail)
    go_wp2
    refine aO [(.pure,0),(.pure,1),(.pure,2),(.read,3),(.pure,4),(.pure,5),(.pure,6),(.read,7),(.ext,8),(.fin,9)] zk zk zR zP ?_;refine zV ?_;refine aL rfl rfl (fun w1 hb1 J hJ=>?_);go_simp;refine (Kh _ _ _).mono ?_;rintro e w' ⟨rfl,rfl⟩;refine hJ _ _ (Below.refl _ _) ?_;clear hJ J;refine cZ [_] rfl (fun w2 hb2=>?_)
    go_wp2
    go_ret
    refine ⟨?_,Bt (Bt hb (Vx hb1)) hb2⟩
    rcases Nat.lt_or_gt_of_ne hxy with h|h
    ·rw [qH h,qH (hlt.out h)];rfl
    ·rw [pK h,pK (hgt.out h)];rfl):G:=h
theorem uV (pa pb:Option Addr) (ca cb:Nat) (l m:List Nat) (w:World) (hlen:l.length=m.length) (hm:l.length≤9223372036854775807) (hl:fV 1000000000 l) (hmd:fV 1000000000 m)
   (hc:∀ k,k<l.length→∃ b off,pa=some ⟨b,off,none⟩∧b<w.heap.size∧w.cell? ⟨b,off+k,none⟩=some (.int .u32 (l.getD k 0:Nat)))
   (hd:∀ k,k<m.length→∃ b off,pb=some ⟨b,off,none⟩∧b<w.heap.size∧w.cell? ⟨b,off+k,none⟩=some (.int .u32 (m.getD k 0:Nat))) :
    Calls Tryz.prog 156 #[ah pa l.length ca,ah pb m.length cb] w fun e w'=>e= aj (Z I (sQ (val 1000000000 l) (val 1000000000 m)))∧Bw w w':=zs8
theorem _root_.Go.zs9 {G:Prop} (h:G:=by
 by_cases hs:sz 1000000000 a=sz 1000000000 b
 ·obtain ⟨pa,ca,rfl,h1,h2,h3⟩:=nR.read hx.Cv;obtain ⟨pb,cb,rfl,k1,k2,k3⟩:=nR.read hy.Cv;refine (uV pa pb ca cb _ _ w hs zo (dw zo a) (dw zo b) h3 k3).mono ?_;rintro e w' ⟨rfl,hb⟩;rw [bN zo,bN zo];exact ⟨rfl,hb⟩
 ·obtain ⟨a',ca,rfl, -⟩:=hx;obtain ⟨b',cb,rfl, -⟩:=hy;rw [fI,fI];refine (wQ a' b' _ _ ca cb w hs).mono ?_;rintro e w' ⟨rfl,rfl⟩;refine ⟨?_,Below.refl _ _⟩
  rcases Nat.lt_or_gt_of_ne hs with h|h
  ·rw [qH (wB zo h)];exact congrArg _ (congrArg _ (qH h))
  ·rw [pK (wB zo h)];exact congrArg _ (congrArg _ (pK h))):G:=h
theorem jT (x y:Value) (a b:Nat) (w:World) (hx:aZ w x a) (hy:aZ w y b) :
  Calls Tryz.prog 156 #[x,y] w fun e w'=>e= aj (Z I (sQ a b))∧Bw w w':=zs9
theorem Aa:(Tryz.prog.info? 22).map (fun i=>(i.zero,i.size,i.bytes))=some (some (.int .u32 0),1,4):=by kernel_rfl
theorem _root_.Go.aj9 {G:Prop} (h:G:=by
 have hm:val B (m.take (k+1))=val B (m.take k)+B^k*m.getD k 0:=by
  by_cases hkm:k<m.length
  ·exact dR B hkm
  ·rw [List.take_of_length_le zo,List.take_of_length_le zo];simp [Nat.le_of_not_lt hkm]
 rw [jy,dR B hk,hm,hs,Nat.pow_succ];have h2:=congrArg (B^k* ·) h;simp only [Nat.mul_add] at h2;rw [show c'*(B^k*B)=B^k*(c'*B) by rw [Nat.mul_left_comm]];rw [Nat.mul_comm c (B^k)] at he;omega):G:=h
theorem xA {B:Nat} {l m s:List Nat} {k c d c':Nat} (hk:k<l.length) (hs:s.length=k) (he:val B s+c*B^k=val B (l.take k)+val B (m.take k)) (h:d+c'*B=l.getD k 0+c+m.getD k 0) :
  val B (s++[d])+c'*B^(k+1)=val B (l.take (k+1))+val B (m.take (k+1)):=aj9
theorem _root_.Go.aj8 {G:Prop} (h:G:=by
 obtain ⟨i0,hi,hz0,hz1,hz2⟩:=info_parts Aa
 rcases hv with ⟨rfl,rfl⟩|⟨rfl,rfl,hlt⟩
 all_goals
  go_enter al9,al8
  go_wp2_with (at_make;refine wpList_make_own _ rfl _ _ K6 rfl w.heap.size 22 i0 (.int .u32 0) 1 Lb hi hz0 hz1 _ _ _ (l.length+1) rfl rfl zo (by rw [hz2];omega) (by unfold maxLen;omega) (Nat.le_refl _) ?_)
  intro w0 hown0 lZ
  go_wp2
  go_loopw [5,6,7,8,22] (fun out cv _ _ kv wr=>∃ (k c:Nat) (s:List Nat),k≤l.length∧c≤1∧s.length=k∧kv= .int .i64 k∧cv= .int .u32 c∧out= .slice (some ⟨w.heap.size,0,none⟩) k (l.length+1) ∧
    wr.ownsRow w.heap.size 22 1 (.slice (some ⟨w.heap.size,0,none⟩) k (l.length+1)) k (dX s)∧fV 1000000000 s∧Hid (val 1000000000 s+c*1000000000^k=val 1000000000 (l.take k)+val 1000000000 (m.take k))∧Bw w wr)
   (fun _ _ _ _ kv _=>l.length - (intOf kv).toNat)
  case atStart=>exact ⟨0,0,[],Nat.zero_le _,by omega,rfl,rfl,rfl,rfl,hown0,fV.nil,(by simp [val]:val _ _+0*_=_),(Below.refl _ _).grown lZ (Nat.le_refl _) (fun k h=>by cases h)⟩
  case round =>
   obtain ⟨k,c,s,hk,hc1,hs,rfl,rfl,rfl,hown,hds,HV,hb⟩:=hrel;have HS:=zh hs;clear hs
   by_cases hkl:k<l.length
   ·obtain ⟨b,off,rfl,hbb,hx0⟩:=hc k hkl;have hx:wr.cell? ⟨b,off+k,none⟩=some (.int .u32 (l.getD k 0:Nat)):=(hb.cell (by exact hbb)).trans hx0;have hdl:l.getD k 0<1000000000:=hl.getD zo k
    have HP:∀ d c',d+c'*1000000000=l.getD k 0+c+m.getD k 0→val 1000000000 (s++[d])+c'*1000000000^(k+1)=val 1000000000 (l.take (k+1))+val 1000000000 (m.take (k+1)) :=
     fun d c' h=>xA hkl HS.out HV.out h
    have oL:=zh HP;clear HP hx0 hc
    by_cases hkm:k<m.length
    ·obtain ⟨b2,off2,rfl,J5,hy0⟩:=hd k hkm;have hy:wr.cell? ⟨b2,off2+k,none⟩=some (.int .u32 (m.getD k 0:Nat)):=(hb.cell (by exact J5)).trans hy0;have Ta:m.getD k 0<1000000000:=hmd.getD zo k;clear hy0 hd;generalize l.getD k 0=x at *;generalize m.getD k 0=y at *
     by_cases hge:x+c+y<1000000000
     ·have hge':decide ((1000000000:Int)≤(x:Int)+(c:Int)+(y:Int))=false:=by rw [decide_eq_false_iff_not];omega
      have HG:=zh hge;clear hge;go_wp2_with (at_builtin;refine wpList_append_fits _ rfl (.tmp 44) (.tmp 46) K6 rfl w.heap.size 22 i0 1 Lb hi hz1 w.heap.size k (l.length+1) _ rfl (hown.alloc _) ⟨wr.heap.size,0,none⟩ 1 1 [.int .u32 ((x:Int)+(c:Int)+(y:Int))] rfl rfl (by intro t u ht;match t,ht with|0,ht=>simp at ht;subst ht;simp [Addr.add]) (by intro u hu;simp at hu;subst hu;rfl) zo ?_)
      intro w1 hown1 hgrow1
      have hown2:w1.ownsRow w.heap.size 22 1 (.slice (some ⟨w.heap.size,0,none⟩) (k+1) (l.length+1)) (k+1) (dX (s++[x+c+y])):=by
       have e:dX (s++[x+c+y])=dX s++[.int .u32 ((x:Int)+(c:Int)+(y:Int))]:=by have:=HG.out;unfold dX;simp only [List.map_append,List.map_cons,List.map_nil];rw [show ((x+c+y:Nat):Int)=(x:Int)+(c:Int)+(y:Int) by omega]
       rw [e];exact hown1
      have hb2:Bw w w1:=(hb.alloc hb.size _).grown hgrow1 (by simp;have:=hb.size;omega) (fun k hk=>by cases hk;exact Nat.le_refl _);clear hown hown1 hgrow1
      go_wp2
      go_roundw
      case rel=>exact ⟨k+1,0,s++[x+c+y],by omega,by omega,by rw [List.length_append,HS.out];rfl,by go_num,rfl,rfl,hown2,hds.snoc (by have:=HG.out;omega),oL.out _ _ (by have:=HG.out;omega),hb2⟩
      case measure=>exact zM
     ·have hge':decide ((1000000000:Int)≤(x:Int)+(c:Int)+(y:Int))=true:=by rw [decide_eq_true_iff];omega
      have aH2:(0:Int)≤(x:Int)+(c:Int)+(y:Int) - 1000000000:=by omega
      have HG:=zh hge;clear hge;go_wp2_with (at_builtin;refine wpList_append_fits _ rfl (.tmp 44) (.tmp 46) K6 rfl w.heap.size 22 i0 1 Lb hi hz1 w.heap.size k (l.length+1) _ rfl (hown.alloc _) ⟨wr.heap.size,0,none⟩ 1 1 [.int .u32 ((x:Int)+(c:Int)+(y:Int) - 1000000000)] rfl rfl (by intro t u ht;match t,ht with|0,ht=>simp at ht;subst ht;simp [Addr.add]) (by intro u hu;simp at hu;subst hu;rfl) zo ?_)
      intro w1 hown1 hgrow1
      have hown2:w1.ownsRow w.heap.size 22 1 (.slice (some ⟨w.heap.size,0,none⟩) (k+1) (l.length+1)) (k+1) (dX (s++[x+c+y - 1000000000])):=by
       have e:dX (s++[x+c+y - 1000000000])=dX s++[.int .u32 ((x:Int)+(c:Int)+(y:Int) - 1000000000)]:=by have:=HG.out;unfold dX;simp only [List.map_append,List.map_cons,List.map_nil];rw [show ((x+c+y - 1000000000:Nat):Int)=(x:Int)+(c:Int)+(y:Int) - 1000000000 by omega]
       rw [e];exact hown1
      have hb2:Bw w w1:=(hb.alloc hb.size _).grown hgrow1 (by simp;have:=hb.size;omega) (fun k hk=>by cases hk;exact Nat.le_refl _);clear hown hown1 hgrow1
      go_wp2
      go_roundw
      case rel=>exact ⟨k+1,1,s++[x+c+y - 1000000000],by omega,by omega,by rw [List.length_append,HS.out];rfl,by go_num,rfl,rfl,hown2,hds.snoc (by have:=HG.out;omega),oL.out _ _ (by have:=HG.out;omega),hb2⟩
      case measure=>exact zM
    ·have hm0:m.getD k 0=0:=by simp [Nat.le_of_not_lt hkm]
     rw [hm0] at oL;clear hm0 hd;generalize l.getD k 0=x at *
     by_cases hge:x+c<1000000000
     ·have hge':decide ((1000000000:Int)≤(x:Int)+(c:Int))=false:=by rw [decide_eq_false_iff_not];omega
      have HG:=zh hge;clear hge;go_wp2_with (at_builtin;refine wpList_append_fits _ rfl (.tmp 44) (.tmp 46) K6 rfl w.heap.size 22 i0 1 Lb hi hz1 w.heap.size k (l.length+1) _ rfl (hown.alloc _) ⟨wr.heap.size,0,none⟩ 1 1 [.int .u32 ((x:Int)+(c:Int))] rfl rfl (by intro t u ht;match t,ht with|0,ht=>simp at ht;subst ht;simp [Addr.add]) (by intro u hu;simp at hu;subst hu;rfl) zo ?_)
      intro w1 hown1 hgrow1
      have hown2:w1.ownsRow w.heap.size 22 1 (.slice (some ⟨w.heap.size,0,none⟩) (k+1) (l.length+1)) (k+1) (dX (s++[x+c])):=by
       have e:dX (s++[x+c])=dX s++[.int .u32 ((x:Int)+(c:Int))]:=by have:=HG.out;unfold dX;simp only [List.map_append,List.map_cons,List.map_nil];rw [show ((x+c:Nat):Int)=(x:Int)+(c:Int) by omega]
       rw [e];exact hown1
      have hb2:Bw w w1:=(hb.alloc hb.size _).grown hgrow1 (by simp;have:=hb.size;omega) (fun k hk=>by cases hk;exact Nat.le_refl _);clear hown hown1 hgrow1
      go_wp2
      go_roundw
      case rel=>exact ⟨k+1,0,s++[x+c],by omega,by omega,by rw [List.length_append,HS.out];rfl,by go_num,rfl,rfl,hown2,hds.snoc (by have:=HG.out;omega),oL.out _ _ (by have:=HG.out;omega),hb2⟩
      case measure=>exact zM
     ·have hge':decide ((1000000000:Int)≤(x:Int)+(c:Int))=true:=by rw [decide_eq_true_iff];omega
      have aH2:(0:Int)≤(x:Int)+(c:Int) - 1000000000:=by omega
      have HG:=zh hge;clear hge;go_wp2_with (at_builtin;refine wpList_append_fits _ rfl (.tmp 44) (.tmp 46) K6 rfl w.heap.size 22 i0 1 Lb hi hz1 w.heap.size k (l.length+1) _ rfl (hown.alloc _) ⟨wr.heap.size,0,none⟩ 1 1 [.int .u32 ((x:Int)+(c:Int) - 1000000000)] rfl rfl (by intro t u ht;match t,ht with|0,ht=>simp at ht;subst ht;simp [Addr.add]) (by intro u hu;simp at hu;subst hu;rfl) zo ?_)
      intro w1 hown1 hgrow1
      have hown2:w1.ownsRow w.heap.size 22 1 (.slice (some ⟨w.heap.size,0,none⟩) (k+1) (l.length+1)) (k+1) (dX (s++[x+c - 1000000000])):=by
       have e:dX (s++[x+c - 1000000000])=dX s++[.int .u32 ((x:Int)+(c:Int) - 1000000000)]:=by have:=HG.out;unfold dX;simp only [List.map_append,List.map_cons,List.map_nil];rw [show ((x+c - 1000000000:Nat):Int)=(x:Int)+(c:Int) - 1000000000 by omega]
       rw [e];exact hown1
      have hb2:Bw w w1:=(hb.alloc hb.size _).grown hgrow1 (by simp;have:=hb.size;omega) (fun k hk=>by cases hk;exact Nat.le_refl _);clear hown hown1 hgrow1
      go_wp2
      go_roundw
      case rel=>exact ⟨k+1,1,s++[x+c - 1000000000],by omega,by omega,by rw [List.length_append,HS.out];rfl,by go_num,rfl,rfl,hown2,hds.snoc (by have:=HG.out;omega),oL.out _ _ (by have:=HG.out;omega),hb2⟩
      case measure=>exact zM
   ·have hkk:k=l.length:=by omega
    subst hkk;clear hc hd
    have Ci:Hid (val 1000000000 s+c*1000000000^l.length=val 1000000000 l+val 1000000000 m):=by
     have:=HV.out;rwa [List.take_length,List.take_of_length_le hml] at this
    clear HV
    rcases Nat.eq_zero_or_pos c with h0|h0
    ·subst h0
     go_wp2
     go_ret
     refine ⟨s,_,rfl,hb,nR.gP hown,hds,by have:=Ci.out;simpa using this,Nat.le_of_eq HS.out.symm,fun h=>absurd h (by rw [HS.out];exact Nat.lt_irrefl _)⟩
    ·have hc1':c=1:=by omega
     subst hc1';go_wp2_with (at_builtin;refine wpList_append_fits _ rfl (.tmp 51) (.tmp 53) K6 rfl w.heap.size 22 i0 1 Lb hi hz1 w.heap.size l.length (l.length+1) _ rfl (hown.alloc _) ⟨wr.heap.size,0,none⟩ 1 1 [.int .u32 1] rfl rfl (by intro t u ht;match t,ht with|0,ht=>simp at ht;subst ht;simp [Addr.add]) (by intro u hu;simp at hu;subst hu;rfl) zo ?_)
     intro w1 hown1 hgrow1
     have hown2:w1.ownsRow w.heap.size 22 1 (.slice (some ⟨w.heap.size,0,none⟩) (l.length+1) (l.length+1)) (l.length+1) (dX (s++[1])):=by
      have e:dX (s++[1])=dX s++[.int .u32 1]:=by simp [dX]
      rw [e];exact hown1
     have hb2:Bw w w1:=(hb.alloc hb.size _).grown hgrow1 (by simp;have:=hb.size;omega) (fun k hk=>by cases hk;exact Nat.le_refl _);clear hown hown1 hgrow1
     go_wp2
     go_ret
     refine ⟨s++[1],_,rfl,hb2,nR.gP hown2,hds.snoc zo,?_,by rw [List.length_append,HS.out];exact Nat.le_add_right _ _,fun _=>Top.snoc zo⟩;have:=Ci.out;rw [jy,HS.out,Nat.mul_one]
     rwa [Nat.one_mul] at this):G:=h
theorem xw (pl ps:Option Addr) (cl cs:Nat) (l m:List Nat) (v0 v1:Value) (w:World) (hl:fV 1000000000 l) (hmd:fV 1000000000 m) (hb1:l.length≤1099511627776) (hml:m.length≤l.length)
   (hv:(v0= ah pl l.length cl∧v1= ah ps m.length cs)∨(v1= ah pl l.length cl∧v0= ah ps m.length cs∧m.length<l.length))
   (hc:∀ k,k<l.length→∃ b off,pl=some ⟨b,off,none⟩∧b<w.heap.size∧w.cell? ⟨b,off+k,none⟩=some (.int .u32 (l.getD k 0:Nat)))
   (hd:∀ k,k<m.length→∃ b off,ps=some ⟨b,off,none⟩∧b<w.heap.size∧w.cell? ⟨b,off+k,none⟩=some (.int .u32 (m.getD k 0:Nat))) :
    Calls Tryz.prog 224 #[v0,v1] w fun e w'=>∃ s v,e= aj v∧Bw w w'∧nR w' v s∧fV 1000000000 s∧val 1000000000 s=val 1000000000 l+val 1000000000 m∧l.length≤s.length∧(l.length<s.length→Top s):=aj8
theorem _root_.Go.zs12 {G:Prop} (h:G:=by
 have fin:∀ (l m s:List Nat) (w':World) (v:Value),Top l→nR w' v s→fV 1000000000 s→val 1000000000 s=val 1000000000 l+val 1000000000 m→l.length≤s.length→(l.length<s.length→Top s)→aZ w' v (val 1000000000 l+val 1000000000 m):=fun l m s w' v ht h1 h2 h3 h4 h5=>by
  rw [← h3];refine aZ.OO h1 h2 ?_
  by_cases h:l.length<s.length
  ·exact h5 h
  ·exact Oo zo ht h2 zo zo
 obtain ⟨pa,ca,rfl,h1,h2,h3⟩:=nR.read hx.Cv;obtain ⟨pb,cb,rfl,k1,k2,k3⟩:=nR.read hy.Cv
 by_cases hlt:(d9 1000000000 a).length<(d9 1000000000 b).length
 ·refine (xw pb pa cb ca _ _ _ _ w (dw zo b) (dw zo a) hb zo (.inr ⟨rfl,rfl,hlt⟩) k3 h3).mono ?_;rintro e w' ⟨s,v,rfl,hbl,q1,q2,q3,q4,q5⟩;refine ⟨v,rfl,hbl,?_⟩;have:=fin _ _ s w' v (oU zo b) q1 q2 q3 q4 q5
  rwa [bN zo,bN zo,Nat.add_comm] at this
 ·refine (xw pa pb ca cb _ _ _ _ w (dw zo a) (dw zo b) ha zo (.inl ⟨rfl,rfl⟩) h3 k3).mono ?_;rintro e w' ⟨s,v,rfl,hbl,q1,q2,q3,q4,q5⟩;refine ⟨v,rfl,hbl,?_⟩;have:=fin _ _ s w' v (oU zo a) q1 q2 q3 q4 q5
  rwa [bN zo,bN zo] at this):G:=h
theorem zL (x y:Value) (a b:Nat) (w:World) (hx:aZ w x a) (hy:aZ w y b) (ha:sz 1000000000 a≤1099511627776) (hb:sz 1000000000 b≤1099511627776) :
  Calls Tryz.prog 224 #[x,y] w fun e w'=>∃ v,e= aj v∧Bw w w'∧aZ w' v (a+b):=zs12
theorem _root_.Go.aB4 {G:Prop} (h:G:=by
 obtain ⟨i0,hi,hz0,hz1,hz2⟩:=info_parts Aa;have Oe:=zh hle;clear hle;go_enter aC6,aC5
 go_wp2_with (at_make;refine wpList_make_full _ rfl _ _ K6 rfl w.heap.size 22 i0 (.int .u32 0) 1 Lb hi hz0 hz1 _ _ _ _ l.length rfl rfl zo zo (by rw [hz2];omega) (by unfold maxLen;omega) (Nat.le_refl _) ?_)
 intro w0 hown0 lZ;rw [tJ] at hown0
 go_wp2
 go_loopw [6,7,8,9,15] (fun cv _ _ _ kv wr=>∃ (k c:Nat) (s:List Nat),k≤l.length∧c≤1∧Hid (s.length=k)∧kv= .int .i64 k∧cv= .int .u32 c ∧
   wr.ownsRow w.heap.size 22 1 (.slice (some ⟨w.heap.size,0,none⟩) l.length l.length) l.length (dX (s++List.replicate (l.length - k) 0))∧fV 1000000000 s∧Hid (val 1000000000 s+val 1000000000 (m.take k)=val 1000000000 (l.take k)+c*1000000000^k)∧Bw w wr)
  (fun _ _ _ _ kv _=>l.length - (intOf kv).toNat)
 case atStart=>exact ⟨0,0,[],Nat.zero_le _,by omega,rfl,rfl,rfl,by simpa using hown0,fV.nil,(by simp [val]:val _ _+val _ _=val _ _+0*_),(Below.refl _ _).grown lZ (Nat.le_refl _) (fun k h=>by cases h)⟩
 case round =>
  obtain ⟨k,c,s,hk,hc1,HS,rfl,rfl,hown,hds,HV,hb⟩:=hrel
  by_cases hkl:k<l.length
  ·obtain ⟨b,off,rfl,hbb,hx0⟩:=hc k hkl;have hx:wr.cell? ⟨b,off+k,none⟩=some (.int .u32 (l.getD k 0:Nat)):=(hb.cell (by exact hbb)).trans hx0;have hdl:l.getD k 0<1000000000:=hl.getD zo k
   have hr1:wr.cell? ⟨w.heap.size,k,none⟩=some (.int .u32 0):=by
    rw [hown.cellAt k zo,oQ (by rw [List.length_append,HS.out,List.length_replicate];omega),WM HS.out];rfl
   have hr2:wr.frozen? ⟨w.heap.size,k,none⟩=false:=hown.frozenAt k
   have HP:Hid (∀ d c',d+m.getD k 0+c=l.getD k 0+c'*1000000000→val 1000000000 (s++[d])+val 1000000000 (m.take (k+1))=val 1000000000 (l.take (k+1))+c'*1000000000^(k+1)) :=
    fun d c' h=>Fh hkl HS.out HV.out h
   have HO:Hid (∀ d:Nat,(wr.setCell ⟨w.heap.size,k,none⟩ (.int .u32 (d:Int))).ownsRow w.heap.size 22 1 (.slice (some ⟨w.heap.size,0,none⟩) l.length l.length) l.length (dX ((s++[d])++List.replicate (l.length - (k+1)) 0))∧Below w.heap.size w (wr.setCell ⟨w.heap.size,k,none⟩ (.int .u32 (d:Int)))):=fun d=>by
    have h1:=(hown.stored k (.int .u32 (d:Int))).1;rw [mX,set_mid HS.out hkl] at h1;exact ⟨h1,hb.setCell (Nat.le_refl _) _⟩
   clear hx0 hc hown
   by_cases hkm:k<m.length
   ·obtain ⟨b2,off2,rfl,J5,hy0⟩:=hd k hkm;have hy:wr.cell? ⟨b2,off2+k,none⟩=some (.int .u32 (m.getD k 0:Nat)):=(hb.cell (by exact J5)).trans hy0;have Ta:m.getD k 0<1000000000:=hmd.getD zo k;clear hy0 hd;generalize l.getD k 0=x at *;generalize m.getD k 0=y at *
    by_cases hge:x<c+y
    ·have pV:=HO.out (x+1000000000 - (c+y));rw [show ((x+1000000000 - (c+y):Nat):Int)=(x:Int)+1000000000 - ((c:Int)+(y:Int)) by omega] at pV;have rz:=zh pV;clear pV HO
     go_wp2
     go_roundw
     case rel=>exact ⟨k+1,1,s++[x+1000000000 - (c+y)],by omega,by omega,zh (by rw [List.length_append,HS.out];rfl),by go_num,rfl,rz.out.1,hds.snoc zo,HP.out _ _ zo,rz.out.2⟩
     case measure=>exact zM
    ·have pV:=HO.out (x - (c+y));rw [show ((x - (c+y):Nat):Int)=(x:Int) - ((c:Int)+(y:Int)) by omega] at pV;have rz:=zh pV;clear pV HO
     go_wp2
     go_roundw
     case rel=>exact ⟨k+1,0,s++[x - (c+y)],by omega,by omega,zh (by rw [List.length_append,HS.out];rfl),by go_num,rfl,rz.out.1,hds.snoc zo,HP.out _ _ zo,rz.out.2⟩
     case measure=>exact zM
   ·have hm0:m.getD k 0=0:=by simp [Nat.le_of_not_lt hkm]
    rw [hm0] at HP;clear hm0 hd;generalize l.getD k 0=x at *
    by_cases hge:x<c
    ·have pV:=HO.out (x+1000000000 - c);rw [show ((x+1000000000 - c:Nat):Int)=(x:Int)+1000000000 - (c:Int) by omega] at pV;have rz:=zh pV;clear pV HO
     go_wp2
     go_roundw
     case rel=>exact ⟨k+1,1,s++[x+1000000000 - c],by omega,by omega,zh (by rw [List.length_append,HS.out];rfl),by go_num,rfl,rz.out.1,hds.snoc zo,HP.out _ _ zo,rz.out.2⟩
     case measure=>exact zM
    ·have pV:=HO.out (x - c);rw [show ((x - c:Nat):Int)=(x:Int) - (c:Int) by omega] at pV;have rz:=zh pV;clear pV HO
     go_wp2
     go_roundw
     case rel=>exact ⟨k+1,0,s++[x - c],by omega,by omega,zh (by rw [List.length_append,HS.out];rfl),by go_num,rfl,rz.out.1,hds.snoc zo,HP.out _ _ zo,rz.out.2⟩
     case measure=>exact zM
  ·have hkk:k=l.length:=by omega
   subst hkk;clear hc hd
   have Ci:val 1000000000 s+val 1000000000 m=val 1000000000 l+c*1000000000^l.length:=by
    have:=HV.out;rwa [List.take_length,List.take_of_length_le hml] at this
   have hvs:val 1000000000 s<1000000000^l.length:=by have:=jd zo hds;rwa [HS.out] at this
   have hc0:c=0:=by
    rcases Nat.eq_zero_or_pos c with h|h
    ·exact h
    ·exfalso
     have:c=1:=by omega
     subst this;have:=Oe.out;omega
   have HF:Hid (val 1000000000 s=val 1000000000 l - val 1000000000 m):=by subst hc0;unfold Hid;omega
   clear HV Ci hvs Oe
   have hown3:nR wr (.slice (some ⟨w.heap.size,0,none⟩) l.length l.length) s:=by
    have:=nR.gP hown;rwa [Nat.sub_self,List.replicate_zero,List.append_nil] at this
   clear hown;go_wp2_with ((first|go_at_call 161|go_at_call 212);refine (qb _ _ _ hown3 hds).mono ?_;rintro e w' ⟨v,rfl,rfl,hv⟩)
   go_ret
   exact ⟨v,rfl,hb,by rw [← HF.out];exact hv⟩):G:=h
theorem Fg (pl ps:Option Addr) (cl cs:Nat) (l m:List Nat) (w:World) (hl:fV 1000000000 l) (hmd:fV 1000000000 m) (hb1:l.length≤1099511627776) (hml:m.length≤l.length) (hle:val 1000000000 m≤val 1000000000 l)
   (hc:∀ k,k<l.length→∃ b off,pl=some ⟨b,off,none⟩∧b<w.heap.size∧w.cell? ⟨b,off+k,none⟩=some (.int .u32 (l.getD k 0:Nat)))
   (hd:∀ k,k<m.length→∃ b off,ps=some ⟨b,off,none⟩∧b<w.heap.size∧w.cell? ⟨b,off+k,none⟩=some (.int .u32 (m.getD k 0:Nat))) :
    Calls Tryz.prog 225 #[ah pl l.length cl,ah ps m.length cs] w fun e w'=>∃ v,e= aj v∧Bw w w'∧aZ w' v (val 1000000000 l - val 1000000000 m):=aB4
theorem _root_.Go.aB3 {G:Prop} (h:G:=by
 obtain ⟨pa,ca,rfl,h1,h2,h3⟩:=nR.read hx.Cv;obtain ⟨pb,cb,rfl,k1,k2,k3⟩:=nR.read hy.Cv;have:=Fg pa pb ca cb _ _ w (dw zo a) (dw zo b) ha (iJ zo hle) (by rw [bN zo,bN zo];exact hle) h3 k3
 rwa [bN zo,bN zo] at this):G:=h
theorem Fj (x y:Value) (a b:Nat) (w:World) (hx:aZ w x a) (hy:aZ w y b) (ha:sz 1000000000 a≤1099511627776) (hle:b≤a) :
  Calls Tryz.prog 225 #[x,y] w fun e w'=>∃ v,e= aj v∧Bw w w'∧aZ w' v (a - b):=aB3
theorem JG {x y:Nat} (hx:x<1000000000) (hy:y<1000000000):(0:Int)≤(x:Int)*(y:Int)∧(x:Int)*(y:Int)≤999999998000000001:=by
 have h:x*y≤999999999*999999999:=fq zo zo;rw [← Int.natCast_mul];omega
theorem _root_.Go.aj7 {G:Prop} (h:G:=by
 obtain ⟨i0,hi,hz0,hz1,hz2⟩:=info_parts Aa;go_enter al7,al6
 go_wp2_with (at_make;refine wpList_make_full _ rfl _ _ K6 rfl w.heap.size 22 i0 (.int .u32 0) 1 Lb hi hz0 hz1 _ _ _ _ (l.length+m.length) rfl rfl zo zo (by rw [hz2];omega) (by unfold maxLen;omega) (Nat.le_refl _) ?_)
 intro w0 hown0 lZ;rw [tJ] at hown0
 go_wp2
 go_loopw [6,7,8,9,10,19,26] (fun _ _ _ _ _ iv _ wr=>∃ (i:Nat) (p:List Nat),i≤l.length∧iv= .int .i64 i∧Hid (p.length=l.length+m.length)∧(∀ t,i+m.length≤t→p.getD t 0=0) ∧
   wr.ownsRow w.heap.size 22 1 (.slice (some ⟨w.heap.size,0,none⟩) (l.length+m.length) (l.length+m.length)) (l.length+m.length) (dX p)∧fV 1000000000 p∧Hid (val 1000000000 p=val 1000000000 (l.take i)*val 1000000000 m)∧Bw w wr)
  (fun _ _ _ _ _ iv _ _=>l.length - (intOf iv).toNat)
 case atStart=>exact ⟨0,List.replicate (l.length+m.length) 0,Nat.zero_le _,rfl,zh zi,fun t _=>by simp [List.getD,List.getElem?_replicate];split<;>rfl,hown0,fun x hx=>by rw [List.eq_of_mem_replicate hx];omega,zh (by rw [xk];simp [val]),(Below.refl _ _).grown lZ (Nat.le_refl _) (fun k h=>by cases h)⟩
 case round =>
  obtain ⟨i,p,hil,rfl,HL,hz,hown,hdp,HV,hb⟩:=hrel;have HZ:=zh hz;clear hz
  by_cases hlt:i<l.length
  ·obtain ⟨b,off,rfl,hbb,hx0⟩:=hc i hlt;have hx:wr.cell? ⟨b,off+i,none⟩=some (.int .u32 (l.getD i 0:Nat)):=(hb.cell (by exact hbb)).trans hx0;have hdl:l.getD i 0<1000000000:=hl.getD zo i;clear hx0 hc;have HD:Hid (l.getD i 0=l.getD i 0):=rfl
   revert HD
   generalize hx9:l.getD i 0=x at hx hdl;have HX:=zh hx9;clear hx9;intro _;obtain ⟨wo,rfl⟩:∃ wo:World,wo=wr:=⟨_,rfl⟩
   go_wp2
   go_loopw [8,9,10,26] (fun cv _ _ jv wq=>∃ (j c:Nat) (q:List Nat),j≤m.length∧c<1000000000∧jv= .int .i64 j∧cv= .int .u64 c∧Hid (q.length=l.length+m.length)∧Hid (∀ t,i+m.length≤t→q.getD t 0=0) ∧
     wq.ownsRow w.heap.size 22 1 (.slice (some ⟨w.heap.size,0,none⟩) (l.length+m.length) (l.length+m.length)) (l.length+m.length) (dX q)∧fV 1000000000 q∧Hid (val 1000000000 q+c*1000000000^(i+j)=val 1000000000 (l.take i)*val 1000000000 m+1000000000^i*(x*val 1000000000 (m.take j)))∧Bw w wq)
    (fun _ _ _ jv _=>m.length - (intOf jv).toNat)
   case atStart=>exact ⟨0,0,p,Nat.zero_le _,by omega,rfl,rfl,HL,HZ,hown,hdp,zh (by rw [HV.out];simp [val]),hb⟩
   case round =>
    obtain ⟨j,c,q,hjl,hcb,rfl,rfl,TV,TT,hown,G9,HVq,hb⟩:=hrel
    by_cases hjlt:j<m.length
    ·obtain ⟨b2,off2,rfl,J5,hy0⟩:=hd j hjlt;have hy:wr.cell? ⟨b2,off2+j,none⟩=some (.int .u32 (m.getD j 0:Nat)):=(hb.cell (by exact J5)).trans hy0;have Ta:m.getD j 0<1000000000:=hmd.getD zo j;have hij:i+j<q.length:=by have:=TV.out;omega
     have hq1:wr.cell? ⟨w.heap.size,i+j,none⟩=some (.int .u32 (q.getD (i+j) 0:Nat)):=by rw [hown.cellAt (i+j) zo,oQ hij]
     have hq2:wr.frozen? ⟨w.heap.size,i+j,none⟩=false:=hown.frozenAt (i+j);have at5:q.getD (i+j) 0<1000000000:=G9.getD zo (i+j);have HS:=zh (DF hjlt hij HVq.out);have HC:=zh (BO hcb at5 hdl Ta)
     have HO:Hid (∀ d:Nat,d<1000000000→(wr.setCell ⟨w.heap.size,i+j,none⟩ (.int .u32 (d:Int))).ownsRow w.heap.size 22 1 (.slice (some ⟨w.heap.size,0,none⟩) (l.length+m.length) (l.length+m.length)) (l.length+m.length) (dX (q.set (i+j) d)) ∧
       Below w.heap.size w (wr.setCell ⟨w.heap.size,i+j,none⟩ (.int .u32 (d:Int)))∧fV 1000000000 (q.set (i+j) d)∧(q.set (i+j) d).length=l.length+m.length∧(∀ t,i+m.length≤t→(q.set (i+j) d).getD t 0=0)):=fun d hd=>by
      have h1:=(hown.stored (i+j) (.int .u32 (d:Int))).1;rw [mX] at h1;exact ⟨h1,hb.setCell (Nat.le_refl _) _,G9.set _ hd,by rw [List.length_set];exact TV.out,fun t ht=>by rw [Df zo];exact TT.out t ht⟩
     clear hy0 hd hown HVq G9 TV TT hij;generalize m.getD j 0=y at *;generalize q.getD (i+j) 0=z at *;obtain ⟨hp1,hp2⟩:=JG hdl Ta;have hr:((((c+(z+x*y))%1000000000:Nat)):Int)=((c:Int)+((z:Int)+(x:Int)*(y:Int)))%1000000000:=by rw [Int.natCast_emod,Int.natCast_add,Int.natCast_add,Int.natCast_mul];rfl
     have hq:((((c+(z+x*y)) / 1000000000:Nat)):Int)=((c:Int)+((z:Int)+(x:Int)*(y:Int))) / 1000000000:=by rw [Int.natCast_ediv,Int.natCast_add,Int.natCast_add,Int.natCast_mul];rfl
     have pV:=HO.out _ (Nat.mod_lt (c+(z+x*y)) zo);rw [hr] at pV;have rz:=zh pV;have HR:=zh hq;clear HO pV hr hq
     go_wp2
     go_roundw
     case rel=>exact ⟨j+1,(c+(z+x*y)) / 1000000000,q.set (i+j) ((c+(z+x*y))%1000000000),by omega,HC.out,by go_num,by rw [HR.out],zh rz.out.2.2.2.1,zh rz.out.2.2.2.2,rz.out.1,rz.out.2.2.1,zh (by rw [← Nat.add_assoc i j 1];exact HS.out),rz.out.2.1⟩
     case measure=>exact zM
    ·have hjm:j=m.length:=by omega
     subst hjm;have hij:i+m.length<q.length:=by have:=TV.out;omega
     have hq1:wr.cell? ⟨w.heap.size,i+m.length,none⟩=some (.int .u32 0):=by rw [hown.cellAt (i+m.length) zo,oQ hij,TT.out _ (Nat.le_refl _)];rfl
     have hq2:wr.frozen? ⟨w.heap.size,i+m.length,none⟩=false:=hown.frozenAt (i+m.length)
     have HF:Hid (val 1000000000 (q.set (i+m.length) c)=val 1000000000 (l.take (i+1))*val 1000000000 m) :=
      BN hlt hij (TT.out _ (Nat.le_refl _)) (by have:=HVq.out;rw [List.take_length] at this;rw [HX.out];exact this)
     have HO:Hid ((wr.setCell ⟨w.heap.size,i+m.length,none⟩ (.int .u32 (c:Int))).ownsRow w.heap.size 22 1 (.slice (some ⟨w.heap.size,0,none⟩) (l.length+m.length) (l.length+m.length)) (l.length+m.length) (dX (q.set (i+m.length) c)) ∧
       Below w.heap.size w (wr.setCell ⟨w.heap.size,i+m.length,none⟩ (.int .u32 (c:Int)))∧fV 1000000000 (q.set (i+m.length) c)∧(q.set (i+m.length) c).length=l.length+m.length∧(∀ t,i+1+m.length≤t→(q.set (i+m.length) c).getD t 0=0)):=by
      have h1:=(hown.stored (i+m.length) (.int .u32 (c:Int))).1;rw [mX] at h1;exact ⟨h1,hb.setCell (Nat.le_refl _) _,G9.set _ hcb,by rw [List.length_set];exact TV.out,fun t ht=>by rw [Df zo];exact TT.out t zo⟩
     clear hown HVq G9 TV TT hij hd
     go_wp2
     go_roundw
     case rel=>exact ⟨i+1,q.set (i+m.length) c,by omega,by go_num,zh HO.out.2.2.2.1,HO.out.2.2.2.2,HO.out.1,HO.out.2.2.1,HF,HO.out.2.1⟩
     case measure=>exact zM
  ·have as7:i=l.length:=by omega
   subst as7;clear hc hd;have HF:Hid (val 1000000000 p=val 1000000000 l*val 1000000000 m):=by have:=HV.out;rwa [List.take_length] at this
   have hown3:nR wr (.slice (some ⟨w.heap.size,0,none⟩) (l.length+m.length) (l.length+m.length)) p:=nR.gP hown;clear hown HV;go_wp2_with ((first|go_at_call 161|go_at_call 248|go_at_call 212);refine (qb _ _ _ hown3 hdp).mono ?_;rintro e w' ⟨v,rfl,rfl,hv⟩)
   go_ret
   exact ⟨v,rfl,hb,by rw [← HF.out];exact hv⟩):G:=h
theorem yA (pl ps:Option Addr) (cl cs:Nat) (l m:List Nat) (w:World) (hl:fV 1000000000 l) (hmd:fV 1000000000 m) (hb1:l.length≤1099511627776) (hb2:m.length≤1099511627776)
   (hc:∀ k,k<l.length→∃ b off,pl=some ⟨b,off,none⟩∧b<w.heap.size∧w.cell? ⟨b,off+k,none⟩=some (.int .u32 (l.getD k 0:Nat)))
   (hd:∀ k,k<m.length→∃ b off,ps=some ⟨b,off,none⟩∧b<w.heap.size∧w.cell? ⟨b,off+k,none⟩=some (.int .u32 (m.getD k 0:Nat))) :
    Calls Tryz.prog 94 #[ah pl l.length cl,ah ps m.length cs] w fun e w'=>∃ v,e= aj v∧Bw w w'∧aZ w' v (val 1000000000 l*val 1000000000 m):=aj7
theorem _root_.Go.aj6 {G:Prop} (h:G:=by
 obtain ⟨pa,ca,rfl,h1,h2,h3⟩:=nR.read hx.Cv;obtain ⟨pb,cb,rfl,k1,k2,k3⟩:=nR.read hy.Cv;have:=yA pa pb ca cb _ _ w (dw zo a) (dw zo b) ha hb h3 k3
 rwa [bN zo,bN zo] at this):G:=h
theorem jB (x y:Value) (a b:Nat) (w:World) (hx:aZ w x a) (hy:aZ w y b) (ha:sz 1000000000 a≤1099511627776) (hb:sz 1000000000 b≤1099511627776) :
  Calls Tryz.prog 94 #[x,y] w fun e w'=>∃ v,e= aj v∧Bw w w'∧aZ w' v (a*b):=aj6
theorem _root_.Go.aj5 {G:Prop} (h:G:=by
 obtain ⟨i0,hi,hz0,hz1,hz2⟩:=info_parts Aa;go_enter al5,al0
 go_wp2_with (at_make;refine wpList_make_full _ rfl _ _ K6 rfl w.heap.size 22 i0 (.int .u32 0) 1 Lb hi hz0 hz1 _ _ _ _ l.length rfl rfl zo zo (by rw [hz2];omega) (by unfold maxLen;omega) (Nat.le_refl _) ?_)
 intro w0 hown0 lZ;rw [tJ] at hown0
 go_wp2
 go_loopw [7,8] (fun rv iv wr=>∃ (q:Int) (r:Nat) (s:List Nat), -1≤q∧q<l.length∧r<d∧iv= .int .i64 q∧rv= .int .u64 r∧Hid (s.length=l.length - (q+1).toNat) ∧
   wr.ownsRow w.heap.size 22 1 (.slice (some ⟨w.heap.size,0,none⟩) l.length l.length) l.length (dX (List.replicate (q+1).toNat 0++s))∧fV 1000000000 s∧Hid (val 1000000000 (l.drop (q+1).toNat)=d*val 1000000000 s+r)∧Bw w wr)
  (fun _ iv _=>(intOf iv+1).toNat)
 case atStart =>
  have e:((l.length:Int) - 1+1).toNat=l.length:=by omega
  exact ⟨(l.length:Int) - 1,0,[],by omega,by omega,hd0,rfl,rfl,zh (by rw [e];simp),by rw [e,List.append_nil];exact hown0,fV.nil,zh (by rw [e,List.drop_length];simp [val]),(Below.refl _ _).grown lZ (Nat.le_refl _) (fun k h=>by cases h)⟩
 case round =>
  obtain ⟨q,r,s,hq1,hq2,hrd,rfl,rfl,HS,hown,hds,HV,hb⟩:=hrel
  by_cases hq:q<0
  ·have hq0:q= -1:=by omega
   subst hq0;have HF:Hid (val 1000000000 l=d*val 1000000000 s+r):=zh (by have:=HV.out;simpa using this);have hown3:nR wr (.slice (some ⟨w.heap.size,0,none⟩) l.length l.length) s:=by have:=nR.gP hown;simpa using this
   have e1:Hid (val 1000000000 l / d=val 1000000000 s):=by unfold Hid;rw [HF.out,Nat.mul_add_div hd0,Nat.div_eq_of_lt hrd,Nat.add_zero]
   have e2:Hid (val 1000000000 l%d=r):=by unfold Hid;rw [HF.out,Nat.mul_add_mod,Nat.mod_eq_of_lt hrd]
   clear hown HV HF HS hc;go_wp2_with ((first|go_at_call 161|go_at_call 248|go_at_call 212);refine (qb _ _ _ hown3 hds).mono ?_;rintro e w' ⟨v,rfl,rfl,hv⟩)
   go_ret2
   exact ⟨v,by rw [e2.out];rfl,hb,by rw [e1.out];exact hv⟩
  ·obtain ⟨j,rfl⟩:=Int.eq_ofNat_of_zero_le (by omega:0≤q);have ej:((j:Int)+1).toNat=j+1:=by omega
   have hjl:j<l.length:=by omega
   rw [ej] at HS HV hown;obtain ⟨b,off,rfl,hbb,hx0⟩:=hc j hjl;have hx:wr.cell? ⟨b,off+j,none⟩=some (.int .u32 (l.getD j 0:Nat)):=(hb.cell (by exact hbb)).trans hx0;have hdl:l.getD j 0<1000000000:=hl.getD zo j;have hlen:(List.replicate (j+1) 0++s).length=l.length:=by rw [List.length_append,List.length_replicate,HS.out];omega
   have hr1:wr.cell? ⟨w.heap.size,j,none⟩=some (.int .u32 0):=by
    rw [hown.cellAt j zo,oQ (by rw [hlen];exact hjl),xG zo];rfl
   have hr2:wr.frozen? ⟨w.heap.size,j,none⟩=false:=hown.frozenAt j;have HP:=zh (DN hjl HV.out);have hdg:=BP hrd hdl;have hmd:=Nat.mod_lt (r*1000000000+l.getD j 0) hd0
   have HO:Hid (∀ d:Nat,(wr.setCell ⟨w.heap.size,j,none⟩ (.int .u32 (d:Int))).ownsRow w.heap.size 22 1 (.slice (some ⟨w.heap.size,0,none⟩) l.length l.length) l.length (dX (List.replicate j 0++d::s))∧Below w.heap.size w (wr.setCell ⟨w.heap.size,j,none⟩ (.int .u32 (d:Int)))):=fun d=>by
    have h1:=(hown.stored j (.int .u32 (d:Int))).1;rw [mX,zD] at h1;exact ⟨h1,hb.setCell (Nat.le_refl _) _⟩
   clear hx0 hc hown hlen;generalize l.getD j 0=x at *;have hqi:(((r*1000000000+x) / d:Nat):Int)=((r:Int)*1000000000+(x:Int)) / (d:Int):=by rw [Int.natCast_ediv,Int.natCast_add,Int.natCast_mul];rfl
   have Ws:(((r*1000000000+x)%d:Nat):Int)=((r:Int)*1000000000+(x:Int))%(d:Int):=by rw [Int.natCast_emod,Int.natCast_add,Int.natCast_mul];rfl
   generalize (r*1000000000+x) / d=Q at *;generalize (r*1000000000+x)%d=M at *;have g1:0≤((r:Int)*1000000000+(x:Int)) / (d:Int):=by rw [← hqi];omega
   have g2:((r:Int)*1000000000+(x:Int)) / (d:Int)≤999999999:=by rw [← hqi];omega
   have g3:0≤((r:Int)*1000000000+(x:Int))%(d:Int):=by rw [← Ws];omega
   have g4:((r:Int)*1000000000+(x:Int))%(d:Int)≤999999999:=by rw [← Ws];omega
   have pV:=HO.out Q;rw [hqi] at pV;have rz:=zh pV;have HM:=zh Ws;have HG:=zh hdg;have HM2:=zh hmd;clear pV HO hqi Ws hdg hmd
   go_wp2
   go_roundw
   case rel=>exact ⟨(j:Int) - 1,M,Q::s,by omega,by omega,HM2.out,rfl,by rw [HM.out],zh (by rw [List.length_cons,HS.out];omega),by rw [show ((j:Int) - 1+1).toNat=j by omega];exact rz.out.1,hds.cons HG.out,zh (by rw [show ((j:Int) - 1+1).toNat=j by omega];exact HP.out),rz.out.2⟩
   case measure=>simp [intOf]):G:=h
theorem qG (pl:Option Addr) (cl:Nat) (l:List Nat) (d:Nat) (w:World) (hl:fV 1000000000 l) (hb1:l.length≤1099511627776) (hd0:0<d) (hd1:d≤1000000000)
   (hc:∀ k,k<l.length→∃ b off,pl=some ⟨b,off,none⟩∧b<w.heap.size∧w.cell? ⟨b,off+k,none⟩=some (.int .u32 (l.getD k 0:Nat))) :
    Calls Tryz.prog 159 #[ah pl l.length cl,Z .u32 d] w fun e w'=>∃ v,e= aj (aD #[v,Z .u32 (val 1000000000 l%d:Nat)])∧Bw w w'∧aZ w' v (val 1000000000 l / d):=aj5
theorem vP (x:Value) (a d:Nat) (w:World) (hx:aZ w x a) (ha:sz 1000000000 a≤1099511627776) (hd0:0<d) (hd1:d≤1000000000) :
  Calls Tryz.prog 159 #[x,Z .u32 d] w fun e w'=>∃ v,e= aj (aD #[v,Z .u32 (a%d:Nat)])∧Bw w w'∧aZ w' v (a / d):=by
 obtain ⟨pa,ca,rfl,h1,h2,h3⟩:=nR.read hx.Cv;have:=qG pa ca _ d w (dw zo a) ha hd0 hd1 h3
 rwa [bN zo] at this
theorem _root_.Go.aB2 {G:Prop} (h:G:=by
 have HV0:=zh hv;clear hv;go_enter aC4,aC3
 go_wp2
 go_loop [3,4] (fun rv iv=>∃ (q:Int) (r:Nat), -1≤q∧q<l.length∧iv= .int .i64 q∧rv= .int .u64 r∧Hid (r=val 1000000000 (l.drop (q+1).toNat)))
  (fun _ iv=>(intOf iv+1).toNat)
 case atStart =>
  have e:((l.length:Int) - 1+1).toNat=l.length:=by omega
  exact ⟨(l.length:Int) - 1,0,by omega,by omega,rfl,rfl,zh (by rw [e,List.drop_length];rfl)⟩
 case round =>
  obtain ⟨q,r,hq1,hq2,rfl,rfl,HV⟩:=hrel
  by_cases hq:q<0
  ·have hq0:q= -1:=by omega
   subst hq0
   go_wp2
   go_ret
   exact ⟨by have:=HV.out;rw [show ((-1:Int)+1).toNat=0 by omega,List.drop_zero] at this;rw [← this];rfl,rfl⟩
  ·obtain ⟨j,rfl⟩:=Int.eq_ofNat_of_zero_le (by omega:0≤q);have ej:((j:Int)+1).toNat=j+1:=by omega
   have hjl:j<l.length:=by omega
   rw [ej] at HV;obtain ⟨b,off,rfl,hbb,hx⟩:=hc j hjl;have HS:=zh (uz (B:=1000000000) hjl)
   have hbd:r*1000000000+l.getD j 0≤18446744073709551615:=by
    have h1:=HS.out;have h2:=BK 1000000000 zo l j;have h3:=HV0.out;have h4:=HV.out;rw [← h4] at h1;omega
   clear hc;generalize l.getD j 0=x at *
   go_wp2
   go_round
   case rel=>exact ⟨(j:Int) - 1,r*1000000000+x,by omega,by omega,rfl,by go_num,zh (by rw [show ((j:Int) - 1+1).toNat=j by omega,HS.out,← HV.out])⟩
   case measure=>simp [intOf]):G:=h
theorem yH (pl:Option Addr) (cl:Nat) (l:List Nat) (w:World) (hm:l.length≤9223372036854775807) (hv:val 1000000000 l≤18446744073709551615)
   (hc:∀ k,k<l.length→∃ b off,pl=some ⟨b,off,none⟩∧b<w.heap.size∧w.cell? ⟨b,off+k,none⟩=some (.int .u32 (l.getD k 0:Nat))) :
    Calls Tryz.prog 157 #[ah pl l.length cl] w fun e w'=>e= aj (Z .u64 (val 1000000000 l:Nat))∧w=w':=aB2
theorem DL (x:Value) (a:Nat) (w:World) (hx:aZ w x a) (ha:a≤18446744073709551615) :
  Calls Tryz.prog 157 #[x] w fun e w'=>e= aj (Z .u64 (a:Nat))∧w=w':=by
 obtain ⟨pa,ca,rfl,h1,h2,h3⟩:=nR.read hx.Cv;have:=yH pa ca _ w zo (by rw [bN zo];exact ha) h3
 rwa [bN zo] at this
theorem _root_.Go.aj4 {G:Prop} (h:G:=by
 obtain ⟨i0,hi,hz0,hz1,hz2⟩:=info_parts Aa;go_enter ak9,ak8
 go_wp2
 go_loopw [0,3] (fun av mv wr=>∃ (b:Nat) (s:List Nat),b≤18446744073709551615∧s.length≤3∧av= .int .u64 b∧wr.ownsRow w.heap.size 22 1 mv s.length (dX s)∧Hid (s++d9 1000000000 b=d9 1000000000 a)∧Bw w wr)
  (fun av _ _=>(intOf av).toNat)
 case atStart=>exact ⟨a,[],ha,by simp,rfl,World.ownsRow_nil _ _ _ _,zh rfl,Below.refl _ _⟩
 case round =>
  obtain ⟨b,s,hb1,hb2,rfl,hown,HD,hb⟩:=hrel
  rcases Nat.eq_zero_or_pos b with h0|h0
  ·subst h0
   go_wp2
   go_ret
   refine ⟨_,rfl,hb,?_⟩;have e:=HD.out;rw [iA,List.append_nil] at e;subst e;exact Row.gP hown
  ·have HN:Hid ((s++[b%1000000000])++d9 1000000000 (b / 1000000000)=d9 1000000000 a):=by
    unfold Hid;rw [← HD.out,mD zo h0,List.append_assoc];rfl
   have hdv:b / 1000000000<b:=Nat.div_lt_self h0 zo
   have hl3:s.length+1≤3:=by
    have h1:=congrArg List.length HN.out;have h2:=dF (B:=1000000000) zo 3 a zo;unfold sz at h2;simp only [List.length_append,List.length_cons,List.length_nil] at h1;omega
   go_wp2_with (at_builtin;refine wpList_append_own _ rfl (.tmp 8) (.tmp 12) K6 rfl w.heap.size 22 i0 (.int .u32 0) 1 4 Lb hi hz0 hz1 hz2 rfl zd _ _ _ rfl (hown.alloc _) ⟨wr.heap.size,0,none⟩ 1 1 [.int .u32 ((b:Int)%1000000000)] rfl rfl (by intro t u ht;match t,ht with|0,ht=>simp at ht;subst ht;simp [Addr.add]) (by intro u hu;simp at hu;subst hu;rfl) (by unfold maxLen;omega) zo (by have:=hb.size;simp;omega) ?_)
   intro v' w1 hown1 hgrow1 _
   have hown2:w1.ownsRow w.heap.size 22 1 v' (s++[b%1000000000]).length (dX (s++[b%1000000000])):=by
    have e:dX (s++[b%1000000000])=dX s++[.int .u32 ((b:Int)%1000000000)]:=by unfold dX;simp only [List.map_append,List.map_cons,List.map_nil];rfl
    rw [e,List.length_append];exact hown1
   have hb3:Bw w w1:=(hb.alloc hb.size _).grown hgrow1 (by simp;have:=hb.size;omega) (fun k hk=>(hown.lt k hk).1);clear hown hown1 hgrow1
   go_wp2
   go_roundw
   case rel=>exact ⟨b / 1000000000,s++[b%1000000000],by omega,by rw [List.length_append];exact hl3,by go_num,hown2,HN,hb3⟩
   case measure=>simp [intOf];omega):G:=h
theorem mM (a:Nat) (w:World) (ha:a≤18446744073709551615) :
  Calls Tryz.prog 158 #[Z .u64 a] w fun e w'=>∃ v,e= aj v∧Bw w w'∧aZ w' v a:=aj4
def u7 (w:World) (g k:Nat) (pre u post v:List Nat) (e:Ending) (w':World):Prop :=
 e= aj (Z .u32 (val 1000000000 u / val 1000000000 v:Nat))∧w.grownBy w' (some g) ∧
   ∃ s,aA w' g (dX (pre++(s++[0])++post)).toArray 22∧s.length=k+2∧fV 1000000000 s∧val 1000000000 s=val 1000000000 u%val 1000000000 v
theorem _root_.Go.aj3 {G:Prop} (h:G:=by
 obtain ⟨bv,ov,rfl,hbg,hbv,_⟩:=hd 0 zo
 have hvc:∀ (w':World),w.grownBy w' (some g)→∀ i,i<k+2→w'.cell? ⟨bv,ov+i,none⟩=some (.int .u32 (v.getD i 0:Nat)):=fun w' hg i hi=>by
  obtain ⟨b,off,h1,h2,h3,h4⟩:=hd i hi;simp only [Option.some.injEq,Addr.mk.injEq,and_true] at h1;obtain ⟨rfl,rfl⟩:=h1;exact hg.cell h4 (by simpa using h2)
 have huc:∀ (w':World) (x:List Nat),x.length=k+3→aA w' g (dX (pre++x++post)).toArray 22→∀ i,i<k+3→w'.cell? ⟨g,j+i,none⟩=some (.int .u32 (x.getD i 0:Nat)):=fun w' x hx hb i hi=>by
  rw [hb.cell,List.getElem?_toArray,oQ (by simp;omega)];rw [List.getD_eq_getElem?_getD,List.append_assoc,List.getElem?_append_right zo,hj,Nat.add_sub_cancel_left,List.getElem?_append_left zo];rfl
 have HVC:=zh hvc;have HUC:=zh huc;have ad8:=zh ZU;have HLT:=zh hlt;have HU:=zh hu;have HVl:=zh hv;have HJ:=zh hj;clear hvc huc hd ZU hlt hu hv hj;have h1:=HVC.out w ⟨rfl,rfl,rfl,Nat.le_refl _,fun _ _ _=>rfl⟩ (k+1) zo;have h2:=HVC.out w ⟨rfl,rfl,rfl,Nat.le_refl _,fun _ _ _=>rfl⟩ k zo;have h3:=HUC.out w u HU.out ad8.out (k+2) zo;have h4:=HUC.out w u HU.out ad8.out (k+1) zo;have h5:=HUC.out w u HU.out ad8.out k zo;have b1:=dv.getD zo (k+1);have b2:=dv.getD zo k;have b3:=du.getD zo (k+2);have b4:=du.getD zo (k+1);have b5:=du.getD zo k;have HG0:=zh (MF zo HU.out HVl.out du ht HLT.out dv);have HGS:=zh (fun q r=>Po (k:=k) (q:=q) (r:=r) (by omega:1<1000000000) HU.out HVl.out du zo HLT.out);have HGE:=zh (fun q r=>Td (k:=k) (q:=q) (r:=r) (by omega:1<1000000000) HU.out HVl.out dv zo);have ba0:=zh ht;clear ht;generalize hT:v.getD (k+1) 0=top at *
 generalize hV2:v.getD k 0=v2 at *;generalize hUN:u.getD (k+2) 0=un at *;generalize hU1:u.getD (k+1) 0=u1 at *;generalize hU2:u.getD k 0=u2 at *;have HT:=zh hT;have Ci:=zh hV2;have HUN:=zh hUN;have HU1:=zh hU1;have HU2:=zh hU2;clear hT hV2 hUN hU1 hU2;have htop:500000000≤top:=by have:=ba0.out;omega
 go_enter ak7,ak6
 go_wp2_with fail
 go_quiet (fail)
 obtain ⟨nq0,rfl⟩:∃ m,m=nq:=⟨nq,rfl⟩;go_wp2_with fail
 go_quiet (fail)
 have hw1:w.grownBy ((w.drewN nq0).drewN nq) (some g):=nk (nk (II w _) _) _;have Pf:Hid (aA ((w.drewN nq0).drewN nq) g (dX (pre++u++post)).toArray 22):=ad8.out;obtain ⟨W,hW⟩:∃ W,W=(w.drewN nq0).drewN nq:=⟨_,rfl⟩;rw [← hW] at hw1 Pf ⊢;clear hW h1 h2 h3 h4 h5;have ZK:(((un*1000000000+u1) / top:Nat):Int)=((un:Int)*1000000000+(u1:Int)) / (top:Int):=by rw [Int.natCast_ediv,Int.natCast_add,Int.natCast_mul];rfl
 have hrd:(((un*1000000000+u1)%top:Nat):Int)=((un:Int)*1000000000+(u1:Int))%(top:Int):=by rw [Int.natCast_emod,Int.natCast_add,Int.natCast_mul];rfl
 rw [← ZK,← hrd];clear ZK hrd;have hr0:(un*1000000000+u1)%top<1000000000:=Nat.lt_trans (Nat.mod_lt _ zo) b1;generalize (un*1000000000+u1) / top=q0 at *;generalize (un*1000000000+u1)%top=r0 at *
 go_upto_block 0 with fail
 go_cut [8,9] from 19 (fun q r wc=>∃ qn:Nat,q= .int .u64 qn∧qn≤1000000000∧Hid (val 1000000000 u / val 1000000000 v≤qn)∧Hid (qn≤val 1000000000 u / val 1000000000 v+1)∧w.grownBy wc (some g)∧Hid (aA wc g (dX (pre++u++post)).toArray 22))
 case first =>
  go_wp2_with fail
  go_loopw [8,9] (fun q r wr=>∃ qn rn:Nat,q= .int .u64 qn∧r= .int .u64 rn∧rn<1000000000∧Hid (NW 1000000000 (val 1000000000 u) (val 1000000000 v) top (un*1000000000+u1) qn rn)∧w.grownBy wr (some g)∧Hid (aA wr g (dX (pre++u++post)).toArray 22))
   (fun q _ _=>(intOf q).toNat)
  case atStart=>exact ⟨q0,r0,rfl,rfl,hr0,HG0,hw1,Pf⟩
  case round =>
   obtain ⟨qn,rn,rfl,rfl,hrb,HG,hnr,HB⟩:=hrel;have h2:=HVC.out wr hnr k zo;have h5:=HUC.out wr u HU.out HB.out k zo;rw [Ci.out] at h2;rw [HU2.out] at h5;have hqb:qn≤1000000001:=HG.out.bound
   have hpr:Hid (0≤(qn:Int)*(v2:Int)∧(qn:Int)*(v2:Int)≤1000000001*999999999):=by
    have h:qn*v2≤1000000001*999999999:=Nat.mul_le_mul hqb zo;unfold Hid;rw [← Int.natCast_mul];omega
   obtain ⟨hp1,hp2⟩:=hpr
   by_cases hc:1000000000≤qn
   ·have HS:=zh (HGS.out qn rn HG.out (.inl hc));have hge:decide ((1000000000:Int)≤(qn:Int))=true:=by rw [decide_eq_true_iff];omega
    have HC:=zh hc;have hq1:1≤qn:=by omega
    clear hc
    by_cases hr:1000000000≤rn+top
    ·have hrd:decide ((1000000000:Int)≤(rn:Int)+(top:Int))=true:=by rw [decide_eq_true_iff];omega
     have HR:=zh hr;clear hr;go_wp2_with fail
     go_quiet (fail)
     go_wp2_with fail
     go_meet
     have g2:=HS.out.2;have hq2:qn - 1≤1000000000:=by omega
     have h3:(qn - 1)*v2≤(rn+top)*1000000000+u2:=by
      have h4:(qn - 1)*v2≤1000000000*1000000000:=Nat.mul_le_mul hq2 zo;have h5:=HR.out;omega
     exact ⟨qn - 1,by go_num,hq2,zh g2.high,zh (HGE.out _ _ g2 hq2 h3),nk hnr _,HB⟩
    ·have hrd:decide ((1000000000:Int)≤(rn:Int)+(top:Int))=false:=by rw [decide_eq_false_iff_not];omega
     have HR:=zh hr;clear hr;go_wp2_with fail
     go_quiet (fail)
     go_wp2_with fail
     go_roundw
     case rel=>exact ⟨qn - 1,rn+top,by go_num,by go_num,Nat.lt_of_not_le HR.out,zh HS.out.2,nk hnr _,HB⟩
     case measure=>exact zM
   ·have hge:decide ((1000000000:Int)≤(qn:Int))=false:=by rw [decide_eq_false_iff_not];omega
    have HC:=zh hc;have hq2:qn≤999999999:=by omega
    clear hc
    by_cases ht:rn*1000000000+u2<qn*v2
    ·have HS:=zh (HGS.out qn rn HG.out (.inr ht));have hq1:1≤qn:=HS.out.1;have hlt:(rn:Int)*1000000000+(u2:Int)<(qn:Int)*(v2:Int):=by rw [← Int.natCast_mul];omega
     clear ht
     by_cases hr:1000000000≤rn+top
     ·have hrd:decide ((1000000000:Int)≤(rn:Int)+(top:Int))=true:=by rw [decide_eq_true_iff];omega
      have HR:=zh hr;clear hr;go_wp2_with fail
      go_quiet (fail)
      go_wp2_with fail
      go_meet
      have g2:=HS.out.2;have hq2:qn - 1≤1000000000:=by omega
      have h3:(qn - 1)*v2≤(rn+top)*1000000000+u2:=by
       have h4:(qn - 1)*v2≤1000000000*1000000000:=Nat.mul_le_mul hq2 zo;have h5:=HR.out;omega
      exact ⟨qn - 1,by go_num,hq2,zh g2.high,zh (HGE.out _ _ g2 hq2 h3),nk hnr _,HB⟩
     ·have hrd:decide ((1000000000:Int)≤(rn:Int)+(top:Int))=false:=by rw [decide_eq_false_iff_not];omega
      have HR:=zh hr;clear hr;go_wp2_with fail
      go_quiet (fail)
      go_wp2_with fail
      go_roundw
      case rel=>exact ⟨qn - 1,rn+top,by go_num,by go_num,Nat.lt_of_not_le HR.out,zh HS.out.2,nk hnr _,HB⟩
      case measure=>exact zM
    ·have hlt:¬ (rn:Int)*1000000000+(u2:Int)<(qn:Int)*(v2:Int):=by rw [← Int.natCast_mul];omega
     have HN:=zh (HGE.out _ _ HG.out zo (Nat.le_of_not_lt ht));clear ht;go_wp2_with fail
     go_quiet (fail)
     go_wp2_with fail
     go_meet
     exact ⟨qn,rfl,by omega,zh HG.out.high,HN,nk hnr _,HB⟩
 case rest =>
  obtain ⟨qn,rfl,hqb,TU,HQ2,hnc,HBc⟩:=hcut;clear hw1 Pf hr0 HG0 HGS HGE;go_wp2_with fail
  go_loopw [10,11,12,13,14,77] (fun cv bv' _ _ _ iv wr=>∃ (i c b:Nat) (s:List Nat),i≤k+2∧c≤1000000000∧b≤1∧iv= .int .i64 i∧cv= .int .u64 c∧bv'= .int .i64 b∧Hid (s.length=i)∧fV 1000000000 s ∧
    Hid (aA wr g (dX (pre++(s++u.drop i)++post)).toArray 22)∧w.grownBy wr (some g)∧Hid (val 1000000000 s+qn*val 1000000000 (v.take i)=val 1000000000 (u.take i)+(b+c)*1000000000^i))
   (fun _ _ _ _ _ iv _=>k+2 - (intOf iv).toNat)
  case atStart=>exact ⟨0,0,0,[],Nat.zero_le _,by omega,by omega,rfl,rfl,rfl,rfl,fV.nil,HBc,hnc,zh (by simp [val])⟩
  case round =>
   obtain ⟨i,c,b,s,hi,hcb,hbb,rfl,rfl,rfl,HS,hds,HB,hnr,HV⟩:=hrel
   by_cases hlt:i<k+2
   ·have hc1:=HVC.out wr hnr i hlt;have hc2:=HUC.out wr (s++u.drop i) (by rw [List.length_append,List.length_drop,HU.out,HS.out];omega) HB.out i zo;rw [getD_in HS.out (Nat.le_refl _)] at hc2;have hc3:wr.frozen? ⟨g,j+i,none⟩=false:=aA.free HB.out _;have dvi:=dv.getD zo i;have dui:=du.getD zo i
    have HST:Hid (∀ d b',d+b+(c+qn*v.getD i 0)%1000000000=u.getD i 0+b'*1000000000→val 1000000000 (s++[d])+qn*val 1000000000 (v.take (i+1))=val 1000000000 (u.take (i+1))+(b'+(c+qn*v.getD i 0) / 1000000000)*1000000000^(i+1)) :=
     fun d b' h=>UF (by rw [HU.out];omega) (by rw [HVl.out];omega) HS.out HV.out h rfl
    have HO:Hid (∀ d:Nat,aA (wr.setCell ⟨g,j+i,none⟩ (.int .u32 (d:Int))) g (dX (pre++((s++[d])++u.drop (i+1))++post)).toArray 22∧w.grownBy (wr.setCell ⟨g,j+i,none⟩ (.int .u32 (d:Int))) (some g)):=fun d=>by
     have h1:=aA.set HB.out (j+i) (.int .u32 (d:Int));rw [List.setIfInBounds_toArray,mX,Jy HJ.out HS.out (by rw [HU.out];omega)] at h1;exact ⟨h1,wm hnr _ _⟩
    generalize v.getD i 0=y at *;generalize u.getD i 0=x at *;have hpn:qn*y≤1000000000*999999999:=Nat.mul_le_mul hqb zo;have hp1:0≤(qn:Int)*(y:Int):=by rw [← Int.natCast_mul];omega
    have hp2:(qn:Int)*(y:Int)≤999999999000000000:=by rw [← Int.natCast_mul];omega
    have hM:(((c+qn*y)%1000000000:Nat):Int)=((c:Int)+(qn:Int)*(y:Int))%1000000000:=by rw [Int.natCast_emod,Int.natCast_add,Int.natCast_mul];rfl
    have hC:(((c+qn*y) / 1000000000:Nat):Int)=((c:Int)+(qn:Int)*(y:Int)) / 1000000000:=by rw [Int.natCast_ediv,Int.natCast_add,Int.natCast_mul];rfl
    have hCb:(c+qn*y) / 1000000000≤1000000000:=by omega
    have hMb:(c+qn*y)%1000000000<1000000000:=Nat.mod_lt _ zo;generalize (c+qn*y) / 1000000000=C at *;generalize (c+qn*y)%1000000000=M at *;have Ug:=zh hC;have HM2:=zh hM;have gM1:0≤((c:Int)+(qn:Int)*(y:Int))%1000000000:=by rw [← hM];omega
    have gM2:((c:Int)+(qn:Int)*(y:Int))%1000000000≤999999999:=by rw [← hM];omega
    clear HV HB hpn
    by_cases hneg:x<b+M
    ·have ZL:(x:Int) - (b:Int) - ((c:Int)+(qn:Int)*(y:Int))%1000000000<0:=by rw [← hM];omega
     have pV:=HO.out (x+1000000000 - (b+M));rw [show ((x+1000000000 - (b+M):Nat):Int)=(x:Int) - (b:Int) - ((c:Int)+(qn:Int)*(y:Int))%1000000000+1000000000 by rw [← hM];omega] at pV;have rz:=zh pV;have HN:=zh hneg;clear HO pV hM hC hneg;go_wp2_with fail
     go_roundw
     case rel=>exact ⟨i+1,C,1,s++[x+1000000000 - (b+M)],by omega,hCb,by omega,by go_num,by rw [Ug.out],rfl,zh (by rw [List.length_append,HS.out];rfl),hds.snoc (by have:=HN.out;omega),zh rz.out.1,rz.out.2,zh (HST.out _ _ (by have:=HN.out;omega))⟩
     case measure=>exact zM
    ·have ZL:¬ (x:Int) - (b:Int) - ((c:Int)+(qn:Int)*(y:Int))%1000000000<0:=by rw [← hM];omega
     have pV:=HO.out (x - (b+M));rw [show ((x - (b+M):Nat):Int)=(x:Int) - (b:Int) - ((c:Int)+(qn:Int)*(y:Int))%1000000000 by rw [← hM];omega] at pV;have rz:=zh pV;have HN:=zh hneg;clear HO pV hM hC hneg;go_wp2_with fail
     go_roundw
     case rel=>exact ⟨i+1,C,0,s++[x - (b+M)],by omega,hCb,by omega,by go_num,by rw [Ug.out],rfl,zh (by rw [List.length_append,HS.out];rfl),hds.snoc (by have:=HN.out;omega),zh rz.out.1,rz.out.2,zh (HST.out _ _ (by have:=HN.out;omega))⟩
     case measure=>exact zM
   ·have hik:i=k+2:=by omega
    subst hik
    have ag1:0<val 1000000000 v:=by
     rw [qE HVl.out];have h1:0<1000000000^k:=Nat.pow_pos zo;have h2:0<1000000000^k*(v.getD k 0+1000000000*v.getD (k+1) 0):=Nat.mul_pos h1 (by rw [HT.out];omega);omega
    have aO5:Hid (val 1000000000 s+qn*val 1000000000 v=val 1000000000 (u.take (k+2))+(b+c)*1000000000^(k+2)):=by
     have:=HV.out;rwa [List.take_of_length_le (by rw [HVl.out];omega)] at this
    have HUs:Hid (val 1000000000 u=val 1000000000 (u.take (k+2))+1000000000^(k+2)*un):=by
     have:=dR 1000000000 (l:=u) (k:=k+2) (by rw [HU.out];omega);rw [show k+2+1=u.length by rw [HU.out],List.take_length] at this;rw [HUN.out] at this;exact this
    have hu1:=HUC.out wr (s++u.drop (k+2)) (by rw [List.length_append,List.length_drop,HU.out,HS.out];omega) HB.out (k+2) zo;rw [getD_in HS.out (Nat.le_refl _),HUN.out] at hu1;clear HV
    by_cases hov:un<b+c
    ·have HE:=zh (UH (by omega:1<1000000000) HS.out hds HVl.out dv ag1 aO5.out HUs.out hov HQ2.out);have aG2:(un:Int) - (b:Int)<(c:Int):=by omega
     have hq1:1≤qn:=by rw [HE.out.1];exact Nat.le_add_left _ _
     go_wp2_with fail
     clear hu1 hov aG2
     go_loopw [15,16,17,18,125] (fun ov' _ _ _ iv wr=>∃ (i o:Nat) (t:List Nat),i≤k+2∧o≤1∧iv= .int .i64 i∧ov'= .int .u32 o∧Hid (t.length=i)∧fV 1000000000 t ∧
       Hid (aA wr g (dX (pre++(t++(s++u.drop (k+2)).drop i)++post)).toArray 22)∧w.grownBy wr (some g)∧Hid (val 1000000000 t+o*1000000000^i=val 1000000000 (s.take i)+val 1000000000 (v.take i)))
      (fun _ _ _ _ iv _=>k+2 - (intOf iv).toNat)
     case atStart=>exact ⟨0,0,[],Nat.zero_le _,by omega,rfl,rfl,rfl,fV.nil,HB,hnr,zh (by simp [val])⟩
     case round =>
      clear HB hnr;obtain ⟨i,o,t,hi,hob,rfl,rfl,Ym,hdt,HB,hnr,HV⟩:=hrel;have hxl:(s++u.drop (k+2)).length=k+3:=by rw [List.length_append,List.length_drop,HU.out,HS.out];omega
      by_cases hlt:i<k+2
      ·have hc1:=HVC.out wr hnr i hlt;have hc2:=HUC.out wr (t++(s++u.drop (k+2)).drop i) (by rw [List.length_append,List.length_drop,hxl,Ym.out];omega) HB.out i zo;rw [getD_in Ym.out (Nat.le_refl _)] at hc2;have hsi:(s++u.drop (k+2)).getD i 0=s.getD i 0:=by rw [List.getD_eq_getElem?_getD,List.getElem?_append_left (by rw [HS.out];exact hlt),← List.getD_eq_getElem?_getD]
       rw [hsi] at hc2;have hc3:wr.frozen? ⟨g,j+i,none⟩=false:=aA.free HB.out _;have dvi:=dv.getD zo i;have dui:=hds.getD zo i
       have HST:Hid (∀ d o',d+o'*1000000000=s.getD i 0+o+v.getD i 0→val 1000000000 (t++[d])+o'*1000000000^(i+1)=val 1000000000 (s.take (i+1))+val 1000000000 (v.take (i+1))) :=
        fun d o' h=>xA (by rw [HS.out];exact hlt) Ym.out HV.out h
       have HO:Hid (∀ d:Nat,aA (wr.setCell ⟨g,j+i,none⟩ (.int .u32 (d:Int))) g (dX (pre++((t++[d])++(s++u.drop (k+2)).drop (i+1))++post)).toArray 22∧w.grownBy (wr.setCell ⟨g,j+i,none⟩ (.int .u32 (d:Int))) (some g)):=fun d=>by
        have h1:=aA.set HB.out (j+i) (.int .u32 (d:Int));rw [List.setIfInBounds_toArray,mX,Jy HJ.out Ym.out (by rw [hxl];omega)] at h1;exact ⟨h1,wm hnr _ _⟩
       clear hsi hxl HB HV;generalize v.getD i 0=y at *;generalize s.getD i 0=x at *
       by_cases hge:x+y+o<1000000000
       ·have hge':decide ((1000000000:Int)≤(x:Int)+(y:Int)+(o:Int))=false:=by rw [decide_eq_false_iff_not];omega
        have pV:=HO.out (x+y+o);rw [show ((x+y+o:Nat):Int)=(x:Int)+(y:Int)+(o:Int) by omega] at pV;have rz:=zh pV;have HN:=zh hge;clear HO pV hge;go_wp2_with fail
        go_roundw
        case rel=>exact ⟨i+1,0,t++[x+y+o],by omega,by omega,by go_num,rfl,zh (by rw [List.length_append,Ym.out];rfl),hdt.snoc HN.out,zh rz.out.1,rz.out.2,zh (HST.out _ _ zo)⟩
        case measure=>exact zM
       ·have hge':decide ((1000000000:Int)≤(x:Int)+(y:Int)+(o:Int))=true:=by rw [decide_eq_true_iff];omega
        have aH2:(0:Int)≤(x:Int)+(y:Int)+(o:Int) - 1000000000:=by omega
        have pV:=HO.out (x+y+o - 1000000000);rw [show ((x+y+o - 1000000000:Nat):Int)=(x:Int)+(y:Int)+(o:Int) - 1000000000 by omega] at pV;have rz:=zh pV;have HN:=zh hge;clear HO pV hge;go_wp2_with fail
        go_roundw
        case rel=>exact ⟨i+1,1,t++[x+y+o - 1000000000],by omega,by omega,by go_num,rfl,zh (by rw [List.length_append,Ym.out];rfl),hdt.snoc zo,zh rz.out.1,rz.out.2,zh (HST.out _ _ (by have:=HN.out;omega))⟩
        case measure=>exact zM
      ·have hik:i=k+2:=by omega
       subst hik
       have HR:Hid (val 1000000000 t=val 1000000000 u%val 1000000000 v):=by
        have h1:=HV.out;rw [List.take_of_length_le (by rw [HS.out];exact Nat.le_refl _),List.take_of_length_le (by rw [HVl.out];exact Nat.le_refl _),HE.out.2] at h1;have h2:=jd (by omega:0<1000000000) hdt;rw [Ym.out] at h2;have h3:o=0∨o=1:=by omega
        unfold Hid
        rcases h3 with rfl|rfl<;>omega
       have HB:Hid (aA wr g (dX (pre++(t++u.drop (k+2))++post)).toArray 22):=by
        have h1:=HB.out;rw [List.drop_append_of_le_length (by rw [HS.out];exact Nat.le_refl _),List.drop_of_length_le (by rw [HS.out];exact Nat.le_refl _),List.nil_append] at h1;exact h1
       have hbf:aA wr g (dX (pre++(t++u.drop (k+2))++post)).toArray 22:=HB.out;have hn1:=HUC.out wr (t++u.drop (k+2)) (by rw [List.length_append,List.length_drop,HU.out,Ym.out];omega) HB.out (k+2) zo;have hn2:wr.frozen? ⟨g,j+(k+2),none⟩=false:=hbf.free _
       have XI:Hid (aA (wr.setCell ⟨g,j+(k+2),none⟩ (.int .u32 0)) g (dX (pre++(t++[0])++post)).toArray 22∧w.grownBy (wr.setCell ⟨g,j+(k+2),none⟩ (.int .u32 0)) (some g)):=by
        have h1:=hbf.set (j+(k+2)) (.int .u32 ((0:Nat):Int));rw [List.setIfInBounds_toArray,mX,Jy HJ.out Ym.out (by rw [HU.out];omega),List.drop_eq_nil_of_le (by rw [HU.out];omega),List.append_nil] at h1;exact ⟨h1,wm hnr _ _⟩
       clear hbf HB hnr;go_wp2_with fail
       go_ret
       unfold u7;exact ⟨by rw [show val 1000000000 u / val 1000000000 v=qn - 1 by rw [HE.out.1];rfl,Int.natCast_sub hq1];rfl,XI.out.2,t,XI.out.1,Ym.out,hdt,HR.out⟩
    ·have HE:=zh (UK (by omega:1<1000000000) HVl.out dv ag1 aO5.out HUs.out zo TU.out);have aG2:¬ (un:Int) - (b:Int)<(c:Int):=by omega
     have hbf:aA wr g (dX (pre++(s++u.drop (k+2))++post)).toArray 22:=HB.out;have hn1:=HUC.out wr (s++u.drop (k+2)) (by rw [List.length_append,List.length_drop,HU.out,HS.out];omega) HB.out (k+2) zo;have hn2:wr.frozen? ⟨g,j+(k+2),none⟩=false:=hbf.free _
     have XI:Hid (aA (wr.setCell ⟨g,j+(k+2),none⟩ (.int .u32 0)) g (dX (pre++(s++[0])++post)).toArray 22∧w.grownBy (wr.setCell ⟨g,j+(k+2),none⟩ (.int .u32 0)) (some g)):=by
      have h1:=hbf.set (j+(k+2)) (.int .u32 ((0:Nat):Int));rw [List.setIfInBounds_toArray,mX,Jy HJ.out HS.out (by rw [HU.out];omega),List.drop_eq_nil_of_le (by rw [HU.out];omega),List.append_nil] at h1;exact ⟨h1,wm hnr _ _⟩
     clear hbf HB hnr;go_wp2_with fail
     go_ret
     unfold u7;exact ⟨by rw [← HE.out.1];rfl,XI.out.2,s,XI.out.1,HS.out,hds,HE.out.2⟩):G:=h
theorem vV (g j k cu:Nat) (pv:Option Addr) (cv:Nat) (pre u post v:List Nat) (w:World) (hj:pre.length=j) (hu:u.length=k+3) (hv:v.length=k+2) (du:fV 1000000000 u) (dv:fV 1000000000 v) (hk:k≤1099511627776)
  (ht:1000000000≤2*v.getD (k+1) 0) (hlt:val 1000000000 u<val 1000000000 v*1000000000) (ZU:aA w g (dX (pre++u++post)).toArray 22)
  (hd:∀ i,i<k+2→∃ b off,pv=some ⟨b,off,none⟩∧b≠g∧b<w.heap.size∧w.cell? ⟨b,off+i,none⟩=some (.int .u32 (v.getD i 0:Nat))) :
  Calls Tryz.prog 160 #[ah (some ⟨g,j,none⟩) (k+3) cu,ah pv (k+2) cv] w (u7 w g k pre u post v):=aj3
def kT (w:World) (q r:Nat) (e:Ending) (w':World):Prop:=∃ vq vr,e= aj (aD #[vq,vr])∧Bw w w'∧aZ w' vq q∧aZ w' vr r
theorem _root_.Go.aj2 {G:Prop} (h:G:=by
 have HX:=zh hx;have hs:=qH h;rw [Nat.div_eq_of_lt h,Nat.mod_eq_of_lt h];have HC:=zh (jT x y a b w hx hy);rw [hs] at HC;clear hx hs hy h;go_enter Uj,Ui
 go_wp2_with ((first|go_at_call 156|go_at_call 244|go_at_call 266);refine (HC.out).mono ?_;rintro e w1 ⟨rfl,hb1⟩)
 go_ret2
 exact ⟨_,_,rfl,hb1,aZ.zero _,HX.out.later hb1⟩):G:=h
theorem wL (x y:Value) (a b:Nat) (w:World) (hx:aZ w x a) (hy:aZ w y b) (h:a<b) :
  Calls Tryz.prog 92 #[x,y] w (kT w (a / b) (a%b)):=aj2
theorem _root_.Go.aj1 {G:Prop} (h:G:=by
 have hs:sQ a b=0∨sQ a b=1:=by
  rcases Nat.lt_or_ge b a with h2|h2
  ·exact .inr (pK h2)
  ·have:a=b:=by omega
   subst this;exact .inl (rY a)
 have hdb:d9 1000000000 b=[b]:=by rw [mD zo hb0,Nat.mod_eq_of_lt hb1,Nat.div_eq_of_lt hb1,iA]
 obtain ⟨p,c,e1, -, -, e3⟩:=nR.read hy.Cv;rw [hdb] at e1 e3;simp only [List.length_cons,List.length_nil,Value.slice.injEq] at e1;obtain ⟨rfl, -, rfl⟩:=e1;obtain ⟨b2,off,rfl,hb2,hcell⟩:=e3 0 zi;have hcell2:w.cell? ⟨b2,off,none⟩=some (.int .u32 (b:Int)):=by simpa using hcell
 have HC:=zh (jT _ _ a b w hx hy);have HX:=zh hx;clear hdb hcell e3 hx hy;have hmod:a%b<1000000000:=Nat.lt_trans (Nat.mod_lt _ hb0) hb1
 rcases hs with hs|hs
 all_goals
  rw [hs] at HC;clear hs;go_enter Uj,Ui
  go_wp2_with ((first|go_at_call 156|go_at_call 244|go_at_call 266);refine (HC.out).mono ?_;rintro e w1 ⟨rfl,Ph⟩;have hc1:w1.cell? ⟨b2,off,none⟩=some (.int .u32 (b:Int)):=(Ph.cell (by exact hb2)).trans hcell2)
  refine (vP _ a b _ (HX.out.later Ph) zo hb0 zo).mono ?_;rintro e w2 ⟨v,rfl,Pg,hv⟩;have HV:=zh hv;clear hv;generalize hm:a%b=m at *;have HM:=zh hm;clear hm;go_wp2_with fail
  refine (mM m _ zo).mono ?_;rintro e w3 ⟨v3,rfl,aI1,hv3⟩;have HV3:=zh hv3;clear hv3;go_wp2_with fail
  go_ret2
  exact ⟨_,_,rfl,Bt (Bt Ph Pg) aI1,HV.out.later aI1,HV3.out⟩):G:=h
theorem uR (pa pb:Option Addr) (ca cb:Nat) (a b:Nat) (w:World) (hx:aZ w (ah pa (sz 1000000000 a) ca) a) (hy:aZ w (ah pb 1 cb) b) (hb0:0<b) (hb1:b<1000000000) (h:b≤a) (ha:sz 1000000000 a≤549755813888) :
  Calls Tryz.prog 92 #[ah pa (sz 1000000000 a) ca,ah pb 1 cb] w (kT w (a / b) (a%b)):=aj1
theorem _root_.Go.aj0 {G:Prop} (h:G:=by
 obtain ⟨i0,hi,hz0,hz1,hz2⟩:=info_parts Aa
 have hs:sQ a b=0∨sQ a b=1:=by
  rcases Nat.lt_or_ge b a with h2|h2
  ·exact .inr (pK h2)
  ·have:a=b:=by omega
   subst this;exact .inl (rY a)
 have hb0:0<b:=by
  rcases Nat.eq_zero_or_pos b with h0|h0
  ·rw [h0,xu] at hsb;omega
  ·exact h0
 have hkl:k+2≤sz 1000000000 a:=by rw [← hsb];exact iJ zo h
 obtain ⟨ht0,htB,hs0,hs5,hsv,htv⟩:=Ls hsb;obtain ⟨hd1,hd2,hd3,hd4,hd5⟩:=dividend (a:=a) hs0 zo hsb hkl;obtain ⟨p,c,e1, -, -, e3⟩:=nR.read hy.Cv;have hlb:(d9 1000000000 b).length=k+2:=hsb;rw [hlb] at e1 e3;simp only [Value.slice.injEq] at e1;obtain ⟨rfl, -, rfl⟩:=e1;obtain ⟨b2,off,rfl,hb2,hcell⟩:=e3 (k+1) zo;have HC:=zh (jT _ _ a b w hx hy);have HX:=zh hx;have HY:=zh hy;have HSV:=zh hsv;have HTV:=zh htv;have HD4:=zh hd4;have HD5:=zh hd5;have HD2:=zh hd2;have XJ:=zh hsb;clear e3 hx hy hsv htv hd4 hd5 hd2 hsb hlb;have htop:=XJ.out;generalize hT:(d9 1000000000 b).getD (k+1) 0=t at *;clear hT htop;have hdiv:((1000000000 / (t+1):Nat):Int)=1000000000 / ((t:Int)+1):=by rw [Int.natCast_ediv];rfl
 have hsc1:(0:Int)≤1000000000 / ((t:Int)+1):=by rw [← hdiv];exact Int.natCast_nonneg _
 generalize hS:1000000000 / (t+1)=S at *;have hsc2:1000000000 / ((t:Int)+1)≤500000000:=by rw [← hdiv];omega
 have NM:=zh hdiv;have HSq:=zh hS;clear hdiv hS;generalize hus:d9 1000000000 (a*S)++List.replicate (sz 1000000000 a+1 - sz 1000000000 (a*S)) 0=us at *;have HUS:=zh hus;clear hus;generalize hL:sz 1000000000 a=L at *;have HL:=zh hL;clear hL
 rcases hs with hs|hs
 all_goals
  rw [hs] at HC;clear hs;go_enter Uj,Ui
  go_wp2_with ((first|go_at_call 156|go_at_call 244|go_at_call 266);refine (HC.out).mono ?_;rintro e w1 ⟨rfl,Ph⟩;have hc1:w1.cell? ⟨b2,off+(k+1),none⟩=some (.int .u32 (t:Int)):=(Ph.cell (by exact hb2)).trans hcell)
  rw [← NM.out];refine (jB _ _ b S _ ((HY.out.later Ph).later ((Below.refl _ _).alloc (Nat.le_refl _) _)) (aZ.lit hs0 zo) (by rw [XJ.out];omega) (by have:=dF (B:=1000000000) zo 1 S zo;omega)).mono ?_;rintro e w2 ⟨vv,rfl,Pg,hv⟩;have hbw2:Bw w w2:=Bt (Bt Ph ((Below.refl _ _).alloc (Nat.le_refl _) _)) Pg;obtain ⟨pv,cv,rfl,hv1,hv2,hv3⟩:=nR.read hv.Cv;have HVR:=zh hv3;have hvl:(d9 1000000000 (b*S)).length=k+2:=HSV.out;rw [hvl] at hv1 ⊢;have HVL:=zh hvl;clear hv hv3 hvl hc1 Pg;go_wp2_with (at_make;refine wpList_make_full _ rfl _ _ K6 rfl w2.heap.size 22 i0 (.int .u32 0) 1 Lb hi hz0 hz1 _ _ _ _ (L+1) rfl rfl zo zo (by rw [hz2];omega) (by unfold maxLen;omega) (Nat.le_refl _) ?_)
  intro w3 hown3 hgrow3;rw [tJ] at hown3;have aH9:=zh (wR hown3).1;have FH:Bw w2 w3:=(Below.refl _ _).grown hgrow3 (Nat.le_refl _) (fun k h=>by cases h);clear hown3 hgrow3;go_wp2_with fail
  refine (jB _ _ a S _ ((HX.out.later (Bt hbw2 FH)).later ((Below.refl _ _).alloc (Nat.le_refl _) _)) (aZ.lit hs0 zo) (by rw [HL.out];omega) (by have:=dF (B:=1000000000) zo 1 S zo;omega)).mono ?_;rintro e w4 ⟨vt,rfl,aI0,ZI⟩;obtain ⟨pt,ct,rfl,ht1,ht2,ht3⟩:=nR.read ZI.Cv;have au0:Bw w3 w4:=Bt ((Below.refl _ _).alloc (Nat.le_refl _) _) aI0;have aH8:=zh (aH9.out.later au0);have aI6:=Bt FH au0;have HTS:=zh (fun h=>nR.src ht3 h);clear ZI ht3 aI0 aH9
  go_wp2_with (refine wpList_copy_splice (o:=⟨some 54,_,_,_,_,_⟩) rfl (.tmp 49) (.tmp 53) K6 K6 rfl 22 Lb (by rw [hi];simp [hz1]) _ _ _ _ _ _ rfl rfl w2.heap.size 0 (dX (List.replicate (L+1) 0)) 22 aH8.out (dX (d9 1000000000 (a*S))) (by rw [fI];exact (Nat.min_eq_left hd1).symm) (fun h=>⟨rfl,HTS.out h⟩) (by rw [Nat.zero_add,fI,fI,List.length_replicate];exact hd1) (Jq _) w2.heap.size w2 aI6 (Nat.le_refl _) ?_)
  intro w5 aH7 aI5
  have WB:Hid (aA w5 w2.heap.size (dX us).toArray 22):=by
   have h1:=aH7.out;unfold splice at h1
   have e:List.take 0 (dX (List.replicate (L+1) 0))++(dX (d9 1000000000 (a*S))++List.drop (0+(dX (d9 1000000000 (a*S))).length) (dX (List.replicate (L+1) 0)))=dX us:=by
    rw [← HUS.out];unfold dX sz;simp
   rw [e] at h1;exact h1
  have hg5:w2.heap.size<w5.heap.size:=aA.lt WB.out;clear aH7 aH8 HTS;go_wp2_with (at_make;refine wpList_make_full _ rfl _ _ K6 rfl w5.heap.size 22 i0 (.int .u32 0) 1 Lb hi hz0 hz1 _ _ _ _ (L - (k+2)+1) rfl rfl zo zo (by rw [hz2];omega) (by unfold maxLen;omega) (Nat.le_refl _) ?_)
  intro w6 hown6 Wy;rw [tJ] at hown6;have aI2:=zh (wR hown6).1;have at7:Bw w5 w6:=(Below.refl _ _).grown Wy (Nat.le_refl _) (fun k h=>by cases h);have aI3:=zh (WB.out.later at7);have aI4:Bw w2 w6:=aI5.trans (at7.mono (Nat.le_of_lt hg5));clear hown6 Wy WB at7;go_wp2_with fail
  go_loopw [12] (fun jv wr=>∃ (q:Int) (s qs:List Nat), -1≤q∧q≤(L:Int) - ((k:Int)+2)∧jv= .int .i64 q∧Hid (s.length=k+2)∧fV 1000000000 s∧fV 1000000000 qs∧Hid (qs.length+(q+1).toNat=L - (k+2)+1) ∧
    Hid (aA wr w2.heap.size (dX (us.take (q+1).toNat++(s++List.replicate (L+1 - (q+1).toNat - (k+2)) 0))).toArray 22)∧Hid (aA wr w5.heap.size (dX (List.replicate (q+1).toNat 0++qs)).toArray 22) ∧
    Hid (val 1000000000 (us.drop (q+1).toNat)=b*S*val 1000000000 qs+val 1000000000 s)∧Hid (val 1000000000 s<b*S)∧Bw w2 wr) (fun jv _=>(intOf jv+1).toNat)
  case atStart =>
   have e:((L:Int) - ((k:Int)+2)+1).toNat=L - (k+2)+1:=by omega
   refine ⟨(L:Int) - ((k:Int)+2),us.drop (L - (k+2)+1),[],by omega,Int.le_refl _,rfl,zh (by rw [List.length_drop,HD2.out];omega),hd3.drop _,fV.nil,zh (by rw [e];simp),zh ?_,zh ?_,zh (by rw [e];simp [val]),HD5,aI4⟩
   ·rw [e,show L+1 - (L - (k+2)+1) - (k+2)=0 by omega,List.replicate_zero,List.append_nil,List.take_append_drop];exact aI3.out
   ·rw [e,List.append_nil];exact aI2.out
  case round =>
   clear aI3 aI2 aI4 aI5 aI6 FH au0;obtain ⟨q,s,qs,hq1,hq2,rfl,HSL,hds,G9,HQL,HBG,HBH,HVE,aO3,hbr⟩:=hrel
   by_cases hq:q<0
   ·have hq0:q= -1:=by omega
    subst hq0;have e0:((-1:Int)+1).toNat=0:=by omega
    rw [e0] at HBG HBH HVE HQL;simp only [List.take_zero,List.nil_append,List.replicate_zero,List.drop_zero,Nat.add_zero,Nat.sub_zero] at HBG HBH HVE HQL;have HE:=zh (VR hs0 (by rw [← HD4.out];exact HVE.out) aO3.out);have hbw:Bw w wr:=Bt hbw2 hbr;have hDu:=zh (nR.yN (n:=k+2) (m:=L+1) HBG.out HSL.out zo zo);have hDq:=zh (nR.yN (n:=L - (k+2)+1) (m:=L - (k+2)+1) (post:=[]) (by rw [List.append_nil];exact HBH.out) HQL.out zo zo);have hle:val 1000000000 s / S≤b:=by rw [HE.out.2];exact Nat.le_of_lt (Nat.mod_lt _ hb0)
    have hsz:sz 1000000000 (val 1000000000 s)≤k+2:=dF zo _ _ (by have:=jd (by omega:0<1000000000) hds;rwa [HSL.out] at this);go_wp2_with fail
    refine (qb _ _ _ hDu.out hds).mono ?_;rintro e w' ⟨v1,rfl,rfl,hv1⟩;go_wp2_with fail
    refine (vP _ _ S _ hv1 zo hs0 zo).mono ?_;rintro e w7 ⟨v2,rfl,jY,hv2⟩;have Ci:=zh hv2;clear hv2;go_wp2_with fail
    refine (qb _ _ _ (hDq.out.later jY) G9).mono ?_;rintro e w' ⟨v3,rfl,rfl,hv3⟩;have HV3:=zh hv3;clear hv3;go_wp2_with fail
    go_ret2
    exact ⟨v3,v2,rfl,Bt hbw jY,by rw [← HE.out.1];exact HV3.out,by rw [← HE.out.2];exact Ci.out⟩
   ·obtain ⟨j,rfl⟩:=Int.eq_ofNat_of_zero_le (by omega:0≤q);have ej:((j:Int)+1).toNat=j+1:=by omega
    rw [ej] at HBG HBH HVE HQL;have hjl:j<us.length:=by rw [HD2.out];omega
    go_wp2_with fail
    rw [show j+(k+2)+1 - j=k+3 by omega];have hux:us.getD j 0<1000000000:=hd3.getD zo j;have e1:us.take (j+1)++(s++List.replicate (L+1 - (j+1) - (k+2)) 0)=us.take j++(us.getD j 0::s)++List.replicate (L+1 - (j+1) - (k+2)) 0:=by rw [lW hjl];simp
    rw [e1] at HBG;have HW:=zh (RP hux aO3.out);refine (vV w2.heap.size j k (L+1 - j) pv cv (us.take j) (us.getD j 0::s) (List.replicate (L+1 - (j+1) - (k+2)) 0) (d9 1000000000 (b*S)) wr (by rw [List.length_take];omega) (by simp [HSL.out]) HVL.out (hds.cons hux) (dw zo _) zo HTV.out (by rw [bN zo];exact HW.out) HBG.out (fun i hi=>?_)).mono ?_
    ·obtain ⟨b',off',e1,h1,h2⟩:=HVR.out i (by rw [HVL.out];exact hi);exact ⟨b',off',e1,Nat.ne_of_lt h1,Nat.lt_of_lt_of_le h1 hbr.size,(hbr.cell (by exact h1)).trans h2⟩
    ·rintro e wx ⟨rfl,af7,s',hB',aF7,aU8,ar9⟩;rw [bN zo] at ar9 ⊢;have HB':=zh hB';have aO8:=zh ar9;have ba3:=zh aF7;have hbx:Bw w2 wx:=yj hbr af7 hbr.size (Nat.le_refl _);have hBx:aA wx w5.heap.size (dX (List.replicate (j+1) 0++qs)).toArray 22:=(af7.block _ (aA.lt HBH.out) (by simp;omega)).trans HBH.out;have ug:=zh hBx;clear hB' ar9 aF7 hBx;generalize hqh:val 1000000000 (us.getD j 0::s) / (b*S)=qh at *;have HQH:=zh hqh;clear hqh
     have HQ0:wx.cell? ⟨w5.heap.size,j,none⟩=some (.int .u32 0):=by
      rw [ug.out.cell,List.getElem?_toArray,oQ (by simp;omega),xG zo];rfl
     have HQF:wx.frozen? ⟨w5.heap.size,j,none⟩=false:=ug.out.free _;go_wp2_with fail
     have hbs:0<b*S:=Nat.mul_pos hb0 hs0;have ZK:qh<1000000000:=by rw [← HQH.out];exact Nat.div_lt_of_lt_mul HW.out
     have ej2:((j:Int) - 1+1).toNat=j:=by omega
     have hbo:((⟨w5.heap.size,j,none⟩:Addr).block)=w5.heap.size:=rfl;refine ⟨⟨(j:Int) - 1,s',qh::qs,by omega,by omega,rfl,ba3,aU8,G9.cons ZK,zh ?_,zh ?_,zh ?_,zh ?_,zh ?_,?_⟩,?_⟩
     ·rw [ej2,List.length_cons];have:=HQL.out;omega
     ·have h1:=HB'.out.setOther (a:=⟨w5.heap.size,j,none⟩) (.int .u32 (qh:Int)) (by simp;omega);rw [ej2]
      have e2:us.take j++(s'++[0])++List.replicate (L+1 - (j+1) - (k+2)) 0=us.take j++(s'++List.replicate (L+1 - j - (k+2)) 0):=by
       rw [show L+1 - j - (k+2)=(L+1 - (j+1) - (k+2))+1 by omega,List.replicate_succ];simp
      rw [e2] at h1;exact h1
     ·have h1:=ug.out.set j (.int .u32 (qh:Int));rw [List.setIfInBounds_toArray,mX,zD] at h1;rw [ej2];exact h1
     ·rw [ej2];exact SN hjl HVE.out HQH.out.symm aO8.out
     ·rw [aO8.out];exact Nat.mod_lt _ hbs
     ·exact hbx.setCell (by simp;omega) _
     ·simp only [intOf];omega):G:=h
theorem wK (pa pb:Option Addr) (ca cb:Nat) (a b k:Nat) (w:World) (hx:aZ w (ah pa (sz 1000000000 a) ca) a) (hy:aZ w (ah pb (k+2) cb) b) (hsb:sz 1000000000 b=k+2) (h:b≤a) (ha:sz 1000000000 a≤549755813888) :
  Calls Tryz.prog 92 #[ah pa (sz 1000000000 a) ca,ah pb (k+2) cb] w (kT w (a / b) (a%b)):=aj0
theorem _root_.Go.ai9 {G:Prop} (h:G:=by
 rcases Nat.lt_or_ge a b with h|h
 ·exact wL x y a b w hx hy h
 ·obtain ⟨p,c,e1, -, -, -⟩:=nR.read hx.Cv;obtain ⟨q,d,e2, -, -, -⟩:=nR.read hy.Cv
  have hp:sz 1000000000 b≠0:=fun h0=>by
   have:=(pz (B:=1000000000) zo (n:=b)).mp (List.length_eq_zero_iff.mp h0);omega
  have e3:(d9 1000000000 b).length=sz 1000000000 b:=rfl;rw [e3] at e2;subst e1
  rcases Nat.lt_or_ge (sz 1000000000 b) 2 with h2|h2
  ·have h1:sz 1000000000 b=1:=by omega
   rw [h1] at e2;subst e2;have:=jM (B:=1000000000) zo b;rw [h1] at this;exact uR p q c d a b w hx hy hb zo h ha
  ·obtain ⟨k,hk⟩:∃ k,sz 1000000000 b=k+2:=⟨sz 1000000000 b - 2,by omega⟩;rw [hk] at e2;subst e2;exact wK p q c d a b k w hx hy hk h ha):G:=h
theorem eZ (x y:Value) (a b:Nat) (w:World) (hx:aZ w x a) (hy:aZ w y b) (hb:0<b) (ha:sz 1000000000 a≤549755813888) :
  Calls Tryz.prog 92 #[x,y] w (kT w (a / b) (a%b)):=ai9
end Go.Proofs.dZ
