/- Lemmas for the proof. No condition. -/
import Derived.Test.YtneajphgfdlmhaaGreatDoorQB04
import Derived.Test.YtneajphgfdlmhaaGreatDoorRows
import Derived.WalkMore
import Derived.Lib.Strings
import Derived.Lib.Slices
import Derived.Lib.Walk
import Derived.Lib.ParseIntBTie
import Derived.ProofKit
import Derived.LaidMore
import Derived.OpenShut
import Derived.Stop.Joined
import Derived.Stop.LaidErr
import Derived.Lib.LaidTab
import Derived.ChangeSame
import Derived.Laws.IdiomArrays
import Derived.Deep.QuietTactic
import Derived.BigQuiet
import Derived.WalkSmall
set_option linter.unusedVariables false
set_option linter.unusedSimpArgs false
set_option maxRecDepth 100000
set_option maxHeartbeats 16000000
open Array renaming getElem?_eq_none → bZ
open Bool renaming eq_iff_iff → iN
open Go.Ending renaming returned → aj
open Go.IntKind renaming i64 → I
open Go.Value renaming agg → au, bool → ak, int → Z, pointer → aB, slice → ah, string → O, tuple → aG
open List renaming all_eq_true → dX, getElem_mem → dY, length_cons → bg
open Nat renaming add_assoc → jT, add_mul → dM, add_zero → fJ, le_refl → aD, le_trans → ay, lt_of_lt_of_le → aI, lt_or_ge → aO, mul_assoc → dx, mul_comm → aL, pow_succ → bN, zero_add → dK
namespace Go.Proofs.whole
open Go Go.RowKit Go.SW Go.Num Go.Mem Go.Proofs
theorem _root_.Go.zs1 {G:Prop} (h:G:=by
 go_enter zq1,zq2
 go_wp2
 go_loop [0] (fun v=>∃ k:Nat,k≤l.length∧trimLen l k=trimLen l l.length∧v= .slice (some ⟨b,off,none⟩) k c) (fun v=>match v with| .slice _ k _=>k| _=>0)
 case atStart=>exact ⟨l.length,Nat.le_refl _,rfl,rfl⟩
 case round =>
  obtain ⟨k,hk,ht,rfl⟩:=hrel;have HT:=zh ht;clear ht
  rcases Nat.eq_zero_or_pos k with h0|h0
  ·subst h0
   go_wp2
   go_ret
   exact ⟨by rw [← HT.out];rfl,rfl⟩
  ·obtain ⟨j,rfl⟩:∃ j,k=j+1:=⟨k - 1,by omega⟩;have hcj:=hc j zo;have HS:Hid (trimLen l (j+1)=if l.getD j 0=0 then trimLen l j else j+1):=rfl;generalize l.getD j 0=d at hcj HS;clear hc
   rcases Nat.eq_zero_or_pos d with hd|hd
   ·subst hd
    go_wp2
    go_round
    case rel=>exact ⟨j,by omega,by rw [← HT.out,HS.out];rfl,rfl⟩
    case measure=>exact Nat.lt_succ_self _
   ·have hz:((d:Int) == 0)=false:=by simp;omega
    go_wp2
    go_ret
    exact ⟨by rw [← HT.out,HS.out,if_neg zo];rfl,rfl⟩):G:=h
theorem E5 (b off c:Nat) (l:List Nat) (w:World) (hl:l.length≤c) (hm:c≤9223372036854775807)
   (hc:∀ k,k<l.length→w.cell? ⟨b,off+k,none⟩=some (.int .u32 (l.getD k 0:Nat))) :
    Calls Tryz.prog 327 #[ah (some ⟨b,off,none⟩) l.length c] w fun e w'=>e= aj (ah (some ⟨b,off,none⟩) (trimLen l l.length) c)∧w=w':=zs1
theorem IJ (w:World):Calls Tryz.prog 327 #[ah none 0 0] w fun e w'=>e= aj (ah none 0 0)∧w=w':=by
 go_enter Tryz.func327,Tryz.ntmps327
 go_wp2
 refine wp_loop_rounds 1 ?_;rw [rounds_succ]
 go_wp2
 go_ret
 exact ⟨rfl,rfl⟩
theorem _root_.Go.zs2 {G:Prop} (h:G:=by
 rcases nC.cases h with ⟨rfl,rfl⟩|⟨b,off,cap,rfl,h1,h2,h3,⟨arr,h4⟩,h5⟩
 ·refine (IJ w).mono ?_;rintro e w' ⟨rfl,rfl⟩;exact ⟨_,rfl,rfl,by rw [show val 1000000000 ([]:List Nat)=0 from rfl];unfold bW;rw [iD];exact Row.nil _ _⟩
 ·refine (E5 b off cap l w h1 h2 h5).mono ?_;rintro e w' ⟨rfl,rfl⟩;refine ⟨_,rfl,rfl,?_⟩;have ht:=trimLen_le l l.length;have e:val 1000000000 l=val 1000000000 (l.take (trimLen l l.length)):=by rw [xg _ _ _ (Nat.le_refl _)];simp
  rw [e];refine bW.LW ?_ (hd.take _) (xq l _ (Nat.le_refl _));refine Row.mk (arr:=arr) (by rw [fB];simp;omega) (by rw [fB];simp;omega) h2 h4 fun i hi=>?_;rw [fB] at hi;have hi2:i<l.length:=by simp at hi;omega
  have:=h5 i hi2;rw [h4.cell] at this;rw [this];simp [eH,hi2]):G:=h
theorem pX (v:Value) (l:List Nat) (w:World) (h:nC w v l) (hd:fZ 1000000000 l) :
  Calls Tryz.prog 327 #[v] w fun e w'=>∃ v',e= aj v'∧w=w'∧bW w v' (val 1000000000 l):=zs2
end Go.Proofs.whole
namespace Go.Proofs.whole
open Go Go.RowKit Go.SW Go.Num Go.Mem Go.Proofs Go.Dec
theorem YK:(Tryz.prog.info? 61).map (fun i=>(i.zero,i.size,i.bytes))=some (some (.int .u32 0),1,4):=by kernel_rfl
theorem _root_.Go.zs3 {G:Prop} (h:G:=by
 obtain ⟨i0,hi,hz0,hz1,hz2⟩:=info_parts YK;generalize hbs:s.data.toList=bs at *;have hn:bs.length=s.size:=by rw [← hbs];rfl
 have Py:=zh hbs;have HN:=zh hn;clear hbs hn;go_enter zq3,zq4
 go_wp2_with fail
 go_step3
 go_wp2_with fail
 go_step3
 go_wp2_with fail
 go_loopw [3,4] (fun mv ev wr=>∃ (e:Nat) (ls:List Nat),ev= .int .i64 (e:Int)∧Hid (e+9*ls.length=s.size)∧fZ 1000000000 ls∧Hid (val 1000000000 ls=num (bs.drop e))∧wr.ownsRow w.heap.size 61 1 mv ls.length (eH ls)∧Below w.heap.size w wr) (fun _ ev _=>(intOf ev).toNat)
 case atStart=>exact ⟨s.size,[],rfl,zh zi,fZ.nil,zh (by rw [← HN.out,List.drop_length];simp [val,num]),World.ownsRow_nil _ _ _ _,Below.refl _ _⟩
 case round =>
  obtain ⟨e,ls,rfl,HE,hdl,HV,hown,hbr⟩:=hrel;have he:e≤s.size:=by have:=HE.out;omega
  rcases Nat.lt_or_ge e 9 with h9|h9
  ·skip
   have hmx:(e:Int) - 9<0:=by omega
   have aO2:max ((e:Int) - 9) 0=0:=by omega
   have hgl:=CP hd (st:=0) (i:=e) zo;go_wp2_with fail
   go_loopw [6,7] (fun v6 v7 wi=>∃ i:Nat,v7= .int .i64 (i:Int)∧0≤i∧i≤e∧Hid (v6= .int .u32 (num ((bs.take i).drop (0)):Nat))∧wr=wi) (fun _ v7 _=>e - (intOf v7).toNat)
   case atStart=>exact ⟨0,rfl,Nat.le_refl _,by omega,zh (by rw [List.drop_eq_nil_of_le (by rw [List.length_take];omega)];rfl),rfl⟩
   case round =>
    obtain ⟨i,rfl,hi1,hi2,H6,rfl⟩:=hrel;have e6:=H6.out;subst e6
    rcases Nat.lt_or_ge i e with hie|hie
    ·have his:i<s.size:=by omega
     have hx:bs[i]? =some s[i]:=by rw [← Py.out,Array.getElem?_toList];exact Array.getElem?_eq_getElem his
     have HS:=zh (Ae hd hi1 zo hx);go_wp2_with fail
     exact ⟨⟨i+1,rfl,by omega,by omega,zh (by simp only [List.drop_zero] at HS ⊢;rw [HS.out]),trivial⟩,by simp only [intOf];omega⟩
    ·have hie:i=e:=by omega
     subst hie;have HG:=zh (oN (bs:=bs) (s:=0) (e:=i) zo (by have:=HN.out;omega));have hlen:bs.length - i=9*ls.length:=by have:=HE.out;have:=HN.out;omega
     rw [hlen,Nat.pow_mul,← HV.out] at HG;generalize num ((bs.take i).drop (0))=gv at *;clear H6;go_wp2_with (at_builtin;refine wpList_append_own _ rfl (.tmp 29) (.tmp 31) Iz rfl w.heap.size 61 i0 (.int .u32 0) 1 4 KO hi hz0 hz1 hz2 rfl zd _ _ _ rfl (hown.alloc _) ⟨wr.heap.size,0,none⟩ 1 1 [.int .u32 (gv:Int)] rfl rfl (by intro t u ht;match t,ht with|0,ht=>simp at ht;subst ht;simp [Addr.add]) (by intro u hu;simp at hu;subst hu;rfl) (by unfold maxLen;have:=HE.out;omega) (by have:=HE.out;omega) (by have:=hbr.size;simp;omega) ?_)
     intro v' w1 hown1 hgrow1 _
     have hown2:w1.ownsRow w.heap.size 61 1 v' (ls++[gv]).length (eH (ls++[gv])):=by
      have e:eH (ls++[gv])=eH ls++[.int .u32 (gv:Int)]:=by unfold eH;simp only [List.map_append,List.map_cons,List.map_nil]
      rw [e,List.length_append];exact hown1
     have hb3:Below w.heap.size w w1:=(hbr.alloc hbr.size _).grown hgrow1 (by simp;have:=hbr.size;omega) (fun k hk=>(hown.lt k hk).1)
     have Bj:Hid (val 1000000000 (ls++[gv])=num (bs.drop (0))):=by
      unfold Hid;rw [iY,HG.out,Nat.add_comm,Nat.mul_comm]
     clear hown hown1 hgrow1;have Xn:fZ 1000000000 (ls++[gv]):=hdl.snoc hgl;go_wp2_with ((first|go_at_call 327|go_at_call 227);refine (pX _ _ _ (Row.ig hown2) Xn).mono ?_;rintro e w' ⟨v,rfl,rfl,hv⟩;have HM:=zh hv;clear hv)
     rw [Bj.out,List.drop_zero] at HM;rw [Exit.noGoto_ret];go_ret
     exact ⟨_,rfl,hb3,HM.out⟩
  ·skip
   obtain ⟨f,rfl⟩:∃ f,e=f+9:=⟨e - 9,by omega⟩;have hgl:=CP hd (st:=f) (i:=f+9) zo;go_wp2_with fail
   go_loopw [6,7] (fun v6 v7 wi=>∃ i:Nat,v7= .int .i64 (i:Int)∧f≤i∧i≤f+9∧Hid (v6= .int .u32 (num ((bs.take i).drop (f)):Nat))∧wr=wi) (fun _ v7 _=>f+9 - (intOf v7).toNat)
   case atStart=>exact ⟨f,rfl,Nat.le_refl _,by omega,zh (by rw [List.drop_eq_nil_of_le (by rw [List.length_take];omega)];rfl),rfl⟩
   case round =>
    obtain ⟨i,rfl,hi1,hi2,H6,rfl⟩:=hrel;have e6:=H6.out;subst e6
    rcases Nat.lt_or_ge i (f+9) with hie|hie
    ·have his:i<s.size:=by omega
     have hx:bs[i]? =some s[i]:=by rw [← Py.out,Array.getElem?_toList];exact Array.getElem?_eq_getElem his
     have HS:=zh (Ae hd hi1 zo hx);go_wp2_with fail
     exact ⟨⟨i+1,rfl,by omega,by omega,zh (by rw [HS.out]),trivial⟩,by simp only [intOf];omega⟩
    ·obtain rfl:i=f+9:=by omega
     have HG:=zh (oN (bs:=bs) (s:=f) (e:=f+9) zo (by have:=HN.out;omega));have hlen:bs.length - (f+9)=9*ls.length:=by have:=HE.out;have:=HN.out;omega
     rw [hlen,Nat.pow_mul,← HV.out] at HG;generalize num ((bs.take (f+9)).drop f)=gv at *;clear H6;go_wp2_with (at_builtin;refine wpList_append_own _ rfl (.tmp 29) (.tmp 31) Iz rfl w.heap.size 61 i0 (.int .u32 0) 1 4 KO hi hz0 hz1 hz2 rfl zd _ _ _ rfl (hown.alloc _) ⟨wr.heap.size,0,none⟩ 1 1 [.int .u32 (gv:Int)] rfl rfl (by intro t u ht;match t,ht with|0,ht=>simp at ht;subst ht;simp [Addr.add]) (by intro u hu;simp at hu;subst hu;rfl) (by unfold maxLen;have:=HE.out;omega) (by have:=HE.out;omega) (by have:=hbr.size;simp;omega) ?_)
     intro v' w1 hown1 hgrow1 _
     have hown2:w1.ownsRow w.heap.size 61 1 v' (ls++[gv]).length (eH (ls++[gv])):=by
      have e:eH (ls++[gv])=eH ls++[.int .u32 (gv:Int)]:=by unfold eH;simp only [List.map_append,List.map_cons,List.map_nil]
      rw [e,List.length_append];exact hown1
     have hb3:Below w.heap.size w w1:=(hbr.alloc hbr.size _).grown hgrow1 (by simp;have:=hbr.size;omega) (fun k hk=>(hown.lt k hk).1)
     have Bj:Hid (val 1000000000 (ls++[gv])=num (bs.drop (f))):=by
      unfold Hid;rw [iY,HG.out,Nat.add_comm,Nat.mul_comm]
     clear hown hown1 hgrow1;have Xn:fZ 1000000000 (ls++[gv]):=hdl.snoc hgl
     rcases Nat.eq_zero_or_pos f with hf|hf
     ·subst hf;rw [List.drop_zero] at Bj;go_wp2_with ((first|go_at_call 327|go_at_call 227);refine (pX _ _ _ (Row.ig hown2) Xn).mono ?_;rintro e w' ⟨v,rfl,rfl,hv⟩;have HM:=zh hv;clear hv)
      rw [Bj.out] at HM;rw [Exit.noGoto_ret];go_ret
      exact ⟨_,rfl,hb3,HM.out⟩
     ·have hf0:((f:Int) == 0)=false:=by simp;omega
      go_wp2_with fail
      refine ⟨⟨f,ls++[gv],rfl,zh ?_,Xn,Bj,hown2,hb3⟩,?_⟩
      ·have:=HE.out;rw [List.length_append,List.length_singleton];omega
      ·simp only [intOf];omega):G:=h
theorem uV (s:ByteArray) (hs:s.size≤1099511627776) (hd:qL s.data.toList) (w:World) :
  Calls Tryz.prog 292 #[O s] w (fun e w'=>∃ v,e= aj v∧Below w.heap.size w w'∧bW w' v (num s.data.toList)):=zs3
theorem EA (s p:ByteArray) (w:World) :
  Calls Tryz.prog 273 #[O s,O p] w fun e w'=>e= aj (aG #[O ⟨(Lib.trimPrefix s.data.toList p.data.toList).toArray⟩,ak (Lib.hasPrefix s.data.toList p.data.toList)])∧w'=w:=by
 go_enter Tryz.func273,Tryz.ntmps273
 go_wp2
 ·have h2:(!((s.extract 0 p.size).toList == p.toList))=true:=by assumption
  have h3:(decide (p.size≤s.size)&&((s.extract 0 p.size).toList == p.toList))=false:=by
   have:((s.extract 0 p.size).toList == p.toList)=false:=by simpa using h2
   rw [this];simp
  go_ret2
  refine ⟨?_,rfl⟩;rw [Lib.trimPrefix_miss s p h3,← Lib.hasPrefix_raw,h3];rfl
 ·have h1:p.size≤s.size:=by assumption
  have h2:(!((s.extract 0 p.size).toList == p.toList))=false:=by assumption
  have h2':((s.extract 0 p.size).toList == p.toList)=true:=by simpa using h2
  go_ret2
  refine ⟨?_,rfl⟩;rw [Lib.trimPrefix_hit s p h1 h2',← Lib.hasPrefix_raw,h2',decide_eq_true h1];rfl
 ·have h1:¬ p.size≤s.size:=by assumption
  have h3:(decide (p.size≤s.size)&&((s.extract 0 p.size).toList == p.toList))=false:=by simp [h1]
  go_ret2
  refine ⟨?_,rfl⟩;rw [Lib.trimPrefix_miss s p h3,← Lib.hasPrefix_raw,h3];rfl
theorem ad6 (l:List UInt8):cut l=(Lib.trimPrefix l [45],Lib.hasPrefix l [45]):=by
 unfold cut Lib.trimPrefix Lib.hasPrefix;cases l with
 | nil=>rfl
 | cons x t =>
  by_cases h:x=45
  ·subst h;simp
  ·have h2:¬ (45:UInt8)=x:=fun e=>h e.symm;simp [h,h2,List.isPrefixOf]
theorem r9 (s:ByteArray) (w:World) :
  Calls Tryz.prog 273 #[O s,O ⟨#[45]⟩] w fun e w'=>e= aj (aG #[O ⟨(cut s.data.toList).1.toArray⟩,ak (cut s.data.toList).2])∧w=w':=by
 refine (EA s ⟨#[45]⟩ w).mono ?_;rintro e w' ⟨rfl,rfl⟩;rw [ad6];exact ⟨rfl,rfl⟩
def Vn (w:World) (c:Bool) (e:Ending) (w':World):Prop:=(∃ pa n ca ng,e= aj (aG #[au #[ah pa n ca,ak ng],ak c]))∧Below w.heap.size w w'
theorem Qp {pa:Option Addr} {n ca:Nat} {ng b c:Bool} (h:c=b):∃ pa' n' KW ng',Ending.returned (aG #[au #[ah pa n ca,ak ng],ak b])= aj (aG #[au #[ah pa' n' KW,ak ng'],ak c]):=⟨pa,n,ca,ng,by rw [h]⟩
theorem WA (s:ByteArray) (w:World) :
    Calls Tryz.prog 254 #[O s] w (Vn w (whole s.data.toList).isSome):=by
  have HC:=zh (r9 s);have hw:(whole s.data.toList).isSome=gP (cut s.data.toList).1 (cut s.data.toList).2:=by unfold whole;split<;>simp_all
  rw [hw];clear hw;generalize cut s.data.toList=c at *;obtain ⟨d,ng⟩:=c;simp only at HC ⊢;have hsz:(⟨d.toArray⟩:ByteArray).size=d.length:=rfl;have h0:d=[]→gP d ng=false:=fun e=>by subst e;rfl
  have h1:600<d.length→gP d ng=false:=fun e=>by
    have h2:¬ d.length≤600:=by omega
    unfold gP;simp [h2]
  have H0:=zh h0;have H1:=zh h1;clear h0 h1;have hbx:aA (w.alloc (.cells #[ah none 0 0,ak false] 257 (0,0))) w.heap.size #[ah none 0 0,ak false] 257:=aA.new _ _ _;have hbl:Below w.heap.size w (w.alloc (.cells #[ah none 0 0,ak false] 257 (0,0))):=(Below.refl _ _).alloc (aD _) _;have rC:=zh hbx;clear hbx;go_enter Tryz.func254,Tryz.ntmps254
  go_wp2_with (go_at_call 273;refine (HC.out _).mono ?_;rintro e w1 ⟨rfl,rfl⟩)
  · refine bH rfl rfl rC.out Tryz.underlying257 rfl zk ⟨⟨none,0,0,false,?_⟩,hbl⟩
    rw [H0.out (by assumption)];rfl
  · refine bH rfl rfl rC.out Tryz.underlying257 rfl zk ⟨⟨none,0,0,false,?_⟩,hbl⟩
    have h1:¬ d=[]:=by assumption
    have h2:((d.length:Int) == 0)=true∨(600:Int)<d.length:=by assumption
    rw [H1.out (by
      rcases h2 with h2|h2
      · have:=List.length_pos_iff.mpr h1
        simp at h2
        exact absurd h2 h1
      · omega)]
    rfl
  · have h1:¬ d=[]:=by assumption
    have h2:((d.length:Int) == 0)=false∧(d.length:Int)≤600:=by assumption
    have hl0:=List.length_pos_iff.mpr h1;have hl1:d.length≤600:=by omega
    clear h2
    go_loopw [23] (fun v wr=>∃ i:Nat,v= Z I (i:Int)∧i≤d.length∧Hid (∀ k (h:k<d.length),k<i→48≤d[k].toNat∧d[k].toNat≤57)∧w.alloc (.cells #[ah none 0 0,ak false] 257 (0,0))=wr) (fun v _=>d.length - (intOf v).toNat)
    case atStart=>exact ⟨0,rfl,by omega,zh (fun k _ h=>by omega),rfl⟩
    case round =>
      obtain ⟨i,rfl,hi,HK,rfl⟩:=hrel
      rcases aO i d.length with hlt|hge
      · have hgt:(⟨d.toArray⟩:ByteArray)[i]'(by exact hlt)=d[i]:=rfl
        have HGT:=zh hgt
        by_cases hdig:48≤d[i].toNat∧d[i].toNat≤57
        · have q1:decide (((⟨d.toArray⟩:ByteArray)[i]'(by exact hlt)).toNat<(48:Int))=false:=by rw [hgt];simp;omega
          have q2:decide ((57:Int)<((⟨d.toArray⟩:ByteArray)[i]'(by exact hlt)).toNat)=false:=by rw [hgt];simp;omega
          clear hgt;go_wp2_with fail
          refine ⟨⟨i+1,rfl,by omega,zh fun k hk hki=>?_,trivial⟩,by simp only [intOf];omega⟩
          rcases aO k i with h|h
          · exact HK.out k hk h
          · obtain rfl:k=i:=by omega
            exact hdig
        · clear hgt
          have hno:gP d ng=false:=by
            have:d.all (fun b=>decide (48≤b.toNat)&&decide (b.toNat≤57))=false:=by
              rw [List.all_eq_false];exact ⟨d[i],dY _,by simpa using hdig⟩
            unfold gP;simp [this]
          have HNO:=zh hno;clear hno;go_wp2_with fail
          all_goals first
            | (exfalso
               have h3:(48:Int)≤((⟨d.toArray⟩:ByteArray)[i]'(by exact hlt)).toNat∧(((⟨d.toArray⟩:ByteArray)[i]'(by exact hlt)).toNat:Int)≤57:=by assumption
               rw [HGT.out] at h3;omega)
            | (try simp only [Exit.inBlock,Exit.then]
               refine bH rfl rfl rC.out Tryz.underlying257 rfl zk ⟨⟨none,0,0,false,?_⟩,hbl⟩;rw [HNO.out];rfl)
      · obtain rfl:i=d.length:=by omega
        have hdd:qL d:=fun b hb=>by
          obtain ⟨k,hk,rfl⟩:=List.getElem_of_mem hb;exact HK.out k hk zo
        have HDD:=zh hdd;have hgt:(⟨d.toArray⟩:ByteArray)[0]'(by exact hl0)=d[0]:=rfl
        have hhd:(d.head? == some 48)=decide (d[0].toNat=48):=by
          rw [List.head?_eq_getElem?, List.getElem?_eq_getElem hl0,iN];simp only [beq_iff_eq,Option.some.injEq,decide_eq_true_eq];exact ⟨fun h=>by rw [h];rfl,fun h=>UInt8.toNat_inj.mp h⟩
        have hok:gP d ng= !(decide (d[0].toNat=48)&&(ng || decide (1<d.length))):=by
          have:d.all (fun b=>decide (48≤b.toNat)&&decide (b.toNat≤57))=true:=by
            rw [dX];intro b hb
            simpa using hdd b hb
          unfold gP;rw [this,hhd];simp [h1,hl1]
        have aA9:qL (⟨d.toArray⟩:ByteArray).data.toList:=hdd;clear hdd hhd HK H0 H1 HC hge hi;generalize d[0]=x at *
        have q0:((((⟨d.toArray⟩:ByteArray)[0]'(by exact hl0)).toNat:Int) == 48)=decide (x.toNat=48):=by
          rw [hgt,iN];simp
          omega
        have q1:decide ((1:Int)<d.length)=decide (1<d.length):=by
          rw [iN,decide_eq_true_iff,decide_eq_true_iff];omega
        clear hgt;have Vx:=zh hok;clear hok;have HG:=zh (uV ⟨d.toArray⟩ (by rw [hsz];omega) aA9 (w.alloc (.cells #[ah none 0 0,ak false] 257 (0,0))))
        by_cases hx:x.toNat=48
        all_goals by_cases hl:1<d.length
        all_goals cases ng
        all_goals simp only [hx,hl,decide_true,decide_false,Bool.true_and,Bool.false_and,Bool.true_or,Bool.false_or,Bool.not_true,Bool.not_false] at Vx q0 q1
        all_goals go_wp2_with (go_at_call 292;refine (HG.out).mono ?_;rintro e w2 ⟨v,rfl,hb2,hv⟩;obtain ⟨pa,ca,rfl, -⟩:=hv;have yh:=rC.out.later hb2;have c0:w2.cell? ⟨w.heap.size,0,none⟩=some (.slice none 0 0):=(yh.cell 0).trans rfl;have c1:w2.cell? ⟨w.heap.size,1,none⟩=some (.bool false):=(yh.cell 1).trans rfl;have f0:=yh.free 0;have f1:=yh.free 1)
        all_goals (try simp only [Exit.inBlock,Exit.then])
        all_goals first
          | (refine bH rfl rfl rC.out Tryz.underlying257 rfl zk ⟨⟨none,0,0,false,?_⟩,hbl⟩
             rw [Vx.out];rfl)
          | (rename_i hb2 _ _ _ _
             refine bH rfl rfl (((rC.out.later hb2).set 0 _).set 1 _) Tryz.underlying257 rfl zk ⟨Qp Vx.out,((Bt hbl hb2).setCell (aD _) _).setCell (aD _) _⟩)
theorem kX (s:ByteArray) (w:World) :
  Calls Tryz.prog 221 #[O s] w (fun e w'=>e= aj (Z I (if (whole s.data.toList).isSome then 0 else 10))∧Below w.heap.size w w'):=by
 have H:=zh (WA s);generalize (whole s.data.toList).isSome=b at *;cases b
 all_goals
  go_enter Tryz.func221,Tryz.ntmps221
  go_wp2_with (go_at_call 254;refine (H.out _).mono ?_;rintro e w1 ⟨⟨pa,n,ca,ng,rfl⟩,hb1⟩)
  go_ret
  exact ⟨rfl,Bt hb1 ((Below.refl _ _).alloc (aD _) _)⟩
theorem zZ (z:Int) (h0: -9223372036854775808≤z) (h1:z≤9223372036854775807) (w:World) (ht:jH.Pow w) :
  Calls Tryz.prog 193 #[Z I z] w (fun e w'=>e= aj (dW z)∧Below w.heap.size w w'):=by
 have H:=zh (Tryz.strconv_Itoa z h0 h1 w ht);clear ht;go_enter Tryz.func193,Tryz.ntmps193
 go_wp2_with (go_at_call 249;refine (H.out).mono ?_;rintro e w1 ⟨rfl,k,os,rfl⟩)
 go_ret
 exact ⟨rfl,jH.below_grow _ _ _⟩
end Go.Proofs.whole
namespace Go.Dec
open Go Go.Lib
theorem rV:∀ (l:List UInt8) (acc:Nat),qL l→acc≤18446744073709551615→parseUintM 18446744073709551615 acc l=if acc*10^l.length+num l≤18446744073709551615 then .ok (acc*10^l.length+num l) else .range
 | [],acc,_,ha=>by
  simp only [parseUintM,List.length_nil,Nat.pow_zero,Nat.mul_one,GL,fJ];rw [if_pos ha]
 | b::l,acc,hd,ha=>by
  have hb:=hd b zi;have hl:qL l:=fun x hx=>hd x (by simp [hx])
  have hn:num (b::l)=(b.toNat - 48)*10^l.length+num l:=by
   have:=Cg [b] l;simp only [List.singleton_append] at this;rw [this];simp [num]
  have hp:0<10^l.length:=Nat.pow_pos zo
  have e:acc*10^(b::l).length+num (b::l)=(acc*10+(b.toNat - 48))*10^l.length+num l:=by
   rw [hn,bg,bN,dM,jT]
   congr 1
   rw [dx,aL 10]
  rw [e];have hge:∀ x,x≤x*10^l.length+num l:=fun x=>ay (Nat.le_mul_of_pos_right x hp) (Nat.le_add_right _ _);unfold parseUintM;rw [if_pos hb]
  by_cases h1:1844674407370955162≤acc
  ·rw [if_pos h1,if_neg];have:=hge (acc*10+(b.toNat - 48));omega
  ·rw [if_neg h1]
   by_cases h2:18446744073709551615<acc*10+(b.toNat - 48)
   ·rw [if_pos h2,if_neg];have:=hge (acc*10+(b.toNat - 48));omega
   ·rw [if_neg h2];exact rV l _ hl zo
theorem BX (n:Nat):parseIntB 64 (itoa (n:Int))=if n<9223372036854775808 then .ok (n:Int) else .range:=by
 have hi:itoa (n:Int)=decDigits n:=rfl;rw [hi]
 obtain ⟨c,r,hc⟩:∃ c r,decDigits n=c::r:=by
  cases h:decDigits n with
  | nil=>exact absurd h (uz n)
  | cons c r=>exact ⟨c,r,rfl⟩
 have hd:=mY n;have hn:=nM n;rw [hc] at hd hn ⊢;have hcd:=hd c zi;rw [parseIntB_plain 64 c r zo zo]
 have hu:parseUintB 64 (c::r)=parseUintM 18446744073709551615 0 (c::r):=by
  unfold parseUintB;rw [if_neg zi]
 rw [hu,rV _ _ hd zo,hn,Nat.zero_mul,dK];have e:(2:Nat)^(64 - 1)=9223372036854775808:=by decide
 rw [e]
 by_cases h:n≤18446744073709551615
 ·rw [if_pos h];unfold signlessC
  by_cases h2:n<9223372036854775808
  ·simp only;rw [if_neg zo,if_pos h2]
  ·simp only;rw [if_pos zo,if_neg h2]
 ·rw [if_neg h,if_neg zo];rfl
end Go.Dec
namespace Go.Proofs.whole
open Go Go.RowKit Go.SW Go.Num Go.Mem Go.Proofs Go.Dec Go.gD
def Er (w : World) : Prop := ∃ tp p, w.var? Tryz.prog "strconv.ErrRange" = some #[.iface tp p] ∧ (Tryz.prog.globalNamed "strconv.ErrRange").getD 0 < w.heap.size
theorem Er.later {w w':World} (h:Er w) (hb:Below w.heap.size w w'):Er w':=by
 obtain ⟨tp,p,h1,h2⟩:=h
 refine ⟨tp, p, var?_below hb (g := (Tryz.prog.globalNamed "strconv.ErrRange").getD 0) ?_ h2 h1, aI h2 hb.size⟩
 exact Tryz.laysC174.m16
def Ep (n:Nat):Value:=if n<9223372036854775808 then aG #[Z I (n:Int),Z I 0] else aG #[Z I 0,Z I 6]
theorem Tq (n:Nat) (hs:(Lib.itoa (n:Int)).length≤601) (w:World) (he:Er w) :
  Calls Tryz.prog 246 #[dW (n:Int),Z I 10,Z I 64] w (fun e w'=>(if n<9223372036854775808 then e= aj (aG #[Z I (n:Int),.nilIface]) else ∃ T p,e= aj (aG #[Z I (Lib.intSat 64 (Lib.itoa (n:Int))),.iface T (aB (some p))]))∧Below w.heap.size w w'):=by
 have hz:(⟨(Lib.itoa (n:Int)).toArray⟩:ByteArray).size≤601:=hs;have hp:=BX n
 by_cases h:n<9223372036854775808
 ·rw [if_pos h] at hp;refine (Tryz.strconv_ParseInt_10_at64_ok ⟨(Lib.itoa (n:Int)).toArray⟩ zo (n:Int) hp w).mono ?_;rintro e w1 ⟨rfl,hw⟩;refine ⟨by rw [if_pos h],?_⟩
  rcases hw with rfl|⟨t,rfl⟩
  ·exact Below.refl _ _
  ·exact Lib.bytesWorld_below _ _ _
 ·rw [if_neg h] at hp;obtain ⟨tp,p,h1,h2⟩:=he;have hc:=World.var?_cell (P:=Tryz.prog) (w:=w) Tryz.laysC174.m16 h1 0;refine (Tryz.strconv_ParseInt_10_at64_range ⟨(Lib.itoa (n:Int)).toArray⟩ zo hp (.iface tp p) w hc (Or.inr ⟨tp,p,rfl⟩)).mono ?_;rintro e w1 ⟨N,rfl, -, -, hb⟩;refine ⟨?_,hb⟩;rw [if_neg h];exact ⟨_,_,rfl⟩
theorem ah1 (n:Nat) (hn:kI n=true) (w:World) (he:Er w) :
  Calls Tryz.prog 188 #[dW (n:Int)] w (fun e w'=>e= aj (Ep n)∧Below w.heap.size w w'):=by
 have hd:(Lib.decDigits n).length≤600:=fK.1 hn
 have hi:(Lib.itoa (n:Int)).length≤601:=by
  have:Lib.itoa (n:Int)=Lib.decDigits n:=rfl;rw [this];omega
 have hw:(whole (Lib.itoa (n:Int))).isSome=true:=by rw [fT (by rw [Int.natAbs_natCast];exact hd)];rfl
 have HC:=zh (fun W=>kX ⟨(Lib.itoa (n:Int)).toArray⟩ W)
 have HC:Hid (∀ W:World,Calls Tryz.prog 221 #[dW (n:Int)] W (fun e w'=>e= aj (Z I 0)∧Below W.heap.size W w')):=zh (by
  intro W;have:=HC.out W;rw [show (⟨(Lib.itoa (n:Int)).toArray⟩:ByteArray).data.toList=Lib.itoa (n:Int) from rfl,hw] at this;exact this)
 have HP:=zh (fun W h=>Tq n hi W h);have HE:=zh he;unfold Ep;clear hd hi hw he hn;unfold dW at *;generalize Lib.itoa (n:Int)=t at *
 by_cases h:n<9223372036854775808
 ·simp only [if_pos h] at HP ⊢;go_enter Tryz.func188,Tryz.ntmps188
  go_wp2_with fail
  refine (HC.out _).mono ?_;rintro e w1 ⟨rfl,hb1⟩;have HB1:=zh hb1;clear hb1;go_wp2_with fail
  refine (HP.out _ (HE.out.later HB1.out)).mono ?_;rintro e w2 ⟨rfl,hb2⟩;have hw:=Bt HB1.out hb2;clear hb2 HB1;go_wp2_with fail
  go_ret2
  exact ⟨rfl,hw⟩
 ·simp only [if_neg h] at HP ⊢;go_enter Tryz.func188,Tryz.ntmps188
  go_wp2_with fail
  refine (HC.out _).mono ?_;rintro e w1 ⟨rfl,hb1⟩;have HB1:=zh hb1;clear hb1;go_wp2_with fail
  refine (HP.out _ (HE.out.later HB1.out)).mono ?_;rintro e w2 ⟨⟨T,p,rfl⟩,hb2⟩;have hw:=Bt HB1.out hb2;clear hb2 HB1;go_wp2_with fail
  go_ret2
  exact ⟨rfl,hw⟩
end Go.Proofs.whole
namespace Go.Proofs.YtneajphgfdlmhaaGreatDoor
open Go Go.ChangeShapes Go.WideShapes Go.RowKit Go.Proofs
theorem aB3 : Tryz.prog.globalNamed "internal/strconv.uint64pow10" = some 4 := by kernel_rfl
theorem av4:(Tryz.prog.globals[4]?).map (·.type)=some 347:=by kernel_rfl
theorem av3:Tryz.prog.underlying 347=some (.array 20 193):=by kernel_rfl
theorem ac7 : Tryz.prog.globalNamed "strconv.ErrRange" = some 3 := by kernel_rfl
theorem av5:(Tryz.prog.globals[3]?).map (·.type)=some 242:=by kernel_rfl
theorem sErr : "*" ++ "errors.errorString" = "*errors.errorString" := by decide
theorem av7 (u : TypeId) (h : Tryz.prog.typeName? 3 u = some "*errors.errorString") : u = 342 :=
 typeName_ptr_named (nm := "errors.errorString") (by rw [sErr]; kernel_rfl) zk zd u (by rw [sErr]; exact h)
theorem WT {W : World} (h : laidMetH Tryz.prog [("math/bits.deBruijn32tab", Rows.laid_math_bits_deBruijn32tab), ("math/bits.deBruijn64tab", Rows.laid_math_bits_deBruijn64tab), ("internal/strconv.uint64pow10", Rows.laid_internal_strconv_uint64pow10), ("strconv.ErrRange", Rows.laid_strconv_ErrRange), ("strconv.ErrSyntax", Rows.laid_strconv_ErrSyntax)] W) : jH.Pow W ∧ whole.Er W := by
 rw [MakeChecks.laidMetH_plain _ _ _ zk] at h;have h2:=laidMet.tail (laidMet.tail h);refine ⟨Lib.tabIs_of_head aB3 av4 av3 zk zk zk h2,?_⟩;obtain ⟨a,s,hv, -⟩:=laid_sentinel (laidMet.tail h2) ac7 av5 Tryz.underlying242 av7 Tryz.underlying342 Tryz.underlying344 rfl rfl Tryz.underlying9 zk zk;refine ⟨_,_,hv,?_⟩;have hc:=World.var?_cell ac7 hv 0
 have e : (Tryz.prog.globalNamed "strconv.ErrRange").getD 0 = 3 := by rw [ac7]; rfl
 rw [e]
 rcases aO 3 W.heap.size with h3|h3
 ·exact h3
 ·unfold World.cell? at hc;rw [bZ h3] at hc;simp at hc
end Go.Proofs.YtneajphgfdlmhaaGreatDoor
namespace Go.Proofs.fu
open Go Go.RowKit Go.SW Go.Num Go.Mem Go.Proofs
theorem E5 (b off c:Nat) (l:List Nat) (w:World) (hl:l.length≤c) (hm:c≤9223372036854775807)
   (hc:∀ k,k<l.length→w.cell? ⟨b,off+k,none⟩=some (.int .u32 (l.getD k 0:Nat))) :
    Calls Tryz.prog 227 #[ah (some ⟨b,off,none⟩) l.length c] w fun e w'=>e= aj (ah (some ⟨b,off,none⟩) (trimLen l l.length) c)∧w=w':=zs1
theorem IJ (w:World):Calls Tryz.prog 227 #[ah none 0 0] w fun e w'=>e= aj (ah none 0 0)∧w=w':=by
 go_enter Tryz.func227,Tryz.ntmps227
 go_wp2
 refine wp_loop_rounds 1 ?_;rw [rounds_succ]
 go_wp2
 go_ret
 exact ⟨rfl,rfl⟩
theorem pX (v:Value) (l:List Nat) (w:World) (h:nC w v l) (hd:fZ 1000000000 l) :
  Calls Tryz.prog 227 #[v] w fun e w'=>∃ v',e= aj v'∧w=w'∧bW w v' (val 1000000000 l):=zs2
theorem _root_.Go.zs4 {G:Prop} (h:G:=by
 obtain ⟨a,cap,rfl, -⟩:=h
 have e:decide (n=0)=((((eF 1000000000 n).length:Nat):Int) == 0):=by
  rw [Bool.eq_iff_iff];simp [nX]
 rw [e,fB];clear e;generalize (eF 1000000000 n).length=k;go_enter zq7,zq8
 go_wp2
 go_ret
 exact ⟨rfl,rfl⟩):G:=h
theorem iK (v:Value) (n:Nat) (w:World) (h:bW w v n) :
  Calls Tryz.prog 201 #[v] w fun e w'=>e= aj (ak (decide (n=0)))∧w=w':=zs4
def vZ (a b:Nat):Int:=if a<b then -1 else if b<a then 1 else 0
theorem qx {a b:Nat} (h:a<b):vZ a b= -1:=if_pos h
theorem oW {a b:Nat} (h:b<a):vZ a b=1:=by unfold vZ;rw [if_neg zo,if_pos h]
theorem rQ (a:Nat):vZ a a=0:=by unfold vZ;simp
theorem _root_.Go.zs5 {G:Prop} (h:G:=by
 rcases Nat.lt_trichotomy a b with h|h|h
 ·rw [qx h];go_enter Tryz.func275,Tryz.ntmps275
  go_wp2
  go_ret
  exact ⟨rfl,rfl⟩
 ·subst h;rw [rQ];go_enter Tryz.func275,Tryz.ntmps275
  go_wp2
  go_ret
  exact ⟨rfl,rfl⟩
 ·rw [oW h];go_enter Tryz.func275,Tryz.ntmps275
  go_wp2
  go_ret
  exact ⟨rfl,rfl⟩):G:=h
theorem O8 (a b:Nat) (w:World):Calls Tryz.prog 275 #[Z I a,Z I b] w fun e w'=>e= aj (Z I (vZ a b))∧w=w':=zs5
theorem _root_.Go.zs6 {G:Prop} (h:G:=by
 rcases Nat.lt_trichotomy a b with h|h|h
 ·rw [qx h];go_enter Tryz.func276,Tryz.ntmps276
  go_wp2
  go_ret
  exact ⟨rfl,rfl⟩
 ·subst h;rw [rQ];go_enter Tryz.func276,Tryz.ntmps276
  go_wp2
  go_ret
  exact ⟨rfl,rfl⟩
 ·rw [oW h];go_enter Tryz.func276,Tryz.ntmps276
  go_wp2
  go_ret
  exact ⟨rfl,rfl⟩):G:=h
theorem O6 (a b:Nat) (w:World):Calls Tryz.prog 276 #[Z .u32 a,Z .u32 b] w fun e w'=>e= aj (Z I (vZ a b))∧w=w':=zs6
theorem _root_.Go.zs7 {G:Prop} (h:G:=by
 have h1:((m:Int) == (n:Int))=false:=by simp;omega
 have h2:((m:Int) != (n:Int))=true:=by simp;omega
 go_enter zq9,Zg
 go_wp2_with (go_at_call 275;refine (O8 _ _ _).mono ?_;rintro e w' ⟨rfl,rfl⟩)
 go_ret
 exact ⟨rfl,rfl⟩):G:=h
theorem Aj (a b:Option Addr) (m n c d:Nat) (w:World) (h:m≠n) :
  Calls Tryz.prog 223 #[ah a m c,ah b n d] w fun e w'=>e= aj (Z I (vZ m n))∧w=w':=zs7
theorem _root_.Go.zs8 {G:Prop} (h:G:=by
 have HL:=zh hlen;clear hlen;rw [← HL.out];have h1:((l.length:Int) == (l.length:Int))=true:=by simp
 have h2:((l.length:Int) != (l.length:Int))=false:=by simp
 go_enter zq9,Zg
 go_wp2
 clear h1 h2
 go_loopw [5] (fun i wr=>∃ q:Int, -1≤q∧q<l.length∧i= .int .i64 q∧l.drop (q+1).toNat=m.drop (q+1).toNat∧Below w.heap.size w wr) (fun i _=>(intOf i+1).toNat)
 case atStart=>exact ⟨(l.length:Int) - 1,by omega,by omega,rfl,by rw [show ((l.length:Int) - 1+1).toNat=l.length by omega,List.drop_length];rw [HL.out,List.drop_length],Below.refl _ _⟩
 case round =>
  obtain ⟨q,hq1,hq2,rfl,hdr,hb⟩:=hrel;have HD:=zh hdr;clear hdr
  by_cases hq:q<0
  ·have hq0:q= -1:=by omega
   subst hq0
   go_wp2
   go_ret
   have e:l=m:=by have:=HD.out;simpa using this
   rw [e,rQ];exact ⟨rfl,hb⟩
  ·obtain ⟨j,rfl⟩:=Int.eq_ofNat_of_zero_le (by omega:0≤q);have hjl:j<l.length:=by omega
   have hjm:j<m.length:=by rw [← HL.out];exact hjl
   obtain ⟨ba,oa,rfl,hba,hx0⟩:=hc j hjl;obtain ⟨bb,ob,rfl,hbb,hy0⟩:=hd j hjm;have hx:wr.cell? ⟨ba,oa+j,none⟩=some (.int .u32 (l.getD j 0:Nat)):=(hb.cell (by exact hba)).trans hx0;have hy:wr.cell? ⟨bb,ob+j,none⟩=some (.int .u32 (m.getD j 0:Nat)):=(hb.cell (by exact hbb)).trans hy0;clear hx0 hy0;have HD2:Hid (l.drop (j+1)=m.drop (j+1)):=by have:=HD.out;rwa [show ((j:Int)+1).toNat=j+1 by omega] at this
   have hlt:Hid (l.getD j 0<m.getD j 0→val 1000000000 l<val 1000000000 m):=uM zo hl hjl hjm HD2.out;have hgt:Hid (m.getD j 0<l.getD j 0→val 1000000000 m<val 1000000000 l):=uM zo hmd hjm hjl HD2.out.symm;have heq:Hid (l.getD j 0=m.getD j 0→l.drop j=m.drop j):=fun e=>by rw [jG hjl,jG hjm,HD2.out,e]
   generalize l.getD j 0=x at *;generalize m.getD j 0=y at *;clear HD HD2 hc hd
   by_cases hxy:x=y
   ·subst hxy;have h1:((x:Int) == (x:Int))=true:=by simp
    have h2:((x:Int) != (x:Int))=false:=by simp
    go_wp2
    go_quiet (fail)
    go_wp2
    go_roundw
    case rel=>exact ⟨(j:Int) - 1,by omega,by omega,rfl,by rw [show ((j:Int) - 1+1).toNat=j by omega];exact heq.out trivial,below_drewN hb _⟩
    case measure=>simp [intOf]
   ·have h1:((x:Int) == (y:Int))=false:=by simp;omega
    have h2:((x:Int) != (y:Int))=true:=by simp;omega
    go_wp2
    go_quiet (fail)
    go_wp2
    refine aJ [(.pure,0),(.pure,1),(.pure,2),(.read,3),(.pure,4),(.pure,5),(.pure,6),(.read,7),(.ext,8),(.fin,9)] zk zk zR zP ?_;refine zV ?_;refine aS rfl rfl (fun w1 hb1 J hJ=>?_);go_simp;refine (O6 _ _ _).mono ?_;rintro e w' ⟨rfl,rfl⟩;refine hJ _ _ (Below.refl _ _) ?_;clear hJ J;refine dA [_] rfl (fun w2 hb2=>?_)
    go_wp2
    go_ret
    refine ⟨?_,Bt (Bt hb (TD hb1)) hb2⟩
    rcases Nat.lt_or_gt_of_ne hxy with h|h
    ·rw [qx h,qx (hlt.out h)];rfl
    ·rw [oW h,oW (hgt.out h)];rfl):G:=h
theorem yD (pa pb:Option Addr) (ca cb:Nat) (l m:List Nat) (w:World) (hlen:l.length=m.length) (hm:l.length≤9223372036854775807) (hl:fZ 1000000000 l) (hmd:fZ 1000000000 m)
   (hc:∀ k,k<l.length→∃ b off,pa=some ⟨b,off,none⟩∧b<w.heap.size∧w.cell? ⟨b,off+k,none⟩=some (.int .u32 (l.getD k 0:Nat)))
   (hd:∀ k,k<m.length→∃ b off,pb=some ⟨b,off,none⟩∧b<w.heap.size∧w.cell? ⟨b,off+k,none⟩=some (.int .u32 (m.getD k 0:Nat))) :
    Calls Tryz.prog 223 #[ah pa l.length ca,ah pb m.length cb] w fun e w'=>e= aj (Z I (vZ (val 1000000000 l) (val 1000000000 m)))∧Below w.heap.size w w':=zs8
theorem _root_.Go.zs9 {G:Prop} (h:G:=by
 by_cases hs:sz 1000000000 a=sz 1000000000 b
 ·obtain ⟨pa,ca,rfl,h1,h2,h3⟩:=nC.read hx.Da;obtain ⟨pb,cb,rfl,k1,k2,k3⟩:=nC.read hy.Da;refine (yD pa pb ca cb _ _ w hs zo (cZ zo a) (cZ zo b) h3 k3).mono ?_;rintro e w' ⟨rfl,hb⟩;rw [bQ zo,bQ zo];exact ⟨rfl,hb⟩
 ·obtain ⟨a',ca,rfl, -⟩:=hx;obtain ⟨b',cb,rfl, -⟩:=hy;rw [fB,fB];refine (Aj a' b' _ _ ca cb w hs).mono ?_;rintro e w' ⟨rfl,rfl⟩;refine ⟨?_,Below.refl _ _⟩
  rcases Nat.lt_or_gt_of_ne hs with h|h
  ·rw [qx (uf zo h)];exact congrArg _ (congrArg _ (qx h))
  ·rw [oW (uf zo h)];exact congrArg _ (congrArg _ (oW h))):G:=h
theorem jM (x y:Value) (a b:Nat) (w:World) (hx:bW w x a) (hy:bW w y b) :
  Calls Tryz.prog 223 #[x,y] w fun e w'=>e= aj (Z I (vZ a b))∧Below w.heap.size w w':=zs9
theorem Ab:(Tryz.prog.info? 61).map (fun i=>(i.zero,i.size,i.bytes))=some (some (.int .u32 0),1,4):=by kernel_rfl
theorem _root_.Go.aj4 {G:Prop} (h:G:=by
 have hm:val B (m.take (k+1))=val B (m.take k)+B^k*m.getD k 0:=by
  by_cases hkm:k<m.length
  ·exact dO B hkm
  ·rw [List.take_of_length_le zo,List.take_of_length_le zo];simp [Nat.le_of_not_lt hkm]
 rw [iY,dO B hk,hm,hs,Nat.pow_succ];have h2:=congrArg (B^k* ·) h;simp only [Nat.mul_add] at h2;rw [show c'*(B^k*B)=B^k*(c'*B) by rw [Nat.mul_left_comm]];rw [Nat.mul_comm c (B^k)] at he;omega):G:=h
theorem yU {B:Nat} {l m s:List Nat} {k c d c':Nat} (hk:k<l.length) (hs:s.length=k) (he:val B s+c*B^k=val B (l.take k)+val B (m.take k)) (h:d+c'*B=l.getD k 0+c+m.getD k 0) :
  val B (s++[d])+c'*B^(k+1)=val B (l.take (k+1))+val B (m.take (k+1)):=aj4
theorem _root_.Go.aj3 {G:Prop} (h:G:=by
 obtain ⟨i0,hi,hz0,hz1,hz2⟩:=info_parts Ab
 rcases hv with ⟨rfl,rfl⟩|⟨rfl,rfl,hlt⟩
 all_goals
  go_enter al5,al0
  go_wp2_with (at_make;refine wpList_make_own _ rfl _ _ Iz rfl w.heap.size 61 i0 (.int .u32 0) 1 KO hi hz0 hz1 _ _ _ (l.length+1) rfl rfl zo (by rw [hz2];omega) (by unfold maxLen;omega) (Nat.le_refl _) ?_)
  intro w0 hown0 kJ
  go_wp2
  go_loopw [5,6,7,8,22] (fun out cv _ _ kv wr=>∃ (k c:Nat) (s:List Nat),k≤l.length∧c≤1∧s.length=k∧kv= .int .i64 k∧cv= .int .u32 c∧out= .slice (some ⟨w.heap.size,0,none⟩) k (l.length+1) ∧
    wr.ownsRow w.heap.size 61 1 (.slice (some ⟨w.heap.size,0,none⟩) k (l.length+1)) k (eH s)∧fZ 1000000000 s∧Hid (val 1000000000 s+c*1000000000^k=val 1000000000 (l.take k)+val 1000000000 (m.take k))∧Below w.heap.size w wr)
   (fun _ _ _ _ kv _=>l.length - (intOf kv).toNat)
  case atStart=>exact ⟨0,0,[],Nat.zero_le _,by omega,rfl,rfl,rfl,rfl,hown0,fZ.nil,(by simp [val]:val _ _+0*_=_),(Below.refl _ _).grown kJ (Nat.le_refl _) (fun k h=>by cases h)⟩
  case round =>
   obtain ⟨k,c,s,hk,hc1,hs,rfl,rfl,rfl,hown,hds,HV,hb⟩:=hrel;have HS:=zh hs;clear hs
   by_cases hkl:k<l.length
   ·obtain ⟨b,off,rfl,hbb,hx0⟩:=hc k hkl;have hx:wr.cell? ⟨b,off+k,none⟩=some (.int .u32 (l.getD k 0:Nat)):=(hb.cell (by exact hbb)).trans hx0;have hdl:l.getD k 0<1000000000:=hl.getD zo k
    have HP:∀ d c',d+c'*1000000000=l.getD k 0+c+m.getD k 0→val 1000000000 (s++[d])+c'*1000000000^(k+1)=val 1000000000 (l.take (k+1))+val 1000000000 (m.take (k+1)) :=
     fun d c' h=>yU hkl HS.out HV.out h
    have nu:=zh HP;clear HP hx0 hc
    by_cases hkm:k<m.length
    ·obtain ⟨b2,off2,rfl,G6,hy0⟩:=hd k hkm;have hy:wr.cell? ⟨b2,off2+k,none⟩=some (.int .u32 (m.getD k 0:Nat)):=(hb.cell (by exact G6)).trans hy0;have Mx:m.getD k 0<1000000000:=hmd.getD zo k;clear hy0 hd;generalize l.getD k 0=x at *;generalize m.getD k 0=y at *
     by_cases hge:x+c+y<1000000000
     ·have hge':decide ((1000000000:Int)≤(x:Int)+(c:Int)+(y:Int))=false:=by rw [decide_eq_false_iff_not];omega
      have HG:=zh hge;clear hge;go_wp2_with (at_builtin;refine wpList_append_fits _ rfl (.tmp 44) (.tmp 46) Iz rfl w.heap.size 61 i0 1 KO hi hz1 w.heap.size k (l.length+1) _ rfl (hown.alloc _) ⟨wr.heap.size,0,none⟩ 1 1 [.int .u32 ((x:Int)+(c:Int)+(y:Int))] rfl rfl (by intro t u ht;match t,ht with|0,ht=>simp at ht;subst ht;simp [Addr.add]) (by intro u hu;simp at hu;subst hu;rfl) zo ?_)
      intro w1 hown1 hgrow1
      have hown2:w1.ownsRow w.heap.size 61 1 (.slice (some ⟨w.heap.size,0,none⟩) (k+1) (l.length+1)) (k+1) (eH (s++[x+c+y])):=by
       have e:eH (s++[x+c+y])=eH s++[.int .u32 ((x:Int)+(c:Int)+(y:Int))]:=by have:=HG.out;unfold eH;simp only [List.map_append,List.map_cons,List.map_nil];rw [show ((x+c+y:Nat):Int)=(x:Int)+(c:Int)+(y:Int) by omega]
       rw [e];exact hown1
      have hb2:Below w.heap.size w w1:=(hb.alloc hb.size _).grown hgrow1 (by simp;have:=hb.size;omega) (fun k hk=>by cases hk;exact Nat.le_refl _);clear hown hown1 hgrow1
      go_wp2
      go_roundw
      case rel=>exact ⟨k+1,0,s++[x+c+y],by omega,by omega,by rw [List.length_append,HS.out];rfl,by go_num,rfl,rfl,hown2,hds.snoc (by have:=HG.out;omega),nu.out _ _ (by have:=HG.out;omega),hb2⟩
      case measure=>exact zM
     ·have hge':decide ((1000000000:Int)≤(x:Int)+(c:Int)+(y:Int))=true:=by rw [decide_eq_true_iff];omega
      have ap0:(0:Int)≤(x:Int)+(c:Int)+(y:Int) - 1000000000:=by omega
      have HG:=zh hge;clear hge;go_wp2_with (at_builtin;refine wpList_append_fits _ rfl (.tmp 44) (.tmp 46) Iz rfl w.heap.size 61 i0 1 KO hi hz1 w.heap.size k (l.length+1) _ rfl (hown.alloc _) ⟨wr.heap.size,0,none⟩ 1 1 [.int .u32 ((x:Int)+(c:Int)+(y:Int) - 1000000000)] rfl rfl (by intro t u ht;match t,ht with|0,ht=>simp at ht;subst ht;simp [Addr.add]) (by intro u hu;simp at hu;subst hu;rfl) zo ?_)
      intro w1 hown1 hgrow1
      have hown2:w1.ownsRow w.heap.size 61 1 (.slice (some ⟨w.heap.size,0,none⟩) (k+1) (l.length+1)) (k+1) (eH (s++[x+c+y - 1000000000])):=by
       have e:eH (s++[x+c+y - 1000000000])=eH s++[.int .u32 ((x:Int)+(c:Int)+(y:Int) - 1000000000)]:=by have:=HG.out;unfold eH;simp only [List.map_append,List.map_cons,List.map_nil];rw [show ((x+c+y - 1000000000:Nat):Int)=(x:Int)+(c:Int)+(y:Int) - 1000000000 by omega]
       rw [e];exact hown1
      have hb2:Below w.heap.size w w1:=(hb.alloc hb.size _).grown hgrow1 (by simp;have:=hb.size;omega) (fun k hk=>by cases hk;exact Nat.le_refl _);clear hown hown1 hgrow1
      go_wp2
      go_roundw
      case rel=>exact ⟨k+1,1,s++[x+c+y - 1000000000],by omega,by omega,by rw [List.length_append,HS.out];rfl,by go_num,rfl,rfl,hown2,hds.snoc (by have:=HG.out;omega),nu.out _ _ (by have:=HG.out;omega),hb2⟩
      case measure=>exact zM
    ·have hm0:m.getD k 0=0:=by simp [Nat.le_of_not_lt hkm]
     rw [hm0] at nu;clear hm0 hd;generalize l.getD k 0=x at *
     by_cases hge:x+c<1000000000
     ·have hge':decide ((1000000000:Int)≤(x:Int)+(c:Int))=false:=by rw [decide_eq_false_iff_not];omega
      have HG:=zh hge;clear hge;go_wp2_with (at_builtin;refine wpList_append_fits _ rfl (.tmp 44) (.tmp 46) Iz rfl w.heap.size 61 i0 1 KO hi hz1 w.heap.size k (l.length+1) _ rfl (hown.alloc _) ⟨wr.heap.size,0,none⟩ 1 1 [.int .u32 ((x:Int)+(c:Int))] rfl rfl (by intro t u ht;match t,ht with|0,ht=>simp at ht;subst ht;simp [Addr.add]) (by intro u hu;simp at hu;subst hu;rfl) zo ?_)
      intro w1 hown1 hgrow1
      have hown2:w1.ownsRow w.heap.size 61 1 (.slice (some ⟨w.heap.size,0,none⟩) (k+1) (l.length+1)) (k+1) (eH (s++[x+c])):=by
       have e:eH (s++[x+c])=eH s++[.int .u32 ((x:Int)+(c:Int))]:=by have:=HG.out;unfold eH;simp only [List.map_append,List.map_cons,List.map_nil];rw [show ((x+c:Nat):Int)=(x:Int)+(c:Int) by omega]
       rw [e];exact hown1
      have hb2:Below w.heap.size w w1:=(hb.alloc hb.size _).grown hgrow1 (by simp;have:=hb.size;omega) (fun k hk=>by cases hk;exact Nat.le_refl _);clear hown hown1 hgrow1
      go_wp2
      go_roundw
      case rel=>exact ⟨k+1,0,s++[x+c],by omega,by omega,by rw [List.length_append,HS.out];rfl,by go_num,rfl,rfl,hown2,hds.snoc (by have:=HG.out;omega),nu.out _ _ (by have:=HG.out;omega),hb2⟩
      case measure=>exact zM
     ·have hge':decide ((1000000000:Int)≤(x:Int)+(c:Int))=true:=by rw [decide_eq_true_iff];omega
      have ap0:(0:Int)≤(x:Int)+(c:Int) - 1000000000:=by omega
      have HG:=zh hge;clear hge;go_wp2_with (at_builtin;refine wpList_append_fits _ rfl (.tmp 44) (.tmp 46) Iz rfl w.heap.size 61 i0 1 KO hi hz1 w.heap.size k (l.length+1) _ rfl (hown.alloc _) ⟨wr.heap.size,0,none⟩ 1 1 [.int .u32 ((x:Int)+(c:Int) - 1000000000)] rfl rfl (by intro t u ht;match t,ht with|0,ht=>simp at ht;subst ht;simp [Addr.add]) (by intro u hu;simp at hu;subst hu;rfl) zo ?_)
      intro w1 hown1 hgrow1
      have hown2:w1.ownsRow w.heap.size 61 1 (.slice (some ⟨w.heap.size,0,none⟩) (k+1) (l.length+1)) (k+1) (eH (s++[x+c - 1000000000])):=by
       have e:eH (s++[x+c - 1000000000])=eH s++[.int .u32 ((x:Int)+(c:Int) - 1000000000)]:=by have:=HG.out;unfold eH;simp only [List.map_append,List.map_cons,List.map_nil];rw [show ((x+c - 1000000000:Nat):Int)=(x:Int)+(c:Int) - 1000000000 by omega]
       rw [e];exact hown1
      have hb2:Below w.heap.size w w1:=(hb.alloc hb.size _).grown hgrow1 (by simp;have:=hb.size;omega) (fun k hk=>by cases hk;exact Nat.le_refl _);clear hown hown1 hgrow1
      go_wp2
      go_roundw
      case rel=>exact ⟨k+1,1,s++[x+c - 1000000000],by omega,by omega,by rw [List.length_append,HS.out];rfl,by go_num,rfl,rfl,hown2,hds.snoc (by have:=HG.out;omega),nu.out _ _ (by have:=HG.out;omega),hb2⟩
      case measure=>exact zM
   ·have hkk:k=l.length:=by omega
    subst hkk;clear hc hd
    have Bj:Hid (val 1000000000 s+c*1000000000^l.length=val 1000000000 l+val 1000000000 m):=by
     have:=HV.out;rwa [List.take_length,List.take_of_length_le hml] at this
    clear HV
    rcases Nat.eq_zero_or_pos c with h0|h0
    ·subst h0
     go_wp2
     go_ret
     refine ⟨s,_,rfl,hb,nC.ig hown,hds,by have:=Bj.out;simpa using this,Nat.le_of_eq HS.out.symm,fun h=>absurd h (by rw [HS.out];exact Nat.lt_irrefl _)⟩
    ·have hc1':c=1:=by omega
     subst hc1';go_wp2_with (at_builtin;refine wpList_append_fits _ rfl (.tmp 51) (.tmp 53) Iz rfl w.heap.size 61 i0 1 KO hi hz1 w.heap.size l.length (l.length+1) _ rfl (hown.alloc _) ⟨wr.heap.size,0,none⟩ 1 1 [.int .u32 1] rfl rfl (by intro t u ht;match t,ht with|0,ht=>simp at ht;subst ht;simp [Addr.add]) (by intro u hu;simp at hu;subst hu;rfl) zo ?_)
     intro w1 hown1 hgrow1
     have hown2:w1.ownsRow w.heap.size 61 1 (.slice (some ⟨w.heap.size,0,none⟩) (l.length+1) (l.length+1)) (l.length+1) (eH (s++[1])):=by
      have e:eH (s++[1])=eH s++[.int .u32 1]:=by simp [eH]
      rw [e];exact hown1
     have hb2:Below w.heap.size w w1:=(hb.alloc hb.size _).grown hgrow1 (by simp;have:=hb.size;omega) (fun k hk=>by cases hk;exact Nat.le_refl _);clear hown hown1 hgrow1
     go_wp2
     go_ret
     refine ⟨s++[1],_,rfl,hb2,nC.ig hown2,hds.snoc zo,?_,by rw [List.length_append,HS.out];exact Nat.le_add_right _ _,fun _=>Top.snoc zo⟩;have:=Bj.out;rw [iY,HS.out,Nat.mul_one]
     rwa [Nat.one_mul] at this):G:=h
theorem yT (pl ps:Option Addr) (cl cs:Nat) (l m:List Nat) (v0 v1:Value) (w:World) (hl:fZ 1000000000 l) (hmd:fZ 1000000000 m) (hb1:l.length≤1099511627776) (hml:m.length≤l.length)
   (hv:(v0= ah pl l.length cl∧v1= ah ps m.length cs)∨(v1= ah pl l.length cl∧v0= ah ps m.length cs∧m.length<l.length))
   (hc:∀ k,k<l.length→∃ b off,pl=some ⟨b,off,none⟩∧b<w.heap.size∧w.cell? ⟨b,off+k,none⟩=some (.int .u32 (l.getD k 0:Nat)))
   (hd:∀ k,k<m.length→∃ b off,ps=some ⟨b,off,none⟩∧b<w.heap.size∧w.cell? ⟨b,off+k,none⟩=some (.int .u32 (m.getD k 0:Nat))) :
    Calls Tryz.prog 228 #[v0,v1] w fun e w'=>∃ s v,e= aj v∧Below w.heap.size w w'∧nC w' v s∧fZ 1000000000 s∧val 1000000000 s=val 1000000000 l+val 1000000000 m∧l.length≤s.length∧(l.length<s.length→Top s):=aj3
theorem _root_.Go.zs12 {G:Prop} (h:G:=by
 have fin:∀ (l m s:List Nat) (w':World) (v:Value),Top l→nC w' v s→fZ 1000000000 s→val 1000000000 s=val 1000000000 l+val 1000000000 m→l.length≤s.length→(l.length<s.length→Top s)→bW w' v (val 1000000000 l+val 1000000000 m):=fun l m s w' v ht h1 h2 h3 h4 h5=>by
  rw [← h3];refine bW.LW h1 h2 ?_
  by_cases h:l.length<s.length
  ·exact h5 h
  ·exact Lb zo ht h2 zo zo
 obtain ⟨pa,ca,rfl,h1,h2,h3⟩:=nC.read hx.Da;obtain ⟨pb,cb,rfl,k1,k2,k3⟩:=nC.read hy.Da
 by_cases hlt:(eF 1000000000 a).length<(eF 1000000000 b).length
 ·refine (yT pb pa cb ca _ _ _ _ w (cZ zo b) (cZ zo a) hb zo (.inr ⟨rfl,rfl,hlt⟩) k3 h3).mono ?_;rintro e w' ⟨s,v,rfl,hbl,q1,q2,q3,q4,q5⟩;refine ⟨v,rfl,hbl,?_⟩;have:=fin _ _ s w' v (nQ zo b) q1 q2 q3 q4 q5
  rwa [bQ zo,bQ zo,Nat.add_comm] at this
 ·refine (yT pa pb ca cb _ _ _ _ w (cZ zo a) (cZ zo b) ha zo (.inl ⟨rfl,rfl⟩) h3 k3).mono ?_;rintro e w' ⟨s,v,rfl,hbl,q1,q2,q3,q4,q5⟩;refine ⟨v,rfl,hbl,?_⟩;have:=fin _ _ s w' v (nQ zo a) q1 q2 q3 q4 q5
  rwa [bQ zo,bQ zo] at this):G:=h
theorem AZ (x y:Value) (a b:Nat) (w:World) (hx:bW w x a) (hy:bW w y b) (ha:sz 1000000000 a≤1099511627776) (hb:sz 1000000000 b≤1099511627776) :
  Calls Tryz.prog 228 #[x,y] w fun e w'=>∃ v,e= aj v∧Below w.heap.size w w'∧bW w' v (a+b):=zs12
theorem _root_.Go.aj2 {G:Prop} (h:G:=by
 obtain ⟨i0,hi,hz0,hz1,hz2⟩:=info_parts Ab;have FY:=zh hle;clear hle;go_enter ak9,ak8
 go_wp2_with (at_make;refine wpList_make_full _ rfl _ _ Iz rfl w.heap.size 61 i0 (.int .u32 0) 1 KO hi hz0 hz1 _ _ _ _ l.length rfl rfl zo zo (by rw [hz2];omega) (by unfold maxLen;omega) (Nat.le_refl _) ?_)
 intro w0 hown0 kJ;rw [qR] at hown0
 go_wp2
 go_loopw [6,7,8,9,15] (fun cv _ _ _ kv wr=>∃ (k c:Nat) (s:List Nat),k≤l.length∧c≤1∧Hid (s.length=k)∧kv= .int .i64 k∧cv= .int .u32 c ∧
   wr.ownsRow w.heap.size 61 1 (.slice (some ⟨w.heap.size,0,none⟩) l.length l.length) l.length (eH (s++List.replicate (l.length - k) 0))∧fZ 1000000000 s∧Hid (val 1000000000 s+val 1000000000 (m.take k)=val 1000000000 (l.take k)+c*1000000000^k)∧Below w.heap.size w wr)
  (fun _ _ _ _ kv _=>l.length - (intOf kv).toNat)
 case atStart=>exact ⟨0,0,[],Nat.zero_le _,by omega,rfl,rfl,rfl,by simpa using hown0,fZ.nil,(by simp [val]:val _ _+val _ _=val _ _+0*_),(Below.refl _ _).grown kJ (Nat.le_refl _) (fun k h=>by cases h)⟩
 case round =>
  obtain ⟨k,c,s,hk,hc1,HS,rfl,rfl,hown,hds,HV,hb⟩:=hrel
  by_cases hkl:k<l.length
  ·obtain ⟨b,off,rfl,hbb,hx0⟩:=hc k hkl;have hx:wr.cell? ⟨b,off+k,none⟩=some (.int .u32 (l.getD k 0:Nat)):=(hb.cell (by exact hbb)).trans hx0;have hdl:l.getD k 0<1000000000:=hl.getD zo k
   have hr1:wr.cell? ⟨w.heap.size,k,none⟩=some (.int .u32 0):=by
    rw [hown.cellAt k zo,nP (by rw [List.length_append,HS.out,List.length_replicate];omega),Uz HS.out];rfl
   have hr2:wr.frozen? ⟨w.heap.size,k,none⟩=false:=hown.frozenAt k
   have HP:Hid (∀ d c',d+m.getD k 0+c=l.getD k 0+c'*1000000000→val 1000000000 (s++[d])+val 1000000000 (m.take (k+1))=val 1000000000 (l.take (k+1))+c'*1000000000^(k+1)) :=
    fun d c' h=>Cj hkl HS.out HV.out h
   have HO:Hid (∀ d:Nat,(wr.setCell ⟨w.heap.size,k,none⟩ (.int .u32 (d:Int))).ownsRow w.heap.size 61 1 (.slice (some ⟨w.heap.size,0,none⟩) l.length l.length) l.length (eH ((s++[d])++List.replicate (l.length - (k+1)) 0))∧Below w.heap.size w (wr.setCell ⟨w.heap.size,k,none⟩ (.int .u32 (d:Int)))):=fun d=>by
    have h1:=(hown.stored k (.int .u32 (d:Int))).1;rw [kU,set_mid HS.out hkl] at h1;exact ⟨h1,hb.setCell (Nat.le_refl _) _⟩
   clear hx0 hc hown
   by_cases hkm:k<m.length
   ·obtain ⟨b2,off2,rfl,G6,hy0⟩:=hd k hkm;have hy:wr.cell? ⟨b2,off2+k,none⟩=some (.int .u32 (m.getD k 0:Nat)):=(hb.cell (by exact G6)).trans hy0;have Mx:m.getD k 0<1000000000:=hmd.getD zo k;clear hy0 hd;generalize l.getD k 0=x at *;generalize m.getD k 0=y at *
    by_cases hge:x<c+y
    ·have pR:=HO.out (x+1000000000 - (c+y));rw [show ((x+1000000000 - (c+y):Nat):Int)=(x:Int)+1000000000 - ((c:Int)+(y:Int)) by omega] at pR;have pW:=zh pR;clear pR HO
     go_wp2
     go_roundw
     case rel=>exact ⟨k+1,1,s++[x+1000000000 - (c+y)],by omega,by omega,zh (by rw [List.length_append,HS.out];rfl),by go_num,rfl,pW.out.1,hds.snoc zo,HP.out _ _ zo,pW.out.2⟩
     case measure=>exact zM
    ·have pR:=HO.out (x - (c+y));rw [show ((x - (c+y):Nat):Int)=(x:Int) - ((c:Int)+(y:Int)) by omega] at pR;have pW:=zh pR;clear pR HO
     go_wp2
     go_roundw
     case rel=>exact ⟨k+1,0,s++[x - (c+y)],by omega,by omega,zh (by rw [List.length_append,HS.out];rfl),by go_num,rfl,pW.out.1,hds.snoc zo,HP.out _ _ zo,pW.out.2⟩
     case measure=>exact zM
   ·have hm0:m.getD k 0=0:=by simp [Nat.le_of_not_lt hkm]
    rw [hm0] at HP;clear hm0 hd;generalize l.getD k 0=x at *
    by_cases hge:x<c
    ·have pR:=HO.out (x+1000000000 - c);rw [show ((x+1000000000 - c:Nat):Int)=(x:Int)+1000000000 - (c:Int) by omega] at pR;have pW:=zh pR;clear pR HO
     go_wp2
     go_roundw
     case rel=>exact ⟨k+1,1,s++[x+1000000000 - c],by omega,by omega,zh (by rw [List.length_append,HS.out];rfl),by go_num,rfl,pW.out.1,hds.snoc zo,HP.out _ _ zo,pW.out.2⟩
     case measure=>exact zM
    ·have pR:=HO.out (x - c);rw [show ((x - c:Nat):Int)=(x:Int) - (c:Int) by omega] at pR;have pW:=zh pR;clear pR HO
     go_wp2
     go_roundw
     case rel=>exact ⟨k+1,0,s++[x - c],by omega,by omega,zh (by rw [List.length_append,HS.out];rfl),by go_num,rfl,pW.out.1,hds.snoc zo,HP.out _ _ zo,pW.out.2⟩
     case measure=>exact zM
  ·have hkk:k=l.length:=by omega
   subst hkk;clear hc hd
   have Bj:val 1000000000 s+val 1000000000 m=val 1000000000 l+c*1000000000^l.length:=by
    have:=HV.out;rwa [List.take_length,List.take_of_length_le hml] at this
   have hvs:val 1000000000 s<1000000000^l.length:=by have:=iP zo hds;rwa [HS.out] at this
   have hc0:c=0:=by
    rcases Nat.eq_zero_or_pos c with h|h
    ·exact h
    ·exfalso
     have:c=1:=by omega
     subst this;have:=FY.out;omega
   have HF:Hid (val 1000000000 s=val 1000000000 l - val 1000000000 m):=by subst hc0;unfold Hid;omega
   clear HV Bj hvs FY
   have hown3:nC wr (.slice (some ⟨w.heap.size,0,none⟩) l.length l.length) s:=by
    have:=nC.ig hown;rwa [Nat.sub_self,List.replicate_zero,List.append_nil] at this
   clear hown;go_wp2_with ((first|go_at_call 227|go_at_call 327);refine (pX _ _ _ hown3 hds).mono ?_;rintro e w' ⟨v,rfl,rfl,hv⟩)
   go_ret
   exact ⟨v,rfl,hb,by rw [← HF.out];exact hv⟩):G:=h
theorem Ci (pl ps:Option Addr) (cl cs:Nat) (l m:List Nat) (w:World) (hl:fZ 1000000000 l) (hmd:fZ 1000000000 m) (hb1:l.length≤1099511627776) (hml:m.length≤l.length) (hle:val 1000000000 m≤val 1000000000 l)
   (hc:∀ k,k<l.length→∃ b off,pl=some ⟨b,off,none⟩∧b<w.heap.size∧w.cell? ⟨b,off+k,none⟩=some (.int .u32 (l.getD k 0:Nat)))
   (hd:∀ k,k<m.length→∃ b off,ps=some ⟨b,off,none⟩∧b<w.heap.size∧w.cell? ⟨b,off+k,none⟩=some (.int .u32 (m.getD k 0:Nat))) :
    Calls Tryz.prog 229 #[ah pl l.length cl,ah ps m.length cs] w fun e w'=>∃ v,e= aj v∧Below w.heap.size w w'∧bW w' v (val 1000000000 l - val 1000000000 m):=aj2
theorem _root_.Go.aj1 {G:Prop} (h:G:=by
 obtain ⟨pa,ca,rfl,h1,h2,h3⟩:=nC.read hx.Da;obtain ⟨pb,cb,rfl,k1,k2,k3⟩:=nC.read hy.Da;have:=Ci pa pb ca cb _ _ w (cZ zo a) (cZ zo b) ha (gu zo hle) (by rw [bQ zo,bQ zo];exact hle) h3 k3
 rwa [bQ zo,bQ zo] at this):G:=h
theorem Ck (x y:Value) (a b:Nat) (w:World) (hx:bW w x a) (hy:bW w y b) (ha:sz 1000000000 a≤1099511627776) (hle:b≤a) :
  Calls Tryz.prog 229 #[x,y] w fun e w'=>∃ v,e= aj v∧Below w.heap.size w w'∧bW w' v (a - b):=aj1
end Go.Proofs.fu
