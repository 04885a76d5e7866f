/- Lemmas for the proof. No condition. -/
import Derived.Test.YtlpjmogillpnbaaGreatDoorTB05
import Derived.Test.YtlpjmogillpnbaaGreatDoorRows
import Derived.KernelRfl
import Derived.WalkMore
import Derived.Lib.Strings
import Derived.Lib.Slices
import Derived.Lib.Walk
import Derived.Lib.ParseIntBTie
import Derived.ProofKit
import Derived.LaidMore
import Derived.OpenShut
import Derived.Stop.Joined
import Derived.Stop.LaidErr
import Derived.Lib.LaidTab
import Derived.ChangeSame
import Derived.Laws.IdiomArrays
import Derived.Deep.QuietTactic
import Derived.BigQuiet
import Derived.WalkSmall
set_option linter.unusedVariables false
set_option linter.unusedSimpArgs false
set_option maxRecDepth 100000
set_option maxHeartbeats 16000000
open Array renaming getElem?_eq_none → bG
open Bool renaming eq_iff_iff → gN
open Go.Ending renaming returned → ah
open Go.IntKind renaming i64 → I
open Go.Value renaming agg → au, bool → ay, int → Z, pointer → aA, slice → aj, string → O, tuple → aD
open List renaming all_eq_true → iP, getElem_mem → eX, length_cons → aZ
open Nat renaming add_assoc → jr, add_mul → bX, add_zero → eO, le_refl → aI, le_trans → aB, lt_of_lt_of_le → aL, lt_or_ge → aO, mul_assoc → bL, mul_comm → aJ, pow_succ → bF, zero_add → dw
namespace Go.Proofs.whole
open Go Go.RowKit Go.SW Go.Num Go.Mem Go.Proofs
theorem _root_.Go.zs1 {G:Prop} (h:G:=by
 go_enter zq1,zq2
 go_wp2
 go_loop [0] (fun v=>∃ k:Nat,k≤l.length∧trimLen l k=trimLen l l.length∧v= .slice (some ⟨b,off,none⟩) k c) (fun v=>match v with| .slice _ k _=>k| _=>0)
 case atStart=>exact ⟨l.length,Nat.le_refl _,rfl,rfl⟩
 case round =>
  obtain ⟨k,hk,ht,rfl⟩:=hrel;have HT:=zh ht;clear ht
  rcases Nat.eq_zero_or_pos k with h0|h0
  ·subst h0
   go_wp2
   go_ret
   exact ⟨by rw [← HT.out];rfl,rfl⟩
  ·obtain ⟨j,rfl⟩:∃ j,k=j+1:=⟨k - 1,by omega⟩;have hcj:=hc j zo;have HS:Hid (trimLen l (j+1)=if l.getD j 0=0 then trimLen l j else j+1):=rfl;generalize l.getD j 0=d at hcj HS;clear hc
   rcases Nat.eq_zero_or_pos d with hd|hd
   ·subst hd
    go_wp2
    go_round
    case rel=>exact ⟨j,by omega,by rw [← HT.out,HS.out];rfl,rfl⟩
    case measure=>exact Nat.lt_succ_self _
   ·have hz:((d:Int) == 0)=false:=by simp;omega
    go_wp2
    go_ret
    exact ⟨by rw [← HT.out,HS.out,if_neg zo];rfl,rfl⟩):G:=h
theorem Ac (b off c:Nat) (l:List Nat) (w:World) (hl:l.length≤c) (hm:c≤9223372036854775807)
   (hc:∀ k,k<l.length→w.cell? ⟨b,off+k,none⟩=some (.int .u32 (l.getD k 0:Nat))) :
    Calls Tryz.prog 226 #[aj (some ⟨b,off,none⟩) l.length c] w fun e w'=>e= ah (aj (some ⟨b,off,none⟩) (trimLen l l.length) c)∧w=w':=zs1
theorem Cr (w:World):Calls Tryz.prog 226 #[aj none 0 0] w fun e w'=>e= ah (aj none 0 0)∧w=w':=by
 go_enter Tryz.func226,Tryz.ntmps226
 go_wp2
 refine wp_loop_rounds 1 ?_;rw [rounds_succ]
 go_wp2
 go_ret
 exact ⟨rfl,rfl⟩
theorem _root_.Go.zs2 {G:Prop} (h:G:=by
 rcases kQ.cases h with ⟨rfl,rfl⟩|⟨b,off,cap,rfl,h1,h2,h3,⟨arr,h4⟩,h5⟩
 ·refine (Cr w).mono ?_;rintro e w' ⟨rfl,rfl⟩;exact ⟨_,rfl,rfl,by rw [show val 1000000000 ([]:List Nat)=0 from rfl];unfold bC;rw [gG];exact Row.nil _ _⟩
 ·refine (Ac b off cap l w h1 h2 h5).mono ?_;rintro e w' ⟨rfl,rfl⟩;refine ⟨_,rfl,rfl,?_⟩;have ht:=trimLen_le l l.length;have e:val 1000000000 l=val 1000000000 (l.take (trimLen l l.length)):=by rw [sH _ _ _ (Nat.le_refl _)];simp
  rw [e];refine bC.F5 ?_ (hd.take _) (sI l _ (Nat.le_refl _));refine Row.mk (arr:=arr) (by rw [dM];simp;omega) (by rw [dM];simp;omega) h2 h4 fun i hi=>?_;rw [dM] at hi;have hi2:i<l.length:=by simp at hi;omega
  have:=h5 i hi2;rw [h4.cell] at this;rw [this];simp [dB,hi2]):G:=h
theorem nG (v:Value) (l:List Nat) (w:World) (h:kQ w v l) (hd:fD 1000000000 l) :
  Calls Tryz.prog 226 #[v] w fun e w'=>∃ v',e= ah v'∧w=w'∧bC w v' (val 1000000000 l):=zs2
end Go.Proofs.whole
namespace Go.Proofs.whole
open Go Go.RowKit Go.SW Go.Num Go.Mem Go.Proofs Go.Dec
theorem R4:(Tryz.prog.info? 133).map (fun i=>(i.zero,i.size,i.bytes))=some (some (.int .u32 0),1,4):=by kernel_rfl
theorem _root_.Go.zs3 {G:Prop} (h:G:=by
 obtain ⟨i0,hi,hz0,hz1,hz2⟩:=info_parts R4;generalize hbs:s.data.toList=bs at *;have hn:bs.length=s.size:=by rw [← hbs];rfl
 have Zi:=zh hbs;have HN:=zh hn;clear hbs hn;go_enter zq3,zq4
 go_wp2_with fail
 go_step3
 go_wp2_with fail
 go_step3
 go_wp2_with fail
 go_loopw [3,4] (fun mv ev wr=>∃ (e:Nat) (ls:List Nat),ev= .int .i64 (e:Int)∧Hid (e+9*ls.length=s.size)∧fD 1000000000 ls∧Hid (val 1000000000 ls=num (bs.drop e))∧wr.ownsRow w.heap.size 133 1 mv ls.length (dB ls)∧Below w.heap.size w wr) (fun _ ev _=>(intOf ev).toNat)
 case atStart=>exact ⟨s.size,[],rfl,zh zi,fD.nil,zh (by rw [← HN.out,List.drop_length];simp [val,num]),World.ownsRow_nil _ _ _ _,Below.refl _ _⟩
 case round =>
  obtain ⟨e,ls,rfl,HE,hdl,HV,hown,hbr⟩:=hrel;have he:e≤s.size:=by have:=HE.out;omega
  rcases Nat.lt_or_ge e 9 with h9|h9
  ·skip
   have hmx:(e:Int) - 9<0:=by omega
   have aq8:max ((e:Int) - 9) 0=0:=by omega
   have hgl:=yC hd (st:=0) (i:=e) zo;go_wp2_with fail
   go_loopw [6,7] (fun v6 v7 wi=>∃ i:Nat,v7= .int .i64 (i:Int)∧0≤i∧i≤e∧Hid (v6= .int .u32 (num ((bs.take i).drop (0)):Nat))∧wr=wi) (fun _ v7 _=>e - (intOf v7).toNat)
   case atStart=>exact ⟨0,rfl,Nat.le_refl _,by omega,zh (by rw [List.drop_eq_nil_of_le (by rw [List.length_take];omega)];rfl),rfl⟩
   case round =>
    obtain ⟨i,rfl,hi1,hi2,H6,rfl⟩:=hrel;have e6:=H6.out;subst e6
    rcases Nat.lt_or_ge i e with hie|hie
    ·have his:i<s.size:=by omega
     have hx:bs[i]? =some s[i]:=by rw [← Zi.out,Array.getElem?_toList];exact Array.getElem?_eq_getElem his
     have HS:=zh (vL hd hi1 zo hx);go_wp2_with fail
     exact ⟨⟨i+1,rfl,by omega,by omega,zh (by simp only [List.drop_zero] at HS ⊢;rw [HS.out]),trivial⟩,by simp only [intOf];omega⟩
    ·have hie:i=e:=by omega
     subst hie;have HG:=zh (Ah (bs:=bs) (s:=0) (e:=i) zo (by have:=HN.out;omega));have hlen:bs.length - i=9*ls.length:=by have:=HE.out;have:=HN.out;omega
     rw [hlen,Nat.pow_mul,← HV.out] at HG;generalize num ((bs.take i).drop (0))=gv at *;clear H6;go_wp2_with (at_builtin;refine wpList_append_own _ rfl (.tmp 29) (.tmp 31) Cc rfl w.heap.size 133 i0 (.int .u32 0) 1 4 Fb hi hz0 hz1 hz2 rfl zd _ _ _ rfl (hown.alloc _) ⟨wr.heap.size,0,none⟩ 1 1 [.int .u32 (gv:Int)] rfl rfl (by intro t u ht;match t,ht with|0,ht=>simp at ht;subst ht;simp [Addr.add]) (by intro u hu;simp at hu;subst hu;rfl) (by unfold maxLen;have:=HE.out;omega) (by have:=HE.out;omega) (by have:=hbr.size;simp;omega) ?_)
     intro v' w1 hown1 hgrow1 _
     have hown2:w1.ownsRow w.heap.size 133 1 v' (ls++[gv]).length (dB (ls++[gv])):=by
      have e:dB (ls++[gv])=dB ls++[.int .u32 (gv:Int)]:=by unfold dB;simp only [List.map_append,List.map_cons,List.map_nil]
      rw [e,List.length_append];exact hown1
     have hb3:Below w.heap.size w w1:=(hbr.alloc hbr.size _).grown hgrow1 (by simp;have:=hbr.size;omega) (fun k hk=>(hown.lt k hk).1)
     have Fp:Hid (val 1000000000 (ls++[gv])=num (bs.drop (0))):=by
      unfold Hid;rw [jQ,HG.out,Nat.add_comm,Nat.mul_comm]
     clear hown hown1 hgrow1;have Qv:fD 1000000000 (ls++[gv]):=hdl.snoc hgl;go_wp2_with ((first|go_at_call 226|go_at_call 130);refine (nG _ _ _ (Row.iA hown2) Qv).mono ?_;rintro e w' ⟨v,rfl,rfl,hv⟩;have HM:=zh hv;clear hv)
     rw [Fp.out,List.drop_zero] at HM;rw [Exit.noGoto_ret];go_ret
     exact ⟨_,rfl,hb3,HM.out⟩
  ·skip
   obtain ⟨f,rfl⟩:∃ f,e=f+9:=⟨e - 9,by omega⟩;have hgl:=yC hd (st:=f) (i:=f+9) zo;go_wp2_with fail
   go_loopw [6,7] (fun v6 v7 wi=>∃ i:Nat,v7= .int .i64 (i:Int)∧f≤i∧i≤f+9∧Hid (v6= .int .u32 (num ((bs.take i).drop (f)):Nat))∧wr=wi) (fun _ v7 _=>f+9 - (intOf v7).toNat)
   case atStart=>exact ⟨f,rfl,Nat.le_refl _,by omega,zh (by rw [List.drop_eq_nil_of_le (by rw [List.length_take];omega)];rfl),rfl⟩
   case round =>
    obtain ⟨i,rfl,hi1,hi2,H6,rfl⟩:=hrel;have e6:=H6.out;subst e6
    rcases Nat.lt_or_ge i (f+9) with hie|hie
    ·have his:i<s.size:=by omega
     have hx:bs[i]? =some s[i]:=by rw [← Zi.out,Array.getElem?_toList];exact Array.getElem?_eq_getElem his
     have HS:=zh (vL hd hi1 zo hx);go_wp2_with fail
     exact ⟨⟨i+1,rfl,by omega,by omega,zh (by rw [HS.out]),trivial⟩,by simp only [intOf];omega⟩
    ·obtain rfl:i=f+9:=by omega
     have HG:=zh (Ah (bs:=bs) (s:=f) (e:=f+9) zo (by have:=HN.out;omega));have hlen:bs.length - (f+9)=9*ls.length:=by have:=HE.out;have:=HN.out;omega
     rw [hlen,Nat.pow_mul,← HV.out] at HG;generalize num ((bs.take (f+9)).drop f)=gv at *;clear H6;go_wp2_with (at_builtin;refine wpList_append_own _ rfl (.tmp 29) (.tmp 31) Cc rfl w.heap.size 133 i0 (.int .u32 0) 1 4 Fb hi hz0 hz1 hz2 rfl zd _ _ _ rfl (hown.alloc _) ⟨wr.heap.size,0,none⟩ 1 1 [.int .u32 (gv:Int)] rfl rfl (by intro t u ht;match t,ht with|0,ht=>simp at ht;subst ht;simp [Addr.add]) (by intro u hu;simp at hu;subst hu;rfl) (by unfold maxLen;have:=HE.out;omega) (by have:=HE.out;omega) (by have:=hbr.size;simp;omega) ?_)
     intro v' w1 hown1 hgrow1 _
     have hown2:w1.ownsRow w.heap.size 133 1 v' (ls++[gv]).length (dB (ls++[gv])):=by
      have e:dB (ls++[gv])=dB ls++[.int .u32 (gv:Int)]:=by unfold dB;simp only [List.map_append,List.map_cons,List.map_nil]
      rw [e,List.length_append];exact hown1
     have hb3:Below w.heap.size w w1:=(hbr.alloc hbr.size _).grown hgrow1 (by simp;have:=hbr.size;omega) (fun k hk=>(hown.lt k hk).1)
     have Fp:Hid (val 1000000000 (ls++[gv])=num (bs.drop (f))):=by
      unfold Hid;rw [jQ,HG.out,Nat.add_comm,Nat.mul_comm]
     clear hown hown1 hgrow1;have Qv:fD 1000000000 (ls++[gv]):=hdl.snoc hgl
     rcases Nat.eq_zero_or_pos f with hf|hf
     ·subst hf;rw [List.drop_zero] at Fp;go_wp2_with ((first|go_at_call 226|go_at_call 130);refine (nG _ _ _ (Row.iA hown2) Qv).mono ?_;rintro e w' ⟨v,rfl,rfl,hv⟩;have HM:=zh hv;clear hv)
      rw [Fp.out] at HM;rw [Exit.noGoto_ret];go_ret
      exact ⟨_,rfl,hb3,HM.out⟩
     ·have hf0:((f:Int) == 0)=false:=by simp;omega
      go_wp2_with fail
      refine ⟨⟨f,ls++[gv],rfl,zh ?_,Qv,Fp,hown2,hb3⟩,?_⟩
      ·have:=HE.out;rw [List.length_append,List.length_singleton];omega
      ·simp only [intOf];omega):G:=h
theorem mF (s:ByteArray) (hs:s.size≤1099511627776) (hd:nE s.data.toList) (w:World) :
  Calls Tryz.prog 178 #[O s] w (fun e w'=>∃ v,e= ah v∧Below w.heap.size w w'∧bC w' v (num s.data.toList)):=zs3
theorem zN (s p:ByteArray) (w:World) :
  Calls Tryz.prog 135 #[O s,O p] w fun e w'=>e= ah (aD #[O ⟨(Lib.trimPrefix s.data.toList p.data.toList).toArray⟩,ay (Lib.hasPrefix s.data.toList p.data.toList)])∧w'=w:=by
 go_enter Tryz.func135,Tryz.ntmps135
 go_wp2
 ·have h2:(!((s.extract 0 p.size).toList == p.toList))=true:=by assumption
  have h3:(decide (p.size≤s.size)&&((s.extract 0 p.size).toList == p.toList))=false:=by
   have:((s.extract 0 p.size).toList == p.toList)=false:=by simpa using h2
   rw [this];simp
  go_ret2
  refine ⟨?_,rfl⟩;rw [Lib.trimPrefix_miss s p h3,← Lib.hasPrefix_raw,h3];rfl
 ·have h1:p.size≤s.size:=by assumption
  have h2:(!((s.extract 0 p.size).toList == p.toList))=false:=by assumption
  have h2':((s.extract 0 p.size).toList == p.toList)=true:=by simpa using h2
  go_ret2
  refine ⟨?_,rfl⟩;rw [Lib.trimPrefix_hit s p h1 h2',← Lib.hasPrefix_raw,h2',decide_eq_true h1];rfl
 ·have h1:¬ p.size≤s.size:=by assumption
  have h3:(decide (p.size≤s.size)&&((s.extract 0 p.size).toList == p.toList))=false:=by simp [h1]
  go_ret2
  refine ⟨?_,rfl⟩;rw [Lib.trimPrefix_miss s p h3,← Lib.hasPrefix_raw,h3];rfl
theorem Uw (l:List UInt8):cut l=(Lib.trimPrefix l [45],Lib.hasPrefix l [45]):=by
 unfold cut Lib.trimPrefix Lib.hasPrefix;cases l with
 | nil=>rfl
 | cons x t =>
  by_cases h:x=45
  ·subst h;simp
  ·have h2:¬ (45:UInt8)=x:=fun e=>h e.symm;simp [h,h2,List.isPrefixOf]
theorem mo (s:ByteArray) (w:World) :
  Calls Tryz.prog 135 #[O s,O ⟨#[45]⟩] w fun e w'=>e= ah (aD #[O ⟨(cut s.data.toList).1.toArray⟩,ay (cut s.data.toList).2])∧w=w':=by
 refine (zN s ⟨#[45]⟩ w).mono ?_;rintro e w' ⟨rfl,rfl⟩;rw [Uw];exact ⟨rfl,rfl⟩
def OD (w:World) (c:Bool) (e:Ending) (w':World):Prop:=(∃ pa n ca ng,e= ah (aD #[au #[aj pa n ca,ay ng],ay c]))∧Below w.heap.size w w'
theorem JM {pa:Option Addr} {n ca:Nat} {ng b c:Bool} (h:c=b):∃ pa' n' Pb ng',Ending.returned (aD #[au #[aj pa n ca,ay ng],ay b])= ah (aD #[au #[aj pa' n' Pb,ay ng'],ay c]):=⟨pa,n,ca,ng,by rw [h]⟩
theorem PV (s:ByteArray) (w:World) :
    Calls Tryz.prog 134 #[O s] w (OD w (whole s.data.toList).isSome):=by
  have HC:=zh (mo s);have hw:(whole s.data.toList).isSome=kH (cut s.data.toList).1 (cut s.data.toList).2:=by unfold whole;split<;>simp_all
  rw [hw];clear hw;generalize cut s.data.toList=c at *;obtain ⟨d,ng⟩:=c;simp only at HC ⊢;have hsz:(⟨d.toArray⟩:ByteArray).size=d.length:=rfl;have h0:d=[]→kH d ng=false:=fun e=>by subst e;rfl
  have h1:600<d.length→kH d ng=false:=fun e=>by
    have h2:¬ d.length≤600:=by omega
    unfold kH;simp [h2]
  have H0:=zh h0;have H1:=zh h1;clear h0 h1;have hbx:aC (w.alloc (.cells #[aj none 0 0,ay false] 177 (0,0))) w.heap.size #[aj none 0 0,ay false] 177:=aC.new _ _ _;have hbl:Below w.heap.size w (w.alloc (.cells #[aj none 0 0,ay false] 177 (0,0))):=(Below.refl _ _).alloc (aI _) _;have oL:=zh hbx;clear hbx;go_enter Tryz.func134,Tryz.ntmps134
  go_wp2_with (go_at_call 135;refine (HC.out _).mono ?_;rintro e w1 ⟨rfl,rfl⟩)
  · refine aY rfl rfl oL.out Tryz.underlying177 rfl zk ⟨⟨none,0,0,false,?_⟩,hbl⟩
    rw [H0.out (by assumption)];rfl
  · refine aY rfl rfl oL.out Tryz.underlying177 rfl zk ⟨⟨none,0,0,false,?_⟩,hbl⟩
    have h1:¬ d=[]:=by assumption
    have h2:((d.length:Int) == 0)=true∨(600:Int)<d.length:=by assumption
    rw [H1.out (by
      rcases h2 with h2|h2
      · have:=List.length_pos_iff.mpr h1
        simp at h2
        exact absurd h2 h1
      · omega)]
    rfl
  · have h1:¬ d=[]:=by assumption
    have h2:((d.length:Int) == 0)=false∧(d.length:Int)≤600:=by assumption
    have hl0:=List.length_pos_iff.mpr h1;have hl1:d.length≤600:=by omega
    clear h2
    go_loopw [23] (fun v wr=>∃ i:Nat,v= Z I (i:Int)∧i≤d.length∧Hid (∀ k (h:k<d.length),k<i→48≤d[k].toNat∧d[k].toNat≤57)∧w.alloc (.cells #[aj none 0 0,ay false] 177 (0,0))=wr) (fun v _=>d.length - (intOf v).toNat)
    case atStart=>exact ⟨0,rfl,by omega,zh (fun k _ h=>by omega),rfl⟩
    case round =>
      obtain ⟨i,rfl,hi,HK,rfl⟩:=hrel
      rcases aO i d.length with hlt|hge
      · have hgt:(⟨d.toArray⟩:ByteArray)[i]'(by exact hlt)=d[i]:=rfl
        have HGT:=zh hgt
        by_cases hdig:48≤d[i].toNat∧d[i].toNat≤57
        · have q1:decide (((⟨d.toArray⟩:ByteArray)[i]'(by exact hlt)).toNat<(48:Int))=false:=by rw [hgt];simp;omega
          have q2:decide ((57:Int)<((⟨d.toArray⟩:ByteArray)[i]'(by exact hlt)).toNat)=false:=by rw [hgt];simp;omega
          clear hgt;go_wp2_with fail
          refine ⟨⟨i+1,rfl,by omega,zh fun k hk hki=>?_,trivial⟩,by simp only [intOf];omega⟩
          rcases aO k i with h|h
          · exact HK.out k hk h
          · obtain rfl:k=i:=by omega
            exact hdig
        · clear hgt
          have hno:kH d ng=false:=by
            have:d.all (fun b=>decide (48≤b.toNat)&&decide (b.toNat≤57))=false:=by
              rw [List.all_eq_false];exact ⟨d[i],eX _,by simpa using hdig⟩
            unfold kH;simp [this]
          have HNO:=zh hno;clear hno;go_wp2_with fail
          all_goals first
            | (exfalso
               have h3:(48:Int)≤((⟨d.toArray⟩:ByteArray)[i]'(by exact hlt)).toNat∧(((⟨d.toArray⟩:ByteArray)[i]'(by exact hlt)).toNat:Int)≤57:=by assumption
               rw [HGT.out] at h3;omega)
            | (try simp only [Exit.inBlock,Exit.then]
               refine aY rfl rfl oL.out Tryz.underlying177 rfl zk ⟨⟨none,0,0,false,?_⟩,hbl⟩;rw [HNO.out];rfl)
      · obtain rfl:i=d.length:=by omega
        have hdd:nE d:=fun b hb=>by
          obtain ⟨k,hk,rfl⟩:=List.getElem_of_mem hb;exact HK.out k hk zo
        have HDD:=zh hdd;have hgt:(⟨d.toArray⟩:ByteArray)[0]'(by exact hl0)=d[0]:=rfl
        have hhd:(d.head? == some 48)=decide (d[0].toNat=48):=by
          rw [List.head?_eq_getElem?, List.getElem?_eq_getElem hl0,gN];simp only [beq_iff_eq,Option.some.injEq,decide_eq_true_eq];exact ⟨fun h=>by rw [h];rfl,fun h=>UInt8.toNat_inj.mp h⟩
        have hok:kH d ng= !(decide (d[0].toNat=48)&&(ng || decide (1<d.length))):=by
          have:d.all (fun b=>decide (48≤b.toNat)&&decide (b.toNat≤57))=true:=by
            rw [iP];intro b hb
            simpa using hdd b hb
          unfold kH;rw [this,hhd];simp [h1,hl1]
        have ad8:nE (⟨d.toArray⟩:ByteArray).data.toList:=hdd;clear hdd hhd HK H0 H1 HC hge hi;generalize d[0]=x at *
        have q0:((((⟨d.toArray⟩:ByteArray)[0]'(by exact hl0)).toNat:Int) == 48)=decide (x.toNat=48):=by
          rw [hgt,gN];simp
          omega
        have q1:decide ((1:Int)<d.length)=decide (1<d.length):=by
          rw [gN,decide_eq_true_iff,decide_eq_true_iff];omega
        clear hgt;have RF:=zh hok;clear hok;have HG:=zh (mF ⟨d.toArray⟩ (by rw [hsz];omega) ad8 (w.alloc (.cells #[aj none 0 0,ay false] 177 (0,0))))
        by_cases hx:x.toNat=48
        all_goals by_cases hl:1<d.length
        all_goals cases ng
        all_goals simp only [hx,hl,decide_true,decide_false,Bool.true_and,Bool.false_and,Bool.true_or,Bool.false_or,Bool.not_true,Bool.not_false] at RF q0 q1
        all_goals go_wp2_with (go_at_call 178;refine (HG.out).mono ?_;rintro e w2 ⟨v,rfl,hb2,hv⟩;obtain ⟨pa,ca,rfl, -⟩:=hv;have tX:=oL.out.later hb2;have c0:w2.cell? ⟨w.heap.size,0,none⟩=some (.slice none 0 0):=(tX.cell 0).trans rfl;have c1:w2.cell? ⟨w.heap.size,1,none⟩=some (.bool false):=(tX.cell 1).trans rfl;have f0:=tX.free 0;have f1:=tX.free 1)
        all_goals (try simp only [Exit.inBlock,Exit.then])
        all_goals first
          | (refine aY rfl rfl oL.out Tryz.underlying177 rfl zk ⟨⟨none,0,0,false,?_⟩,hbl⟩
             rw [RF.out];rfl)
          | (rename_i hb2 _ _ _ _
             refine aY rfl rfl (((oL.out.later hb2).set 0 _).set 1 _) Tryz.underlying177 rfl zk ⟨JM RF.out,((Bt hbl hb2).setCell (aI _) _).setCell (aI _) _⟩)
theorem gI (s:ByteArray) (w:World) :
  Calls Tryz.prog 89 #[O s] w (fun e w'=>e= ah (Z I (if (whole s.data.toList).isSome then 0 else 10))∧Below w.heap.size w w'):=by
 have H:=zh (PV s);generalize (whole s.data.toList).isSome=b at *;cases b
 all_goals
  go_enter Tryz.func89,Tryz.ntmps89
  go_wp2_with (go_at_call 134;refine (H.out _).mono ?_;rintro e w1 ⟨⟨pa,n,ca,ng,rfl⟩,hb1⟩)
  go_ret
  exact ⟨rfl,Bt hb1 ((Below.refl _ _).alloc (aI _) _)⟩
theorem IC (z:Int) (h0: -9223372036854775808≤z) (h1:z≤9223372036854775807) (w:World) (ht:gJ.Pow w) :
  Calls Tryz.prog 62 #[Z I z] w (fun e w'=>e= ah (dA z)∧Below w.heap.size w w'):=by
 have H:=zh (Tryz.strconv_Itoa z h0 h1 w ht);clear ht;go_enter Tryz.func62,Tryz.ntmps62
 go_wp2_with (go_at_call 99;refine (H.out).mono ?_;rintro e w1 ⟨rfl,k,os,rfl⟩)
 go_ret
 exact ⟨rfl,gJ.below_grow _ _ _⟩
end Go.Proofs.whole
namespace Go.Dec
open Go Go.Lib
theorem o8:∀ (l:List UInt8) (acc:Nat),nE l→acc≤18446744073709551615→parseUintM 18446744073709551615 acc l=if acc*10^l.length+num l≤18446744073709551615 then .ok (acc*10^l.length+num l) else .range
 | [],acc,_,ha=>by
  simp only [parseUintM,List.length_nil,Nat.pow_zero,Nat.mul_one,Bf,eO];rw [if_pos ha]
 | b::l,acc,hd,ha=>by
  have hb:=hd b zi;have hl:nE l:=fun x hx=>hd x (by simp [hx])
  have hn:num (b::l)=(b.toNat - 48)*10^l.length+num l:=by
   have:=xV [b] l;simp only [List.singleton_append] at this;rw [this];simp [num]
  have hp:0<10^l.length:=Nat.pow_pos zo
  have e:acc*10^(b::l).length+num (b::l)=(acc*10+(b.toNat - 48))*10^l.length+num l:=by
   rw [hn,aZ,bF,bX,jr]
   congr 1
   rw [bL,aJ 10]
  rw [e];have hge:∀ x,x≤x*10^l.length+num l:=fun x=>aB (Nat.le_mul_of_pos_right x hp) (Nat.le_add_right _ _);unfold parseUintM;rw [if_pos hb]
  by_cases h1:1844674407370955162≤acc
  ·rw [if_pos h1,if_neg];have:=hge (acc*10+(b.toNat - 48));omega
  ·rw [if_neg h1]
   by_cases h2:18446744073709551615<acc*10+(b.toNat - 48)
   ·rw [if_pos h2,if_neg];have:=hge (acc*10+(b.toNat - 48));omega
   ·rw [if_neg h2];exact o8 l _ hl zo
theorem xP (n:Nat):parseIntB 64 (itoa (n:Int))=if n<9223372036854775808 then .ok (n:Int) else .range:=by
 have hi:itoa (n:Int)=decDigits n:=rfl;rw [hi]
 obtain ⟨c,r,hc⟩:∃ c r,decDigits n=c::r:=by
  cases h:decDigits n with
  | nil=>exact absurd h (qA n)
  | cons c r=>exact ⟨c,r,rfl⟩
 have hd:=jT n;have hn:=kI n;rw [hc] at hd hn ⊢;have hcd:=hd c zi;rw [parseIntB_plain 64 c r zo zo]
 have hu:parseUintB 64 (c::r)=parseUintM 18446744073709551615 0 (c::r):=by
  unfold parseUintB;rw [if_neg zi]
 rw [hu,o8 _ _ hd zo,hn,Nat.zero_mul,dw];have e:(2:Nat)^(64 - 1)=9223372036854775808:=by decide
 rw [e]
 by_cases h:n≤18446744073709551615
 ·rw [if_pos h];unfold signlessC
  by_cases h2:n<9223372036854775808
  ·simp only;rw [if_neg zo,if_pos h2]
  ·simp only;rw [if_pos zo,if_neg h2]
 ·rw [if_neg h,if_neg zo];rfl
end Go.Dec
namespace Go.Proofs.whole
open Go Go.RowKit Go.SW Go.Num Go.Mem Go.Proofs Go.Dec Go.gW
def Er (w : World) : Prop := ∃ tp p, w.var? Tryz.prog "strconv.ErrRange" = some #[.iface tp p] ∧ (Tryz.prog.globalNamed "strconv.ErrRange").getD 0 < w.heap.size
theorem Er.later {w w':World} (h:Er w) (hb:Below w.heap.size w w'):Er w':=by
 obtain ⟨tp,p,h1,h2⟩:=h
 refine ⟨tp, p, var?_below hb (g := (Tryz.prog.globalNamed "strconv.ErrRange").getD 0) ?_ h2 h1, aL h2 hb.size⟩
 exact Tryz.laysC174.m16
def TM (n:Nat):Value:=if n<9223372036854775808 then aD #[Z I (n:Int),Z I 0] else aD #[Z I 0,Z I 6]
theorem Mr (n:Nat) (hs:(Lib.itoa (n:Int)).length≤601) (w:World) (he:Er w) :
  Calls Tryz.prog 143 #[dA (n:Int),Z I 10,Z I 64] w (fun e w'=>(if n<9223372036854775808 then e= ah (aD #[Z I (n:Int),.nilIface]) else ∃ T p,e= ah (aD #[Z I (Lib.intSat 64 (Lib.itoa (n:Int))),.iface T (aA (some p))]))∧Below w.heap.size w w'):=by
 have hz:(⟨(Lib.itoa (n:Int)).toArray⟩:ByteArray).size≤601:=hs;have hp:=xP n
 by_cases h:n<9223372036854775808
 ·rw [if_pos h] at hp;refine (Tryz.strconv_ParseInt_10_at64_ok ⟨(Lib.itoa (n:Int)).toArray⟩ zo (n:Int) hp w).mono ?_;rintro e w1 ⟨rfl,hw⟩;refine ⟨by rw [if_pos h],?_⟩
  rcases hw with rfl|⟨t,rfl⟩
  ·exact Below.refl _ _
  ·exact Lib.bytesWorld_below _ _ _
 ·rw [if_neg h] at hp;obtain ⟨tp,p,h1,h2⟩:=he;have hc:=World.var?_cell (P:=Tryz.prog) (w:=w) Tryz.laysC174.m16 h1 0;refine (Tryz.strconv_ParseInt_10_at64_range ⟨(Lib.itoa (n:Int)).toArray⟩ zo hp (.iface tp p) w hc (Or.inr ⟨tp,p,rfl⟩)).mono ?_;rintro e w1 ⟨N,rfl, -, -, hb⟩;refine ⟨?_,hb⟩;rw [if_neg h];exact ⟨_,_,rfl⟩
theorem Vn (n:Nat) (hn:kg n=true) (w:World) (he:Er w) :
  Calls Tryz.prog 95 #[dA (n:Int)] w (fun e w'=>e= ah (TM n)∧Below w.heap.size w w'):=by
 have hd:(Lib.decDigits n).length≤600:=dZ.1 hn
 have hi:(Lib.itoa (n:Int)).length≤601:=by
  have:Lib.itoa (n:Int)=Lib.decDigits n:=rfl;rw [this];omega
 have hw:(whole (Lib.itoa (n:Int))).isSome=true:=by rw [eF (by rw [Int.natAbs_natCast];exact hd)];rfl
 have HC:=zh (fun W=>gI ⟨(Lib.itoa (n:Int)).toArray⟩ W)
 have HC:Hid (∀ W:World,Calls Tryz.prog 89 #[dA (n:Int)] W (fun e w'=>e= ah (Z I 0)∧Below W.heap.size W w')):=zh (by
  intro W;have:=HC.out W;rw [show (⟨(Lib.itoa (n:Int)).toArray⟩:ByteArray).data.toList=Lib.itoa (n:Int) from rfl,hw] at this;exact this)
 have HP:=zh (fun W h=>Mr n hi W h);have HE:=zh he;unfold TM;clear hd hi hw he hn;unfold dA at *;generalize Lib.itoa (n:Int)=t at *
 by_cases h:n<9223372036854775808
 ·simp only [if_pos h] at HP ⊢;go_enter Tryz.func95,Tryz.ntmps95
  go_wp2_with fail
  refine (HC.out _).mono ?_;rintro e w1 ⟨rfl,hb1⟩;have HB1:=zh hb1;clear hb1;go_wp2_with fail
  refine (HP.out _ (HE.out.later HB1.out)).mono ?_;rintro e w2 ⟨rfl,hb2⟩;have hw:=Bt HB1.out hb2;clear hb2 HB1;go_wp2_with fail
  go_ret2
  exact ⟨rfl,hw⟩
 ·simp only [if_neg h] at HP ⊢;go_enter Tryz.func95,Tryz.ntmps95
  go_wp2_with fail
  refine (HC.out _).mono ?_;rintro e w1 ⟨rfl,hb1⟩;have HB1:=zh hb1;clear hb1;go_wp2_with fail
  refine (HP.out _ (HE.out.later HB1.out)).mono ?_;rintro e w2 ⟨⟨T,p,rfl⟩,hb2⟩;have hw:=Bt HB1.out hb2;clear hb2 HB1;go_wp2_with fail
  go_ret2
  exact ⟨rfl,hw⟩
end Go.Proofs.whole
namespace Go.Proofs.YtlpjmogillpnbaaGreatDoor
open Go Go.ChangeShapes Go.WideShapes Go.RowKit Go.Proofs
theorem ae2 : Tryz.prog.globalNamed "internal/strconv.uint64pow10" = some 4 := by kernel_rfl
theorem aa1:(Tryz.prog.globals[4]?).map (·.type)=some 317:=by kernel_rfl
theorem aa0:Tryz.prog.underlying 317=some (.array 20 138):=by kernel_rfl
theorem Um : Tryz.prog.globalNamed "strconv.ErrRange" = some 3 := by kernel_rfl
theorem aa2:(Tryz.prog.globals[3]?).map (·.type)=some 190:=by kernel_rfl
theorem sErr : "*" ++ "errors.errorString" = "*errors.errorString" := by decide
theorem aa5 (u : TypeId) (h : Tryz.prog.typeName? 3 u = some "*errors.errorString") : u = 329 :=
 typeName_ptr_named (nm := "errors.errorString") (by rw [sErr]; kernel_rfl) zk zd u (by rw [sErr]; exact h)
theorem IE {W : World} (h : laidMetH Tryz.prog [("math/bits.deBruijn32tab", Rows.laid_math_bits_deBruijn32tab), ("math/bits.deBruijn64tab", Rows.laid_math_bits_deBruijn64tab), ("internal/strconv.uint64pow10", Rows.laid_internal_strconv_uint64pow10), ("unicode/utf8.acceptRanges", Rows.laid_unicode_utf8_acceptRanges), ("strconv.ErrRange", Rows.laid_strconv_ErrRange), ("strconv.ErrSyntax", Rows.laid_strconv_ErrSyntax), ("unicode/utf8.first", Rows.laid_unicode_utf8_first)] W) : gJ.Pow W ∧ whole.Er W := by
 rw [MakeChecks.laidMetH_plain _ _ _ zk] at h;have h2:=laidMet.tail (laidMet.tail h);refine ⟨Lib.tabIs_of_head ae2 aa1 aa0 zk zk zk h2,?_⟩;obtain ⟨a,s,hv, -⟩:=laid_sentinel (laidMet.tail (laidMet.tail h2)) Um aa2 Tryz.underlying190 aa5 Tryz.underlying329 Tryz.underlying331 rfl rfl Tryz.underlying9 zk zk;refine ⟨_,_,hv,?_⟩;have hc:=World.var?_cell Um hv 0
 have e : (Tryz.prog.globalNamed "strconv.ErrRange").getD 0 = 3 := by rw [Um]; rfl
 rw [e]
 rcases aO 3 W.heap.size with h3|h3
 ·exact h3
 ·unfold World.cell? at hc;rw [bG h3] at hc;simp at hc
theorem Xz {n:Int} (h:(Lit.int .u8 n).wf=true):0≤n∧n≤255:=by
 simp [Lit.wf,IntKind.min,IntKind.max,IntKind.signed,IntKind.bits] at h
 omega
end Go.Proofs.YtlpjmogillpnbaaGreatDoor
namespace Go.Proofs.dD
open Go Go.RowKit Go.SW Go.Num Go.Mem Go.Proofs
theorem Ac (b off c:Nat) (l:List Nat) (w:World) (hl:l.length≤c) (hm:c≤9223372036854775807)
   (hc:∀ k,k<l.length→w.cell? ⟨b,off+k,none⟩=some (.int .u32 (l.getD k 0:Nat))) :
    Calls Tryz.prog 130 #[aj (some ⟨b,off,none⟩) l.length c] w fun e w'=>e= ah (aj (some ⟨b,off,none⟩) (trimLen l l.length) c)∧w=w':=zs1
theorem Cr (w:World):Calls Tryz.prog 130 #[aj none 0 0] w fun e w'=>e= ah (aj none 0 0)∧w=w':=by
 go_enter Tryz.func130,Tryz.ntmps130
 go_wp2
 refine wp_loop_rounds 1 ?_;rw [rounds_succ]
 go_wp2
 go_ret
 exact ⟨rfl,rfl⟩
theorem nG (v:Value) (l:List Nat) (w:World) (h:kQ w v l) (hd:fD 1000000000 l) :
  Calls Tryz.prog 130 #[v] w fun e w'=>∃ v',e= ah v'∧w=w'∧bC w v' (val 1000000000 l):=zs2
theorem _root_.Go.zs4 {G:Prop} (h:G:=by
 obtain ⟨a,cap,rfl, -⟩:=h
 have e:decide (n=0)=((((dF 1000000000 n).length:Nat):Int) == 0):=by
  rw [Bool.eq_iff_iff];simp [lF]
 rw [e,dM];clear e;generalize (dF 1000000000 n).length=k;go_enter zq7,zq8
 go_wp2
 go_ret
 exact ⟨rfl,rfl⟩):G:=h
theorem gL (v:Value) (n:Nat) (w:World) (h:bC w v n) :
  Calls Tryz.prog 52 #[v] w fun e w'=>e= ah (ay (decide (n=0)))∧w=w':=zs4
def qM (a b:Nat):Int:=if a<b then -1 else if b<a then 1 else 0
theorem nO {a b:Nat} (h:a<b):qM a b= -1:=if_pos h
theorem mQ {a b:Nat} (h:b<a):qM a b=1:=by unfold qM;rw [if_neg zo,if_pos h]
theorem oW (a:Nat):qM a a=0:=by unfold qM;simp
theorem _root_.Go.zs5 {G:Prop} (h:G:=by
 rcases Nat.lt_trichotomy a b with h|h|h
 ·rw [nO h];go_enter Tryz.func137,Tryz.ntmps137
  go_wp2
  go_ret
  exact ⟨rfl,rfl⟩
 ·subst h;rw [oW];go_enter Tryz.func137,Tryz.ntmps137
  go_wp2
  go_ret
  exact ⟨rfl,rfl⟩
 ·rw [mQ h];go_enter Tryz.func137,Tryz.ntmps137
  go_wp2
  go_ret
  exact ⟨rfl,rfl⟩):G:=h
theorem I7 (a b:Nat) (w:World):Calls Tryz.prog 137 #[Z I a,Z I b] w fun e w'=>e= ah (Z I (qM a b))∧w=w':=zs5
theorem _root_.Go.zs6 {G:Prop} (h:G:=by
 rcases Nat.lt_trichotomy a b with h|h|h
 ·rw [nO h];go_enter Tryz.func138,Tryz.ntmps138
  go_wp2
  go_ret
  exact ⟨rfl,rfl⟩
 ·subst h;rw [oW];go_enter Tryz.func138,Tryz.ntmps138
  go_wp2
  go_ret
  exact ⟨rfl,rfl⟩
 ·rw [mQ h];go_enter Tryz.func138,Tryz.ntmps138
  go_wp2
  go_ret
  exact ⟨rfl,rfl⟩):G:=h
theorem I6 (a b:Nat) (w:World):Calls Tryz.prog 138 #[Z .u32 a,Z .u32 b] w fun e w'=>e= ah (Z I (qM a b))∧w=w':=zs6
theorem _root_.Go.zs7 {G:Prop} (h:G:=by
 have h1:((m:Int) == (n:Int))=false:=by simp;omega
 have h2:((m:Int) != (n:Int))=true:=by simp;omega
 go_enter Z5,SS
 go_wp2_with (go_at_call 137;refine (I7 _ _ _).mono ?_;rintro e w' ⟨rfl,rfl⟩)
 go_ret
 exact ⟨rfl,rfl⟩):G:=h
theorem vP (a b:Option Addr) (m n c d:Nat) (w:World) (h:m≠n) :
  Calls Tryz.prog 91 #[aj a m c,aj b n d] w fun e w'=>e= ah (Z I (qM m n))∧w=w':=zs7
theorem _root_.Go.zs8 {G:Prop} (h:G:=by
 have HL:=zh hlen;clear hlen;rw [← HL.out];have h1:((l.length:Int) == (l.length:Int))=true:=by simp
 have h2:((l.length:Int) != (l.length:Int))=false:=by simp
 go_enter Z5,SS
 go_wp2
 clear h1 h2
 go_loopw [5] (fun i wr=>∃ q:Int, -1≤q∧q<l.length∧i= .int .i64 q∧l.drop (q+1).toNat=m.drop (q+1).toNat∧Below w.heap.size w wr) (fun i _=>(intOf i+1).toNat)
 case atStart=>exact ⟨(l.length:Int) - 1,by omega,by omega,rfl,by rw [show ((l.length:Int) - 1+1).toNat=l.length by omega,List.drop_length];rw [HL.out,List.drop_length],Below.refl _ _⟩
 case round =>
  obtain ⟨q,hq1,hq2,rfl,hdr,hb⟩:=hrel;have HD:=zh hdr;clear hdr
  by_cases hq:q<0
  ·have hq0:q= -1:=by omega
   subst hq0
   go_wp2
   go_ret
   have e:l=m:=by have:=HD.out;simpa using this
   rw [e,oW];exact ⟨rfl,hb⟩
  ·obtain ⟨j,rfl⟩:=Int.eq_ofNat_of_zero_le (by omega:0≤q);have hjl:j<l.length:=by omega
   have hjm:j<m.length:=by rw [← HL.out];exact hjl
   obtain ⟨ba,oa,rfl,hba,hx0⟩:=hc j hjl;obtain ⟨bb,ob,rfl,hbb,hy0⟩:=hd j hjm;have hx:wr.cell? ⟨ba,oa+j,none⟩=some (.int .u32 (l.getD j 0:Nat)):=(hb.cell (by exact hba)).trans hx0;have hy:wr.cell? ⟨bb,ob+j,none⟩=some (.int .u32 (m.getD j 0:Nat)):=(hb.cell (by exact hbb)).trans hy0;clear hx0 hy0;have HD2:Hid (l.drop (j+1)=m.drop (j+1)):=by have:=HD.out;rwa [show ((j:Int)+1).toNat=j+1 by omega] at this
   have hlt:Hid (l.getD j 0<m.getD j 0→val 1000000000 l<val 1000000000 m):=qL zo hl hjl hjm HD2.out;have hgt:Hid (m.getD j 0<l.getD j 0→val 1000000000 m<val 1000000000 l):=qL zo hmd hjm hjl HD2.out.symm;have heq:Hid (l.getD j 0=m.getD j 0→l.drop j=m.drop j):=fun e=>by rw [iW hjl,iW hjm,HD2.out,e]
   generalize l.getD j 0=x at *;generalize m.getD j 0=y at *;clear HD HD2 hc hd
   by_cases hxy:x=y
   ·subst hxy;have h1:((x:Int) == (x:Int))=true:=by simp
    have h2:((x:Int) != (x:Int))=false:=by simp
    go_wp2
    go_quiet (fail)
    go_wp2
    go_roundw
    case rel=>exact ⟨(j:Int) - 1,by omega,by omega,rfl,by rw [show ((j:Int) - 1+1).toNat=j by omega];exact heq.out trivial,below_drewN hb _⟩
    case measure=>simp [intOf]
   ·have h1:((x:Int) == (y:Int))=false:=by simp;omega
    have h2:((x:Int) != (y:Int))=true:=by simp;omega
    go_wp2
    go_quiet (fail)
    go_wp2
    refine aT [(.pure,0),(.pure,1),(.pure,2),(.read,3),(.pure,4),(.pure,5),(.pure,6),(.read,7),(.ext,8),(.fin,9)] zk zk zR zP ?_;refine zV ?_;refine aW rfl rfl (fun w1 hb1 J hJ=>?_);go_simp;refine (I6 _ _ _).mono ?_;rintro e w' ⟨rfl,rfl⟩;refine hJ _ _ (Below.refl _ _) ?_;clear hJ J;refine dG [_] rfl (fun w2 hb2=>?_)
    go_wp2
    go_ret
    refine ⟨?_,Bt (Bt hb (MJ hb1)) hb2⟩
    rcases Nat.lt_or_gt_of_ne hxy with h|h
    ·rw [nO h,nO (hlt.out h)];rfl
    ·rw [mQ h,mQ (hgt.out h)];rfl):G:=h
theorem um (pa pb:Option Addr) (ca cb:Nat) (l m:List Nat) (w:World) (hlen:l.length=m.length) (hm:l.length≤9223372036854775807) (hl:fD 1000000000 l) (hmd:fD 1000000000 m)
   (hc:∀ k,k<l.length→∃ b off,pa=some ⟨b,off,none⟩∧b<w.heap.size∧w.cell? ⟨b,off+k,none⟩=some (.int .u32 (l.getD k 0:Nat)))
   (hd:∀ k,k<m.length→∃ b off,pb=some ⟨b,off,none⟩∧b<w.heap.size∧w.cell? ⟨b,off+k,none⟩=some (.int .u32 (m.getD k 0:Nat))) :
    Calls Tryz.prog 91 #[aj pa l.length ca,aj pb m.length cb] w fun e w'=>e= ah (Z I (qM (val 1000000000 l) (val 1000000000 m)))∧Below w.heap.size w w':=zs8
theorem _root_.Go.zs9 {G:Prop} (h:G:=by
 by_cases hs:sz 1000000000 a=sz 1000000000 b
 ·obtain ⟨pa,ca,rfl,h1,h2,h3⟩:=kQ.read hx.yJ;obtain ⟨pb,cb,rfl,k1,k2,k3⟩:=kQ.read hy.yJ;refine (um pa pb ca cb _ _ w hs zo (bN zo a) (bN zo b) h3 k3).mono ?_;rintro e w' ⟨rfl,hb⟩;rw [bH zo,bH zo];exact ⟨rfl,hb⟩
 ·obtain ⟨a',ca,rfl, -⟩:=hx;obtain ⟨b',cb,rfl, -⟩:=hy;rw [dM,dM];refine (vP a' b' _ _ ca cb w hs).mono ?_;rintro e w' ⟨rfl,rfl⟩;refine ⟨?_,Below.refl _ _⟩
  rcases Nat.lt_or_gt_of_ne hs with h|h
  ·rw [nO (qw zo h)];exact congrArg _ (congrArg _ (nO h))
  ·rw [mQ (qw zo h)];exact congrArg _ (congrArg _ (mQ h))):G:=h
theorem ji (x y:Value) (a b:Nat) (w:World) (hx:bC w x a) (hy:bC w y b) :
  Calls Tryz.prog 91 #[x,y] w fun e w'=>e= ah (Z I (qM a b))∧Below w.heap.size w w':=zs9
end Go.Proofs.dD
