/- Lemmas for the proof. No condition. -/
import Derived.Test.YtneajphgfdlmhaaGreatDoorXB01
import Derived.Test.YtneajphgfdlmhaaGreatDoorXB03
import Derived.Test.YtneajphgfdlmhaaGreatDoorProg
import Derived.Test.YtneajphgfdlmhaaGreatDoorRows
import Derived.KernelRfl
import Derived.WalkMore
import Derived.Lib.Strings
import Derived.Lib.Slices
import Derived.Lib.Walk
import Derived.Lib.ParseIntBTie
import Derived.ProofKit
import Derived.LaidMore
import Derived.OpenShut
import Derived.Stop.Joined
import Derived.Stop.LaidErr
import Derived.Lib.LaidTab
import Derived.ChangeSame
import Derived.Laws.IdiomArrays
import Derived.Deep.QuietTactic
import Derived.BigQuiet
import Derived.WalkSmall
import Derived.Deep.DeepCutAuto
import Derived.Deep.CutBlock
import Derived.Laws.CopyOwn
set_option linter.unusedVariables false
set_option linter.unusedSimpArgs false
set_option maxRecDepth 100000
set_option maxHeartbeats 16000000
namespace Go.Proofs.whole
open Go Go.RowKit Go.SW Go.Num Go.Mem Go.Proofs
theorem _root_.Go.zs1 {G:Prop} (h:G:=by
 go_enter zq1,zq2
 go_wp2
 go_loop [0] (fun v=>∃ k:Nat,k≤l.length∧trimLen l k=trimLen l l.length∧v= .slice (some ⟨b,off,none⟩) k c) (fun v=>match v with| .slice _ k _=>k| _=>0)
 case atStart=>exact ⟨l.length,Nat.le_refl _,rfl,rfl⟩
 case round =>
  obtain ⟨k,hk,ht,rfl⟩:=hrel;have HT:=zh ht;clear ht
  rcases Nat.eq_zero_or_pos k with h0|h0
  ·subst h0
   go_wp2
   go_ret
   exact ⟨by rw [← HT.out];rfl,rfl⟩
  ·obtain ⟨j,rfl⟩:∃ j,k=j+1:=⟨k - 1,by omega⟩;have hcj:=hc j zo;have HS:Hid (trimLen l (j+1)=if l.getD j 0=0 then trimLen l j else j+1):=rfl;generalize l.getD j 0=d at hcj HS;clear hc
   rcases Nat.eq_zero_or_pos d with hd|hd
   ·subst hd
    go_wp2
    go_round
    case rel=>exact ⟨j,by omega,by rw [← HT.out,HS.out];rfl,rfl⟩
    case measure=>exact Nat.lt_succ_self _
   ·have hz:((d:Int) == 0)=false:=by simp;omega
    go_wp2
    go_ret
    exact ⟨by rw [← HT.out,HS.out,if_neg zo];rfl,rfl⟩):G:=h
theorem Ir (b off c:Nat) (l:List Nat) (w:World) (hl:l.length≤c) (hm:c≤9223372036854775807)
   (hc:∀ k,k<l.length→w.cell? ⟨b,off+k,none⟩=some (.int .u32 (l.getD k 0:Nat))) :
    Calls Tryz.prog 327 #[.slice (some ⟨b,off,none⟩) l.length c] w fun e w'=>e= .returned (.slice (some ⟨b,off,none⟩) (trimLen l l.length) c)∧w=w':=zs1
theorem LJ (w:World):Calls Tryz.prog 327 #[.slice none 0 0] w fun e w'=>e= .returned (.slice none 0 0)∧w=w':=by
 go_enter Tryz.func327,Tryz.ntmps327
 go_wp2
 refine wp_loop_rounds 1 ?_;rw [rounds_succ]
 go_wp2
 go_ret
 exact ⟨rfl,rfl⟩
theorem _root_.Go.zs2 {G:Prop} (h:G:=by
 rcases lK.cases h with ⟨rfl,rfl⟩|⟨b,off,cap,rfl,h1,h2,h3,⟨arr,h4⟩,h5⟩
 ·refine (LJ w).mono ?_;rintro e w' ⟨rfl,rfl⟩;exact ⟨_,rfl,rfl,by rw [show val 1000000000 ([]:List Nat)=0 from rfl];unfold aQ;rw [fM];exact Row.nil _ _⟩
 ·refine (Ir b off cap l w h1 h2 h5).mono ?_;rintro e w' ⟨rfl,rfl⟩;refine ⟨_,rfl,rfl,?_⟩;have ht:=trimLen_le l l.length;have e:val 1000000000 l=val 1000000000 (l.take (trimLen l l.length)):=by rw [xY _ _ _ (Nat.le_refl _)];simp
  rw [e];refine aQ.Qm ?_ (hd.take _) (xZ l _ (Nat.le_refl _));refine Row.mk (arr:=arr) (by rw [dF];simp;omega) (by rw [dF];simp;omega) h2 h4 fun i hi=>?_;rw [dF] at hi;have hi2:i<l.length:=by simp at hi;omega
  have:=h5 i hi2;rw [h4.cell] at this;rw [this];simp [bZ,hi2]):G:=h
theorem pQ (v:Value) (l:List Nat) (w:World) (h:lK w v l) (hd:dS 1000000000 l) :
  Calls Tryz.prog 327 #[v] w fun e w'=>∃ v',e= .returned v'∧w=w'∧aQ w v' (val 1000000000 l):=zs2
end Go.Proofs.whole
namespace Go.Proofs.whole
open Go Go.RowKit Go.SW Go.Num Go.Mem Go.Proofs Go.Dec
theorem ar3:(Tryz.prog.info? 61).map (fun i=>(i.zero,i.size,i.bytes))=some (some (.int .u32 0),1,4):=by kernel_rfl
theorem _root_.Go.zs3 {G:Prop} (h:G:=by
 obtain ⟨i0,hi,hz0,hz1,hz2⟩:=info_parts ar3;generalize hbs:s.data.toList=bs at *;have hn:bs.length=s.size:=by rw [← hbs];rfl
 have Vb:=zh hbs;have HN:=zh hn;clear hbs hn;go_enter zq3,zq4
 go_wp2_with fail
 go_step3
 go_wp2_with fail
 go_step3
 go_wp2_with fail
 go_loopw [3,4] (fun mv ev wr=>∃ (e:Nat) (ls:List Nat),ev= .int .i64 (e:Int)∧Hid (e+9*ls.length=s.size)∧dS 1000000000 ls∧Hid (val 1000000000 ls=num (bs.drop e))∧wr.ownsRow w.heap.size 61 1 mv ls.length (bZ ls)∧Below w.heap.size w wr) (fun _ ev _=>(intOf ev).toNat)
 case atStart=>exact ⟨s.size,[],rfl,zh zi,dS.nil,zh (by rw [← HN.out,List.drop_length];simp [val,num]),World.ownsRow_nil _ _ _ _,Below.refl _ _⟩
 case round =>
  obtain ⟨e,ls,rfl,HE,hdl,HV,hown,hbr⟩:=hrel;have he:e≤s.size:=by have:=HE.out;omega
  rcases Nat.lt_or_ge e 9 with h9|h9
  ·skip
   have hmx:(e:Int) - 9<0:=by omega
   have bi9:max ((e:Int) - 9) 0=0:=by omega
   have hgl:=Fb hd (st:=0) (i:=e) zo;go_wp2_with fail
   go_loopw [6,7] (fun v6 v7 wi=>∃ i:Nat,v7= .int .i64 (i:Int)∧0≤i∧i≤e∧Hid (v6= .int .u32 (num ((bs.take i).drop (0)):Nat))∧wr=wi) (fun _ v7 _=>e - (intOf v7).toNat)
   case atStart=>exact ⟨0,rfl,Nat.le_refl _,by omega,zh (by rw [List.drop_eq_nil_of_le (by rw [List.length_take];omega)];rfl),rfl⟩
   case round =>
    obtain ⟨i,rfl,hi1,hi2,H6,rfl⟩:=hrel;have e6:=H6.out;subst e6
    rcases Nat.lt_or_ge i e with hie|hie
    ·have his:i<s.size:=by omega
     have hx:bs[i]? =some s[i]:=by rw [← Vb.out,Array.getElem?_toList];exact Array.getElem?_eq_getElem his
     have HS:=zh (Bf hd hi1 zo hx);go_wp2_with fail
     exact ⟨⟨i+1,rfl,by omega,by omega,zh (by simp only [List.drop_zero] at HS ⊢;rw [HS.out]),trivial⟩,by simp only [intOf];omega⟩
    ·have hie:i=e:=by omega
     subst hie;have HG:=zh (om (bs:=bs) (s:=0) (e:=i) zo (by have:=HN.out;omega));have hlen:bs.length - i=9*ls.length:=by have:=HE.out;have:=HN.out;omega
     rw [hlen,Nat.pow_mul,← HV.out] at HG;generalize num ((bs.take i).drop (0))=gv at *;clear H6;go_wp2_with (at_builtin;refine wpList_append_own _ rfl (.tmp 29) (.tmp 31) Lv rfl w.heap.size 61 i0 (.int .u32 0) 1 4 OT hi hz0 hz1 hz2 rfl zd _ _ _ rfl (hown.alloc _) ⟨wr.heap.size,0,none⟩ 1 1 [.int .u32 (gv:Int)] rfl rfl (by intro t u ht;match t,ht with|0,ht=>simp at ht;subst ht;simp [Addr.add]) (by intro u hu;simp at hu;subst hu;rfl) (by unfold maxLen;have:=HE.out;omega) (by have:=HE.out;omega) (by have:=hbr.size;simp;omega) ?_)
     intro v' w1 hown1 hgrow1 _
     have hown2:w1.ownsRow w.heap.size 61 1 v' (ls++[gv]).length (bZ (ls++[gv])):=by
      have e:bZ (ls++[gv])=bZ ls++[.int .u32 (gv:Int)]:=by unfold bZ;simp only [List.map_append,List.map_cons,List.map_nil]
      rw [e,List.length_append];exact hown1
     have hb3:Below w.heap.size w w1:=(hbr.alloc hbr.size _).grown hgrow1 (by simp;have:=hbr.size;omega) (fun k hk=>(hown.lt k hk).1)
     have Cn:Hid (val 1000000000 (ls++[gv])=num (bs.drop (0))):=by
      unfold Hid;rw [gU,HG.out,Nat.add_comm,Nat.mul_comm]
     clear hown hown1 hgrow1;have al9:dS 1000000000 (ls++[gv]):=hdl.snoc hgl;go_wp2_with ((first|go_at_call 327|go_at_call 227);refine (pQ _ _ _ (Row.fI hown2) al9).mono ?_;rintro e w' ⟨v,rfl,rfl,hv⟩;have HM:=zh hv;clear hv)
     rw [Cn.out,List.drop_zero] at HM;rw [Exit.noGoto_ret];go_ret
     exact ⟨_,rfl,hb3,HM.out⟩
  ·skip
   obtain ⟨f,rfl⟩:∃ f,e=f+9:=⟨e - 9,by omega⟩;have hgl:=Fb hd (st:=f) (i:=f+9) zo;go_wp2_with fail
   go_loopw [6,7] (fun v6 v7 wi=>∃ i:Nat,v7= .int .i64 (i:Int)∧f≤i∧i≤f+9∧Hid (v6= .int .u32 (num ((bs.take i).drop (f)):Nat))∧wr=wi) (fun _ v7 _=>f+9 - (intOf v7).toNat)
   case atStart=>exact ⟨f,rfl,Nat.le_refl _,by omega,zh (by rw [List.drop_eq_nil_of_le (by rw [List.length_take];omega)];rfl),rfl⟩
   case round =>
    obtain ⟨i,rfl,hi1,hi2,H6,rfl⟩:=hrel;have e6:=H6.out;subst e6
    rcases Nat.lt_or_ge i (f+9) with hie|hie
    ·have his:i<s.size:=by omega
     have hx:bs[i]? =some s[i]:=by rw [← Vb.out,Array.getElem?_toList];exact Array.getElem?_eq_getElem his
     have HS:=zh (Bf hd hi1 zo hx);go_wp2_with fail
     exact ⟨⟨i+1,rfl,by omega,by omega,zh (by rw [HS.out]),trivial⟩,by simp only [intOf];omega⟩
    ·obtain rfl:i=f+9:=by omega
     have HG:=zh (om (bs:=bs) (s:=f) (e:=f+9) zo (by have:=HN.out;omega));have hlen:bs.length - (f+9)=9*ls.length:=by have:=HE.out;have:=HN.out;omega
     rw [hlen,Nat.pow_mul,← HV.out] at HG;generalize num ((bs.take (f+9)).drop f)=gv at *;clear H6;go_wp2_with (at_builtin;refine wpList_append_own _ rfl (.tmp 29) (.tmp 31) Lv rfl w.heap.size 61 i0 (.int .u32 0) 1 4 OT hi hz0 hz1 hz2 rfl zd _ _ _ rfl (hown.alloc _) ⟨wr.heap.size,0,none⟩ 1 1 [.int .u32 (gv:Int)] rfl rfl (by intro t u ht;match t,ht with|0,ht=>simp at ht;subst ht;simp [Addr.add]) (by intro u hu;simp at hu;subst hu;rfl) (by unfold maxLen;have:=HE.out;omega) (by have:=HE.out;omega) (by have:=hbr.size;simp;omega) ?_)
     intro v' w1 hown1 hgrow1 _
     have hown2:w1.ownsRow w.heap.size 61 1 v' (ls++[gv]).length (bZ (ls++[gv])):=by
      have e:bZ (ls++[gv])=bZ ls++[.int .u32 (gv:Int)]:=by unfold bZ;simp only [List.map_append,List.map_cons,List.map_nil]
      rw [e,List.length_append];exact hown1
     have hb3:Below w.heap.size w w1:=(hbr.alloc hbr.size _).grown hgrow1 (by simp;have:=hbr.size;omega) (fun k hk=>(hown.lt k hk).1)
     have Cn:Hid (val 1000000000 (ls++[gv])=num (bs.drop (f))):=by
      unfold Hid;rw [gU,HG.out,Nat.add_comm,Nat.mul_comm]
     clear hown hown1 hgrow1;have al9:dS 1000000000 (ls++[gv]):=hdl.snoc hgl
     rcases Nat.eq_zero_or_pos f with hf|hf
     ·subst hf;rw [List.drop_zero] at Cn;go_wp2_with ((first|go_at_call 327|go_at_call 227);refine (pQ _ _ _ (Row.fI hown2) al9).mono ?_;rintro e w' ⟨v,rfl,rfl,hv⟩;have HM:=zh hv;clear hv)
      rw [Cn.out] at HM;rw [Exit.noGoto_ret];go_ret
      exact ⟨_,rfl,hb3,HM.out⟩
     ·have hf0:((f:Int) == 0)=false:=by simp;omega
      go_wp2_with fail
      refine ⟨⟨f,ls++[gv],rfl,zh ?_,al9,Cn,hown2,hb3⟩,?_⟩
      ·have:=HE.out;rw [List.length_append,List.length_singleton];omega
      ·simp only [intOf];omega):G:=h
theorem vT (s:ByteArray) (hs:s.size≤1099511627776) (hd:qL s.data.toList) (w:World) :
  Calls Tryz.prog 292 #[.string s] w (fun e w'=>∃ v,e= .returned v∧Below w.heap.size w w'∧aQ w' v (num s.data.toList)):=zs3
theorem Ie (s p:ByteArray) (w:World) :
  Calls Tryz.prog 273 #[.string s,.string p] w fun e w'=>e= .returned (.tuple #[.string ⟨(Lib.trimPrefix s.data.toList p.data.toList).toArray⟩,.bool (Lib.hasPrefix s.data.toList p.data.toList)])∧w'=w:=by
 go_enter Tryz.func273,Tryz.ntmps273
 go_wp2
 ·have h2:(!((s.extract 0 p.size).toList == p.toList))=true:=by assumption
  have h3:(decide (p.size≤s.size)&&((s.extract 0 p.size).toList == p.toList))=false:=by
   have:((s.extract 0 p.size).toList == p.toList)=false:=by simpa using h2
   rw [this];simp
  go_ret2
  refine ⟨?_,rfl⟩;rw [Lib.trimPrefix_miss s p h3,← Lib.hasPrefix_raw,h3];rfl
 ·have h1:p.size≤s.size:=by assumption
  have h2:(!((s.extract 0 p.size).toList == p.toList))=false:=by assumption
  have h2':((s.extract 0 p.size).toList == p.toList)=true:=by simpa using h2
  go_ret2
  refine ⟨?_,rfl⟩;rw [Lib.trimPrefix_hit s p h1 h2',← Lib.hasPrefix_raw,h2',decide_eq_true h1];rfl
 ·have h1:¬ p.size≤s.size:=by assumption
  have h3:(decide (p.size≤s.size)&&((s.extract 0 p.size).toList == p.toList))=false:=by simp [h1]
  go_ret2
  refine ⟨?_,rfl⟩;rw [Lib.trimPrefix_miss s p h3,← Lib.hasPrefix_raw,h3];rfl
theorem aA9 (l:List UInt8):cut l=(Lib.trimPrefix l [45],Lib.hasPrefix l [45]):=by
 unfold cut Lib.trimPrefix Lib.hasPrefix;cases l with
 | nil=>rfl
 | cons x t =>
  by_cases h:x=45
  ·subst h;simp
  ·have h2:¬ (45:UInt8)=x:=fun e=>h e.symm;simp [h,h2,List.isPrefixOf]
theorem sD (s:ByteArray) (w:World) :
  Calls Tryz.prog 273 #[.string s,.string ⟨#[45]⟩] w fun e w'=>e= .returned (.tuple #[.string ⟨(cut s.data.toList).1.toArray⟩,.bool (cut s.data.toList).2])∧w=w':=by
 refine (Ie s ⟨#[45]⟩ w).mono ?_;rintro e w' ⟨rfl,rfl⟩;rw [aA9];exact ⟨rfl,rfl⟩
def ae0 (w:World) (c:Bool) (e:Ending) (w':World):Prop:=(∃ pa n ca ng,e= .returned (.tuple #[.agg #[.slice pa n ca,.bool ng],.bool c]))∧Below w.heap.size w w'
theorem VQ {pa:Option Addr} {n ca:Nat} {ng b c:Bool} (h:c=b):∃ pa' n' Ph ng',Ending.returned (.tuple #[.agg #[.slice pa n ca,.bool ng],.bool b])= .returned (.tuple #[.agg #[.slice pa' n' Ph,.bool ng'],.bool c]):=⟨pa,n,ca,ng,by rw [h]⟩
theorem ah9 (s:ByteArray) (w:World) :
    Calls Tryz.prog 254 #[.string s] w (ae0 w (whole s.data.toList).isSome):=by
  have HC:=zh (sD s);have hw:(whole s.data.toList).isSome=eO (cut s.data.toList).1 (cut s.data.toList).2:=by unfold whole;split<;>simp_all
  rw [hw];clear hw;generalize cut s.data.toList=c at *;obtain ⟨d,ng⟩:=c;simp only at HC ⊢;have hsz:(⟨d.toArray⟩:ByteArray).size=d.length:=rfl;have h0:d=[]→eO d ng=false:=fun e=>by subst e;rfl
  have h1:600<d.length→eO d ng=false:=fun e=>by
    have h2:¬ d.length≤600:=by omega
    unfold eO;simp [h2]
  have H0:=zh h0;have H1:=zh h1;clear h0 h1;have hbx:ah (w.alloc (.cells #[.slice none 0 0,.bool false] 257 (0,0))) w.heap.size #[.slice none 0 0,.bool false] 257:=ah.new _ _ _;have hbl:Below w.heap.size w (w.alloc (.cells #[.slice none 0 0,.bool false] 257 (0,0))):=(Below.refl _ _).alloc (Nat.le_refl _) _;have rE:=zh hbx;clear hbx;go_enter Tryz.func254,Tryz.ntmps254
  go_wp2_with (go_at_call 273;refine (HC.out _).mono ?_;rintro e w1 ⟨rfl,rfl⟩)
  · refine aM rfl rfl rE.out Tryz.underlying257 rfl zk ⟨⟨none,0,0,false,?_⟩,hbl⟩
    rw [H0.out (by assumption)];rfl
  · refine aM rfl rfl rE.out Tryz.underlying257 rfl zk ⟨⟨none,0,0,false,?_⟩,hbl⟩
    have h1:¬ d=[]:=by assumption
    have h2:((d.length:Int) == 0)=true∨(600:Int)<d.length:=by assumption
    rw [H1.out (by
      rcases h2 with h2|h2
      · have:=List.length_pos_iff.mpr h1
        simp at h2
        exact absurd h2 h1
      · omega)]
    rfl
  · have h1:¬ d=[]:=by assumption
    have h2:((d.length:Int) == 0)=false∧(d.length:Int)≤600:=by assumption
    have hl0:=List.length_pos_iff.mpr h1;have hl1:d.length≤600:=by omega
    clear h2
    go_loopw [23] (fun v wr=>∃ i:Nat,v= .int .i64 (i:Int)∧i≤d.length∧Hid (∀ k (h:k<d.length),k<i→48≤d[k].toNat∧d[k].toNat≤57)∧w.alloc (.cells #[.slice none 0 0,.bool false] 257 (0,0))=wr) (fun v _=>d.length - (intOf v).toNat)
    case atStart=>exact ⟨0,rfl,by omega,zh (fun k _ h=>by omega),rfl⟩
    case round =>
      obtain ⟨i,rfl,hi,HK,rfl⟩:=hrel
      rcases Nat.lt_or_ge i d.length with hlt|hge
      · have hgt:(⟨d.toArray⟩:ByteArray)[i]'(by exact hlt)=d[i]:=rfl
        have HGT:=zh hgt
        by_cases hdig:48≤d[i].toNat∧d[i].toNat≤57
        · have q1:decide (((⟨d.toArray⟩:ByteArray)[i]'(by exact hlt)).toNat<(48:Int))=false:=by rw [hgt];simp;omega
          have q2:decide ((57:Int)<((⟨d.toArray⟩:ByteArray)[i]'(by exact hlt)).toNat)=false:=by rw [hgt];simp;omega
          clear hgt;go_wp2_with fail
          refine ⟨⟨i+1,rfl,by omega,zh fun k hk hki=>?_,trivial⟩,by simp only [intOf];omega⟩
          rcases Nat.lt_or_ge k i with h|h
          · exact HK.out k hk h
          · obtain rfl:k=i:=by omega
            exact hdig
        · clear hgt
          have hno:eO d ng=false:=by
            have:d.all (fun b=>decide (48≤b.toNat)&&decide (b.toNat≤57))=false:=by
              rw [List.all_eq_false];exact ⟨d[i],List.getElem_mem _,by simpa using hdig⟩
            unfold eO;simp [this]
          have HNO:=zh hno;clear hno;go_wp2_with fail
          all_goals first
            | (exfalso
               have h3:(48:Int)≤((⟨d.toArray⟩:ByteArray)[i]'(by exact hlt)).toNat∧(((⟨d.toArray⟩:ByteArray)[i]'(by exact hlt)).toNat:Int)≤57:=by assumption
               rw [HGT.out] at h3;omega)
            | (try simp only [Exit.inBlock,Exit.then]
               refine aM rfl rfl rE.out Tryz.underlying257 rfl zk ⟨⟨none,0,0,false,?_⟩,hbl⟩;rw [HNO.out];rfl)
      · obtain rfl:i=d.length:=by omega
        have hdd:qL d:=fun b hb=>by
          obtain ⟨k,hk,rfl⟩:=List.getElem_of_mem hb;exact HK.out k hk zo
        have HDD:=zh hdd;have hgt:(⟨d.toArray⟩:ByteArray)[0]'(by exact hl0)=d[0]:=rfl
        have hhd:(d.head? == some 48)=decide (d[0].toNat=48):=by
          rw [List.head?_eq_getElem?, List.getElem?_eq_getElem hl0,Bool.eq_iff_iff];simp only [beq_iff_eq,Option.some.injEq,decide_eq_true_eq];exact ⟨fun h=>by rw [h];rfl,fun h=>UInt8.toNat_inj.mp h⟩
        have hok:eO d ng= !(decide (d[0].toNat=48)&&(ng || decide (1<d.length))):=by
          have:d.all (fun b=>decide (48≤b.toNat)&&decide (b.toNat≤57))=true:=by
            rw [List.all_eq_true];intro b hb
            simpa using hdd b hb
          unfold eO;rw [this,hhd];simp [h1,hl1]
        have aV5:qL (⟨d.toArray⟩:ByteArray).data.toList:=hdd;clear hdd hhd HK H0 H1 HC hge hi;generalize d[0]=x at *
        have q0:((((⟨d.toArray⟩:ByteArray)[0]'(by exact hl0)).toNat:Int) == 48)=decide (x.toNat=48):=by
          rw [hgt,Bool.eq_iff_iff];simp
          omega
        have q1:decide ((1:Int)<d.length)=decide (1<d.length):=by
          rw [Bool.eq_iff_iff,decide_eq_true_iff,decide_eq_true_iff];omega
        clear hgt;have HOK:=zh hok;clear hok;have HG:=zh (vT ⟨d.toArray⟩ (by rw [hsz];omega) aV5 (w.alloc (.cells #[.slice none 0 0,.bool false] 257 (0,0))))
        by_cases hx:x.toNat=48
        all_goals by_cases hl:1<d.length
        all_goals cases ng
        all_goals simp only [hx,hl,decide_true,decide_false,Bool.true_and,Bool.false_and,Bool.true_or,Bool.false_or,Bool.not_true,Bool.not_false] at HOK q0 q1
        all_goals go_wp2_with (go_at_call 292;refine (HG.out).mono ?_;rintro e w2 ⟨v,rfl,hb2,hv⟩;obtain ⟨pa,ca,rfl, -⟩:=hv;have yQ:=rE.out.later hb2;have c0:w2.cell? ⟨w.heap.size,0,none⟩=some (.slice none 0 0):=(yQ.cell 0).trans rfl;have c1:w2.cell? ⟨w.heap.size,1,none⟩=some (.bool false):=(yQ.cell 1).trans rfl;have f0:=yQ.free 0;have f1:=yQ.free 1)
        all_goals (try simp only [Exit.inBlock,Exit.then])
        all_goals first
          | (refine aM rfl rfl rE.out Tryz.underlying257 rfl zk ⟨⟨none,0,0,false,?_⟩,hbl⟩
             rw [HOK.out];rfl)
          | (rename_i hb2 _ _ _ _
             refine aM rfl rfl (((rE.out.later hb2).set 0 _).set 1 _) Tryz.underlying257 rfl zk ⟨VQ HOK.out,((Bt hbl hb2).setCell (Nat.le_refl _) _).setCell (Nat.le_refl _) _⟩)
theorem jR (s:ByteArray) (w:World) :
  Calls Tryz.prog 221 #[.string s] w (fun e w'=>e= .returned (.int .i64 (if (whole s.data.toList).isSome then 0 else 10))∧Below w.heap.size w w'):=by
 have H:=zh (ah9 s);generalize (whole s.data.toList).isSome=b at *;cases b
 all_goals
  go_enter Tryz.func221,Tryz.ntmps221
  go_wp2_with (go_at_call 254;refine (H.out _).mono ?_;rintro e w1 ⟨⟨pa,n,ca,ng,rfl⟩,hb1⟩)
  go_ret
  exact ⟨rfl,Bt hb1 ((Below.refl _ _).alloc (Nat.le_refl _) _)⟩
theorem AU (z:Int) (h0: -9223372036854775808≤z) (h1:z≤9223372036854775807) (w:World) (ht:iR.Pow w) :
  Calls Tryz.prog 193 #[.int .i64 z] w (fun e w'=>e= .returned (bL z)∧Below w.heap.size w w'):=by
 have H:=zh (Tryz.strconv_Itoa z h0 h1 w ht);clear ht;go_enter Tryz.func193,Tryz.ntmps193
 go_wp2_with (go_at_call 249;refine (H.out).mono ?_;rintro e w1 ⟨rfl,k,os,rfl⟩)
 go_ret
 exact ⟨rfl,iR.below_grow _ _ _⟩
end Go.Proofs.whole
namespace Go.Dec
open Go Go.Lib
theorem rU:∀ (l:List UInt8) (acc:Nat),qL l→acc≤18446744073709551615→parseUintM 18446744073709551615 acc l=if acc*10^l.length+num l≤18446744073709551615 then .ok (acc*10^l.length+num l) else .range
 | [],acc,_,ha=>by
  simp only [parseUintM,List.length_nil,Nat.pow_zero,Nat.mul_one,JZ,Nat.add_zero];rw [if_pos ha]
 | b::l,acc,hd,ha=>by
  have hb:=hd b zi;have hl:qL l:=fun x hx=>hd x (by simp [hx])
  have hn:num (b::l)=(b.toNat - 48)*10^l.length+num l:=by
   have:=Dp [b] l;simp only [List.singleton_append] at this;rw [this];simp [num]
  have hp:0<10^l.length:=Nat.pow_pos zo
  have e:acc*10^(b::l).length+num (b::l)=(acc*10+(b.toNat - 48))*10^l.length+num l:=by
   rw [hn,List.length_cons,Nat.pow_succ,Nat.add_mul,Nat.add_assoc]
   congr 1
   rw [Nat.mul_assoc,Nat.mul_comm 10]
  rw [e];have hge:∀ x,x≤x*10^l.length+num l:=fun x=>Nat.le_trans (Nat.le_mul_of_pos_right x hp) (Nat.le_add_right _ _);unfold parseUintM;rw [if_pos hb]
  by_cases h1:1844674407370955162≤acc
  ·rw [if_pos h1,if_neg];have:=hge (acc*10+(b.toNat - 48));omega
  ·rw [if_neg h1]
   by_cases h2:18446744073709551615<acc*10+(b.toNat - 48)
   ·rw [if_pos h2,if_neg];have:=hge (acc*10+(b.toNat - 48));omega
   ·rw [if_neg h2];exact rU l _ hl zo
theorem Dj (n:Nat):parseIntB 64 (itoa (n:Int))=if n<9223372036854775808 then .ok (n:Int) else .range:=by
 have hi:itoa (n:Int)=decDigits n:=rfl;rw [hi]
 obtain ⟨c,r,hc⟩:∃ c r,decDigits n=c::r:=by
  cases h:decDigits n with
  | nil=>exact absurd h (uU n)
  | cons c r=>exact ⟨c,r,rfl⟩
 have hd:=kY n;have hn:=mK n;rw [hc] at hd hn ⊢;have hcd:=hd c zi;rw [parseIntB_plain 64 c r zo zo]
 have hu:parseUintB 64 (c::r)=parseUintM 18446744073709551615 0 (c::r):=by
  unfold parseUintB;rw [if_neg zi]
 rw [hu,rU _ _ hd zo,hn,Nat.zero_mul,Nat.zero_add];have e:(2:Nat)^(64 - 1)=9223372036854775808:=by decide
 rw [e]
 by_cases h:n≤18446744073709551615
 ·rw [if_pos h];unfold signlessC
  by_cases h2:n<9223372036854775808
  ·simp only;rw [if_neg zo,if_pos h2]
  ·simp only;rw [if_pos zo,if_neg h2]
 ·rw [if_neg h,if_neg zo];rfl
end Go.Dec
namespace Go.Proofs.whole
open Go Go.RowKit Go.SW Go.Num Go.Mem Go.Proofs Go.Dec Go.fF
def Er (w : World) : Prop := ∃ tp p, w.var? Tryz.prog "strconv.ErrRange" = some #[.iface tp p] ∧ (Tryz.prog.globalNamed "strconv.ErrRange").getD 0 < w.heap.size
theorem Er.later {w w':World} (h:Er w) (hb:Below w.heap.size w w'):Er w':=by
 obtain ⟨tp,p,h1,h2⟩:=h
 refine ⟨tp, p, var?_below hb (g := (Tryz.prog.globalNamed "strconv.ErrRange").getD 0) ?_ h2 h1, Nat.lt_of_lt_of_le h2 hb.size⟩
 exact Tryz.laysC174.m16
def Ic (n:Nat):Value:=if n<9223372036854775808 then .tuple #[.int .i64 (n:Int),.int .i64 0] else .tuple #[.int .i64 0,.int .i64 6]
theorem YQ (n:Nat) (hs:(Lib.itoa (n:Int)).length≤601) (w:World) (he:Er w) :
  Calls Tryz.prog 246 #[bL (n:Int),.int .i64 10,.int .i64 64] w (fun e w'=>(if n<9223372036854775808 then e= .returned (.tuple #[.int .i64 (n:Int),.nilIface]) else ∃ T p,e= .returned (.tuple #[.int .i64 (Lib.intSat 64 (Lib.itoa (n:Int))),.iface T (.pointer (some p))]))∧Below w.heap.size w w'):=by
 have hz:(⟨(Lib.itoa (n:Int)).toArray⟩:ByteArray).size≤601:=hs;have hp:=Dj n
 by_cases h:n<9223372036854775808
 ·rw [if_pos h] at hp;refine (Tryz.strconv_ParseInt_10_at64_ok ⟨(Lib.itoa (n:Int)).toArray⟩ zo (n:Int) hp w).mono ?_;rintro e w1 ⟨rfl,hw⟩;refine ⟨by rw [if_pos h],?_⟩
  rcases hw with rfl|⟨t,rfl⟩
  ·exact Below.refl _ _
  ·exact Lib.bytesWorld_below _ _ _
 ·rw [if_neg h] at hp;obtain ⟨tp,p,h1,h2⟩:=he;have hc:=World.var?_cell (P:=Tryz.prog) (w:=w) Tryz.laysC174.m16 h1 0;refine (Tryz.strconv_ParseInt_10_at64_range ⟨(Lib.itoa (n:Int)).toArray⟩ zo hp (.iface tp p) w hc (Or.inr ⟨tp,p,rfl⟩)).mono ?_;rintro e w1 ⟨N,rfl, -, -, hb⟩;refine ⟨?_,hb⟩;rw [if_neg h];exact ⟨_,_,rfl⟩
theorem aD7 (n:Nat) (hn:jd n=true) (w:World) (he:Er w) :
  Calls Tryz.prog 188 #[bL (n:Int)] w (fun e w'=>e= .returned (Ic n)∧Below w.heap.size w w'):=by
 have hd:(Lib.decDigits n).length≤600:=dI.1 hn
 have hi:(Lib.itoa (n:Int)).length≤601:=by
  have:Lib.itoa (n:Int)=Lib.decDigits n:=rfl;rw [this];omega
 have hw:(whole (Lib.itoa (n:Int))).isSome=true:=by rw [dO (by rw [Int.natAbs_natCast];exact hd)];rfl
 have HC:=zh (fun W=>jR ⟨(Lib.itoa (n:Int)).toArray⟩ W)
 have HC:Hid (∀ W:World,Calls Tryz.prog 221 #[bL (n:Int)] W (fun e w'=>e= .returned (.int .i64 0)∧Below W.heap.size W w')):=zh (by
  intro W;have:=HC.out W;rw [show (⟨(Lib.itoa (n:Int)).toArray⟩:ByteArray).data.toList=Lib.itoa (n:Int) from rfl,hw] at this;exact this)
 have HP:=zh (fun W h=>YQ n hi W h);have HE:=zh he;unfold Ic;clear hd hi hw he hn;unfold bL at *;generalize Lib.itoa (n:Int)=t at *
 by_cases h:n<9223372036854775808
 ·simp only [if_pos h] at HP ⊢;go_enter Tryz.func188,Tryz.ntmps188
  go_wp2_with fail
  refine (HC.out _).mono ?_;rintro e w1 ⟨rfl,hb1⟩;have HB1:=zh hb1;clear hb1;go_wp2_with fail
  refine (HP.out _ (HE.out.later HB1.out)).mono ?_;rintro e w2 ⟨rfl,hb2⟩;have hw:=Bt HB1.out hb2;clear hb2 HB1;go_wp2_with fail
  go_ret2
  exact ⟨rfl,hw⟩
 ·simp only [if_neg h] at HP ⊢;go_enter Tryz.func188,Tryz.ntmps188
  go_wp2_with fail
  refine (HC.out _).mono ?_;rintro e w1 ⟨rfl,hb1⟩;have HB1:=zh hb1;clear hb1;go_wp2_with fail
  refine (HP.out _ (HE.out.later HB1.out)).mono ?_;rintro e w2 ⟨⟨T,p,rfl⟩,hb2⟩;have hw:=Bt HB1.out hb2;clear hb2 HB1;go_wp2_with fail
  go_ret2
  exact ⟨rfl,hw⟩
end Go.Proofs.whole
namespace Go.Proofs.YtneajphgfdlmhaaGreatDoor
open Go Go.ChangeShapes Go.WideShapes Go.RowKit Go.Proofs
theorem aV9 : Tryz.prog.globalNamed "internal/strconv.uint64pow10" = some 4 := by kernel_rfl
theorem aR0:(Tryz.prog.globals[4]?).map (·.type)=some 347:=by kernel_rfl
theorem aQ9:Tryz.prog.underlying 347=some (.array 20 193):=by kernel_rfl
theorem aA2 : Tryz.prog.globalNamed "strconv.ErrRange" = some 3 := by kernel_rfl
theorem aR1:(Tryz.prog.globals[3]?).map (·.type)=some 242:=by kernel_rfl
theorem sErr : "*" ++ "errors.errorString" = "*errors.errorString" := by decide
theorem aR2 (u : TypeId) (h : Tryz.prog.typeName? 3 u = some "*errors.errorString") : u = 342 :=
 typeName_ptr_named (nm := "errors.errorString") (by rw [sErr]; kernel_rfl) zk zd u (by rw [sErr]; exact h)
theorem aj3 {W : World} (h : laidMetH Tryz.prog [("math/bits.deBruijn32tab", Rows.laid_math_bits_deBruijn32tab), ("math/bits.deBruijn64tab", Rows.laid_math_bits_deBruijn64tab), ("internal/strconv.uint64pow10", Rows.laid_internal_strconv_uint64pow10), ("strconv.ErrRange", Rows.laid_strconv_ErrRange), ("strconv.ErrSyntax", Rows.laid_strconv_ErrSyntax)] W) : iR.Pow W ∧ whole.Er W := by
 rw [MakeChecks.laidMetH_plain _ _ _ zk] at h;have h2:=laidMet.tail (laidMet.tail h);refine ⟨Lib.tabIs_of_head aV9 aR0 aQ9 zk zk zk h2,?_⟩;obtain ⟨a,s,hv, -⟩:=laid_sentinel (laidMet.tail h2) aA2 aR1 Tryz.underlying242 aR2 Tryz.underlying342 Tryz.underlying344 rfl rfl Tryz.underlying9 zk zk;refine ⟨_,_,hv,?_⟩;have hc:=World.var?_cell aA2 hv 0
 have e : (Tryz.prog.globalNamed "strconv.ErrRange").getD 0 = 3 := by rw [aA2]; rfl
 rw [e]
 rcases Nat.lt_or_ge 3 W.heap.size with h3|h3
 ·exact h3
 ·unfold World.cell? at hc;rw [Array.getElem?_eq_none h3] at hc;simp at hc
end Go.Proofs.YtneajphgfdlmhaaGreatDoor
namespace Go.Proofs.dA
open Go Go.RowKit Go.SW Go.Num Go.Mem Go.Proofs
theorem Ir (b off c:Nat) (l:List Nat) (w:World) (hl:l.length≤c) (hm:c≤9223372036854775807)
   (hc:∀ k,k<l.length→w.cell? ⟨b,off+k,none⟩=some (.int .u32 (l.getD k 0:Nat))) :
    Calls Tryz.prog 227 #[.slice (some ⟨b,off,none⟩) l.length c] w fun e w'=>e= .returned (.slice (some ⟨b,off,none⟩) (trimLen l l.length) c)∧w=w':=zs1
theorem LJ (w:World):Calls Tryz.prog 227 #[.slice none 0 0] w fun e w'=>e= .returned (.slice none 0 0)∧w=w':=by
 go_enter Tryz.func227,Tryz.ntmps227
 go_wp2
 refine wp_loop_rounds 1 ?_;rw [rounds_succ]
 go_wp2
 go_ret
 exact ⟨rfl,rfl⟩
theorem pQ (v:Value) (l:List Nat) (w:World) (h:lK w v l) (hd:dS 1000000000 l) :
  Calls Tryz.prog 227 #[v] w fun e w'=>∃ v',e= .returned v'∧w=w'∧aQ w v' (val 1000000000 l):=zs2
theorem _root_.Go.zs4 {G:Prop} (h:G:=by
 obtain ⟨a,cap,rfl, -⟩:=h
 have e:decide (n=0)=((((bW 1000000000 n).length:Nat):Int) == 0):=by
  rw [Bool.eq_iff_iff];simp [nD]
 rw [e,dF];clear e;generalize (bW 1000000000 n).length=k;go_enter zq7,zq8
 go_wp2
 go_ret
 exact ⟨rfl,rfl⟩):G:=h
theorem gF (v:Value) (n:Nat) (w:World) (h:aQ w v n) :
  Calls Tryz.prog 201 #[v] w fun e w'=>e= .returned (.bool (decide (n=0)))∧w=w':=zs4
def xq (a b:Nat):Int:=if a<b then -1 else if b<a then 1 else 0
theorem qw {a b:Nat} (h:a<b):xq a b= -1:=if_pos h
theorem oJ {a b:Nat} (h:b<a):xq a b=1:=by unfold xq;rw [if_neg zo,if_pos h]
theorem rO (a:Nat):xq a a=0:=by unfold xq;simp
theorem _root_.Go.zs5 {G:Prop} (h:G:=by
 rcases Nat.lt_trichotomy a b with h|h|h
 ·rw [qw h];go_enter Tryz.func275,Tryz.ntmps275
  go_wp2
  go_ret
  exact ⟨rfl,rfl⟩
 ·subst h;rw [rO];go_enter Tryz.func275,Tryz.ntmps275
  go_wp2
  go_ret
  exact ⟨rfl,rfl⟩
 ·rw [oJ h];go_enter Tryz.func275,Tryz.ntmps275
  go_wp2
  go_ret
  exact ⟨rfl,rfl⟩):G:=h
theorem UA (a b:Nat) (w:World):Calls Tryz.prog 275 #[.int .i64 a,.int .i64 b] w fun e w'=>e= .returned (.int .i64 (xq a b))∧w=w':=zs5
theorem _root_.Go.zs6 {G:Prop} (h:G:=by
 rcases Nat.lt_trichotomy a b with h|h|h
 ·rw [qw h];go_enter Tryz.func276,Tryz.ntmps276
  go_wp2
  go_ret
  exact ⟨rfl,rfl⟩
 ·subst h;rw [rO];go_enter Tryz.func276,Tryz.ntmps276
  go_wp2
  go_ret
  exact ⟨rfl,rfl⟩
 ·rw [oJ h];go_enter Tryz.func276,Tryz.ntmps276
  go_wp2
  go_ret
  exact ⟨rfl,rfl⟩):G:=h
theorem Uz (a b:Nat) (w:World):Calls Tryz.prog 276 #[.int .u32 a,.int .u32 b] w fun e w'=>e= .returned (.int .i64 (xq a b))∧w=w':=zs6
theorem _root_.Go.zs7 {G:Prop} (h:G:=by
 have h1:((m:Int) == (n:Int))=false:=by simp;omega
 have h2:((m:Int) != (n:Int))=true:=by simp;omega
 go_enter zq9,at5
 go_wp2_with (go_at_call 275;refine (UA _ _ _).mono ?_;rintro e w' ⟨rfl,rfl⟩)
 go_ret
 exact ⟨rfl,rfl⟩):G:=h
theorem Bn (a b:Option Addr) (m n c d:Nat) (w:World) (h:m≠n) :
  Calls Tryz.prog 223 #[.slice a m c,.slice b n d] w fun e w'=>e= .returned (.int .i64 (xq m n))∧w=w':=zs7
theorem _root_.Go.zs8 {G:Prop} (h:G:=by
 have HL:=zh hlen;clear hlen;rw [← HL.out];have h1:((l.length:Int) == (l.length:Int))=true:=by simp
 have h2:((l.length:Int) != (l.length:Int))=false:=by simp
 go_enter zq9,at5
 go_wp2
 clear h1 h2
 go_loopw [5] (fun i wr=>∃ q:Int, -1≤q∧q<l.length∧i= .int .i64 q∧l.drop (q+1).toNat=m.drop (q+1).toNat∧Below w.heap.size w wr) (fun i _=>(intOf i+1).toNat)
 case atStart=>exact ⟨(l.length:Int) - 1,by omega,by omega,rfl,by rw [show ((l.length:Int) - 1+1).toNat=l.length by omega,List.drop_length];rw [HL.out,List.drop_length],Below.refl _ _⟩
 case round =>
  obtain ⟨q,hq1,hq2,rfl,hdr,hb⟩:=hrel;have HD:=zh hdr;clear hdr
  by_cases hq:q<0
  ·have hq0:q= -1:=by omega
   subst hq0
   go_wp2
   go_ret
   have e:l=m:=by have:=HD.out;simpa using this
   rw [e,rO];exact ⟨rfl,hb⟩
  ·obtain ⟨j,rfl⟩:=Int.eq_ofNat_of_zero_le (by omega:0≤q);have hjl:j<l.length:=by omega
   have hjm:j<m.length:=by rw [← HL.out];exact hjl
   obtain ⟨ba,oa,rfl,hba,hx0⟩:=hc j hjl;obtain ⟨bb,ob,rfl,hbb,hy0⟩:=hd j hjm;have hx:wr.cell? ⟨ba,oa+j,none⟩=some (.int .u32 (l.getD j 0:Nat)):=(hb.cell (by exact hba)).trans hx0;have hy:wr.cell? ⟨bb,ob+j,none⟩=some (.int .u32 (m.getD j 0:Nat)):=(hb.cell (by exact hbb)).trans hy0;clear hx0 hy0;have HD2:Hid (l.drop (j+1)=m.drop (j+1)):=by have:=HD.out;rwa [show ((j:Int)+1).toNat=j+1 by omega] at this
   have hlt:Hid (l.getD j 0<m.getD j 0→val 1000000000 l<val 1000000000 m):=vH zo hl hjl hjm HD2.out;have hgt:Hid (m.getD j 0<l.getD j 0→val 1000000000 m<val 1000000000 l):=vH zo hmd hjm hjl HD2.out.symm;have heq:Hid (l.getD j 0=m.getD j 0→l.drop j=m.drop j):=fun e=>by rw [iH hjl,iH hjm,HD2.out,e]
   generalize l.getD j 0=x at *;generalize m.getD j 0=y at *;clear HD HD2 hc hd
   by_cases hxy:x=y
   ·subst hxy;have h1:((x:Int) == (x:Int))=true:=by simp
    have h2:((x:Int) != (x:Int))=false:=by simp
    go_wp2
    go_quiet (fail)
    go_wp2
    go_roundw
    case rel=>exact ⟨(j:Int) - 1,by omega,by omega,rfl,by rw [show ((j:Int) - 1+1).toNat=j by omega];exact heq.out trivial,below_drewN hb _⟩
    case measure=>simp [intOf]
   ·have h1:((x:Int) == (y:Int))=false:=by simp;omega
    have h2:((x:Int) != (y:Int))=true:=by simp;omega
    go_wp2
    go_quiet (fail)
    go_wp2
    refine aF [(.pure,0),(.pure,1),(.pure,2),(.read,3),(.pure,4),(.pure,5),(.pure,6),(.read,7),(.ext,8),(.fin,9)] zk zk zR zP ?_;refine zV ?_;refine aH rfl rfl (fun w1 hb1 J hJ=>?_);go_simp;refine (Uz _ _ _).mono ?_;rintro e w' ⟨rfl,rfl⟩;refine hJ _ _ (Below.refl _ _) ?_;clear hJ J;refine aU [_] rfl (fun w2 hb2=>?_)
    go_wp2
    go_ret
    refine ⟨?_,Bt (Bt hb (Za hb1)) hb2⟩
    rcases Nat.lt_or_gt_of_ne hxy with h|h
    ·rw [qw h,qw (hlt.out h)];rfl
    ·rw [oJ h,oJ (hgt.out h)];rfl):G:=h
theorem yZ (pa pb:Option Addr) (ca cb:Nat) (l m:List Nat) (w:World) (hlen:l.length=m.length) (hm:l.length≤9223372036854775807) (hl:dS 1000000000 l) (hmd:dS 1000000000 m)
   (hc:∀ k,k<l.length→∃ b off,pa=some ⟨b,off,none⟩∧b<w.heap.size∧w.cell? ⟨b,off+k,none⟩=some (.int .u32 (l.getD k 0:Nat)))
   (hd:∀ k,k<m.length→∃ b off,pb=some ⟨b,off,none⟩∧b<w.heap.size∧w.cell? ⟨b,off+k,none⟩=some (.int .u32 (m.getD k 0:Nat))) :
    Calls Tryz.prog 223 #[.slice pa l.length ca,.slice pb m.length cb] w fun e w'=>e= .returned (.int .i64 (xq (val 1000000000 l) (val 1000000000 m)))∧Below w.heap.size w w':=zs8
theorem _root_.Go.zs9 {G:Prop} (h:G:=by
 by_cases hs:sz 1000000000 a=sz 1000000000 b
 ·obtain ⟨pa,ca,rfl,h1,h2,h3⟩:=lK.read hx.Ci;obtain ⟨pb,cb,rfl,k1,k2,k3⟩:=lK.read hy.Ci;refine (yZ pa pb ca cb _ _ w hs zo (aT zo a) (aT zo b) h3 k3).mono ?_;rintro e w' ⟨rfl,hb⟩;rw [aP zo,aP zo];exact ⟨rfl,hb⟩
 ·obtain ⟨a',ca,rfl, -⟩:=hx;obtain ⟨b',cb,rfl, -⟩:=hy;rw [dF,dF];refine (Bn a' b' _ _ ca cb w hs).mono ?_;rintro e w' ⟨rfl,rfl⟩;refine ⟨?_,Below.refl _ _⟩
  rcases Nat.lt_or_gt_of_ne hs with h|h
  ·rw [qw (uL zo h)];exact congrArg _ (congrArg _ (qw h))
  ·rw [oJ (uL zo h)];exact congrArg _ (congrArg _ (oJ h))):G:=h
theorem iO (x y:Value) (a b:Nat) (w:World) (hx:aQ w x a) (hy:aQ w y b) :
  Calls Tryz.prog 223 #[x,y] w fun e w'=>e= .returned (.int .i64 (xq a b))∧Below w.heap.size w w':=zs9
theorem Bb:(Tryz.prog.info? 61).map (fun i=>(i.zero,i.size,i.bytes))=some (some (.int .u32 0),1,4):=by kernel_rfl
theorem _root_.Go.aG4 {G:Prop} (h:G:=by
 have hm:val B (m.take (k+1))=val B (m.take k)+B^k*m.getD k 0:=by
  by_cases hkm:k<m.length
  ·exact bg B hkm
  ·rw [List.take_of_length_le zo,List.take_of_length_le zo];simp [Nat.le_of_not_lt hkm]
 rw [gU,bg B hk,hm,hs,Nat.pow_succ];have h2:=congrArg (B^k* ·) h;simp only [Nat.mul_add] at h2;rw [show c'*(B^k*B)=B^k*(c'*B) by rw [Nat.mul_left_comm]];rw [Nat.mul_comm c (B^k)] at he;omega):G:=h
theorem Aa {B:Nat} {l m s:List Nat} {k c d c':Nat} (hk:k<l.length) (hs:s.length=k) (he:val B s+c*B^k=val B (l.take k)+val B (m.take k)) (h:d+c'*B=l.getD k 0+c+m.getD k 0) :
  val B (s++[d])+c'*B^(k+1)=val B (l.take (k+1))+val B (m.take (k+1)):=aG4
theorem _root_.Go.aG3 {G:Prop} (h:G:=by
 obtain ⟨i0,hi,hz0,hz1,hz2⟩:=info_parts Bb
 rcases hv with ⟨rfl,rfl⟩|⟨rfl,rfl,hlt⟩
 all_goals
  go_enter aI6,aI5
  go_wp2_with (at_make;refine wpList_make_own _ rfl _ _ Lv rfl w.heap.size 61 i0 (.int .u32 0) 1 OT hi hz0 hz1 _ _ _ (l.length+1) rfl rfl zo (by rw [hz2];omega) (by unfold maxLen;omega) (Nat.le_refl _) ?_)
  intro w0 hown0 jA
  go_wp2
  go_loopw [5,6,7,8,22] (fun out cv _ _ kv wr=>∃ (k c:Nat) (s:List Nat),k≤l.length∧c≤1∧s.length=k∧kv= .int .i64 k∧cv= .int .u32 c∧out= .slice (some ⟨w.heap.size,0,none⟩) k (l.length+1) ∧
    wr.ownsRow w.heap.size 61 1 (.slice (some ⟨w.heap.size,0,none⟩) k (l.length+1)) k (bZ s)∧dS 1000000000 s∧Hid (val 1000000000 s+c*1000000000^k=val 1000000000 (l.take k)+val 1000000000 (m.take k))∧Below w.heap.size w wr)
   (fun _ _ _ _ kv _=>l.length - (intOf kv).toNat)
  case atStart=>exact ⟨0,0,[],Nat.zero_le _,by omega,rfl,rfl,rfl,rfl,hown0,dS.nil,(by simp [val]:val _ _+0*_=_),(Below.refl _ _).grown jA (Nat.le_refl _) (fun k h=>by cases h)⟩
  case round =>
   obtain ⟨k,c,s,hk,hc1,hs,rfl,rfl,rfl,hown,hds,HV,hb⟩:=hrel;have HS:=zh hs;clear hs
   by_cases hkl:k<l.length
   ·obtain ⟨b,off,rfl,hbb,hx0⟩:=hc k hkl;have hx:wr.cell? ⟨b,off+k,none⟩=some (.int .u32 (l.getD k 0:Nat)):=(hb.cell (by exact hbb)).trans hx0;have hdl:l.getD k 0<1000000000:=hl.getD zo k
    have HP:∀ d c',d+c'*1000000000=l.getD k 0+c+m.getD k 0→val 1000000000 (s++[d])+c'*1000000000^(k+1)=val 1000000000 (l.take (k+1))+val 1000000000 (m.take (k+1)) :=
     fun d c' h=>Aa hkl HS.out HV.out h
    have mg:=zh HP;clear HP hx0 hc
    by_cases hkm:k<m.length
    ·obtain ⟨b2,off2,rfl,Ko,hy0⟩:=hd k hkm;have hy:wr.cell? ⟨b2,off2+k,none⟩=some (.int .u32 (m.getD k 0:Nat)):=(hb.cell (by exact Ko)).trans hy0;have QF:m.getD k 0<1000000000:=hmd.getD zo k;clear hy0 hd;generalize l.getD k 0=x at *;generalize m.getD k 0=y at *
     by_cases hge:x+c+y<1000000000
     ·have hge':decide ((1000000000:Int)≤(x:Int)+(c:Int)+(y:Int))=false:=by rw [decide_eq_false_iff_not];omega
      have HG:=zh hge;clear hge;go_wp2_with (at_builtin;refine wpList_append_fits _ rfl (.tmp 44) (.tmp 46) Lv rfl w.heap.size 61 i0 1 OT hi hz1 w.heap.size k (l.length+1) _ rfl (hown.alloc _) ⟨wr.heap.size,0,none⟩ 1 1 [.int .u32 ((x:Int)+(c:Int)+(y:Int))] rfl rfl (by intro t u ht;match t,ht with|0,ht=>simp at ht;subst ht;simp [Addr.add]) (by intro u hu;simp at hu;subst hu;rfl) zo ?_)
      intro w1 hown1 hgrow1
      have hown2:w1.ownsRow w.heap.size 61 1 (.slice (some ⟨w.heap.size,0,none⟩) (k+1) (l.length+1)) (k+1) (bZ (s++[x+c+y])):=by
       have e:bZ (s++[x+c+y])=bZ s++[.int .u32 ((x:Int)+(c:Int)+(y:Int))]:=by have:=HG.out;unfold bZ;simp only [List.map_append,List.map_cons,List.map_nil];rw [show ((x+c+y:Nat):Int)=(x:Int)+(c:Int)+(y:Int) by omega]
       rw [e];exact hown1
      have hb2:Below w.heap.size w w1:=(hb.alloc hb.size _).grown hgrow1 (by simp;have:=hb.size;omega) (fun k hk=>by cases hk;exact Nat.le_refl _);clear hown hown1 hgrow1
      go_wp2
      go_roundw
      case rel=>exact ⟨k+1,0,s++[x+c+y],by omega,by omega,by rw [List.length_append,HS.out];rfl,by go_num,rfl,rfl,hown2,hds.snoc (by have:=HG.out;omega),mg.out _ _ (by have:=HG.out;omega),hb2⟩
      case measure=>exact zM
     ·have hge':decide ((1000000000:Int)≤(x:Int)+(c:Int)+(y:Int))=true:=by rw [decide_eq_true_iff];omega
      have aL8:(0:Int)≤(x:Int)+(c:Int)+(y:Int) - 1000000000:=by omega
      have HG:=zh hge;clear hge;go_wp2_with (at_builtin;refine wpList_append_fits _ rfl (.tmp 44) (.tmp 46) Lv rfl w.heap.size 61 i0 1 OT hi hz1 w.heap.size k (l.length+1) _ rfl (hown.alloc _) ⟨wr.heap.size,0,none⟩ 1 1 [.int .u32 ((x:Int)+(c:Int)+(y:Int) - 1000000000)] rfl rfl (by intro t u ht;match t,ht with|0,ht=>simp at ht;subst ht;simp [Addr.add]) (by intro u hu;simp at hu;subst hu;rfl) zo ?_)
      intro w1 hown1 hgrow1
      have hown2:w1.ownsRow w.heap.size 61 1 (.slice (some ⟨w.heap.size,0,none⟩) (k+1) (l.length+1)) (k+1) (bZ (s++[x+c+y - 1000000000])):=by
       have e:bZ (s++[x+c+y - 1000000000])=bZ s++[.int .u32 ((x:Int)+(c:Int)+(y:Int) - 1000000000)]:=by have:=HG.out;unfold bZ;simp only [List.map_append,List.map_cons,List.map_nil];rw [show ((x+c+y - 1000000000:Nat):Int)=(x:Int)+(c:Int)+(y:Int) - 1000000000 by omega]
       rw [e];exact hown1
      have hb2:Below w.heap.size w w1:=(hb.alloc hb.size _).grown hgrow1 (by simp;have:=hb.size;omega) (fun k hk=>by cases hk;exact Nat.le_refl _);clear hown hown1 hgrow1
      go_wp2
      go_roundw
      case rel=>exact ⟨k+1,1,s++[x+c+y - 1000000000],by omega,by omega,by rw [List.length_append,HS.out];rfl,by go_num,rfl,rfl,hown2,hds.snoc (by have:=HG.out;omega),mg.out _ _ (by have:=HG.out;omega),hb2⟩
      case measure=>exact zM
    ·have hm0:m.getD k 0=0:=by simp [Nat.le_of_not_lt hkm]
     rw [hm0] at mg;clear hm0 hd;generalize l.getD k 0=x at *
     by_cases hge:x+c<1000000000
     ·have hge':decide ((1000000000:Int)≤(x:Int)+(c:Int))=false:=by rw [decide_eq_false_iff_not];omega
      have HG:=zh hge;clear hge;go_wp2_with (at_builtin;refine wpList_append_fits _ rfl (.tmp 44) (.tmp 46) Lv rfl w.heap.size 61 i0 1 OT hi hz1 w.heap.size k (l.length+1) _ rfl (hown.alloc _) ⟨wr.heap.size,0,none⟩ 1 1 [.int .u32 ((x:Int)+(c:Int))] rfl rfl (by intro t u ht;match t,ht with|0,ht=>simp at ht;subst ht;simp [Addr.add]) (by intro u hu;simp at hu;subst hu;rfl) zo ?_)
      intro w1 hown1 hgrow1
      have hown2:w1.ownsRow w.heap.size 61 1 (.slice (some ⟨w.heap.size,0,none⟩) (k+1) (l.length+1)) (k+1) (bZ (s++[x+c])):=by
       have e:bZ (s++[x+c])=bZ s++[.int .u32 ((x:Int)+(c:Int))]:=by have:=HG.out;unfold bZ;simp only [List.map_append,List.map_cons,List.map_nil];rw [show ((x+c:Nat):Int)=(x:Int)+(c:Int) by omega]
       rw [e];exact hown1
      have hb2:Below w.heap.size w w1:=(hb.alloc hb.size _).grown hgrow1 (by simp;have:=hb.size;omega) (fun k hk=>by cases hk;exact Nat.le_refl _);clear hown hown1 hgrow1
      go_wp2
      go_roundw
      case rel=>exact ⟨k+1,0,s++[x+c],by omega,by omega,by rw [List.length_append,HS.out];rfl,by go_num,rfl,rfl,hown2,hds.snoc (by have:=HG.out;omega),mg.out _ _ (by have:=HG.out;omega),hb2⟩
      case measure=>exact zM
     ·have hge':decide ((1000000000:Int)≤(x:Int)+(c:Int))=true:=by rw [decide_eq_true_iff];omega
      have aL8:(0:Int)≤(x:Int)+(c:Int) - 1000000000:=by omega
      have HG:=zh hge;clear hge;go_wp2_with (at_builtin;refine wpList_append_fits _ rfl (.tmp 44) (.tmp 46) Lv rfl w.heap.size 61 i0 1 OT hi hz1 w.heap.size k (l.length+1) _ rfl (hown.alloc _) ⟨wr.heap.size,0,none⟩ 1 1 [.int .u32 ((x:Int)+(c:Int) - 1000000000)] rfl rfl (by intro t u ht;match t,ht with|0,ht=>simp at ht;subst ht;simp [Addr.add]) (by intro u hu;simp at hu;subst hu;rfl) zo ?_)
      intro w1 hown1 hgrow1
      have hown2:w1.ownsRow w.heap.size 61 1 (.slice (some ⟨w.heap.size,0,none⟩) (k+1) (l.length+1)) (k+1) (bZ (s++[x+c - 1000000000])):=by
       have e:bZ (s++[x+c - 1000000000])=bZ s++[.int .u32 ((x:Int)+(c:Int) - 1000000000)]:=by have:=HG.out;unfold bZ;simp only [List.map_append,List.map_cons,List.map_nil];rw [show ((x+c - 1000000000:Nat):Int)=(x:Int)+(c:Int) - 1000000000 by omega]
       rw [e];exact hown1
      have hb2:Below w.heap.size w w1:=(hb.alloc hb.size _).grown hgrow1 (by simp;have:=hb.size;omega) (fun k hk=>by cases hk;exact Nat.le_refl _);clear hown hown1 hgrow1
      go_wp2
      go_roundw
      case rel=>exact ⟨k+1,1,s++[x+c - 1000000000],by omega,by omega,by rw [List.length_append,HS.out];rfl,by go_num,rfl,rfl,hown2,hds.snoc (by have:=HG.out;omega),mg.out _ _ (by have:=HG.out;omega),hb2⟩
      case measure=>exact zM
   ·have hkk:k=l.length:=by omega
    subst hkk;clear hc hd
    have Cn:Hid (val 1000000000 s+c*1000000000^l.length=val 1000000000 l+val 1000000000 m):=by
     have:=HV.out;rwa [List.take_length,List.take_of_length_le hml] at this
    clear HV
    rcases Nat.eq_zero_or_pos c with h0|h0
    ·subst h0
     go_wp2
     go_ret
     refine ⟨s,_,rfl,hb,lK.fI hown,hds,by have:=Cn.out;simpa using this,Nat.le_of_eq HS.out.symm,fun h=>absurd h (by rw [HS.out];exact Nat.lt_irrefl _)⟩
    ·have hc1':c=1:=by omega
     subst hc1';go_wp2_with (at_builtin;refine wpList_append_fits _ rfl (.tmp 51) (.tmp 53) Lv rfl w.heap.size 61 i0 1 OT hi hz1 w.heap.size l.length (l.length+1) _ rfl (hown.alloc _) ⟨wr.heap.size,0,none⟩ 1 1 [.int .u32 1] rfl rfl (by intro t u ht;match t,ht with|0,ht=>simp at ht;subst ht;simp [Addr.add]) (by intro u hu;simp at hu;subst hu;rfl) zo ?_)
     intro w1 hown1 hgrow1
     have hown2:w1.ownsRow w.heap.size 61 1 (.slice (some ⟨w.heap.size,0,none⟩) (l.length+1) (l.length+1)) (l.length+1) (bZ (s++[1])):=by
      have e:bZ (s++[1])=bZ s++[.int .u32 1]:=by simp [bZ]
      rw [e];exact hown1
     have hb2:Below w.heap.size w w1:=(hb.alloc hb.size _).grown hgrow1 (by simp;have:=hb.size;omega) (fun k hk=>by cases hk;exact Nat.le_refl _);clear hown hown1 hgrow1
     go_wp2
     go_ret
     refine ⟨s++[1],_,rfl,hb2,lK.fI hown2,hds.snoc zo,?_,by rw [List.length_append,HS.out];exact Nat.le_add_right _ _,fun _=>Top.snoc zo⟩;have:=Cn.out;rw [gU,HS.out,Nat.mul_one]
     rwa [Nat.one_mul] at this):G:=h
theorem zZ (pl ps:Option Addr) (cl cs:Nat) (l m:List Nat) (v0 v1:Value) (w:World) (hl:dS 1000000000 l) (hmd:dS 1000000000 m) (hb1:l.length≤1099511627776) (hml:m.length≤l.length)
   (hv:(v0= .slice pl l.length cl∧v1= .slice ps m.length cs)∨(v1= .slice pl l.length cl∧v0= .slice ps m.length cs∧m.length<l.length))
   (hc:∀ k,k<l.length→∃ b off,pl=some ⟨b,off,none⟩∧b<w.heap.size∧w.cell? ⟨b,off+k,none⟩=some (.int .u32 (l.getD k 0:Nat)))
   (hd:∀ k,k<m.length→∃ b off,ps=some ⟨b,off,none⟩∧b<w.heap.size∧w.cell? ⟨b,off+k,none⟩=some (.int .u32 (m.getD k 0:Nat))) :
    Calls Tryz.prog 228 #[v0,v1] w fun e w'=>∃ s v,e= .returned v∧Below w.heap.size w w'∧lK w' v s∧dS 1000000000 s∧val 1000000000 s=val 1000000000 l+val 1000000000 m∧l.length≤s.length∧(l.length<s.length→Top s):=aG3
theorem _root_.Go.zs12 {G:Prop} (h:G:=by
 have fin:∀ (l m s:List Nat) (w':World) (v:Value),Top l→lK w' v s→dS 1000000000 s→val 1000000000 s=val 1000000000 l+val 1000000000 m→l.length≤s.length→(l.length<s.length→Top s)→aQ w' v (val 1000000000 l+val 1000000000 m):=fun l m s w' v ht h1 h2 h3 h4 h5=>by
  rw [← h3];refine aQ.Qm h1 h2 ?_
  by_cases h:l.length<s.length
  ·exact h5 h
  ·exact Pq zo ht h2 zo zo
 obtain ⟨pa,ca,rfl,h1,h2,h3⟩:=lK.read hx.Ci;obtain ⟨pb,cb,rfl,k1,k2,k3⟩:=lK.read hy.Ci
 by_cases hlt:(bW 1000000000 a).length<(bW 1000000000 b).length
 ·refine (zZ pb pa cb ca _ _ _ _ w (aT zo b) (aT zo a) hb zo (.inr ⟨rfl,rfl,hlt⟩) k3 h3).mono ?_;rintro e w' ⟨s,v,rfl,hbl,q1,q2,q3,q4,q5⟩;refine ⟨v,rfl,hbl,?_⟩;have:=fin _ _ s w' v (mV zo b) q1 q2 q3 q4 q5
  rwa [aP zo,aP zo,Nat.add_comm] at this
 ·refine (zZ pa pb ca cb _ _ _ _ w (aT zo a) (aT zo b) ha zo (.inl ⟨rfl,rfl⟩) h3 k3).mono ?_;rintro e w' ⟨s,v,rfl,hbl,q1,q2,q3,q4,q5⟩;refine ⟨v,rfl,hbl,?_⟩;have:=fin _ _ s w' v (mV zo a) q1 q2 q3 q4 q5
  rwa [aP zo,aP zo] at this):G:=h
theorem Ca (x y:Value) (a b:Nat) (w:World) (hx:aQ w x a) (hy:aQ w y b) (ha:sz 1000000000 a≤1099511627776) (hb:sz 1000000000 b≤1099511627776) :
  Calls Tryz.prog 228 #[x,y] w fun e w'=>∃ v,e= .returned v∧Below w.heap.size w w'∧aQ w' v (a+b):=zs12
theorem _root_.Go.aG2 {G:Prop} (h:G:=by
 obtain ⟨i0,hi,hz0,hz1,hz2⟩:=info_parts Bb;have Jo:=zh hle;clear hle;go_enter aI4,aI3
 go_wp2_with (at_make;refine wpList_make_full _ rfl _ _ Lv rfl w.heap.size 61 i0 (.int .u32 0) 1 OT hi hz0 hz1 _ _ _ _ l.length rfl rfl zo zo (by rw [hz2];omega) (by unfold maxLen;omega) (Nat.le_refl _) ?_)
 intro w0 hown0 jA;rw [qW] at hown0
 go_wp2
 go_loopw [6,7,8,9,15] (fun cv _ _ _ kv wr=>∃ (k c:Nat) (s:List Nat),k≤l.length∧c≤1∧Hid (s.length=k)∧kv= .int .i64 k∧cv= .int .u32 c ∧
   wr.ownsRow w.heap.size 61 1 (.slice (some ⟨w.heap.size,0,none⟩) l.length l.length) l.length (bZ (s++List.replicate (l.length - k) 0))∧dS 1000000000 s∧Hid (val 1000000000 s+val 1000000000 (m.take k)=val 1000000000 (l.take k)+c*1000000000^k)∧Below w.heap.size w wr)
  (fun _ _ _ _ kv _=>l.length - (intOf kv).toNat)
 case atStart=>exact ⟨0,0,[],Nat.zero_le _,by omega,rfl,rfl,rfl,by simpa using hown0,dS.nil,(by simp [val]:val _ _+val _ _=val _ _+0*_),(Below.refl _ _).grown jA (Nat.le_refl _) (fun k h=>by cases h)⟩
 case round =>
  obtain ⟨k,c,s,hk,hc1,HS,rfl,rfl,hown,hds,HV,hb⟩:=hrel
  by_cases hkl:k<l.length
  ·obtain ⟨b,off,rfl,hbb,hx0⟩:=hc k hkl;have hx:wr.cell? ⟨b,off+k,none⟩=some (.int .u32 (l.getD k 0:Nat)):=(hb.cell (by exact hbb)).trans hx0;have hdl:l.getD k 0<1000000000:=hl.getD zo k
   have hr1:wr.cell? ⟨w.heap.size,k,none⟩=some (.int .u32 0):=by
    rw [hown.cellAt k zo,mP (by rw [List.length_append,HS.out,List.length_replicate];omega),aa2 HS.out];rfl
   have hr2:wr.frozen? ⟨w.heap.size,k,none⟩=false:=hown.frozenAt k
   have HP:Hid (∀ d c',d+m.getD k 0+c=l.getD k 0+c'*1000000000→val 1000000000 (s++[d])+val 1000000000 (m.take (k+1))=val 1000000000 (l.take (k+1))+c'*1000000000^(k+1)) :=
    fun d c' h=>Dr hkl HS.out HV.out h
   have HO:Hid (∀ d:Nat,(wr.setCell ⟨w.heap.size,k,none⟩ (.int .u32 (d:Int))).ownsRow w.heap.size 61 1 (.slice (some ⟨w.heap.size,0,none⟩) l.length l.length) l.length (bZ ((s++[d])++List.replicate (l.length - (k+1)) 0))∧Below w.heap.size w (wr.setCell ⟨w.heap.size,k,none⟩ (.int .u32 (d:Int)))):=fun d=>by
    have h1:=(hown.stored k (.int .u32 (d:Int))).1;rw [jP,set_mid HS.out hkl] at h1;exact ⟨h1,hb.setCell (Nat.le_refl _) _⟩
   clear hx0 hc hown
   by_cases hkm:k<m.length
   ·obtain ⟨b2,off2,rfl,Ko,hy0⟩:=hd k hkm;have hy:wr.cell? ⟨b2,off2+k,none⟩=some (.int .u32 (m.getD k 0:Nat)):=(hb.cell (by exact Ko)).trans hy0;have QF:m.getD k 0<1000000000:=hmd.getD zo k;clear hy0 hd;generalize l.getD k 0=x at *;generalize m.getD k 0=y at *
    by_cases hge:x<c+y
    ·have pE:=HO.out (x+1000000000 - (c+y));rw [show ((x+1000000000 - (c+y):Nat):Int)=(x:Int)+1000000000 - ((c:Int)+(y:Int)) by omega] at pE;have pK:=zh pE;clear pE HO
     go_wp2
     go_roundw
     case rel=>exact ⟨k+1,1,s++[x+1000000000 - (c+y)],by omega,by omega,zh (by rw [List.length_append,HS.out];rfl),by go_num,rfl,pK.out.1,hds.snoc zo,HP.out _ _ zo,pK.out.2⟩
     case measure=>exact zM
    ·have pE:=HO.out (x - (c+y));rw [show ((x - (c+y):Nat):Int)=(x:Int) - ((c:Int)+(y:Int)) by omega] at pE;have pK:=zh pE;clear pE HO
     go_wp2
     go_roundw
     case rel=>exact ⟨k+1,0,s++[x - (c+y)],by omega,by omega,zh (by rw [List.length_append,HS.out];rfl),by go_num,rfl,pK.out.1,hds.snoc zo,HP.out _ _ zo,pK.out.2⟩
     case measure=>exact zM
   ·have hm0:m.getD k 0=0:=by simp [Nat.le_of_not_lt hkm]
    rw [hm0] at HP;clear hm0 hd;generalize l.getD k 0=x at *
    by_cases hge:x<c
    ·have pE:=HO.out (x+1000000000 - c);rw [show ((x+1000000000 - c:Nat):Int)=(x:Int)+1000000000 - (c:Int) by omega] at pE;have pK:=zh pE;clear pE HO
     go_wp2
     go_roundw
     case rel=>exact ⟨k+1,1,s++[x+1000000000 - c],by omega,by omega,zh (by rw [List.length_append,HS.out];rfl),by go_num,rfl,pK.out.1,hds.snoc zo,HP.out _ _ zo,pK.out.2⟩
     case measure=>exact zM
    ·have pE:=HO.out (x - c);rw [show ((x - c:Nat):Int)=(x:Int) - (c:Int) by omega] at pE;have pK:=zh pE;clear pE HO
     go_wp2
     go_roundw
     case rel=>exact ⟨k+1,0,s++[x - c],by omega,by omega,zh (by rw [List.length_append,HS.out];rfl),by go_num,rfl,pK.out.1,hds.snoc zo,HP.out _ _ zo,pK.out.2⟩
     case measure=>exact zM
  ·have hkk:k=l.length:=by omega
   subst hkk;clear hc hd
   have Cn:val 1000000000 s+val 1000000000 m=val 1000000000 l+c*1000000000^l.length:=by
    have:=HV.out;rwa [List.take_length,List.take_of_length_le hml] at this
   have hvs:val 1000000000 s<1000000000^l.length:=by have:=gJ zo hds;rwa [HS.out] at this
   have hc0:c=0:=by
    rcases Nat.eq_zero_or_pos c with h|h
    ·exact h
    ·exfalso
     have:c=1:=by omega
     subst this;have:=Jo.out;omega
   have HF:Hid (val 1000000000 s=val 1000000000 l - val 1000000000 m):=by subst hc0;unfold Hid;omega
   clear HV Cn hvs Jo
   have hown3:lK wr (.slice (some ⟨w.heap.size,0,none⟩) l.length l.length) s:=by
    have:=lK.fI hown;rwa [Nat.sub_self,List.replicate_zero,List.append_nil] at this
   clear hown;go_wp2_with ((first|go_at_call 227|go_at_call 327);refine (pQ _ _ _ hown3 hds).mono ?_;rintro e w' ⟨v,rfl,rfl,hv⟩)
   go_ret
   exact ⟨v,rfl,hb,by rw [← HF.out];exact hv⟩):G:=h
theorem Dq (pl ps:Option Addr) (cl cs:Nat) (l m:List Nat) (w:World) (hl:dS 1000000000 l) (hmd:dS 1000000000 m) (hb1:l.length≤1099511627776) (hml:m.length≤l.length) (hle:val 1000000000 m≤val 1000000000 l)
   (hc:∀ k,k<l.length→∃ b off,pl=some ⟨b,off,none⟩∧b<w.heap.size∧w.cell? ⟨b,off+k,none⟩=some (.int .u32 (l.getD k 0:Nat)))
   (hd:∀ k,k<m.length→∃ b off,ps=some ⟨b,off,none⟩∧b<w.heap.size∧w.cell? ⟨b,off+k,none⟩=some (.int .u32 (m.getD k 0:Nat))) :
    Calls Tryz.prog 229 #[.slice pl l.length cl,.slice ps m.length cs] w fun e w'=>∃ v,e= .returned v∧Below w.heap.size w w'∧aQ w' v (val 1000000000 l - val 1000000000 m):=aG2
theorem _root_.Go.aG1 {G:Prop} (h:G:=by
 obtain ⟨pa,ca,rfl,h1,h2,h3⟩:=lK.read hx.Ci;obtain ⟨pb,cb,rfl,k1,k2,k3⟩:=lK.read hy.Ci;have:=Dq pa pb ca cb _ _ w (aT zo a) (aT zo b) ha (dh zo hle) (by rw [aP zo,aP zo];exact hle) h3 k3
 rwa [aP zo,aP zo] at this):G:=h
theorem Dt (x y:Value) (a b:Nat) (w:World) (hx:aQ w x a) (hy:aQ w y b) (ha:sz 1000000000 a≤1099511627776) (hle:b≤a) :
  Calls Tryz.prog 229 #[x,y] w fun e w'=>∃ v,e= .returned v∧Below w.heap.size w w'∧aQ w' v (a - b):=aG1
theorem Tz {x y:Nat} (hx:x<1000000000) (hy:y<1000000000):(0:Int)≤(x:Int)*(y:Int)∧(x:Int)*(y:Int)≤999999998000000001:=by
 have h:x*y≤999999999*999999999:=Nat.mul_le_mul zo zo;rw [← Int.natCast_mul];omega
theorem _root_.Go.aG0 {G:Prop} (h:G:=by
 obtain ⟨i0,hi,hz0,hz1,hz2⟩:=info_parts Bb;go_enter aI2,aI1
 go_wp2_with (at_make;refine wpList_make_full _ rfl _ _ Lv rfl w.heap.size 61 i0 (.int .u32 0) 1 OT hi hz0 hz1 _ _ _ _ (l.length+m.length) rfl rfl zo zo (by rw [hz2];omega) (by unfold maxLen;omega) (Nat.le_refl _) ?_)
 intro w0 hown0 jA;rw [qW] at hown0
 go_wp2
 go_loopw [6,7,8,9,10,19,26] (fun _ _ _ _ _ iv _ wr=>∃ (i:Nat) (p:List Nat),i≤l.length∧iv= .int .i64 i∧Hid (p.length=l.length+m.length)∧(∀ t,i+m.length≤t→p.getD t 0=0) ∧
   wr.ownsRow w.heap.size 61 1 (.slice (some ⟨w.heap.size,0,none⟩) (l.length+m.length) (l.length+m.length)) (l.length+m.length) (bZ p)∧dS 1000000000 p∧Hid (val 1000000000 p=val 1000000000 (l.take i)*val 1000000000 m)∧Below w.heap.size w wr)
  (fun _ _ _ _ _ iv _ _=>l.length - (intOf iv).toNat)
 case atStart=>exact ⟨0,List.replicate (l.length+m.length) 0,Nat.zero_le _,rfl,zh zi,fun t _=>by simp [List.getD,List.getElem?_replicate];split<;>rfl,hown0,fun x hx=>by rw [List.eq_of_mem_replicate hx];omega,zh (by rw [vG];simp [val]),(Below.refl _ _).grown jA (Nat.le_refl _) (fun k h=>by cases h)⟩
 case round =>
  obtain ⟨i,p,hil,rfl,HL,hz,hown,hdp,HV,hb⟩:=hrel;have HZ:=zh hz;clear hz
  by_cases hlt:i<l.length
  ·obtain ⟨b,off,rfl,hbb,hx0⟩:=hc i hlt;have hx:wr.cell? ⟨b,off+i,none⟩=some (.int .u32 (l.getD i 0:Nat)):=(hb.cell (by exact hbb)).trans hx0;have hdl:l.getD i 0<1000000000:=hl.getD zo i;clear hx0 hc;have HD:Hid (l.getD i 0=l.getD i 0):=rfl
   revert HD
   generalize OZ:l.getD i 0=x at hx hdl;have HX:=zh OZ;clear OZ;intro _;obtain ⟨wo,rfl⟩:∃ wo:World,wo=wr:=⟨_,rfl⟩
   go_wp2
   go_loopw [8,9,10,26] (fun cv _ _ jv wq=>∃ (j c:Nat) (q:List Nat),j≤m.length∧c<1000000000∧jv= .int .i64 j∧cv= .int .u64 c∧Hid (q.length=l.length+m.length)∧Hid (∀ t,i+m.length≤t→q.getD t 0=0) ∧
     wq.ownsRow w.heap.size 61 1 (.slice (some ⟨w.heap.size,0,none⟩) (l.length+m.length) (l.length+m.length)) (l.length+m.length) (bZ q)∧dS 1000000000 q∧Hid (val 1000000000 q+c*1000000000^(i+j)=val 1000000000 (l.take i)*val 1000000000 m+1000000000^i*(x*val 1000000000 (m.take j)))∧Below w.heap.size w wq)
    (fun _ _ _ jv _=>m.length - (intOf jv).toNat)
   case atStart=>exact ⟨0,0,p,Nat.zero_le _,by omega,rfl,rfl,HL,HZ,hown,hdp,zh (by rw [HV.out];simp [val]),hb⟩
   case round =>
    obtain ⟨j,c,q,hjl,hcb,rfl,rfl,XK,XE,hown,Ls,HVq,hb⟩:=hrel
    by_cases hjlt:j<m.length
    ·obtain ⟨b2,off2,rfl,Ko,hy0⟩:=hd j hjlt;have hy:wr.cell? ⟨b2,off2+j,none⟩=some (.int .u32 (m.getD j 0:Nat)):=(hb.cell (by exact Ko)).trans hy0;have QF:m.getD j 0<1000000000:=hmd.getD zo j;have hij:i+j<q.length:=by have:=XK.out;omega
     have hq1:wr.cell? ⟨w.heap.size,i+j,none⟩=some (.int .u32 (q.getD (i+j) 0:Nat)):=by rw [hown.cellAt (i+j) zo,mP hij]
     have hq2:wr.frozen? ⟨w.heap.size,i+j,none⟩=false:=hown.frozenAt (i+j);have az0:q.getD (i+j) 0<1000000000:=Ls.getD zo (i+j);have HS:=zh (CU hjlt hij HVq.out);have HC:=zh (AJ hcb az0 hdl QF)
     have HO:Hid (∀ d:Nat,d<1000000000→(wr.setCell ⟨w.heap.size,i+j,none⟩ (.int .u32 (d:Int))).ownsRow w.heap.size 61 1 (.slice (some ⟨w.heap.size,0,none⟩) (l.length+m.length) (l.length+m.length)) (l.length+m.length) (bZ (q.set (i+j) d)) ∧
       Below w.heap.size w (wr.setCell ⟨w.heap.size,i+j,none⟩ (.int .u32 (d:Int)))∧dS 1000000000 (q.set (i+j) d)∧(q.set (i+j) d).length=l.length+m.length∧(∀ t,i+m.length≤t→(q.set (i+j) d).getD t 0=0)):=fun d hd=>by
      have h1:=(hown.stored (i+j) (.int .u32 (d:Int))).1;rw [jP] at h1;exact ⟨h1,hb.setCell (Nat.le_refl _) _,Ls.set _ hd,by rw [List.length_set];exact XK.out,fun t ht=>by rw [Cc zo];exact XE.out t ht⟩
     clear hy0 hd hown HVq Ls XK XE hij;generalize m.getD j 0=y at *;generalize q.getD (i+j) 0=z at *;obtain ⟨hp1,hp2⟩:=Tz hdl QF;have hr:((((c+(z+x*y))%1000000000:Nat)):Int)=((c:Int)+((z:Int)+(x:Int)*(y:Int)))%1000000000:=by rw [Int.natCast_emod,Int.natCast_add,Int.natCast_add,Int.natCast_mul];rfl
     have hq:((((c+(z+x*y)) / 1000000000:Nat)):Int)=((c:Int)+((z:Int)+(x:Int)*(y:Int))) / 1000000000:=by rw [Int.natCast_ediv,Int.natCast_add,Int.natCast_add,Int.natCast_mul];rfl
     have pE:=HO.out _ (Nat.mod_lt (c+(z+x*y)) zo);rw [hr] at pE;have pK:=zh pE;have HR:=zh hq;clear HO pE hr hq
     go_wp2
     go_roundw
     case rel=>exact ⟨j+1,(c+(z+x*y)) / 1000000000,q.set (i+j) ((c+(z+x*y))%1000000000),by omega,HC.out,by go_num,by rw [HR.out],zh pK.out.2.2.2.1,zh pK.out.2.2.2.2,pK.out.1,pK.out.2.2.1,zh (by rw [← Nat.add_assoc i j 1];exact HS.out),pK.out.2.1⟩
     case measure=>exact zM
    ·have hjm:j=m.length:=by omega
     subst hjm;have hij:i+m.length<q.length:=by have:=XK.out;omega
     have hq1:wr.cell? ⟨w.heap.size,i+m.length,none⟩=some (.int .u32 0):=by rw [hown.cellAt (i+m.length) zo,mP hij,XE.out _ (Nat.le_refl _)];rfl
     have hq2:wr.frozen? ⟨w.heap.size,i+m.length,none⟩=false:=hown.frozenAt (i+m.length)
     have HF:Hid (val 1000000000 (q.set (i+m.length) c)=val 1000000000 (l.take (i+1))*val 1000000000 m) :=
      AB hlt hij (XE.out _ (Nat.le_refl _)) (by have:=HVq.out;rw [List.take_length] at this;rw [HX.out];exact this)
     have HO:Hid ((wr.setCell ⟨w.heap.size,i+m.length,none⟩ (.int .u32 (c:Int))).ownsRow w.heap.size 61 1 (.slice (some ⟨w.heap.size,0,none⟩) (l.length+m.length) (l.length+m.length)) (l.length+m.length) (bZ (q.set (i+m.length) c)) ∧
       Below w.heap.size w (wr.setCell ⟨w.heap.size,i+m.length,none⟩ (.int .u32 (c:Int)))∧dS 1000000000 (q.set (i+m.length) c)∧(q.set (i+m.length) c).length=l.length+m.length∧(∀ t,i+1+m.length≤t→(q.set (i+m.length) c).getD t 0=0)):=by
      have h1:=(hown.stored (i+m.length) (.int .u32 (c:Int))).1;rw [jP] at h1;exact ⟨h1,hb.setCell (Nat.le_refl _) _,Ls.set _ hcb,by rw [List.length_set];exact XK.out,fun t ht=>by rw [Cc zo];exact XE.out t zo⟩
     clear hown HVq Ls XK XE hij hd
     go_wp2
     go_roundw
     case rel=>exact ⟨i+1,q.set (i+m.length) c,by omega,by go_num,zh HO.out.2.2.2.1,HO.out.2.2.2.2,HO.out.1,HO.out.2.2.1,HF,HO.out.2.1⟩
     case measure=>exact zM
  ·have ay6:i=l.length:=by omega
   subst ay6;clear hc hd;have HF:Hid (val 1000000000 p=val 1000000000 l*val 1000000000 m):=by have:=HV.out;rwa [List.take_length] at this
   have hown3:lK wr (.slice (some ⟨w.heap.size,0,none⟩) (l.length+m.length) (l.length+m.length)) p:=lK.fI hown;clear hown HV;go_wp2_with ((first|go_at_call 227|go_at_call 327);refine (pQ _ _ _ hown3 hdp).mono ?_;rintro e w' ⟨v,rfl,rfl,hv⟩)
   go_ret
   exact ⟨v,rfl,hb,by rw [← HF.out];exact hv⟩):G:=h
theorem CQ (pl ps:Option Addr) (cl cs:Nat) (l m:List Nat) (w:World) (hl:dS 1000000000 l) (hmd:dS 1000000000 m) (hb1:l.length≤1099511627776) (hb2:m.length≤1099511627776)
   (hc:∀ k,k<l.length→∃ b off,pl=some ⟨b,off,none⟩∧b<w.heap.size∧w.cell? ⟨b,off+k,none⟩=some (.int .u32 (l.getD k 0:Nat)))
   (hd:∀ k,k<m.length→∃ b off,ps=some ⟨b,off,none⟩∧b<w.heap.size∧w.cell? ⟨b,off+k,none⟩=some (.int .u32 (m.getD k 0:Nat))) :
    Calls Tryz.prog 145 #[.slice pl l.length cl,.slice ps m.length cs] w fun e w'=>∃ v,e= .returned v∧Below w.heap.size w w'∧aQ w' v (val 1000000000 l*val 1000000000 m):=aG0
theorem _root_.Go.aF9 {G:Prop} (h:G:=by
 obtain ⟨pa,ca,rfl,h1,h2,h3⟩:=lK.read hx.Ci;obtain ⟨pb,cb,rfl,k1,k2,k3⟩:=lK.read hy.Ci;have:=CQ pa pb ca cb _ _ w (aT zo a) (aT zo b) ha hb h3 k3
 rwa [aP zo,aP zo] at this):G:=h
theorem iU (x y:Value) (a b:Nat) (w:World) (hx:aQ w x a) (hy:aQ w y b) (ha:sz 1000000000 a≤1099511627776) (hb:sz 1000000000 b≤1099511627776) :
  Calls Tryz.prog 145 #[x,y] w fun e w'=>∃ v,e= .returned v∧Below w.heap.size w w'∧aQ w' v (a*b):=aF9
theorem _root_.Go.aF8 {G:Prop} (h:G:=by
 obtain ⟨i0,hi,hz0,hz1,hz2⟩:=info_parts Bb;go_enter aI0,aH9
 go_wp2_with (at_make;refine wpList_make_full _ rfl _ _ Lv rfl w.heap.size 61 i0 (.int .u32 0) 1 OT hi hz0 hz1 _ _ _ _ l.length rfl rfl zo zo (by rw [hz2];omega) (by unfold maxLen;omega) (Nat.le_refl _) ?_)
 intro w0 hown0 jA;rw [qW] at hown0
 go_wp2
 go_loopw [7,8] (fun rv iv wr=>∃ (q:Int) (r:Nat) (s:List Nat), -1≤q∧q<l.length∧r<d∧iv= .int .i64 q∧rv= .int .u64 r∧Hid (s.length=l.length - (q+1).toNat) ∧
   wr.ownsRow w.heap.size 61 1 (.slice (some ⟨w.heap.size,0,none⟩) l.length l.length) l.length (bZ (List.replicate (q+1).toNat 0++s))∧dS 1000000000 s∧Hid (val 1000000000 (l.drop (q+1).toNat)=d*val 1000000000 s+r)∧Below w.heap.size w wr)
  (fun _ iv _=>(intOf iv+1).toNat)
 case atStart =>
  have e:((l.length:Int) - 1+1).toNat=l.length:=by omega
  exact ⟨(l.length:Int) - 1,0,[],by omega,by omega,hd0,rfl,rfl,zh (by rw [e];simp),by rw [e,List.append_nil];exact hown0,dS.nil,zh (by rw [e,List.drop_length];simp [val]),(Below.refl _ _).grown jA (Nat.le_refl _) (fun k h=>by cases h)⟩
 case round =>
  obtain ⟨q,r,s,hq1,hq2,hrd,rfl,rfl,HS,hown,hds,HV,hb⟩:=hrel
  by_cases hq:q<0
  ·have hq0:q= -1:=by omega
   subst hq0;have HF:Hid (val 1000000000 l=d*val 1000000000 s+r):=zh (by have:=HV.out;simpa using this);have hown3:lK wr (.slice (some ⟨w.heap.size,0,none⟩) l.length l.length) s:=by have:=lK.fI hown;simpa using this
   have e1:Hid (val 1000000000 l / d=val 1000000000 s):=by unfold Hid;rw [HF.out,Nat.mul_add_div hd0,Nat.div_eq_of_lt hrd,Nat.add_zero]
   have e2:Hid (val 1000000000 l%d=r):=by unfold Hid;rw [HF.out,Nat.mul_add_mod,Nat.mod_eq_of_lt hrd]
   clear hown HV HF HS hc;go_wp2_with ((first|go_at_call 227|go_at_call 327);refine (pQ _ _ _ hown3 hds).mono ?_;rintro e w' ⟨v,rfl,rfl,hv⟩)
   go_ret2
   exact ⟨v,by rw [e2.out];rfl,hb,by rw [e1.out];exact hv⟩
  ·obtain ⟨j,rfl⟩:=Int.eq_ofNat_of_zero_le (by omega:0≤q);have ej:((j:Int)+1).toNat=j+1:=by omega
   have hjl:j<l.length:=by omega
   rw [ej] at HS HV hown;obtain ⟨b,off,rfl,hbb,hx0⟩:=hc j hjl;have hx:wr.cell? ⟨b,off+j,none⟩=some (.int .u32 (l.getD j 0:Nat)):=(hb.cell (by exact hbb)).trans hx0;have hdl:l.getD j 0<1000000000:=hl.getD zo j;have hlen:(List.replicate (j+1) 0++s).length=l.length:=by rw [List.length_append,List.length_replicate,HS.out];omega
   have hr1:wr.cell? ⟨w.heap.size,j,none⟩=some (.int .u32 0):=by
    rw [hown.cellAt j zo,mP (by rw [hlen];exact hjl),vS zo];rfl
   have hr2:wr.frozen? ⟨w.heap.size,j,none⟩=false:=hown.frozenAt j;have HP:=zh (CY hjl HV.out);have hdg:=AO hrd hdl;have hmd:=Nat.mod_lt (r*1000000000+l.getD j 0) hd0
   have HO:Hid (∀ d:Nat,(wr.setCell ⟨w.heap.size,j,none⟩ (.int .u32 (d:Int))).ownsRow w.heap.size 61 1 (.slice (some ⟨w.heap.size,0,none⟩) l.length l.length) l.length (bZ (List.replicate j 0++d::s))∧Below w.heap.size w (wr.setCell ⟨w.heap.size,j,none⟩ (.int .u32 (d:Int)))):=fun d=>by
    have h1:=(hown.stored j (.int .u32 (d:Int))).1;rw [jP,yA] at h1;exact ⟨h1,hb.setCell (Nat.le_refl _) _⟩
   clear hx0 hc hown hlen;generalize l.getD j 0=x at *;have hqi:(((r*1000000000+x) / d:Nat):Int)=((r:Int)*1000000000+(x:Int)) / (d:Int):=by rw [Int.natCast_ediv,Int.natCast_add,Int.natCast_mul];rfl
   have ZG:(((r*1000000000+x)%d:Nat):Int)=((r:Int)*1000000000+(x:Int))%(d:Int):=by rw [Int.natCast_emod,Int.natCast_add,Int.natCast_mul];rfl
   generalize (r*1000000000+x) / d=Q at *;generalize (r*1000000000+x)%d=M at *;have g1:0≤((r:Int)*1000000000+(x:Int)) / (d:Int):=by rw [← hqi];omega
   have g2:((r:Int)*1000000000+(x:Int)) / (d:Int)≤999999999:=by rw [← hqi];omega
   have g3:0≤((r:Int)*1000000000+(x:Int))%(d:Int):=by rw [← ZG];omega
   have g4:((r:Int)*1000000000+(x:Int))%(d:Int)≤999999999:=by rw [← ZG];omega
   have pE:=HO.out Q;rw [hqi] at pE;have pK:=zh pE;have HM:=zh ZG;have HG:=zh hdg;have HM2:=zh hmd;clear pE HO hqi ZG hdg hmd
   go_wp2
   go_roundw
   case rel=>exact ⟨(j:Int) - 1,M,Q::s,by omega,by omega,HM2.out,rfl,by rw [HM.out],zh (by rw [List.length_cons,HS.out];omega),by rw [show ((j:Int) - 1+1).toNat=j by omega];exact pK.out.1,hds.cons HG.out,zh (by rw [show ((j:Int) - 1+1).toNat=j by omega];exact HP.out),pK.out.2⟩
   case measure=>simp [intOf]):G:=h
theorem xg (pl:Option Addr) (cl:Nat) (l:List Nat) (d:Nat) (w:World) (hl:dS 1000000000 l) (hb1:l.length≤1099511627776) (hd0:0<d) (hd1:d≤1000000000)
   (hc:∀ k,k<l.length→∃ b off,pl=some ⟨b,off,none⟩∧b<w.heap.size∧w.cell? ⟨b,off+k,none⟩=some (.int .u32 (l.getD k 0:Nat))) :
    Calls Tryz.prog 225 #[.slice pl l.length cl,.int .u32 d] w fun e w'=>∃ v,e= .returned (.tuple #[v,.int .u32 (val 1000000000 l%d:Nat)])∧Below w.heap.size w w'∧aQ w' v (val 1000000000 l / d):=aF8
theorem yu (x:Value) (a d:Nat) (w:World) (hx:aQ w x a) (ha:sz 1000000000 a≤1099511627776) (hd0:0<d) (hd1:d≤1000000000) :
  Calls Tryz.prog 225 #[x,.int .u32 d] w fun e w'=>∃ v,e= .returned (.tuple #[v,.int .u32 (a%d:Nat)])∧Below w.heap.size w w'∧aQ w' v (a / d):=by
 obtain ⟨pa,ca,rfl,h1,h2,h3⟩:=lK.read hx.Ci;have:=xg pa ca _ d w (aT zo a) ha hd0 hd1 h3
 rwa [aP zo] at this
theorem _root_.Go.aF7 {G:Prop} (h:G:=by
 have HV0:=zh hv;clear hv;go_enter aH8,aH7
 go_wp2
 go_loop [3,4] (fun rv iv=>∃ (q:Int) (r:Nat), -1≤q∧q<l.length∧iv= .int .i64 q∧rv= .int .u64 r∧Hid (r=val 1000000000 (l.drop (q+1).toNat)))
  (fun _ iv=>(intOf iv+1).toNat)
 case atStart =>
  have e:((l.length:Int) - 1+1).toNat=l.length:=by omega
  exact ⟨(l.length:Int) - 1,0,by omega,by omega,rfl,rfl,zh (by rw [e,List.drop_length];rfl)⟩
 case round =>
  obtain ⟨q,r,hq1,hq2,rfl,rfl,HV⟩:=hrel
  by_cases hq:q<0
  ·have hq0:q= -1:=by omega
   subst hq0
   go_wp2
   go_ret
   exact ⟨by have:=HV.out;rw [show ((-1:Int)+1).toNat=0 by omega,List.drop_zero] at this;rw [← this];rfl,rfl⟩
  ·obtain ⟨j,rfl⟩:=Int.eq_ofNat_of_zero_le (by omega:0≤q);have ej:((j:Int)+1).toNat=j+1:=by omega
   have hjl:j<l.length:=by omega
   rw [ej] at HV;obtain ⟨b,off,rfl,hbb,hx⟩:=hc j hjl;have HS:=zh (rM (B:=1000000000) hjl)
   have hbd:r*1000000000+l.getD j 0≤18446744073709551615:=by
    have h1:=HS.out;have h2:=uf 1000000000 zo l j;have h3:=HV0.out;have h4:=HV.out;rw [← h4] at h1;omega
   clear hc;generalize l.getD j 0=x at *
   go_wp2
   go_round
   case rel=>exact ⟨(j:Int) - 1,r*1000000000+x,by omega,by omega,rfl,by go_num,zh (by rw [show ((j:Int) - 1+1).toNat=j by omega,HS.out,← HV.out])⟩
   case measure=>simp [intOf]):G:=h
theorem wZ (pl:Option Addr) (cl:Nat) (l:List Nat) (w:World) (hm:l.length≤9223372036854775807) (hv:val 1000000000 l≤18446744073709551615)
   (hc:∀ k,k<l.length→∃ b off,pl=some ⟨b,off,none⟩∧b<w.heap.size∧w.cell? ⟨b,off+k,none⟩=some (.int .u32 (l.getD k 0:Nat))) :
    Calls Tryz.prog 224 #[.slice pl l.length cl] w fun e w'=>e= .returned (.int .u64 (val 1000000000 l:Nat))∧w=w':=aF7
theorem CX (x:Value) (a:Nat) (w:World) (hx:aQ w x a) (ha:a≤18446744073709551615) :
  Calls Tryz.prog 224 #[x] w fun e w'=>e= .returned (.int .u64 (a:Nat))∧w=w':=by
 obtain ⟨pa,ca,rfl,h1,h2,h3⟩:=lK.read hx.Ci;have:=wZ pa ca _ w zo (by rw [aP zo];exact ha) h3
 rwa [aP zo] at this
theorem _root_.Go.aF6 {G:Prop} (h:G:=by
 obtain ⟨i0,hi,hz0,hz1,hz2⟩:=info_parts Bb;go_enter aH6,aH5
 go_wp2
 go_loopw [0,3] (fun av mv wr=>∃ (b:Nat) (s:List Nat),b≤18446744073709551615∧s.length≤3∧av= .int .u64 b∧wr.ownsRow w.heap.size 61 1 mv s.length (bZ s)∧Hid (s++bW 1000000000 b=bW 1000000000 a)∧Below w.heap.size w wr)
  (fun av _ _=>(intOf av).toNat)
 case atStart=>exact ⟨a,[],ha,by simp,rfl,World.ownsRow_nil _ _ _ _,zh rfl,Below.refl _ _⟩
 case round =>
  obtain ⟨b,s,hb1,hb2,rfl,hown,HD,hb⟩:=hrel
  rcases Nat.eq_zero_or_pos b with h0|h0
  ·subst h0
   go_wp2
   go_ret
   refine ⟨_,rfl,hb,?_⟩;have e:=HD.out;rw [fM,List.append_nil] at e;subst e;exact Row.fI hown
  ·have HN:Hid ((s++[b%1000000000])++bW 1000000000 (b / 1000000000)=bW 1000000000 a):=by
    unfold Hid;rw [← HD.out,jF zo h0,List.append_assoc];rfl
   have hdv:b / 1000000000<b:=Nat.div_lt_self h0 zo
   have hl3:s.length+1≤3:=by
    have h1:=congrArg List.length HN.out;have h2:=aR (B:=1000000000) zo 3 a zo;unfold sz at h2;simp only [List.length_append,List.length_cons,List.length_nil] at h1;omega
   go_wp2_with (at_builtin;refine wpList_append_own _ rfl (.tmp 8) (.tmp 12) Lv rfl w.heap.size 61 i0 (.int .u32 0) 1 4 OT hi hz0 hz1 hz2 rfl zd _ _ _ rfl (hown.alloc _) ⟨wr.heap.size,0,none⟩ 1 1 [.int .u32 ((b:Int)%1000000000)] rfl rfl (by intro t u ht;match t,ht with|0,ht=>simp at ht;subst ht;simp [Addr.add]) (by intro u hu;simp at hu;subst hu;rfl) (by unfold maxLen;omega) zo (by have:=hb.size;simp;omega) ?_)
   intro v' w1 hown1 hgrow1 _
   have hown2:w1.ownsRow w.heap.size 61 1 v' (s++[b%1000000000]).length (bZ (s++[b%1000000000])):=by
    have e:bZ (s++[b%1000000000])=bZ s++[.int .u32 ((b:Int)%1000000000)]:=by unfold bZ;simp only [List.map_append,List.map_cons,List.map_nil];rfl
    rw [e,List.length_append];exact hown1
   have hb3:Below w.heap.size w w1:=(hb.alloc hb.size _).grown hgrow1 (by simp;have:=hb.size;omega) (fun k hk=>(hown.lt k hk).1);clear hown hown1 hgrow1
   go_wp2
   go_roundw
   case rel=>exact ⟨b / 1000000000,s++[b%1000000000],by omega,by rw [List.length_append];exact hl3,by go_num,hown2,HN,hb3⟩
   case measure=>simp [intOf];omega):G:=h
theorem kW (a:Nat) (w:World) (ha:a≤18446744073709551615) :
  Calls Tryz.prog 190 #[.int .u64 a] w fun e w'=>∃ v,e= .returned v∧Below w.heap.size w w'∧aQ w' v a:=aF6
def zD (w:World) (g k:Nat) (pre u post v:List Nat) (e:Ending) (w':World):Prop :=
 e= .returned (.int .u32 (val 1000000000 u / val 1000000000 v:Nat))∧w.grownBy w' (some g) ∧
   ∃ s,ah w' g (bZ (pre++(s++[0])++post)).toArray 61∧s.length=k+2∧dS 1000000000 s∧val 1000000000 s=val 1000000000 u%val 1000000000 v
theorem _root_.Go.aF5 {G:Prop} (h:G:=by
 obtain ⟨bv,ov,rfl,hbg,hbv,_⟩:=hd 0 zo
 have hvc:∀ (w':World),w.grownBy w' (some g)→∀ i,i<k+2→w'.cell? ⟨bv,ov+i,none⟩=some (.int .u32 (v.getD i 0:Nat)):=fun w' hg i hi=>by
  obtain ⟨b,off,h1,h2,h3,h4⟩:=hd i hi;simp only [Option.some.injEq,Addr.mk.injEq,and_true] at h1;obtain ⟨rfl,rfl⟩:=h1;exact hg.cell h4 (by simpa using h2)
 have huc:∀ (w':World) (x:List Nat),x.length=k+3→ah w' g (bZ (pre++x++post)).toArray 61→∀ i,i<k+3→w'.cell? ⟨g,j+i,none⟩=some (.int .u32 (x.getD i 0:Nat)):=fun w' x hx hb i hi=>by
  rw [hb.cell,List.getElem?_toArray,mP (by simp;omega)];rw [List.getD_eq_getElem?_getD,List.append_assoc,List.getElem?_append_right zo,hj,Nat.add_sub_cancel_left,List.getElem?_append_left zo];rfl
 have HVC:=zh hvc;have HUC:=zh huc;have aq0:=zh az2;have HLT:=zh hlt;have HU:=zh hu;have HVl:=zh hv;have HJ:=zh hj;clear hvc huc hd az2 hlt hu hv hj;have h1:=HVC.out w ⟨rfl,rfl,rfl,Nat.le_refl _,fun _ _ _=>rfl⟩ (k+1) zo;have h2:=HVC.out w ⟨rfl,rfl,rfl,Nat.le_refl _,fun _ _ _=>rfl⟩ k zo;have h3:=HUC.out w u HU.out aq0.out (k+2) zo;have h4:=HUC.out w u HU.out aq0.out (k+1) zo;have h5:=HUC.out w u HU.out aq0.out k zo;have b1:=dv.getD zo (k+1);have b2:=dv.getD zo k;have b3:=du.getD zo (k+2);have b4:=du.getD zo (k+1);have b5:=du.getD zo k;have HG0:=zh (Nz zo HU.out HVl.out du ht HLT.out dv);have HGS:=zh (fun q r=>QM (k:=k) (q:=q) (r:=r) (by omega:1<1000000000) HU.out HVl.out du zo HLT.out);have HGE:=zh (fun q r=>WM (k:=k) (q:=q) (r:=r) (by omega:1<1000000000) HU.out HVl.out dv zo);have aZ9:=zh ht;clear ht;generalize hT:v.getD (k+1) 0=top at *
 generalize hV2:v.getD k 0=v2 at *;generalize hUN:u.getD (k+2) 0=un at *;generalize hU1:u.getD (k+1) 0=u1 at *;generalize hU2:u.getD k 0=u2 at *;have HT:=zh hT;have Cn:=zh hV2;have HUN:=zh hUN;have HU1:=zh hU1;have HU2:=zh hU2;clear hT hV2 hUN hU1 hU2;have htop:500000000≤top:=by have:=aZ9.out;omega
 go_enter aH4,aH3
 go_wp2_with fail
 go_quiet (fail)
 obtain ⟨nq0,rfl⟩:∃ m,m=nq:=⟨nq,rfl⟩;go_wp2_with fail
 go_quiet (fail)
 have hw1:w.grownBy ((w.drewN nq0).drewN nq) (some g):=jY (jY (Ww w _) _) _;have az1:Hid (ah ((w.drewN nq0).drewN nq) g (bZ (pre++u++post)).toArray 61):=aq0.out;obtain ⟨W,hW⟩:∃ W,W=(w.drewN nq0).drewN nq:=⟨_,rfl⟩;rw [← hW] at hw1 az1 ⊢;clear hW h1 h2 h3 h4 h5;have hqd:(((un*1000000000+u1) / top:Nat):Int)=((un:Int)*1000000000+(u1:Int)) / (top:Int):=by rw [Int.natCast_ediv,Int.natCast_add,Int.natCast_mul];rfl
 have hrd:(((un*1000000000+u1)%top:Nat):Int)=((un:Int)*1000000000+(u1:Int))%(top:Int):=by rw [Int.natCast_emod,Int.natCast_add,Int.natCast_mul];rfl
 rw [← hqd,← hrd];clear hqd hrd;have hr0:(un*1000000000+u1)%top<1000000000:=Nat.lt_trans (Nat.mod_lt _ zo) b1;generalize (un*1000000000+u1) / top=q0 at *;generalize (un*1000000000+u1)%top=r0 at *
 go_upto_block 0 with fail
 go_cut [8,9] from 19 (fun q r wc=>∃ qn:Nat,q= .int .u64 qn∧qn≤1000000000∧Hid (val 1000000000 u / val 1000000000 v≤qn)∧Hid (qn≤val 1000000000 u / val 1000000000 v+1)∧w.grownBy wc (some g)∧Hid (ah wc g (bZ (pre++u++post)).toArray 61))
 case first =>
  go_wp2_with fail
  go_loopw [8,9] (fun q r wr=>∃ qn rn:Nat,q= .int .u64 qn∧r= .int .u64 rn∧rn<1000000000∧Hid (OH 1000000000 (val 1000000000 u) (val 1000000000 v) top (un*1000000000+u1) qn rn)∧w.grownBy wr (some g)∧Hid (ah wr g (bZ (pre++u++post)).toArray 61))
   (fun q _ _=>(intOf q).toNat)
  case atStart=>exact ⟨q0,r0,rfl,rfl,hr0,HG0,hw1,az1⟩
  case round =>
   obtain ⟨qn,rn,rfl,rfl,hrb,HG,hnr,HB⟩:=hrel;have h2:=HVC.out wr hnr k zo;have h5:=HUC.out wr u HU.out HB.out k zo;rw [Cn.out] at h2;rw [HU2.out] at h5;have hqb:qn≤1000000001:=HG.out.bound
   have hpr:Hid (0≤(qn:Int)*(v2:Int)∧(qn:Int)*(v2:Int)≤1000000001*999999999):=by
    have h:qn*v2≤1000000001*999999999:=Nat.mul_le_mul hqb zo;unfold Hid;rw [← Int.natCast_mul];omega
   obtain ⟨hp1,hp2⟩:=hpr
   by_cases hc:1000000000≤qn
   ·have HS:=zh (HGS.out qn rn HG.out (.inl hc));have hge:decide ((1000000000:Int)≤(qn:Int))=true:=by rw [decide_eq_true_iff];omega
    have HC:=zh hc;have hq1:1≤qn:=by omega
    clear hc
    by_cases hr:1000000000≤rn+top
    ·have hrd:decide ((1000000000:Int)≤(rn:Int)+(top:Int))=true:=by rw [decide_eq_true_iff];omega
     have HR:=zh hr;clear hr;go_wp2_with fail
     go_quiet (fail)
     go_wp2_with fail
     go_meet
     have g2:=HS.out.2;have hq2:qn - 1≤1000000000:=by omega
     have h3:(qn - 1)*v2≤(rn+top)*1000000000+u2:=by
      have h4:(qn - 1)*v2≤1000000000*1000000000:=Nat.mul_le_mul hq2 zo;have h5:=HR.out;omega
     exact ⟨qn - 1,by go_num,hq2,zh g2.high,zh (HGE.out _ _ g2 hq2 h3),jY hnr _,HB⟩
    ·have hrd:decide ((1000000000:Int)≤(rn:Int)+(top:Int))=false:=by rw [decide_eq_false_iff_not];omega
     have HR:=zh hr;clear hr;go_wp2_with fail
     go_quiet (fail)
     go_wp2_with fail
     go_roundw
     case rel=>exact ⟨qn - 1,rn+top,by go_num,by go_num,Nat.lt_of_not_le HR.out,zh HS.out.2,jY hnr _,HB⟩
     case measure=>exact zM
   ·have hge:decide ((1000000000:Int)≤(qn:Int))=false:=by rw [decide_eq_false_iff_not];omega
    have HC:=zh hc;have hq2:qn≤999999999:=by omega
    clear hc
    by_cases ht:rn*1000000000+u2<qn*v2
    ·have HS:=zh (HGS.out qn rn HG.out (.inr ht));have hq1:1≤qn:=HS.out.1;have hlt:(rn:Int)*1000000000+(u2:Int)<(qn:Int)*(v2:Int):=by rw [← Int.natCast_mul];omega
     clear ht
     by_cases hr:1000000000≤rn+top
     ·have hrd:decide ((1000000000:Int)≤(rn:Int)+(top:Int))=true:=by rw [decide_eq_true_iff];omega
      have HR:=zh hr;clear hr;go_wp2_with fail
      go_quiet (fail)
      go_wp2_with fail
      go_meet
      have g2:=HS.out.2;have hq2:qn - 1≤1000000000:=by omega
      have h3:(qn - 1)*v2≤(rn+top)*1000000000+u2:=by
       have h4:(qn - 1)*v2≤1000000000*1000000000:=Nat.mul_le_mul hq2 zo;have h5:=HR.out;omega
      exact ⟨qn - 1,by go_num,hq2,zh g2.high,zh (HGE.out _ _ g2 hq2 h3),jY hnr _,HB⟩
     ·have hrd:decide ((1000000000:Int)≤(rn:Int)+(top:Int))=false:=by rw [decide_eq_false_iff_not];omega
      have HR:=zh hr;clear hr;go_wp2_with fail
      go_quiet (fail)
      go_wp2_with fail
      go_roundw
      case rel=>exact ⟨qn - 1,rn+top,by go_num,by go_num,Nat.lt_of_not_le HR.out,zh HS.out.2,jY hnr _,HB⟩
      case measure=>exact zM
    ·have hlt:¬ (rn:Int)*1000000000+(u2:Int)<(qn:Int)*(v2:Int):=by rw [← Int.natCast_mul];omega
     have HN:=zh (HGE.out _ _ HG.out zo (Nat.le_of_not_lt ht));clear ht;go_wp2_with fail
     go_quiet (fail)
     go_wp2_with fail
     go_meet
     exact ⟨qn,rfl,by omega,zh HG.out.high,HN,jY hnr _,HB⟩
 case rest =>
  obtain ⟨qn,rfl,hqb,XI,HQ2,hnc,HBc⟩:=hcut;clear hw1 az1 hr0 HG0 HGS HGE;go_wp2_with fail
  go_loopw [10,11,12,13,14,77] (fun cv bv' _ _ _ iv wr=>∃ (i c b:Nat) (s:List Nat),i≤k+2∧c≤1000000000∧b≤1∧iv= .int .i64 i∧cv= .int .u64 c∧bv'= .int .i64 b∧Hid (s.length=i)∧dS 1000000000 s ∧
    Hid (ah wr g (bZ (pre++(s++u.drop i)++post)).toArray 61)∧w.grownBy wr (some g)∧Hid (val 1000000000 s+qn*val 1000000000 (v.take i)=val 1000000000 (u.take i)+(b+c)*1000000000^i))
   (fun _ _ _ _ _ iv _=>k+2 - (intOf iv).toNat)
  case atStart=>exact ⟨0,0,0,[],Nat.zero_le _,by omega,by omega,rfl,rfl,rfl,rfl,dS.nil,HBc,hnc,zh (by simp [val])⟩
  case round =>
   obtain ⟨i,c,b,s,hi,hcb,hbb,rfl,rfl,rfl,HS,hds,HB,hnr,HV⟩:=hrel
   by_cases hlt:i<k+2
   ·have hc1:=HVC.out wr hnr i hlt;have hc2:=HUC.out wr (s++u.drop i) (by rw [List.length_append,List.length_drop,HU.out,HS.out];omega) HB.out i zo;rw [getD_in HS.out (Nat.le_refl _)] at hc2;have hc3:wr.frozen? ⟨g,j+i,none⟩=false:=ah.free HB.out _;have dvi:=dv.getD zo i;have dui:=du.getD zo i
    have HST:Hid (∀ d b',d+b+(c+qn*v.getD i 0)%1000000000=u.getD i 0+b'*1000000000→val 1000000000 (s++[d])+qn*val 1000000000 (v.take (i+1))=val 1000000000 (u.take (i+1))+(b'+(c+qn*v.getD i 0) / 1000000000)*1000000000^(i+1)) :=
     fun d b' h=>Yu (by rw [HU.out];omega) (by rw [HVl.out];omega) HS.out HV.out h rfl
    have HO:Hid (∀ d:Nat,ah (wr.setCell ⟨g,j+i,none⟩ (.int .u32 (d:Int))) g (bZ (pre++((s++[d])++u.drop (i+1))++post)).toArray 61∧w.grownBy (wr.setCell ⟨g,j+i,none⟩ (.int .u32 (d:Int))) (some g)):=fun d=>by
     have h1:=ah.set HB.out (j+i) (.int .u32 (d:Int));rw [List.setIfInBounds_toArray,jP,JI HJ.out HS.out (by rw [HU.out];omega)] at h1;exact ⟨h1,yH hnr _ _⟩
    generalize v.getD i 0=y at *;generalize u.getD i 0=x at *;have hpn:qn*y≤1000000000*999999999:=Nat.mul_le_mul hqb zo;have hp1:0≤(qn:Int)*(y:Int):=by rw [← Int.natCast_mul];omega
    have hp2:(qn:Int)*(y:Int)≤999999999000000000:=by rw [← Int.natCast_mul];omega
    have hM:(((c+qn*y)%1000000000:Nat):Int)=((c:Int)+(qn:Int)*(y:Int))%1000000000:=by rw [Int.natCast_emod,Int.natCast_add,Int.natCast_mul];rfl
    have hC:(((c+qn*y) / 1000000000:Nat):Int)=((c:Int)+(qn:Int)*(y:Int)) / 1000000000:=by rw [Int.natCast_ediv,Int.natCast_add,Int.natCast_mul];rfl
    have hCb:(c+qn*y) / 1000000000≤1000000000:=by omega
    have hMb:(c+qn*y)%1000000000<1000000000:=Nat.mod_lt _ zo;generalize (c+qn*y) / 1000000000=C at *;generalize (c+qn*y)%1000000000=M at *;have HC2:=zh hC;have HM2:=zh hM;have gM1:0≤((c:Int)+(qn:Int)*(y:Int))%1000000000:=by rw [← hM];omega
    have gM2:((c:Int)+(qn:Int)*(y:Int))%1000000000≤999999999:=by rw [← hM];omega
    clear HV HB hpn
    by_cases hneg:x<b+M
    ·have hng:(x:Int) - (b:Int) - ((c:Int)+(qn:Int)*(y:Int))%1000000000<0:=by rw [← hM];omega
     have pE:=HO.out (x+1000000000 - (b+M));rw [show ((x+1000000000 - (b+M):Nat):Int)=(x:Int) - (b:Int) - ((c:Int)+(qn:Int)*(y:Int))%1000000000+1000000000 by rw [← hM];omega] at pE;have pK:=zh pE;have HN:=zh hneg;clear HO pE hM hC hneg;go_wp2_with fail
     go_roundw
     case rel=>exact ⟨i+1,C,1,s++[x+1000000000 - (b+M)],by omega,hCb,by omega,by go_num,by rw [HC2.out],rfl,zh (by rw [List.length_append,HS.out];rfl),hds.snoc (by have:=HN.out;omega),zh pK.out.1,pK.out.2,zh (HST.out _ _ (by have:=HN.out;omega))⟩
     case measure=>exact zM
    ·have hng:¬ (x:Int) - (b:Int) - ((c:Int)+(qn:Int)*(y:Int))%1000000000<0:=by rw [← hM];omega
     have pE:=HO.out (x - (b+M));rw [show ((x - (b+M):Nat):Int)=(x:Int) - (b:Int) - ((c:Int)+(qn:Int)*(y:Int))%1000000000 by rw [← hM];omega] at pE;have pK:=zh pE;have HN:=zh hneg;clear HO pE hM hC hneg;go_wp2_with fail
     go_roundw
     case rel=>exact ⟨i+1,C,0,s++[x - (b+M)],by omega,hCb,by omega,by go_num,by rw [HC2.out],rfl,zh (by rw [List.length_append,HS.out];rfl),hds.snoc (by have:=HN.out;omega),zh pK.out.1,pK.out.2,zh (HST.out _ _ (by have:=HN.out;omega))⟩
     case measure=>exact zM
   ·have hik:i=k+2:=by omega
    subst hik
    have as0:0<val 1000000000 v:=by
     rw [oH HVl.out];have h1:0<1000000000^k:=Nat.pow_pos zo;have h2:0<1000000000^k*(v.getD k 0+1000000000*v.getD (k+1) 0):=Nat.mul_pos h1 (by rw [HT.out];omega);omega
    have aP5:Hid (val 1000000000 s+qn*val 1000000000 v=val 1000000000 (u.take (k+2))+(b+c)*1000000000^(k+2)):=by
     have:=HV.out;rwa [List.take_of_length_le (by rw [HVl.out];omega)] at this
    have HUs:Hid (val 1000000000 u=val 1000000000 (u.take (k+2))+1000000000^(k+2)*un):=by
     have:=bg 1000000000 (l:=u) (k:=k+2) (by rw [HU.out];omega);rw [show k+2+1=u.length by rw [HU.out],List.take_length] at this;rw [HUN.out] at this;exact this
    have hu1:=HUC.out wr (s++u.drop (k+2)) (by rw [List.length_append,List.length_drop,HU.out,HS.out];omega) HB.out (k+2) zo;rw [getD_in HS.out (Nat.le_refl _),HUN.out] at hu1;clear HV
    by_cases hov:un<b+c
    ·have HE:=zh (Yv (by omega:1<1000000000) HS.out hds HVl.out dv as0 aP5.out HUs.out hov HQ2.out);have aL0:(un:Int) - (b:Int)<(c:Int):=by omega
     have hq1:1≤qn:=by rw [HE.out.1];exact Nat.le_add_left _ _
     go_wp2_with fail
     clear hu1 hov aL0
     go_loopw [15,16,17,18,125] (fun ov' _ _ _ iv wr=>∃ (i o:Nat) (t:List Nat),i≤k+2∧o≤1∧iv= .int .i64 i∧ov'= .int .u32 o∧Hid (t.length=i)∧dS 1000000000 t ∧
       Hid (ah wr g (bZ (pre++(t++(s++u.drop (k+2)).drop i)++post)).toArray 61)∧w.grownBy wr (some g)∧Hid (val 1000000000 t+o*1000000000^i=val 1000000000 (s.take i)+val 1000000000 (v.take i)))
      (fun _ _ _ _ iv _=>k+2 - (intOf iv).toNat)
     case atStart=>exact ⟨0,0,[],Nat.zero_le _,by omega,rfl,rfl,rfl,dS.nil,HB,hnr,zh (by simp [val])⟩
     case round =>
      clear HB hnr;obtain ⟨i,o,t,hi,hob,rfl,rfl,HTl,hdt,HB,hnr,HV⟩:=hrel;have hxl:(s++u.drop (k+2)).length=k+3:=by rw [List.length_append,List.length_drop,HU.out,HS.out];omega
      by_cases hlt:i<k+2
      ·have hc1:=HVC.out wr hnr i hlt;have hc2:=HUC.out wr (t++(s++u.drop (k+2)).drop i) (by rw [List.length_append,List.length_drop,hxl,HTl.out];omega) HB.out i zo;rw [getD_in HTl.out (Nat.le_refl _)] at hc2;have hsi:(s++u.drop (k+2)).getD i 0=s.getD i 0:=by rw [List.getD_eq_getElem?_getD,List.getElem?_append_left (by rw [HS.out];exact hlt),← List.getD_eq_getElem?_getD]
       rw [hsi] at hc2;have hc3:wr.frozen? ⟨g,j+i,none⟩=false:=ah.free HB.out _;have dvi:=dv.getD zo i;have dui:=hds.getD zo i
       have HST:Hid (∀ d o',d+o'*1000000000=s.getD i 0+o+v.getD i 0→val 1000000000 (t++[d])+o'*1000000000^(i+1)=val 1000000000 (s.take (i+1))+val 1000000000 (v.take (i+1))) :=
        fun d o' h=>Aa (by rw [HS.out];exact hlt) HTl.out HV.out h
       have HO:Hid (∀ d:Nat,ah (wr.setCell ⟨g,j+i,none⟩ (.int .u32 (d:Int))) g (bZ (pre++((t++[d])++(s++u.drop (k+2)).drop (i+1))++post)).toArray 61∧w.grownBy (wr.setCell ⟨g,j+i,none⟩ (.int .u32 (d:Int))) (some g)):=fun d=>by
        have h1:=ah.set HB.out (j+i) (.int .u32 (d:Int));rw [List.setIfInBounds_toArray,jP,JI HJ.out HTl.out (by rw [hxl];omega)] at h1;exact ⟨h1,yH hnr _ _⟩
       clear hsi hxl HB HV;generalize v.getD i 0=y at *;generalize s.getD i 0=x at *
       by_cases hge:x+y+o<1000000000
       ·have hge':decide ((1000000000:Int)≤(x:Int)+(y:Int)+(o:Int))=false:=by rw [decide_eq_false_iff_not];omega
        have pE:=HO.out (x+y+o);rw [show ((x+y+o:Nat):Int)=(x:Int)+(y:Int)+(o:Int) by omega] at pE;have pK:=zh pE;have HN:=zh hge;clear HO pE hge;go_wp2_with fail
        go_roundw
        case rel=>exact ⟨i+1,0,t++[x+y+o],by omega,by omega,by go_num,rfl,zh (by rw [List.length_append,HTl.out];rfl),hdt.snoc HN.out,zh pK.out.1,pK.out.2,zh (HST.out _ _ zo)⟩
        case measure=>exact zM
       ·have hge':decide ((1000000000:Int)≤(x:Int)+(y:Int)+(o:Int))=true:=by rw [decide_eq_true_iff];omega
        have aL8:(0:Int)≤(x:Int)+(y:Int)+(o:Int) - 1000000000:=by omega
        have pE:=HO.out (x+y+o - 1000000000);rw [show ((x+y+o - 1000000000:Nat):Int)=(x:Int)+(y:Int)+(o:Int) - 1000000000 by omega] at pE;have pK:=zh pE;have HN:=zh hge;clear HO pE hge;go_wp2_with fail
        go_roundw
        case rel=>exact ⟨i+1,1,t++[x+y+o - 1000000000],by omega,by omega,by go_num,rfl,zh (by rw [List.length_append,HTl.out];rfl),hdt.snoc zo,zh pK.out.1,pK.out.2,zh (HST.out _ _ (by have:=HN.out;omega))⟩
        case measure=>exact zM
      ·have hik:i=k+2:=by omega
       subst hik
       have HR:Hid (val 1000000000 t=val 1000000000 u%val 1000000000 v):=by
        have h1:=HV.out;rw [List.take_of_length_le (by rw [HS.out];exact Nat.le_refl _),List.take_of_length_le (by rw [HVl.out];exact Nat.le_refl _),HE.out.2] at h1;have h2:=gJ (by omega:0<1000000000) hdt;rw [HTl.out] at h2;have h3:o=0∨o=1:=by omega
        unfold Hid
        rcases h3 with rfl|rfl<;>omega
       have HB:Hid (ah wr g (bZ (pre++(t++u.drop (k+2))++post)).toArray 61):=by
        have h1:=HB.out;rw [List.drop_append_of_le_length (by rw [HS.out];exact Nat.le_refl _),List.drop_of_length_le (by rw [HS.out];exact Nat.le_refl _),List.nil_append] at h1;exact h1
       have hbf:ah wr g (bZ (pre++(t++u.drop (k+2))++post)).toArray 61:=HB.out;have hn1:=HUC.out wr (t++u.drop (k+2)) (by rw [List.length_append,List.length_drop,HU.out,HTl.out];omega) HB.out (k+2) zo;have hn2:wr.frozen? ⟨g,j+(k+2),none⟩=false:=hbf.free _
       have ae7:Hid (ah (wr.setCell ⟨g,j+(k+2),none⟩ (.int .u32 0)) g (bZ (pre++(t++[0])++post)).toArray 61∧w.grownBy (wr.setCell ⟨g,j+(k+2),none⟩ (.int .u32 0)) (some g)):=by
        have h1:=hbf.set (j+(k+2)) (.int .u32 ((0:Nat):Int));rw [List.setIfInBounds_toArray,jP,JI HJ.out HTl.out (by rw [HU.out];omega),List.drop_eq_nil_of_le (by rw [HU.out];omega),List.append_nil] at h1;exact ⟨h1,yH hnr _ _⟩
       clear hbf HB hnr;go_wp2_with fail
       go_ret
       unfold zD;exact ⟨by rw [show val 1000000000 u / val 1000000000 v=qn - 1 by rw [HE.out.1];rfl,Int.natCast_sub hq1];rfl,ae7.out.2,t,ae7.out.1,HTl.out,hdt,HR.out⟩
    ·have HE:=zh (Yw (by omega:1<1000000000) HVl.out dv as0 aP5.out HUs.out zo XI.out);have aL0:¬ (un:Int) - (b:Int)<(c:Int):=by omega
     have hbf:ah wr g (bZ (pre++(s++u.drop (k+2))++post)).toArray 61:=HB.out;have hn1:=HUC.out wr (s++u.drop (k+2)) (by rw [List.length_append,List.length_drop,HU.out,HS.out];omega) HB.out (k+2) zo;have hn2:wr.frozen? ⟨g,j+(k+2),none⟩=false:=hbf.free _
     have ae7:Hid (ah (wr.setCell ⟨g,j+(k+2),none⟩ (.int .u32 0)) g (bZ (pre++(s++[0])++post)).toArray 61∧w.grownBy (wr.setCell ⟨g,j+(k+2),none⟩ (.int .u32 0)) (some g)):=by
      have h1:=hbf.set (j+(k+2)) (.int .u32 ((0:Nat):Int));rw [List.setIfInBounds_toArray,jP,JI HJ.out HS.out (by rw [HU.out];omega),List.drop_eq_nil_of_le (by rw [HU.out];omega),List.append_nil] at h1;exact ⟨h1,yH hnr _ _⟩
     clear hbf HB hnr;go_wp2_with fail
     go_ret
     unfold zD;exact ⟨by rw [← HE.out.1];rfl,ae7.out.2,s,ae7.out.1,HS.out,hds,HE.out.2⟩):G:=h
theorem AQ (g j k cu:Nat) (pv:Option Addr) (cv:Nat) (pre u post v:List Nat) (w:World) (hj:pre.length=j) (hu:u.length=k+3) (hv:v.length=k+2) (du:dS 1000000000 u) (dv:dS 1000000000 v) (hk:k≤1099511627776)
  (ht:1000000000≤2*v.getD (k+1) 0) (hlt:val 1000000000 u<val 1000000000 v*1000000000) (az2:ah w g (bZ (pre++u++post)).toArray 61)
  (hd:∀ i,i<k+2→∃ b off,pv=some ⟨b,off,none⟩∧b≠g∧b<w.heap.size∧w.cell? ⟨b,off+i,none⟩=some (.int .u32 (v.getD i 0:Nat))) :
  Calls Tryz.prog 226 #[.slice (some ⟨g,j,none⟩) (k+3) cu,.slice pv (k+2) cv] w (zD w g k pre u post v):=aF5
def mM (w:World) (q r:Nat) (e:Ending) (w':World):Prop:=∃ vq vr,e= .returned (.tuple #[vq,vr])∧Below w.heap.size w w'∧aQ w' vq q∧aQ w' vr r
theorem _root_.Go.aF4 {G:Prop} (h:G:=by
 have HX:=zh hx;have hs:=qw h;rw [Nat.div_eq_of_lt h,Nat.mod_eq_of_lt h];have HC:=zh (iO x y a b w hx hy);rw [hs] at HC;clear hx hs hy h;go_enter ag2,ag1
 go_wp2_with ((first|go_at_call 223|go_at_call 317);refine (HC.out).mono ?_;rintro e w1 ⟨rfl,hb1⟩)
 go_ret2
 exact ⟨_,_,rfl,hb1,aQ.zero _,HX.out.later hb1⟩):G:=h
theorem Bj (x y:Value) (a b:Nat) (w:World) (hx:aQ w x a) (hy:aQ w y b) (h:a<b) :
  Calls Tryz.prog 143 #[x,y] w (mM w (a / b) (a%b)):=aF4
theorem _root_.Go.aF3 {G:Prop} (h:G:=by
 have hs:xq a b=0∨xq a b=1:=by
  rcases Nat.lt_or_ge b a with h2|h2
  ·exact .inr (oJ h2)
  ·have:a=b:=by omega
   subst this;exact .inl (rO a)
 have hdb:bW 1000000000 b=[b]:=by rw [jF zo hb0,Nat.mod_eq_of_lt hb1,Nat.div_eq_of_lt hb1,fM]
 obtain ⟨p,c,e1, -, -, e3⟩:=lK.read hy.Ci;rw [hdb] at e1 e3;simp only [List.length_cons,List.length_nil,Value.slice.injEq] at e1;obtain ⟨rfl, -, rfl⟩:=e1;obtain ⟨b2,off,rfl,hb2,hcell⟩:=e3 0 zi;have hcell2:w.cell? ⟨b2,off,none⟩=some (.int .u32 (b:Int)):=by simpa using hcell
 have HC:=zh (iO _ _ a b w hx hy);have HX:=zh hx;clear hdb hcell e3 hx hy;have hmod:a%b<1000000000:=Nat.lt_trans (Nat.mod_lt _ hb0) hb1
 rcases hs with hs|hs
 all_goals
  rw [hs] at HC;clear hs;go_enter ag2,ag1
  go_wp2_with ((first|go_at_call 223|go_at_call 317);refine (HC.out).mono ?_;rintro e w1 ⟨rfl,QI⟩;have hc1:w1.cell? ⟨b2,off,none⟩=some (.int .u32 (b:Int)):=(QI.cell (by exact hb2)).trans hcell2)
  refine (yu _ a b _ (HX.out.later QI) zo hb0 zo).mono ?_;rintro e w2 ⟨v,rfl,QH,hv⟩;have HV:=zh hv;clear hv;generalize hm:a%b=m at *;have HM:=zh hm;clear hm;go_wp2_with fail
  refine (kW m _ zo).mono ?_;rintro e w3 ⟨v3,rfl,aM7,hv3⟩;have HV3:=zh hv3;clear hv3;go_wp2_with fail
  go_ret2
  exact ⟨_,_,rfl,Bt (Bt QI QH) aM7,HV.out.later aM7,HV3.out⟩):G:=h
theorem yV (pa pb:Option Addr) (ca cb:Nat) (a b:Nat) (w:World) (hx:aQ w (.slice pa (sz 1000000000 a) ca) a) (hy:aQ w (.slice pb 1 cb) b) (hb0:0<b) (hb1:b<1000000000) (h:b≤a) (ha:sz 1000000000 a≤549755813888) :
  Calls Tryz.prog 143 #[.slice pa (sz 1000000000 a) ca,.slice pb 1 cb] w (mM w (a / b) (a%b)):=aF3
theorem _root_.Go.aF2 {G:Prop} (h:G:=by
 obtain ⟨i0,hi,hz0,hz1,hz2⟩:=info_parts Bb
 have hs:xq a b=0∨xq a b=1:=by
  rcases Nat.lt_or_ge b a with h2|h2
  ·exact .inr (oJ h2)
  ·have:a=b:=by omega
   subst this;exact .inl (rO a)
 have hb0:0<b:=by
  rcases Nat.eq_zero_or_pos b with h0|h0
  ·rw [h0,BU] at hsb;omega
  ·exact h0
 have hkl:k+2≤sz 1000000000 a:=by rw [← hsb];exact dh zo h
 obtain ⟨ht0,htB,hs0,hs5,hsv,htv⟩:=Ml hsb;obtain ⟨hd1,hd2,hd3,hd4,hd5⟩:=dividend (a:=a) hs0 zo hsb hkl;obtain ⟨p,c,e1, -, -, e3⟩:=lK.read hy.Ci;have hlb:(bW 1000000000 b).length=k+2:=hsb;rw [hlb] at e1 e3;simp only [Value.slice.injEq] at e1;obtain ⟨rfl, -, rfl⟩:=e1;obtain ⟨b2,off,rfl,hb2,hcell⟩:=e3 (k+1) zo;have HC:=zh (iO _ _ a b w hx hy);have HX:=zh hx;have HY:=zh hy;have HSV:=zh hsv;have HTV:=zh htv;have HD4:=zh hd4;have HD5:=zh hd5;have HD2:=zh hd2;have HSB:=zh hsb;clear e3 hx hy hsv htv hd4 hd5 hd2 hsb hlb;have htop:=HSB.out;generalize hT:(bW 1000000000 b).getD (k+1) 0=t at *;clear hT htop;have hdiv:((1000000000 / (t+1):Nat):Int)=1000000000 / ((t:Int)+1):=by rw [Int.natCast_ediv];rfl
 have hsc1:(0:Int)≤1000000000 / ((t:Int)+1):=by rw [← hdiv];exact Int.natCast_nonneg _
 generalize hS:1000000000 / (t+1)=S at *;have hsc2:1000000000 / ((t:Int)+1)≤500000000:=by rw [← hdiv];omega
 have SK:=zh hdiv;have HSq:=zh hS;clear hdiv hS;generalize hus:bW 1000000000 (a*S)++List.replicate (sz 1000000000 a+1 - sz 1000000000 (a*S)) 0=us at *;have HUS:=zh hus;clear hus;generalize hL:sz 1000000000 a=L at *;have HL:=zh hL;clear hL
 rcases hs with hs|hs
 all_goals
  rw [hs] at HC;clear hs;go_enter ag2,ag1
  go_wp2_with ((first|go_at_call 223|go_at_call 317);refine (HC.out).mono ?_;rintro e w1 ⟨rfl,QI⟩;have hc1:w1.cell? ⟨b2,off+(k+1),none⟩=some (.int .u32 (t:Int)):=(QI.cell (by exact hb2)).trans hcell)
  rw [← SK.out];refine (iU _ _ b S _ ((HY.out.later QI).later ((Below.refl _ _).alloc (Nat.le_refl _) _)) (aQ.lit hs0 zo) (by rw [HSB.out];omega) (by have:=aR (B:=1000000000) zo 1 S zo;omega)).mono ?_;rintro e w2 ⟨vv,rfl,QH,hv⟩;have hbw2:Below w.heap.size w w2:=Bt (Bt QI ((Below.refl _ _).alloc (Nat.le_refl _) _)) QH;obtain ⟨pv,cv,rfl,hv1,hv2,hv3⟩:=lK.read hv.Ci;have HVR:=zh hv3;have hvl:(bW 1000000000 (b*S)).length=k+2:=HSV.out;rw [hvl] at hv1 ⊢;have HVL:=zh hvl;clear hv hv3 hvl hc1 QH;go_wp2_with (at_make;refine wpList_make_full _ rfl _ _ Lv rfl w2.heap.size 61 i0 (.int .u32 0) 1 OT hi hz0 hz1 _ _ _ _ (L+1) rfl rfl zo zo (by rw [hz2];omega) (by unfold maxLen;omega) (Nat.le_refl _) ?_)
  intro w3 hown3 hgrow3;rw [qW] at hown3;have aM5:=zh (uZ hown3).1;have DK:Below w2.heap.size w2 w3:=(Below.refl _ _).grown hgrow3 (Nat.le_refl _) (fun k h=>by cases h);clear hown3 hgrow3;go_wp2_with fail
  refine (iU _ _ a S _ ((HX.out.later (Bt hbw2 DK)).later ((Below.refl _ _).alloc (Nat.le_refl _) _)) (aQ.lit hs0 zo) (by rw [HL.out];omega) (by have:=aR (B:=1000000000) zo 1 S zo;omega)).mono ?_;rintro e w4 ⟨vt,rfl,aM6,hvt⟩;obtain ⟨pt,ct,rfl,ht1,ht2,ht3⟩:=lK.read hvt.Ci;have az4:Below w3.heap.size w3 w4:=Bt ((Below.refl _ _).alloc (Nat.le_refl _) _) aM6;have aM4:=zh (aM5.out.later az4);have aN2:=Bt DK az4;have HTS:=zh (fun h=>lK.src ht3 h);clear hvt ht3 aM6 aM5
  go_wp2_with (refine wpList_copy_splice (o:=⟨some 54,_,_,_,_,_⟩) rfl (.tmp 49) (.tmp 53) Lv Lv rfl 61 OT (by rw [hi];simp [hz1]) _ _ _ _ _ _ rfl rfl w2.heap.size 0 (bZ (List.replicate (L+1) 0)) 61 aM4.out (bZ (bW 1000000000 (a*S))) (by rw [dF];exact (Nat.min_eq_left hd1).symm) (fun h=>⟨rfl,HTS.out h⟩) (by rw [Nat.zero_add,dF,dF,List.length_replicate];exact hd1) (Jy _) w2.heap.size w2 aN2 (Nat.le_refl _) ?_)
  intro w5 aM3 aN1
  have ZP:Hid (ah w5 w2.heap.size (bZ us).toArray 61):=by
   have h1:=aM3.out;unfold splice at h1
   have e:List.take 0 (bZ (List.replicate (L+1) 0))++(bZ (bW 1000000000 (a*S))++List.drop (0+(bZ (bW 1000000000 (a*S))).length) (bZ (List.replicate (L+1) 0)))=bZ us:=by
    rw [← HUS.out];unfold bZ sz;simp
   rw [e] at h1;exact h1
  have hg5:w2.heap.size<w5.heap.size:=ah.lt ZP.out;clear aM3 aM4 HTS;go_wp2_with (at_make;refine wpList_make_full _ rfl _ _ Lv rfl w5.heap.size 61 i0 (.int .u32 0) 1 OT hi hz0 hz1 _ _ _ _ (L - (k+2)+1) rfl rfl zo zo (by rw [hz2];omega) (by unfold maxLen;omega) (Nat.le_refl _) ?_)
  intro w6 hown6 ZO;rw [qW] at hown6;have aM8:=zh (uZ hown6).1;have az3:Below w5.heap.size w5 w6:=(Below.refl _ _).grown ZO (Nat.le_refl _) (fun k h=>by cases h);have aM9:=zh (ZP.out.later az3);have aN0:Below w2.heap.size w2 w6:=aN1.trans (az3.mono (Nat.le_of_lt hg5));clear hown6 ZO ZP az3;go_wp2_with fail
  go_loopw [12] (fun jv wr=>∃ (q:Int) (s qs:List Nat), -1≤q∧q≤(L:Int) - ((k:Int)+2)∧jv= .int .i64 q∧Hid (s.length=k+2)∧dS 1000000000 s∧dS 1000000000 qs∧Hid (qs.length+(q+1).toNat=L - (k+2)+1) ∧
    Hid (ah wr w2.heap.size (bZ (us.take (q+1).toNat++(s++List.replicate (L+1 - (q+1).toNat - (k+2)) 0))).toArray 61)∧Hid (ah wr w5.heap.size (bZ (List.replicate (q+1).toNat 0++qs)).toArray 61) ∧
    Hid (val 1000000000 (us.drop (q+1).toNat)=b*S*val 1000000000 qs+val 1000000000 s)∧Hid (val 1000000000 s<b*S)∧Below w2.heap.size w2 wr) (fun jv _=>(intOf jv+1).toNat)
  case atStart =>
   have e:((L:Int) - ((k:Int)+2)+1).toNat=L - (k+2)+1:=by omega
   refine ⟨(L:Int) - ((k:Int)+2),us.drop (L - (k+2)+1),[],by omega,Int.le_refl _,rfl,zh (by rw [List.length_drop,HD2.out];omega),hd3.drop _,dS.nil,zh (by rw [e];simp),zh ?_,zh ?_,zh (by rw [e];simp [val]),HD5,aN0⟩
   ·rw [e,show L+1 - (L - (k+2)+1) - (k+2)=0 by omega,List.replicate_zero,List.append_nil,List.take_append_drop];exact aM9.out
   ·rw [e,List.append_nil];exact aM8.out
  case round =>
   clear aM9 aM8 aN0 aN1 aN2 DK az4;obtain ⟨q,s,qs,hq1,hq2,rfl,HSL,hds,Ls,HQL,HBG,HBH,HVE,aP3,hbr⟩:=hrel
   by_cases hq:q<0
   ·have hq0:q= -1:=by omega
    subst hq0;have e0:((-1:Int)+1).toNat=0:=by omega
    rw [e0] at HBG HBH HVE HQL;simp only [List.take_zero,List.nil_append,List.replicate_zero,List.drop_zero,Nat.add_zero,Nat.sub_zero] at HBG HBH HVE HQL;have HE:=zh (Zm hs0 (by rw [← HD4.out];exact HVE.out) aP3.out);have hbw:Below w.heap.size w wr:=Bt hbw2 hbr;have hDu:=zh (lK.xC (n:=k+2) (m:=L+1) HBG.out HSL.out zo zo);have hDq:=zh (lK.xC (n:=L - (k+2)+1) (m:=L - (k+2)+1) (post:=[]) (by rw [List.append_nil];exact HBH.out) HQL.out zo zo);have hle:val 1000000000 s / S≤b:=by rw [HE.out.2];exact Nat.le_of_lt (Nat.mod_lt _ hb0)
    have hsz:sz 1000000000 (val 1000000000 s)≤k+2:=aR zo _ _ (by have:=gJ (by omega:0<1000000000) hds;rwa [HSL.out] at this);go_wp2_with fail
    refine (pQ _ _ _ hDu.out hds).mono ?_;rintro e w' ⟨v1,rfl,rfl,hv1⟩;go_wp2_with fail
    refine (yu _ _ S _ hv1 zo hs0 zo).mono ?_;rintro e w7 ⟨v2,rfl,iJ,hv2⟩;have Cn:=zh hv2;clear hv2;go_wp2_with fail
    refine (pQ _ _ _ (hDq.out.later iJ) Ls).mono ?_;rintro e w' ⟨v3,rfl,rfl,hv3⟩;have HV3:=zh hv3;clear hv3;go_wp2_with fail
    go_ret2
    exact ⟨v3,v2,rfl,Bt hbw iJ,by rw [← HE.out.1];exact HV3.out,by rw [← HE.out.2];exact Cn.out⟩
   ·obtain ⟨j,rfl⟩:=Int.eq_ofNat_of_zero_le (by omega:0≤q);have ej:((j:Int)+1).toNat=j+1:=by omega
    rw [ej] at HBG HBH HVE HQL;have hjl:j<us.length:=by rw [HD2.out];omega
    go_wp2_with fail
    rw [show j+(k+2)+1 - j=k+3 by omega];have hux:us.getD j 0<1000000000:=hd3.getD zo j;have e1:us.take (j+1)++(s++List.replicate (L+1 - (j+1) - (k+2)) 0)=us.take j++(us.getD j 0::s)++List.replicate (L+1 - (j+1) - (k+2)) 0:=by rw [ji hjl];simp
    rw [e1] at HBG;have HW:=zh (Vi hux aP3.out);refine (AQ w2.heap.size j k (L+1 - j) pv cv (us.take j) (us.getD j 0::s) (List.replicate (L+1 - (j+1) - (k+2)) 0) (bW 1000000000 (b*S)) wr (by rw [List.length_take];omega) (by simp [HSL.out]) HVL.out (hds.cons hux) (aT zo _) zo HTV.out (by rw [aP zo];exact HW.out) HBG.out (fun i hi=>?_)).mono ?_
    ·obtain ⟨b',off',e1,h1,h2⟩:=HVR.out i (by rw [HVL.out];exact hi);exact ⟨b',off',e1,Nat.ne_of_lt h1,Nat.lt_of_lt_of_le h1 hbr.size,(hbr.cell (by exact h1)).trans h2⟩
    ·rintro e wx ⟨rfl,ar5,s',hB',aK7,aU3,ay2⟩;rw [aP zo] at ay2 ⊢;have HB':=zh hB';have aP8:=zh ay2;have ba1:=zh aK7;have hbx:Below w2.heap.size w2 wx:=Ii hbr ar5 hbr.size (Nat.le_refl _);have hBx:ah wx w5.heap.size (bZ (List.replicate (j+1) 0++qs)).toArray 61:=(ar5.block _ (ah.lt HBH.out) (by simp;omega)).trans HBH.out;have rE:=zh hBx;clear hB' ay2 aK7 hBx;generalize hqh:val 1000000000 (us.getD j 0::s) / (b*S)=qh at *;have HQH:=zh hqh;clear hqh
     have HQ0:wx.cell? ⟨w5.heap.size,j,none⟩=some (.int .u32 0):=by
      rw [rE.out.cell,List.getElem?_toArray,mP (by simp;omega),vS zo];rfl
     have HQF:wx.frozen? ⟨w5.heap.size,j,none⟩=false:=rE.out.free _;go_wp2_with fail
     have hbs:0<b*S:=Nat.mul_pos hb0 hs0;have hqd:qh<1000000000:=by rw [← HQH.out];exact Nat.div_lt_of_lt_mul HW.out
     have ej2:((j:Int) - 1+1).toNat=j:=by omega
     have ZQ:((⟨w5.heap.size,j,none⟩:Addr).block)=w5.heap.size:=rfl;refine ⟨⟨(j:Int) - 1,s',qh::qs,by omega,by omega,rfl,ba1,aU3,Ls.cons hqd,zh ?_,zh ?_,zh ?_,zh ?_,zh ?_,?_⟩,?_⟩
     ·rw [ej2,List.length_cons];have:=HQL.out;omega
     ·have h1:=HB'.out.setOther (a:=⟨w5.heap.size,j,none⟩) (.int .u32 (qh:Int)) (by simp;omega);rw [ej2]
      have e2:us.take j++(s'++[0])++List.replicate (L+1 - (j+1) - (k+2)) 0=us.take j++(s'++List.replicate (L+1 - j - (k+2)) 0):=by
       rw [show L+1 - j - (k+2)=(L+1 - (j+1) - (k+2))+1 by omega,List.replicate_succ];simp
      rw [e2] at h1;exact h1
     ·have h1:=rE.out.set j (.int .u32 (qh:Int));rw [List.setIfInBounds_toArray,jP,yA] at h1;rw [ej2];exact h1
     ·rw [ej2];exact WA hjl HVE.out HQH.out.symm aP8.out
     ·rw [aP8.out];exact Nat.mod_lt _ hbs
     ·exact hbx.setCell (by simp;omega) _
     ·simp only [intOf];omega):G:=h
theorem Bh (pa pb:Option Addr) (ca cb:Nat) (a b k:Nat) (w:World) (hx:aQ w (.slice pa (sz 1000000000 a) ca) a) (hy:aQ w (.slice pb (k+2) cb) b) (hsb:sz 1000000000 b=k+2) (h:b≤a) (ha:sz 1000000000 a≤549755813888) :
  Calls Tryz.prog 143 #[.slice pa (sz 1000000000 a) ca,.slice pb (k+2) cb] w (mM w (a / b) (a%b)):=aF2
theorem _root_.Go.aF1 {G:Prop} (h:G:=by
 rcases Nat.lt_or_ge a b with h|h
 ·exact Bj x y a b w hx hy h
 ·obtain ⟨p,c,e1, -, -, -⟩:=lK.read hx.Ci;obtain ⟨q,d,e2, -, -, -⟩:=lK.read hy.Ci
  have hp:sz 1000000000 b≠0:=fun h0=>by
   have:=(nD (B:=1000000000) zo (n:=b)).mp (List.length_eq_zero_iff.mp h0);omega
  have e3:(bW 1000000000 b).length=sz 1000000000 b:=rfl;rw [e3] at e2;subst e1
  rcases Nat.lt_or_ge (sz 1000000000 b) 2 with h2|h2
  ·have h1:sz 1000000000 b=1:=by omega
   rw [h1] at e2;subst e2;have:=iq (B:=1000000000) zo b;rw [h1] at this;exact yV p q c d a b w hx hy hb zo h ha
  ·obtain ⟨k,hk⟩:∃ k,sz 1000000000 b=k+2:=⟨sz 1000000000 b - 2,by omega⟩;rw [hk] at e2;subst e2;exact Bh p q c d a b k w hx hy hk h ha):G:=h
theorem fK (x y:Value) (a b:Nat) (w:World) (hx:aQ w x a) (hy:aQ w y b) (hb:0<b) (ha:sz 1000000000 a≤549755813888) :
  Calls Tryz.prog 143 #[x,y] w (mM w (a / b) (a%b)):=aF1
end Go.Proofs.dA
namespace Go.Proofs.dA
open Go Go.RowKit Go.SW Go.Num Go.Mem Go.Proofs Go.Proofs.iR Go.Dec
theorem _root_.Go.aF0 {G:Prop} (h:G:=by
 have hlen:=ko 9 d zo hd;have H:=zh h;have HT:=zh ht;clear h ht;go_enter aH2,aH1
 go_wp2_with (go_at_call 249;refine (Uj d hd _ HT.out).mono ?_;rintro e w1 ⟨rfl,hb1⟩)
 have HL:=zh hlen;generalize hL:(Lib.decDigits d).length=L at *;have HLe:=zh hL;clear hL
 go_loopw [13] (fun jv wr=>∃ i:Nat,jv= .int .i64 (i:Int)∧Hid (i=0∨i+L≤wd)∧Hid (XD B b (Lib.byteCells (l++List.replicate i 48)) wr)∧Below B w wr) (fun jv _=>wd - (intOf jv).toNat)
 case atStart =>
  exact ⟨0,rfl,zh (.inl rfl),zh (by simpa using H.out.later hb1),hb1.mono hB⟩
 case round =>
  obtain ⟨i,rfl,HI,HB,hbr⟩:=hrel
  have hcells:Lib.byteCells (l++List.replicate i 48)++[.int .u8 48]=Lib.byteCells (l++List.replicate (i+1) 48):=by
   rw [List.replicate_succ',← List.append_assoc,Lib.byteCells_append _ [48]];rfl
  by_cases hlt:i+L<wd
  ·go_wp2_with (go_at_call 270;refine (Jr B b _ 48 _ HB.out (by rw [Lib.byteCells_length];simp;omega) (Nat.le_trans hB hbr.size)).mono ?_;rintro e w2 ⟨rfl,h2,hb2⟩;rw [hcells] at h2)
   exact ⟨⟨i+1,by simp,zh (.inr zo),zh (.inr h2),hbr.trans hb2⟩,by simp [intOf];omega⟩
  ·have hi:i=wd - L:=by
    rcases HI.out with h|h
    ·omega
    ·omega
   have hsz:(⟨(Lib.decDigits d).toArray⟩:ByteArray).size=L:=HLe.out;go_wp2_with (go_at_call 271;refine (Co B b _ _ _ HB.out (by rw [Lib.byteCells_length,hsz];simp;omega) (Nat.le_trans hB hbr.size)).mono ?_;rintro e w2 ⟨rfl,h2,hb2⟩)
   go_end0
   refine ⟨rfl,.inr ?_,hbr.trans hb2⟩;rw [HLe.out,← hi,← List.append_assoc,Lib.byteCells_append];exact h2):G:=h
theorem PY (B b d wd:Nat) (l:List UInt8) (w:World) (h:XD B b (Lib.byteCells l) w) (hB:B≤w.heap.size) (hw:wd≤9) (hd:d<1000000000) (hl:l.length≤140737488355000) (ht:Pow w) :
  Calls Tryz.prog 269 #[.int .u32 d,.int .i64 wd,.pointer (some ⟨b,0,none⟩)] w fun e w'=>e= .returned (.tuple #[])∧XD B b (Lib.byteCells (l++(List.replicate (wd - (Lib.decDigits d).length) 48++Lib.decDigits d))) w'∧Below B w w':=aF0
def Gm (w:World) (n:Nat) (e:Ending) (w':World):Prop:=e= .returned (.string ⟨(Lib.decDigits n).toArray⟩)∧Below w.heap.size w w'
theorem _root_.Go.aE9 {G:Prop} (h:G:=by
 have hd:=aT (B:=1000000000) zo a;have htop:=mV (B:=1000000000) zo a;have hva:=aP (B:=1000000000) zo a;unfold sz at ha
 rcases Nat.eq_zero_or_pos a with h0|h0
 ·subst h0;have H:=zh hx;clear hx;go_enter at0,as9
  go_wp2_with ((first|go_at_call 201|go_at_call 295);refine (gF _ _ _ H.out).mono ?_;rintro e w1 ⟨rfl,rfl⟩)
  go_ret
  exact ⟨by rw [gH zo];rfl,Below.refl _ _⟩
 ·obtain ⟨p,c,rfl,hc1,hc2,hread⟩:=lK.read hx.Ci;generalize hl:bW 1000000000 a=l at *;have hne:l≠[]:=fun e=>by rw [e] at hva;simp [val] at hva;omega
  obtain ⟨n,hn⟩:∃ n,l.length=n+1:=⟨l.length - 1,by have:=List.length_pos_iff.mpr hne;omega⟩;have H:=zh hx;have HR:=zh hread;have HV:=zh hva;have HN:=zh hn;have HL:=zh hl;have HT:=zh ht;rw [hn] at ha hc1 ⊢;have ha0:decide (a=0)=false:=by simp;omega
  clear hx hread hva hl ht hn;obtain ⟨b,off,rfl,hb,hcell⟩:=HR.out n (by have:=HN.out;omega);have hpos:∀ i,i≤n→0<val 1000000000 (l.drop i):=fun i hi=>gV zo (CJ htop i) (fun e=>by have:=congrArg List.length e;rw [List.length_drop,HN.out] at this;simp at this;omega)
  have hdl:∀ i,(Lib.decDigits (val 1000000000 (l.drop i))).length≤9*(n+1)+1:=fun i=>by
   have h1:=uV (hd.drop i);rw [List.length_drop,HN.out] at h1;omega
  have HP:=zh hpos;have Io:=zh hdl;clear hpos hdl
  have hd0:val 1000000000 (l.drop n)=l.getD n 0:=by
   rw [iH (by have:=HN.out;omega),List.drop_eq_nil_of_le (by have:=HN.out;omega)];simp [val]
  have hdb:=hd.getD zo n;generalize hdn:l.getD n 0=dn at *;have HDN:=zh hdn;have HD0:=zh hd0;clear hdn hd0;have ZQ:Below w.heap.size w (w.alloc (.cells #[.pointer none,.slice none 0 0] 277 (0,0))):=(Below.refl _ _).alloc (Nat.le_refl _) _;have hcw:(w.alloc (.cells #[.pointer none,.slice none 0 0] 277 (0,0))).cell? ⟨b,off+n,none⟩=some (.int .u32 (dn:Nat)):=(ZQ.cell (by exact hb)).trans hcell;have hb0:XD w.heap.size w.heap.size (Lib.byteCells []) (w.alloc (.cells #[.pointer none,.slice none 0 0] 277 (0,0))):=Lib.fresh_isBuilder _ _ w;have HB0:=zh hb0;clear hb0;go_enter at0,as9
  go_wp2_with ((first|go_at_call 201|go_at_call 295);refine (gF _ a _ (by rw [← HN.out];exact H.out)).mono ?_;rintro e w1 ⟨rfl,rfl⟩;rw [ha0])
  refine (PY _ _ dn 0 [] _ HB0.out zi zo hdb zi (HT.out.later ZQ)).mono ?_;rintro e w2 ⟨rfl,h2,hb2⟩;rw [Nat.zero_sub,List.replicate_zero,List.nil_append,List.nil_append,← HD0.out] at h2;have H2:=zh h2;have hbw2:Below w.heap.size w w2:=ZQ.trans hb2;clear h2;go_wp2_with fail
  go_loopw [6] (fun jv wr=>∃ i:Nat,jv= .int .i64 ((i:Int) - 1)∧i≤n∧Hid (XD w.heap.size w.heap.size (Lib.byteCells (Lib.decDigits (val 1000000000 (l.drop i)))) wr)∧Below w.heap.size w wr) (fun jv _=>(intOf jv+1).toNat)
  case atStart=>exact ⟨n,rfl,Nat.le_refl _,H2,hbw2⟩
  case round =>
   obtain ⟨i,rfl,hi,HB,hbr⟩:=hrel
   rcases Nat.eq_zero_or_pos i with h1|h1
   ·subst h1;rw [List.drop_zero,HV.out] at HB;go_wp2_with fail
    refine (Tryz.Builder_String_any _ _ _ _ HB.out hbr.size).mono ?_;rintro e w3 ⟨rfl,hb3⟩;go_wp2_with fail
    go_ret
    exact ⟨rfl,hbr.trans hb3⟩
   ·obtain ⟨j,rfl⟩:∃ j,i=j+1:=⟨i - 1,by omega⟩;have hj:j<l.length:=by have:=HN.out;omega
    obtain ⟨b',off',e1,hb',hcell'⟩:=HR.out j hj;simp only [Option.some.injEq,Addr.mk.injEq,and_true] at e1;obtain ⟨rfl,rfl⟩:=e1;have hcr:=(hbr.cell (p:=⟨b,off+j,none⟩) (by exact hb)).trans hcell';have hjb:=hd.getD zo j;have HG:=zh (Jd hj hd (HP.out (j+1) hi));generalize hdj:l.getD j 0=dj at *;have HDJ:=zh hdj;clear hdj hcell';go_wp2_with fail
    refine (PY _ _ dj 9 _ _ HB.out hbr.size zo hjb (by have:=Io.out (j+1);omega) (HT.out.later hbr)).mono ?_;rintro e w3 ⟨rfl,h3,hb3⟩;rw [← HG.out] at h3;have H3:=zh h3;clear h3;go_wp2_with fail
    refine ⟨⟨j,rfl,by omega,H3,hbr.trans hb3⟩,?_⟩;simp only [intOf];omega):G:=h
theorem qZ (x:Value) (a:Nat) (w:World) (hx:aQ w x a) (ha:sz 1000000000 a≤1099511627776) (ht:Pow w) :
  Calls Tryz.prog 220 #[x] w (Gm w a):=aE9
theorem _root_.Go.aE8 {G:Prop} (h:G:=by
 have hd:=aT (B:=1000000000) zo a;have htop:=mV (B:=1000000000) zo a;have hva:=aP (B:=1000000000) zo a;unfold sz at ha
 rcases Nat.eq_zero_or_pos a with h0|h0
 ·subst h0;have H:=zh hx;clear hx;rw [gH zo];go_enter as8,as7
  go_wp2_with ((first|go_at_call 201|go_at_call 295);refine (gF _ _ _ H.out).mono ?_;rintro e w1 ⟨rfl,rfl⟩)
  go_ret
  exact ⟨rfl,Below.refl _ _⟩
 ·obtain ⟨p,c,rfl,hc1,hc2,hread⟩:=lK.read hx.Ci;generalize hl:bW 1000000000 a=l at *;have hne:l≠[]:=fun e=>by rw [e] at hva;simp [val] at hva;omega
  obtain ⟨n,hn⟩:∃ n,l.length=n+1:=⟨l.length - 1,by have:=List.length_pos_iff.mpr hne;omega⟩;have hlt:=Oc hn hd htop;have hdb:=hd.getD zo n;have hl9:=ko 9 _ zo hdb;rw [hva] at hlt;rw [hlt];obtain ⟨b,off,rfl,hb,hcell⟩:=hread n zo;have H:=zh hx;have HN:=zh hn;have HT:=zh ht;rw [hn] at ha hc1 ⊢;have ha0:decide (a=0)=false:=by simp;omega
  generalize hdn:l.getD n 0=dn at *;clear hx hread hva hl ht hn hlt hdn;generalize hL:(Lib.decDigits dn).length=L at *;have HL:Hid ((⟨(Lib.decDigits dn).toArray⟩:ByteArray).size=L):=zh hL;clear hL;go_enter as8,as7
  go_wp2_with (first
   | ((first|go_at_call 201|go_at_call 295);refine (gF _ a _ (by rw [← HN.out];exact H.out)).mono ?_;rintro e w1 ⟨rfl,rfl⟩;rw [ha0])
   | (go_at_call 249;refine (Uj dn hdb _ HT.out).mono ?_;rintro e w1 ⟨rfl,hb1⟩;have hq:=HL.out))
  go_ret
  refine ⟨?_,hb1⟩;have e:(((9*n+L:Nat)):Int)=(n:Int)*9+(L:Int):=by omega
  rw [e];rfl):G:=h
theorem kH (x:Value) (a:Nat) (w:World) (hx:aQ w x a) (ha:sz 1000000000 a≤1099511627776) (ht:Pow w) :
  Calls Tryz.prog 219 #[x] w (fun e w'=>e= .returned (.int .i64 ((Lib.decDigits a).length:Nat))∧Below w.heap.size w w'):=aE8
end Go.Proofs.dA
namespace Go.Proofs.dA
open Go Go.RowKit Go.SW Go.Num Go.Mem Go.Proofs Go.Dec
theorem ar3:(Tryz.prog.info? 61).map (fun i=>(i.zero,i.size,i.bytes))=some (some (.int .u32 0),1,4):=by kernel_rfl
theorem vT (s:ByteArray) (hs:s.size≤1099511627776) (hd:qL s.data.toList) (w:World) :
  Calls Tryz.prog 274 #[.string s] w (fun e w'=>∃ v,e= .returned v∧Below w.heap.size w w'∧aQ w' v (num s.data.toList)):=zs3
end Go.Proofs.dA
namespace Go.Proofs.dA
open Go Go.RowKit Go.SW Go.Num Go.Mem Go.Proofs
theorem _root_.Go.aE7 {G:Prop} (h:G:=by
 obtain ⟨p,c,rfl, -, -, h1⟩:=lK.read h.Ci;obtain ⟨p',c',e, -, -, h2⟩:=lK.read k.Ci;simp only [Value.slice.injEq] at e;obtain ⟨rfl,hl,rfl⟩:=e
 have:bW 1000000000 m=bW 1000000000 n:=by
  refine List.ext_getElem hl fun i hi hi2=>?_;obtain ⟨b,o,e, -, hc⟩:=h1 i hi;obtain ⟨b',o',e', -, hc'⟩:=h2 i hi2;rw [e] at e';simp only [Option.some.injEq,Addr.mk.injEq,and_true] at e';obtain ⟨rfl,rfl⟩:=e';rw [hc] at hc';simp only [Option.some.injEq,Value.int.injEq,true_and] at hc';rw [List.getD_eq_getElem?_getD,List.getD_eq_getElem?_getD,List.getElem?_eq_getElem hi,List.getElem?_eq_getElem hi2] at hc'
  simpa using Int.ofNat_inj.mp hc'
 rw [← aP (B:=1000000000) zo m,this,aP zo]):G:=h
theorem aQ.inj {w:World} {v:Value} {m n:Nat} (h:aQ w v m) (k:aQ w v n):m=n:=aE7
open Classical in
noncomputable def Dv (w:World) (v:Value):Nat:=if h:∃ n,aQ w v n then h.choose else 0
theorem uK {w:World} {v:Value} {n:Nat} (h:aQ w v n):Dv w v=n:=by
 unfold Dv;rw [dif_pos ⟨n,h⟩];exact aQ.inj (Exists.choose_spec (⟨n,h⟩:∃ n,aQ w v n)) h
theorem _root_.Go.aE6 {G:Prop} (h:G:=by
 generalize hG:Nat.gcd a b=G;have HG:=zh hG;have HX:=zh hx;have HY:=zh hy;clear hx hy hG;go_enter aH0,aG9
 go_wp2_with fail
 go_loopw [0,1] (fun vx vy wr=>∃ a b:Nat,Hid (aQ wr vx a)∧Hid (aQ wr vy b)∧Hid (Nat.gcd a b=G)∧Hid (sz 1000000000 a≤549755813888)∧Hid (sz 1000000000 b≤549755813888)∧Below w.heap.size w wr) (fun _ vy wr=>Dv wr vy)
 case atStart=>exact ⟨a,b,HX,HY,HG,zh ha,zh hb,Below.refl _ _⟩
 case round =>
  obtain ⟨a,b,HX,HY,HG,HA,HB,hbr⟩:=hrel;obtain ⟨p,c,rfl,hc1,hc2,hread⟩:=lK.read HX.out.Ci;obtain ⟨p',c',rfl,hc1',hc2',ay3⟩:=lK.read HY.out.Ci;clear hread ay3
  have HLA:=zh (show ((bW 1000000000 a).length:Int)≤2→a≤18446744073709551615 from fun h=>by
   have h1:=iq (B:=1000000000) zo a;have h2:(1000000000:Nat)^sz 1000000000 a≤1000000000^2:=Nat.pow_le_pow_right zo (by unfold sz;omega);omega)
  have HLB:=zh (show ((bW 1000000000 b).length:Int)≤2→b≤18446744073709551615 from fun h=>by
   have h1:=iq (B:=1000000000) zo b;have h2:(1000000000:Nat)^sz 1000000000 b≤1000000000^2:=Nat.pow_le_pow_right zo (by unfold sz;omega);omega)
  rcases Nat.eq_zero_or_pos b with h0|h0
  ·subst h0;rw [Nat.gcd_zero_right] at HG;go_wp2_with ((first|go_at_call 201|go_at_call 295);refine (gF _ 0 _ HY.out).mono ?_;rintro e w1 ⟨rfl,rfl⟩)
   go_ret
   exact ⟨_,rfl,hbr,by rw [← HG.out];exact HX.out⟩
  ·have hb0:decide (b=0)=false:=by simp;omega
   go_wp2_with ((first|go_at_call 201|go_at_call 295);refine (gF _ b _ HY.out).mono ?_;rintro e w1 ⟨rfl,rfl⟩;rw [hb0])
   ·refine (CX _ a _ HX.out (HLA.out (by assumption))).mono ?_;rintro e w' ⟨rfl,rfl⟩;go_wp2_with fail
    refine (CX _ b _ HY.out (HLB.out (by assumption))).mono ?_;rintro e w' ⟨rfl,rfl⟩;have hla:=HLA.out (by assumption);have hlb:=HLB.out (by assumption);go_wp2_with fail
    go_loopw [5,6] (fun v5 v6 wi=>∃ c d:Nat,v5= .int .u64 (c:Int)∧v6= .int .u64 (d:Int)∧c≤18446744073709551615∧d≤18446744073709551615∧Hid (Nat.gcd c d=G)∧Below w.heap.size w wi) (fun _ v6 _=>(intOf v6).toNat)
    case atStart=>exact ⟨a,b,rfl,rfl,hla,hlb,HG,hbr⟩
    case round =>
     obtain ⟨c,d,rfl,rfl,hc,hd,HG2,hbi⟩:=hrel
     rcases Nat.eq_zero_or_pos d with h1|h1
     ·subst h1;rw [Nat.gcd_zero_right] at HG2;go_wp2_with fail
      refine (kW c _ hc).mono ?_;rintro e w3 ⟨v3,rfl,hb3,hv3⟩;have HV3:=zh hv3;clear hv3;go_wp2_with fail
      go_ret
      exact ⟨_,rfl,Bt hbi hb3,by rw [← HG2.out];exact HV3.out⟩
     ·have hcd:((c%d:Nat):Int)=(c:Int)%(d:Int):=Int.natCast_emod _ _;have hlt:c%d<d:=Nat.mod_lt _ h1;go_wp2_with fail
      go_quiet (fail)
      go_wp2_with fail
      refine ⟨⟨d,c%d,rfl,by rw [hcd],hd,by omega,zh ?_,below_drewN hbi _⟩,?_⟩
      ·rw [← HG2.out,Nat.gcd_comm d,← Nat.gcd_rec,Nat.gcd_comm]
      ·rw [← hcd];simp only [intOf];omega
   all_goals
    refine (fK _ _ a b _ HX.out HY.out h0 HA.out).mono ?_;rintro e w2 ⟨vq,vr,rfl,hb2,hq,hr⟩;have HR:=zh hr;clear hq hr;go_wp2_with fail
    refine ⟨⟨b,a%b,zh (HY.out.later hb2),HR,zh ?_,HB,zh (Nat.le_trans (dh zo (Nat.mod_le _ _)) HA.out),Bt hbr hb2⟩,?_⟩
    ·rw [← HG.out,Nat.gcd_comm b,← Nat.gcd_rec,Nat.gcd_comm]
    ·rw [uK HR.out,uK HY.out];exact Nat.mod_lt _ h0):G:=h
theorem uQ (x y:Value) (a b:Nat) (w:World) (hx:aQ w x a) (hy:aQ w y b) (ha:sz 1000000000 a≤549755813888) (hb:sz 1000000000 b≤549755813888) :
  Calls Tryz.prog 142 #[x,y] w (fun e w'=>∃ v,e= .returned v∧Below w.heap.size w w'∧aQ w' v (Nat.gcd a b)):=aE6
end Go.Proofs.dA
namespace Go.Proofs.dA
open Go Go.RowKit Go.SW Go.Num Go.Mem Go.Proofs Go.Dec
theorem _root_.Go.aE5 {G:Prop} (h:G:=by
 obtain ⟨MW,lH,Om,rfl⟩:=h.slice;have H:=zh h;clear h;cases b
 all_goals
  go_enter aG8,aG7
  go_wp2_with ((first|go_at_call 201|go_at_call 295);refine (gF _ n _ aI).mono ?_;rintro e w1 ⟨rfl,rfl⟩)
  refine dH rfl rfl aJ Vg rfl zk ?_;refine ⟨_,rfl,aD,dB.mk aI (jm n _).symm ?_⟩;rw [← Tq];rfl):G:=h
theorem dJ (m:Value) (n:Nat) (b:Bool) (w:World) (h:aQ w m n) :
  Calls Tryz.prog 144 #[m,.bool b] w (fun e w'=>∃ v,e= .returned v∧Below w.heap.size w w'∧dB w' v (gT n b)):=aE5
theorem iX (z:Int) (hz:(Lib.decDigits z.natAbs).length≤600) (w:World) :
  Calls Tryz.prog 222 #[bL z] w (fun e w'=>∃ v,e= .returned v∧Below w.heap.size w w'∧dB w' v z):=by
 have HC:=zh (whole.sD ⟨(Lib.itoa z).toArray⟩);have e1:(⟨(Lib.itoa z).toArray⟩:ByteArray).data.toList=Lib.itoa z:=rfl;rw [e1,Oe] at HC;have HG:=zh (fun w=>vT ⟨(Lib.decDigits z.natAbs).toArray⟩ (Nat.le_trans hz zo) (kY _) w);have e2:(⟨(Lib.decDigits z.natAbs).toArray⟩:ByteArray).data.toList=Lib.decDigits z.natAbs:=rfl;rw [e2,mK] at HG;clear hz;unfold bL;go_enter Tryz.func222,Tryz.ntmps222
 go_wp2_with (first
  | (go_at_call 273;refine (HC.out _).mono ?_;rintro e w1 ⟨rfl,rfl⟩)
  | (go_at_call 274;refine (HG.out _).mono ?_;rintro e w2 ⟨v,rfl,hb2,hv⟩;obtain ⟨aR8,lHV,aW6,rfl⟩:=hv.slice;have HV:=zh hv;clear hv;have BR:=ah.later (ah.new _ _ _) hb2;have bK:=BR.cell;have bJ:=BR.free))
 refine dH rfl rfl aJ Tryz.underlying106 rfl zk ?_;exact ⟨_,rfl,aD,dB.dX aI⟩
theorem _root_.Go.aE4 {G:Prop} (h:G:=by
 obtain ⟨MW,lH,Om,rfl,H⟩:=h;replace H:=zh H;go_enter aG6,aG5
 go_wp2_with ((first|go_at_call 144|go_at_call 256);refine (dJ _ _ _ _ aI).mono ?_;rintro e w1 ⟨v,rfl,hb1,hv⟩;obtain ⟨bh5,lH1,bm4,rfl,H1⟩:=hv;replace H1:=zh H1;have BR:=ah.later (ah.pF _ _ _ _) hb1;have bK:=BR.cell;have bJ:=BR.free)
 refine dH rfl rfl aJ Vg rfl zk ?_;exact ⟨_,rfl,aD,(dB.dX aI).cast (Tp z)⟩):G:=h
theorem uI (v:Value) (z:Int) (w:World) (h:dB w v z) :
  Calls Tryz.prog 148 #[v] w (fun e w'=>∃ v,e= .returned v∧Below w.heap.size w w'∧dB w' v (-z)):=aE4
theorem qQ (v u:Value) (z:Int) (n:Nat) (w:World) (h:dB w v z) (hu:aQ w u n) (hz:sz 1000000000 z.natAbs≤549755813888) (hn:sz 1000000000 n≤549755813888) :
  Calls Tryz.prog 146 #[v,u] w (fun e w'=>∃ v,e= .returned v∧Below w.heap.size w w'∧dB w' v (z*n)):=by
 obtain ⟨MW,lH,Om,rfl,H⟩:=h;replace H:=zh H;obtain ⟨bg8,lHU,bl8,rfl⟩:=hu.slice;have HU:=zh hu;clear hu;have HN:=zh hn;have HZ:=zh hz;clear hn hz;go_enter Tryz.func146,Tryz.ntmps146
 go_wp2_with fail
 refine aF [(.pure,0),(.read,1),(.pure,2),(.pure,4),(.read,5),(.ext,3),(.ext,6),(.fin,7)] zk zk zR zP ?_;refine zV ?_;refine aH rfl rfl (fun w1 hb1 J hJ=>?_);go_simp;have BR:=ah.later (ah.drew (ah.pF _ _ _ _)) hb1;have bK:=BR.cell;have bJ:=BR.free;refine (iU _ _ _ _ _ aI aI (Nat.le_trans HZ.out zo) (Nat.le_trans HN.out zo)).mono ?_;rintro e w2 ⟨v,rfl,hb2,hv⟩;obtain ⟨aR8,lHV,aW6,rfl⟩:=hv.slice;have HV:=zh hv;clear hv;replace BR:=ah.later (BR) hb2;replace bK:=BR.cell;replace bJ:=BR.free;refine hJ _ _ hb2 ?_;clear hJ J;refine aH rfl rfl (fun w3 hb3 J hJ=>?_);go_simp;replace BR:=ah.later (BR) hb3;replace bK:=BR.cell;replace bJ:=BR.free;refine (dJ _ (z.natAbs*n) _ _ aI).mono ?_;rintro e w4 ⟨v,rfl,hb4,hv⟩;obtain ⟨bh3,lH4,bm2,rfl,H4⟩:=hv;replace H4:=zh H4;replace BR:=ah.later (BR) hb4;replace bK:=BR.cell;replace bJ:=BR.free
 refine hJ _ _ hb4 ?_;clear hJ J;refine aU [_] rfl (fun w5 hb5=>?_);replace BR:=ah.later (BR) hb5;replace bK:=BR.cell;replace bJ:=BR.free;go_wp2_with fail
 refine dH rfl rfl aJ Tryz.underlying106 rfl zk ?_;exact ⟨_,rfl,aD,(dB.dX aI).cast (ah3 z n)⟩
theorem _root_.Go.aE3 {G:Prop} (h:G:=by
 have H:=zh h;have H2:=zh h2;have KZ:=zh kz;have KY:=zh ky;have HE:=zh (Tt hz hy);clear h h2 kz ky hz hy;cases b
 all_goals
  go_enter ag0,af9
  go_wp2_with fail
  refine aF [(.pure,0),(.read,1),(.pure,2),(.read,3),(.pure,5),(.read,6),(.ext,4),(.ext,7),(.fin,8)] zk zk zR zP ?_;refine zV ?_;refine aH rfl rfl (fun w1 hb1 J hJ=>?_);go_simp;have BR:=ah.later (ah.drew (ah.at2 _ _ _ _ _)) hb1;have bK:=BR.cell;have bJ:=BR.free;refine (Ca _ _ z.natAbs y.natAbs _ aI aI (Nat.le_trans KZ.out zo) (Nat.le_trans KY.out zo)).mono ?_;rintro e v1 ⟨v,rfl,hc1,hv⟩;obtain ⟨aw1,lHS,aB7,rfl⟩:=hv.slice;have HS:=zh hv;clear hv;replace BR:=ah.later (BR) hc1;replace bK:=BR.cell;replace bJ:=BR.free;refine hJ _ _ hc1 ?_;clear hJ J;refine aH rfl rfl (fun w2 hb2 J hJ=>?_);go_simp;replace BR:=ah.later (BR) hb2;replace bK:=BR.cell;replace bJ:=BR.free;refine (dJ _ (z.natAbs+y.natAbs) _ _ aI).mono ?_;rintro e v2 ⟨v,rfl,hc2,hv⟩;obtain ⟨aw0,lHT,aB6,rfl,HT⟩:=hv;replace HT:=zh HT
  replace BR:=ah.later (BR) hc2;replace bK:=BR.cell;replace bJ:=BR.free;refine hJ _ _ hc2 ?_;clear hJ J;refine aU [_] rfl (fun w5 hb5=>?_);replace BR:=ah.later (BR) hb5;replace bK:=BR.cell;replace bJ:=BR.free;go_wp2_with fail
  refine dH rfl rfl aJ Vg rfl zk ?_;exact ⟨_,rfl,aD,(dB.dX aI).cast HE.out⟩):G:=h
theorem LX (pa pb:Option Addr) (l m ca cb:Nat) (z y:Int) (b:Bool) (w:World) (h:aQ w (.slice pa l ca) z.natAbs) (h2:aQ w (.slice pb m cb) y.natAbs) (hz:decide (z<0)=b) (hy:decide (y<0)=b) (kz:sz 1000000000 z.natAbs≤549755813888) (ky:sz 1000000000 y.natAbs≤549755813888) :
  Calls Tryz.prog 147 #[.agg #[.slice pa l ca,.bool b],.agg #[.slice pb m cb,.bool b]] w (fun e w'=>∃ v,e= .returned v∧Below w.heap.size w w'∧dB w' v (z+y)):=aE3
theorem _root_.Go.aE2 {G:Prop} (h:G:=by
 have H:=zh h;have H2:=zh h2;have KZ:=zh kz;have KY:=zh ky
 rcases Nat.lt_or_ge z.natAbs y.natAbs with hlt|hge
 ·have HE:Hid (gT (y.natAbs - z.natAbs) (!b)=z+y):=by
   have:=Tn (z:=y) (y:=z) (b:= !b) hy (by rw [hz,Bool.not_not]);rw [if_pos zo] at this;exact this.trans (Int.add_comm _ _)
  have HC:=zh (qw hlt);have HL:=zh hlt;clear h h2 kz ky hz hy hlt;cases b
  all_goals
   go_enter ag0,af9
   go_wp2_with fail
   refine ((iO _ _ z.natAbs y.natAbs _ aI aI).mono (by rw [HC.out];exact fun _ _ h=>h)).mono ?_;rintro e v1 ⟨rfl,hc1⟩;have BR:=ah.later (ah.at2 _ _ _ _ _) hc1;have bK:=BR.cell;have bJ:=BR.free;have B1:=ah.later (ah.alloc (ah.pF _ _ _ _) _) hc1;have cB1:=B1.cell;have vU:=B1.free;have B0:=ah.later (ah.alloc (ah.alloc (ah.new _ _ _) _) _) hc1;have cB0:=B0.cell;have jE:=B0.free;go_wp2_with fail
   refine aF [(.pure,0),(.read,1),(.pure,2),(.read,3),(.pure,5),(.read,6),(.ext,4),(.ext,7),(.fin,8)] zk zk zR zP ?_;refine zV ?_;refine aH rfl rfl (fun w2 hb2 J hJ=>?_);go_simp;replace BR:=ah.later (ah.drew BR) hb2;replace bK:=BR.cell;replace bJ:=BR.free;refine (Dt _ _ y.natAbs z.natAbs _ aI aI (Nat.le_trans KY.out zo) (Nat.le_of_lt HL.out)).mono ?_;rintro e v2 ⟨v,rfl,hc2,hv⟩;obtain ⟨aK0,lHD,aN9,rfl⟩:=hv.slice;have HD:=zh hv;clear hv;replace BR:=ah.later (BR) hc2;replace bK:=BR.cell;replace bJ:=BR.free;refine hJ _ _ hc2 ?_;clear hJ J;refine aH rfl rfl (fun w3 hb3 J hJ=>?_);go_simp;replace BR:=ah.later (BR) hb3;replace bK:=BR.cell;replace bJ:=BR.free;refine (dJ _ (y.natAbs - z.natAbs) _ _ aI).mono ?_;rintro e v3 ⟨v,rfl,hc3,hv⟩;obtain ⟨aw0,lHT,aB6,rfl,HT⟩:=hv;replace HT:=zh HT
   replace BR:=ah.later (BR) hc3;replace bK:=BR.cell;replace bJ:=BR.free;refine hJ _ _ hc3 ?_;clear hJ J;refine aU [_] rfl (fun w5 hb5=>?_);replace BR:=ah.later (BR) hb5;replace bK:=BR.cell;replace bJ:=BR.free;go_wp2_with fail
   refine dH rfl rfl aJ Vg rfl zk ?_;exact ⟨_,rfl,aD,(dB.dX aI).cast HE.out⟩
 ·have HE:Hid (gT (z.natAbs - y.natAbs) b=z+y):=by
   have:=Tn (z:=z) (y:=y) (b:=b) hz hy;rw [if_pos zo] at this;exact this
  have hs:xq z.natAbs y.natAbs=0∨xq z.natAbs y.natAbs=1:=by
   rcases Nat.lt_or_ge y.natAbs z.natAbs with h2|h2
   ·exact .inr (oJ h2)
   ·have:z.natAbs=y.natAbs:=by omega
    rw [this];exact .inl (rO _)
  have HL:=zh hge;clear h h2 kz ky hz hy hge
  rcases hs with hs|hs<;>cases b
  all_goals
   have HC:=zh hs;clear hs;go_enter ag0,af9
   go_wp2_with fail
   refine ((iO _ _ z.natAbs y.natAbs _ aI aI).mono (by rw [HC.out];exact fun _ _ h=>h)).mono ?_;rintro e v1 ⟨rfl,hc1⟩;have BR:=ah.later (ah.at2 _ _ _ _ _) hc1;have bK:=BR.cell;have bJ:=BR.free;have B1:=ah.later (ah.alloc (ah.pF _ _ _ _) _) hc1;have cB1:=B1.cell;have vU:=B1.free;have B0:=ah.later (ah.alloc (ah.alloc (ah.new _ _ _) _) _) hc1;have cB0:=B0.cell;have jE:=B0.free;go_wp2_with fail
   refine aF [(.pure,0),(.read,1),(.pure,2),(.read,3),(.pure,5),(.read,6),(.ext,4),(.ext,7),(.fin,8)] zk zk zR zP ?_;refine zV ?_;refine aH rfl rfl (fun w2 hb2 J hJ=>?_);go_simp;replace BR:=ah.later (ah.drew BR) hb2;replace bK:=BR.cell;replace bJ:=BR.free;refine (Dt _ _ z.natAbs y.natAbs _ aI aI (Nat.le_trans KZ.out zo) HL.out).mono ?_;rintro e v2 ⟨v,rfl,hc2,hv⟩;obtain ⟨aK0,lHD,aN9,rfl⟩:=hv.slice;have HD:=zh hv;clear hv;replace BR:=ah.later (BR) hc2;replace bK:=BR.cell;replace bJ:=BR.free;refine hJ _ _ hc2 ?_;clear hJ J;refine aH rfl rfl (fun w3 hb3 J hJ=>?_);go_simp;replace BR:=ah.later (BR) hb3;replace bK:=BR.cell;replace bJ:=BR.free;refine (dJ _ (z.natAbs - y.natAbs) _ _ aI).mono ?_;rintro e v3 ⟨v,rfl,hc3,hv⟩;obtain ⟨aw0,lHT,aB6,rfl,HT⟩:=hv;replace HT:=zh HT
   replace BR:=ah.later (BR) hc3;replace bK:=BR.cell;replace bJ:=BR.free;refine hJ _ _ hc3 ?_;clear hJ J;refine aU [_] rfl (fun w5 hb5=>?_);replace BR:=ah.later (BR) hb5;replace bK:=BR.cell;replace bJ:=BR.free;go_wp2_with fail
   refine dH rfl rfl aJ Vg rfl zk ?_;exact ⟨_,rfl,aD,(dB.dX aI).cast HE.out⟩):G:=h
theorem LY (pa pb:Option Addr) (l m ca cb:Nat) (z y:Int) (b:Bool) (w:World) (h:aQ w (.slice pa l ca) z.natAbs) (h2:aQ w (.slice pb m cb) y.natAbs) (hz:decide (z<0)=b) (hy:decide (y<0)= !b) (kz:sz 1000000000 z.natAbs≤549755813888) (ky:sz 1000000000 y.natAbs≤549755813888) :
  Calls Tryz.prog 147 #[.agg #[.slice pa l ca,.bool b],.agg #[.slice pb m cb,.bool !b]] w (fun e w'=>∃ v,e= .returned v∧Below w.heap.size w w'∧dB w' v (z+y)):=aE2
theorem _root_.Go.aE1 {G:Prop} (h:G:=by
 obtain ⟨pa,l,ca,rfl,hm⟩:=h;obtain ⟨pb,m,cb,rfl,hm2⟩:=h2
 by_cases hb:decide (z<0)=decide (y<0)
 ·rw [hb];exact LX pa pb l m ca cb z y (decide (y<0)) w hm hm2 hb rfl kz ky
 ·have hb2:decide (y<0)= !decide (z<0):=by
   cases h1:decide (z<0)<;>cases h2:decide (y<0)<;>simp_all
  rw [hb2];exact LY pa pb l m ca cb z y (decide (z<0)) w hm hm2 rfl hb2 kz ky):G:=h
theorem wW (v u:Value) (z y:Int) (w:World) (h:dB w v z) (h2:dB w u y) (kz:sz 1000000000 z.natAbs≤549755813888) (ky:sz 1000000000 y.natAbs≤549755813888) :
  Calls Tryz.prog 147 #[v,u] w (fun e w'=>∃ v,e= .returned v∧Below w.heap.size w w'∧dB w' v (z+y)):=aE1
theorem Ti (v:Value) (z:Int) (w:World) (h:dB w v z) (kz:sz 1000000000 z.natAbs≤1099511627776) (ht:iR.Pow w) :
  Calls Tryz.prog 191 #[v] w (fun e w'=>e= .returned (bL z)∧Below w.heap.size w w'):=by
 obtain ⟨pa,l,ca,rfl,hm⟩:=h
 have hlen:((1+(Lib.decDigits z.natAbs).length:Nat):Int)≤9223372036854775807:=by
  have h1:=uV (aT (B:=1000000000) zo z.natAbs);rw [aP zo] at h1;unfold sz at kz;omega
 have ar7:¬ 9223372036854775807<1+(Lib.decDigits z.natAbs).length:=by omega
 have H:=zh hm;have KZ:=zh kz;have HT:=zh ht;clear hm kz ht hlen
 by_cases hz:z<0
 ·have e:bL z= .string ⟨(45::Lib.decDigits z.natAbs).toArray⟩:=by unfold bL Lib.itoa;rw [if_pos hz]
  rw [e,decide_eq_true hz];clear e hz;go_enter Tryz.func191,Tryz.ntmps191
  go_wp2_with fail
  refine (qZ _ z.natAbs _ aI KZ.out (HT.out.later aD)).mono ?_;rintro e v1 ⟨rfl,hc1⟩;go_wp2_with fail
  go_ret
  exact ⟨rfl,aD⟩
 ·have e:bL z= .string ⟨(Lib.decDigits z.natAbs).toArray⟩:=by unfold bL Lib.itoa;rw [if_neg hz,show z.toNat=z.natAbs by omega]
  rw [e,decide_eq_false hz];clear e hz;go_enter Tryz.func191,Tryz.ntmps191
  go_wp2_with fail
  refine (qZ _ z.natAbs _ aI KZ.out (HT.out.later aD)).mono ?_;rintro e v1 ⟨rfl,hc1⟩;go_wp2_with fail
  go_ret
  exact ⟨rfl,aD⟩
end Go.Proofs.dA
namespace Go.Proofs.dA
open Go Go.RowKit Go.SW Go.Num Go.Mem Go.Proofs Go.Dec Go.fF
theorem yt (v:Value) (z:Int) (w:World) (h:dB w v z) :
  Calls Tryz.prog 149 #[v] w (fun e w'=>e= .returned (.int .i64 (uj z))∧Below w.heap.size w w'):=by
 obtain ⟨MW,lH,Om,rfl,H⟩:=h;replace H:=zh H
 rcases Int.lt_trichotomy z 0 with hz|hz|hz
 ·have e:uj z= -1:=by unfold uj;rw [if_neg zo,if_pos hz]
  rw [e,decide_eq_true hz];have h0:decide (z.natAbs=0)=false:=by simp;omega
  go_enter Tryz.func149,Tryz.ntmps149
  go_wp2_with (go_at_call 201;refine (gF _ z.natAbs _ aI).mono ?_;rintro e w1 ⟨rfl,rfl⟩;rw [h0])
  go_ret
  exact ⟨rfl,aD⟩
 ·subst hz;go_enter Tryz.func149,Tryz.ntmps149
  go_wp2_with (go_at_call 201;refine (gF _ (Int.natAbs 0) _ aI).mono ?_;rintro e w1 ⟨rfl,rfl⟩)
  go_ret
  exact ⟨rfl,aD⟩
 ·have e:uj z=1:=by unfold uj;rw [if_neg zo,if_neg zo]
  rw [e,decide_eq_false (show ¬ z<0 by omega)];have h0:decide (z.natAbs=0)=false:=by simp;omega
  go_enter Tryz.func149,Tryz.ntmps149
  go_wp2_with (go_at_call 201;refine (gF _ z.natAbs _ aI).mono ?_;rintro e w1 ⟨rfl,rfl⟩;rw [h0])
  go_ret
  exact ⟨rfl,aD⟩
theorem uH (x y:Value) (p q:Rat) (w:World) (hx:dZ w x p) (hy:dZ w y q) (kp:gZ 1000000 p) (kq:gZ 1000000 q) :
  Calls Tryz.prog 66 #[x,y] w (fun e w'=>e= .returned (.int .i64 (pJ p q))∧Below w.heap.size w w'):=by
 obtain ⟨MW,lH,Om,pbH,mH,cbH,rfl,H,Hd⟩:=hx;replace H:=zh H;replace Hd:=zh Hd;obtain ⟨paG,lG,caG,pbG,mG,cbG,rfl,G,Gd⟩:=hy;replace G:=zh G;replace Gd:=zh Gd;rw [← yw];have k1:=oh p.num q.den;have k2:=oh q.num p.den;obtain ⟨kp1,kp2⟩:=kp;obtain ⟨kq1,kq2⟩:=kq;obtain ⟨y1,Ey1⟩:∃ y:Int,Hid (p.num*(q.den:Int)=y):=⟨_,zh rfl⟩;obtain ⟨y2,Ey2⟩:∃ y:Int,Hid (q.num*(p.den:Int)=y):=⟨_,zh rfl⟩;obtain ⟨y3,Ey3⟩:∃ y:Int,Hid (-y2=y):=⟨_,zh rfl⟩;obtain ⟨y4,Ey4⟩:∃ y:Int,Hid (y1+y3=y):=⟨_,zh rfl⟩;rw [Ey1.out,Ey2.out,Ey3.out,Ey4.out];rw [Ey1.out] at k1;rw [Ey2.out] at k2;have k3:sz 1000000000 y3.natAbs=sz 1000000000 y2.natAbs:=by rw [← Ey3.out,Int.natAbs_neg]
 have K1:Hid (sz 1000000000 y1.natAbs≤549755813888):=by unfold Hid;omega
 have K3:Hid (sz 1000000000 y3.natAbs≤549755813888):=by unfold Hid;omega
 have KP1:=zh kp1;have KP2:=zh kp2;have KQ1:=zh kq1;have KQ2:=zh kq2;clear kp1 kp2 kq1 kq2 k1 k2 k3;go_enter Tryz.func66,Tryz.ntmps66
 go_wp2_with fail
 refine aF [(.pure,0),(.read,1),(.pure,2),(.read,3),(.pure,5),(.read,6),(.pure,7),(.read,8),(.ext,4),(.ext,9),(.ext,10),(.ext,11),(.ext,12),(.fin,13)] zk zk zR zP ?_;refine zV ?_;refine aH rfl rfl (fun w1 hb1 J hJ=>?_);go_simp;refine ((qQ _ _ p.num q.den _ (dB.dX aI) aI (Nat.le_trans KP1.out zo) (Nat.le_trans KQ2.out zo)).mono (by rw [Ey1.out];exact fun _ _ h=>h)).mono ?_;rintro e v1 ⟨v,rfl,hc1,hv⟩;obtain ⟨bh2,lHA,bm1,rfl,HA⟩:=hv;replace HA:=zh HA;refine hJ _ _ hc1 ?_;clear hJ J;refine aH rfl rfl (fun w2 hb2 J hJ=>?_);go_simp;refine ((qQ _ _ q.num p.den _ (dB.dX aI) aI (Nat.le_trans KQ1.out zo) (Nat.le_trans KP2.out zo)).mono (by rw [Ey2.out];exact fun _ _ h=>h)).mono ?_;rintro e v2 ⟨v,rfl,hc2,hv⟩;obtain ⟨bh0,lHB,bm0,rfl,HB⟩:=hv;replace HB:=zh HB;refine hJ _ _ hc2 ?_;clear hJ J
 refine aH rfl rfl (fun w3 hb3 J hJ=>?_);go_simp;refine ((uI _ y2 _ (dB.dX aI)).mono (by rw [Ey3.out];exact fun _ _ h=>h)).mono ?_;rintro e v3 ⟨v,rfl,hc3,hv⟩;obtain ⟨bg9,lHC,bl9,rfl,HC⟩:=hv;replace HC:=zh HC;refine hJ _ _ hc3 ?_;clear hJ J;refine aH rfl rfl (fun w4 hb4 J hJ=>?_);go_simp;refine ((wW _ _ y1 y3 _ (dB.dX aI) (dB.dX aI) K1.out K3.out).mono (by rw [Ey4.out];exact fun _ _ h=>h)).mono ?_;rintro e v4 ⟨v,rfl,hc4,hv⟩;obtain ⟨aK0,lHD,aN9,rfl,HD⟩:=hv;replace HD:=zh HD;refine hJ _ _ hc4 ?_;clear hJ J;refine aH rfl rfl (fun w5 hb5 J hJ=>?_);go_simp;refine (yt _ y4 _ (dB.dX aI)).mono ?_;rintro e v5 ⟨rfl,nV⟩;refine hJ _ _ nV ?_;clear hJ J;refine aU [_] rfl (fun w5 hb5=>?_);go_wp2_with fail
 go_ret
 exact ⟨rfl,aD⟩
theorem PN (x y:Value) (n:Int) (d:Nat) (w:World) (hx:dB w x n) (hy:aQ w y d) (hd:0<d) (kn:sz 1000000000 n.natAbs≤549755813888) (kd:sz 1000000000 d≤549755813888) :
  Calls Tryz.prog 248 #[x,y] w (fun e w'=>∃ v,e= .returned v∧Below w.heap.size w w'∧dZ w' v (mkRat n d)):=by
 obtain ⟨MW,lH,Om,rfl,H⟩:=hx;replace H:=zh H;obtain ⟨paG,lG,caG,rfl⟩:=hy.slice;have G:=zh hy;clear hy;have HP:=zh (uJ n hd);have hg:0<n.natAbs.gcd d:=Nat.gcd_pos_of_pos_right _ hd;obtain ⟨g,Eg⟩:∃ y:Nat,Hid (n.natAbs.gcd d=y):=⟨_,zh rfl⟩;obtain ⟨a,Ea⟩:∃ y:Nat,Hid (n.natAbs / g=y):=⟨_,zh rfl⟩;obtain ⟨b,Eb⟩:∃ y:Nat,Hid (d / g=y):=⟨_,zh rfl⟩;rw [Eg.out] at HP hg;rw [Ea.out,Eb.out] at HP;have KN:=zh kn;have KD:=zh kd;have HG:=zh hg;clear kn kd hg hd;go_enter Tryz.func248,Tryz.ntmps248
 go_wp2_with fail
 refine ((uQ _ _ n.natAbs d _ aI aI KN.out KD.out).mono (by rw [Eg.out];exact fun _ _ h=>h)).mono ?_;rintro e v1 ⟨v,rfl,hc1,hv⟩;obtain ⟨aR5,lHg,aW3,rfl⟩:=hv.slice;have Hg:=zh hv;clear hv;have BR:=ah.later (ah.pF _ _ _ _) hc1;have bK:=BR.cell;have bJ:=BR.free;have B0:=ah.later (ah.alloc (ah.new _ _ _) _) hc1;have cB0:=B0.cell;have jE:=B0.free;go_wp2_with fail
 refine ((fK _ _ n.natAbs g _ aI aI HG.out KN.out).mono (by rw [Ea.out];exact fun _ _ h=>h)).mono ?_;rintro e v2 ⟨v,vr,rfl,hc2,hv,oP⟩;obtain ⟨aJ9,lHa,aN8,rfl⟩:=hv.slice;have Ha:=zh hv;clear hv;obtain ⟨bc4,bi6,bd9,rfl⟩:=oP.slice;have Har:=zh oP;clear oP;replace BR:=ah.later (BR) hc2;replace bK:=BR.cell;replace bJ:=BR.free;replace B0:=ah.later (B0) hc2;replace cB0:=B0.cell;replace jE:=B0.free;go_wp2_with fail
 refine ((fK _ _ d g _ aI aI HG.out KD.out).mono (by rw [Eb.out];exact fun _ _ h=>h)).mono ?_;rintro e v3 ⟨v,vr,rfl,hc3,hv,oP⟩;obtain ⟨aR7,lHb,aW5,rfl⟩:=hv.slice;have Hb:=zh hv;clear hv;obtain ⟨bb9,bi5,bd8,rfl⟩:=oP.slice;have Hbr:=zh oP;clear oP;replace BR:=ah.later (BR) hc3;replace bK:=BR.cell;replace bJ:=BR.free;replace B0:=ah.later (B0) hc3;replace cB0:=B0.cell;replace jE:=B0.free;go_wp2_with fail
 refine (dJ _ a _ _ aI).mono ?_;rintro e v4 ⟨v,rfl,hc4,hv⟩;obtain ⟨Hf,lHs,Ih,rfl,Hs⟩:=hv;replace Hs:=zh Hs;replace BR:=ah.later (BR) hc4;replace bK:=BR.cell;replace bJ:=BR.free;replace B0:=ah.later (B0) hc4;replace cB0:=B0.cell;replace jE:=B0.free;go_wp2_with fail
 refine dH rfl rfl aJ Tryz.underlying108 rfl zk ?_;exact ⟨_,rfl,aD,dZ.mk (gT a (decide (n<0))).natAbs b aI aI (by rw [HP.out.1]) HP.out.2.symm (by rw [HP.out.1])⟩
theorem jO (v:Value) (q:Rat) (w:World) (h:dZ w v q) (k:gZ 1000000 q) (ht:iR.Pow w) :
  Calls Tryz.prog 140 #[v] w (fun e w'=>e= .returned (Fr.res (wr q))∧Below w.heap.size w w'):=by
 obtain ⟨MW,lH,Om,pbH,mH,cbH,rfl,H,Hd⟩:=h;replace H:=zh H;replace Hd:=zh Hd;have HT:=zh ht;have K1:=zh k.1;have K2:=zh k.2;clear ht k
 rcases Nat.lt_or_ge 600 (Lib.decDigits q.num.natAbs).length with h1|h1
 ·rw [Js (by unfold vL;rw [Qi h1];rfl)];go_enter Tryz.func140,Tryz.ntmps140
  go_wp2_with fail
  refine (kH _ q.num.natAbs _ aI (Nat.le_trans K1.out zo) (HT.out.later aD)).mono ?_;rintro e v1 ⟨rfl,hc1⟩;have BR:=ah.later (ah.pF _ _ _ _) hc1;have bK:=BR.cell;have bJ:=BR.free;have B0:=ah.later (ah.alloc (ah.new _ _ _) _) hc1;have cB0:=B0.cell;have jE:=B0.free;go_wp2_with fail
  refine aM rfl rfl aJ Tryz.underlying32 rfl zk ?_;exact ⟨rfl,aD⟩
 ·rcases Nat.lt_or_ge 600 (Lib.decDigits q.den).length with h2|h2
  ·rw [Js (by unfold vL;rw [Qi h2,Bool.and_false])];go_enter Tryz.func140,Tryz.ntmps140
   go_wp2_with fail
   refine (kH _ q.num.natAbs _ aI (Nat.le_trans K1.out zo) (HT.out.later aD)).mono ?_;rintro e v1 ⟨rfl,hc1⟩;have BR:=ah.later (ah.pF _ _ _ _) hc1;have bK:=BR.cell;have bJ:=BR.free;have B0:=ah.later (ah.alloc (ah.new _ _ _) _) hc1;have cB0:=B0.cell;have jE:=B0.free;go_wp2_with fail
   refine (kH _ q.den _ aI (Nat.le_trans K2.out zo) (HT.out.later aD)).mono ?_;rintro e v2 ⟨rfl,hc2⟩;replace BR:=ah.later (BR) hc2;replace bK:=BR.cell;replace bJ:=BR.free;replace B0:=ah.later (B0) hc2;replace cB0:=B0.cell;replace jE:=B0.free;go_wp2_with fail
   refine aM rfl rfl aJ Tryz.underlying32 rfl zk ?_;exact ⟨rfl,aD⟩
  ·rw [aq9 (by unfold vL;rw [dI.2 h1,dI.2 h2];rfl)];go_enter Tryz.func140,Tryz.ntmps140
   go_wp2_with fail
   refine (kH _ q.num.natAbs _ aI (Nat.le_trans K1.out zo) (HT.out.later aD)).mono ?_;rintro e v1 ⟨rfl,hc1⟩;have BR:=ah.later (ah.pF _ _ _ _) hc1;have bK:=BR.cell;have bJ:=BR.free;have B0:=ah.later (ah.alloc (ah.new _ _ _) _) hc1;have cB0:=B0.cell;have jE:=B0.free;go_wp2_with fail
   refine (kH _ q.den _ aI (Nat.le_trans K2.out zo) (HT.out.later aD)).mono ?_;rintro e v2 ⟨rfl,hc2⟩;replace BR:=ah.later (BR) hc2;replace bK:=BR.cell;replace bJ:=BR.free;replace B0:=ah.later (B0) hc2;replace cB0:=B0.cell;replace jE:=B0.free;go_wp2_with fail
   refine aF [(.pure,0),(.read,1),(.pure,3),(.read,4),(.ext,2),(.ext,5),(.pure,6),(.fin,7),(.fin,8)] zk zk zR zP ?_;refine zV ?_;refine aH rfl rfl (fun w3 hb3 J hJ=>?_);go_simp;replace BR:=ah.later (ah.drew BR) hb3;replace bK:=BR.cell;replace bJ:=BR.free;refine ((Ti _ q.num _ (dB.dX aI) (Nat.le_trans K1.out zo) (HT.out.later aD)).mono (fun _ _ h=>by unfold bL at h;exact h)).mono ?_;rintro e v3 ⟨rfl,hc3⟩;replace BR:=ah.later (BR) hc3;replace bK:=BR.cell;replace bJ:=BR.free;refine hJ _ _ hc3 ?_;clear hJ J;refine aH rfl rfl (fun w4 hb4 J hJ=>?_);go_simp;replace BR:=ah.later (BR) hb4;replace bK:=BR.cell;replace bJ:=BR.free;refine (qZ _ q.den _ aI (Nat.le_trans K2.out zo) (HT.out.later aD)).mono ?_;rintro e v4 ⟨rfl,hc4⟩;replace BR:=ah.later (BR) hc4;replace bK:=BR.cell;replace bJ:=BR.free;refine hJ _ _ hc4 ?_;clear hJ J
   refine zV ?_;refine aU [_,_] rfl (fun w5 hb5=>?_);replace BR:=ah.later (BR) hb5;replace bK:=BR.cell;replace bJ:=BR.free;go_wp2_with fail
   refine aM rfl rfl aJ Tryz.underlying32 rfl zk ?_;exact ⟨rfl,aD⟩
def OA (w:World) (q:Rat) (e:Ending) (w':World):Prop:=∃ v,e= .returned (.tuple #[v,.bool true])∧Below w.heap.size w w'∧dZ w' v q
def rC (w:World) (e:Ending) (w':World):Prop:=e= .returned (.tuple #[.agg #[.slice none 0 0,.bool false,.slice none 0 0],.bool false])∧Below w.heap.size w w'
theorem jJ {s:ByteArray} {z:Int} (h:Dec.whole s.data.toList=some z) (w:World):Calls Tryz.prog 221 #[.string s] w (fun e w'=>e= .returned (.int .i64 0)∧Below w.heap.size w w'):=by
 have:=whole.jR s w;rw [h] at this;exact this
theorem Gb {s:ByteArray} (h:Dec.whole s.data.toList=none) (w:World):Calls Tryz.prog 221 #[.string s] w (fun e w'=>e= .returned (.int .i64 10)∧Below w.heap.size w w'):=by
 have:=whole.jR s w;rw [h] at this;exact this
theorem PO (s t:ByteArray) (h:Dec.whole s.data.toList=none) (w:World) :
  Calls Tryz.prog 141 #[.agg #[.string s,.string t]] w (rC w):=by
 have HC:=zh (Gb h);clear h;go_enter Tryz.func141,Tryz.ntmps141
 go_wp2_with fail
 refine (HC.out _).mono ?_;rintro e v1 ⟨rfl,hc1⟩;have BR:=ah.later (ah.pF _ _ _ _) hc1;have bK:=BR.cell;have bJ:=BR.free;have B0:=ah.later (ah.alloc (ah.new _ _ _) _) hc1;have cB0:=B0.cell;have jE:=B0.free;go_wp2_with fail
 refine aM rfl rfl aJ Tryz.underlying108 rfl zk ?_;exact ⟨rfl,aD⟩
theorem PU (s t:ByteArray) (n:Int) (hn:Dec.whole s.data.toList=some n) (h:Dec.whole t.data.toList=none) (w:World) :
  Calls Tryz.prog 141 #[.agg #[.string s,.string t]] w (rC w):=by
 have HC:=zh (jJ hn);have HD:=zh (Gb h);clear h hn;go_enter Tryz.func141,Tryz.ntmps141
 go_wp2_with fail
 refine (HC.out _).mono ?_;rintro e v1 ⟨rfl,hc1⟩;have BR:=ah.later (ah.pF _ _ _ _) hc1;have bK:=BR.cell;have bJ:=BR.free;have B0:=ah.later (ah.alloc (ah.new _ _ _) _) hc1;have cB0:=B0.cell;have jE:=B0.free;go_wp2_with fail
 refine (HD.out _).mono ?_;rintro e v2 ⟨rfl,hc2⟩;replace BR:=ah.later (BR) hc2;replace bK:=BR.cell;replace bJ:=BR.free;replace B0:=ah.later (B0) hc2;replace cB0:=B0.cell;replace jE:=B0.free;go_wp2_with fail
 refine aM rfl rfl aJ Tryz.underlying108 rfl zk ?_;exact ⟨rfl,aD⟩
theorem VB (q:Rat) (hq:vL q=true) (w:World) :
  Calls Tryz.prog 141 #[(Fr.of q).v] w (OA w q):=by
 show Calls _ _ #[.agg #[.string ⟨(Lib.itoa q.num).toArray⟩,.string ⟨(Lib.itoa (q.den:Int)).toArray⟩]] _ _
 have hs:=jr hq
 have hl:(Lib.decDigits q.num.natAbs).length≤600∧(Lib.decDigits ((q.den:Nat):Int).natAbs).length≤600:=by
  unfold vL at hq;rw [Bool.and_eq_true,dI,dI] at hq;exact ⟨hq.1,(Int.natAbs_natCast q.den).symm ▸ hq.2⟩
 obtain ⟨hl1,hl2⟩:=hl;have hd:=q.den_pos;have hr:=q.reduced;have HC:=zh (jJ (s:=⟨(Lib.itoa q.num).toArray⟩) (dO hl1));have HD:=zh (jJ (s:=⟨(Lib.itoa (q.den:Int)).toArray⟩) (dO hl2));have HL1:=zh hl1;have HL2:=zh hl2;have HR:=zh hr;have S1:=zh hs.1;have S2:=zh hs.2;obtain ⟨d,Ed⟩:∃ y:Int,Hid ((q.den:Int)=y):=⟨_,zh rfl⟩;have hdn:d.natAbs=q.den:=by rw [← Ed.out,Int.natAbs_natCast]
 have hd1:0<d:=by rw [← Ed.out];omega
 have hsg:uj d=1:=by unfold uj;rw [if_neg zo,if_neg zo]
 have hdf:decide (d<0)=false:=by simp;omega
 have HDN:=zh hdn;have Sq:=zh hsg;have HDF:=zh hdf;have HR1:Hid (q.num.natAbs.gcd d.natAbs=1):=by unfold Hid;rw [hdn];exact hr
 rw [Ed.out] at HL2 HD ⊢;clear hq hs hl1 hl2 hr hd hdn hd1 hsg hdf;go_enter Tryz.func141,Tryz.ntmps141
 go_wp2_with fail
 refine (HC.out _).mono ?_;rintro e v1 ⟨rfl,hc1⟩;have BR:=ah.later (ah.pF _ _ _ _) hc1;have bK:=BR.cell;have bJ:=BR.free;have B0:=ah.later (ah.alloc (ah.new _ _ _) _) hc1;have cB0:=B0.cell;have jE:=B0.free;go_wp2_with fail
 refine (HD.out _).mono ?_;rintro e v2 ⟨rfl,hc2⟩;replace BR:=ah.later (BR) hc2;replace bK:=BR.cell;replace bJ:=BR.free;replace B0:=ah.later (B0) hc2;replace cB0:=B0.cell;replace jE:=B0.free;go_wp2_with fail
 refine aF [(.pure,0),(.read,1),(.pure,3),(.read,4),(.ext,2),(.ext,5),(.alloc #[.slice none 0 0,.bool false] 106,6),(.alloc #[.slice none 0 0,.bool false] 106,7),(.fin,8),(.fin,9)] zk zk zR zP ?_;refine zV ?_;refine aH rfl rfl (fun w3 hb3 J hJ=>?_);go_simp;replace BR:=ah.later (ah.drew BR) hb3;replace bK:=BR.cell;replace bJ:=BR.free;replace B0:=ah.later (ah.drew B0) hb3;replace cB0:=B0.cell;replace jE:=B0.free;refine (iX q.num HL1.out _).mono ?_;rintro e v3 ⟨v,rfl,hc3,hv⟩;obtain ⟨ai7,lHN,an7,rfl,HN⟩:=hv;replace HN:=zh HN;replace BR:=ah.later (BR) hc3;replace bK:=BR.cell;replace bJ:=BR.free;replace B0:=ah.later (B0) hc3;replace cB0:=B0.cell;replace jE:=B0.free;refine hJ _ _ hc3 ?_;clear hJ J;refine aH rfl rfl (fun w4 hb4 J hJ=>?_);go_simp;replace BR:=ah.later (BR) hb4;replace bK:=BR.cell;replace bJ:=BR.free
 replace B0:=ah.later (B0) hb4;replace cB0:=B0.cell;replace jE:=B0.free;refine (iX d HL2.out _).mono ?_;rintro e v4 ⟨v,rfl,hc4,hv⟩;obtain ⟨ai8,lHM,an8,rfl,HM⟩:=hv;replace HM:=zh HM;replace BR:=ah.later (BR) hc4;replace bK:=BR.cell;replace bJ:=BR.free;replace B0:=ah.later (B0) hc4;replace cB0:=B0.cell;replace jE:=B0.free;refine hJ _ _ hc4 ?_;clear hJ J;refine cK rfl (fun b1 w5 hw5 QK ZH az9 dD=>?_);go_simp;replace dD:ah _ _ _ _:=dD;have az8:w.heap.size≤b1:=(by first|omega|exact Nat.le_trans (Below.size (B:=w.heap.size) aD) QK);replace BR:=ah.later (BR) hw5;replace bK:=BR.cell;replace bJ:=BR.free;refine cK rfl (fun b2 w6 hw6 ZT ar6 ZU iA=>?_);go_simp;replace iA:ah _ _ _ _:=iA;have aN5:w.heap.size≤b2:=(by first|omega|exact Nat.le_trans (Below.size (B:=w.heap.size) aD) ZT)
 replace BR:=ah.later (BR) hw6;replace bK:=BR.cell;replace bJ:=BR.free;replace dD:=ah.later (dD) hw6;replace oV:=dD.cell;replace oU:=dD.free;refine aU [_,_] rfl (fun w7 iJ=>?_);replace BR:=ah.later (BR) iJ;replace bK:=BR.cell;replace bJ:=BR.free;replace dD:=ah.later (dD) iJ;replace oV:=dD.cell;replace oU:=dD.free;replace iA:=ah.later (iA) iJ;replace Ga:=iA.cell;replace Fu:=iA.free;have n1:b1≠b2:=fun e=>ZU (by simp [e]);have n2:b2≠b1:=fun e=>n1 e.symm;have n3:=BR.ne dD zd;have n4:=BR.ne iA zd;go_wp2_with fail
 refine ((yt _ d _ (dB.dX aI)).mono (by rw [Sq.out];exact fun _ _ h=>h)).mono ?_;rintro e v5 ⟨rfl,nV⟩;replace HN:=zh (aQ.carry HN.out aI nV);replace HM:=zh (aQ.carry HM.out aI nV);replace dD:ah _ (b1) _ _:=ah.later aJ nV;(try simp only [List.setIfInBounds_toArray,List.set_cons_zero,List.set_cons_succ] at dD);replace oV:=dD.cell;replace oU:=dD.free;replace iA:ah _ (b2) _ _:=ah.later aJ nV;(try simp only [List.setIfInBounds_toArray,List.set_cons_zero,List.set_cons_succ] at iA);replace Ga:=iA.cell;replace Fu:=iA.free;replace BR:ah _ (w.heap.size+1) _ _:=ah.later aJ nV;(try simp only [List.setIfInBounds_toArray,List.set_cons_zero,List.set_cons_succ] at BR);replace bK:=BR.cell;replace bJ:=BR.free;go_wp2_with fail
 refine ((uQ _ _ q.num.natAbs d.natAbs _ aI aI (Nat.le_trans S1.out zo) (by rw [HDN.out];exact Nat.le_trans S2.out zo)).mono (by rw [HR1.out];exact fun _ _ h=>h)).mono ?_;rintro e v6 ⟨v,rfl,hc6,hv⟩;obtain ⟨aR9,lHG,aW7,rfl⟩:=hv.slice;have HG:=zh hv;clear hv;replace HN:=zh (aQ.later HN.out hc6);replace HM:=zh (aQ.later HM.out hc6);replace dD:=ah.later (dD) hc6;replace oV:=dD.cell;replace oU:=dD.free;replace iA:=ah.later (iA) hc6;replace Ga:=iA.cell;replace Fu:=iA.free;replace BR:=ah.later (BR) hc6;replace bK:=BR.cell;replace bJ:=BR.free;go_wp2_with fail
 refine ((iO _ _ 1 1 _ aI (aQ.lit zo zo)).mono (by rw [rO];exact fun _ _ h=>h)).mono ?_;rintro e v7 ⟨rfl,Kn⟩;replace HN:=zh (aQ.carry HN.out aI Kn);replace HM:=zh (aQ.carry HM.out aI Kn);replace dD:ah _ (b1) _ _:=ah.later aJ Kn;(try simp only [List.setIfInBounds_toArray,List.set_cons_zero,List.set_cons_succ] at dD);replace oV:=dD.cell;replace oU:=dD.free;replace iA:ah _ (b2) _ _:=ah.later aJ Kn;(try simp only [List.setIfInBounds_toArray,List.set_cons_zero,List.set_cons_succ] at iA);replace Ga:=iA.cell;replace Fu:=iA.free;replace BR:ah _ (w.heap.size+1) _ _:=ah.later aJ Kn;(try simp only [List.setIfInBounds_toArray,List.set_cons_zero,List.set_cons_succ] at BR);replace bK:=BR.cell;replace bJ:=BR.free;go_wp2_with fail
 refine aM rfl rfl aJ Tryz.underlying108 rfl zk ?_;refine ⟨_,rfl,aD,dZ.mk q.num.natAbs d.natAbs aI aI rfl HDN.out rfl⟩
theorem GU (n d:Int) (hl1:(Lib.decDigits n.natAbs).length≤600) (hl2:(Lib.decDigits d.natAbs).length≤600) (hd:d≤0) (w:World) :
  Calls Tryz.prog 141 #[.agg #[.string ⟨(Lib.itoa n).toArray⟩,.string ⟨(Lib.itoa d).toArray⟩]] w (rC w):=by
 have HC:=zh (jJ (s:=⟨(Lib.itoa n).toArray⟩) (dO hl1));have HD:=zh (jJ (s:=⟨(Lib.itoa d).toArray⟩) (dO hl2));have HL1:=zh hl1;have HL2:=zh hl2
 have hs:uj d=0∨uj d= -1:=by
  unfold uj
  by_cases h:d=0
  ·rw [if_pos h];exact .inl rfl
  ·rw [if_neg h,if_pos zo];exact .inr rfl
 clear hl1 hl2 hd
 rcases hs with hs|hs
 all_goals
  have Sq:=zh hs;clear hs;go_enter Tryz.func141,Tryz.ntmps141
  go_wp2_with fail
  refine (HC.out _).mono ?_;rintro e v1 ⟨rfl,hc1⟩;have BR:=ah.later (ah.pF _ _ _ _) hc1;have bK:=BR.cell;have bJ:=BR.free;have B0:=ah.later (ah.alloc (ah.new _ _ _) _) hc1;have cB0:=B0.cell;have jE:=B0.free;go_wp2_with fail
  refine (HD.out _).mono ?_;rintro e v2 ⟨rfl,hc2⟩;replace BR:=ah.later (BR) hc2;replace bK:=BR.cell;replace bJ:=BR.free;replace B0:=ah.later (B0) hc2;replace cB0:=B0.cell;replace jE:=B0.free;go_wp2_with fail
  refine aF [(.pure,0),(.read,1),(.pure,3),(.read,4),(.ext,2),(.ext,5),(.alloc #[.slice none 0 0,.bool false] 106,6),(.alloc #[.slice none 0 0,.bool false] 106,7),(.fin,8),(.fin,9)] zk zk zR zP ?_;refine zV ?_;refine aH rfl rfl (fun w3 hb3 J hJ=>?_);go_simp;replace BR:=ah.later (ah.drew BR) hb3;replace bK:=BR.cell;replace bJ:=BR.free;replace B0:=ah.later (ah.drew B0) hb3;replace cB0:=B0.cell;replace jE:=B0.free;refine (iX n HL1.out _).mono ?_;rintro e v3 ⟨v,rfl,hc3,hv⟩;obtain ⟨ai7,lHN,an7,rfl,HN⟩:=hv;replace HN:=zh HN;replace BR:=ah.later (BR) hc3;replace bK:=BR.cell;replace bJ:=BR.free;replace B0:=ah.later (B0) hc3;replace cB0:=B0.cell;replace jE:=B0.free;refine hJ _ _ hc3 ?_;clear hJ J;refine aH rfl rfl (fun w4 hb4 J hJ=>?_);go_simp;replace BR:=ah.later (BR) hb4;replace bK:=BR.cell;replace bJ:=BR.free
  replace B0:=ah.later (B0) hb4;replace cB0:=B0.cell;replace jE:=B0.free;refine (iX d HL2.out _).mono ?_;rintro e v4 ⟨v,rfl,hc4,hv⟩;obtain ⟨ai8,lHM,an8,rfl,HM⟩:=hv;replace HM:=zh HM;replace BR:=ah.later (BR) hc4;replace bK:=BR.cell;replace bJ:=BR.free;replace B0:=ah.later (B0) hc4;replace cB0:=B0.cell;replace jE:=B0.free;refine hJ _ _ hc4 ?_;clear hJ J;refine cK rfl (fun b1 w5 hw5 QK ZH az9 dD=>?_);go_simp;replace dD:ah _ _ _ _:=dD;have az8:w.heap.size≤b1:=(by first|omega|exact Nat.le_trans (Below.size (B:=w.heap.size) aD) QK);replace BR:=ah.later (BR) hw5;replace bK:=BR.cell;replace bJ:=BR.free;refine cK rfl (fun b2 w6 hw6 ZT ar6 ZU iA=>?_);go_simp;replace iA:ah _ _ _ _:=iA;have aN5:w.heap.size≤b2:=(by first|omega|exact Nat.le_trans (Below.size (B:=w.heap.size) aD) ZT)
  replace BR:=ah.later (BR) hw6;replace bK:=BR.cell;replace bJ:=BR.free;replace dD:=ah.later (dD) hw6;replace oV:=dD.cell;replace oU:=dD.free;refine aU [_,_] rfl (fun w7 iJ=>?_);replace BR:=ah.later (BR) iJ;replace bK:=BR.cell;replace bJ:=BR.free;replace dD:=ah.later (dD) iJ;replace oV:=dD.cell;replace oU:=dD.free;replace iA:=ah.later (iA) iJ;replace Ga:=iA.cell;replace Fu:=iA.free;have n1:b1≠b2:=fun e=>ZU (by simp [e]);have n2:b2≠b1:=fun e=>n1 e.symm;have n3:=BR.ne dD zd;have n4:=BR.ne iA zd;go_wp2_with fail
  refine ((yt _ d _ (dB.dX aI)).mono (by rw [Sq.out];exact fun _ _ h=>h)).mono ?_;rintro e v5 ⟨rfl,nV⟩;replace BR:ah _ (w.heap.size+1) _ _:=ah.later aJ nV;(try simp only [List.setIfInBounds_toArray,List.set_cons_zero,List.set_cons_succ] at BR);replace bK:=BR.cell;replace bJ:=BR.free;go_wp2_with fail
  refine aM rfl rfl aJ Tryz.underlying108 rfl zk ?_;exact ⟨rfl,aD⟩
theorem Pz {g:Nat} (h:g≠1):xq g 1= -1∨xq g 1=1:=by
 unfold xq
 by_cases h2:g<1
 ·rw [if_pos h2];exact .inl rfl
 ·rw [if_neg h2,if_pos zo];exact .inr rfl
theorem JM (n d:Int) (hl1:(Lib.decDigits n.natAbs).length≤600) (hl2:(Lib.decDigits d.natAbs).length≤600) (hd:0<d) (hg:n.natAbs.gcd d.natAbs≠1) (w:World) :
  Calls Tryz.prog 141 #[.agg #[.string ⟨(Lib.itoa n).toArray⟩,.string ⟨(Lib.itoa d).toArray⟩]] w (rC w):=by
 have HC:=zh (jJ (s:=⟨(Lib.itoa n).toArray⟩) (dO hl1));have HD:=zh (jJ (s:=⟨(Lib.itoa d).toArray⟩) (dO hl2));have HL1:=zh hl1;have HL2:=zh hl2;have S1:=zh (jw (dI.2 hl1));have S2:=zh (jw (dI.2 hl2));have hsg:uj d=1:=by unfold uj;rw [if_neg zo,if_neg zo]
 have hdf:decide (d<0)=false:=by simp;omega
 have Sq:=zh hsg;have hs:=Pz hg;obtain ⟨g,Eg⟩:∃ y:Nat,Hid (n.natAbs.gcd d.natAbs=y):=⟨_,zh rfl⟩;rw [Eg.out] at hs;clear hl1 hl2 hd hg hsg hdf
 rcases hs with hs|hs
 all_goals
  have HS:=zh hs;clear hs;go_enter Tryz.func141,Tryz.ntmps141
  go_wp2_with fail
  refine (HC.out _).mono ?_;rintro e v1 ⟨rfl,hc1⟩;have BR:=ah.later (ah.pF _ _ _ _) hc1;have bK:=BR.cell;have bJ:=BR.free;have B0:=ah.later (ah.alloc (ah.new _ _ _) _) hc1;have cB0:=B0.cell;have jE:=B0.free;go_wp2_with fail
  refine (HD.out _).mono ?_;rintro e v2 ⟨rfl,hc2⟩;replace BR:=ah.later (BR) hc2;replace bK:=BR.cell;replace bJ:=BR.free;replace B0:=ah.later (B0) hc2;replace cB0:=B0.cell;replace jE:=B0.free;go_wp2_with fail
  refine aF [(.pure,0),(.read,1),(.pure,3),(.read,4),(.ext,2),(.ext,5),(.alloc #[.slice none 0 0,.bool false] 106,6),(.alloc #[.slice none 0 0,.bool false] 106,7),(.fin,8),(.fin,9)] zk zk zR zP ?_;refine zV ?_;refine aH rfl rfl (fun w3 hb3 J hJ=>?_);go_simp;replace BR:=ah.later (ah.drew BR) hb3;replace bK:=BR.cell;replace bJ:=BR.free;replace B0:=ah.later (ah.drew B0) hb3;replace cB0:=B0.cell;replace jE:=B0.free;refine (iX n HL1.out _).mono ?_;rintro e v3 ⟨v,rfl,hc3,hv⟩;obtain ⟨ai7,lHN,an7,rfl,HN⟩:=hv;replace HN:=zh HN;replace BR:=ah.later (BR) hc3;replace bK:=BR.cell;replace bJ:=BR.free;replace B0:=ah.later (B0) hc3;replace cB0:=B0.cell;replace jE:=B0.free;refine hJ _ _ hc3 ?_;clear hJ J;refine aH rfl rfl (fun w4 hb4 J hJ=>?_);go_simp;replace BR:=ah.later (BR) hb4;replace bK:=BR.cell;replace bJ:=BR.free
  replace B0:=ah.later (B0) hb4;replace cB0:=B0.cell;replace jE:=B0.free;refine (iX d HL2.out _).mono ?_;rintro e v4 ⟨v,rfl,hc4,hv⟩;obtain ⟨ai8,lHM,an8,rfl,HM⟩:=hv;replace HM:=zh HM;replace BR:=ah.later (BR) hc4;replace bK:=BR.cell;replace bJ:=BR.free;replace B0:=ah.later (B0) hc4;replace cB0:=B0.cell;replace jE:=B0.free;refine hJ _ _ hc4 ?_;clear hJ J;refine cK rfl (fun b1 w5 hw5 QK ZH az9 dD=>?_);go_simp;replace dD:ah _ _ _ _:=dD;have az8:w.heap.size≤b1:=(by first|omega|exact Nat.le_trans (Below.size (B:=w.heap.size) aD) QK);replace BR:=ah.later (BR) hw5;replace bK:=BR.cell;replace bJ:=BR.free;refine cK rfl (fun b2 w6 hw6 ZT ar6 ZU iA=>?_);go_simp;replace iA:ah _ _ _ _:=iA;have aN5:w.heap.size≤b2:=(by first|omega|exact Nat.le_trans (Below.size (B:=w.heap.size) aD) ZT)
  replace BR:=ah.later (BR) hw6;replace bK:=BR.cell;replace bJ:=BR.free;replace dD:=ah.later (dD) hw6;replace oV:=dD.cell;replace oU:=dD.free;refine aU [_,_] rfl (fun w7 iJ=>?_);replace BR:=ah.later (BR) iJ;replace bK:=BR.cell;replace bJ:=BR.free;replace dD:=ah.later (dD) iJ;replace oV:=dD.cell;replace oU:=dD.free;replace iA:=ah.later (iA) iJ;replace Ga:=iA.cell;replace Fu:=iA.free;have n1:b1≠b2:=fun e=>ZU (by simp [e]);have n2:b2≠b1:=fun e=>n1 e.symm;have n3:=BR.ne dD zd;have n4:=BR.ne iA zd;go_wp2_with fail
  refine ((yt _ d _ (dB.dX aI)).mono (by rw [Sq.out];exact fun _ _ h=>h)).mono ?_;rintro e v5 ⟨rfl,nV⟩;replace HN:=zh (aQ.carry HN.out aI nV);replace HM:=zh (aQ.carry HM.out aI nV);replace dD:ah _ (b1) _ _:=ah.later aJ nV;(try simp only [List.setIfInBounds_toArray,List.set_cons_zero,List.set_cons_succ] at dD);replace oV:=dD.cell;replace oU:=dD.free;replace iA:ah _ (b2) _ _:=ah.later aJ nV;(try simp only [List.setIfInBounds_toArray,List.set_cons_zero,List.set_cons_succ] at iA);replace Ga:=iA.cell;replace Fu:=iA.free;replace BR:ah _ (w.heap.size+1) _ _:=ah.later aJ nV;(try simp only [List.setIfInBounds_toArray,List.set_cons_zero,List.set_cons_succ] at BR);replace bK:=BR.cell;replace bJ:=BR.free;go_wp2_with fail
  refine ((uQ _ _ n.natAbs d.natAbs _ aI aI (Nat.le_trans S1.out zo) (Nat.le_trans S2.out zo)).mono (by rw [Eg.out];exact fun _ _ h=>h)).mono ?_;rintro e v6 ⟨v,rfl,hc6,hv⟩;obtain ⟨aR9,lHG,aW7,rfl⟩:=hv.slice;have HG:=zh hv;clear hv;replace HN:=zh (aQ.later HN.out hc6);replace HM:=zh (aQ.later HM.out hc6);replace dD:=ah.later (dD) hc6;replace oV:=dD.cell;replace oU:=dD.free;replace iA:=ah.later (iA) hc6;replace Ga:=iA.cell;replace Fu:=iA.free;replace BR:=ah.later (BR) hc6;replace bK:=BR.cell;replace bJ:=BR.free;go_wp2_with fail
  refine ((iO _ _ g 1 _ aI (aQ.lit zo zo)).mono (by rw [HS.out];exact fun _ _ h=>h)).mono ?_;rintro e v7 ⟨rfl,Kn⟩;replace BR:ah _ (w.heap.size+1) _ _:=ah.later aJ Kn;(try simp only [List.setIfInBounds_toArray,List.set_cons_zero,List.set_cons_succ] at BR);replace bK:=BR.cell;replace bJ:=BR.free;go_wp2_with fail
  refine aM rfl rfl aJ Tryz.underlying108 rfl zk ?_;exact ⟨rfl,aD⟩
theorem VD (a:Fr) (h:rd a=none) (w:World):Calls Tryz.prog 141 #[a.v] w (rC w):=by
 obtain ⟨s,t⟩:=a
 show Calls _ _ #[.agg #[.string s,.string t]] _ _
 unfold rd at h;simp only at h;cases e1:Dec.whole s.data.toList with
 | none=>exact PO s t e1 w
 | some n =>
  cases e2:Dec.whole t.data.toList with
  | none=>exact PU s t n e1 e2 w
  | some d =>
   rw [e1,e2] at h;simp only at h;obtain ⟨h1,h2⟩:=mD e1;obtain ⟨h3,h4⟩:=mD e2;have hs:s=⟨(Lib.itoa n).toArray⟩:=Gg h1;have ht:t=⟨(Lib.itoa d).toArray⟩:=Gg h3;rw [hs,ht]
   by_cases hd:0<d
   ·refine JM n d h2 h4 hd (fun e=>?_) w;rw [dif_pos ⟨hd,e⟩] at h;cases h
   ·exact GU n d h2 h4 zo w
theorem fD {s t:ByteArray} {q:Rat} (h:rd ⟨s,t⟩=some q) (w:World):Calls Tryz.prog 141 #[.agg #[.string s,.string t]] w (OA w q):=by
 obtain ⟨e,hq⟩:=mX h;have:=VB q hq w;rw [← e] at this;exact this
theorem gu {s t:ByteArray} (h:rd ⟨s,t⟩=none) (w:World):Calls Tryz.prog 141 #[.agg #[.string s,.string t]] w (rC w):=VD ⟨s,t⟩ h w
theorem jR (a:Fr) (w:World) :
  Calls Tryz.prog 166 #[a.v] w (fun e w'=>e= .returned (.int .i64 (BK a))∧Below w.heap.size w w'):=by
 obtain ⟨s,t⟩:=a
 show Calls _ _ #[.agg #[.string s,.string t]] _ _
 unfold BK;cases h:rd ⟨s,t⟩ with
 | none =>
  have HR:=zh (gu h);clear h;go_enter Tryz.func166,Tryz.ntmps166
  go_wp2_with fail
  refine (HR.out _).mono ?_;rintro e v1 ⟨rfl,hc1⟩;go_wp2_with fail
  go_ret
  exact ⟨rfl,aD⟩
 | some q =>
  have HR:=zh (fD h);clear h;go_enter Tryz.func166,Tryz.ntmps166
  go_wp2_with fail
  refine (HR.out _).mono ?_;rintro e v1 ⟨v,rfl,hc1,hv⟩;obtain ⟨Bw,XZ,BM,He,mHq,Ig,rfl,Hq,tV⟩:=hv;replace Hq:=zh Hq;replace tV:=zh tV;go_wp2_with fail
  go_ret
  exact ⟨rfl,aD⟩
def pair (x:Int × Int):Value:=.tuple #[.int .i64 x.1,.int .i64 x.2]
theorem qj (a:Fr) (w:World) :
  Calls Tryz.prog 104 #[a.v] w (fun e w'=>e= .returned (pair (gW a))∧Below w.heap.size w w'):=by
 obtain ⟨s,t⟩:=a
 show Calls _ _ #[.agg #[.string s,.string t]] _ _
 unfold gW;cases h:rd ⟨s,t⟩ with
 | none =>
  have HR:=zh (gu h);clear h;go_enter Tryz.func104,Tryz.ntmps104
  go_wp2_with fail
  refine (HR.out _).mono ?_;rintro e v1 ⟨rfl,hc1⟩;go_wp2_with fail
  go_ret2
  exact ⟨rfl,aD⟩
 | some q =>
  have HR:=zh (fD h);have e:=Vy q;simp only;rw [← e];clear h e;go_enter Tryz.func104,Tryz.ntmps104
  go_wp2_with fail
  refine (HR.out _).mono ?_;rintro e v1 ⟨v,rfl,hc1,hv⟩;obtain ⟨Bw,XZ,BM,He,mHq,Ig,rfl,Hq,tV⟩:=hv;replace Hq:=zh Hq;replace tV:=zh tV;go_wp2_with fail
  refine (yt _ q.num _ (dB.dX aI)).mono ?_;rintro e v2 ⟨rfl,hc2⟩;go_wp2_with fail
  go_ret2
  exact ⟨rfl,aD⟩
theorem Ov (s t s' t':ByteArray) (w:World) :
  Calls Tryz.prog 65 #[.agg #[.string s,.string t],.agg #[.string s',.string t'],.func (.func 66) #[] #[]] w (fun e w'=>e= .returned (pair (uY ⟨s,t⟩ ⟨s',t'⟩))∧Below w.heap.size w w'):=by
 unfold uY;cases h:rd ⟨s,t⟩ with
 | none =>
  have HR:=zh (gu h);cases k:rd ⟨s',t'⟩ with
  | none =>
   have HS:=zh (gu k);clear h k;go_enter Tryz.func65,Tryz.ntmps65
   go_wp2_with fail
   refine (HR.out _).mono ?_;rintro e v1 ⟨rfl,hc1⟩;have B1:=ah.later (ah.pF _ _ _ _) hc1;have cB1:=B1.cell;have vU:=B1.free;have lB1:=B1.lt;go_wp2_with fail
   refine (HS.out _).mono ?_;rintro e v2 ⟨rfl,hc2⟩;go_wp2_with fail
   go_ret2
   exact ⟨rfl,aD⟩
  | some q =>
   have HS:=zh (fD k);clear h k;go_enter Tryz.func65,Tryz.ntmps65
   go_wp2_with fail
   refine (HR.out _).mono ?_;rintro e v1 ⟨rfl,hc1⟩;have B1:=ah.later (ah.pF _ _ _ _) hc1;have cB1:=B1.cell;have vU:=B1.free;have lB1:=B1.lt;go_wp2_with fail
   refine (HS.out _).mono ?_;rintro e v2 ⟨v,rfl,hc2,hv⟩;obtain ⟨Bw,XZ,BM,He,mHq,Ig,rfl,Hq,tV⟩:=hv;replace Hq:=zh Hq;replace tV:=zh tV;go_wp2_with fail
   go_ret2
   exact ⟨rfl,aD⟩
 | some p =>
  have HR:=zh (fD h);cases k:rd ⟨s',t'⟩ with
  | none =>
   have HS:=zh (gu k);clear h k;go_enter Tryz.func65,Tryz.ntmps65
   go_wp2_with fail
   refine (HR.out _).mono ?_;rintro e v1 ⟨v,rfl,hc1,hv⟩;obtain ⟨Qf,lHp,Rn,VN,mHp,Xa,rfl,Hp,wP⟩:=hv;replace Hp:=zh Hp;replace wP:=zh wP;have B1:=ah.later (ah.pF _ _ _ _) hc1;have cB1:=B1.cell;have vU:=B1.free;have lB1:=B1.lt;go_wp2_with fail
   refine (HS.out _).mono ?_;rintro e v2 ⟨rfl,hc2⟩;go_wp2_with fail
   go_ret2
   exact ⟨rfl,aD⟩
  | some q =>
   have HS:=zh (fD k);have KP:=zh ((jr (mX h).2).mono (show 67≤1000000 by omega));have KQ:=zh ((jr (mX k).2).mono (show 67≤1000000 by omega));clear h k;go_enter Tryz.func65,Tryz.ntmps65
   go_wp2_with fail
   refine (HR.out _).mono ?_;rintro e v1 ⟨v,rfl,hc1,hv⟩;obtain ⟨Qf,lHp,Rn,VN,mHp,Xa,rfl,Hp,wP⟩:=hv;replace Hp:=zh Hp;replace wP:=zh wP;have B1:=ah.later (ah.pF _ _ _ _) hc1;have cB1:=B1.cell;have vU:=B1.free;have lB1:=B1.lt;go_wp2_with fail
   refine (HS.out _).mono ?_;rintro e v2 ⟨v,rfl,hc2,hv⟩;obtain ⟨Bw,XZ,BM,He,mHq,Ig,rfl,Hq,tV⟩:=hv;replace Hq:=zh Hq;replace tV:=zh tV;replace X1:ah _ (v1.heap.size) _ _:=ah.later aJ hc2;(try simp only [List.setIfInBounds_toArray,List.set_cons_zero,List.set_cons_succ] at X1);replace jV:=X1.cell;replace lJ:=X1.free;replace jU:=X1.lt;go_wp2_with fail
   refine (uH _ _ p q _ (dZ.of aI aI) (dZ.of aI aI) KP.out KQ.out).mono ?_;rintro e v3 ⟨rfl,hc3⟩;go_wp2_with fail
   go_ret2
   exact ⟨rfl,aD⟩
theorem Av (a b:Fr) (w:World) :
  Calls Tryz.prog 19 #[a.v,b.v] w (fun e w'=>e= .returned (pair (uY a b))∧Below w.heap.size w w'):=by
 obtain ⟨s,t⟩:=a;obtain ⟨s',t'⟩:=b
 show Calls _ _ #[.agg #[.string s,.string t],.agg #[.string s',.string t']] _ _
 have H:=zh (Ov s t s' t');unfold pair at *;generalize uY ⟨s,t⟩ ⟨s',t'⟩=c at *;obtain ⟨x,y⟩:=c;go_enter Tryz.func19,Tryz.ntmps19
 go_wp2_with fail
 refine (H.out _).mono ?_;rintro e v1 ⟨rfl,hc1⟩;go_wp2_with fail
 go_ret2
 exact ⟨rfl,aD⟩
end Go.Proofs.dA
