/- Lemmas for the proof. No condition. -/
import Derived.Test.YtfhappbmgghgdaaGreatDoorWB01
import Derived.Test.YtfhappbmgghgdaaGreatDoorWB02
import Derived.Test.YtfhappbmgghgdaaGreatDoorWB03
import Derived.Test.YtfhappbmgghgdaaGreatDoorProg
import Derived.KernelRfl
import Derived.WalkMore
import Derived.Lib.Strings
import Derived.Lib.Slices
import Derived.Lib.Walk
import Derived.Deep.QuietTactic
import Derived.BigQuiet
import Derived.WalkSmall
import Derived.Deep.DeepCutAuto
import Derived.Deep.CutBlock
import Derived.Laws.CopyOwn
set_option linter.unusedVariables false
set_option linter.unusedSimpArgs false
set_option maxRecDepth 100000
set_option maxHeartbeats 16000000
namespace Go.Proofs.whole
open Go Go.RowKit Go.SW Go.Num Go.Mem Go.Proofs
theorem _root_.Go.zs1 {G:Prop} (h:G:=by
 go_enter zq1,zq2
 go_wp2
 go_loop [0] (fun v=>∃ k:Nat,k≤l.length∧trimLen l k=trimLen l l.length∧v= .slice (some ⟨b,off,none⟩) k c) (fun v=>match v with| .slice _ k _=>k| _=>0)
 case atStart=>exact ⟨l.length,Nat.le_refl _,rfl,rfl⟩
 case round =>
  obtain ⟨k,hk,ht,rfl⟩:=hrel;have HT:=zh ht;clear ht
  rcases Nat.eq_zero_or_pos k with h0|h0
  ·subst h0
   go_wp2
   go_ret
   exact ⟨by rw [← HT.out];rfl,rfl⟩
  ·obtain ⟨j,rfl⟩:∃ j,k=j+1:=⟨k - 1,by omega⟩;have hcj:=hc j zo;have HS:Hid (trimLen l (j+1)=if l.getD j 0=0 then trimLen l j else j+1):=rfl;generalize l.getD j 0=d at hcj HS;clear hc
   rcases Nat.eq_zero_or_pos d with hd|hd
   ·subst hd
    go_wp2
    go_round
    case rel=>exact ⟨j,by omega,by rw [← HT.out,HS.out];rfl,rfl⟩
    case measure=>exact Nat.lt_succ_self _
   ·have hz:((d:Int) == 0)=false:=by simp;omega
    go_wp2
    go_ret
    exact ⟨by rw [← HT.out,HS.out,if_neg zo];rfl,rfl⟩):G:=h
theorem vS (b off c:Nat) (l:List Nat) (w:World) (hl:l.length≤c) (hm:c≤9223372036854775807)
   (hc:∀ k,k<l.length→w.cell? ⟨b,off+k,none⟩=some (.int .u32 (l.getD k 0:Nat))) :
    Calls Tryz.prog 267 #[.slice (some ⟨b,off,none⟩) l.length c] w fun e w'=>e= .returned (.slice (some ⟨b,off,none⟩) (trimLen l l.length) c)∧w=w':=zs1
theorem yN (w:World):Calls Tryz.prog 267 #[.slice none 0 0] w fun e w'=>e= .returned (.slice none 0 0)∧w=w':=by
 go_enter Tryz.func267,Tryz.ntmps267
 go_wp2
 refine wp_loop_rounds 1 ?_;rw [rounds_succ]
 go_wp2
 go_ret
 exact ⟨rfl,rfl⟩
theorem _root_.Go.zs2 {G:Prop} (h:G:=by
 rcases jY.cases h with ⟨rfl,rfl⟩|⟨b,off,cap,rfl,h1,h2,h3,⟨arr,h4⟩,h5⟩
 ·refine (yN w).mono ?_;rintro e w' ⟨rfl,rfl⟩;exact ⟨_,rfl,rfl,by rw [show val 1000000000 ([]:List Nat)=0 from rfl];unfold aK;rw [dS];exact Row.nil _ _⟩
 ·refine (vS b off cap l w h1 h2 h5).mono ?_;rintro e w' ⟨rfl,rfl⟩;refine ⟨_,rfl,rfl,?_⟩;have ht:=trimLen_le l l.length;have e:val 1000000000 l=val 1000000000 (l.take (trimLen l l.length)):=by rw [uj _ _ _ (Nat.le_refl _)];simp
  rw [e];refine aK.QH ?_ (hd.take _) (um l _ (Nat.le_refl _));refine Row.mk (arr:=arr) (by rw [cZ];simp;omega) (by rw [cZ];simp;omega) h2 h4 fun i hi=>?_;rw [cZ] at hi;have hi2:i<l.length:=by simp at hi;omega
  have:=h5 i hi2;rw [h4.cell] at this;rw [this];simp [bH,hi2]):G:=h
theorem kW (v:Value) (l:List Nat) (w:World) (h:jY w v l) (hd:dz 1000000000 l) :
  Calls Tryz.prog 267 #[v] w fun e w'=>∃ v',e= .returned v'∧w=w'∧aK w v' (val 1000000000 l):=zs2
end Go.Proofs.whole
namespace Go.Proofs.whole
open Go Go.RowKit Go.SW Go.Num Go.Mem Go.Proofs Go.Dec
theorem Rt:(Tryz.prog.info? 65).map (fun i=>(i.zero,i.size,i.bytes))=some (some (.int .u32 0),1,4):=by kernel_rfl
theorem _root_.Go.zs3 {G:Prop} (h:G:=by
 obtain ⟨i0,hi,hz0,hz1,hz2⟩:=info_parts Rt;generalize hbs:s.data.toList=bs at *;have hn:bs.length=s.size:=by rw [← hbs];rfl
 have Bj:=zh hbs;have HN:=zh hn;clear hbs hn;go_enter zq3,zq4
 go_wp2_with fail
 go_step3
 go_wp2_with fail
 go_step3
 go_wp2_with fail
 go_loopw [3,4] (fun mv ev wr=>∃ (e:Nat) (ls:List Nat),ev= .int .i64 (e:Int)∧Hid (e+9*ls.length=s.size)∧dz 1000000000 ls∧Hid (val 1000000000 ls=num (bs.drop e))∧wr.ownsRow w.heap.size 65 1 mv ls.length (bH ls)∧Below w.heap.size w wr) (fun _ ev _=>(intOf ev).toNat)
 case atStart=>exact ⟨s.size,[],rfl,zh zi,dz.nil,zh (by rw [← HN.out,List.drop_length];simp [val,num]),World.ownsRow_nil _ _ _ _,Below.refl _ _⟩
 case round =>
  obtain ⟨e,ls,rfl,HE,hdl,HV,hown,hbr⟩:=hrel;have he:e≤s.size:=by have:=HE.out;omega
  rcases Nat.lt_or_ge e 9 with h9|h9
  ·skip
   have hmx:(e:Int) - 9<0:=by omega
   have aK4:max ((e:Int) - 9) 0=0:=by omega
   have hgl:=Am hd (st:=0) (i:=e) zo;go_wp2_with fail
   go_loopw [6,7] (fun v6 v7 wi=>∃ i:Nat,v7= .int .i64 (i:Int)∧0≤i∧i≤e∧Hid (v6= .int .u32 (num ((bs.take i).drop (0)):Nat))∧wr=wi) (fun _ v7 _=>e - (intOf v7).toNat)
   case atStart=>exact ⟨0,rfl,Nat.le_refl _,by omega,zh (by rw [List.drop_eq_nil_of_le (by rw [List.length_take];omega)];rfl),rfl⟩
   case round =>
    obtain ⟨i,rfl,hi1,hi2,H6,rfl⟩:=hrel;have e6:=H6.out;subst e6
    rcases Nat.lt_or_ge i e with hie|hie
    ·have his:i<s.size:=by omega
     have hx:bs[i]? =some s[i]:=by rw [← Bj.out,Array.getElem?_toList];exact Array.getElem?_eq_getElem his
     have HS:=zh (xw hd hi1 zo hx);go_wp2_with fail
     exact ⟨⟨i+1,rfl,by omega,by omega,zh (by simp only [List.drop_zero] at HS ⊢;rw [HS.out]),trivial⟩,by simp only [intOf];omega⟩
    ·have hie:i=e:=by omega
     subst hie;have HG:=zh (mD (bs:=bs) (s:=0) (e:=i) zo (by have:=HN.out;omega));have hlen:bs.length - i=9*ls.length:=by have:=HE.out;have:=HN.out;omega
     rw [hlen,Nat.pow_mul,← HV.out] at HG;generalize num ((bs.take i).drop (0))=gv at *;clear H6;go_wp2_with (at_builtin;refine wpList_append_own _ rfl (.tmp 29) (.tmp 31) Fy rfl w.heap.size 65 i0 (.int .u32 0) 1 4 FW hi hz0 hz1 hz2 rfl zd _ _ _ rfl (hown.alloc _) ⟨wr.heap.size,0,none⟩ 1 1 [.int .u32 (gv:Int)] rfl rfl (by intro t u ht;match t,ht with|0,ht=>simp at ht;subst ht;simp [Addr.add]) (by intro u hu;simp at hu;subst hu;rfl) (by unfold maxLen;have:=HE.out;omega) (by have:=HE.out;omega) (by have:=hbr.size;simp;omega) ?_)
     intro v' w1 hown1 hgrow1 _
     have hown2:w1.ownsRow w.heap.size 65 1 v' (ls++[gv]).length (bH (ls++[gv])):=by
      have e:bH (ls++[gv])=bH ls++[.int .u32 (gv:Int)]:=by unfold bH;simp only [List.map_append,List.map_cons,List.map_nil]
      rw [e,List.length_append];exact hown1
     have hb3:Below w.heap.size w w1:=(hbr.alloc hbr.size _).grown hgrow1 (by simp;have:=hbr.size;omega) (fun k hk=>(hown.lt k hk).1)
     have qZ:Hid (val 1000000000 (ls++[gv])=num (bs.drop (0))):=by
      unfold Hid;rw [fU,HG.out,Nat.add_comm,Nat.mul_comm]
     clear hown hown1 hgrow1;have VP:dz 1000000000 (ls++[gv]):=hdl.snoc hgl;go_wp2_with ((first|go_at_call 267|go_at_call 211|go_at_call 116);refine (kW _ _ _ (Row.dN hown2) VP).mono ?_;rintro e w' ⟨v,rfl,rfl,hv⟩;have HM:=zh hv;clear hv)
     rw [qZ.out,List.drop_zero] at HM;rw [Exit.noGoto_ret];go_ret
     exact ⟨_,rfl,hb3,HM.out⟩
  ·skip
   obtain ⟨f,rfl⟩:∃ f,e=f+9:=⟨e - 9,by omega⟩;have hgl:=Am hd (st:=f) (i:=f+9) zo;go_wp2_with fail
   go_loopw [6,7] (fun v6 v7 wi=>∃ i:Nat,v7= .int .i64 (i:Int)∧f≤i∧i≤f+9∧Hid (v6= .int .u32 (num ((bs.take i).drop (f)):Nat))∧wr=wi) (fun _ v7 _=>f+9 - (intOf v7).toNat)
   case atStart=>exact ⟨f,rfl,Nat.le_refl _,by omega,zh (by rw [List.drop_eq_nil_of_le (by rw [List.length_take];omega)];rfl),rfl⟩
   case round =>
    obtain ⟨i,rfl,hi1,hi2,H6,rfl⟩:=hrel;have e6:=H6.out;subst e6
    rcases Nat.lt_or_ge i (f+9) with hie|hie
    ·have his:i<s.size:=by omega
     have hx:bs[i]? =some s[i]:=by rw [← Bj.out,Array.getElem?_toList];exact Array.getElem?_eq_getElem his
     have HS:=zh (xw hd hi1 zo hx);go_wp2_with fail
     exact ⟨⟨i+1,rfl,by omega,by omega,zh (by rw [HS.out]),trivial⟩,by simp only [intOf];omega⟩
    ·obtain rfl:i=f+9:=by omega
     have HG:=zh (mD (bs:=bs) (s:=f) (e:=f+9) zo (by have:=HN.out;omega));have hlen:bs.length - (f+9)=9*ls.length:=by have:=HE.out;have:=HN.out;omega
     rw [hlen,Nat.pow_mul,← HV.out] at HG;generalize num ((bs.take (f+9)).drop f)=gv at *;clear H6;go_wp2_with (at_builtin;refine wpList_append_own _ rfl (.tmp 29) (.tmp 31) Fy rfl w.heap.size 65 i0 (.int .u32 0) 1 4 FW hi hz0 hz1 hz2 rfl zd _ _ _ rfl (hown.alloc _) ⟨wr.heap.size,0,none⟩ 1 1 [.int .u32 (gv:Int)] rfl rfl (by intro t u ht;match t,ht with|0,ht=>simp at ht;subst ht;simp [Addr.add]) (by intro u hu;simp at hu;subst hu;rfl) (by unfold maxLen;have:=HE.out;omega) (by have:=HE.out;omega) (by have:=hbr.size;simp;omega) ?_)
     intro v' w1 hown1 hgrow1 _
     have hown2:w1.ownsRow w.heap.size 65 1 v' (ls++[gv]).length (bH (ls++[gv])):=by
      have e:bH (ls++[gv])=bH ls++[.int .u32 (gv:Int)]:=by unfold bH;simp only [List.map_append,List.map_cons,List.map_nil]
      rw [e,List.length_append];exact hown1
     have hb3:Below w.heap.size w w1:=(hbr.alloc hbr.size _).grown hgrow1 (by simp;have:=hbr.size;omega) (fun k hk=>(hown.lt k hk).1)
     have qZ:Hid (val 1000000000 (ls++[gv])=num (bs.drop (f))):=by
      unfold Hid;rw [fU,HG.out,Nat.add_comm,Nat.mul_comm]
     clear hown hown1 hgrow1;have VP:dz 1000000000 (ls++[gv]):=hdl.snoc hgl
     rcases Nat.eq_zero_or_pos f with hf|hf
     ·subst hf;rw [List.drop_zero] at qZ;go_wp2_with ((first|go_at_call 267|go_at_call 211|go_at_call 116);refine (kW _ _ _ (Row.dN hown2) VP).mono ?_;rintro e w' ⟨v,rfl,rfl,hv⟩;have HM:=zh hv;clear hv)
      rw [qZ.out] at HM;rw [Exit.noGoto_ret];go_ret
      exact ⟨_,rfl,hb3,HM.out⟩
     ·have hf0:((f:Int) == 0)=false:=by simp;omega
      go_wp2_with fail
      refine ⟨⟨f,ls++[gv],rfl,zh ?_,VP,qZ,hown2,hb3⟩,?_⟩
      ·have:=HE.out;rw [List.length_append,List.length_singleton];omega
      ·simp only [intOf];omega):G:=h
theorem rJ (s:ByteArray) (hs:s.size≤1099511627776) (hd:nJ s.data.toList) (w:World) :
  Calls Tryz.prog 255 #[.string s] w (fun e w'=>∃ v,e= .returned v∧Below w.heap.size w w'∧aK w' v (num s.data.toList)):=zs3
theorem BP (s p:ByteArray) (w:World) :
  Calls Tryz.prog 182 #[.string s,.string p] w fun e w'=>e= .returned (.tuple #[.string ⟨(Lib.trimPrefix s.data.toList p.data.toList).toArray⟩,.bool (Lib.hasPrefix s.data.toList p.data.toList)])∧w'=w:=by
 go_enter Tryz.func182,Tryz.ntmps182
 go_wp2
 ·have h2:(!((s.extract 0 p.size).toList == p.toList))=true:=by assumption
  have h3:(decide (p.size≤s.size)&&((s.extract 0 p.size).toList == p.toList))=false:=by
   have:((s.extract 0 p.size).toList == p.toList)=false:=by simpa using h2
   rw [this];simp
  go_ret2
  refine ⟨?_,rfl⟩;rw [Lib.trimPrefix_miss s p h3,← Lib.hasPrefix_raw,h3];rfl
 ·have h1:p.size≤s.size:=by assumption
  have h2:(!((s.extract 0 p.size).toList == p.toList))=false:=by assumption
  have h2':((s.extract 0 p.size).toList == p.toList)=true:=by simpa using h2
  go_ret2
  refine ⟨?_,rfl⟩;rw [Lib.trimPrefix_hit s p h1 h2',← Lib.hasPrefix_raw,h2',decide_eq_true h1];rfl
 ·have h1:¬ p.size≤s.size:=by assumption
  have h3:(decide (p.size≤s.size)&&((s.extract 0 p.size).toList == p.toList))=false:=by simp [h1]
  go_ret2
  refine ⟨?_,rfl⟩;rw [Lib.trimPrefix_miss s p h3,← Lib.hasPrefix_raw,h3];rfl
theorem aa7 (l:List UInt8):cut l=(Lib.trimPrefix l [45],Lib.hasPrefix l [45]):=by
 unfold cut Lib.trimPrefix Lib.hasPrefix;cases l with
 | nil=>rfl
 | cons x t =>
  by_cases h:x=45
  ·subst h;simp
  ·have h2:¬ (45:UInt8)=x:=fun e=>h e.symm;simp [h,h2,List.isPrefixOf]
theorem uX (s:ByteArray) (w:World) :
  Calls Tryz.prog 182 #[.string s,.string ⟨#[45]⟩] w fun e w'=>e= .returned (.tuple #[.string ⟨(cut s.data.toList).1.toArray⟩,.bool (cut s.data.toList).2])∧w=w':=by
 refine (BP s ⟨#[45]⟩ w).mono ?_;rintro e w' ⟨rfl,rfl⟩;rw [aa7];exact ⟨rfl,rfl⟩
def TF (w:World) (c:Bool) (e:Ending) (w':World):Prop:=(∃ pa n ca ng,e= .returned (.tuple #[.agg #[.slice pa n ca,.bool ng],.bool c]))∧Below w.heap.size w w'
theorem Nt {pa:Option Addr} {n ca:Nat} {ng b c:Bool} (h:c=b):∃ pa' n' Po ng',Ending.returned (.tuple #[.agg #[.slice pa n ca,.bool ng],.bool b])= .returned (.tuple #[.agg #[.slice pa' n' Po,.bool ng'],.bool c]):=⟨pa,n,ca,ng,by rw [h]⟩
theorem rC (s:ByteArray) (w:World) :
    Calls Tryz.prog 239 #[.string s] w (TF w (whole s.data.toList).isSome):=by
  have HC:=zh (uX s);have hw:(whole s.data.toList).isSome=dI (cut s.data.toList).1 (cut s.data.toList).2:=by unfold whole;split<;>simp_all
  rw [hw];clear hw;generalize cut s.data.toList=c at *;obtain ⟨d,ng⟩:=c;simp only at HC ⊢;have hsz:(⟨d.toArray⟩:ByteArray).size=d.length:=rfl;have h0:d=[]→dI d ng=false:=fun e=>by subst e;rfl
  have h1:600<d.length→dI d ng=false:=fun e=>by
    have h2:¬ d.length≤600:=by omega
    unfold dI;simp [h2]
  have H0:=zh h0;have H1:=zh h1;clear h0 h1;have hbx:au (w.alloc (.cells #[.slice none 0 0,.bool false] 297 (0,0))) w.heap.size #[.slice none 0 0,.bool false] 297:=au.new _ _ _;have hbl:Below w.heap.size w (w.alloc (.cells #[.slice none 0 0,.bool false] 297 (0,0))):=(Below.refl _ _).alloc (Nat.le_refl _) _;have p9:=zh hbx;clear hbx;go_enter Tryz.func239,Tryz.ntmps239
  go_wp2_with (go_at_call 182;refine (HC.out _).mono ?_;rintro e w1 ⟨rfl,rfl⟩)
  · refine aP rfl rfl p9.out Tryz.underlying297 rfl zk ⟨⟨none,0,0,false,?_⟩,hbl⟩
    rw [H0.out (by assumption)];rfl
  · refine aP rfl rfl p9.out Tryz.underlying297 rfl zk ⟨⟨none,0,0,false,?_⟩,hbl⟩
    have h1:¬ d=[]:=by assumption
    have h2:((d.length:Int) == 0)=true∨(600:Int)<d.length:=by assumption
    rw [H1.out (by
      rcases h2 with h2|h2
      · have:=List.length_pos_iff.mpr h1
        simp at h2
        exact absurd h2 h1
      · omega)]
    rfl
  · have h1:¬ d=[]:=by assumption
    have h2:((d.length:Int) == 0)=false∧(d.length:Int)≤600:=by assumption
    have hl0:=List.length_pos_iff.mpr h1;have hl1:d.length≤600:=by omega
    clear h2
    go_loopw [23] (fun v wr=>∃ i:Nat,v= .int .i64 (i:Int)∧i≤d.length∧Hid (∀ k (h:k<d.length),k<i→48≤d[k].toNat∧d[k].toNat≤57)∧w.alloc (.cells #[.slice none 0 0,.bool false] 297 (0,0))=wr) (fun v _=>d.length - (intOf v).toNat)
    case atStart=>exact ⟨0,rfl,by omega,zh (fun k _ h=>by omega),rfl⟩
    case round =>
      obtain ⟨i,rfl,hi,HK,rfl⟩:=hrel
      rcases Nat.lt_or_ge i d.length with hlt|hge
      · have hgt:(⟨d.toArray⟩:ByteArray)[i]'(by exact hlt)=d[i]:=rfl
        have HGT:=zh hgt
        by_cases hdig:48≤d[i].toNat∧d[i].toNat≤57
        · have q1:decide (((⟨d.toArray⟩:ByteArray)[i]'(by exact hlt)).toNat<(48:Int))=false:=by rw [hgt];simp;omega
          have q2:decide ((57:Int)<((⟨d.toArray⟩:ByteArray)[i]'(by exact hlt)).toNat)=false:=by rw [hgt];simp;omega
          clear hgt;go_wp2_with fail
          refine ⟨⟨i+1,rfl,by omega,zh fun k hk hki=>?_,trivial⟩,by simp only [intOf];omega⟩
          rcases Nat.lt_or_ge k i with h|h
          · exact HK.out k hk h
          · obtain rfl:k=i:=by omega
            exact hdig
        · clear hgt
          have hno:dI d ng=false:=by
            have:d.all (fun b=>decide (48≤b.toNat)&&decide (b.toNat≤57))=false:=by
              rw [List.all_eq_false];exact ⟨d[i],List.getElem_mem _,by simpa using hdig⟩
            unfold dI;simp [this]
          have Yh:=zh hno;clear hno;go_wp2_with fail
          all_goals first
            | (exfalso
               have h3:(48:Int)≤((⟨d.toArray⟩:ByteArray)[i]'(by exact hlt)).toNat∧(((⟨d.toArray⟩:ByteArray)[i]'(by exact hlt)).toNat:Int)≤57:=by assumption
               rw [HGT.out] at h3;omega)
            | (try simp only [Exit.inBlock,Exit.then]
               refine aP rfl rfl p9.out Tryz.underlying297 rfl zk ⟨⟨none,0,0,false,?_⟩,hbl⟩;rw [Yh.out];rfl)
      · obtain rfl:i=d.length:=by omega
        have hdd:nJ d:=fun b hb=>by
          obtain ⟨k,hk,rfl⟩:=List.getElem_of_mem hb;exact HK.out k hk zo
        have HDD:=zh hdd;have hgt:(⟨d.toArray⟩:ByteArray)[0]'(by exact hl0)=d[0]:=rfl
        have hhd:(d.head? == some 48)=decide (d[0].toNat=48):=by
          rw [List.head?_eq_getElem?, List.getElem?_eq_getElem hl0,Bool.eq_iff_iff];simp only [beq_iff_eq,Option.some.injEq,decide_eq_true_eq];exact ⟨fun h=>by rw [h];rfl,fun h=>UInt8.toNat_inj.mp h⟩
        have hok:dI d ng= !(decide (d[0].toNat=48)&&(ng || decide (1<d.length))):=by
          have:d.all (fun b=>decide (48≤b.toNat)&&decide (b.toNat≤57))=true:=by
            rw [List.all_eq_true];intro b hb
            simpa using hdd b hb
          unfold dI;rw [this,hhd];simp [h1,hl1]
        have aA1:nJ (⟨d.toArray⟩:ByteArray).data.toList:=hdd;clear hdd hhd HK H0 H1 HC hge hi;generalize d[0]=x at *
        have q0:((((⟨d.toArray⟩:ByteArray)[0]'(by exact hl0)).toNat:Int) == 48)=decide (x.toNat=48):=by
          rw [hgt,Bool.eq_iff_iff];simp
          omega
        have q1:decide ((1:Int)<d.length)=decide (1<d.length):=by
          rw [Bool.eq_iff_iff,decide_eq_true_iff,decide_eq_true_iff];omega
        clear hgt;have MC:=zh hok;clear hok;have HG:=zh (rJ ⟨d.toArray⟩ (by rw [hsz];omega) aA1 (w.alloc (.cells #[.slice none 0 0,.bool false] 297 (0,0))))
        by_cases hx:x.toNat=48
        all_goals by_cases hl:1<d.length
        all_goals cases ng
        all_goals simp only [hx,hl,decide_true,decide_false,Bool.true_and,Bool.false_and,Bool.true_or,Bool.false_or,Bool.not_true,Bool.not_false] at MC q0 q1
        all_goals go_wp2_with (go_at_call 255;refine (HG.out).mono ?_;rintro e w2 ⟨v,rfl,hb2,hv⟩;obtain ⟨pa,ca,rfl, -⟩:=hv;have xV:=p9.out.later hb2;have c0:w2.cell? ⟨w.heap.size,0,none⟩=some (.slice none 0 0):=(xV.cell 0).trans rfl;have c1:w2.cell? ⟨w.heap.size,1,none⟩=some (.bool false):=(xV.cell 1).trans rfl;have f0:=xV.free 0;have f1:=xV.free 1)
        all_goals (try simp only [Exit.inBlock,Exit.then])
        all_goals first
          | (refine aP rfl rfl p9.out Tryz.underlying297 rfl zk ⟨⟨none,0,0,false,?_⟩,hbl⟩
             rw [MC.out];rfl)
          | (rename_i hb2 _ _ _ _
             refine aP rfl rfl (((p9.out.later hb2).set 0 _).set 1 _) Tryz.underlying297 rfl zk ⟨Nt MC.out,((Bt hbl hb2).setCell (Nat.le_refl _) _).setCell (Nat.le_refl _) _⟩)
theorem qU (s:ByteArray) (w:World) :
  Calls Tryz.prog 203 #[.string s] w (fun e w'=>e= .returned (.int .i64 (if (whole s.data.toList).isSome then 0 else 10))∧Below w.heap.size w w'):=by
 have H:=zh (rC s);generalize (whole s.data.toList).isSome=b at *;cases b
 all_goals
  go_enter Tryz.func203,Tryz.ntmps203
  go_wp2_with (go_at_call 239;refine (H.out _).mono ?_;rintro e w1 ⟨⟨pa,n,ca,ng,rfl⟩,hb1⟩)
  go_ret
  exact ⟨rfl,Bt hb1 ((Below.refl _ _).alloc (Nat.le_refl _) _)⟩
theorem XB (z:Int) (h0: -9223372036854775808≤z) (h1:z≤9223372036854775807) (w:World) (ht:oO.Pow w) :
  Calls Tryz.prog 193 #[.int .i64 z] w (fun e w'=>e= .returned (mW z)∧Below w.heap.size w w'):=by
 have H:=zh (Tryz.strconv_Itoa z h0 h1 w ht);clear ht;go_enter Tryz.func193,Tryz.ntmps193
 go_wp2_with (go_at_call 175;refine (H.out).mono ?_;rintro e w1 ⟨rfl,k,os,rfl⟩)
 go_ret
 exact ⟨rfl,oO.below_grow _ _ _⟩
end Go.Proofs.whole
namespace Go.Proofs.eX
open Go Go.RowKit Go.SW Go.Num Go.Mem Go.Proofs
theorem vS (b off c:Nat) (l:List Nat) (w:World) (hl:l.length≤c) (hm:c≤9223372036854775807)
   (hc:∀ k,k<l.length→w.cell? ⟨b,off+k,none⟩=some (.int .u32 (l.getD k 0:Nat))) :
    Calls Tryz.prog 211 #[.slice (some ⟨b,off,none⟩) l.length c] w fun e w'=>e= .returned (.slice (some ⟨b,off,none⟩) (trimLen l l.length) c)∧w=w':=zs1
theorem yN (w:World):Calls Tryz.prog 211 #[.slice none 0 0] w fun e w'=>e= .returned (.slice none 0 0)∧w=w':=by
 go_enter Tryz.func211,Tryz.ntmps211
 go_wp2
 refine wp_loop_rounds 1 ?_;rw [rounds_succ]
 go_wp2
 go_ret
 exact ⟨rfl,rfl⟩
theorem kW (v:Value) (l:List Nat) (w:World) (h:jY w v l) (hd:dz 1000000000 l) :
  Calls Tryz.prog 211 #[v] w fun e w'=>∃ v',e= .returned v'∧w=w'∧aK w v' (val 1000000000 l):=zs2
theorem _root_.Go.zs4 {G:Prop} (h:G:=by
 obtain ⟨a,cap,rfl, -⟩:=h
 have e:decide (n=0)=((((bg 1000000000 n).length:Nat):Int) == 0):=by
  rw [Bool.eq_iff_iff];simp [kH]
 rw [e,cZ];clear e;generalize (bg 1000000000 n).length=k;go_enter zq7,zq8
 go_wp2
 go_ret
 exact ⟨rfl,rfl⟩):G:=h
theorem fQ (v:Value) (n:Nat) (w:World) (h:aK w v n) :
  Calls Tryz.prog 207 #[v] w fun e w'=>e= .returned (.bool (decide (n=0)))∧w=w':=zs4
def tY (a b:Nat):Int:=if a<b then -1 else if b<a then 1 else 0
theorem oZ {a b:Nat} (h:a<b):tY a b= -1:=if_pos h
theorem nZ {a b:Nat} (h:b<a):tY a b=1:=by unfold tY;rw [if_neg zo,if_pos h]
theorem qm (a:Nat):tY a a=0:=by unfold tY;simp
theorem _root_.Go.zs5 {G:Prop} (h:G:=by
 rcases Nat.lt_trichotomy a b with h|h|h
 ·rw [oZ h];go_enter Tryz.func220,Tryz.ntmps220
  go_wp2
  go_ret
  exact ⟨rfl,rfl⟩
 ·subst h;rw [qm];go_enter Tryz.func220,Tryz.ntmps220
  go_wp2
  go_ret
  exact ⟨rfl,rfl⟩
 ·rw [nZ h];go_enter Tryz.func220,Tryz.ntmps220
  go_wp2
  go_ret
  exact ⟨rfl,rfl⟩):G:=h
theorem Mf (a b:Nat) (w:World):Calls Tryz.prog 220 #[.int .i64 a,.int .i64 b] w fun e w'=>e= .returned (.int .i64 (tY a b))∧w=w':=zs5
theorem _root_.Go.zs6 {G:Prop} (h:G:=by
 rcases Nat.lt_trichotomy a b with h|h|h
 ·rw [oZ h];go_enter Tryz.func221,Tryz.ntmps221
  go_wp2
  go_ret
  exact ⟨rfl,rfl⟩
 ·subst h;rw [qm];go_enter Tryz.func221,Tryz.ntmps221
  go_wp2
  go_ret
  exact ⟨rfl,rfl⟩
 ·rw [nZ h];go_enter Tryz.func221,Tryz.ntmps221
  go_wp2
  go_ret
  exact ⟨rfl,rfl⟩):G:=h
theorem Me (a b:Nat) (w:World):Calls Tryz.prog 221 #[.int .u32 a,.int .u32 b] w fun e w'=>e= .returned (.int .i64 (tY a b))∧w=w':=zs6
theorem _root_.Go.zs7 {G:Prop} (h:G:=by
 have h1:((m:Int) == (n:Int))=false:=by simp;omega
 have h2:((m:Int) != (n:Int))=true:=by simp;omega
 go_enter zq9,YJ
 go_wp2_with (go_at_call 220;refine (Mf _ _ _).mono ?_;rintro e w' ⟨rfl,rfl⟩)
 go_ret
 exact ⟨rfl,rfl⟩):G:=h
theorem xE (a b:Option Addr) (m n c d:Nat) (w:World) (h:m≠n) :
  Calls Tryz.prog 206 #[.slice a m c,.slice b n d] w fun e w'=>e= .returned (.int .i64 (tY m n))∧w=w':=zs7
theorem _root_.Go.zs8 {G:Prop} (h:G:=by
 have HL:=zh hlen;clear hlen;rw [← HL.out];have h1:((l.length:Int) == (l.length:Int))=true:=by simp
 have h2:((l.length:Int) != (l.length:Int))=false:=by simp
 go_enter zq9,YJ
 go_wp2
 clear h1 h2
 go_loopw [5] (fun i wr=>∃ q:Int, -1≤q∧q<l.length∧i= .int .i64 q∧l.drop (q+1).toNat=m.drop (q+1).toNat∧Below w.heap.size w wr) (fun i _=>(intOf i+1).toNat)
 case atStart=>exact ⟨(l.length:Int) - 1,by omega,by omega,rfl,by rw [show ((l.length:Int) - 1+1).toNat=l.length by omega,List.drop_length];rw [HL.out,List.drop_length],Below.refl _ _⟩
 case round =>
  obtain ⟨q,hq1,hq2,rfl,hdr,hb⟩:=hrel;have HD:=zh hdr;clear hdr
  by_cases hq:q<0
  ·have hq0:q= -1:=by omega
   subst hq0
   go_wp2
   go_ret
   have e:l=m:=by have:=HD.out;simpa using this
   rw [e,qm];exact ⟨rfl,hb⟩
  ·obtain ⟨j,rfl⟩:=Int.eq_ofNat_of_zero_le (by omega:0≤q);have hjl:j<l.length:=by omega
   have hjm:j<m.length:=by rw [← HL.out];exact hjl
   obtain ⟨ba,oa,rfl,hba,hx0⟩:=hc j hjl;obtain ⟨bb,ob,rfl,hbb,hy0⟩:=hd j hjm;have hx:wr.cell? ⟨ba,oa+j,none⟩=some (.int .u32 (l.getD j 0:Nat)):=(hb.cell (by exact hba)).trans hx0;have hy:wr.cell? ⟨bb,ob+j,none⟩=some (.int .u32 (m.getD j 0:Nat)):=(hb.cell (by exact hbb)).trans hy0;clear hx0 hy0;have HD2:Hid (l.drop (j+1)=m.drop (j+1)):=by have:=HD.out;rwa [show ((j:Int)+1).toNat=j+1 by omega] at this
   have hlt:Hid (l.getD j 0<m.getD j 0→val 1000000000 l<val 1000000000 m):=ru zo hl hjl hjm HD2.out;have hgt:Hid (m.getD j 0<l.getD j 0→val 1000000000 m<val 1000000000 l):=ru zo hmd hjm hjl HD2.out.symm;have heq:Hid (l.getD j 0=m.getD j 0→l.drop j=m.drop j):=fun e=>by rw [gJ hjl,gJ hjm,HD2.out,e]
   generalize l.getD j 0=x at *;generalize m.getD j 0=y at *;clear HD HD2 hc hd
   by_cases hxy:x=y
   ·subst hxy;have h1:((x:Int) == (x:Int))=true:=by simp
    have h2:((x:Int) != (x:Int))=false:=by simp
    go_wp2
    go_quiet (fail)
    go_wp2
    go_roundw
    case rel=>exact ⟨(j:Int) - 1,by omega,by omega,rfl,by rw [show ((j:Int) - 1+1).toNat=j by omega];exact heq.out trivial,below_drewN hb _⟩
    case measure=>simp [intOf]
   ·have h1:((x:Int) == (y:Int))=false:=by simp;omega
    have h2:((x:Int) != (y:Int))=true:=by simp;omega
    go_wp2
    go_quiet (fail)
    go_wp2
    refine aD [(.pure,0),(.pure,1),(.pure,2),(.read,3),(.pure,4),(.pure,5),(.pure,6),(.read,7),(.ext,8),(.fin,9)] zk zk zR zP ?_;refine zV ?_;refine aG rfl rfl (fun w1 hb1 J hJ=>?_);go_simp;refine (Me _ _ _).mono ?_;rintro e w' ⟨rfl,rfl⟩;refine hJ _ _ (Below.refl _ _) ?_;clear hJ J;refine aL [_] rfl (fun w2 hb2=>?_)
    go_wp2
    go_ret
    refine ⟨?_,Bt (Bt hb (QG hb1)) hb2⟩
    rcases Nat.lt_or_gt_of_ne hxy with h|h
    ·rw [oZ h,oZ (hlt.out h)];rfl
    ·rw [nZ h,nZ (hgt.out h)];rfl):G:=h
theorem uZ (pa pb:Option Addr) (ca cb:Nat) (l m:List Nat) (w:World) (hlen:l.length=m.length) (hm:l.length≤9223372036854775807) (hl:dz 1000000000 l) (hmd:dz 1000000000 m)
   (hc:∀ k,k<l.length→∃ b off,pa=some ⟨b,off,none⟩∧b<w.heap.size∧w.cell? ⟨b,off+k,none⟩=some (.int .u32 (l.getD k 0:Nat)))
   (hd:∀ k,k<m.length→∃ b off,pb=some ⟨b,off,none⟩∧b<w.heap.size∧w.cell? ⟨b,off+k,none⟩=some (.int .u32 (m.getD k 0:Nat))) :
    Calls Tryz.prog 206 #[.slice pa l.length ca,.slice pb m.length cb] w fun e w'=>e= .returned (.int .i64 (tY (val 1000000000 l) (val 1000000000 m)))∧Below w.heap.size w w':=zs8
theorem _root_.Go.zs9 {G:Prop} (h:G:=by
 by_cases hs:sz 1000000000 a=sz 1000000000 b
 ·obtain ⟨pa,ca,rfl,h1,h2,h3⟩:=jY.read hx.yw;obtain ⟨pb,cb,rfl,k1,k2,k3⟩:=jY.read hy.yw;refine (uZ pa pb ca cb _ _ w hs zo (aR zo a) (aR zo b) h3 k3).mono ?_;rintro e w' ⟨rfl,hb⟩;rw [aM zo,aM zo];exact ⟨rfl,hb⟩
 ·obtain ⟨a',ca,rfl, -⟩:=hx;obtain ⟨b',cb,rfl, -⟩:=hy;rw [cZ,cZ];refine (xE a' b' _ _ ca cb w hs).mono ?_;rintro e w' ⟨rfl,rfl⟩;refine ⟨?_,Below.refl _ _⟩
  rcases Nat.lt_or_gt_of_ne hs with h|h
  ·rw [oZ (qK zo h)];exact congrArg _ (congrArg _ (oZ h))
  ·rw [nZ (qK zo h)];exact congrArg _ (congrArg _ (nZ h))):G:=h
theorem iN (x y:Value) (a b:Nat) (w:World) (hx:aK w x a) (hy:aK w y b) :
  Calls Tryz.prog 206 #[x,y] w fun e w'=>e= .returned (.int .i64 (tY a b))∧Below w.heap.size w w':=zs9
theorem zK:(Tryz.prog.info? 65).map (fun i=>(i.zero,i.size,i.bytes))=some (some (.int .u32 0),1,4):=by kernel_rfl
theorem _root_.Go.af8 {G:Prop} (h:G:=by
 have hm:val B (m.take (k+1))=val B (m.take k)+B^k*m.getD k 0:=by
  by_cases hkm:k<m.length
  ·exact aY B hkm
  ·rw [List.take_of_length_le zo,List.take_of_length_le zo];simp [Nat.le_of_not_lt hkm]
 rw [fU,aY B hk,hm,hs,Nat.pow_succ];have h2:=congrArg (B^k* ·) h;simp only [Nat.mul_add] at h2;rw [show c'*(B^k*B)=B^k*(c'*B) by rw [Nat.mul_left_comm]];rw [Nat.mul_comm c (B^k)] at he;omega):G:=h
theorem vW {B:Nat} {l m s:List Nat} {k c d c':Nat} (hk:k<l.length) (hs:s.length=k) (he:val B s+c*B^k=val B (l.take k)+val B (m.take k)) (h:d+c'*B=l.getD k 0+c+m.getD k 0) :
  val B (s++[d])+c'*B^(k+1)=val B (l.take (k+1))+val B (m.take (k+1)):=af8
theorem _root_.Go.af7 {G:Prop} (h:G:=by
 obtain ⟨i0,hi,hz0,hz1,hz2⟩:=info_parts zK
 rcases hv with ⟨rfl,rfl⟩|⟨rfl,rfl,hlt⟩
 all_goals
  go_enter ai4,ai3
  go_wp2_with (at_make;refine wpList_make_own _ rfl _ _ Fy rfl w.heap.size 65 i0 (.int .u32 0) 1 FW hi hz0 hz1 _ _ _ (l.length+1) rfl rfl zo (by rw [hz2];omega) (by unfold maxLen;omega) (Nat.le_refl _) ?_)
  intro w0 hown0 jT
  go_wp2
  go_loopw [5,6,7,8,22] (fun out cv _ _ kv wr=>∃ (k c:Nat) (s:List Nat),k≤l.length∧c≤1∧s.length=k∧kv= .int .i64 k∧cv= .int .u32 c∧out= .slice (some ⟨w.heap.size,0,none⟩) k (l.length+1) ∧
    wr.ownsRow w.heap.size 65 1 (.slice (some ⟨w.heap.size,0,none⟩) k (l.length+1)) k (bH s)∧dz 1000000000 s∧Hid (val 1000000000 s+c*1000000000^k=val 1000000000 (l.take k)+val 1000000000 (m.take k))∧Below w.heap.size w wr)
   (fun _ _ _ _ kv _=>l.length - (intOf kv).toNat)
  case atStart=>exact ⟨0,0,[],Nat.zero_le _,by omega,rfl,rfl,rfl,rfl,hown0,dz.nil,(by simp [val]:val _ _+0*_=_),(Below.refl _ _).grown jT (Nat.le_refl _) (fun k h=>by cases h)⟩
  case round =>
   obtain ⟨k,c,s,hk,hc1,hs,rfl,rfl,rfl,hown,hds,HV,hb⟩:=hrel;have HS:=zh hs;clear hs
   by_cases hkl:k<l.length
   ·obtain ⟨b,off,rfl,hbb,hx0⟩:=hc k hkl;have hx:wr.cell? ⟨b,off+k,none⟩=some (.int .u32 (l.getD k 0:Nat)):=(hb.cell (by exact hbb)).trans hx0;have hdl:l.getD k 0<1000000000:=hl.getD zo k
    have HP:∀ d c',d+c'*1000000000=l.getD k 0+c+m.getD k 0→val 1000000000 (s++[d])+c'*1000000000^(k+1)=val 1000000000 (l.take (k+1))+val 1000000000 (m.take (k+1)) :=
     fun d c' h=>vW hkl HS.out HV.out h
    have kJ:=zh HP;clear HP hx0 hc
    by_cases hkm:k<m.length
    ·obtain ⟨b2,off2,rfl,D8,hy0⟩:=hd k hkm;have hy:wr.cell? ⟨b2,off2+k,none⟩=some (.int .u32 (m.getD k 0:Nat)):=(hb.cell (by exact D8)).trans hy0;have JU:m.getD k 0<1000000000:=hmd.getD zo k;clear hy0 hd;generalize l.getD k 0=x at *;generalize m.getD k 0=y at *
     by_cases hge:x+c+y<1000000000
     ·have hge':decide ((1000000000:Int)≤(x:Int)+(c:Int)+(y:Int))=false:=by rw [decide_eq_false_iff_not];omega
      have HG:=zh hge;clear hge;go_wp2_with (at_builtin;refine wpList_append_fits _ rfl (.tmp 44) (.tmp 46) Fy rfl w.heap.size 65 i0 1 FW hi hz1 w.heap.size k (l.length+1) _ rfl (hown.alloc _) ⟨wr.heap.size,0,none⟩ 1 1 [.int .u32 ((x:Int)+(c:Int)+(y:Int))] rfl rfl (by intro t u ht;match t,ht with|0,ht=>simp at ht;subst ht;simp [Addr.add]) (by intro u hu;simp at hu;subst hu;rfl) zo ?_)
      intro w1 hown1 hgrow1
      have hown2:w1.ownsRow w.heap.size 65 1 (.slice (some ⟨w.heap.size,0,none⟩) (k+1) (l.length+1)) (k+1) (bH (s++[x+c+y])):=by
       have e:bH (s++[x+c+y])=bH s++[.int .u32 ((x:Int)+(c:Int)+(y:Int))]:=by have:=HG.out;unfold bH;simp only [List.map_append,List.map_cons,List.map_nil];rw [show ((x+c+y:Nat):Int)=(x:Int)+(c:Int)+(y:Int) by omega]
       rw [e];exact hown1
      have hb2:Below w.heap.size w w1:=(hb.alloc hb.size _).grown hgrow1 (by simp;have:=hb.size;omega) (fun k hk=>by cases hk;exact Nat.le_refl _);clear hown hown1 hgrow1
      go_wp2
      go_roundw
      case rel=>exact ⟨k+1,0,s++[x+c+y],by omega,by omega,by rw [List.length_append,HS.out];rfl,by go_num,rfl,rfl,hown2,hds.snoc (by have:=HG.out;omega),kJ.out _ _ (by have:=HG.out;omega),hb2⟩
      case measure=>exact zM
     ·have hge':decide ((1000000000:Int)≤(x:Int)+(c:Int)+(y:Int))=true:=by rw [decide_eq_true_iff];omega
      have ap2:(0:Int)≤(x:Int)+(c:Int)+(y:Int) - 1000000000:=by omega
      have HG:=zh hge;clear hge;go_wp2_with (at_builtin;refine wpList_append_fits _ rfl (.tmp 44) (.tmp 46) Fy rfl w.heap.size 65 i0 1 FW hi hz1 w.heap.size k (l.length+1) _ rfl (hown.alloc _) ⟨wr.heap.size,0,none⟩ 1 1 [.int .u32 ((x:Int)+(c:Int)+(y:Int) - 1000000000)] rfl rfl (by intro t u ht;match t,ht with|0,ht=>simp at ht;subst ht;simp [Addr.add]) (by intro u hu;simp at hu;subst hu;rfl) zo ?_)
      intro w1 hown1 hgrow1
      have hown2:w1.ownsRow w.heap.size 65 1 (.slice (some ⟨w.heap.size,0,none⟩) (k+1) (l.length+1)) (k+1) (bH (s++[x+c+y - 1000000000])):=by
       have e:bH (s++[x+c+y - 1000000000])=bH s++[.int .u32 ((x:Int)+(c:Int)+(y:Int) - 1000000000)]:=by have:=HG.out;unfold bH;simp only [List.map_append,List.map_cons,List.map_nil];rw [show ((x+c+y - 1000000000:Nat):Int)=(x:Int)+(c:Int)+(y:Int) - 1000000000 by omega]
       rw [e];exact hown1
      have hb2:Below w.heap.size w w1:=(hb.alloc hb.size _).grown hgrow1 (by simp;have:=hb.size;omega) (fun k hk=>by cases hk;exact Nat.le_refl _);clear hown hown1 hgrow1
      go_wp2
      go_roundw
      case rel=>exact ⟨k+1,1,s++[x+c+y - 1000000000],by omega,by omega,by rw [List.length_append,HS.out];rfl,by go_num,rfl,rfl,hown2,hds.snoc (by have:=HG.out;omega),kJ.out _ _ (by have:=HG.out;omega),hb2⟩
      case measure=>exact zM
    ·have hm0:m.getD k 0=0:=by simp [Nat.le_of_not_lt hkm]
     rw [hm0] at kJ;clear hm0 hd;generalize l.getD k 0=x at *
     by_cases hge:x+c<1000000000
     ·have hge':decide ((1000000000:Int)≤(x:Int)+(c:Int))=false:=by rw [decide_eq_false_iff_not];omega
      have HG:=zh hge;clear hge;go_wp2_with (at_builtin;refine wpList_append_fits _ rfl (.tmp 44) (.tmp 46) Fy rfl w.heap.size 65 i0 1 FW hi hz1 w.heap.size k (l.length+1) _ rfl (hown.alloc _) ⟨wr.heap.size,0,none⟩ 1 1 [.int .u32 ((x:Int)+(c:Int))] rfl rfl (by intro t u ht;match t,ht with|0,ht=>simp at ht;subst ht;simp [Addr.add]) (by intro u hu;simp at hu;subst hu;rfl) zo ?_)
      intro w1 hown1 hgrow1
      have hown2:w1.ownsRow w.heap.size 65 1 (.slice (some ⟨w.heap.size,0,none⟩) (k+1) (l.length+1)) (k+1) (bH (s++[x+c])):=by
       have e:bH (s++[x+c])=bH s++[.int .u32 ((x:Int)+(c:Int))]:=by have:=HG.out;unfold bH;simp only [List.map_append,List.map_cons,List.map_nil];rw [show ((x+c:Nat):Int)=(x:Int)+(c:Int) by omega]
       rw [e];exact hown1
      have hb2:Below w.heap.size w w1:=(hb.alloc hb.size _).grown hgrow1 (by simp;have:=hb.size;omega) (fun k hk=>by cases hk;exact Nat.le_refl _);clear hown hown1 hgrow1
      go_wp2
      go_roundw
      case rel=>exact ⟨k+1,0,s++[x+c],by omega,by omega,by rw [List.length_append,HS.out];rfl,by go_num,rfl,rfl,hown2,hds.snoc (by have:=HG.out;omega),kJ.out _ _ (by have:=HG.out;omega),hb2⟩
      case measure=>exact zM
     ·have hge':decide ((1000000000:Int)≤(x:Int)+(c:Int))=true:=by rw [decide_eq_true_iff];omega
      have ap2:(0:Int)≤(x:Int)+(c:Int) - 1000000000:=by omega
      have HG:=zh hge;clear hge;go_wp2_with (at_builtin;refine wpList_append_fits _ rfl (.tmp 44) (.tmp 46) Fy rfl w.heap.size 65 i0 1 FW hi hz1 w.heap.size k (l.length+1) _ rfl (hown.alloc _) ⟨wr.heap.size,0,none⟩ 1 1 [.int .u32 ((x:Int)+(c:Int) - 1000000000)] rfl rfl (by intro t u ht;match t,ht with|0,ht=>simp at ht;subst ht;simp [Addr.add]) (by intro u hu;simp at hu;subst hu;rfl) zo ?_)
      intro w1 hown1 hgrow1
      have hown2:w1.ownsRow w.heap.size 65 1 (.slice (some ⟨w.heap.size,0,none⟩) (k+1) (l.length+1)) (k+1) (bH (s++[x+c - 1000000000])):=by
       have e:bH (s++[x+c - 1000000000])=bH s++[.int .u32 ((x:Int)+(c:Int) - 1000000000)]:=by have:=HG.out;unfold bH;simp only [List.map_append,List.map_cons,List.map_nil];rw [show ((x+c - 1000000000:Nat):Int)=(x:Int)+(c:Int) - 1000000000 by omega]
       rw [e];exact hown1
      have hb2:Below w.heap.size w w1:=(hb.alloc hb.size _).grown hgrow1 (by simp;have:=hb.size;omega) (fun k hk=>by cases hk;exact Nat.le_refl _);clear hown hown1 hgrow1
      go_wp2
      go_roundw
      case rel=>exact ⟨k+1,1,s++[x+c - 1000000000],by omega,by omega,by rw [List.length_append,HS.out];rfl,by go_num,rfl,rfl,hown2,hds.snoc (by have:=HG.out;omega),kJ.out _ _ (by have:=HG.out;omega),hb2⟩
      case measure=>exact zM
   ·have hkk:k=l.length:=by omega
    subst hkk;clear hc hd
    have qZ:Hid (val 1000000000 s+c*1000000000^l.length=val 1000000000 l+val 1000000000 m):=by
     have:=HV.out;rwa [List.take_length,List.take_of_length_le hml] at this
    clear HV
    rcases Nat.eq_zero_or_pos c with h0|h0
    ·subst h0
     go_wp2
     go_ret
     refine ⟨s,_,rfl,hb,jY.dN hown,hds,by have:=qZ.out;simpa using this,Nat.le_of_eq HS.out.symm,fun h=>absurd h (by rw [HS.out];exact Nat.lt_irrefl _)⟩
    ·have hc1':c=1:=by omega
     subst hc1';go_wp2_with (at_builtin;refine wpList_append_fits _ rfl (.tmp 51) (.tmp 53) Fy rfl w.heap.size 65 i0 1 FW hi hz1 w.heap.size l.length (l.length+1) _ rfl (hown.alloc _) ⟨wr.heap.size,0,none⟩ 1 1 [.int .u32 1] rfl rfl (by intro t u ht;match t,ht with|0,ht=>simp at ht;subst ht;simp [Addr.add]) (by intro u hu;simp at hu;subst hu;rfl) zo ?_)
     intro w1 hown1 hgrow1
     have hown2:w1.ownsRow w.heap.size 65 1 (.slice (some ⟨w.heap.size,0,none⟩) (l.length+1) (l.length+1)) (l.length+1) (bH (s++[1])):=by
      have e:bH (s++[1])=bH s++[.int .u32 1]:=by simp [bH]
      rw [e];exact hown1
     have hb2:Below w.heap.size w w1:=(hb.alloc hb.size _).grown hgrow1 (by simp;have:=hb.size;omega) (fun k hk=>by cases hk;exact Nat.le_refl _);clear hown hown1 hgrow1
     go_wp2
     go_ret
     refine ⟨s++[1],_,rfl,hb2,jY.dN hown2,hds.snoc zo,?_,by rw [List.length_append,HS.out];exact Nat.le_add_right _ _,fun _=>Top.snoc zo⟩;have:=qZ.out;rw [fU,HS.out,Nat.mul_one]
     rwa [Nat.one_mul] at this):G:=h
theorem vV (pl ps:Option Addr) (cl cs:Nat) (l m:List Nat) (v0 v1:Value) (w:World) (hl:dz 1000000000 l) (hmd:dz 1000000000 m) (hb1:l.length≤1099511627776) (hml:m.length≤l.length)
   (hv:(v0= .slice pl l.length cl∧v1= .slice ps m.length cs)∨(v1= .slice pl l.length cl∧v0= .slice ps m.length cs∧m.length<l.length))
   (hc:∀ k,k<l.length→∃ b off,pl=some ⟨b,off,none⟩∧b<w.heap.size∧w.cell? ⟨b,off+k,none⟩=some (.int .u32 (l.getD k 0:Nat)))
   (hd:∀ k,k<m.length→∃ b off,ps=some ⟨b,off,none⟩∧b<w.heap.size∧w.cell? ⟨b,off+k,none⟩=some (.int .u32 (m.getD k 0:Nat))) :
    Calls Tryz.prog 241 #[v0,v1] w fun e w'=>∃ s v,e= .returned v∧Below w.heap.size w w'∧jY w' v s∧dz 1000000000 s∧val 1000000000 s=val 1000000000 l+val 1000000000 m∧l.length≤s.length∧(l.length<s.length→Top s):=af7
theorem _root_.Go.zs12 {G:Prop} (h:G:=by
 have fin:∀ (l m s:List Nat) (w':World) (v:Value),Top l→jY w' v s→dz 1000000000 s→val 1000000000 s=val 1000000000 l+val 1000000000 m→l.length≤s.length→(l.length<s.length→Top s)→aK w' v (val 1000000000 l+val 1000000000 m):=fun l m s w' v ht h1 h2 h3 h4 h5=>by
  rw [← h3];refine aK.QH h1 h2 ?_
  by_cases h:l.length<s.length
  ·exact h5 h
  ·exact Je zo ht h2 zo zo
 obtain ⟨pa,ca,rfl,h1,h2,h3⟩:=jY.read hx.yw;obtain ⟨pb,cb,rfl,k1,k2,k3⟩:=jY.read hy.yw
 by_cases hlt:(bg 1000000000 a).length<(bg 1000000000 b).length
 ·refine (vV pb pa cb ca _ _ _ _ w (aR zo b) (aR zo a) hb zo (.inr ⟨rfl,rfl,hlt⟩) k3 h3).mono ?_;rintro e w' ⟨s,v,rfl,hbl,q1,q2,q3,q4,q5⟩;refine ⟨v,rfl,hbl,?_⟩;have:=fin _ _ s w' v (kC zo b) q1 q2 q3 q4 q5
  rwa [aM zo,aM zo,Nat.add_comm] at this
 ·refine (vV pa pb ca cb _ _ _ _ w (aR zo a) (aR zo b) ha zo (.inl ⟨rfl,rfl⟩) h3 k3).mono ?_;rintro e w' ⟨s,v,rfl,hbl,q1,q2,q3,q4,q5⟩;refine ⟨v,rfl,hbl,?_⟩;have:=fin _ _ s w' v (kC zo a) q1 q2 q3 q4 q5
  rwa [aM zo,aM zo] at this):G:=h
theorem Dz (x y:Value) (a b:Nat) (w:World) (hx:aK w x a) (hy:aK w y b) (ha:sz 1000000000 a≤1099511627776) (hb:sz 1000000000 b≤1099511627776) :
  Calls Tryz.prog 241 #[x,y] w fun e w'=>∃ v,e= .returned v∧Below w.heap.size w w'∧aK w' v (a+b):=zs12
theorem _root_.Go.af6 {G:Prop} (h:G:=by
 obtain ⟨i0,hi,hz0,hz1,hz2⟩:=info_parts zK;have Pw:=zh hle;clear hle;go_enter ai2,ai1
 go_wp2_with (at_make;refine wpList_make_full _ rfl _ _ Fy rfl w.heap.size 65 i0 (.int .u32 0) 1 FW hi hz0 hz1 _ _ _ _ l.length rfl rfl zo zo (by rw [hz2];omega) (by unfold maxLen;omega) (Nat.le_refl _) ?_)
 intro w0 hown0 jT;rw [qJ] at hown0
 go_wp2
 go_loopw [6,7,8,9,15] (fun cv _ _ _ kv wr=>∃ (k c:Nat) (s:List Nat),k≤l.length∧c≤1∧Hid (s.length=k)∧kv= .int .i64 k∧cv= .int .u32 c ∧
   wr.ownsRow w.heap.size 65 1 (.slice (some ⟨w.heap.size,0,none⟩) l.length l.length) l.length (bH (s++List.replicate (l.length - k) 0))∧dz 1000000000 s∧Hid (val 1000000000 s+val 1000000000 (m.take k)=val 1000000000 (l.take k)+c*1000000000^k)∧Below w.heap.size w wr)
  (fun _ _ _ _ kv _=>l.length - (intOf kv).toNat)
 case atStart=>exact ⟨0,0,[],Nat.zero_le _,by omega,rfl,rfl,rfl,by simpa using hown0,dz.nil,(by simp [val]:val _ _+val _ _=val _ _+0*_),(Below.refl _ _).grown jT (Nat.le_refl _) (fun k h=>by cases h)⟩
 case round =>
  obtain ⟨k,c,s,hk,hc1,HS,rfl,rfl,hown,hds,HV,hb⟩:=hrel
  by_cases hkl:k<l.length
  ·obtain ⟨b,off,rfl,hbb,hx0⟩:=hc k hkl;have hx:wr.cell? ⟨b,off+k,none⟩=some (.int .u32 (l.getD k 0:Nat)):=(hb.cell (by exact hbb)).trans hx0;have hdl:l.getD k 0<1000000000:=hl.getD zo k
   have hr1:wr.cell? ⟨w.heap.size,k,none⟩=some (.int .u32 0):=by
    rw [hown.cellAt k zo,mM (by rw [List.length_append,HS.out,List.length_replicate];omega),Sb HS.out];rfl
   have hr2:wr.frozen? ⟨w.heap.size,k,none⟩=false:=hown.frozenAt k
   have HP:Hid (∀ d c',d+m.getD k 0+c=l.getD k 0+c'*1000000000→val 1000000000 (s++[d])+val 1000000000 (m.take (k+1))=val 1000000000 (l.take (k+1))+c'*1000000000^(k+1)) :=
    fun d c' h=>zA hkl HS.out HV.out h
   have HO:Hid (∀ d:Nat,(wr.setCell ⟨w.heap.size,k,none⟩ (.int .u32 (d:Int))).ownsRow w.heap.size 65 1 (.slice (some ⟨w.heap.size,0,none⟩) l.length l.length) l.length (bH ((s++[d])++List.replicate (l.length - (k+1)) 0))∧Below w.heap.size w (wr.setCell ⟨w.heap.size,k,none⟩ (.int .u32 (d:Int)))):=fun d=>by
    have h1:=(hown.stored k (.int .u32 (d:Int))).1;rw [jO,set_mid HS.out hkl] at h1;exact ⟨h1,hb.setCell (Nat.le_refl _) _⟩
   clear hx0 hc hown
   by_cases hkm:k<m.length
   ·obtain ⟨b2,off2,rfl,D8,hy0⟩:=hd k hkm;have hy:wr.cell? ⟨b2,off2+k,none⟩=some (.int .u32 (m.getD k 0:Nat)):=(hb.cell (by exact D8)).trans hy0;have JU:m.getD k 0<1000000000:=hmd.getD zo k;clear hy0 hd;generalize l.getD k 0=x at *;generalize m.getD k 0=y at *
    by_cases hge:x<c+y
    ·have kK:=HO.out (x+1000000000 - (c+y));rw [show ((x+1000000000 - (c+y):Nat):Int)=(x:Int)+1000000000 - ((c:Int)+(y:Int)) by omega] at kK;have nI:=zh kK;clear kK HO
     go_wp2
     go_roundw
     case rel=>exact ⟨k+1,1,s++[x+1000000000 - (c+y)],by omega,by omega,zh (by rw [List.length_append,HS.out];rfl),by go_num,rfl,nI.out.1,hds.snoc zo,HP.out _ _ zo,nI.out.2⟩
     case measure=>exact zM
    ·have kK:=HO.out (x - (c+y));rw [show ((x - (c+y):Nat):Int)=(x:Int) - ((c:Int)+(y:Int)) by omega] at kK;have nI:=zh kK;clear kK HO
     go_wp2
     go_roundw
     case rel=>exact ⟨k+1,0,s++[x - (c+y)],by omega,by omega,zh (by rw [List.length_append,HS.out];rfl),by go_num,rfl,nI.out.1,hds.snoc zo,HP.out _ _ zo,nI.out.2⟩
     case measure=>exact zM
   ·have hm0:m.getD k 0=0:=by simp [Nat.le_of_not_lt hkm]
    rw [hm0] at HP;clear hm0 hd;generalize l.getD k 0=x at *
    by_cases hge:x<c
    ·have kK:=HO.out (x+1000000000 - c);rw [show ((x+1000000000 - c:Nat):Int)=(x:Int)+1000000000 - (c:Int) by omega] at kK;have nI:=zh kK;clear kK HO
     go_wp2
     go_roundw
     case rel=>exact ⟨k+1,1,s++[x+1000000000 - c],by omega,by omega,zh (by rw [List.length_append,HS.out];rfl),by go_num,rfl,nI.out.1,hds.snoc zo,HP.out _ _ zo,nI.out.2⟩
     case measure=>exact zM
    ·have kK:=HO.out (x - c);rw [show ((x - c:Nat):Int)=(x:Int) - (c:Int) by omega] at kK;have nI:=zh kK;clear kK HO
     go_wp2
     go_roundw
     case rel=>exact ⟨k+1,0,s++[x - c],by omega,by omega,zh (by rw [List.length_append,HS.out];rfl),by go_num,rfl,nI.out.1,hds.snoc zo,HP.out _ _ zo,nI.out.2⟩
     case measure=>exact zM
  ·have hkk:k=l.length:=by omega
   subst hkk;clear hc hd
   have qZ:val 1000000000 s+val 1000000000 m=val 1000000000 l+c*1000000000^l.length:=by
    have:=HV.out;rwa [List.take_length,List.take_of_length_le hml] at this
   have hvs:val 1000000000 s<1000000000^l.length:=by have:=eD zo hds;rwa [HS.out] at this
   have hc0:c=0:=by
    rcases Nat.eq_zero_or_pos c with h|h
    ·exact h
    ·exfalso
     have:c=1:=by omega
     subst this;have:=Pw.out;omega
   have HF:Hid (val 1000000000 s=val 1000000000 l - val 1000000000 m):=by subst hc0;unfold Hid;omega
   clear HV qZ hvs Pw
   have hown3:jY wr (.slice (some ⟨w.heap.size,0,none⟩) l.length l.length) s:=by
    have:=jY.dN hown;rwa [Nat.sub_self,List.replicate_zero,List.append_nil] at this
   clear hown;go_wp2_with ((first|go_at_call 211|go_at_call 116);refine (kW _ _ _ hown3 hds).mono ?_;rintro e w' ⟨v,rfl,rfl,hv⟩)
   go_ret
   exact ⟨v,rfl,hb,by rw [← HF.out];exact hv⟩):G:=h
theorem zy (pl ps:Option Addr) (cl cs:Nat) (l m:List Nat) (w:World) (hl:dz 1000000000 l) (hmd:dz 1000000000 m) (hb1:l.length≤1099511627776) (hml:m.length≤l.length) (hle:val 1000000000 m≤val 1000000000 l)
   (hc:∀ k,k<l.length→∃ b off,pl=some ⟨b,off,none⟩∧b<w.heap.size∧w.cell? ⟨b,off+k,none⟩=some (.int .u32 (l.getD k 0:Nat)))
   (hd:∀ k,k<m.length→∃ b off,ps=some ⟨b,off,none⟩∧b<w.heap.size∧w.cell? ⟨b,off+k,none⟩=some (.int .u32 (m.getD k 0:Nat))) :
    Calls Tryz.prog 242 #[.slice pl l.length cl,.slice ps m.length cs] w fun e w'=>∃ v,e= .returned v∧Below w.heap.size w w'∧aK w' v (val 1000000000 l - val 1000000000 m):=af6
theorem _root_.Go.af5 {G:Prop} (h:G:=by
 obtain ⟨pa,ca,rfl,h1,h2,h3⟩:=jY.read hx.yw;obtain ⟨pb,cb,rfl,k1,k2,k3⟩:=jY.read hy.yw;have:=zy pa pb ca cb _ _ w (aR zo a) (aR zo b) ha (dM zo hle) (by rw [aM zo,aM zo];exact hle) h3 k3
 rwa [aM zo,aM zo] at this):G:=h
theorem zB (x y:Value) (a b:Nat) (w:World) (hx:aK w x a) (hy:aK w y b) (ha:sz 1000000000 a≤1099511627776) (hle:b≤a) :
  Calls Tryz.prog 242 #[x,y] w fun e w'=>∃ v,e= .returned v∧Below w.heap.size w w'∧aK w' v (a - b):=af5
theorem Li {x y:Nat} (hx:x<1000000000) (hy:y<1000000000):(0:Int)≤(x:Int)*(y:Int)∧(x:Int)*(y:Int)≤999999998000000001:=by
 have h:x*y≤999999999*999999999:=Nat.mul_le_mul zo zo;rw [← Int.natCast_mul];omega
theorem _root_.Go.af4 {G:Prop} (h:G:=by
 obtain ⟨i0,hi,hz0,hz1,hz2⟩:=info_parts zK;go_enter ai0,ah9
 go_wp2_with (at_make;refine wpList_make_full _ rfl _ _ Fy rfl w.heap.size 65 i0 (.int .u32 0) 1 FW hi hz0 hz1 _ _ _ _ (l.length+m.length) rfl rfl zo zo (by rw [hz2];omega) (by unfold maxLen;omega) (Nat.le_refl _) ?_)
 intro w0 hown0 jT;rw [qJ] at hown0
 go_wp2
 go_loopw [6,7,8,9,10,19,26] (fun _ _ _ _ _ iv _ wr=>∃ (i:Nat) (p:List Nat),i≤l.length∧iv= .int .i64 i∧Hid (p.length=l.length+m.length)∧(∀ t,i+m.length≤t→p.getD t 0=0) ∧
   wr.ownsRow w.heap.size 65 1 (.slice (some ⟨w.heap.size,0,none⟩) (l.length+m.length) (l.length+m.length)) (l.length+m.length) (bH p)∧dz 1000000000 p∧Hid (val 1000000000 p=val 1000000000 (l.take i)*val 1000000000 m)∧Below w.heap.size w wr)
  (fun _ _ _ _ _ iv _ _=>l.length - (intOf iv).toNat)
 case atStart=>exact ⟨0,List.replicate (l.length+m.length) 0,Nat.zero_le _,rfl,zh zi,fun t _=>by simp [List.getD,List.getElem?_replicate];split<;>rfl,hown0,fun x hx=>by rw [List.eq_of_mem_replicate hx];omega,zh (by rw [vR];simp [val]),(Below.refl _ _).grown jT (Nat.le_refl _) (fun k h=>by cases h)⟩
 case round =>
  obtain ⟨i,p,hil,rfl,HL,hz,hown,hdp,HV,hb⟩:=hrel;have HZ:=zh hz;clear hz
  by_cases hlt:i<l.length
  ·obtain ⟨b,off,rfl,hbb,hx0⟩:=hc i hlt;have hx:wr.cell? ⟨b,off+i,none⟩=some (.int .u32 (l.getD i 0:Nat)):=(hb.cell (by exact hbb)).trans hx0;have hdl:l.getD i 0<1000000000:=hl.getD zo i;clear hx0 hc;have HD:Hid (l.getD i 0=l.getD i 0):=rfl
   revert HD
   generalize wD:l.getD i 0=x at hx hdl;have HX:=zh wD;clear wD;intro _;obtain ⟨wo,rfl⟩:∃ wo:World,wo=wr:=⟨_,rfl⟩
   go_wp2
   go_loopw [8,9,10,26] (fun cv _ _ jv wq=>∃ (j c:Nat) (q:List Nat),j≤m.length∧c<1000000000∧jv= .int .i64 j∧cv= .int .u64 c∧Hid (q.length=l.length+m.length)∧Hid (∀ t,i+m.length≤t→q.getD t 0=0) ∧
     wq.ownsRow w.heap.size 65 1 (.slice (some ⟨w.heap.size,0,none⟩) (l.length+m.length) (l.length+m.length)) (l.length+m.length) (bH q)∧dz 1000000000 q∧Hid (val 1000000000 q+c*1000000000^(i+j)=val 1000000000 (l.take i)*val 1000000000 m+1000000000^i*(x*val 1000000000 (m.take j)))∧Below w.heap.size w wq)
    (fun _ _ _ jv _=>m.length - (intOf jv).toNat)
   case atStart=>exact ⟨0,0,p,Nat.zero_le _,by omega,rfl,rfl,HL,HZ,hown,hdp,zh (by rw [HV.out];simp [val]),hb⟩
   case round =>
    obtain ⟨j,c,q,hjl,hcb,rfl,rfl,OY,OT,hown,xu,WX,hb⟩:=hrel
    by_cases hjlt:j<m.length
    ·obtain ⟨b2,off2,rfl,D8,hy0⟩:=hd j hjlt;have hy:wr.cell? ⟨b2,off2+j,none⟩=some (.int .u32 (m.getD j 0:Nat)):=(hb.cell (by exact D8)).trans hy0;have JU:m.getD j 0<1000000000:=hmd.getD zo j;have hij:i+j<q.length:=by have:=OY.out;omega
     have hq1:wr.cell? ⟨w.heap.size,i+j,none⟩=some (.int .u32 (q.getD (i+j) 0:Nat)):=by rw [hown.cellAt (i+j) zo,mM hij]
     have hq2:wr.frozen? ⟨w.heap.size,i+j,none⟩=false:=hown.frozenAt (i+j);have ZR:q.getD (i+j) 0<1000000000:=xu.getD zo (i+j);have HS:=zh (yR hjlt hij WX.out);have HC:=zh (wV hcb ZR hdl JU)
     have HO:Hid (∀ d:Nat,d<1000000000→(wr.setCell ⟨w.heap.size,i+j,none⟩ (.int .u32 (d:Int))).ownsRow w.heap.size 65 1 (.slice (some ⟨w.heap.size,0,none⟩) (l.length+m.length) (l.length+m.length)) (l.length+m.length) (bH (q.set (i+j) d)) ∧
       Below w.heap.size w (wr.setCell ⟨w.heap.size,i+j,none⟩ (.int .u32 (d:Int)))∧dz 1000000000 (q.set (i+j) d)∧(q.set (i+j) d).length=l.length+m.length∧(∀ t,i+m.length≤t→(q.set (i+j) d).getD t 0=0)):=fun d hd=>by
      have h1:=(hown.stored (i+j) (.int .u32 (d:Int))).1;rw [jO] at h1;exact ⟨h1,hb.setCell (Nat.le_refl _) _,xu.set _ hd,by rw [List.length_set];exact OY.out,fun t ht=>by rw [yu zo];exact OT.out t ht⟩
     clear hy0 hd hown WX xu OY OT hij;generalize m.getD j 0=y at *;generalize q.getD (i+j) 0=z at *;obtain ⟨hp1,hp2⟩:=Li hdl JU;have hr:((((c+(z+x*y))%1000000000:Nat)):Int)=((c:Int)+((z:Int)+(x:Int)*(y:Int)))%1000000000:=by rw [Int.natCast_emod,Int.natCast_add,Int.natCast_add,Int.natCast_mul];rfl
     have hq:((((c+(z+x*y)) / 1000000000:Nat)):Int)=((c:Int)+((z:Int)+(x:Int)*(y:Int))) / 1000000000:=by rw [Int.natCast_ediv,Int.natCast_add,Int.natCast_add,Int.natCast_mul];rfl
     have kK:=HO.out _ (Nat.mod_lt (c+(z+x*y)) zo);rw [hr] at kK;have nI:=zh kK;have HR:=zh hq;clear HO kK hr hq
     go_wp2
     go_roundw
     case rel=>exact ⟨j+1,(c+(z+x*y)) / 1000000000,q.set (i+j) ((c+(z+x*y))%1000000000),by omega,HC.out,by go_num,by rw [HR.out],zh nI.out.2.2.2.1,zh nI.out.2.2.2.2,nI.out.1,nI.out.2.2.1,zh (by rw [← Nat.add_assoc i j 1];exact HS.out),nI.out.2.1⟩
     case measure=>exact zM
    ·have hjm:j=m.length:=by omega
     subst hjm;have hij:i+m.length<q.length:=by have:=OY.out;omega
     have hq1:wr.cell? ⟨w.heap.size,i+m.length,none⟩=some (.int .u32 0):=by rw [hown.cellAt (i+m.length) zo,mM hij,OT.out _ (Nat.le_refl _)];rfl
     have hq2:wr.frozen? ⟨w.heap.size,i+m.length,none⟩=false:=hown.frozenAt (i+m.length)
     have HF:Hid (val 1000000000 (q.set (i+m.length) c)=val 1000000000 (l.take (i+1))*val 1000000000 m) :=
      wU hlt hij (OT.out _ (Nat.le_refl _)) (by have:=WX.out;rw [List.take_length] at this;rw [HX.out];exact this)
     have HO:Hid ((wr.setCell ⟨w.heap.size,i+m.length,none⟩ (.int .u32 (c:Int))).ownsRow w.heap.size 65 1 (.slice (some ⟨w.heap.size,0,none⟩) (l.length+m.length) (l.length+m.length)) (l.length+m.length) (bH (q.set (i+m.length) c)) ∧
       Below w.heap.size w (wr.setCell ⟨w.heap.size,i+m.length,none⟩ (.int .u32 (c:Int)))∧dz 1000000000 (q.set (i+m.length) c)∧(q.set (i+m.length) c).length=l.length+m.length∧(∀ t,i+1+m.length≤t→(q.set (i+m.length) c).getD t 0=0)):=by
      have h1:=(hown.stored (i+m.length) (.int .u32 (c:Int))).1;rw [jO] at h1;exact ⟨h1,hb.setCell (Nat.le_refl _) _,xu.set _ hcb,by rw [List.length_set];exact OY.out,fun t ht=>by rw [yu zo];exact OT.out t zo⟩
     clear hown WX xu OY OT hij hd
     go_wp2
     go_roundw
     case rel=>exact ⟨i+1,q.set (i+m.length) c,by omega,by go_num,zh HO.out.2.2.2.1,HO.out.2.2.2.2,HO.out.1,HO.out.2.2.1,HF,HO.out.2.1⟩
     case measure=>exact zM
  ·have ZN:i=l.length:=by omega
   subst ZN;clear hc hd;have HF:Hid (val 1000000000 p=val 1000000000 l*val 1000000000 m):=by have:=HV.out;rwa [List.take_length] at this
   have hown3:jY wr (.slice (some ⟨w.heap.size,0,none⟩) (l.length+m.length) (l.length+m.length)) p:=jY.dN hown;clear hown HV;go_wp2_with ((first|go_at_call 211|go_at_call 116);refine (kW _ _ _ hown3 hdp).mono ?_;rintro e w' ⟨v,rfl,rfl,hv⟩)
   go_ret
   exact ⟨v,rfl,hb,by rw [← HF.out];exact hv⟩):G:=h
theorem yQ (pl ps:Option Addr) (cl cs:Nat) (l m:List Nat) (w:World) (hl:dz 1000000000 l) (hmd:dz 1000000000 m) (hb1:l.length≤1099511627776) (hb2:m.length≤1099511627776)
   (hc:∀ k,k<l.length→∃ b off,pl=some ⟨b,off,none⟩∧b<w.heap.size∧w.cell? ⟨b,off+k,none⟩=some (.int .u32 (l.getD k 0:Nat)))
   (hd:∀ k,k<m.length→∃ b off,ps=some ⟨b,off,none⟩∧b<w.heap.size∧w.cell? ⟨b,off+k,none⟩=some (.int .u32 (m.getD k 0:Nat))) :
    Calls Tryz.prog 156 #[.slice pl l.length cl,.slice ps m.length cs] w fun e w'=>∃ v,e= .returned v∧Below w.heap.size w w'∧aK w' v (val 1000000000 l*val 1000000000 m):=af4
theorem _root_.Go.af3 {G:Prop} (h:G:=by
 obtain ⟨pa,ca,rfl,h1,h2,h3⟩:=jY.read hx.yw;obtain ⟨pb,cb,rfl,k1,k2,k3⟩:=jY.read hy.yw;have:=yQ pa pb ca cb _ _ w (aR zo a) (aR zo b) ha hb h3 k3
 rwa [aM zo,aM zo] at this):G:=h
theorem iD (x y:Value) (a b:Nat) (w:World) (hx:aK w x a) (hy:aK w y b) (ha:sz 1000000000 a≤1099511627776) (hb:sz 1000000000 b≤1099511627776) :
  Calls Tryz.prog 156 #[x,y] w fun e w'=>∃ v,e= .returned v∧Below w.heap.size w w'∧aK w' v (a*b):=af3
theorem _root_.Go.af2 {G:Prop} (h:G:=by
 obtain ⟨i0,hi,hz0,hz1,hz2⟩:=info_parts zK;go_enter ah8,ah7
 go_wp2_with (at_make;refine wpList_make_full _ rfl _ _ Fy rfl w.heap.size 65 i0 (.int .u32 0) 1 FW hi hz0 hz1 _ _ _ _ l.length rfl rfl zo zo (by rw [hz2];omega) (by unfold maxLen;omega) (Nat.le_refl _) ?_)
 intro w0 hown0 jT;rw [qJ] at hown0
 go_wp2
 go_loopw [7,8] (fun rv iv wr=>∃ (q:Int) (r:Nat) (s:List Nat), -1≤q∧q<l.length∧r<d∧iv= .int .i64 q∧rv= .int .u64 r∧Hid (s.length=l.length - (q+1).toNat) ∧
   wr.ownsRow w.heap.size 65 1 (.slice (some ⟨w.heap.size,0,none⟩) l.length l.length) l.length (bH (List.replicate (q+1).toNat 0++s))∧dz 1000000000 s∧Hid (val 1000000000 (l.drop (q+1).toNat)=d*val 1000000000 s+r)∧Below w.heap.size w wr)
  (fun _ iv _=>(intOf iv+1).toNat)
 case atStart =>
  have e:((l.length:Int) - 1+1).toNat=l.length:=by omega
  exact ⟨(l.length:Int) - 1,0,[],by omega,by omega,hd0,rfl,rfl,zh (by rw [e];simp),by rw [e,List.append_nil];exact hown0,dz.nil,zh (by rw [e,List.drop_length];simp [val]),(Below.refl _ _).grown jT (Nat.le_refl _) (fun k h=>by cases h)⟩
 case round =>
  obtain ⟨q,r,s,hq1,hq2,hrd,rfl,rfl,HS,hown,hds,HV,hb⟩:=hrel
  by_cases hq:q<0
  ·have hq0:q= -1:=by omega
   subst hq0;have HF:Hid (val 1000000000 l=d*val 1000000000 s+r):=zh (by have:=HV.out;simpa using this);have hown3:jY wr (.slice (some ⟨w.heap.size,0,none⟩) l.length l.length) s:=by have:=jY.dN hown;simpa using this
   have e1:Hid (val 1000000000 l / d=val 1000000000 s):=by unfold Hid;rw [HF.out,Nat.mul_add_div hd0,Nat.div_eq_of_lt hrd,Nat.add_zero]
   have e2:Hid (val 1000000000 l%d=r):=by unfold Hid;rw [HF.out,Nat.mul_add_mod,Nat.mod_eq_of_lt hrd]
   clear hown HV HF HS hc;go_wp2_with ((first|go_at_call 211|go_at_call 116);refine (kW _ _ _ hown3 hds).mono ?_;rintro e w' ⟨v,rfl,rfl,hv⟩)
   go_ret2
   exact ⟨v,by rw [e2.out];rfl,hb,by rw [e1.out];exact hv⟩
  ·obtain ⟨j,rfl⟩:=Int.eq_ofNat_of_zero_le (by omega:0≤q);have ej:((j:Int)+1).toNat=j+1:=by omega
   have hjl:j<l.length:=by omega
   rw [ej] at HS HV hown;obtain ⟨b,off,rfl,hbb,hx0⟩:=hc j hjl;have hx:wr.cell? ⟨b,off+j,none⟩=some (.int .u32 (l.getD j 0:Nat)):=(hb.cell (by exact hbb)).trans hx0;have hdl:l.getD j 0<1000000000:=hl.getD zo j;have hlen:(List.replicate (j+1) 0++s).length=l.length:=by rw [List.length_append,List.length_replicate,HS.out];omega
   have hr1:wr.cell? ⟨w.heap.size,j,none⟩=some (.int .u32 0):=by
    rw [hown.cellAt j zo,mM (by rw [hlen];exact hjl),rH zo];rfl
   have hr2:wr.frozen? ⟨w.heap.size,j,none⟩=false:=hown.frozenAt j;have HP:=zh (yV hjl HV.out);have hdg:=wW hrd hdl;have hmd:=Nat.mod_lt (r*1000000000+l.getD j 0) hd0
   have HO:Hid (∀ d:Nat,(wr.setCell ⟨w.heap.size,j,none⟩ (.int .u32 (d:Int))).ownsRow w.heap.size 65 1 (.slice (some ⟨w.heap.size,0,none⟩) l.length l.length) l.length (bH (List.replicate j 0++d::s))∧Below w.heap.size w (wr.setCell ⟨w.heap.size,j,none⟩ (.int .u32 (d:Int)))):=fun d=>by
    have h1:=(hown.stored j (.int .u32 (d:Int))).1;rw [jO,uw] at h1;exact ⟨h1,hb.setCell (Nat.le_refl _) _⟩
   clear hx0 hc hown hlen;generalize l.getD j 0=x at *;have hqi:(((r*1000000000+x) / d:Nat):Int)=((r:Int)*1000000000+(x:Int)) / (d:Int):=by rw [Int.natCast_ediv,Int.natCast_add,Int.natCast_mul];rfl
   have RG:(((r*1000000000+x)%d:Nat):Int)=((r:Int)*1000000000+(x:Int))%(d:Int):=by rw [Int.natCast_emod,Int.natCast_add,Int.natCast_mul];rfl
   generalize (r*1000000000+x) / d=Q at *;generalize (r*1000000000+x)%d=M at *;have g1:0≤((r:Int)*1000000000+(x:Int)) / (d:Int):=by rw [← hqi];omega
   have g2:((r:Int)*1000000000+(x:Int)) / (d:Int)≤999999999:=by rw [← hqi];omega
   have g3:0≤((r:Int)*1000000000+(x:Int))%(d:Int):=by rw [← RG];omega
   have g4:((r:Int)*1000000000+(x:Int))%(d:Int)≤999999999:=by rw [← RG];omega
   have kK:=HO.out Q;rw [hqi] at kK;have nI:=zh kK;have HM:=zh RG;have HG:=zh hdg;have OX:=zh hmd;clear kK HO hqi RG hdg hmd
   go_wp2
   go_roundw
   case rel=>exact ⟨(j:Int) - 1,M,Q::s,by omega,by omega,OX.out,rfl,by rw [HM.out],zh (by rw [List.length_cons,HS.out];omega),by rw [show ((j:Int) - 1+1).toNat=j by omega];exact nI.out.1,hds.cons HG.out,zh (by rw [show ((j:Int) - 1+1).toNat=j by omega];exact HP.out),nI.out.2⟩
   case measure=>simp [intOf]):G:=h
theorem sU (pl:Option Addr) (cl:Nat) (l:List Nat) (d:Nat) (w:World) (hl:dz 1000000000 l) (hb1:l.length≤1099511627776) (hd0:0<d) (hd1:d≤1000000000)
   (hc:∀ k,k<l.length→∃ b off,pl=some ⟨b,off,none⟩∧b<w.heap.size∧w.cell? ⟨b,off+k,none⟩=some (.int .u32 (l.getD k 0:Nat))) :
    Calls Tryz.prog 209 #[.slice pl l.length cl,.int .u32 d] w fun e w'=>∃ v,e= .returned (.tuple #[v,.int .u32 (val 1000000000 l%d:Nat)])∧Below w.heap.size w w'∧aK w' v (val 1000000000 l / d):=af2
theorem yX (x:Value) (a d:Nat) (w:World) (hx:aK w x a) (ha:sz 1000000000 a≤1099511627776) (hd0:0<d) (hd1:d≤1000000000) :
  Calls Tryz.prog 209 #[x,.int .u32 d] w fun e w'=>∃ v,e= .returned (.tuple #[v,.int .u32 (a%d:Nat)])∧Below w.heap.size w w'∧aK w' v (a / d):=by
 obtain ⟨pa,ca,rfl,h1,h2,h3⟩:=jY.read hx.yw;have:=sU pa ca _ d w (aR zo a) ha hd0 hd1 h3
 rwa [aM zo] at this
theorem _root_.Go.af0 {G:Prop} (h:G:=by
 have HV0:=zh hv;clear hv;go_enter ah6,ah5
 go_wp2
 go_loop [3,4] (fun rv iv=>∃ (q:Int) (r:Nat), -1≤q∧q<l.length∧iv= .int .i64 q∧rv= .int .u64 r∧Hid (r=val 1000000000 (l.drop (q+1).toNat)))
  (fun _ iv=>(intOf iv+1).toNat)
 case atStart =>
  have e:((l.length:Int) - 1+1).toNat=l.length:=by omega
  exact ⟨(l.length:Int) - 1,0,by omega,by omega,rfl,rfl,zh (by rw [e,List.drop_length];rfl)⟩
 case round =>
  obtain ⟨q,r,hq1,hq2,rfl,rfl,HV⟩:=hrel
  by_cases hq:q<0
  ·have hq0:q= -1:=by omega
   subst hq0
   go_wp2
   go_ret
   exact ⟨by have:=HV.out;rw [show ((-1:Int)+1).toNat=0 by omega,List.drop_zero] at this;rw [← this];rfl,rfl⟩
  ·obtain ⟨j,rfl⟩:=Int.eq_ofNat_of_zero_le (by omega:0≤q);have ej:((j:Int)+1).toNat=j+1:=by omega
   have hjl:j<l.length:=by omega
   rw [ej] at HV;obtain ⟨b,off,rfl,hbb,hx⟩:=hc j hjl;have HS:=zh (oW (B:=1000000000) hjl)
   have hbd:r*1000000000+l.getD j 0≤18446744073709551615:=by
    have h1:=HS.out;have h2:=qd 1000000000 zo l j;have h3:=HV0.out;have h4:=HV.out;rw [← h4] at h1;omega
   clear hc;generalize l.getD j 0=x at *
   go_wp2
   go_round
   case rel=>exact ⟨(j:Int) - 1,r*1000000000+x,by omega,by omega,rfl,by go_num,zh (by rw [show ((j:Int) - 1+1).toNat=j by omega,HS.out,← HV.out])⟩
   case measure=>simp [intOf]):G:=h
theorem sS (pl:Option Addr) (cl:Nat) (l:List Nat) (w:World) (hm:l.length≤9223372036854775807) (hv:val 1000000000 l≤18446744073709551615)
   (hc:∀ k,k<l.length→∃ b off,pl=some ⟨b,off,none⟩∧b<w.heap.size∧w.cell? ⟨b,off+k,none⟩=some (.int .u32 (l.getD k 0:Nat))) :
    Calls Tryz.prog 208 #[.slice pl l.length cl] w fun e w'=>e= .returned (.int .u64 (val 1000000000 l:Nat))∧w=w':=af0
theorem yU (x:Value) (a:Nat) (w:World) (hx:aK w x a) (ha:a≤18446744073709551615) :
  Calls Tryz.prog 208 #[x] w fun e w'=>e= .returned (.int .u64 (a:Nat))∧w=w':=by
 obtain ⟨pa,ca,rfl,h1,h2,h3⟩:=jY.read hx.yw;have:=sS pa ca _ w zo (by rw [aM zo];exact ha) h3
 rwa [aM zo] at this
theorem _root_.Go.ae9 {G:Prop} (h:G:=by
 obtain ⟨i0,hi,hz0,hz1,hz2⟩:=info_parts zK;go_enter ah4,ah3
 go_wp2
 go_loopw [0,3] (fun av mv wr=>∃ (b:Nat) (s:List Nat),b≤18446744073709551615∧s.length≤3∧av= .int .u64 b∧wr.ownsRow w.heap.size 65 1 mv s.length (bH s)∧Hid (s++bg 1000000000 b=bg 1000000000 a)∧Below w.heap.size w wr)
  (fun av _ _=>(intOf av).toNat)
 case atStart=>exact ⟨a,[],ha,by simp,rfl,World.ownsRow_nil _ _ _ _,zh rfl,Below.refl _ _⟩
 case round =>
  obtain ⟨b,s,hb1,hb2,rfl,hown,HD,hb⟩:=hrel
  rcases Nat.eq_zero_or_pos b with h0|h0
  ·subst h0
   go_wp2
   go_ret
   refine ⟨_,rfl,hb,?_⟩;have e:=HD.out;rw [dS,List.append_nil] at e;subst e;exact Row.dN hown
  ·have HN:Hid ((s++[b%1000000000])++bg 1000000000 (b / 1000000000)=bg 1000000000 a):=by
    unfold Hid;rw [← HD.out,iL zo h0,List.append_assoc];rfl
   have hdv:b / 1000000000<b:=Nat.div_lt_self h0 zo
   have hl3:s.length+1≤3:=by
    have h1:=congrArg List.length HN.out;have h2:=aW (B:=1000000000) zo 3 a zo;unfold sz at h2;simp only [List.length_append,List.length_cons,List.length_nil] at h1;omega
   go_wp2_with (at_builtin;refine wpList_append_own _ rfl (.tmp 8) (.tmp 12) Fy rfl w.heap.size 65 i0 (.int .u32 0) 1 4 FW hi hz0 hz1 hz2 rfl zd _ _ _ rfl (hown.alloc _) ⟨wr.heap.size,0,none⟩ 1 1 [.int .u32 ((b:Int)%1000000000)] rfl rfl (by intro t u ht;match t,ht with|0,ht=>simp at ht;subst ht;simp [Addr.add]) (by intro u hu;simp at hu;subst hu;rfl) (by unfold maxLen;omega) zo (by have:=hb.size;simp;omega) ?_)
   intro v' w1 hown1 hgrow1 _
   have hown2:w1.ownsRow w.heap.size 65 1 v' (s++[b%1000000000]).length (bH (s++[b%1000000000])):=by
    have e:bH (s++[b%1000000000])=bH s++[.int .u32 ((b:Int)%1000000000)]:=by unfold bH;simp only [List.map_append,List.map_cons,List.map_nil];rfl
    rw [e,List.length_append];exact hown1
   have hb3:Below w.heap.size w w1:=(hb.alloc hb.size _).grown hgrow1 (by simp;have:=hb.size;omega) (fun k hk=>(hown.lt k hk).1);clear hown hown1 hgrow1
   go_wp2
   go_roundw
   case rel=>exact ⟨b / 1000000000,s++[b%1000000000],by omega,by rw [List.length_append];exact hl3,by go_num,hown2,HN,hb3⟩
   case measure=>simp [intOf];omega):G:=h
theorem lg (a:Nat) (w:World) (ha:a≤18446744073709551615) :
  Calls Tryz.prog 190 #[.int .u64 a] w fun e w'=>∃ v,e= .returned v∧Below w.heap.size w w'∧aK w' v a:=ae9
def vH (w:World) (g k:Nat) (pre u post v:List Nat) (e:Ending) (w':World):Prop :=
 e= .returned (.int .u32 (val 1000000000 u / val 1000000000 v:Nat))∧w.grownBy w' (some g) ∧
   ∃ s,au w' g (bH (pre++(s++[0])++post)).toArray 65∧s.length=k+2∧dz 1000000000 s∧val 1000000000 s=val 1000000000 u%val 1000000000 v
theorem _root_.Go.ae8 {G:Prop} (h:G:=by
 obtain ⟨bv,ov,rfl,hbg,hbv,_⟩:=hd 0 zo
 have hvc:∀ (w':World),w.grownBy w' (some g)→∀ i,i<k+2→w'.cell? ⟨bv,ov+i,none⟩=some (.int .u32 (v.getD i 0:Nat)):=fun w' hg i hi=>by
  obtain ⟨b,off,h1,h2,h3,h4⟩:=hd i hi;simp only [Option.some.injEq,Addr.mk.injEq,and_true] at h1;obtain ⟨rfl,rfl⟩:=h1;exact hg.cell h4 (by simpa using h2)
 have huc:∀ (w':World) (x:List Nat),x.length=k+3→au w' g (bH (pre++x++post)).toArray 65→∀ i,i<k+3→w'.cell? ⟨g,j+i,none⟩=some (.int .u32 (x.getD i 0:Nat)):=fun w' x hx hb i hi=>by
  rw [hb.cell,List.getElem?_toArray,mM (by simp;omega)];rw [List.getD_eq_getElem?_getD,List.append_assoc,List.getElem?_append_right zo,hj,Nat.add_sub_cancel_left,List.getElem?_append_left zo];rfl
 have HVC:=zh hvc;have Xa:=zh huc;have Xk:=zh ZV;have HLT:=zh hlt;have HU:=zh hu;have WY:=zh hv;have HJ:=zh hj;clear hvc huc hd ZV hlt hu hv hj;have h1:=HVC.out w ⟨rfl,rfl,rfl,Nat.le_refl _,fun _ _ _=>rfl⟩ (k+1) zo;have h2:=HVC.out w ⟨rfl,rfl,rfl,Nat.le_refl _,fun _ _ _=>rfl⟩ k zo;have h3:=Xa.out w u HU.out Xk.out (k+2) zo;have h4:=Xa.out w u HU.out Xk.out (k+1) zo;have h5:=Xa.out w u HU.out Xk.out k zo;have b1:=dv.getD zo (k+1);have b2:=dv.getD zo k;have b3:=du.getD zo (k+2);have b4:=du.getD zo (k+1);have b5:=du.getD zo k;have HG0:=zh (Ho zo HU.out WY.out du ht HLT.out dv);have HGS:=zh (fun q r=>J5 (k:=k) (q:=q) (r:=r) (by omega:1<1000000000) HU.out WY.out du zo HLT.out);have HGE:=zh (fun q r=>Oi (k:=k) (q:=q) (r:=r) (by omega:1<1000000000) HU.out WY.out dv zo);have aD8:=zh ht;clear ht;generalize hT:v.getD (k+1) 0=top at *
 generalize hV2:v.getD k 0=v2 at *;generalize hUN:u.getD (k+2) 0=un at *;generalize hU1:u.getD (k+1) 0=u1 at *;generalize hU2:u.getD k 0=u2 at *;have HT:=zh hT;have qZ:=zh hV2;have HUN:=zh hUN;have HU1:=zh hU1;have HU2:=zh hU2;clear hT hV2 hUN hU1 hU2;have htop:500000000≤top:=by have:=aD8.out;omega
 go_enter ah2,ah1
 go_wp2_with fail
 go_quiet (fail)
 obtain ⟨nq0,rfl⟩:∃ m,m=nq:=⟨nq,rfl⟩;go_wp2_with fail
 go_quiet (fail)
 have hw1:w.grownBy ((w.drewN nq0).drewN nq) (some g):=jE (jE (Cj w _) _) _;have xW:Hid (au ((w.drewN nq0).drewN nq) g (bH (pre++u++post)).toArray 65):=Xk.out;obtain ⟨W,hW⟩:∃ W,W=(w.drewN nq0).drewN nq:=⟨_,rfl⟩;rw [← hW] at hw1 xW ⊢;clear hW h1 h2 h3 h4 h5;have hqd:(((un*1000000000+u1) / top:Nat):Int)=((un:Int)*1000000000+(u1:Int)) / (top:Int):=by rw [Int.natCast_ediv,Int.natCast_add,Int.natCast_mul];rfl
 have hrd:(((un*1000000000+u1)%top:Nat):Int)=((un:Int)*1000000000+(u1:Int))%(top:Int):=by rw [Int.natCast_emod,Int.natCast_add,Int.natCast_mul];rfl
 rw [← hqd,← hrd];clear hqd hrd;have hr0:(un*1000000000+u1)%top<1000000000:=Nat.lt_trans (Nat.mod_lt _ zo) b1;generalize (un*1000000000+u1) / top=q0 at *;generalize (un*1000000000+u1)%top=r0 at *
 go_upto_block 0 with fail
 go_cut [8,9] from 19 (fun q r wc=>∃ qn:Nat,q= .int .u64 qn∧qn≤1000000000∧Hid (val 1000000000 u / val 1000000000 v≤qn)∧Hid (qn≤val 1000000000 u / val 1000000000 v+1)∧w.grownBy wc (some g)∧Hid (au wc g (bH (pre++u++post)).toArray 65))
 case first =>
  go_wp2_with fail
  go_loopw [8,9] (fun q r wr=>∃ qn rn:Nat,q= .int .u64 qn∧r= .int .u64 rn∧rn<1000000000∧Hid (IU 1000000000 (val 1000000000 u) (val 1000000000 v) top (un*1000000000+u1) qn rn)∧w.grownBy wr (some g)∧Hid (au wr g (bH (pre++u++post)).toArray 65))
   (fun q _ _=>(intOf q).toNat)
  case atStart=>exact ⟨q0,r0,rfl,rfl,hr0,HG0,hw1,xW⟩
  case round =>
   obtain ⟨qn,rn,rfl,rfl,hrb,HG,hnr,HB⟩:=hrel;have h2:=HVC.out wr hnr k zo;have h5:=Xa.out wr u HU.out HB.out k zo;rw [qZ.out] at h2;rw [HU2.out] at h5;have hqb:qn≤1000000001:=HG.out.bound
   have hpr:Hid (0≤(qn:Int)*(v2:Int)∧(qn:Int)*(v2:Int)≤1000000001*999999999):=by
    have h:qn*v2≤1000000001*999999999:=Nat.mul_le_mul hqb zo;unfold Hid;rw [← Int.natCast_mul];omega
   obtain ⟨hp1,hp2⟩:=hpr
   by_cases hc:1000000000≤qn
   ·have HS:=zh (HGS.out qn rn HG.out (.inl hc));have hge:decide ((1000000000:Int)≤(qn:Int))=true:=by rw [decide_eq_true_iff];omega
    have HC:=zh hc;have hq1:1≤qn:=by omega
    clear hc
    by_cases hr:1000000000≤rn+top
    ·have hrd:decide ((1000000000:Int)≤(rn:Int)+(top:Int))=true:=by rw [decide_eq_true_iff];omega
     have HR:=zh hr;clear hr;go_wp2_with fail
     go_quiet (fail)
     go_wp2_with fail
     go_meet
     have g2:=HS.out.2;have hq2:qn - 1≤1000000000:=by omega
     have h3:(qn - 1)*v2≤(rn+top)*1000000000+u2:=by
      have h4:(qn - 1)*v2≤1000000000*1000000000:=Nat.mul_le_mul hq2 zo;have h5:=HR.out;omega
     exact ⟨qn - 1,by go_num,hq2,zh g2.high,zh (HGE.out _ _ g2 hq2 h3),jE hnr _,HB⟩
    ·have hrd:decide ((1000000000:Int)≤(rn:Int)+(top:Int))=false:=by rw [decide_eq_false_iff_not];omega
     have HR:=zh hr;clear hr;go_wp2_with fail
     go_quiet (fail)
     go_wp2_with fail
     go_roundw
     case rel=>exact ⟨qn - 1,rn+top,by go_num,by go_num,Nat.lt_of_not_le HR.out,zh HS.out.2,jE hnr _,HB⟩
     case measure=>exact zM
   ·have hge:decide ((1000000000:Int)≤(qn:Int))=false:=by rw [decide_eq_false_iff_not];omega
    have HC:=zh hc;have hq2:qn≤999999999:=by omega
    clear hc
    by_cases ht:rn*1000000000+u2<qn*v2
    ·have HS:=zh (HGS.out qn rn HG.out (.inr ht));have hq1:1≤qn:=HS.out.1;have hlt:(rn:Int)*1000000000+(u2:Int)<(qn:Int)*(v2:Int):=by rw [← Int.natCast_mul];omega
     clear ht
     by_cases hr:1000000000≤rn+top
     ·have hrd:decide ((1000000000:Int)≤(rn:Int)+(top:Int))=true:=by rw [decide_eq_true_iff];omega
      have HR:=zh hr;clear hr;go_wp2_with fail
      go_quiet (fail)
      go_wp2_with fail
      go_meet
      have g2:=HS.out.2;have hq2:qn - 1≤1000000000:=by omega
      have h3:(qn - 1)*v2≤(rn+top)*1000000000+u2:=by
       have h4:(qn - 1)*v2≤1000000000*1000000000:=Nat.mul_le_mul hq2 zo;have h5:=HR.out;omega
      exact ⟨qn - 1,by go_num,hq2,zh g2.high,zh (HGE.out _ _ g2 hq2 h3),jE hnr _,HB⟩
     ·have hrd:decide ((1000000000:Int)≤(rn:Int)+(top:Int))=false:=by rw [decide_eq_false_iff_not];omega
      have HR:=zh hr;clear hr;go_wp2_with fail
      go_quiet (fail)
      go_wp2_with fail
      go_roundw
      case rel=>exact ⟨qn - 1,rn+top,by go_num,by go_num,Nat.lt_of_not_le HR.out,zh HS.out.2,jE hnr _,HB⟩
      case measure=>exact zM
    ·have hlt:¬ (rn:Int)*1000000000+(u2:Int)<(qn:Int)*(v2:Int):=by rw [← Int.natCast_mul];omega
     have HN:=zh (HGE.out _ _ HG.out zo (Nat.le_of_not_lt ht));clear ht;go_wp2_with fail
     go_quiet (fail)
     go_wp2_with fail
     go_meet
     exact ⟨qn,rfl,by omega,zh HG.out.high,HN,jE hnr _,HB⟩
 case rest =>
  obtain ⟨qn,rfl,hqb,OW,HQ2,hnc,HBc⟩:=hcut;clear hw1 xW hr0 HG0 HGS HGE;go_wp2_with fail
  go_loopw [10,11,12,13,14,77] (fun cv bv' _ _ _ iv wr=>∃ (i c b:Nat) (s:List Nat),i≤k+2∧c≤1000000000∧b≤1∧iv= .int .i64 i∧cv= .int .u64 c∧bv'= .int .i64 b∧Hid (s.length=i)∧dz 1000000000 s ∧
    Hid (au wr g (bH (pre++(s++u.drop i)++post)).toArray 65)∧w.grownBy wr (some g)∧Hid (val 1000000000 s+qn*val 1000000000 (v.take i)=val 1000000000 (u.take i)+(b+c)*1000000000^i))
   (fun _ _ _ _ _ iv _=>k+2 - (intOf iv).toNat)
  case atStart=>exact ⟨0,0,0,[],Nat.zero_le _,by omega,by omega,rfl,rfl,rfl,rfl,dz.nil,HBc,hnc,zh (by simp [val])⟩
  case round =>
   obtain ⟨i,c,b,s,hi,hcb,hbb,rfl,rfl,rfl,HS,hds,HB,hnr,HV⟩:=hrel
   by_cases hlt:i<k+2
   ·have hc1:=HVC.out wr hnr i hlt;have hc2:=Xa.out wr (s++u.drop i) (by rw [List.length_append,List.length_drop,HU.out,HS.out];omega) HB.out i zo;rw [getD_in HS.out (Nat.le_refl _)] at hc2;have hc3:wr.frozen? ⟨g,j+i,none⟩=false:=au.free HB.out _;have dvi:=dv.getD zo i;have dui:=du.getD zo i
    have HST:Hid (∀ d b',d+b+(c+qn*v.getD i 0)%1000000000=u.getD i 0+b'*1000000000→val 1000000000 (s++[d])+qn*val 1000000000 (v.take (i+1))=val 1000000000 (u.take (i+1))+(b'+(c+qn*v.getD i 0) / 1000000000)*1000000000^(i+1)) :=
     fun d b' h=>P7 (by rw [HU.out];omega) (by rw [WY.out];omega) HS.out HV.out h rfl
    have HO:Hid (∀ d:Nat,au (wr.setCell ⟨g,j+i,none⟩ (.int .u32 (d:Int))) g (bH (pre++((s++[d])++u.drop (i+1))++post)).toArray 65∧w.grownBy (wr.setCell ⟨g,j+i,none⟩ (.int .u32 (d:Int))) (some g)):=fun d=>by
     have h1:=au.set HB.out (j+i) (.int .u32 (d:Int));rw [List.setIfInBounds_toArray,jO,Dp HJ.out HS.out (by rw [HU.out];omega)] at h1;exact ⟨h1,qG hnr _ _⟩
    generalize v.getD i 0=y at *;generalize u.getD i 0=x at *;have hpn:qn*y≤1000000000*999999999:=Nat.mul_le_mul hqb zo;have hp1:0≤(qn:Int)*(y:Int):=by rw [← Int.natCast_mul];omega
    have hp2:(qn:Int)*(y:Int)≤999999999000000000:=by rw [← Int.natCast_mul];omega
    have hM:(((c+qn*y)%1000000000:Nat):Int)=((c:Int)+(qn:Int)*(y:Int))%1000000000:=by rw [Int.natCast_emod,Int.natCast_add,Int.natCast_mul];rfl
    have hC:(((c+qn*y) / 1000000000:Nat):Int)=((c:Int)+(qn:Int)*(y:Int)) / 1000000000:=by rw [Int.natCast_ediv,Int.natCast_add,Int.natCast_mul];rfl
    have hCb:(c+qn*y) / 1000000000≤1000000000:=by omega
    have hMb:(c+qn*y)%1000000000<1000000000:=Nat.mod_lt _ zo;generalize (c+qn*y) / 1000000000=C at *;generalize (c+qn*y)%1000000000=M at *;have x9:=zh hC;have OX:=zh hM;have gM1:0≤((c:Int)+(qn:Int)*(y:Int))%1000000000:=by rw [← hM];omega
    have gM2:((c:Int)+(qn:Int)*(y:Int))%1000000000≤999999999:=by rw [← hM];omega
    clear HV HB hpn
    by_cases hneg:x<b+M
    ·have VH:(x:Int) - (b:Int) - ((c:Int)+(qn:Int)*(y:Int))%1000000000<0:=by rw [← hM];omega
     have kK:=HO.out (x+1000000000 - (b+M));rw [show ((x+1000000000 - (b+M):Nat):Int)=(x:Int) - (b:Int) - ((c:Int)+(qn:Int)*(y:Int))%1000000000+1000000000 by rw [← hM];omega] at kK;have nI:=zh kK;have HN:=zh hneg;clear HO kK hM hC hneg;go_wp2_with fail
     go_roundw
     case rel=>exact ⟨i+1,C,1,s++[x+1000000000 - (b+M)],by omega,hCb,by omega,by go_num,by rw [x9.out],rfl,zh (by rw [List.length_append,HS.out];rfl),hds.snoc (by have:=HN.out;omega),zh nI.out.1,nI.out.2,zh (HST.out _ _ (by have:=HN.out;omega))⟩
     case measure=>exact zM
    ·have VH:¬ (x:Int) - (b:Int) - ((c:Int)+(qn:Int)*(y:Int))%1000000000<0:=by rw [← hM];omega
     have kK:=HO.out (x - (b+M));rw [show ((x - (b+M):Nat):Int)=(x:Int) - (b:Int) - ((c:Int)+(qn:Int)*(y:Int))%1000000000 by rw [← hM];omega] at kK;have nI:=zh kK;have HN:=zh hneg;clear HO kK hM hC hneg;go_wp2_with fail
     go_roundw
     case rel=>exact ⟨i+1,C,0,s++[x - (b+M)],by omega,hCb,by omega,by go_num,by rw [x9.out],rfl,zh (by rw [List.length_append,HS.out];rfl),hds.snoc (by have:=HN.out;omega),zh nI.out.1,nI.out.2,zh (HST.out _ _ (by have:=HN.out;omega))⟩
     case measure=>exact zM
   ·have hik:i=k+2:=by omega
    subst hik
    have XU:0<val 1000000000 v:=by
     rw [mK WY.out];have h1:0<1000000000^k:=Nat.pow_pos zo;have h2:0<1000000000^k*(v.getD k 0+1000000000*v.getD (k+1) 0):=Nat.mul_pos h1 (by rw [HT.out];omega);omega
    have au4:Hid (val 1000000000 s+qn*val 1000000000 v=val 1000000000 (u.take (k+2))+(b+c)*1000000000^(k+2)):=by
     have:=HV.out;rwa [List.take_of_length_le (by rw [WY.out];omega)] at this
    have HUs:Hid (val 1000000000 u=val 1000000000 (u.take (k+2))+1000000000^(k+2)*un):=by
     have:=aY 1000000000 (l:=u) (k:=k+2) (by rw [HU.out];omega);rw [show k+2+1=u.length by rw [HU.out],List.take_length] at this;rw [HUN.out] at this;exact this
    have hu1:=Xa.out wr (s++u.drop (k+2)) (by rw [List.length_append,List.length_drop,HU.out,HS.out];omega) HB.out (k+2) zo;rw [getD_in HS.out (Nat.le_refl _),HUN.out] at hu1;clear HV
    by_cases hov:un<b+c
    ·have HE:=zh (P8 (by omega:1<1000000000) HS.out hds WY.out dv XU au4.out HUs.out hov HQ2.out);have an9:(un:Int) - (b:Int)<(c:Int):=by omega
     have hq1:1≤qn:=by rw [HE.out.1];exact Nat.le_add_left _ _
     go_wp2_with fail
     clear hu1 hov an9
     go_loopw [15,16,17,18,125] (fun ov' _ _ _ iv wr=>∃ (i o:Nat) (t:List Nat),i≤k+2∧o≤1∧iv= .int .i64 i∧ov'= .int .u32 o∧Hid (t.length=i)∧dz 1000000000 t ∧
       Hid (au wr g (bH (pre++(t++(s++u.drop (k+2)).drop i)++post)).toArray 65)∧w.grownBy wr (some g)∧Hid (val 1000000000 t+o*1000000000^i=val 1000000000 (s.take i)+val 1000000000 (v.take i)))
      (fun _ _ _ _ iv _=>k+2 - (intOf iv).toNat)
     case atStart=>exact ⟨0,0,[],Nat.zero_le _,by omega,rfl,rfl,rfl,dz.nil,HB,hnr,zh (by simp [val])⟩
     case round =>
      clear HB hnr;obtain ⟨i,o,t,hi,hob,rfl,rfl,Un,hdt,HB,hnr,HV⟩:=hrel;have hxl:(s++u.drop (k+2)).length=k+3:=by rw [List.length_append,List.length_drop,HU.out,HS.out];omega
      by_cases hlt:i<k+2
      ·have hc1:=HVC.out wr hnr i hlt;have hc2:=Xa.out wr (t++(s++u.drop (k+2)).drop i) (by rw [List.length_append,List.length_drop,hxl,Un.out];omega) HB.out i zo;rw [getD_in Un.out (Nat.le_refl _)] at hc2;have hsi:(s++u.drop (k+2)).getD i 0=s.getD i 0:=by rw [List.getD_eq_getElem?_getD,List.getElem?_append_left (by rw [HS.out];exact hlt),← List.getD_eq_getElem?_getD]
       rw [hsi] at hc2;have hc3:wr.frozen? ⟨g,j+i,none⟩=false:=au.free HB.out _;have dvi:=dv.getD zo i;have dui:=hds.getD zo i
       have HST:Hid (∀ d o',d+o'*1000000000=s.getD i 0+o+v.getD i 0→val 1000000000 (t++[d])+o'*1000000000^(i+1)=val 1000000000 (s.take (i+1))+val 1000000000 (v.take (i+1))) :=
        fun d o' h=>vW (by rw [HS.out];exact hlt) Un.out HV.out h
       have HO:Hid (∀ d:Nat,au (wr.setCell ⟨g,j+i,none⟩ (.int .u32 (d:Int))) g (bH (pre++((t++[d])++(s++u.drop (k+2)).drop (i+1))++post)).toArray 65∧w.grownBy (wr.setCell ⟨g,j+i,none⟩ (.int .u32 (d:Int))) (some g)):=fun d=>by
        have h1:=au.set HB.out (j+i) (.int .u32 (d:Int));rw [List.setIfInBounds_toArray,jO,Dp HJ.out Un.out (by rw [hxl];omega)] at h1;exact ⟨h1,qG hnr _ _⟩
       clear hsi hxl HB HV;generalize v.getD i 0=y at *;generalize s.getD i 0=x at *
       by_cases hge:x+y+o<1000000000
       ·have hge':decide ((1000000000:Int)≤(x:Int)+(y:Int)+(o:Int))=false:=by rw [decide_eq_false_iff_not];omega
        have kK:=HO.out (x+y+o);rw [show ((x+y+o:Nat):Int)=(x:Int)+(y:Int)+(o:Int) by omega] at kK;have nI:=zh kK;have HN:=zh hge;clear HO kK hge;go_wp2_with fail
        go_roundw
        case rel=>exact ⟨i+1,0,t++[x+y+o],by omega,by omega,by go_num,rfl,zh (by rw [List.length_append,Un.out];rfl),hdt.snoc HN.out,zh nI.out.1,nI.out.2,zh (HST.out _ _ zo)⟩
        case measure=>exact zM
       ·have hge':decide ((1000000000:Int)≤(x:Int)+(y:Int)+(o:Int))=true:=by rw [decide_eq_true_iff];omega
        have ap2:(0:Int)≤(x:Int)+(y:Int)+(o:Int) - 1000000000:=by omega
        have kK:=HO.out (x+y+o - 1000000000);rw [show ((x+y+o - 1000000000:Nat):Int)=(x:Int)+(y:Int)+(o:Int) - 1000000000 by omega] at kK;have nI:=zh kK;have HN:=zh hge;clear HO kK hge;go_wp2_with fail
        go_roundw
        case rel=>exact ⟨i+1,1,t++[x+y+o - 1000000000],by omega,by omega,by go_num,rfl,zh (by rw [List.length_append,Un.out];rfl),hdt.snoc zo,zh nI.out.1,nI.out.2,zh (HST.out _ _ (by have:=HN.out;omega))⟩
        case measure=>exact zM
      ·have hik:i=k+2:=by omega
       subst hik
       have HR:Hid (val 1000000000 t=val 1000000000 u%val 1000000000 v):=by
        have h1:=HV.out;rw [List.take_of_length_le (by rw [HS.out];exact Nat.le_refl _),List.take_of_length_le (by rw [WY.out];exact Nat.le_refl _),HE.out.2] at h1;have h2:=eD (by omega:0<1000000000) hdt;rw [Un.out] at h2;have h3:o=0∨o=1:=by omega
        unfold Hid
        rcases h3 with rfl|rfl<;>omega
       have HB:Hid (au wr g (bH (pre++(t++u.drop (k+2))++post)).toArray 65):=by
        have h1:=HB.out;rw [List.drop_append_of_le_length (by rw [HS.out];exact Nat.le_refl _),List.drop_of_length_le (by rw [HS.out];exact Nat.le_refl _),List.nil_append] at h1;exact h1
       have hbf:au wr g (bH (pre++(t++u.drop (k+2))++post)).toArray 65:=HB.out;have hn1:=Xa.out wr (t++u.drop (k+2)) (by rw [List.length_append,List.length_drop,HU.out,Un.out];omega) HB.out (k+2) zo;have hn2:wr.frozen? ⟨g,j+(k+2),none⟩=false:=hbf.free _
       have TT:Hid (au (wr.setCell ⟨g,j+(k+2),none⟩ (.int .u32 0)) g (bH (pre++(t++[0])++post)).toArray 65∧w.grownBy (wr.setCell ⟨g,j+(k+2),none⟩ (.int .u32 0)) (some g)):=by
        have h1:=hbf.set (j+(k+2)) (.int .u32 ((0:Nat):Int));rw [List.setIfInBounds_toArray,jO,Dp HJ.out Un.out (by rw [HU.out];omega),List.drop_eq_nil_of_le (by rw [HU.out];omega),List.append_nil] at h1;exact ⟨h1,qG hnr _ _⟩
       clear hbf HB hnr;go_wp2_with fail
       go_ret
       unfold vH;exact ⟨by rw [show val 1000000000 u / val 1000000000 v=qn - 1 by rw [HE.out.1];rfl,Int.natCast_sub hq1];rfl,TT.out.2,t,TT.out.1,Un.out,hdt,HR.out⟩
    ·have HE:=zh (P9 (by omega:1<1000000000) WY.out dv XU au4.out HUs.out zo OW.out);have an9:¬ (un:Int) - (b:Int)<(c:Int):=by omega
     have hbf:au wr g (bH (pre++(s++u.drop (k+2))++post)).toArray 65:=HB.out;have hn1:=Xa.out wr (s++u.drop (k+2)) (by rw [List.length_append,List.length_drop,HU.out,HS.out];omega) HB.out (k+2) zo;have hn2:wr.frozen? ⟨g,j+(k+2),none⟩=false:=hbf.free _
     have TT:Hid (au (wr.setCell ⟨g,j+(k+2),none⟩ (.int .u32 0)) g (bH (pre++(s++[0])++post)).toArray 65∧w.grownBy (wr.setCell ⟨g,j+(k+2),none⟩ (.int .u32 0)) (some g)):=by
      have h1:=hbf.set (j+(k+2)) (.int .u32 ((0:Nat):Int));rw [List.setIfInBounds_toArray,jO,Dp HJ.out HS.out (by rw [HU.out];omega),List.drop_eq_nil_of_le (by rw [HU.out];omega),List.append_nil] at h1;exact ⟨h1,qG hnr _ _⟩
     clear hbf HB hnr;go_wp2_with fail
     go_ret
     unfold vH;exact ⟨by rw [← HE.out.1];rfl,TT.out.2,s,TT.out.1,HS.out,hds,HE.out.2⟩):G:=h
theorem wX (g j k cu:Nat) (pv:Option Addr) (cv:Nat) (pre u post v:List Nat) (w:World) (hj:pre.length=j) (hu:u.length=k+3) (hv:v.length=k+2) (du:dz 1000000000 u) (dv:dz 1000000000 v) (hk:k≤1099511627776)
  (ht:1000000000≤2*v.getD (k+1) 0) (hlt:val 1000000000 u<val 1000000000 v*1000000000) (ZV:au w g (bH (pre++u++post)).toArray 65)
  (hd:∀ i,i<k+2→∃ b off,pv=some ⟨b,off,none⟩∧b≠g∧b<w.heap.size∧w.cell? ⟨b,off+i,none⟩=some (.int .u32 (v.getD i 0:Nat))) :
  Calls Tryz.prog 210 #[.slice (some ⟨g,j,none⟩) (k+3) cu,.slice pv (k+2) cv] w (vH w g k pre u post v):=ae8
def lN (w:World) (q r:Nat) (e:Ending) (w':World):Prop:=∃ vq vr,e= .returned (.tuple #[vq,vr])∧Below w.heap.size w w'∧aK w' vq q∧aK w' vr r
theorem _root_.Go.ae7 {G:Prop} (h:G:=by
 have HX:=zh hx;have hs:=oZ h;rw [Nat.div_eq_of_lt h,Nat.mod_eq_of_lt h];have HC:=zh (iN x y a b w hx hy);rw [hs] at HC;clear hx hs hy h;go_enter UA,Uz
 go_wp2_with ((first|go_at_call 206|go_at_call 172);refine (HC.out).mono ?_;rintro e w1 ⟨rfl,hb1⟩)
 go_ret2
 exact ⟨_,_,rfl,hb1,aK.zero _,HX.out.later hb1⟩):G:=h
theorem xB (x y:Value) (a b:Nat) (w:World) (hx:aK w x a) (hy:aK w y b) (h:a<b) :
  Calls Tryz.prog 154 #[x,y] w (lN w (a / b) (a%b)):=ae7
theorem _root_.Go.ae6 {G:Prop} (h:G:=by
 have hs:tY a b=0∨tY a b=1:=by
  rcases Nat.lt_or_ge b a with h2|h2
  ·exact .inr (nZ h2)
  ·have:a=b:=by omega
   subst this;exact .inl (qm a)
 have hdb:bg 1000000000 b=[b]:=by rw [iL zo hb0,Nat.mod_eq_of_lt hb1,Nat.div_eq_of_lt hb1,dS]
 obtain ⟨p,c,e1, -, -, e3⟩:=jY.read hy.yw;rw [hdb] at e1 e3;simp only [List.length_cons,List.length_nil,Value.slice.injEq] at e1;obtain ⟨rfl, -, rfl⟩:=e1;obtain ⟨b2,off,rfl,hb2,hcell⟩:=e3 0 zi;have hcell2:w.cell? ⟨b2,off,none⟩=some (.int .u32 (b:Int)):=by simpa using hcell
 have HC:=zh (iN _ _ a b w hx hy);have HX:=zh hx;clear hdb hcell e3 hx hy;have hmod:a%b<1000000000:=Nat.lt_trans (Nat.mod_lt _ hb0) hb1
 rcases hs with hs|hs
 all_goals
  rw [hs] at HC;clear hs;go_enter UA,Uz
  go_wp2_with ((first|go_at_call 206|go_at_call 172);refine (HC.out).mono ?_;rintro e w1 ⟨rfl,JZ⟩;have hc1:w1.cell? ⟨b2,off,none⟩=some (.int .u32 (b:Int)):=(JZ.cell (by exact hb2)).trans hcell2)
  refine (yX _ a b _ (HX.out.later JZ) zo hb0 zo).mono ?_;rintro e w2 ⟨v,rfl,Ad,hv⟩;have HV:=zh hv;clear hv;generalize hm:a%b=m at *;have HM:=zh hm;clear hm;go_wp2_with fail
  refine (lg m _ zo).mono ?_;rintro e w3 ⟨v3,rfl,aq4,hv3⟩;have HV3:=zh hv3;clear hv3;go_wp2_with fail
  go_ret2
  exact ⟨_,_,rfl,Bt (Bt JZ Ad) aq4,HV.out.later aq4,HV3.out⟩):G:=h
theorem uU (pa pb:Option Addr) (ca cb:Nat) (a b:Nat) (w:World) (hx:aK w (.slice pa (sz 1000000000 a) ca) a) (hy:aK w (.slice pb 1 cb) b) (hb0:0<b) (hb1:b<1000000000) (h:b≤a) (ha:sz 1000000000 a≤549755813888) :
  Calls Tryz.prog 154 #[.slice pa (sz 1000000000 a) ca,.slice pb 1 cb] w (lN w (a / b) (a%b)):=ae6
theorem _root_.Go.ae5 {G:Prop} (h:G:=by
 obtain ⟨i0,hi,hz0,hz1,hz2⟩:=info_parts zK
 have hs:tY a b=0∨tY a b=1:=by
  rcases Nat.lt_or_ge b a with h2|h2
  ·exact .inr (nZ h2)
  ·have:a=b:=by omega
   subst this;exact .inl (qm a)
 have hb0:0<b:=by
  rcases Nat.eq_zero_or_pos b with h0|h0
  ·rw [h0,iB] at hsb;omega
  ·exact h0
 have hkl:k+2≤sz 1000000000 a:=by rw [← hsb];exact dM zo h
 obtain ⟨ht0,htB,hs0,hs5,hsv,htv⟩:=Gn hsb;obtain ⟨hd1,hd2,hd3,hd4,hd5⟩:=dividend (a:=a) hs0 zo hsb hkl;obtain ⟨p,c,e1, -, -, e3⟩:=jY.read hy.yw;have hlb:(bg 1000000000 b).length=k+2:=hsb;rw [hlb] at e1 e3;simp only [Value.slice.injEq] at e1;obtain ⟨rfl, -, rfl⟩:=e1;obtain ⟨b2,off,rfl,hb2,hcell⟩:=e3 (k+1) zo;have HC:=zh (iN _ _ a b w hx hy);have HX:=zh hx;have HY:=zh hy;have HSV:=zh hsv;have HTV:=zh htv;have HD4:=zh hd4;have HD5:=zh hd5;have HD2:=zh hd2;have HSB:=zh hsb;clear e3 hx hy hsv htv hd4 hd5 hd2 hsb hlb;have htop:=HSB.out;generalize hT:(bg 1000000000 b).getD (k+1) 0=t at *;clear hT htop;have hdiv:((1000000000 / (t+1):Nat):Int)=1000000000 / ((t:Int)+1):=by rw [Int.natCast_ediv];rfl
 have hsc1:(0:Int)≤1000000000 / ((t:Int)+1):=by rw [← hdiv];exact Int.natCast_nonneg _
 generalize hS:1000000000 / (t+1)=S at *;have hsc2:1000000000 / ((t:Int)+1)≤500000000:=by rw [← hdiv];omega
 have Fj:=zh hdiv;have HSq:=zh hS;clear hdiv hS;generalize hus:bg 1000000000 (a*S)++List.replicate (sz 1000000000 a+1 - sz 1000000000 (a*S)) 0=us at *;have HUS:=zh hus;clear hus;generalize hL:sz 1000000000 a=L at *;have HL:=zh hL;clear hL
 rcases hs with hs|hs
 all_goals
  rw [hs] at HC;clear hs;go_enter UA,Uz
  go_wp2_with ((first|go_at_call 206|go_at_call 172);refine (HC.out).mono ?_;rintro e w1 ⟨rfl,JZ⟩;have hc1:w1.cell? ⟨b2,off+(k+1),none⟩=some (.int .u32 (t:Int)):=(JZ.cell (by exact hb2)).trans hcell)
  rw [← Fj.out];refine (iD _ _ b S _ ((HY.out.later JZ).later ((Below.refl _ _).alloc (Nat.le_refl _) _)) (aK.lit hs0 zo) (by rw [HSB.out];omega) (by have:=aW (B:=1000000000) zo 1 S zo;omega)).mono ?_;rintro e w2 ⟨vv,rfl,Ad,hv⟩;have hbw2:Below w.heap.size w w2:=Bt (Bt JZ ((Below.refl _ _).alloc (Nat.le_refl _) _)) Ad;obtain ⟨pv,cv,rfl,hv1,hv2,hv3⟩:=jY.read hv.yw;have HVR:=zh hv3;have hvl:(bg 1000000000 (b*S)).length=k+2:=HSV.out;rw [hvl] at hv1 ⊢;have Ye:=zh hvl;clear hv hv3 hvl hc1 Ad;go_wp2_with (at_make;refine wpList_make_full _ rfl _ _ Fy rfl w2.heap.size 65 i0 (.int .u32 0) 1 FW hi hz0 hz1 _ _ _ _ (L+1) rfl rfl zo zo (by rw [hz2];omega) (by unfold maxLen;omega) (Nat.le_refl _) ?_)
  intro w3 hown3 hgrow3;rw [qJ] at hown3;have R3:=zh (qV hown3).1;have Af:Below w2.heap.size w2 w3:=(Below.refl _ _).grown hgrow3 (Nat.le_refl _) (fun k h=>by cases h);clear hown3 hgrow3;go_wp2_with fail
  refine (iD _ _ a S _ ((HX.out.later (Bt hbw2 Af)).later ((Below.refl _ _).alloc (Nat.le_refl _) _)) (aK.lit hs0 zo) (by rw [HL.out];omega) (by have:=aW (B:=1000000000) zo 1 S zo;omega)).mono ?_;rintro e w4 ⟨vt,rfl,aq3,VE⟩;obtain ⟨pt,ct,rfl,ht1,ht2,ht3⟩:=jY.read VE.yw;have Z4:Below w3.heap.size w3 w4:=Bt ((Below.refl _ _).alloc (Nat.le_refl _) _) aq3;have aq2:=zh (R3.out.later Z4);have ar0:=Bt Af Z4;have HTS:=zh (fun h=>jY.src ht3 h);clear VE ht3 aq3 R3
  go_wp2_with (refine wpList_copy_splice (o:=⟨some 54,_,_,_,_,_⟩) rfl (.tmp 49) (.tmp 53) Fy Fy rfl 65 FW (by rw [hi];simp [hz1]) _ _ _ _ _ _ rfl rfl w2.heap.size 0 (bH (List.replicate (L+1) 0)) 65 aq2.out (bH (bg 1000000000 (a*S))) (by rw [cZ];exact (Nat.min_eq_left hd1).symm) (fun h=>⟨rfl,HTS.out h⟩) (by rw [Nat.zero_add,cZ,cZ,List.length_replicate];exact hd1) (Dg _) w2.heap.size w2 ar0 (Nat.le_refl _) ?_)
  intro w5 aq1 aq9
  have RZ:Hid (au w5 w2.heap.size (bH us).toArray 65):=by
   have h1:=aq1.out;unfold splice at h1
   have e:List.take 0 (bH (List.replicate (L+1) 0))++(bH (bg 1000000000 (a*S))++List.drop (0+(bH (bg 1000000000 (a*S))).length) (bH (List.replicate (L+1) 0)))=bH us:=by
    rw [← HUS.out];unfold bH sz;simp
   rw [e] at h1;exact h1
  have hg5:w2.heap.size<w5.heap.size:=au.lt RZ.out;clear aq1 aq2 HTS;go_wp2_with (at_make;refine wpList_make_full _ rfl _ _ Fy rfl w5.heap.size 65 i0 (.int .u32 0) 1 FW hi hz0 hz1 _ _ _ _ (L - (k+2)+1) rfl rfl zo zo (by rw [hz2];omega) (by unfold maxLen;omega) (Nat.le_refl _) ?_)
  intro w6 hown6 RS;rw [qJ] at hown6;have aq6:=zh (qV hown6).1;have ZY:Below w5.heap.size w5 w6:=(Below.refl _ _).grown RS (Nat.le_refl _) (fun k h=>by cases h);have aq7:=zh (RZ.out.later ZY);have aq8:Below w2.heap.size w2 w6:=aq9.trans (ZY.mono (Nat.le_of_lt hg5));clear hown6 RS RZ ZY;go_wp2_with fail
  go_loopw [12] (fun jv wr=>∃ (q:Int) (s qs:List Nat), -1≤q∧q≤(L:Int) - ((k:Int)+2)∧jv= .int .i64 q∧Hid (s.length=k+2)∧dz 1000000000 s∧dz 1000000000 qs∧Hid (qs.length+(q+1).toNat=L - (k+2)+1) ∧
    Hid (au wr w2.heap.size (bH (us.take (q+1).toNat++(s++List.replicate (L+1 - (q+1).toNat - (k+2)) 0))).toArray 65)∧Hid (au wr w5.heap.size (bH (List.replicate (q+1).toNat 0++qs)).toArray 65) ∧
    Hid (val 1000000000 (us.drop (q+1).toNat)=b*S*val 1000000000 qs+val 1000000000 s)∧Hid (val 1000000000 s<b*S)∧Below w2.heap.size w2 wr) (fun jv _=>(intOf jv+1).toNat)
  case atStart =>
   have e:((L:Int) - ((k:Int)+2)+1).toNat=L - (k+2)+1:=by omega
   refine ⟨(L:Int) - ((k:Int)+2),us.drop (L - (k+2)+1),[],by omega,Int.le_refl _,rfl,zh (by rw [List.length_drop,HD2.out];omega),hd3.drop _,dz.nil,zh (by rw [e];simp),zh ?_,zh ?_,zh (by rw [e];simp [val]),HD5,aq8⟩
   ·rw [e,show L+1 - (L - (k+2)+1) - (k+2)=0 by omega,List.replicate_zero,List.append_nil,List.take_append_drop];exact aq7.out
   ·rw [e,List.append_nil];exact aq6.out
  case round =>
   clear aq7 aq6 aq8 aq9 ar0 Af Z4;obtain ⟨q,s,qs,hq1,hq2,rfl,HSL,hds,xu,HQL,I9,HBH,HVE,au3,hbr⟩:=hrel
   by_cases hq:q<0
   ·have hq0:q= -1:=by omega
    subst hq0;have e0:((-1:Int)+1).toNat=0:=by omega
    rw [e0] at I9 HBH HVE HQL;simp only [List.take_zero,List.nil_append,List.replicate_zero,List.drop_zero,Nat.add_zero,Nat.sub_zero] at I9 HBH HVE HQL;have HE:=zh (Rb hs0 (by rw [← HD4.out];exact HVE.out) au3.out);have hbw:Below w.heap.size w wr:=Bt hbw2 hbr;have hDu:=zh (jY.pz (n:=k+2) (m:=L+1) I9.out HSL.out zo zo);have hDq:=zh (jY.pz (n:=L - (k+2)+1) (m:=L - (k+2)+1) (post:=[]) (by rw [List.append_nil];exact HBH.out) HQL.out zo zo);have hle:val 1000000000 s / S≤b:=by rw [HE.out.2];exact Nat.le_of_lt (Nat.mod_lt _ hb0)
    have hsz:sz 1000000000 (val 1000000000 s)≤k+2:=aW zo _ _ (by have:=eD (by omega:0<1000000000) hds;rwa [HSL.out] at this);go_wp2_with fail
    refine (kW _ _ _ hDu.out hds).mono ?_;rintro e w' ⟨v1,rfl,rfl,hv1⟩;go_wp2_with fail
    refine (yX _ _ S _ hv1 zo hs0 zo).mono ?_;rintro e w7 ⟨v2,rfl,gM,hv2⟩;have qZ:=zh hv2;clear hv2;go_wp2_with fail
    refine (kW _ _ _ (hDq.out.later gM) xu).mono ?_;rintro e w' ⟨v3,rfl,rfl,hv3⟩;have HV3:=zh hv3;clear hv3;go_wp2_with fail
    go_ret2
    exact ⟨v3,v2,rfl,Bt hbw gM,by rw [← HE.out.1];exact HV3.out,by rw [← HE.out.2];exact qZ.out⟩
   ·obtain ⟨j,rfl⟩:=Int.eq_ofNat_of_zero_le (by omega:0≤q);have ej:((j:Int)+1).toNat=j+1:=by omega
    rw [ej] at I9 HBH HVE HQL;have hjl:j<us.length:=by rw [HD2.out];omega
    go_wp2_with fail
    rw [show j+(k+2)+1 - j=k+3 by omega];have hux:us.getD j 0<1000000000:=hd3.getD zo j;have e1:us.take (j+1)++(s++List.replicate (L+1 - (j+1) - (k+2)) 0)=us.take j++(us.getD j 0::s)++List.replicate (L+1 - (j+1) - (k+2)) 0:=by rw [iF hjl];simp
    rw [e1] at I9;have HW:=zh (MQ hux au3.out);refine (wX w2.heap.size j k (L+1 - j) pv cv (us.take j) (us.getD j 0::s) (List.replicate (L+1 - (j+1) - (k+2)) 0) (bg 1000000000 (b*S)) wr (by rw [List.length_take];omega) (by simp [HSL.out]) Ye.out (hds.cons hux) (aR zo _) zo HTV.out (by rw [aM zo];exact HW.out) I9.out (fun i hi=>?_)).mono ?_
    ·obtain ⟨b',off',e1,h1,h2⟩:=HVR.out i (by rw [Ye.out];exact hi);exact ⟨b',off',e1,Nat.ne_of_lt h1,Nat.lt_of_lt_of_le h1 hbr.size,(hbr.cell (by exact h1)).trans h2⟩
    ·rintro e wx ⟨rfl,XK,s',hB',an4,az2,ZH⟩;rw [aM zo] at ZH ⊢;have HB':=zh hB';have au5:=zh ZH;have aD9:=zh an4;have hbx:Below w2.heap.size w2 wx:=sJ hbr XK hbr.size (Nat.le_refl _);have hBx:au wx w5.heap.size (bH (List.replicate (j+1) 0++qs)).toArray 65:=(XK.block _ (au.lt HBH.out) (by simp;omega)).trans HBH.out;have p9:=zh hBx;clear hB' ZH an4 hBx;generalize hqh:val 1000000000 (us.getD j 0::s) / (b*S)=qh at *;have HQH:=zh hqh;clear hqh
     have HQ0:wx.cell? ⟨w5.heap.size,j,none⟩=some (.int .u32 0):=by
      rw [p9.out.cell,List.getElem?_toArray,mM (by simp;omega),rH zo];rfl
     have HQF:wx.frozen? ⟨w5.heap.size,j,none⟩=false:=p9.out.free _;go_wp2_with fail
     have hbs:0<b*S:=Nat.mul_pos hb0 hs0;have hqd:qh<1000000000:=by rw [← HQH.out];exact Nat.div_lt_of_lt_mul HW.out
     have X0:((j:Int) - 1+1).toNat=j:=by omega
     have R4:((⟨w5.heap.size,j,none⟩:Addr).block)=w5.heap.size:=rfl;refine ⟨⟨(j:Int) - 1,s',qh::qs,by omega,by omega,rfl,aD9,az2,xu.cons hqd,zh ?_,zh ?_,zh ?_,zh ?_,zh ?_,?_⟩,?_⟩
     ·rw [X0,List.length_cons];have:=HQL.out;omega
     ·have h1:=HB'.out.setOther (a:=⟨w5.heap.size,j,none⟩) (.int .u32 (qh:Int)) (by simp;omega);rw [X0]
      have e2:us.take j++(s'++[0])++List.replicate (L+1 - (j+1) - (k+2)) 0=us.take j++(s'++List.replicate (L+1 - j - (k+2)) 0):=by
       rw [show L+1 - j - (k+2)=(L+1 - (j+1) - (k+2))+1 by omega,List.replicate_succ];simp
      rw [e2] at h1;exact h1
     ·have h1:=p9.out.set j (.int .u32 (qh:Int));rw [List.setIfInBounds_toArray,jO,uw] at h1;rw [X0];exact h1
     ·rw [X0];exact NW hjl HVE.out HQH.out.symm au5.out
     ·rw [au5.out];exact Nat.mod_lt _ hbs
     ·exact hbx.setCell (by simp;omega) _
     ·simp only [intOf];omega):G:=h
theorem xA (pa pb:Option Addr) (ca cb:Nat) (a b k:Nat) (w:World) (hx:aK w (.slice pa (sz 1000000000 a) ca) a) (hy:aK w (.slice pb (k+2) cb) b) (hsb:sz 1000000000 b=k+2) (h:b≤a) (ha:sz 1000000000 a≤549755813888) :
  Calls Tryz.prog 154 #[.slice pa (sz 1000000000 a) ca,.slice pb (k+2) cb] w (lN w (a / b) (a%b)):=ae5
theorem _root_.Go.ae4 {G:Prop} (h:G:=by
 rcases Nat.lt_or_ge a b with h|h
 ·exact xB x y a b w hx hy h
 ·obtain ⟨p,c,e1, -, -, -⟩:=jY.read hx.yw;obtain ⟨q,d,e2, -, -, -⟩:=jY.read hy.yw
  have hp:sz 1000000000 b≠0:=fun h0=>by
   have:=(kH (B:=1000000000) zo (n:=b)).mp (List.length_eq_zero_iff.mp h0);omega
  have e3:(bg 1000000000 b).length=sz 1000000000 b:=rfl;rw [e3] at e2;subst e1
  rcases Nat.lt_or_ge (sz 1000000000 b) 2 with h2|h2
  ·have h1:sz 1000000000 b=1:=by omega
   rw [h1] at e2;subst e2;have:=fO (B:=1000000000) zo b;rw [h1] at this;exact uU p q c d a b w hx hy hb zo h ha
  ·obtain ⟨k,hk⟩:∃ k,sz 1000000000 b=k+2:=⟨sz 1000000000 b - 2,by omega⟩;rw [hk] at e2;subst e2;exact xA p q c d a b k w hx hy hk h ha):G:=h
theorem dR (x y:Value) (a b:Nat) (w:World) (hx:aK w x a) (hy:aK w y b) (hb:0<b) (ha:sz 1000000000 a≤549755813888) :
  Calls Tryz.prog 154 #[x,y] w (lN w (a / b) (a%b)):=ae4
end Go.Proofs.eX
