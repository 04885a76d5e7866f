/- Lemmas for the proof. No condition. -/
import Derived.Test.YtddblpggomphpaaGreatDoorXB01
import Derived.Test.YtddblpggomphpaaGreatDoorXB02
import Derived.Test.YtddblpggomphpaaGreatDoorProg
import Derived.KernelRfl
import Derived.WalkMore
import Derived.Lib.Strings
import Derived.Lib.Slices
import Derived.Lib.Walk
import Derived.Deep.QuietTactic
import Derived.BigQuiet
import Derived.WalkSmall
import Derived.Deep.DeepCutAuto
import Derived.Deep.CutBlock
import Derived.Laws.CopyOwn
set_option linter.unusedVariables false
set_option linter.unusedSimpArgs false
set_option maxRecDepth 100000
set_option maxHeartbeats 16000000
namespace Go.Proofs.whole
open Go Go.RowKit Go.SW Go.Num Go.Mem Go.Proofs
theorem _root_.Go.zs1 {G:Prop} (h:G:=by
 go_enter zq1,zq2
 go_wp2
 go_loop [0] (fun v=>∃ k:Nat,k≤l.length∧trimLen l k=trimLen l l.length∧v= .slice (some ⟨b,off,none⟩) k c) (fun v=>match v with| .slice _ k _=>k| _=>0)
 case atStart=>exact ⟨l.length,Nat.le_refl _,rfl,rfl⟩
 case round =>
  obtain ⟨k,hk,ht,rfl⟩:=hrel
  have HT:=zh ht
  clear ht
  rcases Nat.eq_zero_or_pos k with h0|h0
  ·subst h0
   go_wp2
   go_ret
   exact ⟨by rw [← HT.out];rfl,rfl⟩
  ·obtain ⟨j,rfl⟩:∃ j,k=j+1:=⟨k - 1,by omega⟩
   have hcj:=hc j zo
   have HS:Hid (trimLen l (j+1)=if l.getD j 0=0 then trimLen l j else j+1):=rfl
   generalize l.getD j 0=d at hcj HS
   clear hc
   rcases Nat.eq_zero_or_pos d with hd|hd
   ·subst hd
    go_wp2
    go_round
    case rel=>exact ⟨j,by omega,by rw [← HT.out,HS.out];rfl,rfl⟩
    case measure=>exact Nat.lt_succ_self _
   ·have hz:((d:Int) == 0)=false:=by simp;omega
    go_wp2
    go_ret
    exact ⟨by rw [← HT.out,HS.out,if_neg zo];rfl,rfl⟩):G:=h
theorem xW (b off c:Nat) (l:List Nat) (w:World) (hl:l.length≤c) (hm:c≤9223372036854775807)
   (hc:∀ k,k<l.length→w.cell? ⟨b,off+k,none⟩=some (.int .u32 (l.getD k 0:Nat))) :
    Calls Tryz.prog 235 #[.slice (some ⟨b,off,none⟩) l.length c] w fun e w'=>e= .returned (.slice (some ⟨b,off,none⟩) (trimLen l l.length) c)∧w=w':=zs1
theorem Ar (w:World):Calls Tryz.prog 235 #[.slice none 0 0] w fun e w'=>e= .returned (.slice none 0 0)∧w=w':=by
 go_enter Tryz.func235,Tryz.ntmps235
 go_wp2
 refine wp_loop_rounds 1 ?_
 rw [rounds_succ]
 go_wp2
 go_ret
 exact ⟨rfl,rfl⟩
theorem _root_.Go.zs2 {G:Prop} (h:G:=by
 rcases kY.cases h with ⟨rfl,rfl⟩|⟨b,off,cap,rfl,h1,h2,h3,⟨arr,h4⟩,h5⟩
 ·refine (Ar w).mono ?_
  rintro e w' ⟨rfl,rfl⟩
  exact ⟨_,rfl,rfl,by rw [show val 1000000000 ([]:List Nat)=0 from rfl];unfold aM;rw [eO];exact Row.nil _ _⟩
 ·refine (xW b off cap l w h1 h2 h5).mono ?_
  rintro e w' ⟨rfl,rfl⟩
  refine ⟨_,rfl,rfl,?_⟩
  have ht:=trimLen_le l l.length
  have e:val 1000000000 l=val 1000000000 (l.take (trimLen l l.length)):=by rw [wF _ _ _ (Nat.le_refl _)];simp
  rw [e]
  refine aM.RX ?_ (hd.take _) (wG l _ (Nat.le_refl _))
  refine Row.mk (arr:=arr) (by rw [dz];simp;omega) (by rw [dz];simp;omega) h2 h4 fun i hi=>?_
  rw [dz] at hi
  have hi2:i<l.length:=by simp at hi;omega
  have:=h5 i hi2
  rw [h4.cell] at this
  rw [this]
  simp [bS,hi2]):G:=h
theorem nJ (v:Value) (l:List Nat) (w:World) (h:kY w v l) (hd:dI 1000000000 l) :
  Calls Tryz.prog 235 #[v] w fun e w'=>∃ v',e= .returned v'∧w=w'∧aM w v' (val 1000000000 l):=zs2
end Go.Proofs.whole
namespace Go.Proofs.whole
open Go Go.RowKit Go.SW Go.Num Go.Mem Go.Proofs Go.Dec
theorem Sw:(Tryz.prog.info? 113).map (fun i=>(i.zero,i.size,i.bytes))=some (some (.int .u32 0),1,4):=by kernel_rfl
theorem _root_.Go.zs3 {G:Prop} (h:G:=by
 obtain ⟨i0,hi,hz0,hz1,hz2⟩:=info_parts Sw
 generalize hbs:s.data.toList=bs at *
 have hn:bs.length=s.size:=by rw [← hbs];rfl
 have Ow:=zh hbs
 have HN:=zh hn
 clear hbs hn
 go_enter zq3,zq4
 go_wp2_with fail
 go_step3
 go_wp2_with fail
 go_step3
 go_wp2_with fail
 go_loopw [3,4] (fun mv ev wr=>∃ (e:Nat) (ls:List Nat),ev= .int .i64 (e:Int)∧Hid (e+9*ls.length=s.size)∧dI 1000000000 ls∧Hid (val 1000000000 ls=num (bs.drop e))∧wr.ownsRow w.heap.size 113 1 mv ls.length (bS ls)∧Below w.heap.size w wr) (fun _ ev _=>(intOf ev).toNat)
 case atStart=>exact ⟨s.size,[],rfl,zh zi,dI.nil,zh (by rw [← HN.out,List.drop_length];simp [val,num]),World.ownsRow_nil _ _ _ _,Below.refl _ _⟩
 case round =>
  obtain ⟨e,ls,rfl,HE,hdl,HV,hown,hbr⟩:=hrel
  have he:e≤s.size:=by have:=HE.out;omega
  rcases Nat.lt_or_ge e 9 with h9|h9
  ·skip
   have hmx:(e:Int) - 9<0:=by omega
   have aU2:max ((e:Int) - 9) 0=0:=by omega
   have hgl:=BH hd (st:=0) (i:=e) zo
   go_wp2_with fail
   go_loopw [6,7] (fun v6 v7 wi=>∃ i:Nat,v7= .int .i64 (i:Int)∧0≤i∧i≤e∧Hid (v6= .int .u32 (num ((bs.take i).drop (0)):Nat))∧wr=wi) (fun _ v7 _=>e - (intOf v7).toNat)
   case atStart=>exact ⟨0,rfl,Nat.le_refl _,by omega,zh (by rw [List.drop_eq_nil_of_le (by rw [List.length_take];omega)];rfl),rfl⟩
   case round =>
    obtain ⟨i,rfl,hi1,hi2,H6,rfl⟩:=hrel
    have e6:=H6.out
    subst e6
    rcases Nat.lt_or_ge i e with hie|hie
    ·have his:i<s.size:=by omega
     have hx:bs[i]? =some s[i]:=by rw [← Ow.out,Array.getElem?_toList];exact Array.getElem?_eq_getElem his
     have HS:=zh (y8 hd hi1 zo hx)
     go_wp2_with fail
     exact ⟨⟨i+1,rfl,by omega,by omega,zh (by simp only [List.drop_zero] at HS ⊢;rw [HS.out]),trivial⟩,by simp only [intOf];omega⟩
    ·have hie:i=e:=by omega
     subst hie
     have HG:=zh (nU (bs:=bs) (s:=0) (e:=i) zo (by have:=HN.out;omega))
     have hlen:bs.length - i=9*ls.length:=by have:=HE.out;have:=HN.out;omega
     rw [hlen,Nat.pow_mul,← HV.out] at HG
     generalize num ((bs.take i).drop (0))=gv at *
     clear H6
     go_wp2_with (at_builtin;refine wpList_append_own _ rfl (.tmp 29) (.tmp 31) GV rfl w.heap.size 113 i0 (.int .u32 0) 1 4 G9 hi hz0 hz1 hz2 rfl zd _ _ _ rfl (hown.alloc _) ⟨wr.heap.size,0,none⟩ 1 1 [.int .u32 (gv:Int)] rfl rfl (by intro t u ht;match t,ht with|0,ht=>simp at ht;subst ht;simp [Addr.add]) (by intro u hu;simp at hu;subst hu;rfl) (by unfold maxLen;have:=HE.out;omega) (by have:=HE.out;omega) (by have:=hbr.size;simp;omega) ?_)
     intro v' w1 hown1 hgrow1 _
     have hown2:w1.ownsRow w.heap.size 113 1 v' (ls++[gv]).length (bS (ls++[gv])):=by
      have e:bS (ls++[gv])=bS ls++[.int .u32 (gv:Int)]:=by unfold bS;simp only [List.map_append,List.map_cons,List.map_nil]
      rw [e,List.length_append];exact hown1
     have hb3:Below w.heap.size w w1:=(hbr.alloc hbr.size _).grown hgrow1 (by simp;have:=hbr.size;omega) (fun k hk=>(hown.lt k hk).1)
     have zx:Hid (val 1000000000 (ls++[gv])=num (bs.drop (0))):=by
      unfold Hid
      rw [iw,HG.out,Nat.add_comm,Nat.mul_comm]
     clear hown hown1 hgrow1
     have Wq:dI 1000000000 (ls++[gv]):=hdl.snoc hgl
     go_wp2_with ((first|go_at_call 235|go_at_call 215|go_at_call 127);refine (nJ _ _ _ (Row.dR hown2) Wq).mono ?_;rintro e w' ⟨v,rfl,rfl,hv⟩;have HM:=zh hv;clear hv)
     rw [zx.out,List.drop_zero] at HM
     rw [Exit.noGoto_ret]
     go_ret
     exact ⟨_,rfl,hb3,HM.out⟩
  ·skip
   obtain ⟨f,rfl⟩:∃ f,e=f+9:=⟨e - 9,by omega⟩
   have hgl:=BH hd (st:=f) (i:=f+9) zo
   go_wp2_with fail
   go_loopw [6,7] (fun v6 v7 wi=>∃ i:Nat,v7= .int .i64 (i:Int)∧f≤i∧i≤f+9∧Hid (v6= .int .u32 (num ((bs.take i).drop (f)):Nat))∧wr=wi) (fun _ v7 _=>f+9 - (intOf v7).toNat)
   case atStart=>exact ⟨f,rfl,Nat.le_refl _,by omega,zh (by rw [List.drop_eq_nil_of_le (by rw [List.length_take];omega)];rfl),rfl⟩
   case round =>
    obtain ⟨i,rfl,hi1,hi2,H6,rfl⟩:=hrel
    have e6:=H6.out
    subst e6
    rcases Nat.lt_or_ge i (f+9) with hie|hie
    ·have his:i<s.size:=by omega
     have hx:bs[i]? =some s[i]:=by rw [← Ow.out,Array.getElem?_toList];exact Array.getElem?_eq_getElem his
     have HS:=zh (y8 hd hi1 zo hx)
     go_wp2_with fail
     exact ⟨⟨i+1,rfl,by omega,by omega,zh (by rw [HS.out]),trivial⟩,by simp only [intOf];omega⟩
    ·obtain rfl:i=f+9:=by omega
     have HG:=zh (nU (bs:=bs) (s:=f) (e:=f+9) zo (by have:=HN.out;omega))
     have hlen:bs.length - (f+9)=9*ls.length:=by have:=HE.out;have:=HN.out;omega
     rw [hlen,Nat.pow_mul,← HV.out] at HG
     generalize num ((bs.take (f+9)).drop f)=gv at *
     clear H6
     go_wp2_with (at_builtin;refine wpList_append_own _ rfl (.tmp 29) (.tmp 31) GV rfl w.heap.size 113 i0 (.int .u32 0) 1 4 G9 hi hz0 hz1 hz2 rfl zd _ _ _ rfl (hown.alloc _) ⟨wr.heap.size,0,none⟩ 1 1 [.int .u32 (gv:Int)] rfl rfl (by intro t u ht;match t,ht with|0,ht=>simp at ht;subst ht;simp [Addr.add]) (by intro u hu;simp at hu;subst hu;rfl) (by unfold maxLen;have:=HE.out;omega) (by have:=HE.out;omega) (by have:=hbr.size;simp;omega) ?_)
     intro v' w1 hown1 hgrow1 _
     have hown2:w1.ownsRow w.heap.size 113 1 v' (ls++[gv]).length (bS (ls++[gv])):=by
      have e:bS (ls++[gv])=bS ls++[.int .u32 (gv:Int)]:=by unfold bS;simp only [List.map_append,List.map_cons,List.map_nil]
      rw [e,List.length_append];exact hown1
     have hb3:Below w.heap.size w w1:=(hbr.alloc hbr.size _).grown hgrow1 (by simp;have:=hbr.size;omega) (fun k hk=>(hown.lt k hk).1)
     have zx:Hid (val 1000000000 (ls++[gv])=num (bs.drop (f))):=by
      unfold Hid
      rw [iw,HG.out,Nat.add_comm,Nat.mul_comm]
     clear hown hown1 hgrow1
     have Wq:dI 1000000000 (ls++[gv]):=hdl.snoc hgl
     rcases Nat.eq_zero_or_pos f with hf|hf
     ·subst hf
      rw [List.drop_zero] at zx
      go_wp2_with ((first|go_at_call 235|go_at_call 215|go_at_call 127);refine (nJ _ _ _ (Row.dR hown2) Wq).mono ?_;rintro e w' ⟨v,rfl,rfl,hv⟩;have HM:=zh hv;clear hv)
      rw [zx.out] at HM
      rw [Exit.noGoto_ret]
      go_ret
      exact ⟨_,rfl,hb3,HM.out⟩
     ·have hf0:((f:Int) == 0)=false:=by simp;omega
      go_wp2_with fail
      refine ⟨⟨f,ls++[gv],rfl,zh ?_,Wq,zx,hown2,hb3⟩,?_⟩
      ·have:=HE.out
       rw [List.length_append,List.length_singleton]
       omega
      ·simp only [intOf]
       omega):G:=h
theorem uG (s:ByteArray) (hs:s.size≤1099511627776) (hd:qN s.data.toList) (w:World) :
  Calls Tryz.prog 228 #[.string s] w (fun e w'=>∃ v,e= .returned v∧Below w.heap.size w w'∧aM w' v (num s.data.toList)):=zs3
theorem Dj (s p:ByteArray) (w:World) :
  Calls Tryz.prog 189 #[.string s,.string p] w fun e w'=>e= .returned (.tuple #[.string ⟨(Lib.trimPrefix s.data.toList p.data.toList).toArray⟩,.bool (Lib.hasPrefix s.data.toList p.data.toList)])∧w'=w:=by
 go_enter Tryz.func189,Tryz.ntmps189
 go_wp2
 ·have h2:(!((s.extract 0 p.size).toList == p.toList))=true:=by assumption
  have h3:(decide (p.size≤s.size)&&((s.extract 0 p.size).toList == p.toList))=false:=by
   have:((s.extract 0 p.size).toList == p.toList)=false:=by simpa using h2
   rw [this]
   simp
  go_ret2
  refine ⟨?_,rfl⟩
  rw [Lib.trimPrefix_miss s p h3,← Lib.hasPrefix_raw,h3]
  rfl
 ·have h1:p.size≤s.size:=by assumption
  have h2:(!((s.extract 0 p.size).toList == p.toList))=false:=by assumption
  have h2':((s.extract 0 p.size).toList == p.toList)=true:=by simpa using h2
  go_ret2
  refine ⟨?_,rfl⟩
  rw [Lib.trimPrefix_hit s p h1 h2',← Lib.hasPrefix_raw,h2',decide_eq_true h1]
  rfl
 ·have h1:¬ p.size≤s.size:=by assumption
  have h3:(decide (p.size≤s.size)&&((s.extract 0 p.size).toList == p.toList))=false:=by simp [h1]
  go_ret2
  refine ⟨?_,rfl⟩
  rw [Lib.trimPrefix_miss s p h3,← Lib.hasPrefix_raw,h3]
  rfl
theorem af0 (l:List UInt8):cut l=(Lib.trimPrefix l [45],Lib.hasPrefix l [45]):=by
 unfold cut Lib.trimPrefix Lib.hasPrefix
 cases l with
 | nil=>rfl
 | cons x t =>
  by_cases h:x=45
  ·subst h;simp
  ·have h2:¬ (45:UInt8)=x:=fun e=>h e.symm
   simp [h,h2,List.isPrefixOf]
theorem xB (s:ByteArray) (w:World) :
  Calls Tryz.prog 189 #[.string s,.string ⟨#[45]⟩] w fun e w'=>e= .returned (.tuple #[.string ⟨(cut s.data.toList).1.toArray⟩,.bool (cut s.data.toList).2])∧w=w':=by
 refine (Dj s ⟨#[45]⟩ w).mono ?_
 rintro e w' ⟨rfl,rfl⟩
 rw [af0]
 exact ⟨rfl,rfl⟩
def Uq (w:World) (c:Bool) (e:Ending) (w':World):Prop:=(∃ pa n ca ng,e= .returned (.tuple #[.agg #[.slice pa n ca,.bool ng],.bool c]))∧Below w.heap.size w w'
theorem Pf {pa:Option Addr} {n ca:Nat} {ng b c:Bool} (h:c=b):∃ pa' n' ca' ng',Ending.returned (.tuple #[.agg #[.slice pa n ca,.bool ng],.bool b])= .returned (.tuple #[.agg #[.slice pa' n' ca',.bool ng'],.bool c]):=⟨pa,n,ca,ng,by rw [h]⟩
theorem uq (s:ByteArray) (w:World) :
    Calls Tryz.prog 207 #[.string s] w (Uq w (whole s.data.toList).isSome):=by
  have HC:=zh (xB s)
  have hw:(whole s.data.toList).isSome=dM (cut s.data.toList).1 (cut s.data.toList).2:=by unfold whole;split<;>simp_all
  rw [hw]
  clear hw
  generalize cut s.data.toList=c at *
  obtain ⟨d,ng⟩:=c
  simp only at HC ⊢
  have hsz:(⟨d.toArray⟩:ByteArray).size=d.length:=rfl
  have h0:d=[]→dM d ng=false:=fun e=>by subst e;rfl
  have h1:600<d.length→dM d ng=false:=fun e=>by
    have h2:¬ d.length≤600:=by omega
    unfold dM
    simp [h2]
  have H0:=zh h0
  have H1:=zh h1
  clear h0 h1
  have hbx:aB (w.alloc (.cells #[.slice none 0 0,.bool false] 256 (0,0))) w.heap.size #[.slice none 0 0,.bool false] 256:=aB.new _ _ _
  have hbl:Below w.heap.size w (w.alloc (.cells #[.slice none 0 0,.bool false] 256 (0,0))):=(Below.refl _ _).alloc (Nat.le_refl _) _
  have pO:=zh hbx
  clear hbx
  go_enter Tryz.func207,Tryz.ntmps207
  go_wp2_with (go_at_call 189;refine (HC.out _).mono ?_;rintro e w1 ⟨rfl,rfl⟩)
  · refine aP rfl rfl pO.out Tryz.underlying256 rfl zk ⟨⟨none,0,0,false,?_⟩,hbl⟩
    rw [H0.out (by assumption)]
    rfl
  · refine aP rfl rfl pO.out Tryz.underlying256 rfl zk ⟨⟨none,0,0,false,?_⟩,hbl⟩
    have h1:¬ d=[]:=by assumption
    have h2:((d.length:Int) == 0)=true∨(600:Int)<d.length:=by assumption
    rw [H1.out (by
      rcases h2 with h2|h2
      · have:=List.length_pos_iff.mpr h1
        simp at h2
        exact absurd h2 h1
      · omega)]
    rfl
  · have h1:¬ d=[]:=by assumption
    have h2:((d.length:Int) == 0)=false∧(d.length:Int)≤600:=by assumption
    have hl0:=List.length_pos_iff.mpr h1
    have hl1:d.length≤600:=by omega
    clear h2
    go_loopw [23] (fun v wr=>∃ i:Nat,v= .int .i64 (i:Int)∧i≤d.length∧Hid (∀ k (h:k<d.length),k<i→48≤d[k].toNat∧d[k].toNat≤57)∧w.alloc (.cells #[.slice none 0 0,.bool false] 256 (0,0))=wr) (fun v _=>d.length - (intOf v).toNat)
    case atStart=>exact ⟨0,rfl,by omega,zh (fun k _ h=>by omega),rfl⟩
    case round =>
      obtain ⟨i,rfl,hi,HK,rfl⟩:=hrel
      rcases Nat.lt_or_ge i d.length with hlt|hge
      · have hgt:(⟨d.toArray⟩:ByteArray)[i]'(by exact hlt)=d[i]:=rfl
        have HGT:=zh hgt
        by_cases hdig:48≤d[i].toNat∧d[i].toNat≤57
        · have q1:decide (((⟨d.toArray⟩:ByteArray)[i]'(by exact hlt)).toNat<(48:Int))=false:=by rw [hgt];simp;omega
          have q2:decide ((57:Int)<((⟨d.toArray⟩:ByteArray)[i]'(by exact hlt)).toNat)=false:=by rw [hgt];simp;omega
          clear hgt
          go_wp2_with fail
          refine ⟨⟨i+1,rfl,by omega,zh fun k hk hki=>?_,trivial⟩,by simp only [intOf];omega⟩
          rcases Nat.lt_or_ge k i with h|h
          · exact HK.out k hk h
          · obtain rfl:k=i:=by omega
            exact hdig
        · clear hgt
          have hno:dM d ng=false:=by
            have:d.all (fun b=>decide (48≤b.toNat)&&decide (b.toNat≤57))=false:=by
              rw [List.all_eq_false]
              exact ⟨d[i],List.getElem_mem _,by simpa using hdig⟩
            unfold dM
            simp [this]
          have QO:=zh hno
          clear hno
          go_wp2_with fail
          all_goals first
            | (exfalso
               have h3:(48:Int)≤((⟨d.toArray⟩:ByteArray)[i]'(by exact hlt)).toNat∧(((⟨d.toArray⟩:ByteArray)[i]'(by exact hlt)).toNat:Int)≤57:=by assumption
               rw [HGT.out] at h3
               omega)
            | (try simp only [Exit.inBlock,Exit.then]
               refine aP rfl rfl pO.out Tryz.underlying256 rfl zk ⟨⟨none,0,0,false,?_⟩,hbl⟩
               rw [QO.out]
               rfl)
      · obtain rfl:i=d.length:=by omega
        have hdd:qN d:=fun b hb=>by
          obtain ⟨k,hk,rfl⟩:=List.getElem_of_mem hb
          exact HK.out k hk zo
        have YB:=zh hdd
        have hgt:(⟨d.toArray⟩:ByteArray)[0]'(by exact hl0)=d[0]:=rfl
        have hhd:(d.head? == some 48)=decide (d[0].toNat=48):=by
          rw [List.head?_eq_getElem?, List.getElem?_eq_getElem hl0,Bool.eq_iff_iff]
          simp only [beq_iff_eq,Option.some.injEq,decide_eq_true_eq]
          exact ⟨fun h=>by rw [h];rfl,fun h=>UInt8.toNat_inj.mp h⟩
        have hok:dM d ng= !(decide (d[0].toNat=48)&&(ng || decide (1<d.length))):=by
          have:d.all (fun b=>decide (48≤b.toNat)&&decide (b.toNat≤57))=true:=by
            rw [List.all_eq_true]
            intro b hb
            simpa using hdd b hb
          unfold dM
          rw [this,hhd]
          simp [h1,hl1]
        have aF2:qN (⟨d.toArray⟩:ByteArray).data.toList:=hdd
        clear hdd hhd HK H0 H1 HC hge hi
        generalize d[0]=x at *
        have q0:((((⟨d.toArray⟩:ByteArray)[0]'(by exact hl0)).toNat:Int) == 48)=decide (x.toNat=48):=by
          rw [hgt,Bool.eq_iff_iff]
          simp
          omega
        have q1:decide ((1:Int)<d.length)=decide (1<d.length):=by
          rw [Bool.eq_iff_iff,decide_eq_true_iff,decide_eq_true_iff]
          omega
        clear hgt
        have CB:=zh hok
        clear hok
        have HG:=zh (uG ⟨d.toArray⟩ (by rw [hsz];omega) aF2 (w.alloc (.cells #[.slice none 0 0,.bool false] 256 (0,0))))
        by_cases hx:x.toNat=48
        all_goals by_cases hl:1<d.length
        all_goals cases ng
        all_goals simp only [hx,hl,decide_true,decide_false,Bool.true_and,Bool.false_and,Bool.true_or,Bool.false_or,Bool.not_true,Bool.not_false] at CB q0 q1
        all_goals go_wp2_with (go_at_call 228;refine (HG.out).mono ?_;rintro e w2 ⟨v,rfl,hb2,hv⟩;obtain ⟨pa,ca,rfl, -⟩:=hv;have zH:=pO.out.later hb2;have c0:w2.cell? ⟨w.heap.size,0,none⟩=some (.slice none 0 0):=(zH.cell 0).trans rfl;have c1:w2.cell? ⟨w.heap.size,1,none⟩=some (.bool false):=(zH.cell 1).trans rfl;have f0:=zH.free 0;have f1:=zH.free 1)
        all_goals (try simp only [Exit.inBlock,Exit.then])
        all_goals first
          | (refine aP rfl rfl pO.out Tryz.underlying256 rfl zk ⟨⟨none,0,0,false,?_⟩,hbl⟩
             rw [CB.out]
             rfl)
          | (rename_i hb2 _ _ _ _
             refine aP rfl rfl (((pO.out.later hb2).set 0 _).set 1 _) Tryz.underlying256 rfl zk ⟨Pf CB.out,((Bt hbl hb2).setCell (Nat.le_refl _) _).setCell (Nat.le_refl _) _⟩)
theorem qH (s:ByteArray) (w:World) :
  Calls Tryz.prog 167 #[.string s] w (fun e w'=>e= .returned (.int .i64 (if (whole s.data.toList).isSome then 0 else 10))∧Below w.heap.size w w'):=by
 have H:=zh (uq s)
 generalize (whole s.data.toList).isSome=b at *
 cases b
 all_goals
  go_enter Tryz.func167,Tryz.ntmps167
  go_wp2_with (go_at_call 207;refine (H.out _).mono ?_;rintro e w1 ⟨⟨pa,n,ca,ng,rfl⟩,hb1⟩)
  go_ret
  exact ⟨rfl,Bt hb1 ((Below.refl _ _).alloc (Nat.le_refl _) _)⟩
theorem A9 (z:Int) (h0: -9223372036854775808≤z) (h1:z≤9223372036854775807) (w:World) (ht:pR.Pow w) :
  Calls Tryz.prog 119 #[.int .i64 z] w (fun e w'=>e= .returned (sO z)∧Below w.heap.size w w'):=by
 have H:=zh (Tryz.strconv_Itoa z h0 h1 w ht)
 clear ht
 go_enter Tryz.func119,Tryz.ntmps119
 go_wp2_with (go_at_call 171;refine (H.out).mono ?_;rintro e w1 ⟨rfl,k,os,rfl⟩)
 go_ret
 exact ⟨rfl,pR.below_grow _ _ _⟩
end Go.Proofs.whole
namespace Go.Proofs.dJ
open Go Go.RowKit Go.SW Go.Num Go.Mem Go.Proofs
theorem xW (b off c:Nat) (l:List Nat) (w:World) (hl:l.length≤c) (hm:c≤9223372036854775807)
   (hc:∀ k,k<l.length→w.cell? ⟨b,off+k,none⟩=some (.int .u32 (l.getD k 0:Nat))) :
    Calls Tryz.prog 215 #[.slice (some ⟨b,off,none⟩) l.length c] w fun e w'=>e= .returned (.slice (some ⟨b,off,none⟩) (trimLen l l.length) c)∧w=w':=zs1
theorem Ar (w:World):Calls Tryz.prog 215 #[.slice none 0 0] w fun e w'=>e= .returned (.slice none 0 0)∧w=w':=by
 go_enter Tryz.func215,Tryz.ntmps215
 go_wp2
 refine wp_loop_rounds 1 ?_
 rw [rounds_succ]
 go_wp2
 go_ret
 exact ⟨rfl,rfl⟩
theorem nJ (v:Value) (l:List Nat) (w:World) (h:kY w v l) (hd:dI 1000000000 l) :
  Calls Tryz.prog 215 #[v] w fun e w'=>∃ v',e= .returned v'∧w=w'∧aM w v' (val 1000000000 l):=zs2
theorem _root_.Go.zs4 {G:Prop} (h:G:=by
 obtain ⟨a,cap,rfl, -⟩:=h
 have e:decide (n=0)=((((bQ 1000000000 n).length:Nat):Int) == 0):=by
  rw [Bool.eq_iff_iff]
  simp [mW]
 rw [e,dz]
 clear e
 generalize (bQ 1000000000 n).length=k
 go_enter zq7,zq8
 go_wp2
 go_ret
 exact ⟨rfl,rfl⟩):G:=h
theorem iq (v:Value) (n:Nat) (w:World) (h:aM w v n) :
  Calls Tryz.prog 141 #[v] w fun e w'=>e= .returned (.bool (decide (n=0)))∧w=w':=zs4
def wC (a b:Nat):Int:=if a<b then -1 else if b<a then 1 else 0
theorem qX {a b:Nat} (h:a<b):wC a b= -1:=if_pos h
theorem pV {a b:Nat} (h:b<a):wC a b=1:=by unfold wC;rw [if_neg zo,if_pos h]
theorem sD (a:Nat):wC a a=0:=by unfold wC;simp
theorem _root_.Go.zs5 {G:Prop} (h:G:=by
 rcases Nat.lt_trichotomy a b with h|h|h
 ·rw [qX h]
  go_enter Tryz.func210,Tryz.ntmps210
  go_wp2
  go_ret
  exact ⟨rfl,rfl⟩
 ·subst h
  rw [sD]
  go_enter Tryz.func210,Tryz.ntmps210
  go_wp2
  go_ret
  exact ⟨rfl,rfl⟩
 ·rw [pV h]
  go_enter Tryz.func210,Tryz.ntmps210
  go_wp2
  go_ret
  exact ⟨rfl,rfl⟩):G:=h
theorem NK (a b:Nat) (w:World):Calls Tryz.prog 210 #[.int .i64 a,.int .i64 b] w fun e w'=>e= .returned (.int .i64 (wC a b))∧w=w':=zs5
theorem _root_.Go.zs6 {G:Prop} (h:G:=by
 rcases Nat.lt_trichotomy a b with h|h|h
 ·rw [qX h]
  go_enter Tryz.func211,Tryz.ntmps211
  go_wp2
  go_ret
  exact ⟨rfl,rfl⟩
 ·subst h
  rw [sD]
  go_enter Tryz.func211,Tryz.ntmps211
  go_wp2
  go_ret
  exact ⟨rfl,rfl⟩
 ·rw [pV h]
  go_enter Tryz.func211,Tryz.ntmps211
  go_wp2
  go_ret
  exact ⟨rfl,rfl⟩):G:=h
theorem NJ (a b:Nat) (w:World):Calls Tryz.prog 211 #[.int .u32 a,.int .u32 b] w fun e w'=>e= .returned (.int .i64 (wC a b))∧w=w':=zs6
theorem _root_.Go.zs7 {G:Prop} (h:G:=by
 have h1:((m:Int) == (n:Int))=false:=by simp;omega
 have h2:((m:Int) != (n:Int))=true:=by simp;omega
 go_enter zq9,YK
 go_wp2_with (go_at_call 210;refine (NK _ _ _).mono ?_;rintro e w' ⟨rfl,rfl⟩)
 go_ret
 exact ⟨rfl,rfl⟩):G:=h
theorem zl (a b:Option Addr) (m n c d:Nat) (w:World) (h:m≠n) :
  Calls Tryz.prog 185 #[.slice a m c,.slice b n d] w fun e w'=>e= .returned (.int .i64 (wC m n))∧w=w':=zs7
theorem _root_.Go.zs8 {G:Prop} (h:G:=by
 have HL:=zh hlen
 clear hlen
 rw [← HL.out]
 have h1:((l.length:Int) == (l.length:Int))=true:=by simp
 have h2:((l.length:Int) != (l.length:Int))=false:=by simp
 go_enter zq9,YK
 go_wp2
 clear h1 h2
 go_loopw [5] (fun i wr=>∃ q:Int, -1≤q∧q<l.length∧i= .int .i64 q∧l.drop (q+1).toNat=m.drop (q+1).toNat∧Below w.heap.size w wr) (fun i _=>(intOf i+1).toNat)
 case atStart=>exact ⟨(l.length:Int) - 1,by omega,by omega,rfl,by rw [show ((l.length:Int) - 1+1).toNat=l.length by omega,List.drop_length];rw [HL.out,List.drop_length],Below.refl _ _⟩
 case round =>
  obtain ⟨q,hq1,hq2,rfl,hdr,hb⟩:=hrel
  have HD:=zh hdr
  clear hdr
  by_cases hq:q<0
  ·have hq0:q= -1:=by omega
   subst hq0
   go_wp2
   go_ret
   have e:l=m:=by have:=HD.out;simpa using this
   rw [e,sD]
   exact ⟨rfl,hb⟩
  ·obtain ⟨j,rfl⟩:=Int.eq_ofNat_of_zero_le (by omega:0≤q)
   have hjl:j<l.length:=by omega
   have hjm:j<m.length:=by rw [← HL.out];exact hjl
   obtain ⟨ba,oa,rfl,hba,hx0⟩:=hc j hjl
   obtain ⟨bb,ob,rfl,hbb,hy0⟩:=hd j hjm
   have hx:wr.cell? ⟨ba,oa+j,none⟩=some (.int .u32 (l.getD j 0:Nat)):=(hb.cell (by exact hba)).trans hx0
   have hy:wr.cell? ⟨bb,ob+j,none⟩=some (.int .u32 (m.getD j 0:Nat)):=(hb.cell (by exact hbb)).trans hy0
   clear hx0 hy0
   have HD2:Hid (l.drop (j+1)=m.drop (j+1)):=by have:=HD.out;rwa [show ((j:Int)+1).toNat=j+1 by omega] at this
   have hlt:Hid (l.getD j 0<m.getD j 0→val 1000000000 l<val 1000000000 m):=ug zo hl hjl hjm HD2.out
   have hgt:Hid (m.getD j 0<l.getD j 0→val 1000000000 m<val 1000000000 l):=ug zo hmd hjm hjl HD2.out.symm
   have heq:Hid (l.getD j 0=m.getD j 0→l.drop j=m.drop j):=fun e=>by rw [iK hjl,iK hjm,HD2.out,e]
   generalize l.getD j 0=x at *
   generalize m.getD j 0=y at *
   clear HD HD2 hc hd
   by_cases hxy:x=y
   ·subst hxy
    have h1:((x:Int) == (x:Int))=true:=by simp
    have h2:((x:Int) != (x:Int))=false:=by simp
    go_wp2
    go_quiet (fail)
    go_wp2
    go_roundw
    case rel=>exact ⟨(j:Int) - 1,by omega,by omega,rfl,by rw [show ((j:Int) - 1+1).toNat=j by omega];exact heq.out trivial,below_drewN hb _⟩
    case measure=>simp [intOf]
   ·have h1:((x:Int) == (y:Int))=false:=by simp;omega
    have h2:((x:Int) != (y:Int))=true:=by simp;omega
    go_wp2
    go_quiet (fail)
    go_wp2
    refine aC [(.pure,0),(.pure,1),(.pure,2),(.read,3),(.pure,4),(.pure,5),(.pure,6),(.read,7),(.ext,8),(.fin,9)] zk zk zR zP ?_
    repeat (first|(refine ah rfl rfl fun J h=>?_;go_simp;refine h _ ?_;clear h J)|(refine au rfl rfl rfl rfl fun J h=>?_;go_simp;refine h _ ?_;clear h J;try go_simp))
    refine aD rfl rfl (fun w1 hb1 J hJ=>?_);go_simp
    refine (NJ _ _ _).mono ?_
    rintro e w' ⟨rfl,rfl⟩
    refine hJ _ _ (Below.refl _ _) ?_
    clear hJ J
    refine aJ [_] rfl (fun w2 hb2=>?_)
    go_wp2
    go_ret
    refine ⟨?_,Bt (Bt hb (RV hb1)) hb2⟩
    rcases Nat.lt_or_gt_of_ne hxy with h|h
    ·rw [qX h,qX (hlt.out h)];rfl
    ·rw [pV h,pV (hgt.out h)];rfl):G:=h
theorem xE (pa pb:Option Addr) (ca cb:Nat) (l m:List Nat) (w:World) (hlen:l.length=m.length) (hm:l.length≤9223372036854775807) (hl:dI 1000000000 l) (hmd:dI 1000000000 m)
   (hc:∀ k,k<l.length→∃ b off,pa=some ⟨b,off,none⟩∧b<w.heap.size∧w.cell? ⟨b,off+k,none⟩=some (.int .u32 (l.getD k 0:Nat)))
   (hd:∀ k,k<m.length→∃ b off,pb=some ⟨b,off,none⟩∧b<w.heap.size∧w.cell? ⟨b,off+k,none⟩=some (.int .u32 (m.getD k 0:Nat))) :
    Calls Tryz.prog 185 #[.slice pa l.length ca,.slice pb m.length cb] w fun e w'=>e= .returned (.int .i64 (wC (val 1000000000 l) (val 1000000000 m)))∧Below w.heap.size w w':=zs8
theorem _root_.Go.zs9 {G:Prop} (h:G:=by
 by_cases hs:sz 1000000000 a=sz 1000000000 b
 ·obtain ⟨pa,ca,rfl,h1,h2,h3⟩:=kY.read hx.Ab
  obtain ⟨pb,cb,rfl,k1,k2,k3⟩:=kY.read hy.Ab
  refine (xE pa pb ca cb _ _ w hs zo (aR zo a) (aR zo b) h3 k3).mono ?_
  rintro e w' ⟨rfl,hb⟩
  rw [aO zo,aO zo]
  exact ⟨rfl,hb⟩
 ·obtain ⟨a',ca,rfl, -⟩:=hx
  obtain ⟨b',cb,rfl, -⟩:=hy
  rw [dz,dz]
  refine (zl a' b' _ _ ca cb w hs).mono ?_
  rintro e w' ⟨rfl,rfl⟩
  refine ⟨?_,Below.refl _ _⟩
  rcases Nat.lt_or_gt_of_ne hs with h|h
  ·rw [qX (sN zo h)];exact congrArg _ (congrArg _ (qX h))
  ·rw [pV (sN zo h)];exact congrArg _ (congrArg _ (pV h))):G:=h
theorem jC (x y:Value) (a b:Nat) (w:World) (hx:aM w x a) (hy:aM w y b) :
  Calls Tryz.prog 185 #[x,y] w fun e w'=>e= .returned (.int .i64 (wC a b))∧Below w.heap.size w w':=zs9
theorem Bj:(Tryz.prog.info? 113).map (fun i=>(i.zero,i.size,i.bytes))=some (some (.int .u32 0),1,4):=by kernel_rfl
theorem _root_.Go.ak2 {G:Prop} (h:G:=by
 have hm:val B (m.take (k+1))=val B (m.take k)+B^k*m.getD k 0:=by
  by_cases hkm:k<m.length
  ·exact bK B hkm
  ·rw [List.take_of_length_le zo,List.take_of_length_le zo]
   simp [Nat.le_of_not_lt hkm]
 rw [iw,bK B hk,hm,hs,Nat.pow_succ]
 have h2:=congrArg (B^k* ·) h
 simp only [Nat.mul_add] at h2
 rw [show c'*(B^k*B)=B^k*(c'*B) by rw [Nat.mul_left_comm]]
 rw [Nat.mul_comm c (B^k)] at he
 omega):G:=h
theorem yc {B:Nat} {l m s:List Nat} {k c d c':Nat} (hk:k<l.length) (hs:s.length=k) (he:val B s+c*B^k=val B (l.take k)+val B (m.take k)) (h:d+c'*B=l.getD k 0+c+m.getD k 0) :
  val B (s++[d])+c'*B^(k+1)=val B (l.take (k+1))+val B (m.take (k+1)):=ak2
theorem _root_.Go.ak1 {G:Prop} (h:G:=by
 obtain ⟨i0,hi,hz0,hz1,hz2⟩:=info_parts Bj
 rcases hv with ⟨rfl,rfl⟩|⟨rfl,rfl,hlt⟩
 all_goals
  go_enter an3,an2
  go_wp2_with (at_make;refine wpList_make_own _ rfl _ _ GV rfl w.heap.size 113 i0 (.int .u32 0) 1 G9 hi hz0 hz1 _ _ _ (l.length+1) rfl rfl zo (by rw [hz2];omega) (by unfold maxLen;omega) (Nat.le_refl _) ?_)
  intro w0 hown0 kP
  go_wp2
  go_loopw [5,6,7,8,22] (fun out cv _ _ kv wr=>∃ (k c:Nat) (s:List Nat),k≤l.length∧c≤1∧s.length=k∧kv= .int .i64 k∧cv= .int .u32 c∧out= .slice (some ⟨w.heap.size,0,none⟩) k (l.length+1) ∧
    wr.ownsRow w.heap.size 113 1 (.slice (some ⟨w.heap.size,0,none⟩) k (l.length+1)) k (bS s)∧dI 1000000000 s∧Hid (val 1000000000 s+c*1000000000^k=val 1000000000 (l.take k)+val 1000000000 (m.take k))∧Below w.heap.size w wr)
   (fun _ _ _ _ kv _=>l.length - (intOf kv).toNat)
  case atStart=>exact ⟨0,0,[],Nat.zero_le _,by omega,rfl,rfl,rfl,rfl,hown0,dI.nil,(by simp [val]:val _ _+0*_=_),(Below.refl _ _).grown kP (Nat.le_refl _) (fun k h=>by cases h)⟩
  case round =>
   obtain ⟨k,c,s,hk,hc1,hs,rfl,rfl,rfl,hown,hds,HV,hb⟩:=hrel
   have HS:=zh hs
   clear hs
   by_cases hkl:k<l.length
   ·obtain ⟨b,off,rfl,hbb,hx0⟩:=hc k hkl
    have hx:wr.cell? ⟨b,off+k,none⟩=some (.int .u32 (l.getD k 0:Nat)):=(hb.cell (by exact hbb)).trans hx0
    have hdl:l.getD k 0<1000000000:=hl.getD zo k
    have HP:∀ d c',d+c'*1000000000=l.getD k 0+c+m.getD k 0→val 1000000000 (s++[d])+c'*1000000000^(k+1)=val 1000000000 (l.take (k+1))+val 1000000000 (m.take (k+1)) :=
     fun d c' h=>yc hkl HS.out HV.out h
    have HP2:=zh HP
    clear HP hx0 hc
    by_cases hkm:k<m.length
    ·obtain ⟨b2,off2,rfl,Gh,hy0⟩:=hd k hkm
     have hy:wr.cell? ⟨b2,off2+k,none⟩=some (.int .u32 (m.getD k 0:Nat)):=(hb.cell (by exact Gh)).trans hy0
     have U0:m.getD k 0<1000000000:=hmd.getD zo k
     clear hy0 hd
     generalize l.getD k 0=x at *
     generalize m.getD k 0=y at *
     by_cases hge:x+c+y<1000000000
     ·have hge':decide ((1000000000:Int)≤(x:Int)+(c:Int)+(y:Int))=false:=by rw [decide_eq_false_iff_not];omega
      have HG:=zh hge
      clear hge
      go_wp2_with (at_builtin;refine wpList_append_fits _ rfl (.tmp 44) (.tmp 46) GV rfl w.heap.size 113 i0 1 G9 hi hz1 w.heap.size k (l.length+1) _ rfl (hown.alloc _) ⟨wr.heap.size,0,none⟩ 1 1 [.int .u32 ((x:Int)+(c:Int)+(y:Int))] rfl rfl (by intro t u ht;match t,ht with|0,ht=>simp at ht;subst ht;simp [Addr.add]) (by intro u hu;simp at hu;subst hu;rfl) zo ?_)
      intro w1 hown1 hgrow1
      have hown2:w1.ownsRow w.heap.size 113 1 (.slice (some ⟨w.heap.size,0,none⟩) (k+1) (l.length+1)) (k+1) (bS (s++[x+c+y])):=by
       have e:bS (s++[x+c+y])=bS s++[.int .u32 ((x:Int)+(c:Int)+(y:Int))]:=by have:=HG.out;unfold bS;simp only [List.map_append,List.map_cons,List.map_nil];rw [show ((x+c+y:Nat):Int)=(x:Int)+(c:Int)+(y:Int) by omega]
       rw [e];exact hown1
      have hb2:Below w.heap.size w w1:=(hb.alloc hb.size _).grown hgrow1 (by simp;have:=hb.size;omega) (fun k hk=>by cases hk;exact Nat.le_refl _)
      clear hown hown1 hgrow1
      go_wp2
      go_roundw
      case rel=>exact ⟨k+1,0,s++[x+c+y],by omega,by omega,by rw [List.length_append,HS.out];rfl,by go_num,rfl,rfl,hown2,hds.snoc (by have:=HG.out;omega),HP2.out _ _ (by have:=HG.out;omega),hb2⟩
      case measure=>exact zM
     ·have hge':decide ((1000000000:Int)≤(x:Int)+(c:Int)+(y:Int))=true:=by rw [decide_eq_true_iff];omega
      have au2:(0:Int)≤(x:Int)+(c:Int)+(y:Int) - 1000000000:=by omega
      have HG:=zh hge
      clear hge
      go_wp2_with (at_builtin;refine wpList_append_fits _ rfl (.tmp 44) (.tmp 46) GV rfl w.heap.size 113 i0 1 G9 hi hz1 w.heap.size k (l.length+1) _ rfl (hown.alloc _) ⟨wr.heap.size,0,none⟩ 1 1 [.int .u32 ((x:Int)+(c:Int)+(y:Int) - 1000000000)] rfl rfl (by intro t u ht;match t,ht with|0,ht=>simp at ht;subst ht;simp [Addr.add]) (by intro u hu;simp at hu;subst hu;rfl) zo ?_)
      intro w1 hown1 hgrow1
      have hown2:w1.ownsRow w.heap.size 113 1 (.slice (some ⟨w.heap.size,0,none⟩) (k+1) (l.length+1)) (k+1) (bS (s++[x+c+y - 1000000000])):=by
       have e:bS (s++[x+c+y - 1000000000])=bS s++[.int .u32 ((x:Int)+(c:Int)+(y:Int) - 1000000000)]:=by have:=HG.out;unfold bS;simp only [List.map_append,List.map_cons,List.map_nil];rw [show ((x+c+y - 1000000000:Nat):Int)=(x:Int)+(c:Int)+(y:Int) - 1000000000 by omega]
       rw [e];exact hown1
      have hb2:Below w.heap.size w w1:=(hb.alloc hb.size _).grown hgrow1 (by simp;have:=hb.size;omega) (fun k hk=>by cases hk;exact Nat.le_refl _)
      clear hown hown1 hgrow1
      go_wp2
      go_roundw
      case rel=>exact ⟨k+1,1,s++[x+c+y - 1000000000],by omega,by omega,by rw [List.length_append,HS.out];rfl,by go_num,rfl,rfl,hown2,hds.snoc (by have:=HG.out;omega),HP2.out _ _ (by have:=HG.out;omega),hb2⟩
      case measure=>exact zM
    ·have hm0:m.getD k 0=0:=by simp [Nat.le_of_not_lt hkm]
     rw [hm0] at HP2
     clear hm0 hd
     generalize l.getD k 0=x at *
     by_cases hge:x+c<1000000000
     ·have hge':decide ((1000000000:Int)≤(x:Int)+(c:Int))=false:=by rw [decide_eq_false_iff_not];omega
      have HG:=zh hge
      clear hge
      go_wp2_with (at_builtin;refine wpList_append_fits _ rfl (.tmp 44) (.tmp 46) GV rfl w.heap.size 113 i0 1 G9 hi hz1 w.heap.size k (l.length+1) _ rfl (hown.alloc _) ⟨wr.heap.size,0,none⟩ 1 1 [.int .u32 ((x:Int)+(c:Int))] rfl rfl (by intro t u ht;match t,ht with|0,ht=>simp at ht;subst ht;simp [Addr.add]) (by intro u hu;simp at hu;subst hu;rfl) zo ?_)
      intro w1 hown1 hgrow1
      have hown2:w1.ownsRow w.heap.size 113 1 (.slice (some ⟨w.heap.size,0,none⟩) (k+1) (l.length+1)) (k+1) (bS (s++[x+c])):=by
       have e:bS (s++[x+c])=bS s++[.int .u32 ((x:Int)+(c:Int))]:=by have:=HG.out;unfold bS;simp only [List.map_append,List.map_cons,List.map_nil];rw [show ((x+c:Nat):Int)=(x:Int)+(c:Int) by omega]
       rw [e];exact hown1
      have hb2:Below w.heap.size w w1:=(hb.alloc hb.size _).grown hgrow1 (by simp;have:=hb.size;omega) (fun k hk=>by cases hk;exact Nat.le_refl _)
      clear hown hown1 hgrow1
      go_wp2
      go_roundw
      case rel=>exact ⟨k+1,0,s++[x+c],by omega,by omega,by rw [List.length_append,HS.out];rfl,by go_num,rfl,rfl,hown2,hds.snoc (by have:=HG.out;omega),HP2.out _ _ (by have:=HG.out;omega),hb2⟩
      case measure=>exact zM
     ·have hge':decide ((1000000000:Int)≤(x:Int)+(c:Int))=true:=by rw [decide_eq_true_iff];omega
      have au2:(0:Int)≤(x:Int)+(c:Int) - 1000000000:=by omega
      have HG:=zh hge
      clear hge
      go_wp2_with (at_builtin;refine wpList_append_fits _ rfl (.tmp 44) (.tmp 46) GV rfl w.heap.size 113 i0 1 G9 hi hz1 w.heap.size k (l.length+1) _ rfl (hown.alloc _) ⟨wr.heap.size,0,none⟩ 1 1 [.int .u32 ((x:Int)+(c:Int) - 1000000000)] rfl rfl (by intro t u ht;match t,ht with|0,ht=>simp at ht;subst ht;simp [Addr.add]) (by intro u hu;simp at hu;subst hu;rfl) zo ?_)
      intro w1 hown1 hgrow1
      have hown2:w1.ownsRow w.heap.size 113 1 (.slice (some ⟨w.heap.size,0,none⟩) (k+1) (l.length+1)) (k+1) (bS (s++[x+c - 1000000000])):=by
       have e:bS (s++[x+c - 1000000000])=bS s++[.int .u32 ((x:Int)+(c:Int) - 1000000000)]:=by have:=HG.out;unfold bS;simp only [List.map_append,List.map_cons,List.map_nil];rw [show ((x+c - 1000000000:Nat):Int)=(x:Int)+(c:Int) - 1000000000 by omega]
       rw [e];exact hown1
      have hb2:Below w.heap.size w w1:=(hb.alloc hb.size _).grown hgrow1 (by simp;have:=hb.size;omega) (fun k hk=>by cases hk;exact Nat.le_refl _)
      clear hown hown1 hgrow1
      go_wp2
      go_roundw
      case rel=>exact ⟨k+1,1,s++[x+c - 1000000000],by omega,by omega,by rw [List.length_append,HS.out];rfl,by go_num,rfl,rfl,hown2,hds.snoc (by have:=HG.out;omega),HP2.out _ _ (by have:=HG.out;omega),hb2⟩
      case measure=>exact zM
   ·have hkk:k=l.length:=by omega
    subst hkk
    clear hc hd
    have zx:Hid (val 1000000000 s+c*1000000000^l.length=val 1000000000 l+val 1000000000 m):=by
     have:=HV.out;rwa [List.take_length,List.take_of_length_le hml] at this
    clear HV
    rcases Nat.eq_zero_or_pos c with h0|h0
    ·subst h0
     go_wp2
     go_ret
     refine ⟨s,_,rfl,hb,kY.dR hown,hds,by have:=zx.out;simpa using this,Nat.le_of_eq HS.out.symm,fun h=>absurd h (by rw [HS.out];exact Nat.lt_irrefl _)⟩
    ·have hc1':c=1:=by omega
     subst hc1'
     go_wp2_with (at_builtin;refine wpList_append_fits _ rfl (.tmp 51) (.tmp 53) GV rfl w.heap.size 113 i0 1 G9 hi hz1 w.heap.size l.length (l.length+1) _ rfl (hown.alloc _) ⟨wr.heap.size,0,none⟩ 1 1 [.int .u32 1] rfl rfl (by intro t u ht;match t,ht with|0,ht=>simp at ht;subst ht;simp [Addr.add]) (by intro u hu;simp at hu;subst hu;rfl) zo ?_)
     intro w1 hown1 hgrow1
     have hown2:w1.ownsRow w.heap.size 113 1 (.slice (some ⟨w.heap.size,0,none⟩) (l.length+1) (l.length+1)) (l.length+1) (bS (s++[1])):=by
      have e:bS (s++[1])=bS s++[.int .u32 1]:=by simp [bS]
      rw [e];exact hown1
     have hb2:Below w.heap.size w w1:=(hb.alloc hb.size _).grown hgrow1 (by simp;have:=hb.size;omega) (fun k hk=>by cases hk;exact Nat.le_refl _)
     clear hown hown1 hgrow1
     go_wp2
     go_ret
     refine ⟨s++[1],_,rfl,hb2,kY.dR hown2,hds.snoc zo,?_,by rw [List.length_append,HS.out];exact Nat.le_add_right _ _,fun _=>Top.snoc zo⟩
     have:=zx.out
     rw [iw,HS.out,Nat.mul_one]
     rwa [Nat.one_mul] at this):G:=h
theorem x9 (pl ps:Option Addr) (cl cs:Nat) (l m:List Nat) (v0 v1:Value) (w:World) (hl:dI 1000000000 l) (hmd:dI 1000000000 m) (hb1:l.length≤1099511627776) (hml:m.length≤l.length)
   (hv:(v0= .slice pl l.length cl∧v1= .slice ps m.length cs)∨(v1= .slice pl l.length cl∧v0= .slice ps m.length cs∧m.length<l.length))
   (hc:∀ k,k<l.length→∃ b off,pl=some ⟨b,off,none⟩∧b<w.heap.size∧w.cell? ⟨b,off+k,none⟩=some (.int .u32 (l.getD k 0:Nat)))
   (hd:∀ k,k<m.length→∃ b off,ps=some ⟨b,off,none⟩∧b<w.heap.size∧w.cell? ⟨b,off+k,none⟩=some (.int .u32 (m.getD k 0:Nat))) :
    Calls Tryz.prog 187 #[v0,v1] w fun e w'=>∃ s v,e= .returned v∧Below w.heap.size w w'∧kY w' v s∧dI 1000000000 s∧val 1000000000 s=val 1000000000 l+val 1000000000 m∧l.length≤s.length∧(l.length<s.length→Top s):=ak1
theorem _root_.Go.zs12 {G:Prop} (h:G:=by
 have fin:∀ (l m s:List Nat) (w':World) (v:Value),Top l→kY w' v s→dI 1000000000 s→val 1000000000 s=val 1000000000 l+val 1000000000 m→l.length≤s.length→(l.length<s.length→Top s)→aM w' v (val 1000000000 l+val 1000000000 m):=fun l m s w' v ht h1 h2 h3 h4 h5=>by
  rw [← h3]
  refine aM.RX h1 h2 ?_
  by_cases h:l.length<s.length
  ·exact h5 h
  ·exact Kh zo ht h2 zo zo
 obtain ⟨pa,ca,rfl,h1,h2,h3⟩:=kY.read hx.Ab
 obtain ⟨pb,cb,rfl,k1,k2,k3⟩:=kY.read hy.Ab
 by_cases hlt:(bQ 1000000000 a).length<(bQ 1000000000 b).length
 ·refine (x9 pb pa cb ca _ _ _ _ w (aR zo b) (aR zo a) hb zo (.inr ⟨rfl,rfl,hlt⟩) k3 h3).mono ?_
  rintro e w' ⟨s,v,rfl,hbl,q1,q2,q3,q4,q5⟩
  refine ⟨v,rfl,hbl,?_⟩
  have:=fin _ _ s w' v (mJ zo b) q1 q2 q3 q4 q5
  rwa [aO zo,aO zo,Nat.add_comm] at this
 ·refine (x9 pa pb ca cb _ _ _ _ w (aR zo a) (aR zo b) ha zo (.inl ⟨rfl,rfl⟩) h3 k3).mono ?_
  rintro e w' ⟨s,v,rfl,hbl,q1,q2,q3,q4,q5⟩
  refine ⟨v,rfl,hbl,?_⟩
  have:=fin _ _ s w' v (mJ zo a) q1 q2 q3 q4 q5
  rwa [aO zo,aO zo] at this):G:=h
theorem M6 (x y:Value) (a b:Nat) (w:World) (hx:aM w x a) (hy:aM w y b) (ha:sz 1000000000 a≤1099511627776) (hb:sz 1000000000 b≤1099511627776) :
  Calls Tryz.prog 187 #[x,y] w fun e w'=>∃ v,e= .returned v∧Below w.heap.size w w'∧aM w' v (a+b):=zs12
theorem _root_.Go.ak0 {G:Prop} (h:G:=by
 obtain ⟨i0,hi,hz0,hz1,hz2⟩:=info_parts Bj
 have QT:=zh hle
 clear hle
 go_enter an1,an0
 go_wp2_with (at_make;refine wpList_make_full _ rfl _ _ GV rfl w.heap.size 113 i0 (.int .u32 0) 1 G9 hi hz0 hz1 _ _ _ _ l.length rfl rfl zo zo (by rw [hz2];omega) (by unfold maxLen;omega) (Nat.le_refl _) ?_)
 intro w0 hown0 kP
 rw [sM] at hown0
 go_wp2
 go_loopw [6,7,8,9,15] (fun cv _ _ _ kv wr=>∃ (k c:Nat) (s:List Nat),k≤l.length∧c≤1∧Hid (s.length=k)∧kv= .int .i64 k∧cv= .int .u32 c ∧
   wr.ownsRow w.heap.size 113 1 (.slice (some ⟨w.heap.size,0,none⟩) l.length l.length) l.length (bS (s++List.replicate (l.length - k) 0))∧dI 1000000000 s∧Hid (val 1000000000 s+val 1000000000 (m.take k)=val 1000000000 (l.take k)+c*1000000000^k)∧Below w.heap.size w wr)
  (fun _ _ _ _ kv _=>l.length - (intOf kv).toNat)
 case atStart=>exact ⟨0,0,[],Nat.zero_le _,by omega,rfl,rfl,rfl,by simpa using hown0,dI.nil,(by simp [val]:val _ _+val _ _=val _ _+0*_),(Below.refl _ _).grown kP (Nat.le_refl _) (fun k h=>by cases h)⟩
 case round =>
  obtain ⟨k,c,s,hk,hc1,HS,rfl,rfl,hown,hds,HV,hb⟩:=hrel
  by_cases hkl:k<l.length
  ·obtain ⟨b,off,rfl,hbb,hx0⟩:=hc k hkl
   have hx:wr.cell? ⟨b,off+k,none⟩=some (.int .u32 (l.getD k 0:Nat)):=(hb.cell (by exact hbb)).trans hx0
   have hdl:l.getD k 0<1000000000:=hl.getD zo k
   have hr1:wr.cell? ⟨w.heap.size,k,none⟩=some (.int .u32 0):=by
    rw [hown.cellAt k zo,og (by rw [List.length_append,HS.out,List.length_replicate];omega),Tz HS.out];rfl
   have hr2:wr.frozen? ⟨w.heap.size,k,none⟩=false:=hown.frozenAt k
   have HP:Hid (∀ d c',d+m.getD k 0+c=l.getD k 0+c'*1000000000→val 1000000000 (s++[d])+val 1000000000 (m.take (k+1))=val 1000000000 (l.take (k+1))+c'*1000000000^(k+1)) :=
    fun d c' h=>Bd hkl HS.out HV.out h
   have HO:Hid (∀ d:Nat,(wr.setCell ⟨w.heap.size,k,none⟩ (.int .u32 (d:Int))).ownsRow w.heap.size 113 1 (.slice (some ⟨w.heap.size,0,none⟩) l.length l.length) l.length (bS ((s++[d])++List.replicate (l.length - (k+1)) 0))∧Below w.heap.size w (wr.setCell ⟨w.heap.size,k,none⟩ (.int .u32 (d:Int)))):=fun d=>by
    have h1:=(hown.stored k (.int .u32 (d:Int))).1
    rw [kH,set_mid HS.out hkl] at h1
    exact ⟨h1,hb.setCell (Nat.le_refl _) _⟩
   clear hx0 hc hown
   by_cases hkm:k<m.length
   ·obtain ⟨b2,off2,rfl,Gh,hy0⟩:=hd k hkm
    have hy:wr.cell? ⟨b2,off2+k,none⟩=some (.int .u32 (m.getD k 0:Nat)):=(hb.cell (by exact Gh)).trans hy0
    have U0:m.getD k 0<1000000000:=hmd.getD zo k
    clear hy0 hd
    generalize l.getD k 0=x at *
    generalize m.getD k 0=y at *
    by_cases hge:x<c+y
    ·have mY:=HO.out (x+1000000000 - (c+y))
     rw [show ((x+1000000000 - (c+y):Nat):Int)=(x:Int)+1000000000 - ((c:Int)+(y:Int)) by omega] at mY
     have oQ:=zh mY
     clear mY HO
     go_wp2
     go_roundw
     case rel=>exact ⟨k+1,1,s++[x+1000000000 - (c+y)],by omega,by omega,zh (by rw [List.length_append,HS.out];rfl),by go_num,rfl,oQ.out.1,hds.snoc zo,HP.out _ _ zo,oQ.out.2⟩
     case measure=>exact zM
    ·have mY:=HO.out (x - (c+y))
     rw [show ((x - (c+y):Nat):Int)=(x:Int) - ((c:Int)+(y:Int)) by omega] at mY
     have oQ:=zh mY
     clear mY HO
     go_wp2
     go_roundw
     case rel=>exact ⟨k+1,0,s++[x - (c+y)],by omega,by omega,zh (by rw [List.length_append,HS.out];rfl),by go_num,rfl,oQ.out.1,hds.snoc zo,HP.out _ _ zo,oQ.out.2⟩
     case measure=>exact zM
   ·have hm0:m.getD k 0=0:=by simp [Nat.le_of_not_lt hkm]
    rw [hm0] at HP
    clear hm0 hd
    generalize l.getD k 0=x at *
    by_cases hge:x<c
    ·have mY:=HO.out (x+1000000000 - c)
     rw [show ((x+1000000000 - c:Nat):Int)=(x:Int)+1000000000 - (c:Int) by omega] at mY
     have oQ:=zh mY
     clear mY HO
     go_wp2
     go_roundw
     case rel=>exact ⟨k+1,1,s++[x+1000000000 - c],by omega,by omega,zh (by rw [List.length_append,HS.out];rfl),by go_num,rfl,oQ.out.1,hds.snoc zo,HP.out _ _ zo,oQ.out.2⟩
     case measure=>exact zM
    ·have mY:=HO.out (x - c)
     rw [show ((x - c:Nat):Int)=(x:Int) - (c:Int) by omega] at mY
     have oQ:=zh mY
     clear mY HO
     go_wp2
     go_roundw
     case rel=>exact ⟨k+1,0,s++[x - c],by omega,by omega,zh (by rw [List.length_append,HS.out];rfl),by go_num,rfl,oQ.out.1,hds.snoc zo,HP.out _ _ zo,oQ.out.2⟩
     case measure=>exact zM
  ·have hkk:k=l.length:=by omega
   subst hkk
   clear hc hd
   have zx:val 1000000000 s+val 1000000000 m=val 1000000000 l+c*1000000000^l.length:=by
    have:=HV.out;rwa [List.take_length,List.take_of_length_le hml] at this
   have hvs:val 1000000000 s<1000000000^l.length:=by have:=fU zo hds;rwa [HS.out] at this
   have hc0:c=0:=by
    rcases Nat.eq_zero_or_pos c with h|h
    ·exact h
    ·exfalso
     have:c=1:=by omega
     subst this
     have:=QT.out
     omega
   have HF:Hid (val 1000000000 s=val 1000000000 l - val 1000000000 m):=by subst hc0;unfold Hid;omega
   clear HV zx hvs QT
   have hown3:kY wr (.slice (some ⟨w.heap.size,0,none⟩) l.length l.length) s:=by
    have:=kY.dR hown;rwa [Nat.sub_self,List.replicate_zero,List.append_nil] at this
   clear hown
   go_wp2_with ((first|go_at_call 215|go_at_call 127);refine (nJ _ _ _ hown3 hds).mono ?_;rintro e w' ⟨v,rfl,rfl,hv⟩)
   go_ret
   exact ⟨v,rfl,hb,by rw [← HF.out];exact hv⟩):G:=h
theorem Bc (pl ps:Option Addr) (cl cs:Nat) (l m:List Nat) (w:World) (hl:dI 1000000000 l) (hmd:dI 1000000000 m) (hb1:l.length≤1099511627776) (hml:m.length≤l.length) (hle:val 1000000000 m≤val 1000000000 l)
   (hc:∀ k,k<l.length→∃ b off,pl=some ⟨b,off,none⟩∧b<w.heap.size∧w.cell? ⟨b,off+k,none⟩=some (.int .u32 (l.getD k 0:Nat)))
   (hd:∀ k,k<m.length→∃ b off,ps=some ⟨b,off,none⟩∧b<w.heap.size∧w.cell? ⟨b,off+k,none⟩=some (.int .u32 (m.getD k 0:Nat))) :
    Calls Tryz.prog 188 #[.slice pl l.length cl,.slice ps m.length cs] w fun e w'=>∃ v,e= .returned v∧Below w.heap.size w w'∧aM w' v (val 1000000000 l - val 1000000000 m):=ak0
theorem _root_.Go.aj9 {G:Prop} (h:G:=by
 obtain ⟨pa,ca,rfl,h1,h2,h3⟩:=kY.read hx.Ab
 obtain ⟨pb,cb,rfl,k1,k2,k3⟩:=kY.read hy.Ab
 have:=Bc pa pb ca cb _ _ w (aR zo a) (aR zo b) ha (gN zo hle) (by rw [aO zo,aO zo];exact hle) h3 k3
 rwa [aO zo,aO zo] at this):G:=h
theorem Bf (x y:Value) (a b:Nat) (w:World) (hx:aM w x a) (hy:aM w y b) (ha:sz 1000000000 a≤1099511627776) (hle:b≤a) :
  Calls Tryz.prog 188 #[x,y] w fun e w'=>∃ v,e= .returned v∧Below w.heap.size w w'∧aM w' v (a - b):=aj9
theorem M5 {x y:Nat} (hx:x<1000000000) (hy:y<1000000000):(0:Int)≤(x:Int)*(y:Int)∧(x:Int)*(y:Int)≤999999998000000001:=by
 have h:x*y≤999999999*999999999:=Nat.mul_le_mul zo zo
 rw [← Int.natCast_mul]
 omega
theorem _root_.Go.aj8 {G:Prop} (h:G:=by
 obtain ⟨i0,hi,hz0,hz1,hz2⟩:=info_parts Bj
 go_enter am9,am8
 go_wp2_with (at_make;refine wpList_make_full _ rfl _ _ GV rfl w.heap.size 113 i0 (.int .u32 0) 1 G9 hi hz0 hz1 _ _ _ _ (l.length+m.length) rfl rfl zo zo (by rw [hz2];omega) (by unfold maxLen;omega) (Nat.le_refl _) ?_)
 intro w0 hown0 kP
 rw [sM] at hown0
 go_wp2
 go_loopw [6,7,8,9,10,19,26] (fun _ _ _ _ _ iv _ wr=>∃ (i:Nat) (p:List Nat),i≤l.length∧iv= .int .i64 i∧Hid (p.length=l.length+m.length)∧(∀ t,i+m.length≤t→p.getD t 0=0) ∧
   wr.ownsRow w.heap.size 113 1 (.slice (some ⟨w.heap.size,0,none⟩) (l.length+m.length) (l.length+m.length)) (l.length+m.length) (bS p)∧dI 1000000000 p∧Hid (val 1000000000 p=val 1000000000 (l.take i)*val 1000000000 m)∧Below w.heap.size w wr)
  (fun _ _ _ _ _ iv _ _=>l.length - (intOf iv).toNat)
 case atStart=>exact ⟨0,List.replicate (l.length+m.length) 0,Nat.zero_le _,rfl,zh zi,fun t _=>by simp [List.getD,List.getElem?_replicate];split<;>rfl,hown0,fun x hx=>by rw [List.eq_of_mem_replicate hx];omega,zh (by rw [xV];simp [val]),(Below.refl _ _).grown kP (Nat.le_refl _) (fun k h=>by cases h)⟩
 case round =>
  obtain ⟨i,p,hil,rfl,HL,hz,hown,hdp,HV,hb⟩:=hrel
  have HZ:=zh hz
  clear hz
  by_cases hlt:i<l.length
  ·obtain ⟨b,off,rfl,hbb,hx0⟩:=hc i hlt
   have hx:wr.cell? ⟨b,off+i,none⟩=some (.int .u32 (l.getD i 0:Nat)):=(hb.cell (by exact hbb)).trans hx0
   have hdl:l.getD i 0<1000000000:=hl.getD zo i
   clear hx0 hc
   have HD:Hid (l.getD i 0=l.getD i 0):=rfl
   revert HD
   generalize J2:l.getD i 0=x at hx hdl
   have HX:=zh J2
   clear J2
   intro _
   obtain ⟨wo,rfl⟩:∃ wo:World,wo=wr:=⟨_,rfl⟩
   go_wp2
   go_loopw [8,9,10,26] (fun cv _ _ jv wq=>∃ (j c:Nat) (q:List Nat),j≤m.length∧c<1000000000∧jv= .int .i64 j∧cv= .int .u64 c∧Hid (q.length=l.length+m.length)∧Hid (∀ t,i+m.length≤t→q.getD t 0=0) ∧
     wq.ownsRow w.heap.size 113 1 (.slice (some ⟨w.heap.size,0,none⟩) (l.length+m.length) (l.length+m.length)) (l.length+m.length) (bS q)∧dI 1000000000 q∧Hid (val 1000000000 q+c*1000000000^(i+j)=val 1000000000 (l.take i)*val 1000000000 m+1000000000^i*(x*val 1000000000 (m.take j)))∧Below w.heap.size w wq)
    (fun _ _ _ jv _=>m.length - (intOf jv).toNat)
   case atStart=>exact ⟨0,0,p,Nat.zero_le _,by omega,rfl,rfl,HL,HZ,hown,hdp,zh (by rw [HV.out];simp [val]),hb⟩
   case round =>
    obtain ⟨j,c,q,hjl,hcb,rfl,rfl,Qp,Qn,hown,Dg,Xi,hb⟩:=hrel
    by_cases hjlt:j<m.length
    ·obtain ⟨b2,off2,rfl,Gh,hy0⟩:=hd j hjlt
     have hy:wr.cell? ⟨b2,off2+j,none⟩=some (.int .u32 (m.getD j 0:Nat)):=(hb.cell (by exact Gh)).trans hy0
     have U0:m.getD j 0<1000000000:=hmd.getD zo j
     have hij:i+j<q.length:=by have:=Qp.out;omega
     have hq1:wr.cell? ⟨w.heap.size,i+j,none⟩=some (.int .u32 (q.getD (i+j) 0:Nat)):=by rw [hown.cellAt (i+j) zo,og hij]
     have hq2:wr.frozen? ⟨w.heap.size,i+j,none⟩=false:=hown.frozenAt (i+j)
     have ab5:q.getD (i+j) 0<1000000000:=Dg.getD zo (i+j)
     have HS:=zh (Ay hjlt hij Xi.out)
     have HC:=zh (yT hcb ab5 hdl U0)
     have HO:Hid (∀ d:Nat,d<1000000000→(wr.setCell ⟨w.heap.size,i+j,none⟩ (.int .u32 (d:Int))).ownsRow w.heap.size 113 1 (.slice (some ⟨w.heap.size,0,none⟩) (l.length+m.length) (l.length+m.length)) (l.length+m.length) (bS (q.set (i+j) d)) ∧
       Below w.heap.size w (wr.setCell ⟨w.heap.size,i+j,none⟩ (.int .u32 (d:Int)))∧dI 1000000000 (q.set (i+j) d)∧(q.set (i+j) d).length=l.length+m.length∧(∀ t,i+m.length≤t→(q.set (i+j) d).getD t 0=0)):=fun d hd=>by
      have h1:=(hown.stored (i+j) (.int .u32 (d:Int))).1
      rw [kH] at h1
      exact ⟨h1,hb.setCell (Nat.le_refl _) _,Dg.set _ hd,by rw [List.length_set];exact Qp.out,fun t ht=>by rw [zZ zo];exact Qn.out t ht⟩
     clear hy0 hd hown Xi Dg Qp Qn hij
     generalize m.getD j 0=y at *
     generalize q.getD (i+j) 0=z at *
     obtain ⟨hp1,hp2⟩:=M5 hdl U0
     have hr:((((c+(z+x*y))%1000000000:Nat)):Int)=((c:Int)+((z:Int)+(x:Int)*(y:Int)))%1000000000:=by rw [Int.natCast_emod,Int.natCast_add,Int.natCast_add,Int.natCast_mul];rfl
     have hq:((((c+(z+x*y)) / 1000000000:Nat)):Int)=((c:Int)+((z:Int)+(x:Int)*(y:Int))) / 1000000000:=by rw [Int.natCast_ediv,Int.natCast_add,Int.natCast_add,Int.natCast_mul];rfl
     have mY:=HO.out _ (Nat.mod_lt (c+(z+x*y)) zo)
     rw [hr] at mY
     have oQ:=zh mY
     have HR:=zh hq
     clear HO mY hr hq
     go_wp2
     go_roundw
     case rel=>exact ⟨j+1,(c+(z+x*y)) / 1000000000,q.set (i+j) ((c+(z+x*y))%1000000000),by omega,HC.out,by go_num,by rw [HR.out],zh oQ.out.2.2.2.1,zh oQ.out.2.2.2.2,oQ.out.1,oQ.out.2.2.1,zh (by rw [← Nat.add_assoc i j 1];exact HS.out),oQ.out.2.1⟩
     case measure=>exact zM
    ·have hjm:j=m.length:=by omega
     subst hjm
     have hij:i+m.length<q.length:=by have:=Qp.out;omega
     have hq1:wr.cell? ⟨w.heap.size,i+m.length,none⟩=some (.int .u32 0):=by rw [hown.cellAt (i+m.length) zo,og hij,Qn.out _ (Nat.le_refl _)];rfl
     have hq2:wr.frozen? ⟨w.heap.size,i+m.length,none⟩=false:=hown.frozenAt (i+m.length)
     have HF:Hid (val 1000000000 (q.set (i+m.length) c)=val 1000000000 (l.take (i+1))*val 1000000000 m) :=
      yS hlt hij (Qn.out _ (Nat.le_refl _)) (by have:=Xi.out;rw [List.take_length] at this;rw [HX.out];exact this)
     have HO:Hid ((wr.setCell ⟨w.heap.size,i+m.length,none⟩ (.int .u32 (c:Int))).ownsRow w.heap.size 113 1 (.slice (some ⟨w.heap.size,0,none⟩) (l.length+m.length) (l.length+m.length)) (l.length+m.length) (bS (q.set (i+m.length) c)) ∧
       Below w.heap.size w (wr.setCell ⟨w.heap.size,i+m.length,none⟩ (.int .u32 (c:Int)))∧dI 1000000000 (q.set (i+m.length) c)∧(q.set (i+m.length) c).length=l.length+m.length∧(∀ t,i+1+m.length≤t→(q.set (i+m.length) c).getD t 0=0)):=by
      have h1:=(hown.stored (i+m.length) (.int .u32 (c:Int))).1
      rw [kH] at h1
      exact ⟨h1,hb.setCell (Nat.le_refl _) _,Dg.set _ hcb,by rw [List.length_set];exact Qp.out,fun t ht=>by rw [zZ zo];exact Qn.out t zo⟩
     clear hown Xi Dg Qp Qn hij hd
     go_wp2
     go_roundw
     case rel=>exact ⟨i+1,q.set (i+m.length) c,by omega,by go_num,zh HO.out.2.2.2.1,HO.out.2.2.2.2,HO.out.1,HO.out.2.2.1,HF,HO.out.2.1⟩
     case measure=>exact zM
  ·have Z6:i=l.length:=by omega
   subst Z6
   clear hc hd
   have HF:Hid (val 1000000000 p=val 1000000000 l*val 1000000000 m):=by have:=HV.out;rwa [List.take_length] at this
   have hown3:kY wr (.slice (some ⟨w.heap.size,0,none⟩) (l.length+m.length) (l.length+m.length)) p:=kY.dR hown
   clear hown HV
   go_wp2_with ((first|go_at_call 215|go_at_call 127);refine (nJ _ _ _ hown3 hdp).mono ?_;rintro e w' ⟨v,rfl,rfl,hv⟩)
   go_ret
   exact ⟨v,rfl,hb,by rw [← HF.out];exact hv⟩):G:=h
theorem Aw (pl ps:Option Addr) (cl cs:Nat) (l m:List Nat) (w:World) (hl:dI 1000000000 l) (hmd:dI 1000000000 m) (hb1:l.length≤1099511627776) (hb2:m.length≤1099511627776)
   (hc:∀ k,k<l.length→∃ b off,pl=some ⟨b,off,none⟩∧b<w.heap.size∧w.cell? ⟨b,off+k,none⟩=some (.int .u32 (l.getD k 0:Nat)))
   (hd:∀ k,k<m.length→∃ b off,ps=some ⟨b,off,none⟩∧b<w.heap.size∧w.cell? ⟨b,off+k,none⟩=some (.int .u32 (m.getD k 0:Nat))) :
    Calls Tryz.prog 186 #[.slice pl l.length cl,.slice ps m.length cs] w fun e w'=>∃ v,e= .returned v∧Below w.heap.size w w'∧aM w' v (val 1000000000 l*val 1000000000 m):=aj8
theorem _root_.Go.aj7 {G:Prop} (h:G:=by
 obtain ⟨pa,ca,rfl,h1,h2,h3⟩:=kY.read hx.Ab
 obtain ⟨pb,cb,rfl,k1,k2,k3⟩:=kY.read hy.Ab
 have:=Aw pa pb ca cb _ _ w (aR zo a) (aR zo b) ha hb h3 k3
 rwa [aO zo,aO zo] at this):G:=h
theorem jm (x y:Value) (a b:Nat) (w:World) (hx:aM w x a) (hy:aM w y b) (ha:sz 1000000000 a≤1099511627776) (hb:sz 1000000000 b≤1099511627776) :
  Calls Tryz.prog 186 #[x,y] w fun e w'=>∃ v,e= .returned v∧Below w.heap.size w w'∧aM w' v (a*b):=aj7
theorem _root_.Go.aj6 {G:Prop} (h:G:=by
 obtain ⟨i0,hi,hz0,hz1,hz2⟩:=info_parts Bj
 go_enter am7,am6
 go_wp2_with (at_make;refine wpList_make_full _ rfl _ _ GV rfl w.heap.size 113 i0 (.int .u32 0) 1 G9 hi hz0 hz1 _ _ _ _ l.length rfl rfl zo zo (by rw [hz2];omega) (by unfold maxLen;omega) (Nat.le_refl _) ?_)
 intro w0 hown0 kP
 rw [sM] at hown0
 go_wp2
 go_loopw [7,8] (fun rv iv wr=>∃ (q:Int) (r:Nat) (s:List Nat), -1≤q∧q<l.length∧r<d∧iv= .int .i64 q∧rv= .int .u64 r∧Hid (s.length=l.length - (q+1).toNat) ∧
   wr.ownsRow w.heap.size 113 1 (.slice (some ⟨w.heap.size,0,none⟩) l.length l.length) l.length (bS (List.replicate (q+1).toNat 0++s))∧dI 1000000000 s∧Hid (val 1000000000 (l.drop (q+1).toNat)=d*val 1000000000 s+r)∧Below w.heap.size w wr)
  (fun _ iv _=>(intOf iv+1).toNat)
 case atStart =>
  have e:((l.length:Int) - 1+1).toNat=l.length:=by omega
  exact ⟨(l.length:Int) - 1,0,[],by omega,by omega,hd0,rfl,rfl,zh (by rw [e];simp),by rw [e,List.append_nil];exact hown0,dI.nil,zh (by rw [e,List.drop_length];simp [val]),(Below.refl _ _).grown kP (Nat.le_refl _) (fun k h=>by cases h)⟩
 case round =>
  obtain ⟨q,r,s,hq1,hq2,hrd,rfl,rfl,HS,hown,hds,HV,hb⟩:=hrel
  by_cases hq:q<0
  ·have hq0:q= -1:=by omega
   subst hq0
   have HF:Hid (val 1000000000 l=d*val 1000000000 s+r):=zh (by have:=HV.out;simpa using this)
   have hown3:kY wr (.slice (some ⟨w.heap.size,0,none⟩) l.length l.length) s:=by have:=kY.dR hown;simpa using this
   have e1:Hid (val 1000000000 l / d=val 1000000000 s):=by unfold Hid;rw [HF.out,Nat.mul_add_div hd0,Nat.div_eq_of_lt hrd,Nat.add_zero]
   have e2:Hid (val 1000000000 l%d=r):=by unfold Hid;rw [HF.out,Nat.mul_add_mod,Nat.mod_eq_of_lt hrd]
   clear hown HV HF HS hc
   go_wp2_with ((first|go_at_call 215|go_at_call 127);refine (nJ _ _ _ hown3 hds).mono ?_;rintro e w' ⟨v,rfl,rfl,hv⟩)
   go_ret2
   exact ⟨v,by rw [e2.out];rfl,hb,by rw [e1.out];exact hv⟩
  ·obtain ⟨j,rfl⟩:=Int.eq_ofNat_of_zero_le (by omega:0≤q)
   have ej:((j:Int)+1).toNat=j+1:=by omega
   have hjl:j<l.length:=by omega
   rw [ej] at HS HV hown
   obtain ⟨b,off,rfl,hbb,hx0⟩:=hc j hjl
   have hx:wr.cell? ⟨b,off+j,none⟩=some (.int .u32 (l.getD j 0:Nat)):=(hb.cell (by exact hbb)).trans hx0
   have hdl:l.getD j 0<1000000000:=hl.getD zo j
   have hlen:(List.replicate (j+1) 0++s).length=l.length:=by rw [List.length_append,List.length_replicate,HS.out];omega
   have hr1:wr.cell? ⟨w.heap.size,j,none⟩=some (.int .u32 0):=by
    rw [hown.cellAt j zo,og (by rw [hlen];exact hjl),uF zo];rfl
   have hr2:wr.frozen? ⟨w.heap.size,j,none⟩=false:=hown.frozenAt j
   have HP:=zh (AB hjl HV.out)
   have hdg:=yU hrd hdl
   have hmd:=Nat.mod_lt (r*1000000000+l.getD j 0) hd0
   have HO:Hid (∀ d:Nat,(wr.setCell ⟨w.heap.size,j,none⟩ (.int .u32 (d:Int))).ownsRow w.heap.size 113 1 (.slice (some ⟨w.heap.size,0,none⟩) l.length l.length) l.length (bS (List.replicate j 0++d::s))∧Below w.heap.size w (wr.setCell ⟨w.heap.size,j,none⟩ (.int .u32 (d:Int)))):=fun d=>by
    have h1:=(hown.stored j (.int .u32 (d:Int))).1
    rw [kH,wI] at h1
    exact ⟨h1,hb.setCell (Nat.le_refl _) _⟩
   clear hx0 hc hown hlen
   generalize l.getD j 0=x at *
   have hqi:(((r*1000000000+x) / d:Nat):Int)=((r:Int)*1000000000+(x:Int)) / (d:Int):=by rw [Int.natCast_ediv,Int.natCast_add,Int.natCast_mul];rfl
   have SF:(((r*1000000000+x)%d:Nat):Int)=((r:Int)*1000000000+(x:Int))%(d:Int):=by rw [Int.natCast_emod,Int.natCast_add,Int.natCast_mul];rfl
   generalize (r*1000000000+x) / d=Q at *
   generalize (r*1000000000+x)%d=M at *
   have g1:0≤((r:Int)*1000000000+(x:Int)) / (d:Int):=by rw [← hqi];omega
   have g2:((r:Int)*1000000000+(x:Int)) / (d:Int)≤999999999:=by rw [← hqi];omega
   have g3:0≤((r:Int)*1000000000+(x:Int))%(d:Int):=by rw [← SF];omega
   have g4:((r:Int)*1000000000+(x:Int))%(d:Int)≤999999999:=by rw [← SF];omega
   have mY:=HO.out Q
   rw [hqi] at mY
   have oQ:=zh mY
   have HM:=zh SF
   have HG:=zh hdg
   have MG:=zh hmd
   clear mY HO hqi SF hdg hmd
   go_wp2
   go_roundw
   case rel=>exact ⟨(j:Int) - 1,M,Q::s,by omega,by omega,MG.out,rfl,by rw [HM.out],zh (by rw [List.length_cons,HS.out];omega),by rw [show ((j:Int) - 1+1).toNat=j by omega];exact oQ.out.1,hds.cons HG.out,zh (by rw [show ((j:Int) - 1+1).toNat=j by omega];exact HP.out),oQ.out.2⟩
   case measure=>simp [intOf]):G:=h
theorem vJ (pl:Option Addr) (cl:Nat) (l:List Nat) (d:Nat) (w:World) (hl:dI 1000000000 l) (hb1:l.length≤1099511627776) (hd0:0<d) (hd1:d≤1000000000)
   (hc:∀ k,k<l.length→∃ b off,pl=some ⟨b,off,none⟩∧b<w.heap.size∧w.cell? ⟨b,off+k,none⟩=some (.int .u32 (l.getD k 0:Nat))) :
    Calls Tryz.prog 217 #[.slice pl l.length cl,.int .u32 d] w fun e w'=>∃ v,e= .returned (.tuple #[v,.int .u32 (val 1000000000 l%d:Nat)])∧Below w.heap.size w w'∧aM w' v (val 1000000000 l / d):=aj6
theorem AJ (x:Value) (a d:Nat) (w:World) (hx:aM w x a) (ha:sz 1000000000 a≤1099511627776) (hd0:0<d) (hd1:d≤1000000000) :
  Calls Tryz.prog 217 #[x,.int .u32 d] w fun e w'=>∃ v,e= .returned (.tuple #[v,.int .u32 (a%d:Nat)])∧Below w.heap.size w w'∧aM w' v (a / d):=by
 obtain ⟨pa,ca,rfl,h1,h2,h3⟩:=kY.read hx.Ab
 have:=vJ pa ca _ d w (aR zo a) ha hd0 hd1 h3
 rwa [aO zo] at this
theorem _root_.Go.aj5 {G:Prop} (h:G:=by
 have HV0:=zh hv
 clear hv
 go_enter am5,am4
 go_wp2
 go_loop [3,4] (fun rv iv=>∃ (q:Int) (r:Nat), -1≤q∧q<l.length∧iv= .int .i64 q∧rv= .int .u64 r∧Hid (r=val 1000000000 (l.drop (q+1).toNat)))
  (fun _ iv=>(intOf iv+1).toNat)
 case atStart =>
  have e:((l.length:Int) - 1+1).toNat=l.length:=by omega
  exact ⟨(l.length:Int) - 1,0,by omega,by omega,rfl,rfl,zh (by rw [e,List.drop_length];rfl)⟩
 case round =>
  obtain ⟨q,r,hq1,hq2,rfl,rfl,HV⟩:=hrel
  by_cases hq:q<0
  ·have hq0:q= -1:=by omega
   subst hq0
   go_wp2
   go_ret
   exact ⟨by have:=HV.out;rw [show ((-1:Int)+1).toNat=0 by omega,List.drop_zero] at this;rw [← this];rfl,rfl⟩
  ·obtain ⟨j,rfl⟩:=Int.eq_ofNat_of_zero_le (by omega:0≤q)
   have ej:((j:Int)+1).toNat=j+1:=by omega
   have hjl:j<l.length:=by omega
   rw [ej] at HV
   obtain ⟨b,off,rfl,hbb,hx⟩:=hc j hjl
   have HS:=zh (qW (B:=1000000000) hjl)
   have hbd:r*1000000000+l.getD j 0≤18446744073709551615:=by
    have h1:=HS.out
    have h2:=yR 1000000000 zo l j
    have h3:=HV0.out
    have h4:=HV.out
    rw [← h4] at h1
    omega
   clear hc
   generalize l.getD j 0=x at *
   go_wp2
   go_round
   case rel=>exact ⟨(j:Int) - 1,r*1000000000+x,by omega,by omega,rfl,by go_num,zh (by rw [show ((j:Int) - 1+1).toNat=j by omega,HS.out,← HV.out])⟩
   case measure=>simp [intOf]):G:=h
theorem vI (pl:Option Addr) (cl:Nat) (l:List Nat) (w:World) (hm:l.length≤9223372036854775807) (hv:val 1000000000 l≤18446744073709551615)
   (hc:∀ k,k<l.length→∃ b off,pl=some ⟨b,off,none⟩∧b<w.heap.size∧w.cell? ⟨b,off+k,none⟩=some (.int .u32 (l.getD k 0:Nat))) :
    Calls Tryz.prog 213 #[.slice pl l.length cl] w fun e w'=>e= .returned (.int .u64 (val 1000000000 l:Nat))∧w=w':=aj5
theorem AA (x:Value) (a:Nat) (w:World) (hx:aM w x a) (ha:a≤18446744073709551615) :
  Calls Tryz.prog 213 #[x] w fun e w'=>e= .returned (.int .u64 (a:Nat))∧w=w':=by
 obtain ⟨pa,ca,rfl,h1,h2,h3⟩:=kY.read hx.Ab
 have:=vI pa ca _ w zo (by rw [aO zo];exact ha) h3
 rwa [aO zo] at this
theorem _root_.Go.aj4 {G:Prop} (h:G:=by
 obtain ⟨i0,hi,hz0,hz1,hz2⟩:=info_parts Bj
 go_enter am3,am2
 go_wp2
 go_loopw [0,3] (fun av mv wr=>∃ (b:Nat) (s:List Nat),b≤18446744073709551615∧s.length≤3∧av= .int .u64 b∧wr.ownsRow w.heap.size 113 1 mv s.length (bS s)∧Hid (s++bQ 1000000000 b=bQ 1000000000 a)∧Below w.heap.size w wr)
  (fun av _ _=>(intOf av).toNat)
 case atStart=>exact ⟨a,[],ha,by simp,rfl,World.ownsRow_nil _ _ _ _,zh rfl,Below.refl _ _⟩
 case round =>
  obtain ⟨b,s,hb1,hb2,rfl,hown,HD,hb⟩:=hrel
  rcases Nat.eq_zero_or_pos b with h0|h0
  ·subst h0
   go_wp2
   go_ret
   refine ⟨_,rfl,hb,?_⟩
   have e:=HD.out
   rw [eO,List.append_nil] at e
   subst e
   exact Row.dR hown
  ·have HN:Hid ((s++[b%1000000000])++bQ 1000000000 (b / 1000000000)=bQ 1000000000 a):=by
    unfold Hid;rw [← HD.out,jB zo h0,List.append_assoc];rfl
   have hdv:b / 1000000000<b:=Nat.div_lt_self h0 zo
   have hl3:s.length+1≤3:=by
    have h1:=congrArg List.length HN.out
    have h2:=cZ (B:=1000000000) zo 3 a zo
    unfold sz at h2
    simp only [List.length_append,List.length_cons,List.length_nil] at h1
    omega
   go_wp2_with (at_builtin;refine wpList_append_own _ rfl (.tmp 8) (.tmp 12) GV rfl w.heap.size 113 i0 (.int .u32 0) 1 4 G9 hi hz0 hz1 hz2 rfl zd _ _ _ rfl (hown.alloc _) ⟨wr.heap.size,0,none⟩ 1 1 [.int .u32 ((b:Int)%1000000000)] rfl rfl (by intro t u ht;match t,ht with|0,ht=>simp at ht;subst ht;simp [Addr.add]) (by intro u hu;simp at hu;subst hu;rfl) (by unfold maxLen;omega) zo (by have:=hb.size;simp;omega) ?_)
   intro v' w1 hown1 hgrow1 _
   have hown2:w1.ownsRow w.heap.size 113 1 v' (s++[b%1000000000]).length (bS (s++[b%1000000000])):=by
    have e:bS (s++[b%1000000000])=bS s++[.int .u32 ((b:Int)%1000000000)]:=by unfold bS;simp only [List.map_append,List.map_cons,List.map_nil];rfl
    rw [e,List.length_append];exact hown1
   have hb3:Below w.heap.size w w1:=(hb.alloc hb.size _).grown hgrow1 (by simp;have:=hb.size;omega) (fun k hk=>(hown.lt k hk).1)
   clear hown hown1 hgrow1
   go_wp2
   go_roundw
   case rel=>exact ⟨b / 1000000000,s++[b%1000000000],by omega,by rw [List.length_append];exact hl3,by go_num,hown2,HN,hb3⟩
   case measure=>simp [intOf];omega):G:=h
theorem rz (a:Nat) (w:World) (ha:a≤18446744073709551615) :
  Calls Tryz.prog 214 #[.int .u64 a] w fun e w'=>∃ v,e= .returned v∧Below w.heap.size w w'∧aM w' v a:=aj4
def xK (w:World) (g k:Nat) (pre u post v:List Nat) (e:Ending) (w':World):Prop :=
 e= .returned (.int .u32 (val 1000000000 u / val 1000000000 v:Nat))∧w.grownBy w' (some g) ∧
   ∃ s,aB w' g (bS (pre++(s++[0])++post)).toArray 113∧s.length=k+2∧dI 1000000000 s∧val 1000000000 s=val 1000000000 u%val 1000000000 v
theorem _root_.Go.aj3 {G:Prop} (h:G:=by
 obtain ⟨bv,ov,rfl,hbg,hbv,_⟩:=hd 0 zo
 have hvc:∀ (w':World),w.grownBy w' (some g)→∀ i,i<k+2→w'.cell? ⟨bv,ov+i,none⟩=some (.int .u32 (v.getD i 0:Nat)):=fun w' hg i hi=>by
  obtain ⟨b,off,h1,h2,h3,h4⟩:=hd i hi
  simp only [Option.some.injEq,Addr.mk.injEq,and_true] at h1
  obtain ⟨rfl,rfl⟩:=h1
  exact hg.cell h4 (by simpa using h2)
 have huc:∀ (w':World) (x:List Nat),x.length=k+3→aB w' g (bS (pre++x++post)).toArray 113→∀ i,i<k+3→w'.cell? ⟨g,j+i,none⟩=some (.int .u32 (x.getD i 0:Nat)):=fun w' x hx hb i hi=>by
  rw [hb.cell,List.getElem?_toArray,og (by simp;omega)]
  rw [List.getD_eq_getElem?_getD,List.append_assoc,List.getElem?_append_right zo,hj,Nat.add_sub_cancel_left,List.getElem?_append_left zo]
  rfl
 have HVC:=zh hvc
 have Xm:=zh huc
 have Xv:=zh ab7
 have HLT:=zh hlt
 have HU:=zh hu
 have Xj:=zh hv
 have HJ:=zh hj
 clear hvc huc hd ab7 hlt hu hv hj
 have h1:=HVC.out w ⟨rfl,rfl,rfl,Nat.le_refl _,fun _ _ _=>rfl⟩ (k+1) zo
 have h2:=HVC.out w ⟨rfl,rfl,rfl,Nat.le_refl _,fun _ _ _=>rfl⟩ k zo
 have h3:=Xm.out w u HU.out Xv.out (k+2) zo
 have h4:=Xm.out w u HU.out Xv.out (k+1) zo
 have h5:=Xm.out w u HU.out Xv.out k zo
 have b1:=dv.getD zo (k+1)
 have b2:=dv.getD zo k
 have b3:=du.getD zo (k+2)
 have b4:=du.getD zo (k+1)
 have b5:=du.getD zo k
 have HG0:=zh (I5 zo HU.out Xj.out du ht HLT.out dv)
 have HGS:=zh (fun q r=>LH (k:=k) (q:=q) (r:=r) (by omega:1<1000000000) HU.out Xj.out du zo HLT.out)
 have Yz:=zh (fun q r=>PX (k:=k) (q:=q) (r:=r) (by omega:1<1000000000) HU.out Xj.out dv zo)
 have aI7:=zh ht
 clear ht
 generalize hT:v.getD (k+1) 0=top at *
 generalize hV2:v.getD k 0=v2 at *
 generalize hUN:u.getD (k+2) 0=un at *
 generalize hU1:u.getD (k+1) 0=u1 at *
 generalize hU2:u.getD k 0=u2 at *
 have HT:=zh hT
 have zx:=zh hV2
 have HUN:=zh hUN
 have HU1:=zh hU1
 have HU2:=zh hU2
 clear hT hV2 hUN hU1 hU2
 have htop:500000000≤top:=by have:=aI7.out;omega
 go_enter am1,am0
 go_wp2_with fail
 go_quiet (fail)
 obtain ⟨nq0,rfl⟩:∃ m,m=nq:=⟨nq,rfl⟩
 go_wp2_with fail
 go_quiet (fail)
 have hw1:w.grownBy ((w.drewN nq0).drewN nq) (some g):=j3 (j3 (DK w _) _) _
 have zI:Hid (aB ((w.drewN nq0).drewN nq) g (bS (pre++u++post)).toArray 113):=Xv.out
 obtain ⟨W,hW⟩:∃ W,W=(w.drewN nq0).drewN nq:=⟨_,rfl⟩
 rw [← hW] at hw1 zI ⊢
 clear hW h1 h2 h3 h4 h5
 have V6:(((un*1000000000+u1) / top:Nat):Int)=((un:Int)*1000000000+(u1:Int)) / (top:Int):=by rw [Int.natCast_ediv,Int.natCast_add,Int.natCast_mul];rfl
 have hrd:(((un*1000000000+u1)%top:Nat):Int)=((un:Int)*1000000000+(u1:Int))%(top:Int):=by rw [Int.natCast_emod,Int.natCast_add,Int.natCast_mul];rfl
 rw [← V6,← hrd]
 clear V6 hrd
 have hr0:(un*1000000000+u1)%top<1000000000:=Nat.lt_trans (Nat.mod_lt _ zo) b1
 generalize (un*1000000000+u1) / top=q0 at *
 generalize (un*1000000000+u1)%top=r0 at *
 go_upto_block 0 with fail
 go_cut [8,9] from 19 (fun q r wc=>∃ qn:Nat,q= .int .u64 qn∧qn≤1000000000∧Hid (val 1000000000 u / val 1000000000 v≤qn)∧Hid (qn≤val 1000000000 u / val 1000000000 v+1)∧w.grownBy wc (some g)∧Hid (aB wc g (bS (pre++u++post)).toArray 113))
 case first =>
  go_wp2_with fail
  go_loopw [8,9] (fun q r wr=>∃ qn rn:Nat,q= .int .u64 qn∧r= .int .u64 rn∧rn<1000000000∧Hid (JQ 1000000000 (val 1000000000 u) (val 1000000000 v) top (un*1000000000+u1) qn rn)∧w.grownBy wr (some g)∧Hid (aB wr g (bS (pre++u++post)).toArray 113))
   (fun q _ _=>(intOf q).toNat)
  case atStart=>exact ⟨q0,r0,rfl,rfl,hr0,HG0,hw1,zI⟩
  case round =>
   obtain ⟨qn,rn,rfl,rfl,hrb,HG,hnr,HB⟩:=hrel
   have h2:=HVC.out wr hnr k zo
   have h5:=Xm.out wr u HU.out HB.out k zo
   rw [zx.out] at h2
   rw [HU2.out] at h5
   have hqb:qn≤1000000001:=HG.out.bound
   have hpr:Hid (0≤(qn:Int)*(v2:Int)∧(qn:Int)*(v2:Int)≤1000000001*999999999):=by
    have h:qn*v2≤1000000001*999999999:=Nat.mul_le_mul hqb zo
    unfold Hid
    rw [← Int.natCast_mul]
    omega
   obtain ⟨hp1,hp2⟩:=hpr
   by_cases hc:1000000000≤qn
   ·have HS:=zh (HGS.out qn rn HG.out (.inl hc))
    have hge:decide ((1000000000:Int)≤(qn:Int))=true:=by rw [decide_eq_true_iff];omega
    have HC:=zh hc
    have hq1:1≤qn:=by omega
    clear hc
    by_cases hr:1000000000≤rn+top
    ·have hrd:decide ((1000000000:Int)≤(rn:Int)+(top:Int))=true:=by rw [decide_eq_true_iff];omega
     have HR:=zh hr
     clear hr
     go_wp2_with fail
     go_quiet (fail)
     go_wp2_with fail
     go_meet
     have g2:=HS.out.2
     have hq2:qn - 1≤1000000000:=by omega
     have h3:(qn - 1)*v2≤(rn+top)*1000000000+u2:=by
      have h4:(qn - 1)*v2≤1000000000*1000000000:=Nat.mul_le_mul hq2 zo
      have h5:=HR.out
      omega
     exact ⟨qn - 1,by go_num,hq2,zh g2.high,zh (Yz.out _ _ g2 hq2 h3),j3 hnr _,HB⟩
    ·have hrd:decide ((1000000000:Int)≤(rn:Int)+(top:Int))=false:=by rw [decide_eq_false_iff_not];omega
     have HR:=zh hr
     clear hr
     go_wp2_with fail
     go_quiet (fail)
     go_wp2_with fail
     go_roundw
     case rel=>exact ⟨qn - 1,rn+top,by go_num,by go_num,Nat.lt_of_not_le HR.out,zh HS.out.2,j3 hnr _,HB⟩
     case measure=>exact zM
   ·have hge:decide ((1000000000:Int)≤(qn:Int))=false:=by rw [decide_eq_false_iff_not];omega
    have HC:=zh hc
    have hq2:qn≤999999999:=by omega
    clear hc
    by_cases ht:rn*1000000000+u2<qn*v2
    ·have HS:=zh (HGS.out qn rn HG.out (.inr ht))
     have hq1:1≤qn:=HS.out.1
     have hlt:(rn:Int)*1000000000+(u2:Int)<(qn:Int)*(v2:Int):=by rw [← Int.natCast_mul];omega
     clear ht
     by_cases hr:1000000000≤rn+top
     ·have hrd:decide ((1000000000:Int)≤(rn:Int)+(top:Int))=true:=by rw [decide_eq_true_iff];omega
      have HR:=zh hr
      clear hr
      go_wp2_with fail
      go_quiet (fail)
      go_wp2_with fail
      go_meet
      have g2:=HS.out.2
      have hq2:qn - 1≤1000000000:=by omega
      have h3:(qn - 1)*v2≤(rn+top)*1000000000+u2:=by
       have h4:(qn - 1)*v2≤1000000000*1000000000:=Nat.mul_le_mul hq2 zo
       have h5:=HR.out
       omega
      exact ⟨qn - 1,by go_num,hq2,zh g2.high,zh (Yz.out _ _ g2 hq2 h3),j3 hnr _,HB⟩
     ·have hrd:decide ((1000000000:Int)≤(rn:Int)+(top:Int))=false:=by rw [decide_eq_false_iff_not];omega
      have HR:=zh hr
      clear hr
      go_wp2_with fail
      go_quiet (fail)
      go_wp2_with fail
      go_roundw
      case rel=>exact ⟨qn - 1,rn+top,by go_num,by go_num,Nat.lt_of_not_le HR.out,zh HS.out.2,j3 hnr _,HB⟩
      case measure=>exact zM
    ·have hlt:¬ (rn:Int)*1000000000+(u2:Int)<(qn:Int)*(v2:Int):=by rw [← Int.natCast_mul];omega
     have HN:=zh (Yz.out _ _ HG.out zo (Nat.le_of_not_lt ht))
     clear ht
     go_wp2_with fail
     go_quiet (fail)
     go_wp2_with fail
     go_meet
     exact ⟨qn,rfl,by omega,zh HG.out.high,HN,j3 hnr _,HB⟩
 case rest =>
  obtain ⟨qn,rfl,hqb,HQ1,HQ2,hnc,HBc⟩:=hcut
  clear hw1 zI hr0 HG0 HGS Yz
  go_wp2_with fail
  go_loopw [10,11,12,13,14,77] (fun cv bv' _ _ _ iv wr=>∃ (i c b:Nat) (s:List Nat),i≤k+2∧c≤1000000000∧b≤1∧iv= .int .i64 i∧cv= .int .u64 c∧bv'= .int .i64 b∧Hid (s.length=i)∧dI 1000000000 s ∧
    Hid (aB wr g (bS (pre++(s++u.drop i)++post)).toArray 113)∧w.grownBy wr (some g)∧Hid (val 1000000000 s+qn*val 1000000000 (v.take i)=val 1000000000 (u.take i)+(b+c)*1000000000^i))
   (fun _ _ _ _ _ iv _=>k+2 - (intOf iv).toNat)
  case atStart=>exact ⟨0,0,0,[],Nat.zero_le _,by omega,by omega,rfl,rfl,rfl,rfl,dI.nil,HBc,hnc,zh (by simp [val])⟩
  case round =>
   obtain ⟨i,c,b,s,hi,hcb,hbb,rfl,rfl,rfl,HS,hds,HB,hnr,HV⟩:=hrel
   by_cases hlt:i<k+2
   ·have hc1:=HVC.out wr hnr i hlt
    have hc2:=Xm.out wr (s++u.drop i) (by rw [List.length_append,List.length_drop,HU.out,HS.out];omega) HB.out i zo
    rw [getD_in HS.out (Nat.le_refl _)] at hc2
    have hc3:wr.frozen? ⟨g,j+i,none⟩=false:=aB.free HB.out _
    have dvi:=dv.getD zo i
    have dui:=du.getD zo i
    have HST:Hid (∀ d b',d+b+(c+qn*v.getD i 0)%1000000000=u.getD i 0+b'*1000000000→val 1000000000 (s++[d])+qn*val 1000000000 (v.take (i+1))=val 1000000000 (u.take (i+1))+(b'+(c+qn*v.getD i 0) / 1000000000)*1000000000^(i+1)) :=
     fun d b' h=>Rf (by rw [HU.out];omega) (by rw [Xj.out];omega) HS.out HV.out h rfl
    have HO:Hid (∀ d:Nat,aB (wr.setCell ⟨g,j+i,none⟩ (.int .u32 (d:Int))) g (bS (pre++((s++[d])++u.drop (i+1))++post)).toArray 113∧w.grownBy (wr.setCell ⟨g,j+i,none⟩ (.int .u32 (d:Int))) (some g)):=fun d=>by
     have h1:=aB.set HB.out (j+i) (.int .u32 (d:Int))
     rw [List.setIfInBounds_toArray,kH,Fx HJ.out HS.out (by rw [HU.out];omega)] at h1
     exact ⟨h1,sK hnr _ _⟩
    generalize v.getD i 0=y at *
    generalize u.getD i 0=x at *
    have hpn:qn*y≤1000000000*999999999:=Nat.mul_le_mul hqb zo
    have hp1:0≤(qn:Int)*(y:Int):=by rw [← Int.natCast_mul];omega
    have hp2:(qn:Int)*(y:Int)≤999999999000000000:=by rw [← Int.natCast_mul];omega
    have hM:(((c+qn*y)%1000000000:Nat):Int)=((c:Int)+(qn:Int)*(y:Int))%1000000000:=by rw [Int.natCast_emod,Int.natCast_add,Int.natCast_mul];rfl
    have hC:(((c+qn*y) / 1000000000:Nat):Int)=((c:Int)+(qn:Int)*(y:Int)) / 1000000000:=by rw [Int.natCast_ediv,Int.natCast_add,Int.natCast_mul];rfl
    have hCb:(c+qn*y) / 1000000000≤1000000000:=by omega
    have hMb:(c+qn*y)%1000000000<1000000000:=Nat.mod_lt _ zo
    generalize (c+qn*y) / 1000000000=C at *
    generalize (c+qn*y)%1000000000=M at *
    have UF:=zh hC
    have MG:=zh hM
    have gM1:0≤((c:Int)+(qn:Int)*(y:Int))%1000000000:=by rw [← hM];omega
    have gM2:((c:Int)+(qn:Int)*(y:Int))%1000000000≤999999999:=by rw [← hM];omega
    clear HV HB hpn
    by_cases hneg:x<b+M
    ·have V7:(x:Int) - (b:Int) - ((c:Int)+(qn:Int)*(y:Int))%1000000000<0:=by rw [← hM];omega
     have mY:=HO.out (x+1000000000 - (b+M))
     rw [show ((x+1000000000 - (b+M):Nat):Int)=(x:Int) - (b:Int) - ((c:Int)+(qn:Int)*(y:Int))%1000000000+1000000000 by rw [← hM];omega] at mY
     have oQ:=zh mY
     have HN:=zh hneg
     clear HO mY hM hC hneg
     go_wp2_with fail
     go_roundw
     case rel=>exact ⟨i+1,C,1,s++[x+1000000000 - (b+M)],by omega,hCb,by omega,by go_num,by rw [UF.out],rfl,zh (by rw [List.length_append,HS.out];rfl),hds.snoc (by have:=HN.out;omega),zh oQ.out.1,oQ.out.2,zh (HST.out _ _ (by have:=HN.out;omega))⟩
     case measure=>exact zM
    ·have V7:¬ (x:Int) - (b:Int) - ((c:Int)+(qn:Int)*(y:Int))%1000000000<0:=by rw [← hM];omega
     have mY:=HO.out (x - (b+M))
     rw [show ((x - (b+M):Nat):Int)=(x:Int) - (b:Int) - ((c:Int)+(qn:Int)*(y:Int))%1000000000 by rw [← hM];omega] at mY
     have oQ:=zh mY
     have HN:=zh hneg
     clear HO mY hM hC hneg
     go_wp2_with fail
     go_roundw
     case rel=>exact ⟨i+1,C,0,s++[x - (b+M)],by omega,hCb,by omega,by go_num,by rw [UF.out],rfl,zh (by rw [List.length_append,HS.out];rfl),hds.snoc (by have:=HN.out;omega),zh oQ.out.1,oQ.out.2,zh (HST.out _ _ (by have:=HN.out;omega))⟩
     case measure=>exact zM
   ·have hik:i=k+2:=by omega
    subst hik
    have Yb:0<val 1000000000 v:=by
     rw [nZ Xj.out]
     have h1:0<1000000000^k:=Nat.pow_pos zo
     have h2:0<1000000000^k*(v.getD k 0+1000000000*v.getD (k+1) 0):=Nat.mul_pos h1 (by rw [HT.out];omega)
     omega
    have ay1:Hid (val 1000000000 s+qn*val 1000000000 v=val 1000000000 (u.take (k+2))+(b+c)*1000000000^(k+2)):=by
     have:=HV.out;rwa [List.take_of_length_le (by rw [Xj.out];omega)] at this
    have HUs:Hid (val 1000000000 u=val 1000000000 (u.take (k+2))+1000000000^(k+2)*un):=by
     have:=bK 1000000000 (l:=u) (k:=k+2) (by rw [HU.out];omega)
     rw [show k+2+1=u.length by rw [HU.out],List.take_length] at this
     rw [HUN.out] at this
     exact this
    have hu1:=Xm.out wr (s++u.drop (k+2)) (by rw [List.length_append,List.length_drop,HU.out,HS.out];omega) HB.out (k+2) zo
    rw [getD_in HS.out (Nat.le_refl _),HUN.out] at hu1
    clear HV
    by_cases hov:un<b+c
    ·have HE:=zh (Rh (by omega:1<1000000000) HS.out hds Xj.out dv Yb ay1.out HUs.out hov HQ2.out)
     have ar1:(un:Int) - (b:Int)<(c:Int):=by omega
     have hq1:1≤qn:=by rw [HE.out.1];exact Nat.le_add_left _ _
     go_wp2_with fail
     clear hu1 hov ar1
     go_loopw [15,16,17,18,125] (fun ov' _ _ _ iv wr=>∃ (i o:Nat) (t:List Nat),i≤k+2∧o≤1∧iv= .int .i64 i∧ov'= .int .u32 o∧Hid (t.length=i)∧dI 1000000000 t ∧
       Hid (aB wr g (bS (pre++(t++(s++u.drop (k+2)).drop i)++post)).toArray 113)∧w.grownBy wr (some g)∧Hid (val 1000000000 t+o*1000000000^i=val 1000000000 (s.take i)+val 1000000000 (v.take i)))
      (fun _ _ _ _ iv _=>k+2 - (intOf iv).toNat)
     case atStart=>exact ⟨0,0,[],Nat.zero_le _,by omega,rfl,rfl,rfl,dI.nil,HB,hnr,zh (by simp [val])⟩
     case round =>
      clear HB hnr
      obtain ⟨i,o,t,hi,hob,rfl,rfl,U3,hdt,HB,hnr,HV⟩:=hrel
      have hxl:(s++u.drop (k+2)).length=k+3:=by rw [List.length_append,List.length_drop,HU.out,HS.out];omega
      by_cases hlt:i<k+2
      ·have hc1:=HVC.out wr hnr i hlt
       have hc2:=Xm.out wr (t++(s++u.drop (k+2)).drop i) (by rw [List.length_append,List.length_drop,hxl,U3.out];omega) HB.out i zo
       rw [getD_in U3.out (Nat.le_refl _)] at hc2
       have hsi:(s++u.drop (k+2)).getD i 0=s.getD i 0:=by rw [List.getD_eq_getElem?_getD,List.getElem?_append_left (by rw [HS.out];exact hlt),← List.getD_eq_getElem?_getD]
       rw [hsi] at hc2
       have hc3:wr.frozen? ⟨g,j+i,none⟩=false:=aB.free HB.out _
       have dvi:=dv.getD zo i
       have dui:=hds.getD zo i
       have HST:Hid (∀ d o',d+o'*1000000000=s.getD i 0+o+v.getD i 0→val 1000000000 (t++[d])+o'*1000000000^(i+1)=val 1000000000 (s.take (i+1))+val 1000000000 (v.take (i+1))) :=
        fun d o' h=>yc (by rw [HS.out];exact hlt) U3.out HV.out h
       have HO:Hid (∀ d:Nat,aB (wr.setCell ⟨g,j+i,none⟩ (.int .u32 (d:Int))) g (bS (pre++((t++[d])++(s++u.drop (k+2)).drop (i+1))++post)).toArray 113∧w.grownBy (wr.setCell ⟨g,j+i,none⟩ (.int .u32 (d:Int))) (some g)):=fun d=>by
        have h1:=aB.set HB.out (j+i) (.int .u32 (d:Int))
        rw [List.setIfInBounds_toArray,kH,Fx HJ.out U3.out (by rw [hxl];omega)] at h1
        exact ⟨h1,sK hnr _ _⟩
       clear hsi hxl HB HV
       generalize v.getD i 0=y at *
       generalize s.getD i 0=x at *
       by_cases hge:x+y+o<1000000000
       ·have hge':decide ((1000000000:Int)≤(x:Int)+(y:Int)+(o:Int))=false:=by rw [decide_eq_false_iff_not];omega
        have mY:=HO.out (x+y+o)
        rw [show ((x+y+o:Nat):Int)=(x:Int)+(y:Int)+(o:Int) by omega] at mY
        have oQ:=zh mY
        have HN:=zh hge
        clear HO mY hge
        go_wp2_with fail
        go_roundw
        case rel=>exact ⟨i+1,0,t++[x+y+o],by omega,by omega,by go_num,rfl,zh (by rw [List.length_append,U3.out];rfl),hdt.snoc HN.out,zh oQ.out.1,oQ.out.2,zh (HST.out _ _ zo)⟩
        case measure=>exact zM
       ·have hge':decide ((1000000000:Int)≤(x:Int)+(y:Int)+(o:Int))=true:=by rw [decide_eq_true_iff];omega
        have au2:(0:Int)≤(x:Int)+(y:Int)+(o:Int) - 1000000000:=by omega
        have mY:=HO.out (x+y+o - 1000000000)
        rw [show ((x+y+o - 1000000000:Nat):Int)=(x:Int)+(y:Int)+(o:Int) - 1000000000 by omega] at mY
        have oQ:=zh mY
        have HN:=zh hge
        clear HO mY hge
        go_wp2_with fail
        go_roundw
        case rel=>exact ⟨i+1,1,t++[x+y+o - 1000000000],by omega,by omega,by go_num,rfl,zh (by rw [List.length_append,U3.out];rfl),hdt.snoc zo,zh oQ.out.1,oQ.out.2,zh (HST.out _ _ (by have:=HN.out;omega))⟩
        case measure=>exact zM
      ·have hik:i=k+2:=by omega
       subst hik
       have HR:Hid (val 1000000000 t=val 1000000000 u%val 1000000000 v):=by
        have h1:=HV.out
        rw [List.take_of_length_le (by rw [HS.out];exact Nat.le_refl _),List.take_of_length_le (by rw [Xj.out];exact Nat.le_refl _),HE.out.2] at h1
        have h2:=fU (by omega:0<1000000000) hdt
        rw [U3.out] at h2
        have h3:o=0∨o=1:=by omega
        unfold Hid
        rcases h3 with rfl|rfl<;>omega
       have HB:Hid (aB wr g (bS (pre++(t++u.drop (k+2))++post)).toArray 113):=by
        have h1:=HB.out
        rw [List.drop_append_of_le_length (by rw [HS.out];exact Nat.le_refl _),List.drop_of_length_le (by rw [HS.out];exact Nat.le_refl _),List.nil_append] at h1
        exact h1
       have hbf:aB wr g (bS (pre++(t++u.drop (k+2))++post)).toArray 113:=HB.out
       have hn1:=Xm.out wr (t++u.drop (k+2)) (by rw [List.length_append,List.length_drop,HU.out,U3.out];omega) HB.out (k+2) zo
       have hn2:wr.frozen? ⟨g,j+(k+2),none⟩=false:=hbf.free _
       have Uw:Hid (aB (wr.setCell ⟨g,j+(k+2),none⟩ (.int .u32 0)) g (bS (pre++(t++[0])++post)).toArray 113∧w.grownBy (wr.setCell ⟨g,j+(k+2),none⟩ (.int .u32 0)) (some g)):=by
        have h1:=hbf.set (j+(k+2)) (.int .u32 ((0:Nat):Int))
        rw [List.setIfInBounds_toArray,kH,Fx HJ.out U3.out (by rw [HU.out];omega),List.drop_eq_nil_of_le (by rw [HU.out];omega),List.append_nil] at h1
        exact ⟨h1,sK hnr _ _⟩
       clear hbf HB hnr
       go_wp2_with fail
       go_ret
       unfold xK
       exact ⟨by rw [show val 1000000000 u / val 1000000000 v=qn - 1 by rw [HE.out.1];rfl,Int.natCast_sub hq1];rfl,Uw.out.2,t,Uw.out.1,U3.out,hdt,HR.out⟩
    ·have HE:=zh (Ri (by omega:1<1000000000) Xj.out dv Yb ay1.out HUs.out zo HQ1.out)
     have ar1:¬ (un:Int) - (b:Int)<(c:Int):=by omega
     have hbf:aB wr g (bS (pre++(s++u.drop (k+2))++post)).toArray 113:=HB.out
     have hn1:=Xm.out wr (s++u.drop (k+2)) (by rw [List.length_append,List.length_drop,HU.out,HS.out];omega) HB.out (k+2) zo
     have hn2:wr.frozen? ⟨g,j+(k+2),none⟩=false:=hbf.free _
     have Uw:Hid (aB (wr.setCell ⟨g,j+(k+2),none⟩ (.int .u32 0)) g (bS (pre++(s++[0])++post)).toArray 113∧w.grownBy (wr.setCell ⟨g,j+(k+2),none⟩ (.int .u32 0)) (some g)):=by
      have h1:=hbf.set (j+(k+2)) (.int .u32 ((0:Nat):Int))
      rw [List.setIfInBounds_toArray,kH,Fx HJ.out HS.out (by rw [HU.out];omega),List.drop_eq_nil_of_le (by rw [HU.out];omega),List.append_nil] at h1
      exact ⟨h1,sK hnr _ _⟩
     clear hbf HB hnr
     go_wp2_with fail
     go_ret
     unfold xK
     exact ⟨by rw [← HE.out.1];rfl,Uw.out.2,s,Uw.out.1,HS.out,hds,HE.out.2⟩):G:=h
theorem yX (g j k cu:Nat) (pv:Option Addr) (cv:Nat) (pre u post v:List Nat) (w:World) (hj:pre.length=j) (hu:u.length=k+3) (hv:v.length=k+2) (du:dI 1000000000 u) (dv:dI 1000000000 v) (hk:k≤1099511627776)
  (ht:1000000000≤2*v.getD (k+1) 0) (hlt:val 1000000000 u<val 1000000000 v*1000000000) (ab7:aB w g (bS (pre++u++post)).toArray 113)
  (hd:∀ i,i<k+2→∃ b off,pv=some ⟨b,off,none⟩∧b≠g∧b<w.heap.size∧w.cell? ⟨b,off+i,none⟩=some (.int .u32 (v.getD i 0:Nat))) :
  Calls Tryz.prog 218 #[.slice (some ⟨g,j,none⟩) (k+3) cu,.slice pv (k+2) cv] w (xK w g k pre u post v):=aj3
def nS (w:World) (q r:Nat) (e:Ending) (w':World):Prop:=∃ vq vr,e= .returned (.tuple #[vq,vr])∧Below w.heap.size w w'∧aM w' vq q∧aM w' vr r
theorem _root_.Go.aj2 {G:Prop} (h:G:=by
 have HX:=zh hx
 have hs:=qX h
 rw [Nat.div_eq_of_lt h,Nat.mod_eq_of_lt h]
 have HC:=zh (jC x y a b w hx hy)
 rw [hs] at HC
 clear hx hs hy h
 go_enter Vb,Va
 go_wp2_with ((first|go_at_call 185|go_at_call 175);refine (HC.out).mono ?_;rintro e w1 ⟨rfl,hb1⟩)
 go_ret2
 exact ⟨_,_,rfl,hb1,aM.zero _,HX.out.later hb1⟩):G:=h
theorem za (x y:Value) (a b:Nat) (w:World) (hx:aM w x a) (hy:aM w y b) (h:a<b) :
  Calls Tryz.prog 191 #[x,y] w (nS w (a / b) (a%b)):=aj2
theorem _root_.Go.aj1 {G:Prop} (h:G:=by
 have hs:wC a b=0∨wC a b=1:=by
  rcases Nat.lt_or_ge b a with h2|h2
  ·exact .inr (pV h2)
  ·have:a=b:=by omega
   subst this;exact .inl (sD a)
 have hdb:bQ 1000000000 b=[b]:=by rw [jB zo hb0,Nat.mod_eq_of_lt hb1,Nat.div_eq_of_lt hb1,eO]
 obtain ⟨p,c,e1, -, -, e3⟩:=kY.read hy.Ab
 rw [hdb] at e1 e3
 simp only [List.length_cons,List.length_nil,Value.slice.injEq] at e1
 obtain ⟨rfl, -, rfl⟩:=e1
 obtain ⟨b2,off,rfl,hb2,hcell⟩:=e3 0 zi
 have hcell2:w.cell? ⟨b2,off,none⟩=some (.int .u32 (b:Int)):=by simpa using hcell
 have HC:=zh (jC _ _ a b w hx hy)
 have HX:=zh hx
 clear hdb hcell e3 hx hy
 have hmod:a%b<1000000000:=Nat.lt_trans (Nat.mod_lt _ hb0) hb1
 rcases hs with hs|hs
 all_goals
  rw [hs] at HC
  clear hs
  go_enter Vb,Va
  go_wp2_with ((first|go_at_call 185|go_at_call 175);refine (HC.out).mono ?_;rintro e w1 ⟨rfl,Ls⟩;have hc1:w1.cell? ⟨b2,off,none⟩=some (.int .u32 (b:Int)):=(Ls.cell (by exact hb2)).trans hcell2)
  refine (AJ _ a b _ (HX.out.later Ls) zo hb0 zo).mono ?_
  rintro e w2 ⟨v,rfl,Lr,hv⟩
  have HV:=zh hv
  clear hv
  generalize hm:a%b=m at *
  have HM:=zh hm
  clear hm
  go_wp2_with fail
  refine (rz m _ zo).mono ?_
  rintro e w3 ⟨v3,rfl,av5,hv3⟩
  have HV3:=zh hv3
  clear hv3
  go_wp2_with fail
  go_ret2
  exact ⟨_,_,rfl,Bt (Bt Ls Lr) av5,HV.out.later av5,HV3.out⟩):G:=h
theorem xu (pa pb:Option Addr) (ca cb:Nat) (a b:Nat) (w:World) (hx:aM w (.slice pa (sz 1000000000 a) ca) a) (hy:aM w (.slice pb 1 cb) b) (hb0:0<b) (hb1:b<1000000000) (h:b≤a) (ha:sz 1000000000 a≤549755813888) :
  Calls Tryz.prog 191 #[.slice pa (sz 1000000000 a) ca,.slice pb 1 cb] w (nS w (a / b) (a%b)):=aj1
theorem _root_.Go.aj0 {G:Prop} (h:G:=by
 obtain ⟨i0,hi,hz0,hz1,hz2⟩:=info_parts Bj
 have hs:wC a b=0∨wC a b=1:=by
  rcases Nat.lt_or_ge b a with h2|h2
  ·exact .inr (pV h2)
  ·have:a=b:=by omega
   subst this;exact .inl (sD a)
 have hb0:0<b:=by
  rcases Nat.eq_zero_or_pos b with h0|h0
  ·rw [h0,jk] at hsb;omega
  ·exact h0
 have hkl:k+2≤sz 1000000000 a:=by rw [← hsb];exact gN zo h
 obtain ⟨ht0,htB,hs0,hs5,hsv,htv⟩:=Ih hsb
 obtain ⟨hd1,hd2,hd3,hd4,hd5⟩:=dividend (a:=a) hs0 zo hsb hkl
 obtain ⟨p,c,e1, -, -, e3⟩:=kY.read hy.Ab
 have hlb:(bQ 1000000000 b).length=k+2:=hsb
 rw [hlb] at e1 e3
 simp only [Value.slice.injEq] at e1
 obtain ⟨rfl, -, rfl⟩:=e1
 obtain ⟨b2,off,rfl,hb2,hcell⟩:=e3 (k+1) zo
 have HC:=zh (jC _ _ a b w hx hy)
 have HX:=zh hx
 have HY:=zh hy
 have HSV:=zh hsv
 have HTV:=zh htv
 have HD4:=zh hd4
 have HD5:=zh hd5
 have HD2:=zh hd2
 have Ux:=zh hsb
 clear e3 hx hy hsv htv hd4 hd5 hd2 hsb hlb
 have htop:=Ux.out
 generalize hT:(bQ 1000000000 b).getD (k+1) 0=t at *
 clear hT htop
 have hdiv:((1000000000 / (t+1):Nat):Int)=1000000000 / ((t:Int)+1):=by rw [Int.natCast_ediv];rfl
 have hsc1:(0:Int)≤1000000000 / ((t:Int)+1):=by rw [← hdiv];exact Int.natCast_nonneg _
 generalize hS:1000000000 / (t+1)=S at *
 have hsc2:1000000000 / ((t:Int)+1)≤500000000:=by rw [← hdiv];omega
 have GN:=zh hdiv
 have HSq:=zh hS
 clear hdiv hS
 generalize hus:bQ 1000000000 (a*S)++List.replicate (sz 1000000000 a+1 - sz 1000000000 (a*S)) 0=us at *
 have HUS:=zh hus
 clear hus
 generalize hL:sz 1000000000 a=L at *
 have HL:=zh hL
 clear hL
 rcases hs with hs|hs
 all_goals
  rw [hs] at HC
  clear hs
  go_enter Vb,Va
  go_wp2_with ((first|go_at_call 185|go_at_call 175);refine (HC.out).mono ?_;rintro e w1 ⟨rfl,Ls⟩;have hc1:w1.cell? ⟨b2,off+(k+1),none⟩=some (.int .u32 (t:Int)):=(Ls.cell (by exact hb2)).trans hcell)
  rw [← GN.out]
  refine (jm _ _ b S _ ((HY.out.later Ls).later ((Below.refl _ _).alloc (Nat.le_refl _) _)) (aM.lit hs0 zo) (by rw [Ux.out];omega) (by have:=cZ (B:=1000000000) zo 1 S zo;omega)).mono ?_
  rintro e w2 ⟨vv,rfl,Lr,hv⟩
  have hbw2:Below w.heap.size w w2:=Bt (Bt Ls ((Below.refl _ _).alloc (Nat.le_refl _) _)) Lr
  obtain ⟨pv,cv,rfl,hv1,hv2,hv3⟩:=kY.read hv.Ab
  have HVR:=zh hv3
  have hvl:(bQ 1000000000 (b*S)).length=k+2:=HSV.out
  rw [hvl] at hv1 ⊢
  have HVL:=zh hvl
  clear hv hv3 hvl hc1 Lr
  go_wp2_with (at_make;refine wpList_make_full _ rfl _ _ GV rfl w2.heap.size 113 i0 (.int .u32 0) 1 G9 hi hz0 hz1 _ _ _ _ (L+1) rfl rfl zo zo (by rw [hz2];omega) (by unfold maxLen;omega) (Nat.le_refl _) ?_)
  intro w3 hown3 hgrow3
  rw [sM] at hown3
  have Tg:=zh (tH hown3).1
  have Bw:Below w2.heap.size w2 w3:=(Below.refl _ _).grown hgrow3 (Nat.le_refl _) (fun k h=>by cases h)
  clear hown3 hgrow3
  go_wp2_with fail
  refine (jm _ _ a S _ ((HX.out.later (Bt hbw2 Bw)).later ((Below.refl _ _).alloc (Nat.le_refl _) _)) (aM.lit hs0 zo) (by rw [HL.out];omega) (by have:=cZ (B:=1000000000) zo 1 S zo;omega)).mono ?_
  rintro e w4 ⟨vt,rfl,av4,V3⟩
  obtain ⟨pt,ct,rfl,ht1,ht2,ht3⟩:=kY.read V3.Ab
  have Tm:Below w3.heap.size w3 w4:=Bt ((Below.refl _ _).alloc (Nat.le_refl _) _) av4
  have av3:=zh (Tg.out.later Tm)
  have Wz:=Bt Bw Tm
  have HTS:=zh (fun h=>kY.src ht3 h)
  clear V3 ht3 av4 Tg
  go_wp2_with (refine wpList_copy_splice (o:=⟨some 54,_,_,_,_,_⟩) rfl (.tmp 49) (.tmp 53) GV GV rfl 113 G9 (by rw [hi];simp [hz1]) _ _ _ _ _ _ rfl rfl w2.heap.size 0 (bS (List.replicate (L+1) 0)) 113 av3.out (bS (bQ 1000000000 (a*S))) (by rw [dz];exact (Nat.min_eq_left hd1).symm) (fun h=>⟨rfl,HTS.out h⟩) (by rw [Nat.zero_add,dz,dz,List.length_replicate];exact hd1) (Fg _) w2.heap.size w2 Wz (Nat.le_refl _) ?_)
  intro w5 av2 PV
  have Tf:Hid (aB w5 w2.heap.size (bS us).toArray 113):=by
   have h1:=av2.out
   unfold splice at h1
   have e:List.take 0 (bS (List.replicate (L+1) 0))++(bS (bQ 1000000000 (a*S))++List.drop (0+(bS (bQ 1000000000 (a*S))).length) (bS (List.replicate (L+1) 0)))=bS us:=by
    rw [← HUS.out]
    unfold bS sz
    simp
   rw [e] at h1
   exact h1
  have hg5:w2.heap.size<w5.heap.size:=aB.lt Tf.out
  clear av2 av3 HTS
  go_wp2_with (at_make;refine wpList_make_full _ rfl _ _ GV rfl w5.heap.size 113 i0 (.int .u32 0) 1 G9 hi hz0 hz1 _ _ _ _ (L - (k+2)+1) rfl rfl zo zo (by rw [hz2];omega) (by unfold maxLen;omega) (Nat.le_refl _) ?_)
  intro w6 hown6 S9
  rw [sM] at hown6
  have av6:=zh (tH hown6).1
  have Lv:Below w5.heap.size w5 w6:=(Below.refl _ _).grown S9 (Nat.le_refl _) (fun k h=>by cases h)
  have av7:=zh (Tf.out.later Lv)
  have Wy:Below w2.heap.size w2 w6:=PV.trans (Lv.mono (Nat.le_of_lt hg5))
  clear hown6 S9 Tf Lv
  go_wp2_with fail
  go_loopw [12] (fun jv wr=>∃ (q:Int) (s qs:List Nat), -1≤q∧q≤(L:Int) - ((k:Int)+2)∧jv= .int .i64 q∧Hid (s.length=k+2)∧dI 1000000000 s∧dI 1000000000 qs∧Hid (qs.length+(q+1).toNat=L - (k+2)+1) ∧
    Hid (aB wr w2.heap.size (bS (us.take (q+1).toNat++(s++List.replicate (L+1 - (q+1).toNat - (k+2)) 0))).toArray 113)∧Hid (aB wr w5.heap.size (bS (List.replicate (q+1).toNat 0++qs)).toArray 113) ∧
    Hid (val 1000000000 (us.drop (q+1).toNat)=b*S*val 1000000000 qs+val 1000000000 s)∧Hid (val 1000000000 s<b*S)∧Below w2.heap.size w2 wr) (fun jv _=>(intOf jv+1).toNat)
  case atStart =>
   have e:((L:Int) - ((k:Int)+2)+1).toNat=L - (k+2)+1:=by omega
   refine ⟨(L:Int) - ((k:Int)+2),us.drop (L - (k+2)+1),[],by omega,Int.le_refl _,rfl,zh (by rw [List.length_drop,HD2.out];omega),hd3.drop _,dI.nil,zh (by rw [e];simp),zh ?_,zh ?_,zh (by rw [e];simp [val]),HD5,Wy⟩
   ·rw [e,show L+1 - (L - (k+2)+1) - (k+2)=0 by omega,List.replicate_zero,List.append_nil,List.take_append_drop];exact av7.out
   ·rw [e,List.append_nil];exact av6.out
  case round =>
   clear av7 av6 Wy PV Wz Bw Tm
   obtain ⟨q,s,qs,hq1,hq2,rfl,HSL,hds,Dg,HQL,HBG,HBH,Xk,ay0,hbr⟩:=hrel
   by_cases hq:q<0
   ·have hq0:q= -1:=by omega
    subst hq0
    have e0:((-1:Int)+1).toNat=0:=by omega
    rw [e0] at HBG HBH Xk HQL
    simp only [List.take_zero,List.nil_append,List.replicate_zero,List.drop_zero,Nat.add_zero,Nat.sub_zero] at HBG HBH Xk HQL
    have HE:=zh (Sb hs0 (by rw [← HD4.out];exact Xk.out) ay0.out)
    have hbw:Below w.heap.size w wr:=Bt hbw2 hbr
    have hDu:=zh (kY.FP (n:=k+2) (m:=L+1) HBG.out HSL.out zo zo)
    have hDq:=zh (kY.FP (n:=L - (k+2)+1) (m:=L - (k+2)+1) (post:=[]) (by rw [List.append_nil];exact HBH.out) HQL.out zo zo)
    have hle:val 1000000000 s / S≤b:=by rw [HE.out.2];exact Nat.le_of_lt (Nat.mod_lt _ hb0)
    have hsz:sz 1000000000 (val 1000000000 s)≤k+2:=cZ zo _ _ (by have:=fU (by omega:0<1000000000) hds;rwa [HSL.out] at this)
    go_wp2_with fail
    refine (nJ _ _ _ hDu.out hds).mono ?_
    rintro e w' ⟨v1,rfl,rfl,hv1⟩
    go_wp2_with fail
    refine (AJ _ _ S _ hv1 zo hs0 zo).mono ?_
    rintro e w7 ⟨v2,rfl,dY,hv2⟩
    have zx:=zh hv2
    clear hv2
    go_wp2_with fail
    refine (nJ _ _ _ (hDq.out.later dY) Dg).mono ?_
    rintro e w' ⟨v3,rfl,rfl,hv3⟩
    have HV3:=zh hv3
    clear hv3
    go_wp2_with fail
    go_ret2
    exact ⟨v3,v2,rfl,Bt hbw dY,by rw [← HE.out.1];exact HV3.out,by rw [← HE.out.2];exact zx.out⟩
   ·obtain ⟨j,rfl⟩:=Int.eq_ofNat_of_zero_le (by omega:0≤q)
    have ej:((j:Int)+1).toNat=j+1:=by omega
    rw [ej] at HBG HBH Xk HQL
    have hjl:j<us.length:=by rw [HD2.out];omega
    go_wp2_with fail
    rw [show j+(k+2)+1 - j=k+3 by omega]
    have hux:us.getD j 0<1000000000:=hd3.getD zo j
    have e1:us.take (j+1)++(s++List.replicate (L+1 - (j+1) - (k+2)) 0)=us.take j++(us.getD j 0::s)++List.replicate (L+1 - (j+1) - (k+2)) 0:=by rw [jo hjl];simp
    rw [e1] at HBG
    have HW:=zh (OD hux ay0.out)
    refine (yX w2.heap.size j k (L+1 - j) pv cv (us.take j) (us.getD j 0::s) (List.replicate (L+1 - (j+1) - (k+2)) 0) (bQ 1000000000 (b*S)) wr (by rw [List.length_take];omega) (by simp [HSL.out]) HVL.out (hds.cons hux) (aR zo _) zo HTV.out (by rw [aO zo];exact HW.out) HBG.out (fun i hi=>?_)).mono ?_
    ·obtain ⟨b',off',e1,h1,h2⟩:=HVR.out i (by rw [HVL.out];exact hi)
     exact ⟨b',off',e1,Nat.ne_of_lt h1,Nat.lt_of_lt_of_le h1 hbr.size,(hbr.cell (by exact h1)).trans h2⟩
    ·rintro e wx ⟨rfl,XR,s',hB',aq6,aD9,ZI⟩
     rw [aO zo] at ZI ⊢
     have HB':=zh hB'
     have ay2:=zh ZI
     have aI9:=zh aq6
     have hbx:Below w2.heap.size w2 wx:=vB hbr XR hbr.size (Nat.le_refl _)
     have hBx:aB wx w5.heap.size (bS (List.replicate (j+1) 0++qs)).toArray 113:=(XR.block _ (aB.lt HBH.out) (by simp;omega)).trans HBH.out
     have pO:=zh hBx
     clear hB' ZI aq6 hBx
     generalize hqh:val 1000000000 (us.getD j 0::s) / (b*S)=qh at *
     have HQH:=zh hqh
     clear hqh
     have HQ0:wx.cell? ⟨w5.heap.size,j,none⟩=some (.int .u32 0):=by
      rw [pO.out.cell,List.getElem?_toArray,og (by simp;omega),uF zo];rfl
     have HQF:wx.frozen? ⟨w5.heap.size,j,none⟩=false:=pO.out.free _
     go_wp2_with fail
     have hbs:0<b*S:=Nat.mul_pos hb0 hs0
     have V6:qh<1000000000:=by rw [← HQH.out];exact Nat.div_lt_of_lt_mul HW.out
     have Yk:((j:Int) - 1+1).toNat=j:=by omega
     have hbo:((⟨w5.heap.size,j,none⟩:Addr).block)=w5.heap.size:=rfl
     refine ⟨⟨(j:Int) - 1,s',qh::qs,by omega,by omega,rfl,aI9,aD9,Dg.cons V6,zh ?_,zh ?_,zh ?_,zh ?_,zh ?_,?_⟩,?_⟩
     ·rw [Yk,List.length_cons];have:=HQL.out;omega
     ·have h1:=HB'.out.setOther (a:=⟨w5.heap.size,j,none⟩) (.int .u32 (qh:Int)) (by simp;omega)
      rw [Yk]
      have e2:us.take j++(s'++[0])++List.replicate (L+1 - (j+1) - (k+2)) 0=us.take j++(s'++List.replicate (L+1 - j - (k+2)) 0):=by
       rw [show L+1 - j - (k+2)=(L+1 - (j+1) - (k+2))+1 by omega,List.replicate_succ];simp
      rw [e2] at h1
      exact h1
     ·have h1:=pO.out.set j (.int .u32 (qh:Int))
      rw [List.setIfInBounds_toArray,kH,wI] at h1
      rw [Yk]
      exact h1
     ·rw [Yk]
      exact Pt hjl Xk.out HQH.out.symm ay2.out
     ·rw [ay2.out];exact Nat.mod_lt _ hbs
     ·exact hbx.setCell (by simp;omega) _
     ·simp only [intOf];omega):G:=h
theorem y9 (pa pb:Option Addr) (ca cb:Nat) (a b k:Nat) (w:World) (hx:aM w (.slice pa (sz 1000000000 a) ca) a) (hy:aM w (.slice pb (k+2) cb) b) (hsb:sz 1000000000 b=k+2) (h:b≤a) (ha:sz 1000000000 a≤549755813888) :
  Calls Tryz.prog 191 #[.slice pa (sz 1000000000 a) ca,.slice pb (k+2) cb] w (nS w (a / b) (a%b)):=aj0
theorem _root_.Go.ai9 {G:Prop} (h:G:=by
 rcases Nat.lt_or_ge a b with h|h
 ·exact za x y a b w hx hy h
 ·obtain ⟨p,c,e1, -, -, -⟩:=kY.read hx.Ab
  obtain ⟨q,d,e2, -, -, -⟩:=kY.read hy.Ab
  have hp:sz 1000000000 b≠0:=fun h0=>by
   have:=(mW (B:=1000000000) zo (n:=b)).mp (List.length_eq_zero_iff.mp h0)
   omega
  have e3:(bQ 1000000000 b).length=sz 1000000000 b:=rfl
  rw [e3] at e2
  subst e1
  rcases Nat.lt_or_ge (sz 1000000000 b) 2 with h2|h2
  ·have h1:sz 1000000000 b=1:=by omega
   rw [h1] at e2
   subst e2
   have:=gZ (B:=1000000000) zo b
   rw [h1] at this
   exact xu p q c d a b w hx hy hb zo h ha
  ·obtain ⟨k,hk⟩:∃ k,sz 1000000000 b=k+2:=⟨sz 1000000000 b - 2,by omega⟩
   rw [hk] at e2
   subst e2
   exact y9 p q c d a b k w hx hy hk h ha):G:=h
theorem dD (x y:Value) (a b:Nat) (w:World) (hx:aM w x a) (hy:aM w y b) (hb:0<b) (ha:sz 1000000000 a≤549755813888) :
  Calls Tryz.prog 191 #[x,y] w (nS w (a / b) (a%b)):=ai9
end Go.Proofs.dJ
namespace Go.Proofs.dJ
open Go Go.RowKit Go.SW Go.Num Go.Mem Go.Proofs Go.Proofs.pR Go.Dec
theorem _root_.Go.ai8 {G:Prop} (h:G:=by
 have hlen:=j5 9 d zo hd
 have H:=zh h
 have HT:=zh ht
 clear h ht
 go_enter al9,al8
 go_wp2_with (go_at_call 171;refine (Nk d hd _ HT.out).mono ?_;rintro e w1 ⟨rfl,hb1⟩)
 have HL:=zh hlen
 generalize hL:(Lib.decDigits d).length=L at *
 have HLe:=zh hL
 clear hL
 go_loopw [13] (fun jv wr=>∃ i:Nat,jv= .int .i64 (i:Int)∧Hid (i=0∨i+L≤wd)∧Hid (Mx B b (Lib.byteCells (l++List.replicate i 48)) wr)∧Below B w wr) (fun jv _=>wd - (intOf jv).toNat)
 case atStart =>
  exact ⟨0,rfl,zh (.inl rfl),zh (by simpa using H.out.later hb1),hb1.mono hB⟩
 case round =>
  obtain ⟨i,rfl,HI,HB,hbr⟩:=hrel
  have hcells:Lib.byteCells (l++List.replicate i 48)++[.int .u8 48]=Lib.byteCells (l++List.replicate (i+1) 48):=by
   rw [List.replicate_succ',← List.append_assoc,Lib.byteCells_append _ [48]];rfl
  by_cases hlt:i+L<wd
  ·go_wp2_with (go_at_call 179;refine (EU B b _ 48 _ HB.out (by rw [Lib.byteCells_length];simp;omega) (Nat.le_trans hB hbr.size)).mono ?_;rintro e w2 ⟨rfl,h2,hb2⟩;rw [hcells] at h2)
   exact ⟨⟨i+1,by simp,zh (.inr zo),zh (.inr h2),hbr.trans hb2⟩,by simp [intOf];omega⟩
  ·have hi:i=wd - L:=by
    rcases HI.out with h|h
    ·omega
    ·omega
   have hsz:(⟨(Lib.decDigits d).toArray⟩:ByteArray).size=L:=HLe.out
   go_wp2_with (go_at_call 180;refine (Af B b _ _ _ HB.out (by rw [Lib.byteCells_length,hsz];simp;omega) (Nat.le_trans hB hbr.size)).mono ?_;rintro e w2 ⟨rfl,h2,hb2⟩)
   go_end0
   refine ⟨rfl,.inr ?_,hbr.trans hb2⟩
   rw [HLe.out,← hi,← List.append_assoc,Lib.byteCells_append]
   exact h2):G:=h
theorem Kz (B b d wd:Nat) (l:List UInt8) (w:World) (h:Mx B b (Lib.byteCells l) w) (hB:B≤w.heap.size) (hw:wd≤9) (hd:d<1000000000) (hl:l.length≤140737488355000) (ht:Pow w) :
  Calls Tryz.prog 219 #[.int .u32 d,.int .i64 wd,.pointer (some ⟨b,0,none⟩)] w fun e w'=>e= .returned (.tuple #[])∧Mx B b (Lib.byteCells (l++(List.replicate (wd - (Lib.decDigits d).length) 48++Lib.decDigits d))) w'∧Below B w w':=ai8
def Cg (w:World) (n:Nat) (e:Ending) (w':World):Prop:=e= .returned (.string ⟨(Lib.decDigits n).toArray⟩)∧Below w.heap.size w w'
theorem _root_.Go.ai7 {G:Prop} (h:G:=by
 have hd:=aR (B:=1000000000) zo a
 have htop:=mJ (B:=1000000000) zo a
 have hva:=aO (B:=1000000000) zo a
 unfold sz at ha
 rcases Nat.eq_zero_or_pos a with h0|h0
 ·subst h0
  have H:=zh hx
  clear hx
  go_enter YJ,YI
  go_wp2_with ((first|go_at_call 141|go_at_call 60);refine (iq _ _ _ H.out).mono ?_;rintro e w1 ⟨rfl,rfl⟩)
  go_ret
  exact ⟨by rw [gH zo];rfl,Below.refl _ _⟩
 ·obtain ⟨p,c,rfl,hc1,hc2,hread⟩:=kY.read hx.Ab
  generalize hl:bQ 1000000000 a=l at *
  have hne:l≠[]:=fun e=>by rw [e] at hva;simp [val] at hva;omega
  obtain ⟨n,hn⟩:∃ n,l.length=n+1:=⟨l.length - 1,by have:=List.length_pos_iff.mpr hne;omega⟩
  have H:=zh hx
  have HR:=zh hread
  have HV:=zh hva
  have HN:=zh hn
  have HL:=zh hl
  have HT:=zh ht
  rw [hn] at ha hc1 ⊢
  have ha0:decide (a=0)=false:=by simp;omega
  clear hx hread hva hl ht hn
  obtain ⟨b,off,rfl,hb,hcell⟩:=HR.out n (by have:=HN.out;omega)
  have hpos:∀ i,i≤n→0<val 1000000000 (l.drop i):=fun i hi=>gJ zo (Av htop i) (fun e=>by have:=congrArg List.length e;rw [List.length_drop,HN.out] at this;simp at this;omega)
  have hdl:∀ i,(Lib.decDigits (val 1000000000 (l.drop i))).length≤9*(n+1)+1:=fun i=>by
   have h1:=ze (hd.drop i)
   rw [List.length_drop,HN.out] at h1
   omega
  have HP:=zh hpos
  have Cn:=zh hdl
  clear hpos hdl
  have hd0:val 1000000000 (l.drop n)=l.getD n 0:=by
   rw [iK (by have:=HN.out;omega),List.drop_eq_nil_of_le (by have:=HN.out;omega)]
   simp [val]
  have hdb:=hd.getD zo n
  generalize hdn:l.getD n 0=dn at *
  have HDN:=zh hdn
  have HD0:=zh hd0
  clear hdn hd0
  have hbo:Below w.heap.size w (w.alloc (.cells #[.pointer none,.slice none 0 0] 232 (0,0))):=(Below.refl _ _).alloc (Nat.le_refl _) _
  have hcw:(w.alloc (.cells #[.pointer none,.slice none 0 0] 232 (0,0))).cell? ⟨b,off+n,none⟩=some (.int .u32 (dn:Nat)):=(hbo.cell (by exact hb)).trans hcell
  have hb0:Mx w.heap.size w.heap.size (Lib.byteCells []) (w.alloc (.cells #[.pointer none,.slice none 0 0] 232 (0,0))):=Lib.fresh_isBuilder _ _ w
  have HB0:=zh hb0
  clear hb0
  go_enter YJ,YI
  go_wp2_with ((first|go_at_call 141|go_at_call 60);refine (iq _ a _ (by rw [← HN.out];exact H.out)).mono ?_;rintro e w1 ⟨rfl,rfl⟩;rw [ha0])
  refine (Kz _ _ dn 0 [] _ HB0.out zi zo hdb zi (HT.out.later hbo)).mono ?_
  rintro e w2 ⟨rfl,h2,hb2⟩
  rw [Nat.zero_sub,List.replicate_zero,List.nil_append,List.nil_append,← HD0.out] at h2
  have H2:=zh h2
  have hbw2:Below w.heap.size w w2:=hbo.trans hb2
  clear h2
  go_wp2_with fail
  go_loopw [6] (fun jv wr=>∃ i:Nat,jv= .int .i64 ((i:Int) - 1)∧i≤n∧Hid (Mx w.heap.size w.heap.size (Lib.byteCells (Lib.decDigits (val 1000000000 (l.drop i)))) wr)∧Below w.heap.size w wr) (fun jv _=>(intOf jv+1).toNat)
  case atStart=>exact ⟨n,rfl,Nat.le_refl _,H2,hbw2⟩
  case round =>
   obtain ⟨i,rfl,hi,HB,hbr⟩:=hrel
   rcases Nat.eq_zero_or_pos i with h1|h1
   ·subst h1
    rw [List.drop_zero,HV.out] at HB
    go_wp2_with fail
    refine (Tryz.Builder_String_any _ _ _ _ HB.out hbr.size).mono ?_
    rintro e w3 ⟨rfl,hb3⟩
    go_wp2_with fail
    go_ret
    exact ⟨rfl,hbr.trans hb3⟩
   ·obtain ⟨j,rfl⟩:∃ j,i=j+1:=⟨i - 1,by omega⟩
    have hj:j<l.length:=by have:=HN.out;omega
    obtain ⟨b',off',e1,hb',hcell'⟩:=HR.out j hj
    simp only [Option.some.injEq,Addr.mk.injEq,and_true] at e1
    obtain ⟨rfl,rfl⟩:=e1
    have hcr:=(hbr.cell (p:=⟨b,off+j,none⟩) (by exact hb)).trans hcell'
    have hjb:=hd.getD zo j
    have HG:=zh (D9 hj hd (HP.out (j+1) hi))
    generalize hdj:l.getD j 0=dj at *
    have HDJ:=zh hdj
    clear hdj hcell'
    go_wp2_with fail
    refine (Kz _ _ dj 9 _ _ HB.out hbr.size zo hjb (by have:=Cn.out (j+1);omega) (HT.out.later hbr)).mono ?_
    rintro e w3 ⟨rfl,h3,hb3⟩
    rw [← HG.out] at h3
    have H3:=zh h3
    clear h3
    go_wp2_with fail
    refine ⟨⟨j,rfl,by omega,H3,hbr.trans hb3⟩,?_⟩
    simp only [intOf]
    omega):G:=h
theorem qE (x:Value) (a:Nat) (w:World) (hx:aM w x a) (ha:sz 1000000000 a≤1099511627776) (ht:Pow w) :
  Calls Tryz.prog 194 #[x] w (Cg w a):=ai7
theorem _root_.Go.ai6 {G:Prop} (h:G:=by
 have hd:=aR (B:=1000000000) zo a
 have htop:=mJ (B:=1000000000) zo a
 have hva:=aO (B:=1000000000) zo a
 unfold sz at ha
 rcases Nat.eq_zero_or_pos a with h0|h0
 ·subst h0
  have H:=zh hx
  clear hx
  rw [gH zo]
  go_enter YH,YG
  go_wp2_with ((first|go_at_call 141|go_at_call 60);refine (iq _ _ _ H.out).mono ?_;rintro e w1 ⟨rfl,rfl⟩)
  go_ret
  exact ⟨rfl,Below.refl _ _⟩
 ·obtain ⟨p,c,rfl,hc1,hc2,hread⟩:=kY.read hx.Ab
  generalize hl:bQ 1000000000 a=l at *
  have hne:l≠[]:=fun e=>by rw [e] at hva;simp [val] at hva;omega
  obtain ⟨n,hn⟩:∃ n,l.length=n+1:=⟨l.length - 1,by have:=List.length_pos_iff.mpr hne;omega⟩
  have hlt:=Jf hn hd htop
  have hdb:=hd.getD zo n
  have hl9:=j5 9 _ zo hdb
  rw [hva] at hlt
  rw [hlt]
  obtain ⟨b,off,rfl,hb,hcell⟩:=hread n zo
  have H:=zh hx
  have HN:=zh hn
  have HT:=zh ht
  rw [hn] at ha hc1 ⊢
  have ha0:decide (a=0)=false:=by simp;omega
  generalize hdn:l.getD n 0=dn at *
  clear hx hread hva hl ht hn hlt hdn
  generalize hL:(Lib.decDigits dn).length=L at *
  have HL:Hid ((⟨(Lib.decDigits dn).toArray⟩:ByteArray).size=L):=zh hL
  clear hL
  go_enter YH,YG
  go_wp2_with (first
   | ((first|go_at_call 141|go_at_call 60);refine (iq _ a _ (by rw [← HN.out];exact H.out)).mono ?_;rintro e w1 ⟨rfl,rfl⟩;rw [ha0])
   | (go_at_call 171;refine (Nk dn hdb _ HT.out).mono ?_;rintro e w1 ⟨rfl,hb1⟩;have hq:=HL.out))
  go_ret
  refine ⟨?_,hb1⟩
  have e:(((9*n+L:Nat)):Int)=(n:Int)*9+(L:Int):=by omega
  rw [e]
  rfl):G:=h
theorem iH (x:Value) (a:Nat) (w:World) (hx:aM w x a) (ha:sz 1000000000 a≤1099511627776) (ht:Pow w) :
  Calls Tryz.prog 192 #[x] w (fun e w'=>e= .returned (.int .i64 ((Lib.decDigits a).length:Nat))∧Below w.heap.size w w'):=ai6
end Go.Proofs.dJ
namespace Go.Proofs.dJ
open Go Go.RowKit Go.SW Go.Num Go.Mem Go.Proofs Go.Dec
theorem Sw:(Tryz.prog.info? 113).map (fun i=>(i.zero,i.size,i.bytes))=some (some (.int .u32 0),1,4):=by kernel_rfl
theorem uG (s:ByteArray) (hs:s.size≤1099511627776) (hd:qN s.data.toList) (w:World) :
  Calls Tryz.prog 208 #[.string s] w (fun e w'=>∃ v,e= .returned v∧Below w.heap.size w w'∧aM w' v (num s.data.toList)):=zs3
end Go.Proofs.dJ
namespace Go.Proofs.dJ
open Go Go.RowKit Go.SW Go.Num Go.Mem Go.Proofs
theorem _root_.Go.ai5 {G:Prop} (h:G:=by
 obtain ⟨p,c,rfl, -, -, h1⟩:=kY.read h.Ab
 obtain ⟨p',c',e, -, -, h2⟩:=kY.read k.Ab
 simp only [Value.slice.injEq] at e
 obtain ⟨rfl,hl,rfl⟩:=e
 have:bQ 1000000000 m=bQ 1000000000 n:=by
  refine List.ext_getElem hl fun i hi hi2=>?_
  obtain ⟨b,o,e, -, hc⟩:=h1 i hi
  obtain ⟨b',o',e', -, hc'⟩:=h2 i hi2
  rw [e] at e'
  simp only [Option.some.injEq,Addr.mk.injEq,and_true] at e'
  obtain ⟨rfl,rfl⟩:=e'
  rw [hc] at hc'
  simp only [Option.some.injEq,Value.int.injEq,true_and] at hc'
  rw [List.getD_eq_getElem?_getD,List.getD_eq_getElem?_getD,List.getElem?_eq_getElem hi,List.getElem?_eq_getElem hi2] at hc'
  simpa using Int.ofNat_inj.mp hc'
 rw [← aO (B:=1000000000) zo m,this,aO zo]):G:=h
theorem aM.inj {w:World} {v:Value} {m n:Nat} (h:aM w v m) (k:aM w v n):m=n:=ai5
open Classical in
noncomputable def DR (w:World) (v:Value):Nat:=if h:∃ n,aM w v n then h.choose else 0
theorem Bg {w:World} {v:Value} {n:Nat} (h:aM w v n):DR w v=n:=by
 unfold DR
 rw [dif_pos ⟨n,h⟩]
 exact aM.inj (Exists.choose_spec (⟨n,h⟩:∃ n,aM w v n)) h
theorem _root_.Go.ai4 {G:Prop} (h:G:=by
 generalize hG:Nat.gcd a b=G
 have HG:=zh hG
 have HX:=zh hx
 have HY:=zh hy
 clear hx hy hG
 go_enter al7,al6
 go_wp2_with fail
 go_loopw [0,1] (fun vx vy wr=>∃ a b:Nat,Hid (aM wr vx a)∧Hid (aM wr vy b)∧Hid (Nat.gcd a b=G)∧Hid (sz 1000000000 a≤549755813888)∧Hid (sz 1000000000 b≤549755813888)∧Below w.heap.size w wr) (fun _ vy wr=>DR wr vy)
 case atStart=>exact ⟨a,b,HX,HY,HG,zh ha,zh hb,Below.refl _ _⟩
 case round =>
  obtain ⟨a,b,HX,HY,HG,HA,HB,hbr⟩:=hrel
  obtain ⟨p,c,rfl,hc1,hc2,hread⟩:=kY.read HX.out.Ab
  obtain ⟨p',c',rfl,hc1',hc2',F8⟩:=kY.read HY.out.Ab
  clear hread F8
  have HLA:=zh (show ((bQ 1000000000 a).length:Int)≤2→a≤18446744073709551615 from fun h=>by
   have h1:=gZ (B:=1000000000) zo a
   have h2:(1000000000:Nat)^sz 1000000000 a≤1000000000^2:=Nat.pow_le_pow_right zo (by unfold sz;omega)
   omega)
  have HLB:=zh (show ((bQ 1000000000 b).length:Int)≤2→b≤18446744073709551615 from fun h=>by
   have h1:=gZ (B:=1000000000) zo b
   have h2:(1000000000:Nat)^sz 1000000000 b≤1000000000^2:=Nat.pow_le_pow_right zo (by unfold sz;omega)
   omega)
  rcases Nat.eq_zero_or_pos b with h0|h0
  ·subst h0
   rw [Nat.gcd_zero_right] at HG
   go_wp2_with ((first|go_at_call 141|go_at_call 60);refine (iq _ 0 _ HY.out).mono ?_;rintro e w1 ⟨rfl,rfl⟩)
   go_ret
   exact ⟨_,rfl,hbr,by rw [← HG.out];exact HX.out⟩
  ·have hb0:decide (b=0)=false:=by simp;omega
   go_wp2_with ((first|go_at_call 141|go_at_call 60);refine (iq _ b _ HY.out).mono ?_;rintro e w1 ⟨rfl,rfl⟩;rw [hb0])
   ·refine (AA _ a _ HX.out (HLA.out (by assumption))).mono ?_
    rintro e w' ⟨rfl,rfl⟩
    go_wp2_with fail
    refine (AA _ b _ HY.out (HLB.out (by assumption))).mono ?_
    rintro e w' ⟨rfl,rfl⟩
    have hla:=HLA.out (by assumption)
    have hlb:=HLB.out (by assumption)
    go_wp2_with fail
    go_loopw [5,6] (fun v5 v6 wi=>∃ c d:Nat,v5= .int .u64 (c:Int)∧v6= .int .u64 (d:Int)∧c≤18446744073709551615∧d≤18446744073709551615∧Hid (Nat.gcd c d=G)∧Below w.heap.size w wi) (fun _ v6 _=>(intOf v6).toNat)
    case atStart=>exact ⟨a,b,rfl,rfl,hla,hlb,HG,hbr⟩
    case round =>
     obtain ⟨c,d,rfl,rfl,hc,hd,HG2,hbi⟩:=hrel
     rcases Nat.eq_zero_or_pos d with h1|h1
     ·subst h1
      rw [Nat.gcd_zero_right] at HG2
      go_wp2_with fail
      refine (rz c _ hc).mono ?_
      rintro e w3 ⟨v3,rfl,hb3,hv3⟩
      have HV3:=zh hv3
      clear hv3
      go_wp2_with fail
      go_ret
      exact ⟨_,rfl,Bt hbi hb3,by rw [← HG2.out];exact HV3.out⟩
     ·have hcd:((c%d:Nat):Int)=(c:Int)%(d:Int):=Int.natCast_emod _ _
      have hlt:c%d<d:=Nat.mod_lt _ h1
      go_wp2_with fail
      go_quiet (fail)
      go_wp2_with fail
      refine ⟨⟨d,c%d,rfl,by rw [hcd],hd,by omega,zh ?_,below_drewN hbi _⟩,?_⟩
      ·rw [← HG2.out,Nat.gcd_comm d,← Nat.gcd_rec,Nat.gcd_comm]
      ·rw [← hcd]
       simp only [intOf]
       omega
   all_goals
    refine (dD _ _ a b _ HX.out HY.out h0 HA.out).mono ?_
    rintro e w2 ⟨vq,vr,rfl,hb2,hq,hr⟩
    have HR:=zh hr
    clear hq hr
    go_wp2_with fail
    refine ⟨⟨b,a%b,zh (HY.out.later hb2),HR,zh ?_,HB,zh (Nat.le_trans (gN zo (Nat.mod_le _ _)) HA.out),Bt hbr hb2⟩,?_⟩
    ·rw [← HG.out,Nat.gcd_comm b,← Nat.gcd_rec,Nat.gcd_comm]
    ·rw [Bg HR.out,Bg HY.out]
     exact Nat.mod_lt _ h0):G:=h
theorem nC (x y:Value) (a b:Nat) (w:World) (hx:aM w x a) (hy:aM w y b) (ha:sz 1000000000 a≤549755813888) (hb:sz 1000000000 b≤549755813888) :
  Calls Tryz.prog 184 #[x,y] w (fun e w'=>∃ v,e= .returned v∧Below w.heap.size w w'∧aM w' v (Nat.gcd a b)):=ai4
end Go.Proofs.dJ
namespace Go.Proofs.dJ
open Go Go.RowKit Go.SW Go.Num Go.Mem Go.Proofs Go.Dec
theorem _root_.Go.ai3 {G:Prop} (h:G:=by
 obtain ⟨Iq,lH,Jy,rfl⟩:=h.slice;have H:=zh h;clear h
 cases b
 all_goals
  go_enter al0,ak9
  go_wp2_with ((first|go_at_call 141|go_at_call 60);refine (iq _ n _ aH).mono ?_;rintro e w1 ⟨rfl,rfl⟩)
  refine bP rfl rfl aL He rfl zk ?_
  refine ⟨_,rfl,aA,aZ.mk aH (jw n _).symm ?_⟩
  rw [← MZ]
  rfl):G:=h
theorem eH (m:Value) (n:Nat) (b:Bool) (w:World) (h:aM w m n) :
  Calls Tryz.prog 170 #[m,.bool b] w (fun e w'=>∃ v,e= .returned v∧Below w.heap.size w w'∧aZ w' v (je n b)):=ai3
theorem _root_.Go.ai2 {G:Prop} (h:G:=by
 have HC:=zh (whole.xB ⟨(Lib.itoa z).toArray⟩)
 have e1:(⟨(Lib.itoa z).toArray⟩:ByteArray).data.toList=Lib.itoa z:=rfl
 rw [e1,TV] at HC
 have HG:=zh (fun w=>uG ⟨(Lib.decDigits z.natAbs).toArray⟩ (Nat.le_trans hz zo) (qG _) w)
 have e2:(⟨(Lib.decDigits z.natAbs).toArray⟩:ByteArray).data.toList=Lib.decDigits z.natAbs:=rfl
 rw [e2,q9] at HG
 clear hz
 unfold sO
 go_enter ak8,ak7
 go_wp2_with (first
  | (go_at_call 189;refine (HC.out _).mono ?_;rintro e w1 ⟨rfl,rfl⟩)
  | ((first|go_at_call 208|go_at_call 190);refine (HG.out _).mono ?_;rintro e w2 ⟨v,rfl,hb2,hv⟩;obtain ⟨FI,VQ,Gu,rfl⟩:=hv.slice;have HV:=zh hv;clear hv;have BR:=aB.later (aB.new _ _ _) hb2;have bJ:=BR.cell;have bI:=BR.free))
 refine bP rfl rfl aL He rfl zk ?_
 exact ⟨_,rfl,aA,aZ.aW aH⟩):G:=h
theorem fM (z:Int) (hz:(Lib.decDigits z.natAbs).length≤600) (w:World) :
  Calls Tryz.prog 168 #[sO z] w (fun e w'=>∃ v,e= .returned v∧Below w.heap.size w w'∧aZ w' v z):=ai2
theorem _root_.Go.ai1 {G:Prop} (h:G:=by
 obtain ⟨Iq,lH,Jy,rfl,H⟩:=h;replace H:=zh H
 go_enter ak6,ak5
 go_wp2_with ((first|go_at_call 170|go_at_call 69);refine (eH _ _ _ _ aH).mono ?_;rintro e w1 ⟨v,rfl,hb1,hv⟩;obtain ⟨aS1,lH1,aY6,rfl,H1⟩:=hv;replace H1:=zh H1;have BR:=aB.later (aB.mg _ _ _ _) hb1;have bJ:=BR.cell;have bI:=BR.free)
 refine bP rfl rfl aL He rfl zk ?_
 exact ⟨_,rfl,aA,(aZ.aW aH).cast (MX z)⟩):G:=h
theorem oZ (v:Value) (z:Int) (w:World) (h:aZ w v z) :
  Calls Tryz.prog 137 #[v] w (fun e w'=>∃ v,e= .returned v∧Below w.heap.size w w'∧aZ w' v (-z)):=ai1
theorem _root_.Go.ai0 {G:Prop} (h:G:=by
 obtain ⟨Iq,lH,Jy,rfl,H⟩:=h;replace H:=zh H
 obtain ⟨aR6,lHU,aY1,rfl⟩:=hu.slice;have HU:=zh hu;clear hu
 have HN:=zh hn
 have HZ:=zh hz
 clear hn hz
 go_enter ak4,ak3
 go_wp2_with fail
 refine aC [(.pure,0),(.read,1),(.pure,2),(.pure,4),(.read,5),(.ext,3),(.ext,6),(.fin,7)] zk zk zR zP ?_
 repeat (first|(refine ah rfl rfl fun J h=>?_;go_simp;refine h _ ?_;clear h J)|(refine au rfl rfl rfl rfl fun J h=>?_;go_simp;refine h _ ?_;clear h J;try go_simp))
 refine aD rfl rfl (fun w1 hb1 J hJ=>?_);go_simp
 have BR:=aB.later (aB.drew (aB.mg _ _ _ _)) hb1;have bJ:=BR.cell;have bI:=BR.free
 refine (jm _ _ _ _ _ aH aH (Nat.le_trans HZ.out zo) (Nat.le_trans HN.out zo)).mono ?_
 rintro e w2 ⟨v,rfl,hb2,hv⟩
 obtain ⟨FI,VQ,Gu,rfl⟩:=hv.slice;have HV:=zh hv;clear hv
 replace BR:=aB.later (BR) hb2;replace bJ:=BR.cell;replace bI:=BR.free
 refine hJ _ _ hb2 ?_
 clear hJ J
 refine aD rfl rfl (fun w3 hb3 J hJ=>?_);go_simp
 replace BR:=aB.later (BR) hb3;replace bJ:=BR.cell;replace bI:=BR.free
 refine (eH _ (z.natAbs*n) _ _ aH).mono ?_
 rintro e w4 ⟨v,rfl,hb4,hv⟩
 obtain ⟨aS0,lH4,aY5,rfl,H4⟩:=hv;replace H4:=zh H4
 replace BR:=aB.later (BR) hb4;replace bJ:=BR.cell;replace bI:=BR.free
 refine hJ _ _ hb4 ?_
 clear hJ J
 refine aJ [_] rfl (fun w5 hb5=>?_)
 replace BR:=aB.later (BR) hb5;replace bJ:=BR.cell;replace bI:=BR.free
 go_wp2_with fail
 refine bP rfl rfl aL He rfl zk ?_
 exact ⟨_,rfl,aA,(aZ.aW aH).cast (Vt z n)⟩):G:=h
theorem lK (v u:Value) (z:Int) (n:Nat) (w:World) (h:aZ w v z) (hu:aM w u n) (hz:sz 1000000000 z.natAbs≤549755813888) (hn:sz 1000000000 n≤549755813888) :
  Calls Tryz.prog 135 #[v,u] w (fun e w'=>∃ v,e= .returned v∧Below w.heap.size w w'∧aZ w' v (z*n)):=ai0
theorem _root_.Go.ah9 {G:Prop} (h:G:=by
 have H:=zh h
 have H2:=zh h2
 have KZ:=zh kz
 have KY:=zh ky
 have HE:=zh (M0 hz hy)
 clear h h2 kz ky hz hy
 cases b
 all_goals
  go_enter U9,U8
  go_wp2_with fail
  refine aC [(.pure,0),(.read,1),(.pure,2),(.read,3),(.pure,5),(.read,6),(.ext,4),(.ext,7),(.fin,8)] zk zk zR zP ?_
  repeat (first|(refine ah rfl rfl fun J h=>?_;go_simp;refine h _ ?_;clear h J)|(refine au rfl rfl rfl rfl fun J h=>?_;go_simp;refine h _ ?_;clear h J;try go_simp))
  refine aD rfl rfl (fun w1 hb1 J hJ=>?_);go_simp
  have BR:=aB.later (aB.drew (aB.at2 _ _ _ _ _)) hb1;have bJ:=BR.cell;have bI:=BR.free
  refine (M6 _ _ z.natAbs y.natAbs _ aH aH (Nat.le_trans KZ.out zo) (Nat.le_trans KY.out zo)).mono ?_
  rintro e v1 ⟨v,rfl,hc1,hv⟩
  obtain ⟨Vx,lHS,WW,rfl⟩:=hv.slice;have HS:=zh hv;clear hv
  replace BR:=aB.later (BR) hc1;replace bJ:=BR.cell;replace bI:=BR.free
  refine hJ _ _ hc1 ?_
  clear hJ J
  refine aD rfl rfl (fun w2 hb2 J hJ=>?_);go_simp
  replace BR:=aB.later (BR) hb2;replace bJ:=BR.cell;replace bI:=BR.free
  refine (eH _ (z.natAbs+y.natAbs) _ _ aH).mono ?_
  rintro e v2 ⟨v,rfl,hc2,hv⟩
  obtain ⟨Vw,lHT,WV,rfl,HT⟩:=hv;replace HT:=zh HT
  replace BR:=aB.later (BR) hc2;replace bJ:=BR.cell;replace bI:=BR.free
  refine hJ _ _ hc2 ?_
  clear hJ J
  refine aJ [_] rfl (fun w5 hb5=>?_)
  replace BR:=aB.later (BR) hb5;replace bJ:=BR.cell;replace bI:=BR.free
  go_wp2_with fail
  refine bP rfl rfl aL He rfl zk ?_
  exact ⟨_,rfl,aA,(aZ.aW aH).cast HE.out⟩):G:=h
theorem H8 (pa pb:Option Addr) (l m ca cb:Nat) (z y:Int) (b:Bool) (w:World) (h:aM w (.slice pa l ca) z.natAbs) (h2:aM w (.slice pb m cb) y.natAbs) (hz:decide (z<0)=b) (hy:decide (y<0)=b) (kz:sz 1000000000 z.natAbs≤549755813888) (ky:sz 1000000000 y.natAbs≤549755813888) :
  Calls Tryz.prog 136 #[.agg #[.slice pa l ca,.bool b],.agg #[.slice pb m cb,.bool b]] w (fun e w'=>∃ v,e= .returned v∧Below w.heap.size w w'∧aZ w' v (z+y)):=ah9
theorem _root_.Go.ah8 {G:Prop} (h:G:=by
 have H:=zh h
 have H2:=zh h2
 have KZ:=zh kz
 have KY:=zh ky
 rcases Nat.lt_or_ge z.natAbs y.natAbs with hlt|hge
 ·have HE:Hid (je (y.natAbs - z.natAbs) (!b)=z+y):=by
   have:=MW (z:=y) (y:=z) (b:= !b) hy (by rw [hz,Bool.not_not])
   rw [if_pos zo] at this
   exact this.trans (Int.add_comm _ _)
  have HC:=zh (qX hlt)
  have HL:=zh hlt
  clear h h2 kz ky hz hy hlt
  cases b
  all_goals
   go_enter U9,U8
   go_wp2_with fail
   refine ((jC _ _ z.natAbs y.natAbs _ aH aH).mono (by rw [HC.out];exact fun _ _ h=>h)).mono ?_
   rintro e v1 ⟨rfl,hc1⟩
   have BR:=aB.later (aB.at2 _ _ _ _ _) hc1;have bJ:=BR.cell;have bI:=BR.free
   have B1:=aB.later (aB.alloc (aB.mg _ _ _ _) _) hc1;have cB1:=B1.cell;have mE:=B1.free
   have B0:=aB.later (aB.alloc (aB.alloc (aB.new _ _ _) _) _) hc1;have cB0:=B0.cell;have j4:=B0.free
   go_wp2_with fail
   refine aC [(.pure,0),(.read,1),(.pure,2),(.read,3),(.pure,5),(.read,6),(.ext,4),(.ext,7),(.fin,8)] zk zk zR zP ?_
   repeat (first|(refine ah rfl rfl fun J h=>?_;go_simp;refine h _ ?_;clear h J)|(refine au rfl rfl rfl rfl fun J h=>?_;go_simp;refine h _ ?_;clear h J;try go_simp))
   refine aD rfl rfl (fun w2 hb2 J hJ=>?_);go_simp
   replace BR:=aB.later (aB.drew BR) hb2;replace bJ:=BR.cell;replace bI:=BR.free
   refine (Bf _ _ y.natAbs z.natAbs _ aH aH (Nat.le_trans KY.out zo) (Nat.le_of_lt HL.out)).mono ?_
   rintro e v2 ⟨v,rfl,hc2,hv⟩
   obtain ⟨Pj,lHD,Qf,rfl⟩:=hv.slice;have HD:=zh hv;clear hv
   replace BR:=aB.later (BR) hc2;replace bJ:=BR.cell;replace bI:=BR.free
   refine hJ _ _ hc2 ?_
   clear hJ J
   refine aD rfl rfl (fun w3 hb3 J hJ=>?_);go_simp
   replace BR:=aB.later (BR) hb3;replace bJ:=BR.cell;replace bI:=BR.free
   refine (eH _ (y.natAbs - z.natAbs) _ _ aH).mono ?_
   rintro e v3 ⟨v,rfl,hc3,hv⟩
   obtain ⟨Vw,lHT,WV,rfl,HT⟩:=hv;replace HT:=zh HT
   replace BR:=aB.later (BR) hc3;replace bJ:=BR.cell;replace bI:=BR.free
   refine hJ _ _ hc3 ?_
   clear hJ J
   refine aJ [_] rfl (fun w5 hb5=>?_)
   replace BR:=aB.later (BR) hb5;replace bJ:=BR.cell;replace bI:=BR.free
   go_wp2_with fail
   refine bP rfl rfl aL He rfl zk ?_
   exact ⟨_,rfl,aA,(aZ.aW aH).cast HE.out⟩
 ·have HE:Hid (je (z.natAbs - y.natAbs) b=z+y):=by
   have:=MW (z:=z) (y:=y) (b:=b) hz hy
   rw [if_pos zo] at this
   exact this
  have hs:wC z.natAbs y.natAbs=0∨wC z.natAbs y.natAbs=1:=by
   rcases Nat.lt_or_ge y.natAbs z.natAbs with h2|h2
   ·exact .inr (pV h2)
   ·have:z.natAbs=y.natAbs:=by omega
    rw [this];exact .inl (sD _)
  have HL:=zh hge
  clear h h2 kz ky hz hy hge
  rcases hs with hs|hs<;>cases b
  all_goals
   have HC:=zh hs
   clear hs
   go_enter U9,U8
   go_wp2_with fail
   refine ((jC _ _ z.natAbs y.natAbs _ aH aH).mono (by rw [HC.out];exact fun _ _ h=>h)).mono ?_
   rintro e v1 ⟨rfl,hc1⟩
   have BR:=aB.later (aB.at2 _ _ _ _ _) hc1;have bJ:=BR.cell;have bI:=BR.free
   have B1:=aB.later (aB.alloc (aB.mg _ _ _ _) _) hc1;have cB1:=B1.cell;have mE:=B1.free
   have B0:=aB.later (aB.alloc (aB.alloc (aB.new _ _ _) _) _) hc1;have cB0:=B0.cell;have j4:=B0.free
   go_wp2_with fail
   refine aC [(.pure,0),(.read,1),(.pure,2),(.read,3),(.pure,5),(.read,6),(.ext,4),(.ext,7),(.fin,8)] zk zk zR zP ?_
   repeat (first|(refine ah rfl rfl fun J h=>?_;go_simp;refine h _ ?_;clear h J)|(refine au rfl rfl rfl rfl fun J h=>?_;go_simp;refine h _ ?_;clear h J;try go_simp))
   refine aD rfl rfl (fun w2 hb2 J hJ=>?_);go_simp
   replace BR:=aB.later (aB.drew BR) hb2;replace bJ:=BR.cell;replace bI:=BR.free
   refine (Bf _ _ z.natAbs y.natAbs _ aH aH (Nat.le_trans KZ.out zo) HL.out).mono ?_
   rintro e v2 ⟨v,rfl,hc2,hv⟩
   obtain ⟨Pj,lHD,Qf,rfl⟩:=hv.slice;have HD:=zh hv;clear hv
   replace BR:=aB.later (BR) hc2;replace bJ:=BR.cell;replace bI:=BR.free
   refine hJ _ _ hc2 ?_
   clear hJ J
   refine aD rfl rfl (fun w3 hb3 J hJ=>?_);go_simp
   replace BR:=aB.later (BR) hb3;replace bJ:=BR.cell;replace bI:=BR.free
   refine (eH _ (z.natAbs - y.natAbs) _ _ aH).mono ?_
   rintro e v3 ⟨v,rfl,hc3,hv⟩
   obtain ⟨Vw,lHT,WV,rfl,HT⟩:=hv;replace HT:=zh HT
   replace BR:=aB.later (BR) hc3;replace bJ:=BR.cell;replace bI:=BR.free
   refine hJ _ _ hc3 ?_
   clear hJ J
   refine aJ [_] rfl (fun w5 hb5=>?_)
   replace BR:=aB.later (BR) hb5;replace bJ:=BR.cell;replace bI:=BR.free
   go_wp2_with fail
   refine bP rfl rfl aL He rfl zk ?_
   exact ⟨_,rfl,aA,(aZ.aW aH).cast HE.out⟩):G:=h
theorem H9 (pa pb:Option Addr) (l m ca cb:Nat) (z y:Int) (b:Bool) (w:World) (h:aM w (.slice pa l ca) z.natAbs) (h2:aM w (.slice pb m cb) y.natAbs) (hz:decide (z<0)=b) (hy:decide (y<0)= !b) (kz:sz 1000000000 z.natAbs≤549755813888) (ky:sz 1000000000 y.natAbs≤549755813888) :
  Calls Tryz.prog 136 #[.agg #[.slice pa l ca,.bool b],.agg #[.slice pb m cb,.bool !b]] w (fun e w'=>∃ v,e= .returned v∧Below w.heap.size w w'∧aZ w' v (z+y)):=ah8
theorem _root_.Go.ah7 {G:Prop} (h:G:=by
 obtain ⟨pa,l,ca,rfl,hm⟩:=h
 obtain ⟨pb,m,cb,rfl,hm2⟩:=h2
 by_cases hb:decide (z<0)=decide (y<0)
 ·rw [hb]
  exact H8 pa pb l m ca cb z y (decide (y<0)) w hm hm2 hb rfl kz ky
 ·have hb2:decide (y<0)= !decide (z<0):=by
   cases h1:decide (z<0)<;>cases h2:decide (y<0)<;>simp_all
  rw [hb2]
  exact H9 pa pb l m ca cb z y (decide (z<0)) w hm hm2 rfl hb2 kz ky):G:=h
theorem vH (v u:Value) (z y:Int) (w:World) (h:aZ w v z) (h2:aZ w u y) (kz:sz 1000000000 z.natAbs≤549755813888) (ky:sz 1000000000 y.natAbs≤549755813888) :
  Calls Tryz.prog 136 #[v,u] w (fun e w'=>∃ v,e= .returned v∧Below w.heap.size w w'∧aZ w' v (z+y)):=ah7
theorem _root_.Go.ah6 {G:Prop} (h:G:=by
 obtain ⟨pa,l,ca,rfl,hm⟩:=h
 have hlen:((1+(Lib.decDigits z.natAbs).length:Nat):Int)≤9223372036854775807:=by
  have h1:=ze (aR (B:=1000000000) zo z.natAbs)
  rw [aO zo] at h1
  unfold sz at kz
  omega
 have aK7:¬ 9223372036854775807<1+(Lib.decDigits z.natAbs).length:=by omega
 have H:=zh hm
 have KZ:=zh kz
 have HT:=zh ht
 clear hm kz ht hlen
 by_cases hz:z<0
 ·have e:sO z= .string ⟨(45::Lib.decDigits z.natAbs).toArray⟩:=by unfold sO Lib.itoa;rw [if_pos hz]
  rw [e,decide_eq_true hz]
  clear e hz
  go_enter YF,YE
  go_wp2_with fail
  refine (qE _ z.natAbs _ aH KZ.out (HT.out.later aA)).mono ?_
  rintro e v1 ⟨rfl,hc1⟩
  go_wp2_with fail
  go_ret
  exact ⟨rfl,aA⟩
 ·have e:sO z= .string ⟨(Lib.decDigits z.natAbs).toArray⟩:=by unfold sO Lib.itoa;rw [if_neg hz,show z.toNat=z.natAbs by omega]
  rw [e,decide_eq_false hz]
  clear e hz
  go_enter YF,YE
  go_wp2_with fail
  refine (qE _ z.natAbs _ aH KZ.out (HT.out.later aA)).mono ?_
  rintro e v1 ⟨rfl,hc1⟩
  go_wp2_with fail
  go_ret
  exact ⟨rfl,aA⟩):G:=h
theorem Fq (v:Value) (z:Int) (w:World) (h:aZ w v z) (kz:sz 1000000000 z.natAbs≤1099511627776) (ht:pR.Pow w) :
  Calls Tryz.prog 193 #[v] w (fun e w'=>e= .returned (sO z)∧Below w.heap.size w w'):=ah6
end Go.Proofs.dJ
