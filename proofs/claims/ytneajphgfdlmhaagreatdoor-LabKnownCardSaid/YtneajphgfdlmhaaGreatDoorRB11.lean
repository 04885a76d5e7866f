/- Lemmas for the proof. No condition. -/
import Derived.Test.YtneajphgfdlmhaaGreatDoorRB01
import Derived.Test.YtneajphgfdlmhaaGreatDoorRB02
import Derived.Test.YtneajphgfdlmhaaGreatDoorRB03
import Derived.Test.YtneajphgfdlmhaaGreatDoorRB04
import Derived.Test.YtneajphgfdlmhaaGreatDoorProg
import Derived.Deep.QuietTactic
import Derived.BigQuiet
import Derived.WalkSmall
import Derived.KernelRfl
import Derived.Deep.AppendSrc
import Derived.Deep.DeepAppendWide
import Derived.RegionTactic
set_option linter.unusedVariables false
set_option linter.unusedSimpArgs false
set_option maxRecDepth 100000
set_option maxHeartbeats 16000000
namespace Go.Proofs.aG
open Go Go.RowKit Go.SW Go.Num Go.Mem Go.Proofs
theorem CJ:(Tryz.prog.info? 3).map (fun i=>(i.zero,i.size,i.bytes))=some (some (.int .i64 0),1,8):=by kernel_rfl
theorem Qi (b off c:Nat) (l:List Nat) (w:World) (hl:l.length≤c) (hm:c≤9223372036854775807)
   (hc:∀ k,k<l.length→w.cell? ⟨b,off+k,none⟩=some (.int .i64 (l.getD k 0:Nat))) :
    Calls Tryz.prog 297 #[.slice (some ⟨b,off,none⟩) l.length c] w fun e w'=>e= .returned (.slice (some ⟨b,off,none⟩) (trimLen l l.length) c)∧w=w':=by
  go_enter Tryz.func297,Tryz.ntmps297
  go_wp2
  go_loop [3] (fun v=>∃ k:Nat,k≤l.length∧trimLen l k=trimLen l l.length∧v= .int .i64 k) (fun v=>(intOf v).toNat)
  case atStart=>exact ⟨l.length,Nat.le_refl _,rfl,rfl⟩
  case round =>
    obtain ⟨k,hk,ht,rfl⟩:=hrel;have HT:=zh ht;clear ht
    rcases Nat.eq_zero_or_pos k with h0|h0
    · subst h0
      go_wp2
      go_ret
      exact ⟨by rw [← HT.out];rfl,rfl⟩
    · obtain ⟨j,rfl⟩:∃ j,k=j+1:=⟨k - 1,by omega⟩
      have hcj:=hc j zo;have HS:Hid (trimLen l (j+1)=if l.getD j 0=0 then trimLen l j else j+1):=rfl;generalize l.getD j 0=d at hcj HS;clear hc
      rcases Nat.eq_zero_or_pos d with hd|hd
      · subst hd
        go_wp2
        go_round
        case rel=>exact ⟨j,by omega,by rw [← HT.out,HS.out];rfl,by go_num⟩
        case measure=>simp [intOf]
      · have hz:((d:Int) == 0)=false:=by simp;omega
        go_wp2
        go_ret
        exact ⟨by rw [← HT.out,HS.out,if_neg zo];rfl,rfl⟩
theorem ar3 (w:World):Calls Tryz.prog 297 #[.slice none 0 0] w fun e w'=>e= .returned (.slice none 0 0)∧w=w':=by
 go_enter Tryz.func297,Tryz.ntmps297
 go_wp2
 refine wp_loop_rounds 1 ?_;rw [rounds_succ]
 go_wp2
 go_ret
 exact ⟨rfl,rfl⟩
theorem yY (v:Value) (l:List Nat) (w:World) (h:Gs w v l) (hd:iM 10000 l) :
  Calls Tryz.prog 297 #[v] w fun e w'=>∃ v',e= .returned v'∧w=w'∧Nm w v' (val 10000 l):=by
 rcases Gs.cases h with ⟨rfl,rfl⟩|⟨b,off,cap,rfl,h1,h2,h3,⟨arr,h4⟩,h5⟩
 ·refine (ar3 w).mono ?_;rintro e w' ⟨rfl,rfl⟩;exact ⟨_,rfl,rfl,by rw [show val 10000 ([]:List Nat)=0 from rfl];exact Nm.zero _⟩
 ·refine (Qi b off cap l w h1 h2 h5).mono ?_;rintro e w' ⟨rfl,rfl⟩;refine ⟨_,rfl,rfl,?_⟩;have ht:=trimLen_le l l.length;have e:val 10000 l=val 10000 (l.take (trimLen l l.length)):=by rw [zy _ _ _ (Nat.le_refl _)];simp
  rw [e];refine Nm.ZA ?_ (hd.take _) (zA l _ (Nat.le_refl _));refine Row.mk (arr:=arr) (by rw [bE];simp;omega) (by rw [bE];simp;omega) h2 h4 fun i hi=>?_;rw [bE] at hi;have hi2:i<l.length:=by simp at hi;omega
  have:=h5 i hi2;rw [h4.cell] at this;rw [this];simp [ints,hi2]
theorem qz (b:Bool) (v:Value) (l:List Nat) (w:World) (h:Gs w v l) (hd:iM 10000 l) :
  Calls Tryz.prog 258 #[.bool b,v] w fun e w'=>∃ v',e= .returned v'∧Below w.heap.size w w'∧Pl w' v' (kM (val 10000 l) b):=by
 have h0:Below w.heap.size w (w.alloc (.cells #[.bool false,.slice none 0 0] 161)):=au;have hx:=ah.new w #[.bool false,.slice none 0 0] 161;have HG:=zh (yY v l _ (h.later h0) hd);obtain ⟨a0,c0,rfl, -⟩:=h.read;obtain ⟨W,EW⟩:∃ y,w.alloc (.cells #[.bool false,.slice none 0 0] 161)=y:=⟨_,rfl⟩;rw [EW] at h0 hx HG;have cx:=hx.cell;have fx:=hx.free;generalize val 10000 l=n at *;clear h hd;go_enter Tryz.func258,Tryz.ntmps258
 go_wp2_with fail
 clear EW;refine HG.out.mono ?_;rintro e w' ⟨v',rfl,rfl,hv⟩;obtain ⟨pa,len,ca,rfl⟩:=hv.slice
 have hl:Hid (len=sz 10000 n):=zh (by
  obtain ⟨a,cap,e, -⟩:=hv.read;simp only [Value.slice.injEq] at e;exact e.2.1)
 have HV:=zh hv
 have VF:∀ b:Bool,Hid ((b&&decide ((0:Int)<(len:Int)))=decide (kM n b<0)):=fun b=>zh (by
  rw [← Zk]
  have h2:0<n↔0<len:=by
   rw [hl.out];unfold sz;rw [List.length_pos_iff,Ne,qI zo];omega
  rw [show decide ((0:Int)<(len:Int))=decide (0<n) by rw [Bool.eq_iff_iff];simp;omega])
 clear hv;cases b
 ·have HB:=VF false;clear VF;go_wp2_with fail
  refine dG rfl rfl aH Tryz.underlying161 rfl zk ?_;exact ⟨_,rfl,au,Pl.mk ((HV.out.setOther hx zd 0 _).setOther (hx.set 0 _) zd 1 _) (nu _ _).symm (by rw [← HB.out];rfl)⟩
 ·have HB:=VF true;clear VF;go_wp2_with fail
  refine dG rfl rfl aH Tryz.underlying161 rfl zk ?_;exact ⟨_,rfl,au,Pl.mk ((HV.out.setOther hx zd 0 _).setOther (hx.set 0 _) zd 1 _) (nu _ _).symm (by rw [← HB.out];simp)⟩
theorem Fa (v:Value) (z:Int) (w:World) (h:Pl w v z) :
  Calls Tryz.prog 261 #[v] w fun e w'=>∃ v',e= .returned v'∧Below w.heap.size w w'∧Pl w' v' (-z):=by
 obtain ⟨b,pa,l,ca,rfl⟩:=h.agg;obtain ⟨hn,hbz⟩:=h.nm;have h0:Below w.heap.size w ((w.alloc (.cells #[.bool b,.slice pa l ca] 161)).alloc (.cells #[.bool false,.slice none 0 0] 161)):=au;have hx:=ah.qN w (.cells #[.bool b,.slice pa l ca] 161) #[.bool false,.slice none 0 0] 161;have ha:=ah.alloc (ah.new w #[.bool b,.slice pa l ca] 161) (.cells #[.bool false,.slice none 0 0] 161);have HG:=zh (fun W (hb:Below w.heap.size w W)=>qz (!b) (.slice pa l ca) _ W (hn.gs.later hb) (bg zo _));have hs:kM z.natAbs (!b)= -z:=by rw [hbz,Zh]
 rw [aR zo,hs] at HG;obtain ⟨W,EW⟩:∃ y,(w.alloc (.cells #[.bool b,.slice pa l ca] 161)).alloc (.cells #[.bool false,.slice none 0 0] 161)=y:=⟨_,rfl⟩;rw [EW] at h0 hx ha;have ca':=ha.cell;have cx:=hx.cell;have fx:=hx.free;clear hn ha h hbz hs;go_enter Tryz.func261,Tryz.ntmps261
 go_wp2_with fail
 clear EW ca' cx fx;refine (HG.out _ h0).mono ?_;rintro e w' ⟨v',rfl,hb,hv⟩;obtain ⟨bNV,bo5,lNV,bt4,rfl⟩:=hv.agg;have NV:=zh hv;clear hv;have hy:=hx.later hb;have cy:=hy.cell;have fy:=hy.free;go_wp2_with fail
 refine dG rfl rfl aH Tryz.underlying161 rfl zk ?_;exact ⟨_,rfl,au,NV.out.set2 hy zd _ _ _ _⟩
theorem Js (n:Int) (w:World) (h1: -9223372036854775808≤n) (h2:n≤9223372036854775807) :
  Calls Tryz.prog 250 #[.int .i64 n] w fun e w'=>∃ v',e= .returned v'∧Below w.heap.size w w'∧Pl w' v' n:=by
 obtain ⟨i0,hi,hz0,hz1,hz2⟩:=info_parts CJ;have h0:Below w.heap.size w (w.alloc (.cells #[.bool false,.slice none 0 0] 161)):=au;have hx:=ah.new w #[.bool false,.slice none 0 0] 161;have HN:=zh (And.intro h1 h2);clear h1 h2;go_enter Tryz.func250,Tryz.ntmps250
 go_wp2
 go_loopw [0,3,5] (fun nv dv _ wr=>∃ (m:Int) (s:List Nat),nv= .int .i64 m∧Hid (-9223372036854775808≤m∧m≤9223372036854775807∧(m=0∨(m<0↔n<0)))∧s.length≤5∧wr.ownsRow (w.heap.size+1) 3 1 dv s.length (ints s)∧Hid (s++eO 10000 m.natAbs=eO 10000 n.natAbs)∧Below (w.heap.size+1) (w.alloc (.cells #[.bool false,.slice none 0 0] 161)) wr)
  (fun nv _ _ _=>(intOf nv).natAbs)
 case atStart=>exact ⟨n,[],rfl,zh ⟨HN.out.1,HN.out.2,.inr Iff.rfl⟩,by simp,World.ownsRow_nil _ _ _ _,zh rfl,Below.refl _ _⟩
 case round =>
  obtain ⟨m,s,rfl,HM,hs5,hown,HD,hb⟩:=hrel
  by_cases hm0:m=0
  ·subst hm0
   have hdg:iM 10000 s:=by
    have:=HD.out;rw [Int.natAbs_zero,jk,List.append_nil] at this;rw [this];exact bg zo _
   have hs:val 10000 s=n.natAbs:=by
    have:=HD.out;rw [Int.natAbs_zero,jk,List.append_nil] at this;rw [this,aR zo]
   have h1:Below w.heap.size w wr:=⟨hb.os,hb.tape,hb.output,Nat.le_trans zi hb.size,fun i hi=>(hb.block i zo).trans (h0.block i hi)⟩;have hxr:=hx.later (w':=wr) ⟨hb.os,hb.tape,hb.output,by have:=hb.size;simpa using this,fun i hi=>hb.block i (by simpa using hi)⟩;have cx:=hxr.cell;have fx:=hxr.free;have HG:=zh (qz (decide (n<0)) u3 s wr (Gs.jP hown) hdg);rw [hs,Zj] at HG;obtain ⟨pa,ca,rfl, -⟩:=(Gs.jP hown).read;generalize decide (n<0)=b0 at *;clear hs hdg hown HD HM HN hx h0 hb;go_wp2_with fail
   refine HG.out.mono ?_;rintro e w' ⟨v',rfl,hb,hv⟩;obtain ⟨bNV,bo5,lNV,bt4,rfl⟩:=hv.agg;have NV:=zh hv;clear hv;have hy:=hxr.later hb;clear cx fx;have cy:=hy.cell;have fy:=hy.free;go_wp2_with fail
   refine dG rfl rfl aH Tryz.underlying161 rfl zk ?_;exact ⟨_,rfl,au,NV.out.set2 hy zd _ _ _ _⟩
  ·have hne:(m == 0)=false:=by simp [hm0]
   have hne':(m != 0)=true:=by simp [hm0]
   have hnp:0<m.natAbs:=by omega
   have hdv:m.natAbs / 10000<m.natAbs:=Nat.div_lt_self hnp zo
   have HNX:Hid ((s++[m.natAbs%10000])++eO 10000 (m.natAbs / 10000)=eO 10000 n.natAbs):=by
    unfold Hid;rw [← HD.out,nG zo hnp,List.append_assoc];rfl
   have hl5:s.length+1≤5:=by
    have k1:=congrArg List.length HNX.out;have k2:=bH (B:=10000) zo 5 n.natAbs (by have:=HN.out;omega);unfold sz at k2;simp only [List.length_append,List.length_cons,List.length_nil] at k1;omega
   have LA:=zh (And.intro hnp hdv);clear hnp hdv
   have hpart:(∃ j:Nat,m= -(j:Int)∧(j:Int)%10000=0)∨(∃ j:Nat,m= -(j:Int)∧0<(j:Int)%10000)∨∃ j:Nat,m=(j:Int)∧¬ (j:Int)%10000<0:=by
    rcases Int.lt_or_gt_of_ne hm0 with hlt|hgt
    ·by_cases hj:m.natAbs%10000=0
     ·exact .inl ⟨m.natAbs,by omega,by omega⟩
     ·exact .inr (.inl ⟨m.natAbs,by omega,by omega⟩)
    ·exact .inr (.inr ⟨m.natAbs,by omega,by omega⟩)
   rcases hpart with ⟨j,rfl,hjm⟩|⟨j,rfl,hjm⟩|⟨j,rfl,hjm⟩
   ·have hM:=HM.out;obtain ⟨k1,k2,k3⟩:=hM;have ej:((-(j:Int))).natAbs=j:=by omega
    rw [ej] at HNX LA
    have ec:Hid (ints s++[.int .i64 0]=ints (s++[j%10000])):=zh (by
     unfold ints;simp only [List.map_append,List.map_cons,List.map_nil];rw [show ((j%10000:Nat):Int)=0 by omega])
    have HK:=zh k3;clear HD k3;go_wp2_with (at_builtin;refine wpList_append_own _ rfl (.tmp 16) (.tmp 18) 159 rfl (w.heap.size+1) 3 i0 (.int .i64 0) 1 8 Tryz.underlying159 hi hz0 hz1 hz2 rfl zd _ _ _ rfl (hown.alloc _) ⟨wr.heap.size,0,none⟩ 1 1 [.int .i64 0] rfl rfl (by intro t u ht;match t,ht with|0,ht=>simp at ht;subst ht;simp [Addr.add]) (by intro u hu;simp at hu;subst hu;rfl) (by unfold maxLen;omega) zo (by have:=hb.size;simp at*; omega) ?_)
    intro v' w1 hown1 hgrow1 _;rw [ec.out] at hown1;have hb3:Below (w.heap.size+1) (w.alloc (.cells #[.bool false,.slice none 0 0] 161)) w1:=(hb.alloc (by have:=hb.size;simpa using this) _).grown hgrow1 (by simp;have:=hb.size;simp at*; omega) (fun k hk=>(hown.lt k hk).1);clear hown hgrow1
    go_wp2
    go_roundw
    case rel=>exact ⟨(-((j:Int) / 10000)),s++[j%10000],rfl,zh (by have:=HK.out;omega),by rw [List.length_append];exact hl5,by rw [List.length_append];exact hown1,zh (by rw [show ((-((j:Int) / 10000))).natAbs=j / 10000 by omega];exact HNX.out),hb3⟩
    case measure=>exact zM
   ·have hM:=HM.out;obtain ⟨k1,k2,k3⟩:=hM;have ej:((-(j:Int))).natAbs=j:=by omega
    rw [ej] at HNX LA
    have ec:Hid (ints s++[.int .i64 ((j:Int)%10000)]=ints (s++[j%10000])):=zh (by
     unfold ints;simp only [List.map_append,List.map_cons,List.map_nil];rw [show ((j%10000:Nat):Int)=((j:Int)%10000) by omega])
    have HK:=zh k3;clear HD k3;go_wp2_with (at_builtin;refine wpList_append_own _ rfl (.tmp 16) (.tmp 18) 159 rfl (w.heap.size+1) 3 i0 (.int .i64 0) 1 8 Tryz.underlying159 hi hz0 hz1 hz2 rfl zd _ _ _ rfl (hown.alloc _) ⟨wr.heap.size,0,none⟩ 1 1 [.int .i64 ((j:Int)%10000)] rfl rfl (by intro t u ht;match t,ht with|0,ht=>simp at ht;subst ht;simp [Addr.add]) (by intro u hu;simp at hu;subst hu;rfl) (by unfold maxLen;omega) zo (by have:=hb.size;simp at*; omega) ?_)
    intro v' w1 hown1 hgrow1 _;rw [ec.out] at hown1;have hb3:Below (w.heap.size+1) (w.alloc (.cells #[.bool false,.slice none 0 0] 161)) w1:=(hb.alloc (by have:=hb.size;simpa using this) _).grown hgrow1 (by simp;have:=hb.size;simp at*; omega) (fun k hk=>(hown.lt k hk).1);clear hown hgrow1
    go_wp2
    go_roundw
    case rel=>exact ⟨(-((j:Int) / 10000)),s++[j%10000],rfl,zh (by have:=HK.out;omega),by rw [List.length_append];exact hl5,by rw [List.length_append];exact hown1,zh (by rw [show ((-((j:Int) / 10000))).natAbs=j / 10000 by omega];exact HNX.out),hb3⟩
    case measure=>exact zM
   ·have hM:=HM.out;obtain ⟨k1,k2,k3⟩:=hM;have ej:((j:Int)).natAbs=j:=by omega
    rw [ej] at HNX LA
    have ec:Hid (ints s++[.int .i64 ((j:Int)%10000)]=ints (s++[j%10000])):=zh (by
     unfold ints;simp only [List.map_append,List.map_cons,List.map_nil];rw [show ((j%10000:Nat):Int)=((j:Int)%10000) by omega])
    have HK:=zh k3;clear HD k3;go_wp2_with (at_builtin;refine wpList_append_own _ rfl (.tmp 16) (.tmp 18) 159 rfl (w.heap.size+1) 3 i0 (.int .i64 0) 1 8 Tryz.underlying159 hi hz0 hz1 hz2 rfl zd _ _ _ rfl (hown.alloc _) ⟨wr.heap.size,0,none⟩ 1 1 [.int .i64 ((j:Int)%10000)] rfl rfl (by intro t u ht;match t,ht with|0,ht=>simp at ht;subst ht;simp [Addr.add]) (by intro u hu;simp at hu;subst hu;rfl) (by unfold maxLen;omega) zo (by have:=hb.size;simp at*; omega) ?_)
    intro v' w1 hown1 hgrow1 _;rw [ec.out] at hown1;have hb3:Below (w.heap.size+1) (w.alloc (.cells #[.bool false,.slice none 0 0] 161)) w1:=(hb.alloc (by have:=hb.size;simpa using this) _).grown hgrow1 (by simp;have:=hb.size;simp at*; omega) (fun k hk=>(hown.lt k hk).1);clear hown hgrow1
    go_wp2
    go_roundw
    case rel=>exact ⟨((j:Int) / 10000),s++[j%10000],rfl,zh (by have:=HK.out;omega),by rw [List.length_append];exact hl5,by rw [List.length_append];exact hown1,zh (by rw [show (((j:Int) / 10000)).natAbs=j / 10000 by omega];exact HNX.out),hb3⟩
    case measure=>exact zM
def Ord (r:Int) (a b:Nat):Prop:=(r≤0↔a≤b)∧(0≤r↔b≤a)
def WA (w:World) (a b:Nat) (e:Ending) (w':World):Prop:=∃ r:Int,e= .returned (.int .i64 r)∧Below w.heap.size w w'∧Ord r a b
theorem Ord.lt {r:Int} {a b:Nat} (h:a<b) (hr:r<0):Ord r a b:=⟨⟨fun _=>by omega,fun _=>by omega⟩,⟨fun _=>by omega,fun _=>by omega⟩⟩
theorem Ord.gt {r:Int} {a b:Nat} (h:b<a) (hr:0<r):Ord r a b:=⟨⟨fun _=>by omega,fun _=>by omega⟩,⟨fun _=>by omega,fun _=>by omega⟩⟩
theorem Ord.eq (a:Nat):Ord 0 a a:=⟨⟨fun _=>by omega,fun _=>by omega⟩,⟨fun _=>by omega,fun _=>by omega⟩⟩
theorem Xl (a b:Option Addr) (m n c d:Nat) (w:World) (h:m≠n) (hm:m≤9223372036854775807) (hn:n≤9223372036854775807) :
  Calls Tryz.prog 299 #[.slice a m c,.slice b n d] w fun e w'=>e= .returned (.int .i64 ((m:Int) - (n:Int)))∧w=w':=by
 have h1:((m:Int) == (n:Int))=false:=by simp;omega
 have h2:((m:Int) != (n:Int))=true:=by simp;omega
 go_enter Tryz.func299,Tryz.ntmps299
 go_wp2
 go_ret
 exact ⟨rfl,rfl⟩
theorem Sy (pa pb:Option Addr) (ca cb:Nat) (l m:List Nat) (w:World) (hlen:l.length=m.length) (hm:l.length≤9223372036854775807) (hl:iM 10000 l) (hmd:iM 10000 m)
   (hc:∀ k,k<l.length→∃ b off,pa=some ⟨b,off,none⟩∧b<w.heap.size∧w.cell? ⟨b,off+k,none⟩=some (.int .i64 (l.getD k 0:Nat)))
   (hd:∀ k,k<m.length→∃ b off,pb=some ⟨b,off,none⟩∧b<w.heap.size∧w.cell? ⟨b,off+k,none⟩=some (.int .i64 (m.getD k 0:Nat))) :
    Calls Tryz.prog 299 #[.slice pa l.length ca,.slice pb m.length cb] w (WA w (val 10000 l) (val 10000 m)):=by
  have HL:=zh hlen;clear hlen;rw [← HL.out];have h1:((l.length:Int) == (l.length:Int))=true:=by simp
  have h2:((l.length:Int) != (l.length:Int))=false:=by simp
  go_enter Tryz.func299,Tryz.ntmps299
  go_wp2
  clear h1 h2
  go_loopw [5] (fun i wr=>∃ q:Int, -1≤q∧q<l.length∧i= .int .i64 q∧l.drop (q+1).toNat=m.drop (q+1).toNat∧Below w.heap.size w wr) (fun i _=>(intOf i+1).toNat)
  case atStart=>exact ⟨(l.length:Int) - 1,by omega,by omega,rfl,by rw [show ((l.length:Int) - 1+1).toNat=l.length by omega,List.drop_length];rw [HL.out,List.drop_length],Below.refl _ _⟩
  case round =>
    obtain ⟨q,hq1,hq2,rfl,hdr,hb⟩:=hrel;have HD:=zh hdr;clear hdr
    by_cases hq:q<0
    · have hq0:q= -1:=by omega
      subst hq0
      go_wp2
      go_ret
      have e:l=m:=by have:=HD.out;simpa using this
      rw [e];exact ⟨0,rfl,hb,Ord.eq _⟩
    · obtain ⟨j,rfl⟩:=Int.eq_ofNat_of_zero_le (by omega:0≤q)
      have hjl:j<l.length:=by omega
      have hjm:j<m.length:=by rw [← HL.out];exact hjl
      obtain ⟨ba,oa,rfl,hba,hx0⟩:=hc j hjl;obtain ⟨bb,ob,rfl,hbb,hy0⟩:=hd j hjm;have hx:wr.cell? ⟨ba,oa+j,none⟩=some (.int .i64 (l.getD j 0:Nat)):=(hb.cell (by exact hba)).trans hx0;have hy:wr.cell? ⟨bb,ob+j,none⟩=some (.int .i64 (m.getD j 0:Nat)):=(hb.cell (by exact hbb)).trans hy0;clear hx0 hy0;have HD2:Hid (l.drop (j+1)=m.drop (j+1)):=by have:=HD.out;rwa [show ((j:Int)+1).toNat=j+1 by omega] at this
      have hlt:Hid (l.getD j 0<m.getD j 0→val 10000 l<val 10000 m):=xw zo hl hjl hjm HD2.out;have hgt:Hid (m.getD j 0<l.getD j 0→val 10000 m<val 10000 l):=xw zo hmd hjm hjl HD2.out.symm;have heq:Hid (l.getD j 0=m.getD j 0→l.drop j=m.drop j):=fun e=>by rw [kP hjl,kP hjm,HD2.out,e]
      have hdx:=hl.getD zo j;have hdy:=hmd.getD zo j;generalize l.getD j 0=x at *;generalize m.getD j 0=y at *;clear HD HD2 hc hd
      by_cases hxy:x=y
      · subst hxy
        have h1:((x:Int) == (x:Int))=true:=by simp
        have h2:((x:Int) != (x:Int))=false:=by simp
        go_wp2
        go_quiet (fail)
        go_wp2
        go_roundw
        case rel=>exact ⟨(j:Int) - 1,by omega,by omega,rfl,by rw [show ((j:Int) - 1+1).toNat=j by omega];exact heq.out trivial,below_drewN hb _⟩
        case measure=>simp [intOf]
      · have h1:((x:Int) == (y:Int))=false:=by simp;omega
        have h2:((x:Int) != (y:Int))=true:=by simp;omega
        go_wp2
        go_quiet (fail)
        have HXY:=zh hxy;have hx9:x<10000:=by have:=hdx;omega
        have hy9:y<10000:=by have:=hdy;omega
        clear hxy
        go_wp2
        go_quiet (fail)
        go_wp2
        go_ret
        refine ⟨(x:Int) - (y:Int),rfl,below_drewN (below_drewN hb _) _,?_⟩;have:=HXY.out
        rcases Nat.lt_or_gt_of_ne HXY.out with h|h
        · exact Ord.lt (hlt.out h) zo
        · exact Ord.gt (hgt.out h) zo
theorem Gz (x y:Value) (a b:Nat) (w:World) (hx:Nm w x a) (hy:Nm w y b) :
  Calls Tryz.prog 299 #[x,y] w (WA w a b):=by
 by_cases hs:sz 10000 a=sz 10000 b
 ·obtain ⟨pa,ca,rfl,h1,h2,h3⟩:=Gs.read hx.gs;obtain ⟨pb,cb,rfl,k1,k2,k3⟩:=Gs.read hy.gs;have:=Sy pa pb ca cb _ _ w hs zo (bg zo a) (bg zo b) h3 k3
  rwa [aR zo,aR zo] at this
 ·obtain ⟨pa,ca,rfl,h1,h2, -⟩:=hx.read;obtain ⟨pb,cb,rfl,k1,k2, -⟩:=hy.read;refine (Xl pa pb _ _ ca cb w hs zo zo).mono ?_;rintro e w' ⟨rfl,rfl⟩;refine ⟨_,rfl,Below.refl _ _,?_⟩
  rcases Nat.lt_or_gt_of_ne hs with h|h
  ·exact Ord.lt (wL zo h) zo
  ·exact Ord.gt (wL zo h) zo
theorem Xm (pl:Option Addr) (cl:Nat) (l:List Nat) (d:Nat) (w:World) (hl:iM 10000 l) (hb1:l.length≤1099511627776) (hd0:0<d) (hd1:d≤10000)
   (hc:∀ k,k<l.length→∃ b off,pl=some ⟨b,off,none⟩∧b<w.heap.size∧w.cell? ⟨b,off+k,none⟩=some (.int .i64 (l.getD k 0:Nat))) :
    Calls Tryz.prog 298 #[.slice pl l.length cl,.int .i64 d] w fun e w'=>∃ v,e= .returned (.tuple #[v,.int .i64 (val 10000 l%d:Nat)])∧Below w.heap.size w w'∧Nm w' v (val 10000 l / d):=by
  obtain ⟨i0,hi,hz0,hz1,hz2⟩:=info_parts CJ;go_enter Tryz.func298,Tryz.ntmps298
  go_wp2_with (at_make;refine wpList_make_full _ rfl _ _ 159 rfl w.heap.size 3 i0 (.int .i64 0) 1 Tryz.underlying159 hi hz0 hz1 _ _ _ _ l.length rfl rfl zo zo (by rw [hz2];omega) (by unfold maxLen;omega) (Nat.le_refl _) ?_)
  intro w0 hown0 nD;rw [Bv] at hown0
  go_wp2
  go_loopw [7,8] (fun rv iv wr=>∃ (q:Int) (r:Nat) (s:List Nat), -1≤q∧q<l.length∧r<d∧iv= .int .i64 q∧rv= .int .i64 r∧Hid (s.length=l.length - (q+1).toNat) ∧
      wr.ownsRow w.heap.size 3 1 (.slice (some ⟨w.heap.size,0,none⟩) l.length l.length) l.length (ints (List.replicate (q+1).toNat 0++s))∧iM 10000 s∧Hid (val 10000 (l.drop (q+1).toNat)=d*val 10000 s+r)∧Below w.heap.size w wr)
    (fun _ iv _=>(intOf iv+1).toNat)
  case atStart =>
    have e:((l.length:Int) - 1+1).toNat=l.length:=by omega
    exact ⟨(l.length:Int) - 1,0,[],by omega,by omega,hd0,rfl,rfl,zh (by rw [e];simp),by rw [e,List.append_nil];exact hown0,iM.nil,zh (by rw [e,List.drop_length];simp [val]),(Below.refl _ _).grown nD (Nat.le_refl _) (fun k h=>by cases h)⟩
  case round =>
    obtain ⟨q,r,s,hq1,hq2,hrd,rfl,rfl,HS,hown,hds,HV,hb⟩:=hrel
    by_cases hq:q<0
    · have hq0:q= -1:=by omega
      subst hq0;have HF:Hid (val 10000 l=d*val 10000 s+r):=zh (by have:=HV.out;simpa using this);have hown3:Gs wr (.slice (some ⟨w.heap.size,0,none⟩) l.length l.length) s:=by have:=Gs.jP hown;simpa using this
      have e1:Hid (val 10000 l / d=val 10000 s):=by unfold Hid;rw [HF.out,Nat.mul_add_div hd0,Nat.div_eq_of_lt hrd,Nat.add_zero]
      have e2:Hid (val 10000 l%d=r):=by unfold Hid;rw [HF.out,Nat.mul_add_mod,Nat.mod_eq_of_lt hrd]
      clear hown HV HF HS hc;go_wp2_with (go_at_call 297;refine (yY _ _ _ hown3 hds).mono ?_;rintro e w' ⟨v,rfl,rfl,hv⟩)
      go_ret2
      exact ⟨v,by rw [e2.out];rfl,hb,by rw [e1.out];exact hv⟩
    · obtain ⟨j,rfl⟩:=Int.eq_ofNat_of_zero_le (by omega:0≤q)
      have ej:((j:Int)+1).toNat=j+1:=by omega
      have hjl:j<l.length:=by omega
      rw [ej] at HS HV hown;obtain ⟨b,off,rfl,hbb,hx0⟩:=hc j hjl;have hx:wr.cell? ⟨b,off+j,none⟩=some (.int .i64 (l.getD j 0:Nat)):=(hb.cell (by exact hbb)).trans hx0;have hdl:l.getD j 0<10000:=hl.getD zo j;have hlen:(List.replicate (j+1) 0++s).length=l.length:=by rw [List.length_append,List.length_replicate,HS.out];omega
      have hr1:wr.cell? ⟨w.heap.size,j,none⟩=some (.int .i64 0):=by
        rw [hown.cellAt j zo,uR (by rw [hlen];exact hjl),xC zo];rfl
      have hr2:wr.frozen? ⟨w.heap.size,j,none⟩=false:=hown.frozenAt j;have HP:=zh (Gj hjl HV.out);have hdg:=Ct hrd hdl;have hmd:=Nat.mod_lt (r*10000+l.getD j 0) hd0
      have HO:Hid (∀ d:Nat,(wr.setCell ⟨w.heap.size,j,none⟩ (.int .i64 (d:Int))).ownsRow w.heap.size 3 1 (.slice (some ⟨w.heap.size,0,none⟩) l.length l.length) l.length (ints (List.replicate j 0++d::s))∧Below w.heap.size w (wr.setCell ⟨w.heap.size,j,none⟩ (.int .i64 (d:Int)))):=fun d=>by
        have h1:=(hown.stored j (.int .i64 (d:Int))).1;rw [ints_set,zG] at h1;exact ⟨h1,hb.setCell (Nat.le_refl _) _⟩
      clear hx0 hc hown hlen;generalize l.getD j 0=x at *;have hqi:(((r*10000+x) / d:Nat):Int)=((r:Int)*10000+(x:Int)) / (d:Int):=by rw [Int.natCast_ediv,Int.natCast_add,Int.natCast_mul];rfl
      have hmi:(((r*10000+x)%d:Nat):Int)=((r:Int)*10000+(x:Int))%(d:Int):=by rw [Int.natCast_emod,Int.natCast_add,Int.natCast_mul];rfl
      generalize (r*10000+x) / d=Q at *;generalize (r*10000+x)%d=M at *;have g1:0≤((r:Int)*10000+(x:Int)) / (d:Int):=by rw [← hqi];omega
      have g2:((r:Int)*10000+(x:Int)) / (d:Int)≤9999:=by rw [← hqi];omega
      have g3:0≤((r:Int)*10000+(x:Int))%(d:Int):=by rw [← hmi];omega
      have g4:((r:Int)*10000+(x:Int))%(d:Int)≤9999:=by rw [← hmi];omega
      have sQ:=HO.out Q;rw [hqi] at sQ;have tH:=zh sQ;have HM:=zh hmi;have HG:=zh hdg;have HM2:=zh hmd;clear sQ HO hqi hmi hdg hmd
      go_wp2
      go_roundw
      case rel=>exact ⟨(j:Int) - 1,M,Q::s,by omega,by omega,HM2.out,rfl,by rw [HM.out],zh (by rw [List.length_cons,HS.out];omega),by rw [show ((j:Int) - 1+1).toNat=j by omega];exact tH.out.1,hds.cons HG.out,zh (by rw [show ((j:Int) - 1+1).toNat=j by omega];exact HP.out),tH.out.2⟩
      case measure=>simp [intOf]
theorem am8 (x:Value) (a d:Nat) (w:World) (hx:Nm w x a) (ha:sz 10000 a≤1099511627776) (hd0:0<d) (hd1:d≤10000) :
  Calls Tryz.prog 298 #[x,.int .i64 d] w fun e w'=>∃ v,e= .returned (.tuple #[v,.int .i64 (a%d:Nat)])∧Below w.heap.size w w'∧Nm w' v (a / d):=by
 obtain ⟨pa,ca,rfl,h1,h2,h3⟩:=Gs.read hx.gs;have:=Xm pa ca _ d w (bg zo a) ha hd0 hd1 h3
 rwa [aR zo] at this
def Okm (m:List Nat):Prop:=iM 10000 m∨(m.length=1∧∀ d∈m,d≤10000)
theorem Okm.le {m:List Nat} (h:Okm m) {j:Nat} (hj:j<m.length):m.getD j 0≤10000:=by
 have e:m.getD j 0=m[j]:=by simp [hj]
 rw [e]
 rcases h with h|h
 ·exact Nat.le_of_lt (h _ (List.getElem_mem hj))
 ·exact h.2 _ (List.getElem_mem hj)
theorem Okm.carry {m:List Nat} (h:Okm m) {j c z x:Nat} (hj:j<m.length) (hc:c<10000) (hc0:j=0→c=0) (hz:z<10000) (hx:x<10000):(c+(z+x*m.getD j 0)) / 10000<10000:=by
 rcases h with h|h
 ·exact Cr hc hz hx (h.getD zo j)
 ·have h1:m.getD j 0≤10000:=Okm.le (.inr h) hj;have h2:c=0:=hc0 zo;subst h2;have h3:x*m.getD j 0≤9999*10000:=Nat.mul_le_mul zo h1;generalize x*m.getD j 0=p at *;omega
theorem Zt {x y:Nat} (hx:x<10000) (hy:y≤10000):(0:Int)≤(x:Int)*(y:Int)∧(x:Int)*(y:Int)≤99990000:=by
 have h:x*y≤9999*10000:=Nat.mul_le_mul zo zo;rw [← Int.natCast_mul];omega
theorem zL (pl ps:Option Addr) (cl cs:Nat) (l m:List Nat) (w:World) (hl:iM 10000 l) (hmd:Okm m) (hb1:l.length≤1099511627776) (hb2:m.length≤1099511627776)
   (hc:∀ k,k<l.length→∃ b off,pl=some ⟨b,off,none⟩∧b<w.heap.size∧w.cell? ⟨b,off+k,none⟩=some (.int .i64 (l.getD k 0:Nat)))
   (hd:∀ k,k<m.length→∃ b off,ps=some ⟨b,off,none⟩∧b<w.heap.size∧w.cell? ⟨b,off+k,none⟩=some (.int .i64 (m.getD k 0:Nat))) :
    Calls Tryz.prog 263 #[.slice pl l.length cl,.slice ps m.length cs] w fun e w'=>∃ v,e= .returned v∧Below w.heap.size w w'∧Nm w' v (val 10000 l*val 10000 m):=by
  obtain ⟨i0,hi,hz0,hz1,hz2⟩:=info_parts CJ;go_enter Tryz.func263,Tryz.ntmps263
  go_wp2_with (at_make;refine wpList_make_full _ rfl _ _ 159 rfl w.heap.size 3 i0 (.int .i64 0) 1 Tryz.underlying159 hi hz0 hz1 _ _ _ _ (l.length+m.length) rfl rfl zo zo (by rw [hz2];omega) (by unfold maxLen;omega) (Nat.le_refl _) ?_)
  intro w0 hown0 nD;rw [Bv] at hown0
  go_wp2
  go_loopw [6,7,8] (fun iv _ _ wr=>∃ (i:Nat) (p:List Nat),i≤l.length∧iv= .int .i64 i∧Hid (p.length=l.length+m.length)∧(∀ t,i+m.length≤t→p.getD t 0=0) ∧
      wr.ownsRow w.heap.size 3 1 (.slice (some ⟨w.heap.size,0,none⟩) (l.length+m.length) (l.length+m.length)) (l.length+m.length) (ints p)∧iM 10000 p∧Hid (val 10000 p=val 10000 (l.take i)*val 10000 m)∧Below w.heap.size w wr)
    (fun iv _ _ _=>l.length - (intOf iv).toNat)
  case atStart=>exact ⟨0,List.replicate (l.length+m.length) 0,Nat.zero_le _,rfl,zh zi,fun t _=>by simp [List.getD,List.getElem?_replicate];split<;>rfl,hown0,fun x hx=>by rw [List.eq_of_mem_replicate hx];omega,zh (by rw [xu];simp [val]),(Below.refl _ _).grown nD (Nat.le_refl _) (fun k h=>by cases h)⟩
  case round =>
    obtain ⟨i,p,hil,rfl,HL,hz,hown,hdp,HV,hb⟩:=hrel;have HZ:=zh hz;clear hz
    by_cases hlt:i<l.length
    · obtain ⟨b,off,rfl,hbb,hx0⟩:=hc i hlt
      have hx:wr.cell? ⟨b,off+i,none⟩=some (.int .i64 (l.getD i 0:Nat)):=(hb.cell (by exact hbb)).trans hx0;have hdl:l.getD i 0<10000:=hl.getD zo i;have HX0:=zh hx0;clear hx0 hc;have HD:Hid (l.getD i 0=l.getD i 0):=rfl
      revert HD
      generalize hx9:l.getD i 0=x at hx hdl HX0;have HX:=zh hx9;clear hx9;intro _;obtain ⟨wo,rfl⟩:∃ wo:World,wo=wr:=⟨_,rfl⟩
      go_wp2
      go_loopw [7,8] (fun cv jv wq=>∃ (j c:Nat) (q:List Nat),j≤m.length∧c<10000∧Hid (j=0→c=0)∧jv= .int .i64 j∧cv= .int .i64 c∧Hid (q.length=l.length+m.length)∧Hid (∀ t,i+m.length≤t→q.getD t 0=0) ∧
          wq.ownsRow w.heap.size 3 1 (.slice (some ⟨w.heap.size,0,none⟩) (l.length+m.length) (l.length+m.length)) (l.length+m.length) (ints q)∧iM 10000 q∧Hid (val 10000 q+c*10000^(i+j)=val 10000 (l.take i)*val 10000 m+10000^i*(x*val 10000 (m.take j)))∧Below w.heap.size w wq)
        (fun _ jv _=>m.length - (intOf jv).toNat)
      case atStart=>exact ⟨0,0,p,Nat.zero_le _,by omega,zh (fun _=>rfl),rfl,rfl,HL,HZ,hown,hdp,zh (by rw [HV.out];simp [val]),hb⟩
      case round =>
        obtain ⟨j,c,q,hjl,hcb,HC0,rfl,rfl,Yp,Ym,hown,Ou,HVq,hb⟩:=hrel
        by_cases hjlt:j<m.length
        · obtain ⟨b2,off2,rfl,Np,hy0⟩:=hd j hjlt
          have hy:wr.cell? ⟨b2,off2+j,none⟩=some (.int .i64 (m.getD j 0:Nat)):=(hb.cell (by exact Np)).trans hy0;have hxi:wr.cell? ⟨b,off+i,none⟩=some (.int .i64 (x:Int)):=(hb.cell (by exact hbb)).trans HX0.out;have Xy:m.getD j 0≤10000:=hmd.le hjlt;have hij:i+j<q.length:=by have:=Yp.out;omega
          obtain ⟨t,ht⟩:∃ t,i+j=t:=⟨_,rfl⟩;have ej:(i:Int)+(j:Int)=(t:Int):=by omega
          have ht3:(t:Int)<(l.length:Int)+(m.length:Int):=by omega
          have ht4:t<l.length+m.length:=by omega
          have hwt:IntKind.i64.wrap (t:Int)=(t:Int):=by rw [IntKind.wrap_i64];omega
          have hq1:wr.cell? ⟨w.heap.size,t,none⟩=some (.int .i64 (q.getD (i+j) 0:Nat)):=by rw [← ht,hown.cellAt (i+j) zo,uR hij]
          have hq2:wr.frozen? ⟨w.heap.size,t,none⟩=false:=hown.frozenAt t;have aD1:q.getD (i+j) 0<10000:=Ou.getD zo (i+j);have HS:=zh (Gf hjlt hij HVq.out);have HC:=zh (hmd.carry hjlt hcb HC0.out aD1 hdl)
          have HO:Hid (∀ d:Nat,d<10000→(wr.setCell ⟨w.heap.size,t,none⟩ (.int .i64 (d:Int))).ownsRow w.heap.size 3 1 (.slice (some ⟨w.heap.size,0,none⟩) (l.length+m.length) (l.length+m.length)) (l.length+m.length) (ints (q.set (i+j) d)) ∧
              Below w.heap.size w (wr.setCell ⟨w.heap.size,t,none⟩ (.int .i64 (d:Int)))∧iM 10000 (q.set (i+j) d)∧(q.set (i+j) d).length=l.length+m.length∧(∀ t,i+m.length≤t→(q.set (i+j) d).getD t 0=0)):=fun d hd=>by
            have h1:=(hown.stored t (.int .i64 (d:Int))).1;rw [ints_set] at h1;rw [ht];exact ⟨h1,hb.setCell (Nat.le_refl _) _,Ou.set _ hd,by rw [List.length_set];exact Yp.out,fun s hs=>by rw [DU zo];exact Ym.out s hs⟩
          clear hy0 hd hown HVq Ou Yp Ym hij ht;generalize m.getD j 0=y at *;generalize q.getD (i+j) 0=z at *;obtain ⟨hp1,hp2⟩:=Zt hdl Xy;have hr:((((c+(z+x*y))%10000:Nat)):Int)=((c:Int)+(z:Int)+(x:Int)*(y:Int))%10000:=by rw [Int.natCast_emod,Int.natCast_add,Int.natCast_add,Int.natCast_mul,Int.add_assoc];rfl
          have hq:((((c+(z+x*y)) / 10000:Nat)):Int)=((c:Int)+(z:Int)+(x:Int)*(y:Int)) / 10000:=by rw [Int.natCast_ediv,Int.natCast_add,Int.natCast_add,Int.natCast_mul,Int.add_assoc];rfl
          have sQ:=HO.out _ (Nat.mod_lt (c+(z+x*y)) zo);rw [hr] at sQ;have tH:=zh sQ;have HR:=zh hq;clear HO sQ hr hq;have bN7:IntKind.i64.wrap ((i:Int)+(j:Int))=(i:Int)+(j:Int):=by rw [IntKind.wrap_i64];omega
          have bO2:(i:Int)+(j:Int)<((l.length+m.length:Nat):Int):=by omega
          go_wp2
          go_quiet (fail)
          go_wp2
          go_roundw
          case rel=>exact ⟨j+1,(c+(z+x*y)) / 10000,q.set (i+j) ((c+(z+x*y))%10000),by omega,HC.out,zh (fun h=>absurd h zo),by go_num,by rw [HR.out],zh tH.out.2.2.2.1,zh tH.out.2.2.2.2,tH.out.1,tH.out.2.2.1,zh (by rw [← Nat.add_assoc i j 1];exact HS.out),⟨tH.out.2.1.os,tH.out.2.1.tape,tH.out.2.1.output,tH.out.2.1.size,tH.out.2.1.block⟩⟩
          case measure=>exact zM
        · have hjm:j=m.length:=by omega
          subst hjm;have hij:i+m.length<q.length:=by have:=Yp.out;omega
          have hq1:wr.cell? ⟨w.heap.size,i+m.length,none⟩=some (.int .i64 0):=by rw [hown.cellAt (i+m.length) zo,uR hij,Ym.out _ (Nat.le_refl _)];rfl
          have hq2:wr.frozen? ⟨w.heap.size,i+m.length,none⟩=false:=hown.frozenAt (i+m.length)
          have HF:Hid (val 10000 (q.set (i+m.length) c)=val 10000 (l.take (i+1))*val 10000 m) :=
            Co hlt hij (Ym.out _ (Nat.le_refl _)) (by have:=HVq.out;rw [List.take_length] at this;rw [HX.out];exact this)
          have HO:Hid ((wr.setCell ⟨w.heap.size,i+m.length,none⟩ (.int .i64 (c:Int))).ownsRow w.heap.size 3 1 (.slice (some ⟨w.heap.size,0,none⟩) (l.length+m.length) (l.length+m.length)) (l.length+m.length) (ints (q.set (i+m.length) c)) ∧
              Below w.heap.size w (wr.setCell ⟨w.heap.size,i+m.length,none⟩ (.int .i64 (c:Int)))∧iM 10000 (q.set (i+m.length) c)∧(q.set (i+m.length) c).length=l.length+m.length∧(∀ t,i+1+m.length≤t→(q.set (i+m.length) c).getD t 0=0)):=by
            have h1:=(hown.stored (i+m.length) (.int .i64 (c:Int))).1;rw [ints_set] at h1;exact ⟨h1,hb.setCell (Nat.le_refl _) _,Ou.set _ hcb,by rw [List.length_set];exact Yp.out,fun t ht=>by rw [DU zo];exact Ym.out t zo⟩
          clear hown HVq Ou Yp Ym hij hd
          go_wp2
          go_roundw
          case rel=>exact ⟨i+1,q.set (i+m.length) c,by omega,by go_num,zh HO.out.2.2.2.1,HO.out.2.2.2.2,HO.out.1,HO.out.2.2.1,HF,HO.out.2.1⟩
          case measure=>exact zM
    · have aC8:i=l.length:=by omega
      subst aC8;clear hc hd;have HF:Hid (val 10000 p=val 10000 l*val 10000 m):=by have:=HV.out;rwa [List.take_length] at this
      have hown3:Gs wr (.slice (some ⟨w.heap.size,0,none⟩) (l.length+m.length) (l.length+m.length)) p:=Gs.jP hown;clear hown HV;go_wp2_with (go_at_call 297;refine (yY _ _ _ hown3 hdp).mono ?_;rintro e w' ⟨v,rfl,rfl,hv⟩)
      go_ret
      exact ⟨v,rfl,hb,by rw [← HF.out];exact hv⟩
theorem Gt (x y:Value) (a b:Nat) (w:World) (hx:Nm w x a) (hy:Nm w y b) (ha:sz 10000 a≤1099511627776) (hb:sz 10000 b≤1099511627776) :
  Calls Tryz.prog 263 #[x,y] w fun e w'=>∃ v,e= .returned v∧Below w.heap.size w w'∧Nm w' v (a*b):=by
 obtain ⟨pa,ca,rfl,h1,h2,h3⟩:=Gs.read hx.gs;obtain ⟨pb,cb,rfl,k1,k2,k3⟩:=Gs.read hy.gs;have:=zL pa pb ca cb _ _ w (bg zo a) (.inl (bg zo b)) ha hb h3 k3
 rwa [aR zo,aR zo] at this
theorem Dr (pl ps:Option Addr) (cl cs:Nat) (l m:List Nat) (w:World) (hl:iM 10000 l) (hmd:iM 10000 m) (hb1:l.length≤1099511627776) (hml:m.length≤l.length) (hle:val 10000 m≤val 10000 l)
   (hc:∀ k,k<l.length→∃ b off,pl=some ⟨b,off,none⟩∧b<w.heap.size∧w.cell? ⟨b,off+k,none⟩=some (.int .i64 (l.getD k 0:Nat)))
   (hd:∀ k,k<m.length→∃ b off,ps=some ⟨b,off,none⟩∧b<w.heap.size∧w.cell? ⟨b,off+k,none⟩=some (.int .i64 (m.getD k 0:Nat))) :
    Calls Tryz.prog 300 #[.slice pl l.length cl,.slice ps m.length cs] w fun e w'=>∃ v,e= .returned v∧Below w.heap.size w w'∧Nm w' v (val 10000 l - val 10000 m):=by
  obtain ⟨i0,hi,hz0,hz1,hz2⟩:=info_parts CJ;have HLE:=zh hle;clear hle;go_enter Tryz.func300,Tryz.ntmps300
  go_wp2
  go_loopw [5,6,7,8] (fun ov cv kv _ wr=>∃ (k c:Nat) (s:List Nat),k≤l.length∧c≤1∧Hid (s.length=k)∧kv= .int .i64 k∧cv= .int .i64 c ∧
      wr.ownsRow w.heap.size 3 1 ov k (ints s)∧iM 10000 s∧Hid (val 10000 s+val 10000 (m.take k)=val 10000 (l.take k)+c*10000^k)∧Below w.heap.size w wr)
    (fun _ _ kv _ _=>l.length - (intOf kv).toNat)
  case atStart=>exact ⟨0,0,[],Nat.zero_le _,by omega,rfl,rfl,rfl,World.ownsRow_nil _ _ _ _,iM.nil,(by simp [val]:val _ _+val _ _=val _ _+0*_),Below.refl _ _⟩
  case round =>
    obtain ⟨k,c,s,hk,hc1,HS,rfl,rfl,hown,hds,HV,hb⟩:=hrel
    by_cases hkl:k<l.length
    · obtain ⟨b,off,rfl,hbb,hx0⟩:=hc k hkl
      have hx:wr.cell? ⟨b,off+k,none⟩=some (.int .i64 (l.getD k 0:Nat)):=(hb.cell (by exact hbb)).trans hx0;have hdl:l.getD k 0<10000:=hl.getD zo k
      have HP:Hid (∀ d c',d+m.getD k 0+c=l.getD k 0+c'*10000→val 10000 (s++[d])+val 10000 (m.take (k+1))=val 10000 (l.take (k+1))+c'*10000^(k+1)) :=
        fun d c' h=>GR hkl HS.out HV.out h
      have ec:∀ (d:Nat) (z:Int),(d:Int)=z→ints s++[.int .i64 z]=ints (s++[d]):=fun d z e=>by
        unfold ints;simp only [List.map_append,List.map_cons,List.map_nil];rw [e]
      have EC:=zh ec;clear hx0 hc ec
      by_cases hkm:k<m.length
      · obtain ⟨b2,off2,rfl,Np,hy0⟩:=hd k hkm
        have hy:wr.cell? ⟨b2,off2+k,none⟩=some (.int .i64 (m.getD k 0:Nat)):=(hb.cell (by exact Np)).trans hy0;have Xy:m.getD k 0<10000:=hmd.getD zo k;clear hy0 hd;generalize l.getD k 0=x at *;generalize m.getD k 0=y at *
        by_cases hge:x<c+y
        · have hneg:(x:Int) - (c:Int) - (y:Int)<0:=by omega
          have e:=EC.out (x+10000 - (c+y)) ((x:Int) - (c:Int) - (y:Int)+10000) zo;have UJ:=zh e;have HG:=zh hge;clear hge e EC;go_wp2_with (at_builtin;refine wpList_append_own _ rfl (.tmp 35) (.tmp 37) 159 rfl w.heap.size 3 i0 (.int .i64 0) 1 8 Tryz.underlying159 hi hz0 hz1 hz2 rfl zd _ _ _ rfl (hown.alloc _) ⟨wr.heap.size,0,none⟩ 1 1 [.int .i64 ((x:Int) - (c:Int) - (y:Int)+10000)] rfl rfl (by intro t u ht;match t,ht with|0,ht=>simp at ht;subst ht;simp [Addr.add]) (by intro u hu;simp at hu;subst hu;rfl) (by unfold maxLen;omega) zo (by have:=hb.size;simp;omega) ?_)
          intro v' w1 hown1 hgrow1 _;rw [UJ.out] at hown1;have hb3:Below w.heap.size w w1:=(hb.alloc hb.size _).grown hgrow1 (by simp;have:=hb.size;omega) (fun k hk=>(hown.lt k hk).1);clear hown hgrow1
          go_wp2
          go_roundw
          case rel=>exact ⟨k+1,1,s++[(x+10000 - (c+y))],by omega,by omega,zh (by rw [List.length_append,HS.out];rfl),by go_num,rfl,hown1,hds.snoc (by have:=HG.out;omega),HP.out _ _ (by have:=HG.out;omega),hb3⟩
          case measure=>exact zM
        by_cases hge:¬ x<c+y
        · have hneg:¬ (x:Int) - (c:Int) - (y:Int)<0:=by omega
          have e:=EC.out (x - (c+y)) ((x:Int) - (c:Int) - (y:Int)) zo;have UJ:=zh e;have HG:=zh hge;clear hge e EC;go_wp2_with (at_builtin;refine wpList_append_own _ rfl (.tmp 35) (.tmp 37) 159 rfl w.heap.size 3 i0 (.int .i64 0) 1 8 Tryz.underlying159 hi hz0 hz1 hz2 rfl zd _ _ _ rfl (hown.alloc _) ⟨wr.heap.size,0,none⟩ 1 1 [.int .i64 ((x:Int) - (c:Int) - (y:Int))] rfl rfl (by intro t u ht;match t,ht with|0,ht=>simp at ht;subst ht;simp [Addr.add]) (by intro u hu;simp at hu;subst hu;rfl) (by unfold maxLen;omega) zo (by have:=hb.size;simp;omega) ?_)
          intro v' w1 hown1 hgrow1 _;rw [UJ.out] at hown1;have hb3:Below w.heap.size w w1:=(hb.alloc hb.size _).grown hgrow1 (by simp;have:=hb.size;omega) (fun k hk=>(hown.lt k hk).1);clear hown hgrow1
          go_wp2
          go_roundw
          case rel=>exact ⟨k+1,0,s++[(x - (c+y))],by omega,by omega,zh (by rw [List.length_append,HS.out];rfl),by go_num,rfl,hown1,hds.snoc (by have:=HG.out;omega),HP.out _ _ (by have:=HG.out;omega),hb3⟩
          case measure=>exact zM
        exact absurd ‹¬ x<c+y› ‹¬ ¬ x<c+y›
      · have hm0:m.getD k 0=0:=by simp [Nat.le_of_not_lt hkm]
        rw [hm0] at HP;clear hm0 hd;generalize l.getD k 0=x at *
        by_cases hge:x<c
        · have hneg:(x:Int) - (c:Int)<0:=by omega
          have e:=EC.out (x+10000 - c) ((x:Int) - (c:Int)+10000) zo;have UJ:=zh e;have HG:=zh hge;clear hge e EC;go_wp2_with (at_builtin;refine wpList_append_own _ rfl (.tmp 35) (.tmp 37) 159 rfl w.heap.size 3 i0 (.int .i64 0) 1 8 Tryz.underlying159 hi hz0 hz1 hz2 rfl zd _ _ _ rfl (hown.alloc _) ⟨wr.heap.size,0,none⟩ 1 1 [.int .i64 ((x:Int) - (c:Int)+10000)] rfl rfl (by intro t u ht;match t,ht with|0,ht=>simp at ht;subst ht;simp [Addr.add]) (by intro u hu;simp at hu;subst hu;rfl) (by unfold maxLen;omega) zo (by have:=hb.size;simp;omega) ?_)
          intro v' w1 hown1 hgrow1 _;rw [UJ.out] at hown1;have hb3:Below w.heap.size w w1:=(hb.alloc hb.size _).grown hgrow1 (by simp;have:=hb.size;omega) (fun k hk=>(hown.lt k hk).1);clear hown hgrow1
          go_wp2
          go_roundw
          case rel=>exact ⟨k+1,1,s++[(x+10000 - c)],by omega,by omega,zh (by rw [List.length_append,HS.out];rfl),by go_num,rfl,hown1,hds.snoc (by have:=HG.out;omega),HP.out _ _ (by have:=HG.out;omega),hb3⟩
          case measure=>exact zM
        by_cases hge:¬ x<c
        · have hneg:¬ (x:Int) - (c:Int)<0:=by omega
          have e:=EC.out (x - c) ((x:Int) - (c:Int)) zo;have UJ:=zh e;have HG:=zh hge;clear hge e EC;go_wp2_with (at_builtin;refine wpList_append_own _ rfl (.tmp 35) (.tmp 37) 159 rfl w.heap.size 3 i0 (.int .i64 0) 1 8 Tryz.underlying159 hi hz0 hz1 hz2 rfl zd _ _ _ rfl (hown.alloc _) ⟨wr.heap.size,0,none⟩ 1 1 [.int .i64 ((x:Int) - (c:Int))] rfl rfl (by intro t u ht;match t,ht with|0,ht=>simp at ht;subst ht;simp [Addr.add]) (by intro u hu;simp at hu;subst hu;rfl) (by unfold maxLen;omega) zo (by have:=hb.size;simp;omega) ?_)
          intro v' w1 hown1 hgrow1 _;rw [UJ.out] at hown1;have hb3:Below w.heap.size w w1:=(hb.alloc hb.size _).grown hgrow1 (by simp;have:=hb.size;omega) (fun k hk=>(hown.lt k hk).1);clear hown hgrow1
          go_wp2
          go_roundw
          case rel=>exact ⟨k+1,0,s++[(x - c)],by omega,by omega,zh (by rw [List.length_append,HS.out];rfl),by go_num,rfl,hown1,hds.snoc (by have:=HG.out;omega),HP.out _ _ (by have:=HG.out;omega),hb3⟩
          case measure=>exact zM
        exact absurd ‹¬ x<c› ‹¬ ¬ x<c›
    · have hkk:k=l.length:=by omega
      subst hkk;clear hc hd
      have Rp:val 10000 s+val 10000 m=val 10000 l+c*10000^l.length:=by
        have:=HV.out;rwa [List.take_length,List.take_of_length_le hml] at this
      have hvs:val 10000 s<10000^l.length:=by have:=jL zo hds;rwa [HS.out] at this
      have hc0:c=0:=by
        rcases Nat.eq_zero_or_pos c with h|h
        · exact h
        · exfalso
          have:c=1:=by omega
          subst this;have:=HLE.out;omega
      have HF:Hid (val 10000 s=val 10000 l - val 10000 m):=by subst hc0;unfold Hid;omega
      clear HV Rp hvs HLE;have hown3:Gs wr u5 s:=Gs.jP hown;obtain ⟨pa,ca,rfl, -⟩:=hown3.read;clear hown;go_wp2_with (go_at_call 297;refine (yY _ _ _ hown3 hds).mono ?_;rintro e w' ⟨v,rfl,rfl,hv⟩)
      go_ret
      exact ⟨v,rfl,hb,by rw [← HF.out];exact hv⟩
theorem JV (x y:Value) (a b:Nat) (w:World) (hx:Nm w x a) (hy:Nm w y b) (ha:sz 10000 a≤1099511627776) (hle:b≤a) :
  Calls Tryz.prog 300 #[x,y] w fun e w'=>∃ v,e= .returned v∧Below w.heap.size w w'∧Nm w' v (a - b):=by
 obtain ⟨pa,ca,rfl,h1,h2,h3⟩:=Gs.read hx.gs;obtain ⟨pb,cb,rfl,k1,k2,k3⟩:=Gs.read hy.gs;have:=Dr pa pb ca cb _ _ w (bg zo a) (bg zo b) ha (jO zo hle) (by rw [aR zo,aR zo];exact hle) h3 k3
 rwa [aR zo,aR zo] at this
theorem OE (B:Nat) (l:List Nat) (k:Nat):val B (l.take (k+1))=val B (l.take k)+B^k*l.getD k 0:=by
 by_cases h:k<l.length
 ·exact dh B h
 ·rw [List.take_of_length_le zo,List.take_of_length_le zo];simp [Nat.le_of_not_lt h]
theorem YZ {B:Nat} {l m s:List Nat} {k c d c':Nat} (hs:s.length=k) (he:val B s+c*B^k=val B (l.take k)+val B (m.take k)) (h:d+c'*B=c+l.getD k 0+m.getD k 0) :
  val B (s++[d])+c'*B^(k+1)=val B (l.take (k+1))+val B (m.take (k+1)):=by
 rw [mW,OE,OE,hs,Nat.pow_succ];have h2:=congrArg (B^k* ·) h;simp only [Nat.mul_add] at h2;rw [show c'*(B^k*B)=B^k*(c'*B) by rw [Nat.mul_left_comm]];rw [Nat.mul_comm c (B^k)] at he;omega
def Wy (w:World) (n:Nat) (e:Ending) (w':World):Prop:=∃ v s,e= .returned v∧Below w.heap.size w w'∧Gs w' v s∧iM 10000 s∧val 10000 s=n
theorem YX (pl ps:Option Addr) (cl cs:Nat) (l m:List Nat) (w:World) (hl:iM 10000 l) (hmd:iM 10000 m) (hb1:l.length≤549755813888) (hb2:m.length≤549755813888)
   (hc:∀ k,k<l.length→∃ b off,pl=some ⟨b,off,none⟩∧b<w.heap.size∧w.cell? ⟨b,off+k,none⟩=some (.int .i64 (l.getD k 0:Nat)))
   (hd:∀ k,k<m.length→∃ b off,ps=some ⟨b,off,none⟩∧b<w.heap.size∧w.cell? ⟨b,off+k,none⟩=some (.int .i64 (m.getD k 0:Nat))) :
    Calls Tryz.prog 318 #[.slice pl l.length cl,.slice ps m.length cs] w (Wy w (val 10000 l+val 10000 m)):=by
  obtain ⟨i0,hi,hz0,hz1,hz2⟩:=info_parts CJ;go_enter Tryz.func318,Tryz.ntmps318
  go_wp2
  go_loopw [5,6,7] (fun ov cv kv wr=>∃ (k c:Nat) (s:List Nat),k≤max l.length m.length+1∧c≤1∧(c=0∨k≤max l.length m.length)∧Hid (s.length=k)∧kv= .int .i64 k∧cv= .int .i64 c ∧
      wr.ownsRow w.heap.size 3 1 ov k (ints s)∧iM 10000 s∧Hid (val 10000 s+c*10000^k=val 10000 (l.take k)+val 10000 (m.take k))∧Below w.heap.size w wr)
    (fun _ _ kv _=>max l.length m.length+1 - (intOf kv).toNat)
  case atStart=>exact ⟨0,0,[],Nat.zero_le _,by omega,.inl rfl,rfl,rfl,rfl,World.ownsRow_nil _ _ _ _,iM.nil,(by simp [val]:val _ _+0*_=_),Below.refl _ _⟩
  case round =>
    obtain ⟨k,c,s,hk,hc1,hck,HS,rfl,rfl,hown,hds,HV,hb⟩:=hrel
    have HP:Hid (∀ d c',d+c'*10000=c+l.getD k 0+m.getD k 0→val 10000 (s++[d])+c'*10000^(k+1)=val 10000 (l.take (k+1))+val 10000 (m.take (k+1))) :=
      fun d c' h=>YZ HS.out HV.out h
    have hdl:l.getD k 0<10000:=hl.getD zo k;have Xy:m.getD k 0<10000:=hmd.getD zo k
    have ec:∀ (d:Nat) (z:Int),(d:Int)=z→ints s++[.int .i64 z]=ints (s++[d]):=fun d z e=>by
      unfold ints;simp only [List.map_append,List.map_cons,List.map_nil];rw [e]
    have EC:=zh ec;have hl0:¬ k<l.length→l.getD k 0=0:=fun h=>by simp [Nat.le_of_not_lt h]
    have hm0:¬ k<m.length→m.getD k 0=0:=fun h=>by simp [Nat.le_of_not_lt h]
    have HL0:=zh hl0;have HM0:=zh hm0;clear ec hl0 hm0;have hrun:k<l.length∨k<m.length∨0<c∨(¬ k<l.length∧¬ k<m.length∧c=0):=by omega
    by_cases hfin:¬ k<l.length∧¬ k<m.length∧c=0
    · obtain ⟨n1,n2,rfl⟩:=hfin
      have HF:Hid (val 10000 s=val 10000 l+val 10000 m):=by
        have:=HV.out;rw [List.take_of_length_le zo,List.take_of_length_le zo] at this;unfold Hid;omega
      have hown3:Gs wr u5 s:=Gs.jP hown;clear hown HV HP EC hc hd HL0 HM0 hrun
      go_wp2
      go_ret
      exact ⟨_,s,rfl,hb,hown3,hds,HF.out⟩
    · have ax9:k≤max l.length m.length:=by omega
      have xV:=zh ax9;have hkb:k≤549755813888:=by omega
      have HNF:=zh hfin;clear hrun hfin ax9 hck hk
      have hx:k<l.length→∃ b off,pl=some ⟨b,off,none⟩∧wr.cell? ⟨b,off+k,none⟩=some (.int .i64 (l.getD k 0:Nat)):=fun h=>by
        obtain ⟨b,off,e,hbb,hx0⟩:=hc k h;exact ⟨b,off,e,(hb.cell (by exact hbb)).trans hx0⟩
      have hy:k<m.length→∃ b off,ps=some ⟨b,off,none⟩∧wr.cell? ⟨b,off+k,none⟩=some (.int .i64 (m.getD k 0:Nat)):=fun h=>by
        obtain ⟨b,off,e,hbb,hx0⟩:=hd k h;exact ⟨b,off,e,(hb.cell (by exact hbb)).trans hx0⟩
      have HX:=zh hx;have HY:=zh hy;clear hx hy hc hd HV;generalize l.getD k 0=x at *;generalize m.getD k 0=y at *;have h4:(k<l.length∧k<m.length)∨(k<l.length∧¬ k<m.length)∨(¬ k<l.length∧k<m.length)∨(¬ k<l.length∧¬ k<m.length):=by omega
      rcases h4 with ⟨hkl,hkm⟩|⟨hkl,hkm⟩|⟨hkl,hkm⟩|⟨hkl,hkm⟩
      · obtain ⟨b,off,rfl,hx⟩:=HX.out hkl
        obtain ⟨b2,off2,rfl,hy⟩:=HY.out hkm
        skip
        skip
        skip
        skip
        have e:=EC.out ((c+x+y)%10000) (((c:Int)+(x:Int)+(y:Int))%10000) zo;have UJ:=zh e;have HG:Hid ((c+x+y) / 10000≤1):=zh zo;clear e EC HX HY HL0 HM0;go_wp2_with (at_builtin;refine wpList_append_own _ rfl (.tmp 44) (.tmp 47) 159 rfl w.heap.size 3 i0 (.int .i64 0) 1 8 Tryz.underlying159 hi hz0 hz1 hz2 rfl zd _ _ _ rfl (hown.alloc _) ⟨wr.heap.size,0,none⟩ 1 1 [.int .i64 (((c:Int)+(x:Int)+(y:Int))%10000)] rfl rfl (by intro t u ht;match t,ht with|0,ht=>simp at ht;subst ht;simp [Addr.add]) (by intro u hu;simp at hu;subst hu;rfl) (by have:=xV.out;unfold maxLen;omega) (by have:=xV.out;omega) (by have:=hb.size;simp;omega) ?_)
        intro v' w1 hown1 hgrow1 _;rw [UJ.out] at hown1;have hb3:Below w.heap.size w w1:=(hb.alloc hb.size _).grown hgrow1 (by simp;have:=hb.size;omega) (fun k hk=>(hown.lt k hk).1);clear hown hgrow1
        go_wp2
        go_roundw
        case rel=>exact ⟨k+1,(c+x+y) / 10000,s++[(c+x+y)%10000],by have:=xV.out;omega,HG.out,by have:=HG.out;omega,zh (by rw [List.length_append,HS.out];rfl),by go_num,by go_num,hown1,hds.snoc zo,HP.out _ _ zo,hb3⟩
        case measure=>simp [intOf];have:=xV.out;omega
      · obtain ⟨b,off,rfl,hx⟩:=HX.out hkl
        skip
        have e0:=HM0.out hkm;have e1:=e0;subst e0
        skip
        have e:=EC.out ((c+x+0)%10000) (((c:Int)+(x:Int))%10000) zo;have UJ:=zh e;have HG:Hid ((c+x+0) / 10000≤1):=zh zo;clear e EC HX HY HL0 HM0;go_wp2_with (at_builtin;refine wpList_append_own _ rfl (.tmp 44) (.tmp 47) 159 rfl w.heap.size 3 i0 (.int .i64 0) 1 8 Tryz.underlying159 hi hz0 hz1 hz2 rfl zd _ _ _ rfl (hown.alloc _) ⟨wr.heap.size,0,none⟩ 1 1 [.int .i64 (((c:Int)+(x:Int))%10000)] rfl rfl (by intro t u ht;match t,ht with|0,ht=>simp at ht;subst ht;simp [Addr.add]) (by intro u hu;simp at hu;subst hu;rfl) (by have:=xV.out;unfold maxLen;omega) (by have:=xV.out;omega) (by have:=hb.size;simp;omega) ?_)
        intro v' w1 hown1 hgrow1 _;rw [UJ.out] at hown1;have hb3:Below w.heap.size w w1:=(hb.alloc hb.size _).grown hgrow1 (by simp;have:=hb.size;omega) (fun k hk=>(hown.lt k hk).1);clear hown hgrow1
        go_wp2
        go_roundw
        case rel=>exact ⟨k+1,(c+x+0) / 10000,s++[(c+x+0)%10000],by have:=xV.out;omega,HG.out,by have:=HG.out;omega,zh (by rw [List.length_append,HS.out];rfl),by go_num,by go_num,hown1,hds.snoc zo,HP.out _ _ zo,hb3⟩
        case measure=>simp [intOf];have:=xV.out;omega
      · skip
        obtain ⟨b2,off2,rfl,hy⟩:=HY.out hkm;have e0:=HL0.out hkl;have e1:=e0;subst e0
        skip
        have e:=EC.out ((c+0+y)%10000) (((c:Int)+(y:Int))%10000) zo;have UJ:=zh e;have HG:Hid ((c+0+y) / 10000≤1):=zh zo;clear e EC HX HY HL0 HM0;go_wp2_with (at_builtin;refine wpList_append_own _ rfl (.tmp 44) (.tmp 47) 159 rfl w.heap.size 3 i0 (.int .i64 0) 1 8 Tryz.underlying159 hi hz0 hz1 hz2 rfl zd _ _ _ rfl (hown.alloc _) ⟨wr.heap.size,0,none⟩ 1 1 [.int .i64 (((c:Int)+(y:Int))%10000)] rfl rfl (by intro t u ht;match t,ht with|0,ht=>simp at ht;subst ht;simp [Addr.add]) (by intro u hu;simp at hu;subst hu;rfl) (by have:=xV.out;unfold maxLen;omega) (by have:=xV.out;omega) (by have:=hb.size;simp;omega) ?_)
        intro v' w1 hown1 hgrow1 _;rw [UJ.out] at hown1;have hb3:Below w.heap.size w w1:=(hb.alloc hb.size _).grown hgrow1 (by simp;have:=hb.size;omega) (fun k hk=>(hown.lt k hk).1);clear hown hgrow1
        go_wp2
        go_roundw
        case rel=>exact ⟨k+1,(c+0+y) / 10000,s++[(c+0+y)%10000],by have:=xV.out;omega,HG.out,by have:=HG.out;omega,zh (by rw [List.length_append,HS.out];rfl),by go_num,by go_num,hown1,hds.snoc zo,HP.out _ _ zo,hb3⟩
        case measure=>simp [intOf];have:=xV.out;omega
      · skip
        have hcp:0<c:=Nat.pos_of_ne_zero fun h=>HNF.out ⟨hkl,hkm,h⟩;have e0:=HL0.out hkl;have e1:=HM0.out hkm;subst e0;subst e1;have e:=EC.out ((c+0+0)%10000) ((c:Int)%10000) zo;have UJ:=zh e;have HG:Hid ((c+0+0) / 10000≤1):=zh zo;clear e EC HX HY HL0 HM0;go_wp2_with (at_builtin;refine wpList_append_own _ rfl (.tmp 44) (.tmp 47) 159 rfl w.heap.size 3 i0 (.int .i64 0) 1 8 Tryz.underlying159 hi hz0 hz1 hz2 rfl zd _ _ _ rfl (hown.alloc _) ⟨wr.heap.size,0,none⟩ 1 1 [.int .i64 ((c:Int)%10000)] rfl rfl (by intro t u ht;match t,ht with|0,ht=>simp at ht;subst ht;simp [Addr.add]) (by intro u hu;simp at hu;subst hu;rfl) (by have:=xV.out;unfold maxLen;omega) (by have:=xV.out;omega) (by have:=hb.size;simp;omega) ?_)
        intro v' w1 hown1 hgrow1 _;rw [UJ.out] at hown1;have hb3:Below w.heap.size w w1:=(hb.alloc hb.size _).grown hgrow1 (by simp;have:=hb.size;omega) (fun k hk=>(hown.lt k hk).1);clear hown hgrow1
        go_wp2
        go_roundw
        case rel=>exact ⟨k+1,(c+0+0) / 10000,s++[(c+0+0)%10000],by have:=xV.out;omega,HG.out,by have:=HG.out;omega,zh (by rw [List.length_append,HS.out];rfl),by go_num,by go_num,hown1,hds.snoc zo,HP.out _ _ zo,hb3⟩
        case measure=>simp [intOf];have:=xV.out;omega
theorem Bj (x y:Value) (a b:Nat) (w:World) (hx:Nm w x a) (hy:Nm w y b) (ha:sz 10000 a≤549755813888) (hb:sz 10000 b≤549755813888) :
  Calls Tryz.prog 318 #[x,y] w (Wy w (a+b)):=by
 obtain ⟨pa,ca,rfl,h1,h2,h3⟩:=Gs.read hx.gs;obtain ⟨pb,cb,rfl,k1,k2,k3⟩:=Gs.read hy.gs;have:=YX pa pb ca cb _ _ w (bg zo a) (bg zo b) ha hb h3 k3
 rwa [aR zo,aR zo] at this
theorem wpList_append_run {P:Program} {ops:Array Oper} {rest:List Oper} {o:Oper} {a:Act} {w w':World} {Q:Exit→Act→World→Prop} (hgd:o.guard=none) (s x:Operand) (t:TypeId)
  (ho:o.op= .call { callee:=.builtin .append,args:=#[s,x],argTypes:=#[t,t] }) {vs vx v:Value} (hs:a.eval s=vs) (hx:a.eval x=vx)
  (hr:∀ ty,(Builtin.append_ #[t,t] ty #[vs,vx]).run P w= .ok v w') (h:wpList P ops Q rest (a.put o.dst v) w'):wpList P ops Q (o::rest) a w :=
 wpList_plain hgd fun _ hK=>by
  unfold Oper.wp execOp;simp only [ho,resolve,invoke,builtin,Sem.run_bind,Sem.run_pure,Result.andThen_ok,List.map_toArray,List.map_cons,List.map_nil,hs,hx,hr];exact hK _ _ h
theorem zm (W:World) (g:Nat) (ds l:List Nat) (v:Value) (hx:ah W g (ints ds).toArray 3) (h:Gs W v l) (hl:ds.length+l.length≤1099511627776) :
  ∃ v' W',(∀ ty,(Builtin.append_ #[159,159] ty #[.slice (some ⟨g,0,none⟩) ds.length ds.length,v]).run Tryz.prog W= .ok v' W')∧Gs W' v' (ds++l)∧Below W.heap.size W W'∧∃ b o n c,v'= .slice (some ⟨b,o,none⟩) n c∧(b=g∨b=W.heap.size):=by
 obtain ⟨i0,hi,hz0,hz1,hz2⟩:=info_parts CJ
 have hcell:∀ (w':World),w'.heap=W.heap→∀ j u,(ints ds)[j]? =some u→w'.cell? ((⟨g,0,none⟩:Addr).add j)=some u:=fun w' hw j u hu=>by
  have hx':ah w' g (ints ds).toArray 3:=by unfold ah at*; rw [hw];exact hx
  rw [Addr.add_lit,hx'.cell,Nat.zero_add,List.getElem?_toArray,hu]
 have same:l=[]→Gs W (.slice (some ⟨g,0,none⟩) ds.length ds.length) (ds++l):=fun e=>by
  subst e;rw [List.append_nil];refine Row.mk (by rw [bE]) (by rw [bE];exact Nat.le_refl _) zo hx fun i hi=>?_;rw [Nat.zero_add,List.getElem?_toArray];exact List.getElem?_eq_getElem hi
 have room:∀ (x:Value),l=[]→Src Tryz.prog i0.size 159 x 0 [] W→∃ v' W',(∀ ty,(Builtin.append_ #[159,159] ty #[.slice (some ⟨g,0,none⟩) ds.length ds.length,x]).run Tryz.prog W= .ok v' W')∧Gs W' v' (ds++l)∧Below W.heap.size W W'∧∃ b o n c,v'= .slice (some ⟨b,o,none⟩) n c∧(b=g∨b=W.heap.size):=fun x e hs =>
  ⟨_,_,fun ty=>run_append_room_src W 159 159 ty 3 i0 Tryz.underlying159 hi g 0 ds.length ds.length x 0 [] hs zo (fun j hj=>by cases hj) (fun j hj=>by cases hj),by simpa [World.setCells] using same e,by simpa [World.setCells] using Below.refl _ _,_,_,_,_,rfl,.inl rfl⟩
 rcases Gs.cases h with ⟨rfl,rfl⟩|⟨b,off,cap,rfl,h1,h2,h3, -, h5⟩
 ·exact room _ rfl (Src.ofNil W Tryz.underlying159 0)
 ·by_cases hl0:l.length=0
  ·have e:=List.length_eq_zero_iff.1 hl0;have hs:Src Tryz.prog i0.size 159 (.slice (some ⟨b,off,none⟩) 0 cap) 0 [] W:=Src.ofSlice W Tryz.underlying159 ⟨b,off,none⟩ 0 cap [] zi (fun j u hu=>by cases hu) (fun u hu=>by cases hu);rw [hl0];exact room _ e hs
  ·have hs:Src Tryz.prog i0.size 159 (.slice (some ⟨b,off,none⟩) l.length cap) l.length (ints l) W:=Src.ofSlice W Tryz.underlying159 ⟨b,off,none⟩ l.length cap (ints l) (by rw [bE,hz1];simp) (fun j u hu=>by
    have hj:j<l.length:=by
     have:=(List.getElem?_eq_some_iff.1 hu).1;rwa [bE] at this
    rw [uR hj] at hu;rw [Addr.add_lit,h5 j hj,← hu]) (Go.Mem.ints_oneCell l)
   have hold:(Builtin.firstCells i0.size ds.length (.slice (some ⟨g,0,none⟩) ds.length ds.length)).run Tryz.prog W.drew= .ok (ints ds).toArray W.drew :=
    run_firstCells_some W.drew i0.size ds.length ⟨g,0,none⟩ ds.length ds.length (ints ds) (by rw [bE,hz1];simp) (hcell W.drew rfl)
   refine ⟨_,_,fun ty=>run_append_grow_src W 159 159 ty 3 i0 (.int .i64 0) Tryz.underlying159 hi hz0 (some ⟨g,0,none⟩) ds.length ds.length (ints ds) hold _ l.length (ints l) hs zo zo (growslice_fits_wide zo (by rw [hz2];omega)),?_,?_,_,_,_,_,rfl,.inr rfl⟩
   ·refine Row.mk (by rw [bE,List.length_append]) ?_ ?_ (ah.new _ _ _) fun i hi=>?_
    ·rw [bE,List.length_append];exact grownCap_ge _ _ _ _
    ·have:=grownCap_le_maxLen W (ds.length+l.length) ds.length 3 (by unfold maxLen;omega);unfold maxLen at this;omega
    ·rw [bE,List.length_append] at hi;rw [Nat.zero_add,Array.getElem?_append_left (by simp [ints];omega),List.getElem?_toArray];have e:ints ds++ints l=ints (ds++l):=by unfold ints;rw [List.map_append]
     rw [e];exact List.getElem?_eq_getElem (by rw [bE,List.length_append];exact hi)
   ·exact (Below.drew (Below.refl _ _)).alloc zi _
theorem ad8 (B:Nat) (l:List Nat) (k:Nat):val B (l.drop k)=val B (l.drop (k+1))*B+l.getD k 0:=by
 by_cases h:k<l.length
 ·exact vC h
 ·rw [List.drop_of_length_le zo,List.drop_of_length_le zo];simp [val,Nat.le_of_not_lt h]
theorem ad9 {B:Nat} (hB:0<B) {l:List Nat} (hl:iM B l) (k:Nat):val B (l.drop k)=val B l / B^k:=by
 by_cases h:k≤l.length
 ·have e:val B l=val B (l.take k)+B^k*val B (l.drop k):=by
   conv=>lhs;rw [← List.take_append_drop k l,val_append]
   rw [List.length_take,Nat.min_eq_left h]
  have h2:=jL hB (hl.take k);rw [List.length_take,Nat.min_eq_left h] at h2;rw [e,Nat.add_mul_div_left _ _ (Nat.pow_pos hB),Nat.div_eq_of_lt h2,Nat.zero_add]
 ·rw [List.drop_of_length_le zo];have h2:=jL hB hl;rw [Nat.div_eq_of_lt (Nat.lt_of_lt_of_le h2 (Nat.pow_le_pow_right hB zo))];rfl
theorem aF3 {R D P t f:Nat} (h1:t*P≤D) (h2:D<(t+1)*P) (ht:10000≤t) (hR:R<D*10000) (hP:0<P) (hf:f=R / P) :
  f / (t+1)*D≤R∧R<(f / t+1)*D∧f / t+1≤10001:=by
 have e1:f*P≤R:=by rw [hf];exact Nat.div_mul_le_self R P
 have e2:R<(f+1)*P:=by rw [hf,Nat.add_mul,Nat.one_mul];exact Nat.lt_div_mul_add hP
 refine ⟨?_,?_,?_⟩
 ·have h3:f / (t+1)*D≤f / (t+1)*((t+1)*P):=Nat.mul_le_mul_left _ (Nat.le_of_lt h2);have h4:f / (t+1)*(t+1)*P≤f*P:=Nat.mul_le_mul_right _ (Nat.div_mul_le_self _ _);rw [Nat.mul_assoc] at h4;omega
 ·have h3:f+1≤(f / t+1)*t:=by
   rw [Nat.add_mul,Nat.one_mul];exact Nat.lt_div_mul_add zo
  have h4:(f+1)*P≤(f / t+1)*t*P:=Nat.mul_le_mul_right _ h3;have h5:(f / t+1)*(t*P)≤(f / t+1)*D:=Nat.mul_le_mul_left _ h1;rw [Nat.mul_assoc] at h4;omega
 ·have h3:f*P<(t+1)*10000*P:=by
   have h6:D*10000≤(t+1)*P*10000:=Nat.mul_le_mul_right _ (Nat.le_of_lt h2);rw [Nat.mul_assoc,Nat.mul_comm P 10000,← Nat.mul_assoc] at h6;omega
  have h4:f<(t+1)*10000:=Nat.lt_of_mul_lt_mul_right h3
  have h5:f / t<10001:=by
   rw [Nat.div_lt_iff_lt_mul zo];omega
  omega
theorem aB1 {lo hi R D:Nat} (h1:lo*D≤R) (hR:R<D*10000) (hhi:hi≤10001) (hlt:lo+1<hi):lo≤9999∧(lo+hi) / 2≤10000∧lo<(lo+hi) / 2∧(lo+hi) / 2<hi:=by
 have:lo<10000:=by
  rcases Nat.lt_or_ge lo 10000 with h|h
  ·exact h
  ·exfalso
   have h2:10000*D≤lo*D:=Nat.mul_le_mul_right _ h;rw [Nat.mul_comm] at h2;omega
 omega
theorem aG0 {lo R D:Nat} (h1:lo*D≤R) (h2:R<(lo+1)*D):R / D=lo∧R%D=R - D*lo:=by
 have hD:0<D:=by
  rcases Nat.eq_zero_or_pos D with h|h
  ·subst h;simp at h2
  ·exact h
 have e:R / D=lo:=by
  rw [Nat.div_eq_iff zo];rw [Nat.add_mul,Nat.one_mul] at h2;have:=Nat.mul_comm D lo;omega
 refine ⟨e,?_⟩;have:=Nat.div_add_mod R D;rw [e] at this;omega
theorem Sn {B D:Nat} {a s:List Nat} {j R lo:Nat} (hj:j<a.length) (he:val B (a.drop (j+1))=D*val B s+R) (h1:(a.getD j 0+B*R) / D=lo) :
  val B (a.drop j)=D*val B (lo::s)+(a.getD j 0+B*R)%D:=by
 rw [vC hj,he];have h:=Nat.div_add_mod (a.getD j 0+B*R) D;rw [h1] at h;simp only [val];have e1:D*(lo+B*val B s)=D*lo+B*(D*val B s):=by rw [Nat.mul_add,Nat.mul_left_comm]
 have e2:(D*val B s+R)*B=B*(D*val B s)+B*R:=by rw [Nat.add_mul,Nat.mul_comm,Nat.mul_comm R]
 rw [e1,e2];omega
theorem Gu (x y:Value) (l m:List Nat) (w:World) (hx:Gs w x l) (hy:Gs w y m) (hl:iM 10000 l) (hm:Okm m) (ha:l.length≤1099511627776) (hb:m.length≤1099511627776) :
  Calls Tryz.prog 263 #[x,y] w fun e w'=>∃ v,e= .returned v∧Below w.heap.size w w'∧Nm w' v (val 10000 l*val 10000 m):=by
 obtain ⟨pa,ca,rfl,h1,h2,h3⟩:=Gs.read hx;obtain ⟨pb,cb,rfl,k1,k2,k3⟩:=Gs.read hy;exact zL pa pb ca cb _ _ w hl hm ha hb h3 k3
theorem Gs.one {w:World} {d:Nat}:Gs (w.alloc (.cells #[.int .i64 (d:Int)] 3 (0,0))) (.slice (some ⟨w.heap.size,0,none⟩) 1 1) [d]:=by
 refine Row.mk rfl (by simp [ints]) zo (ah.new _ _ _) fun i hi=>?_
 match i,hi with
 | 0,_=>rfl
def xG (w:World) (a b:Nat) (e:Ending) (w':World):Prop:=∃ q r,e= .returned (.tuple #[q,r])∧Below w.heap.size w w'∧Nm w' q (a / b)∧Nm w' r (a%b)
theorem Xh (x:Value) (a d:Nat) (pb:Option Addr) (cb:Nat) (w:World) (hx:Nm w x a) (ha:sz 10000 a≤1099511627776) (hd0:0<d) (hd1:d<10000)
  (hc:∃ b off,pb=some ⟨b,off,none⟩∧w.cell? ⟨b,off,none⟩=some (.int .i64 (d:Int))) :
  Calls Tryz.prog 260 #[x,.slice pb 1 cb] w (xG w a d):=by
 have HO:=zh (am8 x a d w hx ha hd0 zo);obtain ⟨pa,ca,rfl, -⟩:=hx.read;obtain ⟨b,off,rfl,hcell⟩:=hc;clear hx ha;go_enter Tryz.func260,Tryz.ntmps260
 go_wp2_with fail
 refine HO.out.mono ?_;rintro e w1 ⟨v,rfl,hb1,hv⟩;obtain ⟨pq,lq,cq,rfl⟩:=hv.slice;have HV:=zh hv;have hr:a%d<10000:=Nat.lt_trans (Nat.mod_lt _ hd0) hd1;generalize hR:a%d=r at *;have HR:=zh hR;clear hR hv hcell;have HC:=zh (yY (.slice (some ⟨w1.heap.size,0,none⟩) 1 1) [r] (w1.alloc (.cells #[.int .i64 (r:Int)] 3)) Gs.one (iM.nil.cons hr));go_wp2_with fail
 refine HC.out.mono ?_;rintro e w' ⟨v',rfl,rfl,hv'⟩;obtain ⟨pr,lr,cr,rfl⟩:=hv'.slice;have HV':=zh hv';clear hv' HC HO;go_wp2_with fail
 go_ret2
 refine ⟨_,_,rfl,dA hb1 _,HV.out.alloc _,?_⟩;have e:val 10000 [r]=r:=by simp [val]
 rw [HR.out,← e];exact HV'.out
theorem Sr (x:Value) (a p d:Nat) (pb:Option Addr) (cb:Nat) (w:World) (hx:Nm w x a) (ha:sz 10000 a≤p+1) (hp:p≤549755813888) (hd:a<d) :
  Calls Tryz.prog 260 #[x,.slice pb (p+2) cb] w (xG w a d):=by
 obtain ⟨i0,hi,hz0,hz1,hz2⟩:=info_parts CJ;obtain ⟨v',W',hap,hg,hb, -⟩:=zm (w.alloc (.cells #[] 3)) w.heap.size [] (eO 10000 a) x (ah.new _ _ _) (hx.alloc _) (by have:(eO 10000 a).length=sz 10000 a:=rfl;simp;omega);obtain ⟨pa,ca,rfl,k1,k2, -⟩:=hx.read;rw [List.nil_append] at hg;have HG:=zh hg;obtain ⟨p2,c2,rfl, -⟩:=hg.read;have HB:=zh hb;have HA:Hid (a / d=0∧a%d=a):=zh ⟨Nat.div_eq_of_lt hd,Nat.mod_eq_of_lt hd⟩;generalize sz 10000 a=sa at *;clear hx hg hb hd;have h1:((p:Int)+2 == 1)=false:=by simp;omega
 have h2:(sa:Int)≤(p:Int)+2 - 1:=by omega
 have HAP:=zh hap;clear hap;go_enter Tryz.func260,Tryz.ntmps260
 go_wp2_with (at_builtin;refine wpList_append_run rfl (.tmp 40) (.tmp 41) 159 rfl rfl rfl HAP.out ?_)
 go_ret2
 exact ⟨_,_,rfl,Bt au HB.out,by rw [HA.out.1];exact Nm.zero _,by rw [HA.out.2];exact HG.out⟩
theorem Gs.drop {w:World} {b off n c:Nat} {l:List Nat} (h:Gs w (.slice (some ⟨b,off,none⟩) n c) l) (k:Nat) (hk:k≤n):Gs w (.slice (some ⟨b,off+k,none⟩) (n - k) (c - k)) (l.drop k):=by
 rcases Row.cases h with ⟨h1, -⟩|⟨b',off',cap,arr,e,h2,h3,h4,h5⟩
 ·cases h1
 ·simp only [Value.slice.injEq,Option.some.injEq,Addr.mk.injEq,and_true] at e;obtain ⟨⟨rfl,rfl⟩,hn,rfl⟩:=e;rw [bE] at hn h2;refine Row.mk (by rw [bE,List.length_drop];omega) (by rw [bE,List.length_drop];omega) zo h4 fun i hi=>?_;rw [bE,List.length_drop] at hi;have:=h5 (k+i) (by rw [bE];omega);rw [← Nat.add_assoc] at this;rw [this];simp [ints]
theorem Nm.setBlock {w:World} {b off k c n g:Nat} (h:Nm w (.slice (some ⟨b,off,none⟩) k c) n) (hne:b≠g) (o:Nat) (u:Value):Nm (w.setCell ⟨g,o,none⟩ u) (.slice (some ⟨b,off,none⟩) k c) n:=by
 obtain ⟨a,cap,h1,h2,h3,h4,h5⟩:=h;refine ⟨a,cap,h1,h2,h3,h4,fun ad had=>?_⟩;obtain ⟨h6,arr,h7,h8⟩:=h5 ad had
 have e:ad.block=b:=by
  subst had;simp only [Value.slice.injEq,Option.some.injEq] at h1;rw [← h1.1]
 have hy:ah w ad.block arr 3:=h7;exact ⟨h6,arr,hy.setOther u (by rw [e];exact hne),h8⟩
theorem ae2 (b off n c:Nat) (l:List Nat) (w:World) (h:Gs w (.slice (some ⟨b,off,none⟩) n c) l) (hd:iM 10000 l) :
  Calls Tryz.prog 297 #[.slice (some ⟨b,off,none⟩) n c] w fun e w'=>∃ k,e= .returned (.slice (some ⟨b,off,none⟩) k c)∧w=w'∧Nm w (.slice (some ⟨b,off,none⟩) k c) (val 10000 l):=by
 rcases Gs.cases h with ⟨h1, -⟩|⟨b',off',cap,e,h1,h2,h3, -, h5⟩
 ·cases h1
 ·simp only [Value.slice.injEq,Option.some.injEq,Addr.mk.injEq,and_true] at e;obtain ⟨⟨rfl,rfl⟩,rfl,rfl⟩:=e;refine (Qi b off c l w h1 h2 h5).mono ?_;rintro e w' ⟨rfl,rfl⟩;refine ⟨_,rfl,rfl,?_⟩
  rcases Row.cases h with ⟨e1, -⟩|⟨b',off',cap',arr,e1, -, -, h4, -⟩
  ·cases e1
  ·simp only [Value.slice.injEq,Option.some.injEq,Addr.mk.injEq,and_true] at e1;obtain ⟨⟨rfl,rfl⟩, -, rfl⟩:=e1;have ht:=trimLen_le l l.length;have e:val 10000 l=val 10000 (l.take (trimLen l l.length)):=by rw [zy _ _ _ (Nat.le_refl _)];simp
   rw [e];refine Nm.ZA ?_ (hd.take _) (zA l _ (Nat.le_refl _));refine Row.mk (arr:=arr) (by rw [bE];simp;omega) (by rw [bE];simp;omega) h2 h4 fun i hi=>?_;rw [bE] at hi;have hi2:i<l.length:=by simp at hi;omega
   have:=h5 i hi2;rw [h4.cell] at this;rw [this];simp [ints,hi2]
theorem Nm.am9 {w:World} {v:Value} {a k:Nat} (h:Gs w v ((eO 10000 a).drop k)):Nm w v (val 10000 ((eO 10000 a).drop k)):=Nm.ZA h ((bg zo a).drop k) (Go.Dec.Gb (qD zo a) k)
theorem Sq (x:Value) (a n p m D:Nat) (bl:List Nat) (pb:Option Addr) (cb:Nat) (w:World) (hx:Nm w x a) (hbs:Gs w (.slice pb (n+1) cb) bl) (hbl:bl.length=n+1) (db:iM 10000 bl) (htop:1≤bl.getD n 0)
  (hn:n=p+1) (hm:sz 10000 a=m+n) (hm1:1≤m) (ha2:sz 10000 a≤274877906944) (hD:val 10000 bl=D) :
  Calls Tryz.prog 260 #[x,.slice pb (n+1) cb] w (xG w a D):=by
 obtain ⟨i0,hi,hz0,hz1,hz2⟩:=info_parts CJ;have Tx:bl.length=p+2:=by omega
 have hv2:=rR (B:=10000) Tx;have hvt:=jL (B:=10000) zo (db.take p);rw [List.length_take,Nat.min_eq_left zo] at hvt;rw [hD] at hv2;have d1:=db.getD zo n;have d0:=db.getD zo p;rw [show p+1=n by omega] at hv2
 obtain ⟨b,off,rfl,lbb,c1⟩:∃ b off,pb=some ⟨b,off,none⟩∧b<w.heap.size∧w.cell? ⟨b,off+n,none⟩=some (.int .i64 (bl.getD n 0:Nat)):=by
  obtain ⟨a',c',e, -, -, h5⟩:=hbs.read;simp only [Value.slice.injEq] at e;obtain ⟨rfl, -, -⟩:=e;exact h5 n zo
 have c0:w.cell? ⟨b,off+p,none⟩=some (.int .i64 (bl.getD p 0:Nat)):=by
  obtain ⟨a',c',e, -, -, h5⟩:=hbs.read;simp only [Value.slice.injEq] at e;obtain ⟨rfl, -, -⟩:=e;obtain ⟨b',o',e2, -, h6⟩:=h5 p zo;simp only [Option.some.injEq,Addr.mk.injEq,and_true] at e2;obtain ⟨rfl,rfl⟩:=e2;exact h6
 generalize bl.getD n 0=t1 at *;generalize bl.getD p 0=t0 at *;obtain ⟨T,eT⟩:∃ T,t1*10000+t0=T:=⟨_,rfl⟩;have hT:10000≤T∧T≤99999999:=by omega
 obtain ⟨P,hP⟩:∃ P,10000^p=P:=⟨_,rfl⟩;have hP0:0<P:=by rw [← hP];exact Nat.pow_pos zo
 rw [hP] at hv2 hvt
 have hD1:T*P≤D:=by
  rw [hv2,← eT,Nat.mul_comm,Nat.mul_comm t1,Nat.add_comm (10000*t1)];omega
 have hD2:D<(T+1)*P:=by
  rw [hv2,Nat.add_mul,Nat.one_mul,← eT,Nat.mul_comm (t1*10000+t0),Nat.mul_comm t1,Nat.add_comm (10000*t1)];omega
 have hD0:0<D:=Nat.lt_of_lt_of_le (Nat.mul_pos zo hP0) hD1
 have hDn:D<10000^(n+1):=by
  have:=jL (B:=10000) zo db
  rwa [hD,hbl] at this
 have GUESS:=zh (fun R f (hR:R<D*10000) (hf:f=R / P)=>aF3 hD1 hD2 hT.1 hR hP0 hf);have hla:(eO 10000 a).length=m+n:=hm;have hda:=bg (B:=10000) zo a;have hva:=aR (B:=10000) zo a;obtain ⟨l,El⟩:∃ l,eO 10000 a=l:=⟨_,rfl⟩;obtain ⟨pa,ca,rfl,k1,k2,k3⟩:=hx.read;rw [El] at k3 hla hda hva;rw [hm] at k1 k3;obtain ⟨ba,oa,rfl,lba, -⟩:=k3 0 zo
 have ka:∀ j,j<m+n→w.cell? ⟨ba,oa+j,none⟩=some (.int .i64 (l.getD j 0:Nat)):=fun j hj=>by
  obtain ⟨b',o',e2, -, h6⟩:=k3 j hj;simp only [Option.some.injEq,Addr.mk.injEq,and_true] at e2;obtain ⟨rfl,rfl⟩:=e2;exact h6
 have KA:=zh ka;have HLA:=zh hla;have HDA:=zh hda
 have hgd:Gs w (.slice (some ⟨ba,oa+m,none⟩) n (ca - m)) (l.drop m):=by
  have:=Gs.drop hx.gs m (by rw [hm];omega);rw [hm,El] at this
  rwa [show m+n - m=n by omega] at this
 have hr0:val 10000 (l.drop m)<D:=by
  have h1:=jL (B:=10000) zo (hda.drop m);rw [List.length_drop,hla,show m+n - m=n by omega] at h1
  have h2:10000^n≤D:=by
   have h3:10000*P≤T*P:=Nat.mul_le_mul_right _ hT.1;have h4:10000^n=10000*P:=by rw [hn,Nat.pow_succ,hP,Nat.mul_comm]
   omega
  omega
 have HGD:=zh hgd;have HR0:=zh hr0;have HBS:=zh hbs;have HDB:=zh db;have yw:=zh hbl;have HD:=zh hD;have HDN:=zh hDn
 have HDiv:Hid (∀ s r,a=D*val 10000 s+r→r<D→a / D=val 10000 s∧a%D=r):=zh fun s r e h=>by
  constructor
  ·rw [e,Nat.mul_add_div hD0,Nat.div_eq_of_lt h,Nat.add_zero]
  ·rw [e,Nat.mul_add_mod,Nat.mod_eq_of_lt h]
 have HVA:=zh hva
 have HDr:Hid (∀ w' v k,Gs w' v (l.drop k)→Nm w' v (val 10000 (l.drop k))):=zh fun w' v k h=>by
  rw [← El] at h ⊢;exact Nm.am9 h
 rw [hm] at ha2 ⊢;clear Tx hv2 hvt db hbs hbl hD hDn hD1 hD2 htop hgd hr0 k3 ka hla hda hva El hx hm;have hbn:(n:Int)+1 - 1=(n:Int):=by omega
 have ep:(n:Int) - 1=(p:Int):=by omega
 have em:(m:Int)+(n:Int) - (n:Int)=(m:Int):=by omega
 have emn:m+n - m=n:=by omega
 have eTi:(t1:Int)*10000+(t0:Int)=(T:Int):=by omega
 have hn1:((n:Int)+1 == 1)=false:=by simp;omega
 have hmn:¬ (m:Int)+(n:Int)≤(n:Int):=by omega
 have hwp:IntKind.i64.wrap (p:Int)=(p:Int):=by rw [IntKind.wrap_i64];omega
 have hpn:(p:Int)<(n:Int)+1:=by omega
 obtain ⟨hT1,hT2⟩:=hT;have HNP:=zh hn;clear eT hn;go_enter Tryz.func260,Tryz.ntmps260
 go_wp2_with fail
 go_quiet (fail)
 go_wp2_with (at_make;refine wpList_make_full _ rfl _ _ 159 rfl w.heap.size 3 i0 (.int .i64 0) 1 Tryz.underlying159 hi hz0 hz1 _ _ _ _ m rfl rfl zo zo (by rw [hz2];omega) (by unfold maxLen;omega) (Nat.le_refl _) ?_)
 intro w0 hown0 nD;rw [Bv] at hown0;obtain ⟨hbx, -⟩:=wY hown0;have hb0:Below w.heap.size w w0:=(below_drewN (Below.refl _ _) _).grown nD (Nat.le_refl _) (fun k h=>by cases h);have e0:Gs (w0.alloc (.cells #[] 3)) (.slice (some ⟨ba,oa+m,none⟩) n (ca - m)) (l.drop m):=(HGD.out.later hb0).alloc _;obtain ⟨v1,w1,hap,hg1,hb1, -⟩:=zm (w0.alloc (.cells #[] 3)) w0.heap.size [] (l.drop m) _ (ah.new _ _ _) e0 (by rw [List.length_drop,HLA.out];simp;omega);rw [List.nil_append] at hg1;have HN1:=zh (HDr.out _ _ _ hg1);have HB1:Hid (Below w.heap.size w w1):=zh (Bt (dA hb0 _) hb1);have bk7:Hid (ah w1 w.heap.size (ints (List.replicate m 0)).toArray 3):=zh ((hbx.alloc _).later hb1);have HAP:=zh hap;obtain ⟨pr,lr,cr,rfl⟩:=HN1.out.slice;clear hap hg1 hb1 e0 hb0 hbx nD hown0 c1 c0 HGD
 go_wp2_with (at_builtin;refine wpList_append_run rfl (.tmp 59) (.tmp 65) 159 rfl rfl rfl HAP.out ?_)
 clear HAP
 go_loopw [11,12,13,14,15,16,17] (fun rv iv _ _ _ _ _ wr=>∃ (q:Int) (R:Nat) (s:List Nat), -1≤q∧q<m∧iv= .int .i64 q∧Hid (s.length=m - (q+1).toNat)∧Hid (ah wr w.heap.size (ints (List.replicate (q+1).toNat 0++s)).toArray 3)∧Hid (iM 10000 s) ∧
   Hid (val 10000 (l.drop (q+1).toNat)=D*val 10000 s+R)∧Hid (R<D)∧Hid (Nm wr rv R)∧Hid (Below w.heap.size w wr))
  (fun _ iv _ _ _ _ _ _=>(intOf iv+1).toNat)
 case atStart =>
  have e:((m:Int) - 1+1).toNat=m:=by omega
  exact ⟨(m:Int) - 1,val 10000 (l.drop m),[],by omega,by omega,rfl,zh (by rw [e];simp),zh (by rw [e,List.append_nil];exact bk7.out),zh iM.nil,zh (by rw [e];simp [val]),HR0,HN1,HB1⟩
 case round =>
  clear HN1 HB1 bk7;obtain ⟨q,R,s,hq1,hq2,rfl,HS,uX,HDS,HV,HR,HNR,HB⟩:=hrel;obtain ⟨p1,l1,c1,rfl⟩:=HNR.out.slice
  by_cases hq:q<0
  ·have hq0:q= -1:=by omega
   subst hq0;have HF:Hid (a=D*val 10000 s+R):=zh (by have:=HV.out;simpa [HVA.out] using this)
   have hgs:Gs wr (.slice (some ⟨w.heap.size,0,none⟩) m m) s:=by
    have h1:=uX.out;have h2:=HS.out;refine Gs.yK (post:=[]) (by simpa using h1) (by simpa using h2) (Nat.le_refl _) zo
   have HC:=zh (yY _ s wr hgs HDS.out);clear hgs;go_wp2_with fail
   refine HC.out.mono ?_;rintro e w' ⟨v',rfl,rfl,hv'⟩;obtain ⟨p2,l2,c2,rfl⟩:=hv'.slice;have HV':=zh hv';clear hv' HC;go_wp2_with fail
   go_ret2
   obtain ⟨e1,e2⟩:=HDiv.out _ _ HF.out HR.out;exact ⟨_,_,rfl,HB.out,by rw [e1];exact HV'.out,by rw [e2];exact HNR.out⟩
  ·obtain ⟨j,rfl⟩:=Int.eq_ofNat_of_zero_le (by omega:0≤q);have ej:((j:Int)+1).toNat=j+1:=by omega
   have hjm:j<m:=by omega
   rw [ej] at HS HV uX;have hcj:wr.cell? ⟨ba,oa+j,none⟩=some (.int .i64 (l.getD j 0:Nat)):=(HB.out.cell (by exact lba)).trans (KA.out j zo);have hdj:l.getD j 0<10000:=HDA.out.getD zo j;have HST:Hid (∀ lo,(l.getD j 0+10000*R) / D=lo→val 10000 (l.drop j)=D*val 10000 (lo::s)+(l.getD j 0+10000*R)%D):=zh fun lo h=>Sn (by rw [HLA.out];omega) HV.out h;clear HV;generalize l.getD j 0=d at *;obtain ⟨R',ER'⟩:∃ y,Hid (d+10000*R=y):=⟨_,zh rfl⟩;rw [ER'.out] at HST;have br6:sz 10000 R≤n+1:=bH zo _ _ (Nat.lt_trans HR.out HDN.out);have hR':R'<D*10000:=by have:=ER'.out;have:=HR.out;omega
   have ax5:sz 10000 R'≤n+2:=by
    refine bH zo _ _ (Nat.lt_of_lt_of_le hR' ?_);rw [Nat.pow_succ];exact Nat.mul_le_mul_right _ (Nat.le_of_lt HDN.out)
   obtain ⟨v2,w2,hap,hg2,hb2,b3,o3,n3,c3,rfl,bc9⟩:=zm (wr.alloc (.cells #[.int .i64 (d:Int)] 3)) wr.heap.size [d] (eO 10000 R) (.slice p1 l1 c1) (ah.new _ _ _) (HNR.out.gs.alloc _) (by have:(eO 10000 R).length=sz 10000 R:=rfl;simp;omega)
   have hev:val 10000 ([d]++eO 10000 R)=R':=by
    show d+10000*val 10000 (eO 10000 R)=R'
    rw [aR zo,ER'.out]
   have hb3:b3≠w.heap.size:=by
    have h1:=uX.out.lt;have h2:b3=wr.heap.size∨b3=wr.heap.size+1:=by simpa using bc9
    omega
   have hct:=ae2 b3 o3 n3 c3 _ w2 hg2 ((bg zo R).cons hdj);rw [hev] at hct;have HC:=zh hct;have HAP:=zh hap;have HB2:Hid (Below wr.heap.size wr w2):=zh (Bt (dA (Below.refl _ _) _) hb2);have HRD:=zh hR';have HSR:=zh ax5;clear hev hct hap hb2 hg2 bc9 hR' br6 ax5 ER' HR HNR;go_wp2_with (at_builtin;refine wpList_append_run rfl (.tmp 78) (.tmp 79) 159 rfl rfl rfl HAP.out ?_)
   refine HC.out.mono ?_;rintro e w' ⟨z3,rfl,rfl,hv3⟩;obtain ⟨p3,c3',e3,q1,q2,q3⟩:=hv3.read;simp only [Value.slice.injEq] at e3;obtain ⟨rfl,rfl,rfl⟩:=e3;have WB:=zh hv3
   have HQ3:Hid (∀ i,i<sz 10000 R'→b3<w2.heap.size∧w2.cell? ⟨b3,o3+i,none⟩=some (.int .i64 ((eO 10000 R').getD i 0:Nat))):=zh fun i hi=>by
    obtain ⟨b',o',e2,h5,h6⟩:=q3 i hi;simp only [Option.some.injEq,Addr.mk.injEq,and_true] at e2;obtain ⟨rfl,rfl⟩:=e2;exact ⟨h5,h6⟩
   replace HB:=zh (Bt HB.out HB2.out);replace uX:=zh (uX.out.later HB2.out);clear hv3 q3 HC HAP HB2 hcj;generalize hz3:sz 10000 R'=z3 at *;have HZ3:=zh hz3;clear hz3;go_wp2_with fail
   go_loop [13,14] (fun fv kv=>∃ (k:Int) (f:Nat),(p:Int) - 1≤k∧k≤(p:Int)+2∧kv= .int .i64 k∧fv= .int .i64 f∧Hid (f=val 10000 ((eO 10000 R').drop (k+1).toNat)))
    (fun _ kv=>(intOf kv+1).toNat)
   case atStart =>
    have h1:=HNP.out
    exact ⟨(n:Int)+1,0,by omega,by omega,rfl,rfl,zh (by
     have h2:(eO 10000 R').length=z3:=HZ3.out;have h3:=HSR.out;rw [List.drop_of_length_le zo];rfl)⟩
   case round =>
    obtain ⟨k,f,hk1,hk2,rfl,rfl,HF⟩:=hrel
    by_cases hkp:(p:Int)≤k
    ·obtain ⟨i,rfl⟩:=Int.eq_ofNat_of_zero_le (by omega:0≤k);have ei:((i:Int)+1).toNat=i+1:=by omega
     rw [ei] at HF
     have hf:f<100000000:=by
      have h1:=HF.out;have h2:=jL (B:=10000) zo ((bg (by omega:1<10000) R').drop (i+1));rw [List.length_drop] at h2;have h3:(eO 10000 R').length=z3:=HZ3.out;have h4:=HSR.out;have h5:=HNP.out;have h6:10000^((eO 10000 R').length - (i+1))≤10000^2:=Nat.pow_le_pow_right zo zo;rw [h1];exact Nat.lt_of_lt_of_le h2 h6
     have LA:Hid (val 10000 ((eO 10000 R').drop i)=f*10000+(eO 10000 R').getD i 0):=zh (by rw [ad8,← HF.out])
     by_cases hi3:i<z3
     ·obtain ⟨-, hc3⟩:=HQ3.out i hi3;have hd3:(eO 10000 R').getD i 0<10000:=(bg zo R').getD zo i;clear HF;generalize (eO 10000 R').getD i 0=y at *;go_wp2_with fail
      go_round
      case rel=>exact ⟨(i:Int) - 1,f*10000+y,by omega,by omega,rfl,by go_num,zh (by rw [show ((i:Int) - 1+1).toNat=i by omega];exact LA.out.symm)⟩
      case measure=>simp [intOf]
     ·have hy0:(eO 10000 R').getD i 0=0:=by
       have h3:(eO 10000 R').length=z3:=HZ3.out;rw [List.getD_eq_getElem?_getD,List.getElem?_eq_none zo];rfl
      rw [hy0,Nat.add_zero] at LA;clear HF hy0;go_wp2_with fail
      go_round
      case rel=>exact ⟨(i:Int) - 1,f*10000,by omega,by omega,rfl,by go_num,zh (by rw [show ((i:Int) - 1+1).toNat=i by omega];exact LA.out.symm)⟩
      case measure=>simp [intOf]
    ·have hkk:k=(p:Int) - 1:=by omega
     subst hkk
     have hfR:f=R' / P:=by
      have h1:=HF.out;rw [show ((p:Int) - 1+1).toNat=p by omega,ad9 zo (bg zo R'),aR zo,hP] at h1;exact h1
     have hf8:f<1000000000000:=by
      have h1:=jL (B:=10000) zo ((bg (by omega:1<10000) R').drop p);rw [List.length_drop] at h1;have h2:=HF.out;rw [show ((p:Int) - 1+1).toNat=p by omega] at h2;have h3:(eO 10000 R').length=z3:=HZ3.out;have h4:=HSR.out;have h5:=HNP.out;have h6:10000^((eO 10000 R').length - p)≤10000^3:=Nat.pow_le_pow_right zo zo;rw [h2];exact Nat.lt_of_lt_of_le h1 h6
     obtain ⟨g1,g2,g3⟩:=GUESS.out R' f HRD.out hfR;have hlo:(((f / (T+1):Nat)):Int)=(f:Int) / ((T:Int)+1):=by rw [Int.natCast_ediv];rfl
     have hhi:(((f / T:Nat)):Int)=(f:Int) / (T:Int):=by rw [Int.natCast_ediv]
     have hl1:f / (T+1)≤f:=Nat.div_le_self _ _;generalize f / (T+1)=lo at *;generalize f / T=hi1 at *;have hz1:(((T:Int)+1) == 0)=false:=by simp;omega
     have hz2':((T:Int) == 0)=false:=by simp;omega
     clear HF hfR;have HG1:=zh g1;have HG2:=zh g2;have hlo2:(f:Int) / ((T:Int)+1)=(lo:Int):=hlo.symm;have hhi2:(f:Int) / (T:Int)=(hi1:Int):=hhi.symm;clear g1 g2 hlo hhi;go_wp2_with fail
     go_quiet (fail)
     obtain ⟨w3,Ew3⟩:∃ y,w2.drewN nq=y:=⟨_,rfl⟩;have hw3:Below w2.heap.size w2 w3:=by rw [← Ew3];exact below_drewN (Below.refl _ _) _
     rw [Ew3];replace WB:=zh (WB.out.later hw3);replace HB:=zh (Bt HB.out hw3);replace uX:=zh (uX.out.later hw3);clear Ew3 hw3 HQ3 hf8 hl1 hz1 hz2' hlo2 hhi2;obtain ⟨wo,rfl⟩:∃ wo:World,wo=wr:=⟨_,rfl⟩;have h13:hi1+1≤10001:=g3
     have hlh:lo<hi1+1:=by
      have h1:=HG1.out;have h2:=HG2.out
      rcases Nat.lt_or_ge lo (hi1+1) with h|h
      ·exact h
      ·exfalso
       have h3:(hi1+1)*D≤lo*D:=Nat.mul_le_mul_right _ h;omega
     go_wp2_with fail
     go_loopw [15,16,17] (fun lv hv _ wr=>∃ lo hi:Nat,lo<hi∧hi≤10001∧lv= .int .i64 lo∧hv= .int .i64 hi∧Hid (lo*D≤R')∧Hid (R'<hi*D)∧Hid (Nm wr (.slice (some ⟨b3,o3,none⟩) z3 c3) R')∧Hid (Below w.heap.size w wr) ∧
       Hid (ah wr w.heap.size (ints (List.replicate (j+1) 0++s)).toArray 3))
      (fun lv hv _ _=>(intOf hv - intOf lv).toNat)
     case atStart=>exact ⟨lo,hi1+1,hlh,h13,rfl,by go_num,HG1,HG2,WB,HB,uX⟩
     case round =>
      clear WB HB uX HG1 HG2 hlh h13 g3;obtain ⟨lo,hi,hlh,hhb,rfl,rfl,HG1,HG2,WB,HB,uX⟩:=hrel
      by_cases hfin:lo+1<hi
      ·obtain ⟨f1,f2,f3,f4⟩:=aB1 HG1.out HRD.out hhb hfin;have hmi:((lo:Int)+(hi:Int)) / 2=(((lo+hi) / 2:Nat):Int):=by omega
       obtain ⟨mm,emm⟩:∃ y,(lo+hi) / 2=y:=⟨_,rfl⟩;rw [emm] at f2 f3 f4 hmi;have hgt:(1:Int)<(hi:Int) - (lo:Int):=by omega
       have Yo:=zh (Gu _ (.slice (some ⟨wr.heap.size,0,none⟩) 1 1) bl [mm] (wr.alloc (.cells #[.int .i64 (mm:Int)] 3)) (HBS.out.later (Bt HB.out (dA (Below.refl _ _) _))) Gs.one HDB.out (.inr ⟨rfl,fun x hx=>by rw [List.mem_singleton.1 hx];exact f2⟩) (by rw [yw.out];omega) zi);clear emm;go_wp2_with fail
       refine Yo.out.mono ?_;rintro e w4 ⟨v4,rfl,hb4,hv4⟩;have hval:val 10000 bl*val 10000 [mm]=D*mm:=by rw [HD.out];simp [val]
       rw [hval] at hv4;have hct:=yY v4 _ w4 hv4.gs (bg zo _);rw [aR zo] at hct;have HC4:=zh hct;have h14:Below wr.heap.size wr w4:=Bt (dA (Below.refl _ _) _) hb4;obtain ⟨p4,l4,c4,rfl⟩:=hv4.slice;replace WB:=zh (WB.out.later h14);replace HB:=zh (Bt HB.out h14);replace uX:=zh (uX.out.later h14);clear hval hct hb4 h14 hv4 Yo;go_wp2_with fail
       refine HC4.out.mono ?_;rintro e w' ⟨v5,rfl,rfl,hv5⟩;obtain ⟨p5,l5,c5,rfl⟩:=hv5.slice;have HO:=zh (Gz _ _ (D*mm) R' w4 hv5 WB.out);clear hv5 HC4;go_wp2_with fail
       refine HO.out.mono ?_;rintro e w5 ⟨r,rfl,hb5,hor⟩;replace WB:=zh (WB.out.later hb5);replace HB:=zh (Bt HB.out hb5);replace uX:=zh (uX.out.later hb5);clear HO hb5
       by_cases hle:D*mm≤R'
       ·have hr:r≤0:=hor.1.2 hle;have HLE:Hid (mm*D≤R'):=zh (by rw [Nat.mul_comm];exact hle);clear hle hor;go_wp2_with fail
        go_roundw
        case rel=>exact ⟨mm,hi,f4,hhb,rfl,rfl,HLE,HG2,WB,HB,uX⟩
        case measure=>exact zM
       ·have hr:¬ r≤0:=fun h=>hle (hor.1.1 h);have HLT:Hid (R'<mm*D):=zh (by rw [Nat.mul_comm];omega);clear hle hor;go_wp2_with fail
        go_roundw
        case rel=>exact ⟨lo,mm,f3,by omega,rfl,rfl,HG1,HLT,WB,HB,uX⟩
        case measure=>exact zM
      ·have hh:hi=lo+1:=by omega
       subst hh;have hgt:¬ (1:Int)<(lo:Int)+1 - (lo:Int):=by omega
       obtain ⟨hdv,hmd⟩:=aG0 HG1.out HG2.out
       have bd5:lo<10000:=by
        rw [← hdv,Nat.div_lt_iff_lt_mul zo,Nat.mul_comm];exact HRD.out
       have LA:=zh hdv;have HMD:=zh hmd;have hbs:=uX.out.set j (.int .i64 (lo:Int));rw [List.setIfInBounds_toArray,ints_set,zG] at hbs;have fbx:=uX.out.free j
       have hcx:wr.cell? ⟨w.heap.size,j,none⟩=some (.int .i64 0):=by
        rw [uX.out.cell,List.getElem?_toArray,uR (by rw [List.length_append,List.length_replicate];omega),xC zo];rfl
       have hbw:Below w.heap.size w (wr.setCell ⟨w.heap.size,j,none⟩ (.int .i64 (lo:Int))):=HB.out.setCell (Nat.le_refl _) _;obtain ⟨w6,Ew6⟩:∃ y,wr.setCell ⟨w.heap.size,j,none⟩ (.int .i64 (lo:Int))=y:=⟨_,rfl⟩;rw [Ew6] at hbs hbw;have hn6:Nm w6 (.slice (some ⟨b3,o3,none⟩) z3 c3) R':=by rw [← Ew6];exact Nm.setBlock WB.out hb3 _ _
       have Yo:=zh (Gu _ (.slice (some ⟨w6.heap.size,0,none⟩) 1 1) bl [lo] (w6.alloc (.cells #[.int .i64 (lo:Int)] 3)) (HBS.out.later (Bt hbw (dA (Below.refl _ _) _))) Gs.one HDB.out (.inl (iM.nil.cons bd5)) (by rw [yw.out];omega) zi);have HB6:=zh hbw;have HN6:=zh hn6;have ah8:=zh hbs;clear hdv hmd hbs hbw hn6 HB WB uX HG1 HG2 hlh hhb;go_wp2_with fail
       clear Ew6 fbx hcx;refine Yo.out.mono ?_;rintro e w7 ⟨v4,rfl,hb4,hv4⟩;have hval:val 10000 bl*val 10000 [lo]=D*lo:=by rw [HD.out];simp [val]
       rw [hval] at hv4;have h17:Below w6.heap.size w6 w7:=Bt (dA (Below.refl _ _) _) hb4;obtain ⟨p4,l4,c4,rfl⟩:=hv4.slice;have hdl:D*lo≤R':=by rw [← LA.out];exact Nat.mul_div_le R' D
       have HDF:=zh (JV _ _ R' (D*lo) w7 (HN6.out.later h17) hv4 (by rw [HZ3.out];have:=HSR.out;omega) hdl);replace HB6:=zh (Bt HB6.out h17);replace ah8:=zh (ah8.out.later h17);clear hval h17 hb4 hv4 Yo HN6 hdl;go_wp2_with fail
       refine HDF.out.mono ?_;rintro e w8 ⟨v8,rfl,Bd,Tt⟩;obtain ⟨p8,l8,c8,rfl⟩:=Tt.slice;have HN8:=zh Tt;replace HB6:=zh (Bt HB6.out Bd);replace ah8:=zh (ah8.out.later Bd);clear HDF Bd Tt;go_wp2_with fail
       go_roundw
       case rel =>
        have ej2:((j:Int) - 1+1).toNat=j:=by omega
        refine ⟨(j:Int) - 1,R'%D,lo::s,by omega,by omega,rfl,zh (by rw [ej2,List.length_cons,HS.out];omega),zh (by rw [ej2];exact ah8.out),zh (HDS.out.cons bd5),zh (by rw [ej2];exact HST.out lo LA.out),zh (Nat.mod_lt _ hD0),zh ?_,HB6⟩;rw [HMD.out];exact HN8.out
       case measure=>simp [intOf]
theorem Pm (x y:Value) (a b:Nat) (w:World) (hx:Nm w x a) (hy:Nm w y b) (hb:0<b) (ha:sz 10000 a≤274877906944) (hsb:sz 10000 b≤274877906944) :
  Calls Tryz.prog 260 #[x,y] w (xG w a b):=by
 have hlen:(eO 10000 b).length=sz 10000 b:=rfl
 have hs1:1≤sz 10000 b:=by
  rcases Nat.eq_zero_or_pos (sz 10000 b) with h|h
  ·have:=ku (B:=10000) zo b;rw [h] at this;simp at this
   omega
  ·exact h
 have htp:=qD (B:=10000) zo b;obtain ⟨pb,cb,rfl,h1,h2,h3⟩:=hy.read
 by_cases hone:sz 10000 b=1
 ·rw [hone] at h3 ⊢
  have hd:eO 10000 b=[b]:=by
   have e:=aR (B:=10000) zo b
   match hl:eO 10000 b,hlen with
   | [d],_=>rw [hl] at e;simp [val] at e;rw [e]
   | [],h=>rw [hone] at h;cases h
   | _:: _:: _,h=>rw [hone] at h;simp at h
  have hb4:b<10000:=by
   have:=bg (B:=10000) zo b;rw [hd] at this;exact this.head
  obtain ⟨b',o',e, -, hc⟩:=h3 0 zo;rw [hd] at hc;exact Xh x a b pb cb w hx zo hb hb4 ⟨b',o',e,hc⟩
 ·obtain ⟨p,hp⟩:∃ p,sz 10000 b=p+2:=⟨sz 10000 b - 2,by omega⟩
  by_cases hlt:sz 10000 a≤p+1
  ·rw [hp];exact Sr x a p b pb cb w hx hlt zo (wL (B:=10000) zo zo)
  ·have hgs:=hy.gs;rw [hp] at hgs ⊢;refine Sq x a (p+1) p (sz 10000 a - (p+1)) b (eO 10000 b) pb cb w hx hgs (by rw [hlen,hp]) (bg zo b) ?_ rfl zo zo ha (aR zo b);have:=htp (p+1) (by rw [hlen,hp]);omega
theorem Vt (b:Bool) (v:Value) (n:Nat) (z:Int) (w:World) (h:Nm w v n) (hz:kM n b=z) :
  Calls Tryz.prog 258 #[.bool b,v] w fun e w'=>∃ v',e= .returned v'∧Below w.heap.size w w'∧Pl w' v' z:=by
 have:=qz b v _ w h.gs (bg zo _)
 rwa [aR zo,hz] at this
def aL2 (w:World) (z:Int) (e:Ending) (w':World):Prop:=∃ v',e= .returned v'∧Below w.heap.size w w'∧Pl w' v' z
theorem az9 {P:Program} {fn:Func} {R:Ending→World→Prop} {w:World} {tmps:Array Value} {p q:Tmp} {ty t Rk t2:TypeId} {g g2:Nat} {cs cs2:Array Value} {d d2:TypeDesc} (h:fn.results=#[.cell p ty,.cell q Rk])
  (hp:tmps.getD p undef= .pointer (some ⟨g,0,none⟩)) (hg:ah w g cs t) (hu:P.underlying ty=some d)
  (hd:(match d with| .struct _| .array _ _=>true| _=>false)=true) (hi:(P.info? ty).map (·.size)=some cs.size)
  (hp2:tmps.getD q undef= .pointer (some ⟨g2,0,none⟩)) (hg2:ah w g2 cs2 t2) (hu2:P.underlying Rk=some d2)
  (hd2:(match d2 with| .struct _| .array _ _=>true| _=>false)=true) (hi2:(P.info? Rk).map (·.size)=some cs2.size)
  (k:R (.returned (.tuple #[.agg cs,.agg cs2])) w):bodyPost P fn R .ret { tmps:=tmps,defers:=[] } w:=by
 refine bodyPost_ret ?_ rfl k
 have e:(results fn tmps).run P w=((asAddr (tmps.getD p undef)).run P w).andThen fun a w₁=>((loadVar ty a).run P w₁).andThen fun v w₂=>((asAddr (tmps.getD q undef)).run P w₂).andThen fun a w₁=>((loadVar Rk a).run P w₁).andThen fun v2 w₂=>.ok (.tuple #[v,v2]) w₂:=by
  simp only [results,h];simp [Sem.run_bind,Result.andThen]
 rw [e,hp,hp2];simp only [asAddr,Sem.run_pure,Result.andThen_ok];rw [run_loadVar_row w g t ty cs (0,0) d hg hu hd hi];simp only [Result.andThen_ok,Sem.run_pure];rw [run_loadVar_row w g2 t2 Rk cs2 (0,0) d2 hg2 hu2 hd2 hi2];rfl
theorem Nm.inj {w:World} {v:Value} {m n:Nat} (h:Nm w v m) (k:Nm w v n):m=n:=by
 obtain ⟨p,c,rfl, -, -, h1⟩:=Gs.read h.gs;obtain ⟨p',c',e, -, -, h2⟩:=Gs.read k.gs;simp only [Value.slice.injEq] at e;obtain ⟨rfl,hl,rfl⟩:=e
 have:eO 10000 m=eO 10000 n:=by
  refine List.ext_getElem hl fun i hi hi2=>?_;obtain ⟨b,o,e, -, hc⟩:=h1 i hi;obtain ⟨b',o',e', -, hc'⟩:=h2 i hi2;rw [e] at e';simp only [Option.some.injEq,Addr.mk.injEq,and_true] at e';obtain ⟨rfl,rfl⟩:=e';rw [hc] at hc';simp only [Option.some.injEq,Value.int.injEq,true_and] at hc';rw [List.getD_eq_getElem?_getD,List.getD_eq_getElem?_getD,List.getElem?_eq_getElem hi,List.getElem?_eq_getElem hi2] at hc'
  simpa using Int.ofNat_inj.mp hc'
 rw [← aR (B:=10000) zo m,this,aR zo]
open Classical in
noncomputable def aA9 (w:World) (v:Value):Nat:=if h:∃ n,Nm w v n then h.choose else 0
theorem Vr {w:World} {v:Value} {n:Nat} (h:Nm w v n):aA9 w v=n:=by
 unfold aA9;rw [dif_pos ⟨n,h⟩];exact Nm.inj (Exists.choose_spec (⟨n,h⟩:∃ n,Nm w v n)) h
theorem Jt (x y:Value) (a b:Int) (w:World) (hx:Pl w x a) (hy:Pl w y b) (ha:sz 10000 a.natAbs≤274877906944) (hb:sz 10000 b.natAbs≤274877906944) :
  Calls Tryz.prog 208 #[x,y] w (aL2 w (Nat.gcd a.natAbs b.natAbs)):=by
 obtain ⟨bA,JJ,lA,Ls,rfl⟩:=hx.agg;obtain ⟨bB,Yz,lB,YE,rfl⟩:=hy.agg;have NA:=zh hx.nm.1;have NB:=zh hy.nm.1;obtain ⟨G,EG⟩:∃ G,Nat.gcd a.natAbs b.natAbs=G:=⟨_,rfl⟩;rw [EG];have HG:=zh EG;have KA:=zh ha;have KB:=zh hb;have h0:Below w.heap.size w (((w.alloc (.cells #[.bool bA,.slice JJ lA Ls] 161)).alloc (.cells #[.bool bB,.slice Yz lB YE] 161)).alloc (.cells #[.bool false,.slice none 0 0] 161)):=au;obtain ⟨W,EW⟩:∃ y,((w.alloc (.cells #[.bool bA,.slice JJ lA Ls] 161)).alloc (.cells #[.bool bB,.slice Yz lB YE] 161)).alloc (.cells #[.bool false,.slice none 0 0] 161)=y:=⟨_,rfl⟩;have hx1:ah W w.heap.size #[.bool bA,.slice JJ lA Ls] 161:=by rw [← EW];exact aH
 have hx2:ah W (w.heap.size+1) #[.bool bB,.slice Yz lB YE] 161:=by rw [← EW];exact aH
 have hx3:ah W (w.heap.size+1+1) #[.bool false,.slice none 0 0] 161:=by rw [← EW];exact ah.at2 _ _ _ _ _
 rw [EW] at h0;have c1:=hx1.cell;have c2:=hx2.cell;have l1:=hx1.lt;have l2:=hx2.lt;have HX3:=zh hx3;clear EG hx hy ha hb hx1 hx2 hx3;go_enter Tryz.func208,Tryz.ntmps208
 go_wp2_with fail
 go_quiet (fail)
 clear EW c1 c2 l1 l2;have hq:Below W.heap.size W (W.drewN nq):=below_drewN (Below.refl _ _) _;obtain ⟨W1,E1⟩:∃ y,W.drewN nq=y:=⟨_,rfl⟩;rw [E1] at hq ⊢;clear E1;replace HX3:=zh (HX3.out.later hq);have h1:=Bt h0 hq;have HA1:=zh (NA.out.later h1);have HB1:=zh (NB.out.later h1);clear hq h0 NA NB;go_wp2_with fail
 go_loopw [5,6,7,8] (fun xv yv _ _ wr=>∃ p q:Nat,Hid (Nm wr xv p)∧Hid (Nm wr yv q)∧Hid (Nat.gcd p q=G)∧Hid (sz 10000 p≤274877906944)∧Hid (sz 10000 q≤274877906944)∧Hid (Below W1.heap.size W1 wr)) (fun _ yv _ _ wr=>aA9 wr yv)
 case atStart=>exact ⟨_,_,HA1,HB1,HG,KA,KB,zh (Below.refl _ _)⟩
 case round =>
  clear HA1 HB1;obtain ⟨p,q,HP,HQ,HPG,KP,KQ,HB⟩:=hrel;obtain ⟨pp,lp,cp,rfl⟩:=HP.out.slice;obtain ⟨pq,lq,cq,rfl⟩:=HQ.out.slice
  rcases Nat.eq_zero_or_pos q with h0|h0
  ·subst h0;have hl:=HQ.out.bq6 rfl;subst hl;have hpg:Hid (p=G):=zh (by have:=HPG.out;rwa [Nat.gcd_zero_right] at this);have hres:=HX3.out.later HB.out;have cr:=hres.cell;have fr:=hres.free;go_wp2_with fail
   refine dG rfl rfl aH Tryz.underlying161 rfl zk ?_;have hlt:=HX3.out.lt;have hB2:Below w.heap.size w wr:=Bt h1 HB.out;refine ⟨_,rfl,au,Pl.mk (n:=p) ((HP.out.setOther hres zd 0 _).setOther (hres.set 0 _) zd 1 _) (by rw [hpg.out];rfl) ?_⟩;simp
  ·have hl:=HQ.out.bq5 h0;have HPT:=zh (Pm _ _ p q wr HP.out HQ.out h0 KP.out KQ.out);have H0:=zh h0;clear h0;go_wp2_with fail
   refine HPT.out.mono ?_;rintro e w2 ⟨qv,rv,rfl,hb2,hq2,hr2⟩;obtain ⟨p3,l3,c3,rfl⟩:=hq2.slice;obtain ⟨p4,l4,c4,rfl⟩:=hr2.slice;have HR2:=zh hr2;have HQ2:=zh (HQ.out.later hb2);have HB2:=zh (Bt HB.out hb2);clear hr2 hq2 hb2 HPT;go_wp2_with fail
   go_roundw
   case rel =>
    refine ⟨q,p%q,HQ2,HR2,zh ?_,KQ,zh ?_,HB2⟩
    ·rw [Nat.gcd_comm,← Nat.gcd_rec,Nat.gcd_comm];exact HPG.out
    ·exact Nat.le_trans (jO zo (Nat.mod_le _ _)) KP.out
   case measure =>
    rw [Vr HR2.out,Vr HQ.out];exact Nat.mod_lt _ H0.out
end Go.Proofs.aG
namespace Go.Proofs.aG
open Go Go.RowKit Go.SW Go.Num Go.Mem Go.Proofs
theorem ak5 {a b:Int} (hb:0<b) (h:0≤a∨b ∣ a):kM (a.natAbs / b.natAbs) (decide (a<0))=a / b∧kM (a.natAbs%b.natAbs) (decide (a<0))=a%b∧0≤a%b:=by
 have hm:=Int.emod_nonneg a (show b≠0 by omega)
 rcases h with h|h
 ·have h1:¬ a<0:=by omega
  unfold kM;simp only [h1,decide_false,Bool.false_eq_true,if_false];obtain ⟨x,rfl⟩:=Int.eq_ofNat_of_zero_le h;obtain ⟨y,rfl⟩:=Int.eq_ofNat_of_zero_le (Int.le_of_lt hb);simp only [Int.natAbs_natCast];exact ⟨by rw [Int.natCast_ediv],by rw [Int.natCast_emod],hm⟩
 ·have e1:a%b=0:=Int.emod_eq_zero_of_dvd h;have e2:a.natAbs%b.natAbs=0:=Nat.mod_eq_zero_of_dvd (Int.natAbs_dvd_natAbs.2 h);refine ⟨?_,by rw [e1,e2];unfold kM;simp,hm⟩;obtain ⟨c,rfl⟩:=h;have h2:=OM (z:=b*c) (y:=b) ⟨c,rfl⟩;have h3:¬ b<0:=by omega
  simpa [h3] using h2
def Uw (w:World) (q r:Int) (e:Ending) (w':World):Prop:=∃ x y,e= .returned (.tuple #[x,y])∧Below w.heap.size w w'∧Pl w' x q∧Pl w' y r
theorem AA (x y:Value) (a b:Int) (w:World) (hx:Pl w x a) (hy:Pl w y b) (ha:sz 10000 a.natAbs≤274877906944) (hb:sz 10000 b.natAbs≤274877906944) (hb0:0<b) (hd:0≤a∨b ∣ a) :
  Calls Tryz.prog 262 #[x,y] w (Uw w (a / b) (a%b)):=by
 obtain ⟨bA,JJ,lA,Ls,rfl⟩:=hx.agg;obtain ⟨bB,Yz,lB,YE,rfl⟩:=hy.agg;obtain ⟨nA,eA⟩:=hx.nm;obtain ⟨nB,eB⟩:=hy.nm;have hbf:bB=false:=by rw [eB];simp;omega
 subst hbf;obtain ⟨s1,s2,s3⟩:=ak5 hb0 hd;rw [← eA] at s1 s2;have NAn:=zh nA;have NBn:=zh nB;have KA:=zh ha;have KB:=zh hb;have H0:Hid (0<b.natAbs):=zh zo;have HS1:=zh s1;have HS2:=zh s2;have HS3:=zh s3;clear hx hy ha hb hb0 hd nA nB eA eB s1 s2 s3;go_enter Tryz.func262,Tryz.ntmps262
 go_wp2_with fail
 obtain ⟨xW,EW,hz,X1,X2,X3,X4⟩:=al4 w #[.bool bA,.slice JJ lA Ls] 161 #[.bool false,.slice Yz lB YE] 161 #[.bool false,.slice none 0 0] 161 #[.bool false,.slice none 0 0] 161;rw [EW];replace NAn:=zh (NAn.out.later hz);have hk2:=Bt (Below.refl _ _) hz;clear EW hz;refine (Pm _ _ _ _ _ NAn.out (NBn.out.later hk2) H0.out KA.out KB.out).mono ?_;rintro e Fv ⟨q,r,rfl,hb3,hq,hr⟩;obtain ⟨paQ,lQ,caQ,rfl⟩:=hq.slice;obtain ⟨paR,lR,caR,rfl⟩:=hr.slice;replace NAn:=zh (NAn.out.later hb3);replace X1:=X1.bl hb3;replace X2:=X2.bl hb3;replace X3:=X3.bl hb3;replace X4:=X4.bl hb3;have hk5:=Bt hk2 hb3;clear hk2;have NQ:=zh hq;have NR:=zh hr;clear hb3 hq hr;have HL4:=zh X4.out.lt;go_wp2_with fail
 obtain ⟨aO,aN,aP⟩:=X1.clf;obtain ⟨dI,dH,dO⟩:=X2.clf;refine aC [(.pure,0),(.read,1),(.pure,2),(.read,3),(.pure,4),(.pure,5),(.pure,7),(.read,8),(.pure,9),(.ext,6),(.ext,10),(.alloc #[.bool false,.slice none 0 0] 161,11),(.alloc #[.bool false,.slice none 0 0] 161,12),(.fin,13),(.fin,14)] zk zk zR zP ?_;refine zV ?_;refine aL rfl rfl (fun we6 hb6 J hJ=>?_);go_simp;have Qb:Below Fv.heap.size Fv we6:=au;clear hb6;refine (Vt _ _ _ _ _ (NQ.out.later Qb) HS1.out).mono ?_;rintro e wc7 ⟨v,rfl,qZ,Tt⟩;obtain ⟨bU,Yx,lU,YC,rfl⟩:=Tt.agg;refine hJ _ _ qZ ?_;clear hJ J;have hh7:=Bt Qb qZ;have NU:=zh Tt;clear Qb qZ Tt;refine zV ?_;refine aL rfl rfl (fun we9 DW J hJ=>?_);go_simp;have VE:Below Fv.heap.size Fv we9:=Bt hh7 au;replace NU:=zh (NU.out.later (show Below wc7.heap.size wc7 we9 from au));clear DW hh7
 refine (Vt _ _ _ _ _ (NR.out.later VE) HS2.out).mono ?_;rintro e YK ⟨v,rfl,Dl,hv⟩;obtain ⟨bV,Yw,lV,YB,rfl⟩:=hv.agg;have hbv:bV=false:=hv.nm.2.trans (decide_eq_false (by have:=HS3.out;omega));subst hbv;refine hJ _ _ Dl ?_;clear hJ J;have ac2:=Bt VE Dl;replace NU:=zh (NU.out.later Dl);have NV:=zh hv;clear VE Dl hv;refine zV ?_;refine jK rfl (fun Qr bF2 bb9 Io ao7 aE2 BI=>?_);go_simp;replace BI:ah _ _ _ _:=BI;have aE0:w.heap.size≤Qr:=(by first|omega|exact Nat.le_trans (Below.size (B:=w.heap.size) au) Io);refine jK rfl (fun Qq bF1 ax4 Im ao6 ac9 Nj=>?_);go_simp;replace Nj:ah _ _ _ _:=Nj;have aD9:w.heap.size≤Qq:=(by first|omega|exact Nat.le_trans (Below.size (B:=w.heap.size) au) Im);replace BI:=ah.later BI ax4;have hne:Qr≠Qq:=fun h=>ac9 (by simp [h])
 have hne2:Qq≠Qr:=fun h=>hne h.symm;refine dK [_,_] rfl (fun aj2 aD0=>?_);replace NU:=zh (NU.out.later (show Below YK.heap.size YK aj2 from au));replace NV:=zh (NV.out.later (show Below YK.heap.size YK aj2 from au));have bf1:Below Fv.heap.size Fv aj2:=Bt ac2 au;have hq0:=BI.later aD0;have cq0:=hq0.cell;have fq0:=hq0.free;have hq1:=Nj.later aD0;have cq1:=hq1.cell;have fq1:=hq1.free;clear BI Nj aD0 ac2;clear aO aN aP dI dH dO;go_wp2_with fail
 obtain ⟨aj0,EW⟩:∃ y,((((aj2.setCell ⟨Qr,0,none⟩ (.bool bU)).setCell ⟨Qr,1,none⟩ (.slice Yx lU YC)).setCell ⟨Qq,0,none⟩ (.bool false)).setCell ⟨Qq,1,none⟩ (.slice Yw lV YB))=y:=⟨_,rfl⟩;have hz:Below Fv.heap.size Fv aj0:=by rw [← EW];exact ((((bf1.setCell Io _).setCell Io _).setCell Im _).setCell Im _)
 have X5:Hid (ah aj0 Qr #[.bool bU,.slice Yx lU YC] 161):=zh (by rw [← EW];exact ((((hq0.set 0 _).set 1 _).setOther _ (by first|exact hne|exact hne2)).setOther _ (by first|exact hne|exact hne2)));have X6:Hid (ah aj0 Qq #[.bool false,.slice Yw lV YB] 161):=zh (by rw [← EW];exact ((((hq1.setOther _ (by first|exact hne|exact hne2)).setOther _ (by first|exact hne|exact hne2)).set 0 _).set 1 _));have t:=((((NU.out.setOther hq0 zd 0 (.bool bU)).setOther (hq0.set 0 _) zd 1 (.slice Yx lU YC)).setOther ((hq1.setOther _ (by first|exact hne|exact hne2)).setOther _ (by first|exact hne|exact hne2)) zd 0 (.bool false)).setOther (((hq1.setOther _ (by first|exact hne|exact hne2)).setOther _ (by first|exact hne|exact hne2)).set 0 _) zd 1 (.slice Yw lV YB));rw [EW] at t;replace NU:=zh t;clear t
 have t:=((((NV.out.setOther hq0 zd 0 (.bool bU)).setOther (hq0.set 0 _) zd 1 (.slice Yx lU YC)).setOther ((hq1.setOther _ (by first|exact hne|exact hne2)).setOther _ (by first|exact hne|exact hne2)) zd 0 (.bool false)).setOther (((hq1.setOther _ (by first|exact hne|exact hne2)).setOther _ (by first|exact hne|exact hne2)).set 0 _) zd 1 (.slice Yw lV YB));rw [EW] at t;replace NV:=zh t;clear t;rw [EW];clear EW hq0 cq0 fq0 hq1 cq1 fq1 bf1;clear NAn;replace X1:=X1.bl hz;replace X2:=X2.bl hz;replace X3:=X3.bl hz;replace X4:=X4.bl hz;replace NQ:=zh (NQ.out.later hz);replace NR:=zh (NR.out.later hz);have aC5:=Bt hk5 hz;clear hk5;clear hz;clear bb9 aE2 ac9 aE0 aD9 ax4;have aC4:=Io;have aC3:=Im;clear Io Im ao7 ao6;have c5:=X5.out.cell;have c6:=X6.out.cell;have c3:=X3.out.cell;have c4:=X4.out.cell;have f3:=X3.out.free;have f4:=X4.out.free
 have hl4:=HL4.out;have n1:Qq≠w.heap.size+1+1:=by omega
 have n2:Qq≠w.heap.size+1+1+1:=by omega
 have n3:Qr≠w.heap.size+1+1:=by omega
 have n4:Qr≠w.heap.size+1+1+1:=by omega
 have h3:=X3.out;have h4:=X4.out;clear X1 X2 X5 X6 NQ NR HS1 HS2 HS3 H0 KA KB NBn hne hne2 hl4 HL4 aC4 aC3;go_region
 go_wp2_with fail
 have h4b:=(h4.setOther (a:=⟨w.heap.size+1+1,0,none⟩) (.bool bU) zi).setOther (a:=⟨w.heap.size+1+1,1,none⟩) (.slice Yx lU YC) zi;have h3b:=(((h3.set 0 (.bool bU)).set 1 (.slice Yx lU YC)).setOther (a:=⟨w.heap.size+1+1+1,0,none⟩) (.bool false) zi).setOther (a:=⟨w.heap.size+1+1+1,1,none⟩) (.slice Yw lV YB) zi;have hU:=(NU.out.set2 h3 zd 0 1 (.bool bU) (.slice Yx lU YC)).set2 h4b zd 0 1 (.bool false) (.slice Yw lV YB);have hV:=(NV.out.set2 h3 zd 0 1 (.bool bU) (.slice Yx lU YC)).set2 h4b zd 0 1 (.bool false) (.slice Yw lV YB);refine az9 rfl rfl (ah.drew h3b) Tryz.underlying161 rfl zk rfl (ah.drew ((h4b.set 0 (.bool false)).set 1 (.slice Yw lV YB))) Tryz.underlying161 rfl zk ?_;exact ⟨_,_,rfl,au,hU.later (Below.drew (Below.refl _ _)),hV.later (Below.drew (Below.refl _ _))⟩
end Go.Proofs.aG
namespace Go.Proofs.aG
open Go Go.RowKit Go.SW Go.Num Go.Mem Go.Proofs Go.Dec
theorem aq2 (d:Nat) (hd:d<10000) (w:World) :
  Calls Tryz.prog 259 #[.int .i64 (d:Int)] w fun e w'=>e= .returned (.string ⟨(pad 4 d).toArray⟩)∧Below w.heap.size w w':=by
 have hp:pad 4 d=[UInt8.ofNat (48+d / 1000),UInt8.ofNat (48+d / 100%10),UInt8.ofNat (48+d / 10%10),UInt8.ofNat (48+d%10)]:=by
  simp only [pad,List.nil_append,List.cons_append];rw [show d / 10 / 10 / 10%10=d / 1000 by omega,show d / 10 / 10%10=d / 100%10 by omega]
 have hb:∀ x:Nat,x<10→((UInt8.ofNat (48+x)).toNat:Int)=48+(x:Int):=fun x hx=>by
  rw [qp hx];omega
 have e1:=hb (d / 1000) zo;have e2:=hb (d / 100%10) zo;have e3:=hb (d / 10%10) zo;have e4:=hb (d%10) zo
 have hcv:(convert 275 9 (.slice (some ⟨w.heap.size,0,none⟩) 4 4)).run Tryz.prog (w.alloc (.cells #[.int .u8 (48+(d:Int) / 1000),.int .u8 (48+(d:Int) / 100%10),.int .u8 (48+(d:Int) / 10%10),.int .u8 (48+(d:Int)%10)] 5))
   = .ok (.string ⟨(pad 4 d).toArray⟩) (w.alloc (.cells #[.int .u8 (48+(d:Int) / 1000),.int .u8 (48+(d:Int) / 100%10),.int .u8 (48+(d:Int) / 10%10),.int .u8 (48+(d:Int)%10)] 5)):=by
  have hx:=ah.new w #[.int .u8 (48+(d:Int) / 1000),.int .u8 (48+(d:Int) / 100%10),.int .u8 (48+(d:Int) / 10%10),.int .u8 (48+(d:Int)%10)] 5;have hl:=su 4 d
  have:=run_convert_bytes_back (P:=Tryz.prog) (w.alloc (.cells #[.int .u8 (48+(d:Int) / 1000),.int .u8 (48+(d:Int) / 100%10),.int .u8 (48+(d:Int) / 10%10),.int .u8 (48+(d:Int)%10)] 5)) 275 9 5 ⟨w.heap.size,0,none⟩ 4 (pad 4 d) Tryz.underlying275 Tryz.underlying5 Tryz.underlying9 (fun j hj=>by
   rw [Addr.add_lit,hx.cell,Nat.zero_add];rw [hl] at hj
   match j,hj with
   | 0,_=>simp only [hp,List.getElem_cons_zero,e1];rfl
   | 1,_=>simp only [hp,List.getElem_cons_zero,List.getElem_cons_succ,e2];rfl
   | 2,_=>simp only [hp,List.getElem_cons_zero,List.getElem_cons_succ,e3];rfl
   | 3,_=>simp only [hp,List.getElem_cons_zero,List.getElem_cons_succ,e4];rfl)
  rwa [hl] at this
 obtain ⟨B,EB⟩:∃ B:ByteArray,Hid ((⟨(pad 4 d).toArray⟩:ByteArray)=B):=⟨_,zh rfl⟩;rw [EB.out] at hcv ⊢;clear e1 e2 e3 e4 hb hp EB;go_enter Tryz.func259,Tryz.ntmps259
 go_wp2
 go_ret
 exact ⟨rfl,au⟩
def txt:List Nat→List UInt8
 | []=>[]
 | d::l=>txt l++pad 4 d
theorem YR {l:List Nat} {i:Nat} (h:i<l.length):txt (l.drop i)=txt (l.drop (i+1))++pad 4 (l.getD i 0):=by
 rw [kP h];rfl
theorem Mk:∀ {l:List Nat},iM 10000 l→Top l→l≠[]→∃ m,txt l=List.replicate m 48++Lib.decDigits (val 10000 l)
 | [],_,_,h=>absurd rfl h
 | d::l,hd,ht,_=>by
  by_cases hl:l=[]
  ·subst hl;refine ⟨4 - (Lib.decDigits d).length,?_⟩;have h1:=Ah 4 d zo (by have:=hd.head;omega)
   show []++pad 4 d=_
   rw [← h1];simp [val]
  ·obtain ⟨m,hm⟩:=Mk hd.tail ht.tail hl;refine ⟨m,?_⟩;have hp:=jS (B:=10000) zo ht.tail hl
   show txt l++pad 4 d=_
   rw [hm,List.append_assoc,← DY 4 _ d hp (by have:=hd.head;omega)];simp only [val];rw [show val 10000 l*10^4+d=d+10000*val 10000 l by omega]
theorem UW (l:List Nat):(txt l).length=4*l.length:=by
 induction l with
 | nil=>rfl
 | cons d l ih=>show (txt l++pad 4 d).length=_;rw [List.length_append,ih,su,List.length_cons];omega
end Go.Proofs.aG
