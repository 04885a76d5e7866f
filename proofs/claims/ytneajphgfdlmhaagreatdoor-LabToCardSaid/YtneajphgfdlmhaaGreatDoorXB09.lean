/- Lemmas for the proof. No condition. -/
import Derived.Test.YtneajphgfdlmhaaGreatDoorXB01
import Derived.Test.YtneajphgfdlmhaaGreatDoorXB02
import Derived.Test.YtneajphgfdlmhaaGreatDoorXB03
import Derived.Test.YtneajphgfdlmhaaGreatDoorProg
import Derived.Deep.QuietTactic
import Derived.BigQuiet
import Derived.WalkSmall
import Derived.KernelRfl
import Derived.Deep.AppendSrc
import Derived.Deep.DeepAppendWide
import Derived.RegionTactic
import Derived.Deep.Cut
set_option linter.unusedVariables false
set_option linter.unusedSimpArgs false
set_option maxRecDepth 100000
set_option maxHeartbeats 16000000
namespace Go.Proofs.au
open Go Go.RowKit Go.SW Go.Num Go.Mem Go.Proofs
theorem yL:(Tryz.prog.info? 3).map (fun i=>(i.zero,i.size,i.bytes))=some (some (.int .i64 0),1,8):=by kernel_rfl
theorem Od (b off c:Nat) (l:List Nat) (w:World) (hl:l.length≤c) (hm:c≤9223372036854775807)
   (hc:∀ k,k<l.length→w.cell? ⟨b,off+k,none⟩=some (.int .i64 (l.getD k 0:Nat))) :
    Calls Tryz.prog 297 #[.slice (some ⟨b,off,none⟩) l.length c] w fun e w'=>e= .returned (.slice (some ⟨b,off,none⟩) (trimLen l l.length) c)∧w=w':=by
  go_enter Tryz.func297,Tryz.ntmps297
  go_wp2
  go_loop [3] (fun v=>∃ k:Nat,k≤l.length∧trimLen l k=trimLen l l.length∧v= .int .i64 k) (fun v=>(intOf v).toNat)
  case atStart=>exact ⟨l.length,Nat.le_refl _,rfl,rfl⟩
  case round =>
    obtain ⟨k,hk,ht,rfl⟩:=hrel;have HT:=zh ht;clear ht
    rcases Nat.eq_zero_or_pos k with h0|h0
    · subst h0
      go_wp2
      go_ret
      exact ⟨by rw [← HT.out];rfl,rfl⟩
    · obtain ⟨j,rfl⟩:∃ j,k=j+1:=⟨k - 1,by omega⟩
      have hcj:=hc j zo;have HS:Hid (trimLen l (j+1)=if l.getD j 0=0 then trimLen l j else j+1):=rfl;generalize l.getD j 0=d at hcj HS;clear hc
      rcases Nat.eq_zero_or_pos d with hd|hd
      · subst hd
        go_wp2
        go_round
        case rel=>exact ⟨j,by omega,by rw [← HT.out,HS.out];rfl,by go_num⟩
        case measure=>simp [intOf]
      · have hz:((d:Int) == 0)=false:=by simp;omega
        go_wp2
        go_ret
        exact ⟨by rw [← HT.out,HS.out,if_neg zo];rfl,rfl⟩
theorem an4 (w:World):Calls Tryz.prog 297 #[.slice none 0 0] w fun e w'=>e= .returned (.slice none 0 0)∧w=w':=by
 go_enter Tryz.func297,Tryz.ntmps297
 go_wp2
 refine wp_loop_rounds 1 ?_;rw [rounds_succ]
 go_wp2
 go_ret
 exact ⟨rfl,rfl⟩
theorem xJ (v:Value) (l:List Nat) (w:World) (h:Gs w v l) (hd:dS 10000 l) :
  Calls Tryz.prog 297 #[v] w fun e w'=>∃ v',e= .returned v'∧w=w'∧Nm w v' (val 10000 l):=by
 rcases Gs.cases h with ⟨rfl,rfl⟩|⟨b,off,cap,rfl,h1,h2,h3,⟨arr,h4⟩,h5⟩
 ·refine (an4 w).mono ?_;rintro e w' ⟨rfl,rfl⟩;exact ⟨_,rfl,rfl,by rw [show val 10000 ([]:List Nat)=0 from rfl];exact Nm.zero _⟩
 ·refine (Od b off cap l w h1 h2 h5).mono ?_;rintro e w' ⟨rfl,rfl⟩;refine ⟨_,rfl,rfl,?_⟩;have ht:=trimLen_le l l.length;have e:val 10000 l=val 10000 (l.take (trimLen l l.length)):=by rw [xY _ _ _ (Nat.le_refl _)];simp
  rw [e];refine Nm.YZ ?_ (hd.take _) (xZ l _ (Nat.le_refl _));refine Row.mk (arr:=arr) (by rw [aV];simp;omega) (by rw [aV];simp;omega) h2 h4 fun i hi=>?_;rw [aV] at hi;have hi2:i<l.length:=by simp at hi;omega
  have:=h5 i hi2;rw [h4.cell] at this;rw [this];simp [ints,hi2]
theorem iM (b:Bool) (v:Value) (l:List Nat) (w:World) (h:Gs w v l) (hd:dS 10000 l) :
  Calls Tryz.prog 258 #[.bool b,v] w fun e w'=>∃ v',e= .returned v'∧Below w.heap.size w w'∧Pl w' v' (gT (val 10000 l) b):=by
 have h0:Below w.heap.size w (w.alloc (.cells #[.bool false,.slice none 0 0] 161)):=aD;have hx:=ah.new w #[.bool false,.slice none 0 0] 161;have HG:=zh (xJ v l _ (h.later h0) hd);obtain ⟨a0,c0,rfl, -⟩:=h.read;obtain ⟨W,EW⟩:∃ y,w.alloc (.cells #[.bool false,.slice none 0 0] 161)=y:=⟨_,rfl⟩;rw [EW] at h0 hx HG;have cx:=hx.cell;have fx:=hx.free;generalize val 10000 l=n at *;clear h hd;go_enter Tryz.func258,Tryz.ntmps258
 go_wp2_with fail
 clear EW;refine HG.out.mono ?_;rintro e w' ⟨v',rfl,rfl,hv⟩;obtain ⟨pa,len,ca,rfl⟩:=hv.slice
 have hl:Hid (len=sz 10000 n):=zh (by
  obtain ⟨a,cap,e, -⟩:=hv.read;simp only [Value.slice.injEq] at e;exact e.2.1)
 have HV:=zh hv
 have Un:∀ b:Bool,Hid ((b&&decide ((0:Int)<(len:Int)))=decide (gT n b<0)):=fun b=>zh (by
  rw [← YB]
  have h2:0<n↔0<len:=by
   rw [hl.out];unfold sz;rw [List.length_pos_iff,Ne,nD zo];omega
  rw [show decide ((0:Int)<(len:Int))=decide (0<n) by rw [Bool.eq_iff_iff];simp;omega])
 clear hv;cases b
 ·have HB:=Un false;clear Un;go_wp2_with fail
  refine dH rfl rfl aJ Tryz.underlying161 rfl zk ?_;exact ⟨_,rfl,aD,Pl.mk ((HV.out.setOther hx zd 0 _).setOther (hx.set 0 _) zd 1 _) (jm _ _).symm (by rw [← HB.out];rfl)⟩
 ·have HB:=Un true;clear Un;go_wp2_with fail
  refine dH rfl rfl aJ Tryz.underlying161 rfl zk ?_;exact ⟨_,rfl,aD,Pl.mk ((HV.out.setOther hx zd 0 _).setOther (hx.set 0 _) zd 1 _) (jm _ _).symm (by rw [← HB.out];simp)⟩
theorem vZ (v:Value) (z:Int) (w:World) (h:Pl w v z) :
  Calls Tryz.prog 261 #[v] w fun e w'=>∃ v',e= .returned v'∧Below w.heap.size w w'∧Pl w' v' (-z):=by
 obtain ⟨b,pa,l,ca,rfl⟩:=h.agg;obtain ⟨hn,hbz⟩:=h.nm;have h0:Below w.heap.size w ((w.alloc (.cells #[.bool b,.slice pa l ca] 161)).alloc (.cells #[.bool false,.slice none 0 0] 161)):=aD;have hx:=ah.pF w (.cells #[.bool b,.slice pa l ca] 161) #[.bool false,.slice none 0 0] 161;have ha:=ah.alloc (ah.new w #[.bool b,.slice pa l ca] 161) (.cells #[.bool false,.slice none 0 0] 161);have HG:=zh (fun W (hb:Below w.heap.size w W)=>iM (!b) (.slice pa l ca) _ W (hn.gs.later hb) (aT zo _));have hs:gT z.natAbs (!b)= -z:=by rw [hbz,Yy]
 rw [aP zo,hs] at HG;obtain ⟨W,EW⟩:∃ y,(w.alloc (.cells #[.bool b,.slice pa l ca] 161)).alloc (.cells #[.bool false,.slice none 0 0] 161)=y:=⟨_,rfl⟩;rw [EW] at h0 hx ha;have Ph:=ha.cell;have cx:=hx.cell;have fx:=hx.free;clear hn ha h hbz hs;go_enter Tryz.func261,Tryz.ntmps261
 go_wp2_with fail
 clear EW Ph cx fx;refine (HG.out _ h0).mono ?_;rintro e w' ⟨v',rfl,hb,hv⟩;obtain ⟨bNV,av9,lNV,aB5,rfl⟩:=hv.agg;have NV:=zh hv;clear hv;have hy:=hx.later hb;have cy:=hy.cell;have fy:=hy.free;go_wp2_with fail
 refine dH rfl rfl aJ Tryz.underlying161 rfl zk ?_;exact ⟨_,rfl,aD,NV.out.set2 hy zd _ _ _ _⟩
theorem iQ (n:Int) (w:World) (h1: -9223372036854775808≤n) (h2:n≤9223372036854775807) :
  Calls Tryz.prog 250 #[.int .i64 n] w fun e w'=>∃ v',e= .returned v'∧Below w.heap.size w w'∧Pl w' v' n:=by
 obtain ⟨i0,hi,hz0,hz1,hz2⟩:=info_parts yL;have h0:Below w.heap.size w (w.alloc (.cells #[.bool false,.slice none 0 0] 161)):=aD;have hx:=ah.new w #[.bool false,.slice none 0 0] 161;have HN:=zh (And.intro h1 h2);clear h1 h2;go_enter Tryz.func250,Tryz.ntmps250
 go_wp2
 go_loopw [0,3,5] (fun nv dv _ wr=>∃ (m:Int) (s:List Nat),nv= .int .i64 m∧Hid (-9223372036854775808≤m∧m≤9223372036854775807∧(m=0∨(m<0↔n<0)))∧s.length≤5∧wr.ownsRow (w.heap.size+1) 3 1 dv s.length (ints s)∧Hid (s++bW 10000 m.natAbs=bW 10000 n.natAbs)∧Below (w.heap.size+1) (w.alloc (.cells #[.bool false,.slice none 0 0] 161)) wr)
  (fun nv _ _ _=>(intOf nv).natAbs)
 case atStart=>exact ⟨n,[],rfl,zh ⟨HN.out.1,HN.out.2,.inr Iff.rfl⟩,by simp,World.ownsRow_nil _ _ _ _,zh rfl,Below.refl _ _⟩
 case round =>
  obtain ⟨m,s,rfl,HM,hs5,hown,HD,hb⟩:=hrel
  by_cases hm0:m=0
  ·subst hm0
   have hdg:dS 10000 s:=by
    have:=HD.out;rw [Int.natAbs_zero,fM,List.append_nil] at this;rw [this];exact aT zo _
   have hs:val 10000 s=n.natAbs:=by
    have:=HD.out;rw [Int.natAbs_zero,fM,List.append_nil] at this;rw [this,aP zo]
   have h1:Below w.heap.size w wr:=⟨hb.os,hb.tape,hb.output,Nat.le_trans zi hb.size,fun i hi=>(hb.block i zo).trans (h0.block i hi)⟩;have ZC:=hx.later (w':=wr) ⟨hb.os,hb.tape,hb.output,by have:=hb.size;simpa using this,fun i hi=>hb.block i (by simpa using hi)⟩;have cx:=ZC.cell;have fx:=ZC.free;have HG:=zh (iM (decide (n<0)) u3 s wr (Gs.fI hown) hdg);rw [hs,YA] at HG;obtain ⟨pa,ca,rfl, -⟩:=(Gs.fI hown).read;generalize decide (n<0)=b0 at *;clear hs hdg hown HD HM HN hx h0 hb;go_wp2_with fail
   refine HG.out.mono ?_;rintro e w' ⟨v',rfl,hb,hv⟩;obtain ⟨bNV,av9,lNV,aB5,rfl⟩:=hv.agg;have NV:=zh hv;clear hv;have hy:=ZC.later hb;clear cx fx;have cy:=hy.cell;have fy:=hy.free;go_wp2_with fail
   refine dH rfl rfl aJ Tryz.underlying161 rfl zk ?_;exact ⟨_,rfl,aD,NV.out.set2 hy zd _ _ _ _⟩
  ·have hne:(m == 0)=false:=by simp [hm0]
   have hne':(m != 0)=true:=by simp [hm0]
   have hnp:0<m.natAbs:=by omega
   have hdv:m.natAbs / 10000<m.natAbs:=Nat.div_lt_self hnp zo
   have HNX:Hid ((s++[m.natAbs%10000])++bW 10000 (m.natAbs / 10000)=bW 10000 n.natAbs):=by
    unfold Hid;rw [← HD.out,jF zo hnp,List.append_assoc];rfl
   have hl5:s.length+1≤5:=by
    have k1:=congrArg List.length HNX.out;have k2:=aR (B:=10000) zo 5 n.natAbs (by have:=HN.out;omega);unfold sz at k2;simp only [List.length_append,List.length_cons,List.length_nil] at k1;omega
   have SK:=zh (And.intro hnp hdv);clear hnp hdv
   have hpart:(∃ j:Nat,m= -(j:Int)∧(j:Int)%10000=0)∨(∃ j:Nat,m= -(j:Int)∧0<(j:Int)%10000)∨∃ j:Nat,m=(j:Int)∧¬ (j:Int)%10000<0:=by
    rcases Int.lt_or_gt_of_ne hm0 with hlt|hgt
    ·by_cases hj:m.natAbs%10000=0
     ·exact .inl ⟨m.natAbs,by omega,by omega⟩
     ·exact .inr (.inl ⟨m.natAbs,by omega,by omega⟩)
    ·exact .inr (.inr ⟨m.natAbs,by omega,by omega⟩)
   rcases hpart with ⟨j,rfl,hjm⟩|⟨j,rfl,hjm⟩|⟨j,rfl,hjm⟩
   ·have hM:=HM.out;obtain ⟨k1,k2,k3⟩:=hM;have ej:((-(j:Int))).natAbs=j:=by omega
    rw [ej] at HNX SK
    have ec:Hid (ints s++[.int .i64 0]=ints (s++[j%10000])):=zh (by
     unfold ints;simp only [List.map_append,List.map_cons,List.map_nil];rw [show ((j%10000:Nat):Int)=0 by omega])
    have HK:=zh k3;clear HD k3;go_wp2_with (at_builtin;refine wpList_append_own _ rfl (.tmp 16) (.tmp 18) 159 rfl (w.heap.size+1) 3 i0 (.int .i64 0) 1 8 Tryz.underlying159 hi hz0 hz1 hz2 rfl zd _ _ _ rfl (hown.alloc _) ⟨wr.heap.size,0,none⟩ 1 1 [.int .i64 0] rfl rfl (by intro t u ht;match t,ht with|0,ht=>simp at ht;subst ht;simp [Addr.add]) (by intro u hu;simp at hu;subst hu;rfl) (by unfold maxLen;omega) zo (by have:=hb.size;simp at*; omega) ?_)
    intro v' w1 hown1 hgrow1 _;rw [ec.out] at hown1;have hb3:Below (w.heap.size+1) (w.alloc (.cells #[.bool false,.slice none 0 0] 161)) w1:=(hb.alloc (by have:=hb.size;simpa using this) _).grown hgrow1 (by simp;have:=hb.size;simp at*; omega) (fun k hk=>(hown.lt k hk).1);clear hown hgrow1
    go_wp2
    go_roundw
    case rel=>exact ⟨(-((j:Int) / 10000)),s++[j%10000],rfl,zh (by have:=HK.out;omega),by rw [List.length_append];exact hl5,by rw [List.length_append];exact hown1,zh (by rw [show ((-((j:Int) / 10000))).natAbs=j / 10000 by omega];exact HNX.out),hb3⟩
    case measure=>exact zM
   ·have hM:=HM.out;obtain ⟨k1,k2,k3⟩:=hM;have ej:((-(j:Int))).natAbs=j:=by omega
    rw [ej] at HNX SK
    have ec:Hid (ints s++[.int .i64 ((j:Int)%10000)]=ints (s++[j%10000])):=zh (by
     unfold ints;simp only [List.map_append,List.map_cons,List.map_nil];rw [show ((j%10000:Nat):Int)=((j:Int)%10000) by omega])
    have HK:=zh k3;clear HD k3;go_wp2_with (at_builtin;refine wpList_append_own _ rfl (.tmp 16) (.tmp 18) 159 rfl (w.heap.size+1) 3 i0 (.int .i64 0) 1 8 Tryz.underlying159 hi hz0 hz1 hz2 rfl zd _ _ _ rfl (hown.alloc _) ⟨wr.heap.size,0,none⟩ 1 1 [.int .i64 ((j:Int)%10000)] rfl rfl (by intro t u ht;match t,ht with|0,ht=>simp at ht;subst ht;simp [Addr.add]) (by intro u hu;simp at hu;subst hu;rfl) (by unfold maxLen;omega) zo (by have:=hb.size;simp at*; omega) ?_)
    intro v' w1 hown1 hgrow1 _;rw [ec.out] at hown1;have hb3:Below (w.heap.size+1) (w.alloc (.cells #[.bool false,.slice none 0 0] 161)) w1:=(hb.alloc (by have:=hb.size;simpa using this) _).grown hgrow1 (by simp;have:=hb.size;simp at*; omega) (fun k hk=>(hown.lt k hk).1);clear hown hgrow1
    go_wp2
    go_roundw
    case rel=>exact ⟨(-((j:Int) / 10000)),s++[j%10000],rfl,zh (by have:=HK.out;omega),by rw [List.length_append];exact hl5,by rw [List.length_append];exact hown1,zh (by rw [show ((-((j:Int) / 10000))).natAbs=j / 10000 by omega];exact HNX.out),hb3⟩
    case measure=>exact zM
   ·have hM:=HM.out;obtain ⟨k1,k2,k3⟩:=hM;have ej:((j:Int)).natAbs=j:=by omega
    rw [ej] at HNX SK
    have ec:Hid (ints s++[.int .i64 ((j:Int)%10000)]=ints (s++[j%10000])):=zh (by
     unfold ints;simp only [List.map_append,List.map_cons,List.map_nil];rw [show ((j%10000:Nat):Int)=((j:Int)%10000) by omega])
    have HK:=zh k3;clear HD k3;go_wp2_with (at_builtin;refine wpList_append_own _ rfl (.tmp 16) (.tmp 18) 159 rfl (w.heap.size+1) 3 i0 (.int .i64 0) 1 8 Tryz.underlying159 hi hz0 hz1 hz2 rfl zd _ _ _ rfl (hown.alloc _) ⟨wr.heap.size,0,none⟩ 1 1 [.int .i64 ((j:Int)%10000)] rfl rfl (by intro t u ht;match t,ht with|0,ht=>simp at ht;subst ht;simp [Addr.add]) (by intro u hu;simp at hu;subst hu;rfl) (by unfold maxLen;omega) zo (by have:=hb.size;simp at*; omega) ?_)
    intro v' w1 hown1 hgrow1 _;rw [ec.out] at hown1;have hb3:Below (w.heap.size+1) (w.alloc (.cells #[.bool false,.slice none 0 0] 161)) w1:=(hb.alloc (by have:=hb.size;simpa using this) _).grown hgrow1 (by simp;have:=hb.size;simp at*; omega) (fun k hk=>(hown.lt k hk).1);clear hown hgrow1
    go_wp2
    go_roundw
    case rel=>exact ⟨((j:Int) / 10000),s++[j%10000],rfl,zh (by have:=HK.out;omega),by rw [List.length_append];exact hl5,by rw [List.length_append];exact hown1,zh (by rw [show (((j:Int) / 10000)).natAbs=j / 10000 by omega];exact HNX.out),hb3⟩
    case measure=>exact zM
def Ord (r:Int) (a b:Nat):Prop:=(r≤0↔a≤b)∧(0≤r↔b≤a)
def UY (w:World) (a b:Nat) (e:Ending) (w':World):Prop:=∃ r:Int,e= .returned (.int .i64 r)∧Below w.heap.size w w'∧Ord r a b
theorem Ord.lt {r:Int} {a b:Nat} (h:a<b) (hr:r<0):Ord r a b:=⟨⟨fun _=>by omega,fun _=>by omega⟩,⟨fun _=>by omega,fun _=>by omega⟩⟩
theorem Ord.gt {r:Int} {a b:Nat} (h:b<a) (hr:0<r):Ord r a b:=⟨⟨fun _=>by omega,fun _=>by omega⟩,⟨fun _=>by omega,fun _=>by omega⟩⟩
theorem Ord.eq (a:Nat):Ord 0 a a:=⟨⟨fun _=>by omega,fun _=>by omega⟩,⟨fun _=>by omega,fun _=>by omega⟩⟩
theorem Wq (a b:Option Addr) (m n c d:Nat) (w:World) (h:m≠n) (hm:m≤9223372036854775807) (hn:n≤9223372036854775807) :
  Calls Tryz.prog 299 #[.slice a m c,.slice b n d] w fun e w'=>e= .returned (.int .i64 ((m:Int) - (n:Int)))∧w=w':=by
 have h1:((m:Int) == (n:Int))=false:=by simp;omega
 have h2:((m:Int) != (n:Int))=true:=by simp;omega
 go_enter Tryz.func299,Tryz.ntmps299
 go_wp2
 go_ret
 exact ⟨rfl,rfl⟩
theorem Qh (pa pb:Option Addr) (ca cb:Nat) (l m:List Nat) (w:World) (hlen:l.length=m.length) (hm:l.length≤9223372036854775807) (hl:dS 10000 l) (hmd:dS 10000 m)
   (hc:∀ k,k<l.length→∃ b off,pa=some ⟨b,off,none⟩∧b<w.heap.size∧w.cell? ⟨b,off+k,none⟩=some (.int .i64 (l.getD k 0:Nat)))
   (hd:∀ k,k<m.length→∃ b off,pb=some ⟨b,off,none⟩∧b<w.heap.size∧w.cell? ⟨b,off+k,none⟩=some (.int .i64 (m.getD k 0:Nat))) :
    Calls Tryz.prog 299 #[.slice pa l.length ca,.slice pb m.length cb] w (UY w (val 10000 l) (val 10000 m)):=by
  have HL:=zh hlen;clear hlen;rw [← HL.out];have h1:((l.length:Int) == (l.length:Int))=true:=by simp
  have h2:((l.length:Int) != (l.length:Int))=false:=by simp
  go_enter Tryz.func299,Tryz.ntmps299
  go_wp2
  clear h1 h2
  go_loopw [5] (fun i wr=>∃ q:Int, -1≤q∧q<l.length∧i= .int .i64 q∧l.drop (q+1).toNat=m.drop (q+1).toNat∧Below w.heap.size w wr) (fun i _=>(intOf i+1).toNat)
  case atStart=>exact ⟨(l.length:Int) - 1,by omega,by omega,rfl,by rw [show ((l.length:Int) - 1+1).toNat=l.length by omega,List.drop_length];rw [HL.out,List.drop_length],Below.refl _ _⟩
  case round =>
    obtain ⟨q,hq1,hq2,rfl,hdr,hb⟩:=hrel;have HD:=zh hdr;clear hdr
    by_cases hq:q<0
    · have hq0:q= -1:=by omega
      subst hq0
      go_wp2
      go_ret
      have e:l=m:=by have:=HD.out;simpa using this
      rw [e];exact ⟨0,rfl,hb,Ord.eq _⟩
    · obtain ⟨j,rfl⟩:=Int.eq_ofNat_of_zero_le (by omega:0≤q)
      have hjl:j<l.length:=by omega
      have hjm:j<m.length:=by rw [← HL.out];exact hjl
      obtain ⟨ba,oa,rfl,hba,hx0⟩:=hc j hjl;obtain ⟨bb,ob,rfl,hbb,hy0⟩:=hd j hjm;have hx:wr.cell? ⟨ba,oa+j,none⟩=some (.int .i64 (l.getD j 0:Nat)):=(hb.cell (by exact hba)).trans hx0;have hy:wr.cell? ⟨bb,ob+j,none⟩=some (.int .i64 (m.getD j 0:Nat)):=(hb.cell (by exact hbb)).trans hy0;clear hx0 hy0;have HD2:Hid (l.drop (j+1)=m.drop (j+1)):=by have:=HD.out;rwa [show ((j:Int)+1).toNat=j+1 by omega] at this
      have hlt:Hid (l.getD j 0<m.getD j 0→val 10000 l<val 10000 m):=vH zo hl hjl hjm HD2.out;have hgt:Hid (m.getD j 0<l.getD j 0→val 10000 m<val 10000 l):=vH zo hmd hjm hjl HD2.out.symm;have heq:Hid (l.getD j 0=m.getD j 0→l.drop j=m.drop j):=fun e=>by rw [iH hjl,iH hjm,HD2.out,e]
      have hdx:=hl.getD zo j;have hdy:=hmd.getD zo j;generalize l.getD j 0=x at *;generalize m.getD j 0=y at *;clear HD HD2 hc hd
      by_cases hxy:x=y
      · subst hxy
        have h1:((x:Int) == (x:Int))=true:=by simp
        have h2:((x:Int) != (x:Int))=false:=by simp
        go_wp2
        go_quiet (fail)
        go_wp2
        go_roundw
        case rel=>exact ⟨(j:Int) - 1,by omega,by omega,rfl,by rw [show ((j:Int) - 1+1).toNat=j by omega];exact heq.out trivial,below_drewN hb _⟩
        case measure=>simp [intOf]
      · have h1:((x:Int) == (y:Int))=false:=by simp;omega
        have h2:((x:Int) != (y:Int))=true:=by simp;omega
        go_wp2
        go_quiet (fail)
        have HXY:=zh hxy;have OZ:x<10000:=by have:=hdx;omega
        have hy9:y<10000:=by have:=hdy;omega
        clear hxy
        go_wp2
        go_quiet (fail)
        go_wp2
        go_ret
        refine ⟨(x:Int) - (y:Int),rfl,below_drewN (below_drewN hb _) _,?_⟩;have:=HXY.out
        rcases Nat.lt_or_gt_of_ne HXY.out with h|h
        · exact Ord.lt (hlt.out h) zo
        · exact Ord.gt (hgt.out h) zo
theorem uH (x y:Value) (a b:Nat) (w:World) (hx:Nm w x a) (hy:Nm w y b) :
  Calls Tryz.prog 299 #[x,y] w (UY w a b):=by
 by_cases hs:sz 10000 a=sz 10000 b
 ·obtain ⟨pa,ca,rfl,h1,h2,h3⟩:=Gs.read hx.gs;obtain ⟨pb,cb,rfl,k1,k2,k3⟩:=Gs.read hy.gs;have:=Qh pa pb ca cb _ _ w hs zo (aT zo a) (aT zo b) h3 k3
  rwa [aP zo,aP zo] at this
 ·obtain ⟨pa,ca,rfl,h1,h2, -⟩:=hx.read;obtain ⟨pb,cb,rfl,k1,k2, -⟩:=hy.read;refine (Wq pa pb _ _ ca cb w hs zo zo).mono ?_;rintro e w' ⟨rfl,rfl⟩;refine ⟨_,rfl,Below.refl _ _,?_⟩
  rcases Nat.lt_or_gt_of_ne hs with h|h
  ·exact Ord.lt (uL zo h) zo
  ·exact Ord.gt (uL zo h) zo
theorem Ws (pl:Option Addr) (cl:Nat) (l:List Nat) (d:Nat) (w:World) (hl:dS 10000 l) (hb1:l.length≤1099511627776) (hd0:0<d) (hd1:d≤10000)
   (hc:∀ k,k<l.length→∃ b off,pl=some ⟨b,off,none⟩∧b<w.heap.size∧w.cell? ⟨b,off+k,none⟩=some (.int .i64 (l.getD k 0:Nat))) :
    Calls Tryz.prog 298 #[.slice pl l.length cl,.int .i64 d] w fun e w'=>∃ v,e= .returned (.tuple #[v,.int .i64 (val 10000 l%d:Nat)])∧Below w.heap.size w w'∧Nm w' v (val 10000 l / d):=by
  obtain ⟨i0,hi,hz0,hz1,hz2⟩:=info_parts yL;go_enter Tryz.func298,Tryz.ntmps298
  go_wp2_with (at_make;refine wpList_make_full _ rfl _ _ 159 rfl w.heap.size 3 i0 (.int .i64 0) 1 Tryz.underlying159 hi hz0 hz1 _ _ _ _ l.length rfl rfl zo zo (by rw [hz2];omega) (by unfold maxLen;omega) (Nat.le_refl _) ?_)
  intro w0 hown0 jA;rw [Ad] at hown0
  go_wp2
  go_loopw [7,8] (fun rv iv wr=>∃ (q:Int) (r:Nat) (s:List Nat), -1≤q∧q<l.length∧r<d∧iv= .int .i64 q∧rv= .int .i64 r∧Hid (s.length=l.length - (q+1).toNat) ∧
      wr.ownsRow w.heap.size 3 1 (.slice (some ⟨w.heap.size,0,none⟩) l.length l.length) l.length (ints (List.replicate (q+1).toNat 0++s))∧dS 10000 s∧Hid (val 10000 (l.drop (q+1).toNat)=d*val 10000 s+r)∧Below w.heap.size w wr)
    (fun _ iv _=>(intOf iv+1).toNat)
  case atStart =>
    have e:((l.length:Int) - 1+1).toNat=l.length:=by omega
    exact ⟨(l.length:Int) - 1,0,[],by omega,by omega,hd0,rfl,rfl,zh (by rw [e];simp),by rw [e,List.append_nil];exact hown0,dS.nil,zh (by rw [e,List.drop_length];simp [val]),(Below.refl _ _).grown jA (Nat.le_refl _) (fun k h=>by cases h)⟩
  case round =>
    obtain ⟨q,r,s,hq1,hq2,hrd,rfl,rfl,HS,hown,hds,HV,hb⟩:=hrel
    by_cases hq:q<0
    · have hq0:q= -1:=by omega
      subst hq0;have HF:Hid (val 10000 l=d*val 10000 s+r):=zh (by have:=HV.out;simpa using this);have hown3:Gs wr (.slice (some ⟨w.heap.size,0,none⟩) l.length l.length) s:=by have:=Gs.fI hown;simpa using this
      have e1:Hid (val 10000 l / d=val 10000 s):=by unfold Hid;rw [HF.out,Nat.mul_add_div hd0,Nat.div_eq_of_lt hrd,Nat.add_zero]
      have e2:Hid (val 10000 l%d=r):=by unfold Hid;rw [HF.out,Nat.mul_add_mod,Nat.mod_eq_of_lt hrd]
      clear hown HV HF HS hc;go_wp2_with (go_at_call 297;refine (xJ _ _ _ hown3 hds).mono ?_;rintro e w' ⟨v,rfl,rfl,hv⟩)
      go_ret2
      exact ⟨v,by rw [e2.out];rfl,hb,by rw [e1.out];exact hv⟩
    · obtain ⟨j,rfl⟩:=Int.eq_ofNat_of_zero_le (by omega:0≤q)
      have ej:((j:Int)+1).toNat=j+1:=by omega
      have hjl:j<l.length:=by omega
      rw [ej] at HS HV hown;obtain ⟨b,off,rfl,hbb,hx0⟩:=hc j hjl;have hx:wr.cell? ⟨b,off+j,none⟩=some (.int .i64 (l.getD j 0:Nat)):=(hb.cell (by exact hbb)).trans hx0;have hdl:l.getD j 0<10000:=hl.getD zo j;have hlen:(List.replicate (j+1) 0++s).length=l.length:=by rw [List.length_append,List.length_replicate,HS.out];omega
      have hr1:wr.cell? ⟨w.heap.size,j,none⟩=some (.int .i64 0):=by
        rw [hown.cellAt j zo,qY (by rw [hlen];exact hjl),vS zo];rfl
      have hr2:wr.frozen? ⟨w.heap.size,j,none⟩=false:=hown.frozenAt j;have HP:=zh (CY hjl HV.out);have hdg:=AO hrd hdl;have hmd:=Nat.mod_lt (r*10000+l.getD j 0) hd0
      have HO:Hid (∀ d:Nat,(wr.setCell ⟨w.heap.size,j,none⟩ (.int .i64 (d:Int))).ownsRow w.heap.size 3 1 (.slice (some ⟨w.heap.size,0,none⟩) l.length l.length) l.length (ints (List.replicate j 0++d::s))∧Below w.heap.size w (wr.setCell ⟨w.heap.size,j,none⟩ (.int .i64 (d:Int)))):=fun d=>by
        have h1:=(hown.stored j (.int .i64 (d:Int))).1;rw [ints_set,yA] at h1;exact ⟨h1,hb.setCell (Nat.le_refl _) _⟩
      clear hx0 hc hown hlen;generalize l.getD j 0=x at *;have hqi:(((r*10000+x) / d:Nat):Int)=((r:Int)*10000+(x:Int)) / (d:Int):=by rw [Int.natCast_ediv,Int.natCast_add,Int.natCast_mul];rfl
      have ZG:(((r*10000+x)%d:Nat):Int)=((r:Int)*10000+(x:Int))%(d:Int):=by rw [Int.natCast_emod,Int.natCast_add,Int.natCast_mul];rfl
      generalize (r*10000+x) / d=Q at *;generalize (r*10000+x)%d=M at *;have g1:0≤((r:Int)*10000+(x:Int)) / (d:Int):=by rw [← hqi];omega
      have g2:((r:Int)*10000+(x:Int)) / (d:Int)≤9999:=by rw [← hqi];omega
      have g3:0≤((r:Int)*10000+(x:Int))%(d:Int):=by rw [← ZG];omega
      have g4:((r:Int)*10000+(x:Int))%(d:Int)≤9999:=by rw [← ZG];omega
      have pE:=HO.out Q;rw [hqi] at pE;have pK:=zh pE;have HM:=zh ZG;have HG:=zh hdg;have HM2:=zh hmd;clear pE HO hqi ZG hdg hmd
      go_wp2
      go_roundw
      case rel=>exact ⟨(j:Int) - 1,M,Q::s,by omega,by omega,HM2.out,rfl,by rw [HM.out],zh (by rw [List.length_cons,HS.out];omega),by rw [show ((j:Int) - 1+1).toNat=j by omega];exact pK.out.1,hds.cons HG.out,zh (by rw [show ((j:Int) - 1+1).toNat=j by omega];exact HP.out),pK.out.2⟩
      case measure=>simp [intOf]
theorem aj1 (x:Value) (a d:Nat) (w:World) (hx:Nm w x a) (ha:sz 10000 a≤1099511627776) (hd0:0<d) (hd1:d≤10000) :
  Calls Tryz.prog 298 #[x,.int .i64 d] w fun e w'=>∃ v,e= .returned (.tuple #[v,.int .i64 (a%d:Nat)])∧Below w.heap.size w w'∧Nm w' v (a / d):=by
 obtain ⟨pa,ca,rfl,h1,h2,h3⟩:=Gs.read hx.gs;have:=Ws pa ca _ d w (aT zo a) ha hd0 hd1 h3
 rwa [aP zo] at this
def Okm (m:List Nat):Prop:=dS 10000 m∨(m.length=1∧∀ d∈m,d≤10000)
theorem Okm.le {m:List Nat} (h:Okm m) {j:Nat} (hj:j<m.length):m.getD j 0≤10000:=by
 have e:m.getD j 0=m[j]:=by simp [hj]
 rw [e]
 rcases h with h|h
 ·exact Nat.le_of_lt (h _ (List.getElem_mem hj))
 ·exact h.2 _ (List.getElem_mem hj)
theorem Okm.carry {m:List Nat} (h:Okm m) {j c z x:Nat} (hj:j<m.length) (hc:c<10000) (hc0:j=0→c=0) (hz:z<10000) (hx:x<10000):(c+(z+x*m.getD j 0)) / 10000<10000:=by
 rcases h with h|h
 ·exact AJ hc hz hx (h.getD zo j)
 ·have h1:m.getD j 0≤10000:=Okm.le (.inr h) hj;have h2:c=0:=hc0 zo;subst h2;have h3:x*m.getD j 0≤9999*10000:=Nat.mul_le_mul zo h1;generalize x*m.getD j 0=p at *;omega
theorem YN {x y:Nat} (hx:x<10000) (hy:y≤10000):(0:Int)≤(x:Int)*(y:Int)∧(x:Int)*(y:Int)≤99990000:=by
 have h:x*y≤9999*10000:=Nat.mul_le_mul zo zo;rw [← Int.natCast_mul];omega
theorem yE (pl ps:Option Addr) (cl cs:Nat) (l m:List Nat) (w:World) (hl:dS 10000 l) (hmd:Okm m) (hb1:l.length≤1099511627776) (hb2:m.length≤1099511627776)
   (hc:∀ k,k<l.length→∃ b off,pl=some ⟨b,off,none⟩∧b<w.heap.size∧w.cell? ⟨b,off+k,none⟩=some (.int .i64 (l.getD k 0:Nat)))
   (hd:∀ k,k<m.length→∃ b off,ps=some ⟨b,off,none⟩∧b<w.heap.size∧w.cell? ⟨b,off+k,none⟩=some (.int .i64 (m.getD k 0:Nat))) :
    Calls Tryz.prog 263 #[.slice pl l.length cl,.slice ps m.length cs] w fun e w'=>∃ v,e= .returned v∧Below w.heap.size w w'∧Nm w' v (val 10000 l*val 10000 m):=by
  obtain ⟨i0,hi,hz0,hz1,hz2⟩:=info_parts yL;go_enter Tryz.func263,Tryz.ntmps263
  go_wp2_with (at_make;refine wpList_make_full _ rfl _ _ 159 rfl w.heap.size 3 i0 (.int .i64 0) 1 Tryz.underlying159 hi hz0 hz1 _ _ _ _ (l.length+m.length) rfl rfl zo zo (by rw [hz2];omega) (by unfold maxLen;omega) (Nat.le_refl _) ?_)
  intro w0 hown0 jA;rw [Ad] at hown0
  go_wp2
  go_loopw [6,7,8] (fun iv _ _ wr=>∃ (i:Nat) (p:List Nat),i≤l.length∧iv= .int .i64 i∧Hid (p.length=l.length+m.length)∧(∀ t,i+m.length≤t→p.getD t 0=0) ∧
      wr.ownsRow w.heap.size 3 1 (.slice (some ⟨w.heap.size,0,none⟩) (l.length+m.length) (l.length+m.length)) (l.length+m.length) (ints p)∧dS 10000 p∧Hid (val 10000 p=val 10000 (l.take i)*val 10000 m)∧Below w.heap.size w wr)
    (fun iv _ _ _=>l.length - (intOf iv).toNat)
  case atStart=>exact ⟨0,List.replicate (l.length+m.length) 0,Nat.zero_le _,rfl,zh zi,fun t _=>by simp [List.getD,List.getElem?_replicate];split<;>rfl,hown0,fun x hx=>by rw [List.eq_of_mem_replicate hx];omega,zh (by rw [vG];simp [val]),(Below.refl _ _).grown jA (Nat.le_refl _) (fun k h=>by cases h)⟩
  case round =>
    obtain ⟨i,p,hil,rfl,HL,hz,hown,hdp,HV,hb⟩:=hrel;have HZ:=zh hz;clear hz
    by_cases hlt:i<l.length
    · obtain ⟨b,off,rfl,hbb,hx0⟩:=hc i hlt
      have hx:wr.cell? ⟨b,off+i,none⟩=some (.int .i64 (l.getD i 0:Nat)):=(hb.cell (by exact hbb)).trans hx0;have hdl:l.getD i 0<10000:=hl.getD zo i;have HX0:=zh hx0;clear hx0 hc;have HD:Hid (l.getD i 0=l.getD i 0):=rfl
      revert HD
      generalize OZ:l.getD i 0=x at hx hdl HX0;have HX:=zh OZ;clear OZ;intro _;obtain ⟨wo,rfl⟩:∃ wo:World,wo=wr:=⟨_,rfl⟩
      go_wp2
      go_loopw [7,8] (fun cv jv wq=>∃ (j c:Nat) (q:List Nat),j≤m.length∧c<10000∧Hid (j=0→c=0)∧jv= .int .i64 j∧cv= .int .i64 c∧Hid (q.length=l.length+m.length)∧Hid (∀ t,i+m.length≤t→q.getD t 0=0) ∧
          wq.ownsRow w.heap.size 3 1 (.slice (some ⟨w.heap.size,0,none⟩) (l.length+m.length) (l.length+m.length)) (l.length+m.length) (ints q)∧dS 10000 q∧Hid (val 10000 q+c*10000^(i+j)=val 10000 (l.take i)*val 10000 m+10000^i*(x*val 10000 (m.take j)))∧Below w.heap.size w wq)
        (fun _ jv _=>m.length - (intOf jv).toNat)
      case atStart=>exact ⟨0,0,p,Nat.zero_le _,by omega,zh (fun _=>rfl),rfl,rfl,HL,HZ,hown,hdp,zh (by rw [HV.out];simp [val]),hb⟩
      case round =>
        obtain ⟨j,c,q,hjl,hcb,HC0,rfl,rfl,XK,XE,hown,Ls,HVq,hb⟩:=hrel
        by_cases hjlt:j<m.length
        · obtain ⟨b2,off2,rfl,Ko,hy0⟩:=hd j hjlt
          have hy:wr.cell? ⟨b2,off2+j,none⟩=some (.int .i64 (m.getD j 0:Nat)):=(hb.cell (by exact Ko)).trans hy0;have hxi:wr.cell? ⟨b,off+i,none⟩=some (.int .i64 (x:Int)):=(hb.cell (by exact hbb)).trans HX0.out;have QF:m.getD j 0≤10000:=hmd.le hjlt;have hij:i+j<q.length:=by have:=XK.out;omega
          obtain ⟨t,ht⟩:∃ t,i+j=t:=⟨_,rfl⟩;have ej:(i:Int)+(j:Int)=(t:Int):=by omega
          have ht3:(t:Int)<(l.length:Int)+(m.length:Int):=by omega
          have ht4:t<l.length+m.length:=by omega
          have hwt:IntKind.i64.wrap (t:Int)=(t:Int):=by rw [IntKind.wrap_i64];omega
          have hq1:wr.cell? ⟨w.heap.size,t,none⟩=some (.int .i64 (q.getD (i+j) 0:Nat)):=by rw [← ht,hown.cellAt (i+j) zo,qY hij]
          have hq2:wr.frozen? ⟨w.heap.size,t,none⟩=false:=hown.frozenAt t;have az0:q.getD (i+j) 0<10000:=Ls.getD zo (i+j);have HS:=zh (CU hjlt hij HVq.out);have HC:=zh (hmd.carry hjlt hcb HC0.out az0 hdl)
          have HO:Hid (∀ d:Nat,d<10000→(wr.setCell ⟨w.heap.size,t,none⟩ (.int .i64 (d:Int))).ownsRow w.heap.size 3 1 (.slice (some ⟨w.heap.size,0,none⟩) (l.length+m.length) (l.length+m.length)) (l.length+m.length) (ints (q.set (i+j) d)) ∧
              Below w.heap.size w (wr.setCell ⟨w.heap.size,t,none⟩ (.int .i64 (d:Int)))∧dS 10000 (q.set (i+j) d)∧(q.set (i+j) d).length=l.length+m.length∧(∀ t,i+m.length≤t→(q.set (i+j) d).getD t 0=0)):=fun d hd=>by
            have h1:=(hown.stored t (.int .i64 (d:Int))).1;rw [ints_set] at h1;rw [ht];exact ⟨h1,hb.setCell (Nat.le_refl _) _,Ls.set _ hd,by rw [List.length_set];exact XK.out,fun s hs=>by rw [Cc zo];exact XE.out s hs⟩
          clear hy0 hd hown HVq Ls XK XE hij ht;generalize m.getD j 0=y at *;generalize q.getD (i+j) 0=z at *;obtain ⟨hp1,hp2⟩:=YN hdl QF;have hr:((((c+(z+x*y))%10000:Nat)):Int)=((c:Int)+(z:Int)+(x:Int)*(y:Int))%10000:=by rw [Int.natCast_emod,Int.natCast_add,Int.natCast_add,Int.natCast_mul,Int.add_assoc];rfl
          have hq:((((c+(z+x*y)) / 10000:Nat)):Int)=((c:Int)+(z:Int)+(x:Int)*(y:Int)) / 10000:=by rw [Int.natCast_ediv,Int.natCast_add,Int.natCast_add,Int.natCast_mul,Int.add_assoc];rfl
          have pE:=HO.out _ (Nat.mod_lt (c+(z+x*y)) zo);rw [hr] at pE;have pK:=zh pE;have HR:=zh hq;clear HO pE hr hq;have bi7:IntKind.i64.wrap ((i:Int)+(j:Int))=(i:Int)+(j:Int):=by rw [IntKind.wrap_i64];omega
          have bj2:(i:Int)+(j:Int)<((l.length+m.length:Nat):Int):=by omega
          go_wp2
          go_quiet (fail)
          go_wp2
          go_roundw
          case rel=>exact ⟨j+1,(c+(z+x*y)) / 10000,q.set (i+j) ((c+(z+x*y))%10000),by omega,HC.out,zh (fun h=>absurd h zo),by go_num,by rw [HR.out],zh pK.out.2.2.2.1,zh pK.out.2.2.2.2,pK.out.1,pK.out.2.2.1,zh (by rw [← Nat.add_assoc i j 1];exact HS.out),⟨pK.out.2.1.os,pK.out.2.1.tape,pK.out.2.1.output,pK.out.2.1.size,pK.out.2.1.block⟩⟩
          case measure=>exact zM
        · have hjm:j=m.length:=by omega
          subst hjm;have hij:i+m.length<q.length:=by have:=XK.out;omega
          have hq1:wr.cell? ⟨w.heap.size,i+m.length,none⟩=some (.int .i64 0):=by rw [hown.cellAt (i+m.length) zo,qY hij,XE.out _ (Nat.le_refl _)];rfl
          have hq2:wr.frozen? ⟨w.heap.size,i+m.length,none⟩=false:=hown.frozenAt (i+m.length)
          have HF:Hid (val 10000 (q.set (i+m.length) c)=val 10000 (l.take (i+1))*val 10000 m) :=
            AB hlt hij (XE.out _ (Nat.le_refl _)) (by have:=HVq.out;rw [List.take_length] at this;rw [HX.out];exact this)
          have HO:Hid ((wr.setCell ⟨w.heap.size,i+m.length,none⟩ (.int .i64 (c:Int))).ownsRow w.heap.size 3 1 (.slice (some ⟨w.heap.size,0,none⟩) (l.length+m.length) (l.length+m.length)) (l.length+m.length) (ints (q.set (i+m.length) c)) ∧
              Below w.heap.size w (wr.setCell ⟨w.heap.size,i+m.length,none⟩ (.int .i64 (c:Int)))∧dS 10000 (q.set (i+m.length) c)∧(q.set (i+m.length) c).length=l.length+m.length∧(∀ t,i+1+m.length≤t→(q.set (i+m.length) c).getD t 0=0)):=by
            have h1:=(hown.stored (i+m.length) (.int .i64 (c:Int))).1;rw [ints_set] at h1;exact ⟨h1,hb.setCell (Nat.le_refl _) _,Ls.set _ hcb,by rw [List.length_set];exact XK.out,fun t ht=>by rw [Cc zo];exact XE.out t zo⟩
          clear hown HVq Ls XK XE hij hd
          go_wp2
          go_roundw
          case rel=>exact ⟨i+1,q.set (i+m.length) c,by omega,by go_num,zh HO.out.2.2.2.1,HO.out.2.2.2.2,HO.out.1,HO.out.2.2.1,HF,HO.out.2.1⟩
          case measure=>exact zM
    · have ay6:i=l.length:=by omega
      subst ay6;clear hc hd;have HF:Hid (val 10000 p=val 10000 l*val 10000 m):=by have:=HV.out;rwa [List.take_length] at this
      have hown3:Gs wr (.slice (some ⟨w.heap.size,0,none⟩) (l.length+m.length) (l.length+m.length)) p:=Gs.fI hown;clear hown HV;go_wp2_with (go_at_call 297;refine (xJ _ _ _ hown3 hdp).mono ?_;rintro e w' ⟨v,rfl,rfl,hv⟩)
      go_ret
      exact ⟨v,rfl,hb,by rw [← HF.out];exact hv⟩
theorem xB (x y:Value) (a b:Nat) (w:World) (hx:Nm w x a) (hy:Nm w y b) (ha:sz 10000 a≤1099511627776) (hb:sz 10000 b≤1099511627776) :
  Calls Tryz.prog 263 #[x,y] w fun e w'=>∃ v,e= .returned v∧Below w.heap.size w w'∧Nm w' v (a*b):=by
 obtain ⟨pa,ca,rfl,h1,h2,h3⟩:=Gs.read hx.gs;obtain ⟨pb,cb,rfl,k1,k2,k3⟩:=Gs.read hy.gs;have:=yE pa pb ca cb _ _ w (aT zo a) (.inl (aT zo b)) ha hb h3 k3
 rwa [aP zo,aP zo] at this
theorem BI (pl ps:Option Addr) (cl cs:Nat) (l m:List Nat) (w:World) (hl:dS 10000 l) (hmd:dS 10000 m) (hb1:l.length≤1099511627776) (hml:m.length≤l.length) (hle:val 10000 m≤val 10000 l)
   (hc:∀ k,k<l.length→∃ b off,pl=some ⟨b,off,none⟩∧b<w.heap.size∧w.cell? ⟨b,off+k,none⟩=some (.int .i64 (l.getD k 0:Nat)))
   (hd:∀ k,k<m.length→∃ b off,ps=some ⟨b,off,none⟩∧b<w.heap.size∧w.cell? ⟨b,off+k,none⟩=some (.int .i64 (m.getD k 0:Nat))) :
    Calls Tryz.prog 300 #[.slice pl l.length cl,.slice ps m.length cs] w fun e w'=>∃ v,e= .returned v∧Below w.heap.size w w'∧Nm w' v (val 10000 l - val 10000 m):=by
  obtain ⟨i0,hi,hz0,hz1,hz2⟩:=info_parts yL;have Jo:=zh hle;clear hle;go_enter Tryz.func300,Tryz.ntmps300
  go_wp2
  go_loopw [5,6,7,8] (fun ov cv kv _ wr=>∃ (k c:Nat) (s:List Nat),k≤l.length∧c≤1∧Hid (s.length=k)∧kv= .int .i64 k∧cv= .int .i64 c ∧
      wr.ownsRow w.heap.size 3 1 ov k (ints s)∧dS 10000 s∧Hid (val 10000 s+val 10000 (m.take k)=val 10000 (l.take k)+c*10000^k)∧Below w.heap.size w wr)
    (fun _ _ kv _ _=>l.length - (intOf kv).toNat)
  case atStart=>exact ⟨0,0,[],Nat.zero_le _,by omega,rfl,rfl,rfl,World.ownsRow_nil _ _ _ _,dS.nil,(by simp [val]:val _ _+val _ _=val _ _+0*_),Below.refl _ _⟩
  case round =>
    obtain ⟨k,c,s,hk,hc1,HS,rfl,rfl,hown,hds,HV,hb⟩:=hrel
    by_cases hkl:k<l.length
    · obtain ⟨b,off,rfl,hbb,hx0⟩:=hc k hkl
      have hx:wr.cell? ⟨b,off+k,none⟩=some (.int .i64 (l.getD k 0:Nat)):=(hb.cell (by exact hbb)).trans hx0;have hdl:l.getD k 0<10000:=hl.getD zo k
      have HP:Hid (∀ d c',d+m.getD k 0+c=l.getD k 0+c'*10000→val 10000 (s++[d])+val 10000 (m.take (k+1))=val 10000 (l.take (k+1))+c'*10000^(k+1)) :=
        fun d c' h=>Dr hkl HS.out HV.out h
      have ec:∀ (d:Nat) (z:Int),(d:Int)=z→ints s++[.int .i64 z]=ints (s++[d]):=fun d z e=>by
        unfold ints;simp only [List.map_append,List.map_cons,List.map_nil];rw [e]
      have EC:=zh ec;clear hx0 hc ec
      by_cases hkm:k<m.length
      · obtain ⟨b2,off2,rfl,Ko,hy0⟩:=hd k hkm
        have hy:wr.cell? ⟨b2,off2+k,none⟩=some (.int .i64 (m.getD k 0:Nat)):=(hb.cell (by exact Ko)).trans hy0;have QF:m.getD k 0<10000:=hmd.getD zo k;clear hy0 hd;generalize l.getD k 0=x at *;generalize m.getD k 0=y at *
        by_cases hge:x<c+y
        · have hneg:(x:Int) - (c:Int) - (y:Int)<0:=by omega
          have e:=EC.out (x+10000 - (c+y)) ((x:Int) - (c:Int) - (y:Int)+10000) zo;have SV:=zh e;have HG:=zh hge;clear hge e EC;go_wp2_with (at_builtin;refine wpList_append_own _ rfl (.tmp 35) (.tmp 37) 159 rfl w.heap.size 3 i0 (.int .i64 0) 1 8 Tryz.underlying159 hi hz0 hz1 hz2 rfl zd _ _ _ rfl (hown.alloc _) ⟨wr.heap.size,0,none⟩ 1 1 [.int .i64 ((x:Int) - (c:Int) - (y:Int)+10000)] rfl rfl (by intro t u ht;match t,ht with|0,ht=>simp at ht;subst ht;simp [Addr.add]) (by intro u hu;simp at hu;subst hu;rfl) (by unfold maxLen;omega) zo (by have:=hb.size;simp;omega) ?_)
          intro v' w1 hown1 hgrow1 _;rw [SV.out] at hown1;have hb3:Below w.heap.size w w1:=(hb.alloc hb.size _).grown hgrow1 (by simp;have:=hb.size;omega) (fun k hk=>(hown.lt k hk).1);clear hown hgrow1
          go_wp2
          go_roundw
          case rel=>exact ⟨k+1,1,s++[(x+10000 - (c+y))],by omega,by omega,zh (by rw [List.length_append,HS.out];rfl),by go_num,rfl,hown1,hds.snoc (by have:=HG.out;omega),HP.out _ _ (by have:=HG.out;omega),hb3⟩
          case measure=>exact zM
        by_cases hge:¬ x<c+y
        · have hneg:¬ (x:Int) - (c:Int) - (y:Int)<0:=by omega
          have e:=EC.out (x - (c+y)) ((x:Int) - (c:Int) - (y:Int)) zo;have SV:=zh e;have HG:=zh hge;clear hge e EC;go_wp2_with (at_builtin;refine wpList_append_own _ rfl (.tmp 35) (.tmp 37) 159 rfl w.heap.size 3 i0 (.int .i64 0) 1 8 Tryz.underlying159 hi hz0 hz1 hz2 rfl zd _ _ _ rfl (hown.alloc _) ⟨wr.heap.size,0,none⟩ 1 1 [.int .i64 ((x:Int) - (c:Int) - (y:Int))] rfl rfl (by intro t u ht;match t,ht with|0,ht=>simp at ht;subst ht;simp [Addr.add]) (by intro u hu;simp at hu;subst hu;rfl) (by unfold maxLen;omega) zo (by have:=hb.size;simp;omega) ?_)
          intro v' w1 hown1 hgrow1 _;rw [SV.out] at hown1;have hb3:Below w.heap.size w w1:=(hb.alloc hb.size _).grown hgrow1 (by simp;have:=hb.size;omega) (fun k hk=>(hown.lt k hk).1);clear hown hgrow1
          go_wp2
          go_roundw
          case rel=>exact ⟨k+1,0,s++[(x - (c+y))],by omega,by omega,zh (by rw [List.length_append,HS.out];rfl),by go_num,rfl,hown1,hds.snoc (by have:=HG.out;omega),HP.out _ _ (by have:=HG.out;omega),hb3⟩
          case measure=>exact zM
        exact absurd ‹¬ x<c+y› ‹¬ ¬ x<c+y›
      · have hm0:m.getD k 0=0:=by simp [Nat.le_of_not_lt hkm]
        rw [hm0] at HP;clear hm0 hd;generalize l.getD k 0=x at *
        by_cases hge:x<c
        · have hneg:(x:Int) - (c:Int)<0:=by omega
          have e:=EC.out (x+10000 - c) ((x:Int) - (c:Int)+10000) zo;have SV:=zh e;have HG:=zh hge;clear hge e EC;go_wp2_with (at_builtin;refine wpList_append_own _ rfl (.tmp 35) (.tmp 37) 159 rfl w.heap.size 3 i0 (.int .i64 0) 1 8 Tryz.underlying159 hi hz0 hz1 hz2 rfl zd _ _ _ rfl (hown.alloc _) ⟨wr.heap.size,0,none⟩ 1 1 [.int .i64 ((x:Int) - (c:Int)+10000)] rfl rfl (by intro t u ht;match t,ht with|0,ht=>simp at ht;subst ht;simp [Addr.add]) (by intro u hu;simp at hu;subst hu;rfl) (by unfold maxLen;omega) zo (by have:=hb.size;simp;omega) ?_)
          intro v' w1 hown1 hgrow1 _;rw [SV.out] at hown1;have hb3:Below w.heap.size w w1:=(hb.alloc hb.size _).grown hgrow1 (by simp;have:=hb.size;omega) (fun k hk=>(hown.lt k hk).1);clear hown hgrow1
          go_wp2
          go_roundw
          case rel=>exact ⟨k+1,1,s++[(x+10000 - c)],by omega,by omega,zh (by rw [List.length_append,HS.out];rfl),by go_num,rfl,hown1,hds.snoc (by have:=HG.out;omega),HP.out _ _ (by have:=HG.out;omega),hb3⟩
          case measure=>exact zM
        by_cases hge:¬ x<c
        · have hneg:¬ (x:Int) - (c:Int)<0:=by omega
          have e:=EC.out (x - c) ((x:Int) - (c:Int)) zo;have SV:=zh e;have HG:=zh hge;clear hge e EC;go_wp2_with (at_builtin;refine wpList_append_own _ rfl (.tmp 35) (.tmp 37) 159 rfl w.heap.size 3 i0 (.int .i64 0) 1 8 Tryz.underlying159 hi hz0 hz1 hz2 rfl zd _ _ _ rfl (hown.alloc _) ⟨wr.heap.size,0,none⟩ 1 1 [.int .i64 ((x:Int) - (c:Int))] rfl rfl (by intro t u ht;match t,ht with|0,ht=>simp at ht;subst ht;simp [Addr.add]) (by intro u hu;simp at hu;subst hu;rfl) (by unfold maxLen;omega) zo (by have:=hb.size;simp;omega) ?_)
          intro v' w1 hown1 hgrow1 _;rw [SV.out] at hown1;have hb3:Below w.heap.size w w1:=(hb.alloc hb.size _).grown hgrow1 (by simp;have:=hb.size;omega) (fun k hk=>(hown.lt k hk).1);clear hown hgrow1
          go_wp2
          go_roundw
          case rel=>exact ⟨k+1,0,s++[(x - c)],by omega,by omega,zh (by rw [List.length_append,HS.out];rfl),by go_num,rfl,hown1,hds.snoc (by have:=HG.out;omega),HP.out _ _ (by have:=HG.out;omega),hb3⟩
          case measure=>exact zM
        exact absurd ‹¬ x<c› ‹¬ ¬ x<c›
    · have hkk:k=l.length:=by omega
      subst hkk;clear hc hd
      have Cn:val 10000 s+val 10000 m=val 10000 l+c*10000^l.length:=by
        have:=HV.out;rwa [List.take_length,List.take_of_length_le hml] at this
      have hvs:val 10000 s<10000^l.length:=by have:=gJ zo hds;rwa [HS.out] at this
      have hc0:c=0:=by
        rcases Nat.eq_zero_or_pos c with h|h
        · exact h
        · exfalso
          have:c=1:=by omega
          subst this;have:=Jo.out;omega
      have HF:Hid (val 10000 s=val 10000 l - val 10000 m):=by subst hc0;unfold Hid;omega
      clear HV Cn hvs Jo;have hown3:Gs wr u5 s:=Gs.fI hown;obtain ⟨pa,ca,rfl, -⟩:=hown3.read;clear hown;go_wp2_with (go_at_call 297;refine (xJ _ _ _ hown3 hds).mono ?_;rintro e w' ⟨v,rfl,rfl,hv⟩)
      go_ret
      exact ⟨v,rfl,hb,by rw [← HF.out];exact hv⟩
theorem qE (x y:Value) (a b:Nat) (w:World) (hx:Nm w x a) (hy:Nm w y b) (ha:sz 10000 a≤1099511627776) (hle:b≤a) :
  Calls Tryz.prog 300 #[x,y] w fun e w'=>∃ v,e= .returned v∧Below w.heap.size w w'∧Nm w' v (a - b):=by
 obtain ⟨pa,ca,rfl,h1,h2,h3⟩:=Gs.read hx.gs;obtain ⟨pb,cb,rfl,k1,k2,k3⟩:=Gs.read hy.gs;have:=BI pa pb ca cb _ _ w (aT zo a) (aT zo b) ha (dh zo hle) (by rw [aP zo,aP zo];exact hle) h3 k3
 rwa [aP zo,aP zo] at this
theorem LV (B:Nat) (l:List Nat) (k:Nat):val B (l.take (k+1))=val B (l.take k)+B^k*l.getD k 0:=by
 by_cases h:k<l.length
 ·exact bg B h
 ·rw [List.take_of_length_le zo,List.take_of_length_le zo];simp [Nat.le_of_not_lt h]
theorem Yt {B:Nat} {l m s:List Nat} {k c d c':Nat} (hs:s.length=k) (he:val B s+c*B^k=val B (l.take k)+val B (m.take k)) (h:d+c'*B=c+l.getD k 0+m.getD k 0) :
  val B (s++[d])+c'*B^(k+1)=val B (l.take (k+1))+val B (m.take (k+1)):=by
 rw [gU,LV,LV,hs,Nat.pow_succ];have h2:=congrArg (B^k* ·) h;simp only [Nat.mul_add] at h2;rw [show c'*(B^k*B)=B^k*(c'*B) by rw [Nat.mul_left_comm]];rw [Nat.mul_comm c (B^k)] at he;omega
def UQ (w:World) (n:Nat) (e:Ending) (w':World):Prop:=∃ v s,e= .returned v∧Below w.heap.size w w'∧Gs w' v s∧dS 10000 s∧val 10000 s=n
theorem Yr (pl ps:Option Addr) (cl cs:Nat) (l m:List Nat) (w:World) (hl:dS 10000 l) (hmd:dS 10000 m) (hb1:l.length≤549755813888) (hb2:m.length≤549755813888)
   (hc:∀ k,k<l.length→∃ b off,pl=some ⟨b,off,none⟩∧b<w.heap.size∧w.cell? ⟨b,off+k,none⟩=some (.int .i64 (l.getD k 0:Nat)))
   (hd:∀ k,k<m.length→∃ b off,ps=some ⟨b,off,none⟩∧b<w.heap.size∧w.cell? ⟨b,off+k,none⟩=some (.int .i64 (m.getD k 0:Nat))) :
    Calls Tryz.prog 318 #[.slice pl l.length cl,.slice ps m.length cs] w (UQ w (val 10000 l+val 10000 m)):=by
  obtain ⟨i0,hi,hz0,hz1,hz2⟩:=info_parts yL;go_enter Tryz.func318,Tryz.ntmps318
  go_wp2
  go_loopw [5,6,7] (fun ov cv kv wr=>∃ (k c:Nat) (s:List Nat),k≤max l.length m.length+1∧c≤1∧(c=0∨k≤max l.length m.length)∧Hid (s.length=k)∧kv= .int .i64 k∧cv= .int .i64 c ∧
      wr.ownsRow w.heap.size 3 1 ov k (ints s)∧dS 10000 s∧Hid (val 10000 s+c*10000^k=val 10000 (l.take k)+val 10000 (m.take k))∧Below w.heap.size w wr)
    (fun _ _ kv _=>max l.length m.length+1 - (intOf kv).toNat)
  case atStart=>exact ⟨0,0,[],Nat.zero_le _,by omega,.inl rfl,rfl,rfl,rfl,World.ownsRow_nil _ _ _ _,dS.nil,(by simp [val]:val _ _+0*_=_),Below.refl _ _⟩
  case round =>
    obtain ⟨k,c,s,hk,hc1,hck,HS,rfl,rfl,hown,hds,HV,hb⟩:=hrel
    have HP:Hid (∀ d c',d+c'*10000=c+l.getD k 0+m.getD k 0→val 10000 (s++[d])+c'*10000^(k+1)=val 10000 (l.take (k+1))+val 10000 (m.take (k+1))) :=
      fun d c' h=>Yt HS.out HV.out h
    have hdl:l.getD k 0<10000:=hl.getD zo k;have QF:m.getD k 0<10000:=hmd.getD zo k
    have ec:∀ (d:Nat) (z:Int),(d:Int)=z→ints s++[.int .i64 z]=ints (s++[d]):=fun d z e=>by
      unfold ints;simp only [List.map_append,List.map_cons,List.map_nil];rw [e]
    have EC:=zh ec;have hl0:¬ k<l.length→l.getD k 0=0:=fun h=>by simp [Nat.le_of_not_lt h]
    have hm0:¬ k<m.length→m.getD k 0=0:=fun h=>by simp [Nat.le_of_not_lt h]
    have HL0:=zh hl0;have HM0:=zh hm0;clear ec hl0 hm0;have hrun:k<l.length∨k<m.length∨0<c∨(¬ k<l.length∧¬ k<m.length∧c=0):=by omega
    by_cases hfin:¬ k<l.length∧¬ k<m.length∧c=0
    · obtain ⟨n1,n2,rfl⟩:=hfin
      have HF:Hid (val 10000 s=val 10000 l+val 10000 m):=by
        have:=HV.out;rw [List.take_of_length_le zo,List.take_of_length_le zo] at this;unfold Hid;omega
      have hown3:Gs wr u5 s:=Gs.fI hown;clear hown HV HP EC hc hd HL0 HM0 hrun
      go_wp2
      go_ret
      exact ⟨_,s,rfl,hb,hown3,hds,HF.out⟩
    · have ar8:k≤max l.length m.length:=by omega
      have wJ:=zh ar8;have hkb:k≤549755813888:=by omega
      have HNF:=zh hfin;clear hrun hfin ar8 hck hk
      have hx:k<l.length→∃ b off,pl=some ⟨b,off,none⟩∧wr.cell? ⟨b,off+k,none⟩=some (.int .i64 (l.getD k 0:Nat)):=fun h=>by
        obtain ⟨b,off,e,hbb,hx0⟩:=hc k h;exact ⟨b,off,e,(hb.cell (by exact hbb)).trans hx0⟩
      have hy:k<m.length→∃ b off,ps=some ⟨b,off,none⟩∧wr.cell? ⟨b,off+k,none⟩=some (.int .i64 (m.getD k 0:Nat)):=fun h=>by
        obtain ⟨b,off,e,hbb,hx0⟩:=hd k h;exact ⟨b,off,e,(hb.cell (by exact hbb)).trans hx0⟩
      have HX:=zh hx;have HY:=zh hy;clear hx hy hc hd HV;generalize l.getD k 0=x at *;generalize m.getD k 0=y at *;have h4:(k<l.length∧k<m.length)∨(k<l.length∧¬ k<m.length)∨(¬ k<l.length∧k<m.length)∨(¬ k<l.length∧¬ k<m.length):=by omega
      rcases h4 with ⟨hkl,hkm⟩|⟨hkl,hkm⟩|⟨hkl,hkm⟩|⟨hkl,hkm⟩
      · obtain ⟨b,off,rfl,hx⟩:=HX.out hkl
        obtain ⟨b2,off2,rfl,hy⟩:=HY.out hkm
        skip
        skip
        skip
        skip
        have e:=EC.out ((c+x+y)%10000) (((c:Int)+(x:Int)+(y:Int))%10000) zo;have SV:=zh e;have HG:Hid ((c+x+y) / 10000≤1):=zh zo;clear e EC HX HY HL0 HM0;go_wp2_with (at_builtin;refine wpList_append_own _ rfl (.tmp 44) (.tmp 47) 159 rfl w.heap.size 3 i0 (.int .i64 0) 1 8 Tryz.underlying159 hi hz0 hz1 hz2 rfl zd _ _ _ rfl (hown.alloc _) ⟨wr.heap.size,0,none⟩ 1 1 [.int .i64 (((c:Int)+(x:Int)+(y:Int))%10000)] rfl rfl (by intro t u ht;match t,ht with|0,ht=>simp at ht;subst ht;simp [Addr.add]) (by intro u hu;simp at hu;subst hu;rfl) (by have:=wJ.out;unfold maxLen;omega) (by have:=wJ.out;omega) (by have:=hb.size;simp;omega) ?_)
        intro v' w1 hown1 hgrow1 _;rw [SV.out] at hown1;have hb3:Below w.heap.size w w1:=(hb.alloc hb.size _).grown hgrow1 (by simp;have:=hb.size;omega) (fun k hk=>(hown.lt k hk).1);clear hown hgrow1
        go_wp2
        go_roundw
        case rel=>exact ⟨k+1,(c+x+y) / 10000,s++[(c+x+y)%10000],by have:=wJ.out;omega,HG.out,by have:=HG.out;omega,zh (by rw [List.length_append,HS.out];rfl),by go_num,by go_num,hown1,hds.snoc zo,HP.out _ _ zo,hb3⟩
        case measure=>simp [intOf];have:=wJ.out;omega
      · obtain ⟨b,off,rfl,hx⟩:=HX.out hkl
        skip
        have e0:=HM0.out hkm;have e1:=e0;subst e0
        skip
        have e:=EC.out ((c+x+0)%10000) (((c:Int)+(x:Int))%10000) zo;have SV:=zh e;have HG:Hid ((c+x+0) / 10000≤1):=zh zo;clear e EC HX HY HL0 HM0;go_wp2_with (at_builtin;refine wpList_append_own _ rfl (.tmp 44) (.tmp 47) 159 rfl w.heap.size 3 i0 (.int .i64 0) 1 8 Tryz.underlying159 hi hz0 hz1 hz2 rfl zd _ _ _ rfl (hown.alloc _) ⟨wr.heap.size,0,none⟩ 1 1 [.int .i64 (((c:Int)+(x:Int))%10000)] rfl rfl (by intro t u ht;match t,ht with|0,ht=>simp at ht;subst ht;simp [Addr.add]) (by intro u hu;simp at hu;subst hu;rfl) (by have:=wJ.out;unfold maxLen;omega) (by have:=wJ.out;omega) (by have:=hb.size;simp;omega) ?_)
        intro v' w1 hown1 hgrow1 _;rw [SV.out] at hown1;have hb3:Below w.heap.size w w1:=(hb.alloc hb.size _).grown hgrow1 (by simp;have:=hb.size;omega) (fun k hk=>(hown.lt k hk).1);clear hown hgrow1
        go_wp2
        go_roundw
        case rel=>exact ⟨k+1,(c+x+0) / 10000,s++[(c+x+0)%10000],by have:=wJ.out;omega,HG.out,by have:=HG.out;omega,zh (by rw [List.length_append,HS.out];rfl),by go_num,by go_num,hown1,hds.snoc zo,HP.out _ _ zo,hb3⟩
        case measure=>simp [intOf];have:=wJ.out;omega
      · skip
        obtain ⟨b2,off2,rfl,hy⟩:=HY.out hkm;have e0:=HL0.out hkl;have e1:=e0;subst e0
        skip
        have e:=EC.out ((c+0+y)%10000) (((c:Int)+(y:Int))%10000) zo;have SV:=zh e;have HG:Hid ((c+0+y) / 10000≤1):=zh zo;clear e EC HX HY HL0 HM0;go_wp2_with (at_builtin;refine wpList_append_own _ rfl (.tmp 44) (.tmp 47) 159 rfl w.heap.size 3 i0 (.int .i64 0) 1 8 Tryz.underlying159 hi hz0 hz1 hz2 rfl zd _ _ _ rfl (hown.alloc _) ⟨wr.heap.size,0,none⟩ 1 1 [.int .i64 (((c:Int)+(y:Int))%10000)] rfl rfl (by intro t u ht;match t,ht with|0,ht=>simp at ht;subst ht;simp [Addr.add]) (by intro u hu;simp at hu;subst hu;rfl) (by have:=wJ.out;unfold maxLen;omega) (by have:=wJ.out;omega) (by have:=hb.size;simp;omega) ?_)
        intro v' w1 hown1 hgrow1 _;rw [SV.out] at hown1;have hb3:Below w.heap.size w w1:=(hb.alloc hb.size _).grown hgrow1 (by simp;have:=hb.size;omega) (fun k hk=>(hown.lt k hk).1);clear hown hgrow1
        go_wp2
        go_roundw
        case rel=>exact ⟨k+1,(c+0+y) / 10000,s++[(c+0+y)%10000],by have:=wJ.out;omega,HG.out,by have:=HG.out;omega,zh (by rw [List.length_append,HS.out];rfl),by go_num,by go_num,hown1,hds.snoc zo,HP.out _ _ zo,hb3⟩
        case measure=>simp [intOf];have:=wJ.out;omega
      · skip
        have hcp:0<c:=Nat.pos_of_ne_zero fun h=>HNF.out ⟨hkl,hkm,h⟩;have e0:=HL0.out hkl;have e1:=HM0.out hkm;subst e0;subst e1;have e:=EC.out ((c+0+0)%10000) ((c:Int)%10000) zo;have SV:=zh e;have HG:Hid ((c+0+0) / 10000≤1):=zh zo;clear e EC HX HY HL0 HM0;go_wp2_with (at_builtin;refine wpList_append_own _ rfl (.tmp 44) (.tmp 47) 159 rfl w.heap.size 3 i0 (.int .i64 0) 1 8 Tryz.underlying159 hi hz0 hz1 hz2 rfl zd _ _ _ rfl (hown.alloc _) ⟨wr.heap.size,0,none⟩ 1 1 [.int .i64 ((c:Int)%10000)] rfl rfl (by intro t u ht;match t,ht with|0,ht=>simp at ht;subst ht;simp [Addr.add]) (by intro u hu;simp at hu;subst hu;rfl) (by have:=wJ.out;unfold maxLen;omega) (by have:=wJ.out;omega) (by have:=hb.size;simp;omega) ?_)
        intro v' w1 hown1 hgrow1 _;rw [SV.out] at hown1;have hb3:Below w.heap.size w w1:=(hb.alloc hb.size _).grown hgrow1 (by simp;have:=hb.size;omega) (fun k hk=>(hown.lt k hk).1);clear hown hgrow1
        go_wp2
        go_roundw
        case rel=>exact ⟨k+1,(c+0+0) / 10000,s++[(c+0+0)%10000],by have:=wJ.out;omega,HG.out,by have:=HG.out;omega,zh (by rw [List.length_append,HS.out];rfl),by go_num,by go_num,hown1,hds.snoc zo,HP.out _ _ zo,hb3⟩
        case measure=>simp [intOf];have:=wJ.out;omega
theorem wW (x y:Value) (a b:Nat) (w:World) (hx:Nm w x a) (hy:Nm w y b) (ha:sz 10000 a≤549755813888) (hb:sz 10000 b≤549755813888) :
  Calls Tryz.prog 318 #[x,y] w (UQ w (a+b)):=by
 obtain ⟨pa,ca,rfl,h1,h2,h3⟩:=Gs.read hx.gs;obtain ⟨pb,cb,rfl,k1,k2,k3⟩:=Gs.read hy.gs;have:=Yr pa pb ca cb _ _ w (aT zo a) (aT zo b) ha hb h3 k3
 rwa [aP zo,aP zo] at this
theorem wpList_append_run {P:Program} {ops:Array Oper} {rest:List Oper} {o:Oper} {a:Act} {w w':World} {Q:Exit→Act→World→Prop} (hgd:o.guard=none) (s x:Operand) (t:TypeId)
  (ho:o.op= .call { callee:=.builtin .append,args:=#[s,x],argTypes:=#[t,t] }) {vs vx v:Value} (hs:a.eval s=vs) (hx:a.eval x=vx)
  (hr:∀ ty,(Builtin.append_ #[t,t] ty #[vs,vx]).run P w= .ok v w') (h:wpList P ops Q rest (a.put o.dst v) w'):wpList P ops Q (o::rest) a w :=
 wpList_plain hgd fun _ hK=>by
  unfold Oper.wp execOp;simp only [ho,resolve,invoke,builtin,Sem.run_bind,Sem.run_pure,Result.andThen_ok,List.map_toArray,List.map_cons,List.map_nil,hs,hx,hr];exact hK _ _ h
theorem xQ (W:World) (g:Nat) (ds l:List Nat) (v:Value) (hx:ah W g (ints ds).toArray 3) (h:Gs W v l) (hl:ds.length+l.length≤1099511627776) :
  ∃ v' W',(∀ ty,(Builtin.append_ #[159,159] ty #[.slice (some ⟨g,0,none⟩) ds.length ds.length,v]).run Tryz.prog W= .ok v' W')∧Gs W' v' (ds++l)∧Below W.heap.size W W'∧∃ b o n c,v'= .slice (some ⟨b,o,none⟩) n c∧(b=g∨b=W.heap.size):=by
 obtain ⟨i0,hi,hz0,hz1,hz2⟩:=info_parts yL
 have hcell:∀ (w':World),w'.heap=W.heap→∀ j u,(ints ds)[j]? =some u→w'.cell? ((⟨g,0,none⟩:Addr).add j)=some u:=fun w' hw j u hu=>by
  have hx':ah w' g (ints ds).toArray 3:=by unfold ah at*; rw [hw];exact hx
  rw [Addr.add_lit,hx'.cell,Nat.zero_add,List.getElem?_toArray,hu]
 have same:l=[]→Gs W (.slice (some ⟨g,0,none⟩) ds.length ds.length) (ds++l):=fun e=>by
  subst e;rw [List.append_nil];refine Row.mk (by rw [aV]) (by rw [aV];exact Nat.le_refl _) zo hx fun i hi=>?_;rw [Nat.zero_add,List.getElem?_toArray];exact List.getElem?_eq_getElem hi
 have room:∀ (x:Value),l=[]→Src Tryz.prog i0.size 159 x 0 [] W→∃ v' W',(∀ ty,(Builtin.append_ #[159,159] ty #[.slice (some ⟨g,0,none⟩) ds.length ds.length,x]).run Tryz.prog W= .ok v' W')∧Gs W' v' (ds++l)∧Below W.heap.size W W'∧∃ b o n c,v'= .slice (some ⟨b,o,none⟩) n c∧(b=g∨b=W.heap.size):=fun x e hs =>
  ⟨_,_,fun ty=>run_append_room_src W 159 159 ty 3 i0 Tryz.underlying159 hi g 0 ds.length ds.length x 0 [] hs zo (fun j hj=>by cases hj) (fun j hj=>by cases hj),by simpa [World.setCells] using same e,by simpa [World.setCells] using Below.refl _ _,_,_,_,_,rfl,.inl rfl⟩
 rcases Gs.cases h with ⟨rfl,rfl⟩|⟨b,off,cap,rfl,h1,h2,h3, -, h5⟩
 ·exact room _ rfl (Src.ofNil W Tryz.underlying159 0)
 ·by_cases hl0:l.length=0
  ·have e:=List.length_eq_zero_iff.1 hl0;have hs:Src Tryz.prog i0.size 159 (.slice (some ⟨b,off,none⟩) 0 cap) 0 [] W:=Src.ofSlice W Tryz.underlying159 ⟨b,off,none⟩ 0 cap [] zi (fun j u hu=>by cases hu) (fun u hu=>by cases hu);rw [hl0];exact room _ e hs
  ·have hs:Src Tryz.prog i0.size 159 (.slice (some ⟨b,off,none⟩) l.length cap) l.length (ints l) W:=Src.ofSlice W Tryz.underlying159 ⟨b,off,none⟩ l.length cap (ints l) (by rw [aV,hz1];simp) (fun j u hu=>by
    have hj:j<l.length:=by
     have:=(List.getElem?_eq_some_iff.1 hu).1;rwa [aV] at this
    rw [qY hj] at hu;rw [Addr.add_lit,h5 j hj,← hu]) (Go.Mem.ints_oneCell l)
   have hold:(Builtin.firstCells i0.size ds.length (.slice (some ⟨g,0,none⟩) ds.length ds.length)).run Tryz.prog W.drew= .ok (ints ds).toArray W.drew :=
    run_firstCells_some W.drew i0.size ds.length ⟨g,0,none⟩ ds.length ds.length (ints ds) (by rw [aV,hz1];simp) (hcell W.drew rfl)
   refine ⟨_,_,fun ty=>run_append_grow_src W 159 159 ty 3 i0 (.int .i64 0) Tryz.underlying159 hi hz0 (some ⟨g,0,none⟩) ds.length ds.length (ints ds) hold _ l.length (ints l) hs zo zo (growslice_fits_wide zo (by rw [hz2];omega)),?_,?_,_,_,_,_,rfl,.inr rfl⟩
   ·refine Row.mk (by rw [aV,List.length_append]) ?_ ?_ (ah.new _ _ _) fun i hi=>?_
    ·rw [aV,List.length_append];exact grownCap_ge _ _ _ _
    ·have:=grownCap_le_maxLen W (ds.length+l.length) ds.length 3 (by unfold maxLen;omega);unfold maxLen at this;omega
    ·rw [aV,List.length_append] at hi;rw [Nat.zero_add,Array.getElem?_append_left (by simp [ints];omega),List.getElem?_toArray];have e:ints ds++ints l=ints (ds++l):=by unfold ints;rw [List.map_append]
     rw [e];exact List.getElem?_eq_getElem (by rw [aV,List.length_append];exact hi)
   ·exact (Below.drew (Below.refl _ _)).alloc zi _
theorem ab2 (B:Nat) (l:List Nat) (k:Nat):val B (l.drop k)=val B (l.drop (k+1))*B+l.getD k 0:=by
 by_cases h:k<l.length
 ·exact rM h
 ·rw [List.drop_of_length_le zo,List.drop_of_length_le zo];simp [val,Nat.le_of_not_lt h]
theorem ab3 {B:Nat} (hB:0<B) {l:List Nat} (hl:dS B l) (k:Nat):val B (l.drop k)=val B l / B^k:=by
 by_cases h:k≤l.length
 ·have e:val B l=val B (l.take k)+B^k*val B (l.drop k):=by
   conv=>lhs;rw [← List.take_append_drop k l,val_append]
   rw [List.length_take,Nat.min_eq_left h]
  have h2:=gJ hB (hl.take k);rw [List.length_take,Nat.min_eq_left h] at h2;rw [e,Nat.add_mul_div_left _ _ (Nat.pow_pos hB),Nat.div_eq_of_lt h2,Nat.zero_add]
 ·rw [List.drop_of_length_le zo];have h2:=gJ hB hl;rw [Nat.div_eq_of_lt (Nat.lt_of_lt_of_le h2 (Nat.pow_le_pow_right hB zo))];rfl
theorem aA0 {R D P t f:Nat} (h1:t*P≤D) (h2:D<(t+1)*P) (ht:10000≤t) (hR:R<D*10000) (hP:0<P) (hf:f=R / P) :
  f / (t+1)*D≤R∧R<(f / t+1)*D∧f / t+1≤10001:=by
 have e1:f*P≤R:=by rw [hf];exact Nat.div_mul_le_self R P
 have e2:R<(f+1)*P:=by rw [hf,Nat.add_mul,Nat.one_mul];exact Nat.lt_div_mul_add hP
 refine ⟨?_,?_,?_⟩
 ·have h3:f / (t+1)*D≤f / (t+1)*((t+1)*P):=Nat.mul_le_mul_left _ (Nat.le_of_lt h2);have h4:f / (t+1)*(t+1)*P≤f*P:=Nat.mul_le_mul_right _ (Nat.div_mul_le_self _ _);rw [Nat.mul_assoc] at h4;omega
 ·have h3:f+1≤(f / t+1)*t:=by
   rw [Nat.add_mul,Nat.one_mul];exact Nat.lt_div_mul_add zo
  have h4:(f+1)*P≤(f / t+1)*t*P:=Nat.mul_le_mul_right _ h3;have h5:(f / t+1)*(t*P)≤(f / t+1)*D:=Nat.mul_le_mul_left _ h1;rw [Nat.mul_assoc] at h4;omega
 ·have h3:f*P<(t+1)*10000*P:=by
   have h6:D*10000≤(t+1)*P*10000:=Nat.mul_le_mul_right _ (Nat.le_of_lt h2);rw [Nat.mul_assoc,Nat.mul_comm P 10000,← Nat.mul_assoc] at h6;omega
  have h4:f<(t+1)*10000:=Nat.lt_of_mul_lt_mul_right h3
  have h5:f / t<10001:=by
   rw [Nat.div_lt_iff_lt_mul zo];omega
  omega
theorem aw8 {lo hi R D:Nat} (h1:lo*D≤R) (hR:R<D*10000) (hhi:hi≤10001) (hlt:lo+1<hi):lo≤9999∧(lo+hi) / 2≤10000∧lo<(lo+hi) / 2∧(lo+hi) / 2<hi:=by
 have:lo<10000:=by
  rcases Nat.lt_or_ge lo 10000 with h|h
  ·exact h
  ·exfalso
   have h2:10000*D≤lo*D:=Nat.mul_le_mul_right _ h;rw [Nat.mul_comm] at h2;omega
 omega
theorem aA8 {lo R D:Nat} (h1:lo*D≤R) (h2:R<(lo+1)*D):R / D=lo∧R%D=R - D*lo:=by
 have hD:0<D:=by
  rcases Nat.eq_zero_or_pos D with h|h
  ·subst h;simp at h2
  ·exact h
 have e:R / D=lo:=by
  rw [Nat.div_eq_iff zo];rw [Nat.add_mul,Nat.one_mul] at h2;have:=Nat.mul_comm D lo;omega
 refine ⟨e,?_⟩;have:=Nat.div_add_mod R D;rw [e] at this;omega
theorem Qb {B D:Nat} {a s:List Nat} {j R lo:Nat} (hj:j<a.length) (he:val B (a.drop (j+1))=D*val B s+R) (h1:(a.getD j 0+B*R) / D=lo) :
  val B (a.drop j)=D*val B (lo::s)+(a.getD j 0+B*R)%D:=by
 rw [rM hj,he];have h:=Nat.div_add_mod (a.getD j 0+B*R) D;rw [h1] at h;simp only [val];have e1:D*(lo+B*val B s)=D*lo+B*(D*val B s):=by rw [Nat.mul_add,Nat.mul_left_comm]
 have e2:(D*val B s+R)*B=B*(D*val B s)+B*R:=by rw [Nat.add_mul,Nat.mul_comm,Nat.mul_comm R]
 rw [e1,e2];omega
theorem Dg (x y:Value) (l m:List Nat) (w:World) (hx:Gs w x l) (hy:Gs w y m) (hl:dS 10000 l) (hm:Okm m) (ha:l.length≤1099511627776) (hb:m.length≤1099511627776) :
  Calls Tryz.prog 263 #[x,y] w fun e w'=>∃ v,e= .returned v∧Below w.heap.size w w'∧Nm w' v (val 10000 l*val 10000 m):=by
 obtain ⟨pa,ca,rfl,h1,h2,h3⟩:=Gs.read hx;obtain ⟨pb,cb,rfl,k1,k2,k3⟩:=Gs.read hy;exact yE pa pb ca cb _ _ w hl hm ha hb h3 k3
theorem Gs.one {w:World} {d:Nat}:Gs (w.alloc (.cells #[.int .i64 (d:Int)] 3 (0,0))) (.slice (some ⟨w.heap.size,0,none⟩) 1 1) [d]:=by
 refine Row.mk rfl (by simp [ints]) zo (ah.new _ _ _) fun i hi=>?_
 match i,hi with
 | 0,_=>rfl
def wC (w:World) (a b:Nat) (e:Ending) (w':World):Prop:=∃ q r,e= .returned (.tuple #[q,r])∧Below w.heap.size w w'∧Nm w' q (a / b)∧Nm w' r (a%b)
theorem VO (x:Value) (a d:Nat) (pb:Option Addr) (cb:Nat) (w:World) (hx:Nm w x a) (ha:sz 10000 a≤1099511627776) (hd0:0<d) (hd1:d<10000)
  (hc:∃ b off,pb=some ⟨b,off,none⟩∧w.cell? ⟨b,off,none⟩=some (.int .i64 (d:Int))) :
  Calls Tryz.prog 260 #[x,.slice pb 1 cb] w (wC w a d):=by
 have HO:=zh (aj1 x a d w hx ha hd0 zo);obtain ⟨pa,ca,rfl, -⟩:=hx.read;obtain ⟨b,off,rfl,hcell⟩:=hc;clear hx ha;go_enter Tryz.func260,Tryz.ntmps260
 go_wp2_with fail
 refine HO.out.mono ?_;rintro e w1 ⟨v,rfl,hb1,hv⟩;obtain ⟨pq,lq,cq,rfl⟩:=hv.slice;have HV:=zh hv;have hr:a%d<10000:=Nat.lt_trans (Nat.mod_lt _ hd0) hd1;generalize hR:a%d=r at *;have HR:=zh hR;clear hR hv hcell;have HC:=zh (xJ (.slice (some ⟨w1.heap.size,0,none⟩) 1 1) [r] (w1.alloc (.cells #[.int .i64 (r:Int)] 3)) Gs.one (dS.nil.cons hr));go_wp2_with fail
 refine HC.out.mono ?_;rintro e w' ⟨v',rfl,rfl,hv'⟩;obtain ⟨pr,lr,cr,rfl⟩:=hv'.slice;have HV':=zh hv';clear hv' HC HO;go_wp2_with fail
 go_ret2
 refine ⟨_,_,rfl,bI hb1 _,HV.out.alloc _,?_⟩;have e:val 10000 [r]=r:=by simp [val]
 rw [HR.out,← e];exact HV'.out
theorem Qd (x:Value) (a p d:Nat) (pb:Option Addr) (cb:Nat) (w:World) (hx:Nm w x a) (ha:sz 10000 a≤p+1) (hp:p≤549755813888) (hd:a<d) :
  Calls Tryz.prog 260 #[x,.slice pb (p+2) cb] w (wC w a d):=by
 obtain ⟨i0,hi,hz0,hz1,hz2⟩:=info_parts yL;obtain ⟨v',W',hap,hg,hb, -⟩:=xQ (w.alloc (.cells #[] 3)) w.heap.size [] (bW 10000 a) x (ah.new _ _ _) (hx.alloc _) (by have:(bW 10000 a).length=sz 10000 a:=rfl;simp;omega);obtain ⟨pa,ca,rfl,k1,k2, -⟩:=hx.read;rw [List.nil_append] at hg;have HG:=zh hg;obtain ⟨p2,c2,rfl, -⟩:=hg.read;have HB:=zh hb;have HA:Hid (a / d=0∧a%d=a):=zh ⟨Nat.div_eq_of_lt hd,Nat.mod_eq_of_lt hd⟩;generalize sz 10000 a=sa at *;clear hx hg hb hd;have h1:((p:Int)+2 == 1)=false:=by simp;omega
 have h2:(sa:Int)≤(p:Int)+2 - 1:=by omega
 have HAP:=zh hap;clear hap;go_enter Tryz.func260,Tryz.ntmps260
 go_wp2_with (at_builtin;refine wpList_append_run rfl (.tmp 40) (.tmp 41) 159 rfl rfl rfl HAP.out ?_)
 go_ret2
 exact ⟨_,_,rfl,Bt aD HB.out,by rw [HA.out.1];exact Nm.zero _,by rw [HA.out.2];exact HG.out⟩
theorem Gs.drop {w:World} {b off n c:Nat} {l:List Nat} (h:Gs w (.slice (some ⟨b,off,none⟩) n c) l) (k:Nat) (hk:k≤n):Gs w (.slice (some ⟨b,off+k,none⟩) (n - k) (c - k)) (l.drop k):=by
 rcases Row.cases h with ⟨h1, -⟩|⟨b',off',cap,arr,e,h2,h3,h4,h5⟩
 ·cases h1
 ·simp only [Value.slice.injEq,Option.some.injEq,Addr.mk.injEq,and_true] at e;obtain ⟨⟨rfl,rfl⟩,hn,rfl⟩:=e;rw [aV] at hn h2;refine Row.mk (by rw [aV,List.length_drop];omega) (by rw [aV,List.length_drop];omega) zo h4 fun i hi=>?_;rw [aV,List.length_drop] at hi;have:=h5 (k+i) (by rw [aV];omega);rw [← Nat.add_assoc] at this;rw [this];simp [ints]
theorem Nm.setBlock {w:World} {b off k c n g:Nat} (h:Nm w (.slice (some ⟨b,off,none⟩) k c) n) (hne:b≠g) (o:Nat) (u:Value):Nm (w.setCell ⟨g,o,none⟩ u) (.slice (some ⟨b,off,none⟩) k c) n:=by
 obtain ⟨a,cap,h1,h2,h3,h4,h5⟩:=h;refine ⟨a,cap,h1,h2,h3,h4,fun ad had=>?_⟩;obtain ⟨h6,arr,h7,h8⟩:=h5 ad had
 have e:ad.block=b:=by
  subst had;simp only [Value.slice.injEq,Option.some.injEq] at h1;rw [← h1.1]
 have hy:ah w ad.block arr 3:=h7;exact ⟨h6,arr,hy.setOther u (by rw [e];exact hne),h8⟩
theorem ab9 (b off n c:Nat) (l:List Nat) (w:World) (h:Gs w (.slice (some ⟨b,off,none⟩) n c) l) (hd:dS 10000 l) :
  Calls Tryz.prog 297 #[.slice (some ⟨b,off,none⟩) n c] w fun e w'=>∃ k,e= .returned (.slice (some ⟨b,off,none⟩) k c)∧w=w'∧Nm w (.slice (some ⟨b,off,none⟩) k c) (val 10000 l):=by
 rcases Gs.cases h with ⟨h1, -⟩|⟨b',off',cap,e,h1,h2,h3, -, h5⟩
 ·cases h1
 ·simp only [Value.slice.injEq,Option.some.injEq,Addr.mk.injEq,and_true] at e;obtain ⟨⟨rfl,rfl⟩,rfl,rfl⟩:=e;refine (Od b off c l w h1 h2 h5).mono ?_;rintro e w' ⟨rfl,rfl⟩;refine ⟨_,rfl,rfl,?_⟩
  rcases Row.cases h with ⟨e1, -⟩|⟨b',off',cap',arr,e1, -, -, h4, -⟩
  ·cases e1
  ·simp only [Value.slice.injEq,Option.some.injEq,Addr.mk.injEq,and_true] at e1;obtain ⟨⟨rfl,rfl⟩, -, rfl⟩:=e1;have ht:=trimLen_le l l.length;have e:val 10000 l=val 10000 (l.take (trimLen l l.length)):=by rw [xY _ _ _ (Nat.le_refl _)];simp
   rw [e];refine Nm.YZ ?_ (hd.take _) (xZ l _ (Nat.le_refl _));refine Row.mk (arr:=arr) (by rw [aV];simp;omega) (by rw [aV];simp;omega) h2 h4 fun i hi=>?_;rw [aV] at hi;have hi2:i<l.length:=by simp at hi;omega
   have:=h5 i hi2;rw [h4.cell] at this;rw [this];simp [ints,hi2]
theorem Nm.aj4 {w:World} {v:Value} {a k:Nat} (h:Gs w v ((bW 10000 a).drop k)):Nm w v (val 10000 ((bW 10000 a).drop k)):=Nm.YZ h ((aT zo a).drop k) (Go.Dec.CJ (mV zo a) k)
theorem Qc (x:Value) (a n p m D:Nat) (bl:List Nat) (pb:Option Addr) (cb:Nat) (w:World) (hx:Nm w x a) (hbs:Gs w (.slice pb (n+1) cb) bl) (hbl:bl.length=n+1) (db:dS 10000 bl) (htop:1≤bl.getD n 0)
  (hn:n=p+1) (hm:sz 10000 a=m+n) (hm1:1≤m) (ha2:sz 10000 a≤274877906944) (hD:val 10000 bl=D) :
  Calls Tryz.prog 260 #[x,.slice pb (n+1) cb] w (wC w a D):=by
 obtain ⟨i0,hi,hz0,hz1,hz2⟩:=info_parts yL;have QH:bl.length=p+2:=by omega
 have hv2:=oH (B:=10000) QH;have hvt:=gJ (B:=10000) zo (db.take p);rw [List.length_take,Nat.min_eq_left zo] at hvt;rw [hD] at hv2;have d1:=db.getD zo n;have d0:=db.getD zo p;rw [show p+1=n by omega] at hv2
 obtain ⟨b,off,rfl,lbb,c1⟩:∃ b off,pb=some ⟨b,off,none⟩∧b<w.heap.size∧w.cell? ⟨b,off+n,none⟩=some (.int .i64 (bl.getD n 0:Nat)):=by
  obtain ⟨a',c',e, -, -, h5⟩:=hbs.read;simp only [Value.slice.injEq] at e;obtain ⟨rfl, -, -⟩:=e;exact h5 n zo
 have c0:w.cell? ⟨b,off+p,none⟩=some (.int .i64 (bl.getD p 0:Nat)):=by
  obtain ⟨a',c',e, -, -, h5⟩:=hbs.read;simp only [Value.slice.injEq] at e;obtain ⟨rfl, -, -⟩:=e;obtain ⟨b',o',e2, -, h6⟩:=h5 p zo;simp only [Option.some.injEq,Addr.mk.injEq,and_true] at e2;obtain ⟨rfl,rfl⟩:=e2;exact h6
 generalize bl.getD n 0=t1 at *;generalize bl.getD p 0=t0 at *;obtain ⟨T,eT⟩:∃ T,t1*10000+t0=T:=⟨_,rfl⟩;have hT:10000≤T∧T≤99999999:=by omega
 obtain ⟨P,hP⟩:∃ P,10000^p=P:=⟨_,rfl⟩;have hP0:0<P:=by rw [← hP];exact Nat.pow_pos zo
 rw [hP] at hv2 hvt
 have hD1:T*P≤D:=by
  rw [hv2,← eT,Nat.mul_comm,Nat.mul_comm t1,Nat.add_comm (10000*t1)];omega
 have hD2:D<(T+1)*P:=by
  rw [hv2,Nat.add_mul,Nat.one_mul,← eT,Nat.mul_comm (t1*10000+t0),Nat.mul_comm t1,Nat.add_comm (10000*t1)];omega
 have hD0:0<D:=Nat.lt_of_lt_of_le (Nat.mul_pos zo hP0) hD1
 have hDn:D<10000^(n+1):=by
  have:=gJ (B:=10000) zo db
  rwa [hD,hbl] at this
 have GUESS:=zh (fun R f (hR:R<D*10000) (hf:f=R / P)=>aA0 hD1 hD2 hT.1 hR hP0 hf);have hla:(bW 10000 a).length=m+n:=hm;have hda:=aT (B:=10000) zo a;have hva:=aP (B:=10000) zo a;obtain ⟨l,El⟩:∃ l,bW 10000 a=l:=⟨_,rfl⟩;obtain ⟨pa,ca,rfl,k1,k2,k3⟩:=hx.read;rw [El] at k3 hla hda hva;rw [hm] at k1 k3;obtain ⟨ba,oa,rfl,lba, -⟩:=k3 0 zo
 have ka:∀ j,j<m+n→w.cell? ⟨ba,oa+j,none⟩=some (.int .i64 (l.getD j 0:Nat)):=fun j hj=>by
  obtain ⟨b',o',e2, -, h6⟩:=k3 j hj;simp only [Option.some.injEq,Addr.mk.injEq,and_true] at e2;obtain ⟨rfl,rfl⟩:=e2;exact h6
 have KA:=zh ka;have HLA:=zh hla;have HDA:=zh hda
 have hgd:Gs w (.slice (some ⟨ba,oa+m,none⟩) n (ca - m)) (l.drop m):=by
  have:=Gs.drop hx.gs m (by rw [hm];omega);rw [hm,El] at this
  rwa [show m+n - m=n by omega] at this
 have hr0:val 10000 (l.drop m)<D:=by
  have h1:=gJ (B:=10000) zo (hda.drop m);rw [List.length_drop,hla,show m+n - m=n by omega] at h1
  have h2:10000^n≤D:=by
   have h3:10000*P≤T*P:=Nat.mul_le_mul_right _ hT.1;have h4:10000^n=10000*P:=by rw [hn,Nat.pow_succ,hP,Nat.mul_comm]
   omega
  omega
 have HGD:=zh hgd;have tN:=zh hr0;have Vb:=zh hbs;have HDB:=zh db;have wQ:=zh hbl;have HD:=zh hD;have HDN:=zh hDn
 have HDiv:Hid (∀ s r,a=D*val 10000 s+r→r<D→a / D=val 10000 s∧a%D=r):=zh fun s r e h=>by
  constructor
  ·rw [e,Nat.mul_add_div hD0,Nat.div_eq_of_lt h,Nat.add_zero]
  ·rw [e,Nat.mul_add_mod,Nat.mod_eq_of_lt h]
 have HVA:=zh hva
 have HDr:Hid (∀ w' v k,Gs w' v (l.drop k)→Nm w' v (val 10000 (l.drop k))):=zh fun w' v k h=>by
  rw [← El] at h ⊢;exact Nm.aj4 h
 rw [hm] at ha2 ⊢;clear QH hv2 hvt db hbs hbl hD hDn hD1 hD2 htop hgd hr0 k3 ka hla hda hva El hx hm;have hbn:(n:Int)+1 - 1=(n:Int):=by omega
 have ep:(n:Int) - 1=(p:Int):=by omega
 have em:(m:Int)+(n:Int) - (n:Int)=(m:Int):=by omega
 have emn:m+n - m=n:=by omega
 have eTi:(t1:Int)*10000+(t0:Int)=(T:Int):=by omega
 have hn1:((n:Int)+1 == 1)=false:=by simp;omega
 have hmn:¬ (m:Int)+(n:Int)≤(n:Int):=by omega
 have hwp:IntKind.i64.wrap (p:Int)=(p:Int):=by rw [IntKind.wrap_i64];omega
 have hpn:(p:Int)<(n:Int)+1:=by omega
 obtain ⟨hT1,hT2⟩:=hT;have HNP:=zh hn;clear eT hn;go_enter Tryz.func260,Tryz.ntmps260
 go_wp2_with fail
 go_quiet (fail)
 go_wp2_with (at_make;refine wpList_make_full _ rfl _ _ 159 rfl w.heap.size 3 i0 (.int .i64 0) 1 Tryz.underlying159 hi hz0 hz1 _ _ _ _ m rfl rfl zo zo (by rw [hz2];omega) (by unfold maxLen;omega) (Nat.le_refl _) ?_)
 intro w0 hown0 jA;rw [Ad] at hown0;obtain ⟨hbx, -⟩:=uZ hown0;have hb0:Below w.heap.size w w0:=(below_drewN (Below.refl _ _) _).grown jA (Nat.le_refl _) (fun k h=>by cases h);have e0:Gs (w0.alloc (.cells #[] 3)) (.slice (some ⟨ba,oa+m,none⟩) n (ca - m)) (l.drop m):=(HGD.out.later hb0).alloc _;obtain ⟨v1,w1,hap,hg1,hb1, -⟩:=xQ (w0.alloc (.cells #[] 3)) w0.heap.size [] (l.drop m) _ (ah.new _ _ _) e0 (by rw [List.length_drop,HLA.out];simp;omega);rw [List.nil_append] at hg1;have HN1:=zh (HDr.out _ _ _ hg1);have HB1:Hid (Below w.heap.size w w1):=zh (Bt (bI hb0 _) hb1);have aP9:Hid (ah w1 w.heap.size (ints (List.replicate m 0)).toArray 3):=zh ((hbx.alloc _).later hb1);have HAP:=zh hap;obtain ⟨pr,lr,cr,rfl⟩:=HN1.out.slice;clear hap hg1 hb1 e0 hb0 hbx jA hown0 c1 c0 HGD
 go_wp2_with (at_builtin;refine wpList_append_run rfl (.tmp 59) (.tmp 65) 159 rfl rfl rfl HAP.out ?_)
 clear HAP
 go_loopw [11,12,13,14,15,16,17] (fun rv iv _ _ _ _ _ wr=>∃ (q:Int) (R:Nat) (s:List Nat), -1≤q∧q<m∧iv= .int .i64 q∧Hid (s.length=m - (q+1).toNat)∧Hid (ah wr w.heap.size (ints (List.replicate (q+1).toNat 0++s)).toArray 3)∧Hid (dS 10000 s) ∧
   Hid (val 10000 (l.drop (q+1).toNat)=D*val 10000 s+R)∧Hid (R<D)∧Hid (Nm wr rv R)∧Hid (Below w.heap.size w wr))
  (fun _ iv _ _ _ _ _ _=>(intOf iv+1).toNat)
 case atStart =>
  have e:((m:Int) - 1+1).toNat=m:=by omega
  exact ⟨(m:Int) - 1,val 10000 (l.drop m),[],by omega,by omega,rfl,zh (by rw [e];simp),zh (by rw [e,List.append_nil];exact aP9.out),zh dS.nil,zh (by rw [e];simp [val]),tN,HN1,HB1⟩
 case round =>
  clear HN1 HB1 aP9;obtain ⟨q,R,s,hq1,hq2,rfl,HS,rE,Au,HV,HR,HNR,HB⟩:=hrel;obtain ⟨p1,l1,c1,rfl⟩:=HNR.out.slice
  by_cases hq:q<0
  ·have hq0:q= -1:=by omega
   subst hq0;have HF:Hid (a=D*val 10000 s+R):=zh (by have:=HV.out;simpa [HVA.out] using this)
   have hgs:Gs wr (.slice (some ⟨w.heap.size,0,none⟩) m m) s:=by
    have h1:=rE.out;have h2:=HS.out;refine Gs.xC (post:=[]) (by simpa using h1) (by simpa using h2) (Nat.le_refl _) zo
   have HC:=zh (xJ _ s wr hgs Au.out);clear hgs;go_wp2_with fail
   refine HC.out.mono ?_;rintro e w' ⟨v',rfl,rfl,hv'⟩;obtain ⟨p2,l2,c2,rfl⟩:=hv'.slice;have HV':=zh hv';clear hv' HC;go_wp2_with fail
   go_ret2
   obtain ⟨e1,e2⟩:=HDiv.out _ _ HF.out HR.out;exact ⟨_,_,rfl,HB.out,by rw [e1];exact HV'.out,by rw [e2];exact HNR.out⟩
  ·obtain ⟨j,rfl⟩:=Int.eq_ofNat_of_zero_le (by omega:0≤q);have ej:((j:Int)+1).toNat=j+1:=by omega
   have hjm:j<m:=by omega
   rw [ej] at HS HV rE;have hcj:wr.cell? ⟨ba,oa+j,none⟩=some (.int .i64 (l.getD j 0:Nat)):=(HB.out.cell (by exact lba)).trans (KA.out j zo);have hdj:l.getD j 0<10000:=HDA.out.getD zo j;have HST:Hid (∀ lo,(l.getD j 0+10000*R) / D=lo→val 10000 (l.drop j)=D*val 10000 (lo::s)+(l.getD j 0+10000*R)%D):=zh fun lo h=>Qb (by rw [HLA.out];omega) HV.out h;clear HV;generalize l.getD j 0=d at *;obtain ⟨R',ER'⟩:∃ y,Hid (d+10000*R=y):=⟨_,zh rfl⟩;rw [ER'.out] at HST;have aU2:sz 10000 R≤n+1:=aR zo _ _ (Nat.lt_trans HR.out HDN.out);have hR':R'<D*10000:=by have:=ER'.out;have:=HR.out;omega
   have ar4:sz 10000 R'≤n+2:=by
    refine aR zo _ _ (Nat.lt_of_lt_of_le hR' ?_);rw [Nat.pow_succ];exact Nat.mul_le_mul_right _ (Nat.le_of_lt HDN.out)
   obtain ⟨v2,w2,hap,hg2,hb2,b3,o3,n3,c3,rfl,aL1⟩:=xQ (wr.alloc (.cells #[.int .i64 (d:Int)] 3)) wr.heap.size [d] (bW 10000 R) (.slice p1 l1 c1) (ah.new _ _ _) (HNR.out.gs.alloc _) (by have:(bW 10000 R).length=sz 10000 R:=rfl;simp;omega)
   have hev:val 10000 ([d]++bW 10000 R)=R':=by
    show d+10000*val 10000 (bW 10000 R)=R'
    rw [aP zo,ER'.out]
   have hb3:b3≠w.heap.size:=by
    have h1:=rE.out.lt;have h2:b3=wr.heap.size∨b3=wr.heap.size+1:=by simpa using aL1
    omega
   have hct:=ab9 b3 o3 n3 c3 _ w2 hg2 ((aT zo R).cons hdj);rw [hev] at hct;have HC:=zh hct;have HAP:=zh hap;have HB2:Hid (Below wr.heap.size wr w2):=zh (Bt (bI (Below.refl _ _) _) hb2);have HRD:=zh hR';have HSR:=zh ar4;clear hev hct hap hb2 hg2 aL1 hR' aU2 ar4 ER' HR HNR;go_wp2_with (at_builtin;refine wpList_append_run rfl (.tmp 78) (.tmp 79) 159 rfl rfl rfl HAP.out ?_)
   refine HC.out.mono ?_;rintro e w' ⟨z3,rfl,rfl,hv3⟩;obtain ⟨p3,c3',e3,q1,q2,q3⟩:=hv3.read;simp only [Value.slice.injEq] at e3;obtain ⟨rfl,rfl,rfl⟩:=e3;have Va:=zh hv3
   have HQ3:Hid (∀ i,i<sz 10000 R'→b3<w2.heap.size∧w2.cell? ⟨b3,o3+i,none⟩=some (.int .i64 ((bW 10000 R').getD i 0:Nat))):=zh fun i hi=>by
    obtain ⟨b',o',e2,h5,h6⟩:=q3 i hi;simp only [Option.some.injEq,Addr.mk.injEq,and_true] at e2;obtain ⟨rfl,rfl⟩:=e2;exact ⟨h5,h6⟩
   replace HB:=zh (Bt HB.out HB2.out);replace rE:=zh (rE.out.later HB2.out);clear hv3 q3 HC HAP HB2 hcj;generalize hz3:sz 10000 R'=z3 at *;have HZ3:=zh hz3;clear hz3;go_wp2_with fail
   go_loop [13,14] (fun fv kv=>∃ (k:Int) (f:Nat),(p:Int) - 1≤k∧k≤(p:Int)+2∧kv= .int .i64 k∧fv= .int .i64 f∧Hid (f=val 10000 ((bW 10000 R').drop (k+1).toNat)))
    (fun _ kv=>(intOf kv+1).toNat)
   case atStart =>
    have h1:=HNP.out
    exact ⟨(n:Int)+1,0,by omega,by omega,rfl,rfl,zh (by
     have h2:(bW 10000 R').length=z3:=HZ3.out;have h3:=HSR.out;rw [List.drop_of_length_le zo];rfl)⟩
   case round =>
    obtain ⟨k,f,hk1,hk2,rfl,rfl,HF⟩:=hrel
    by_cases hkp:(p:Int)≤k
    ·obtain ⟨i,rfl⟩:=Int.eq_ofNat_of_zero_le (by omega:0≤k);have ei:((i:Int)+1).toNat=i+1:=by omega
     rw [ei] at HF
     have hf:f<100000000:=by
      have h1:=HF.out;have h2:=gJ (B:=10000) zo ((aT (by omega:1<10000) R').drop (i+1));rw [List.length_drop] at h2;have h3:(bW 10000 R').length=z3:=HZ3.out;have h4:=HSR.out;have h5:=HNP.out;have h6:10000^((bW 10000 R').length - (i+1))≤10000^2:=Nat.pow_le_pow_right zo zo;rw [h1];exact Nat.lt_of_lt_of_le h2 h6
     have SK:Hid (val 10000 ((bW 10000 R').drop i)=f*10000+(bW 10000 R').getD i 0):=zh (by rw [ab2,← HF.out])
     by_cases hi3:i<z3
     ·obtain ⟨-, hc3⟩:=HQ3.out i hi3;have hd3:(bW 10000 R').getD i 0<10000:=(aT zo R').getD zo i;clear HF;generalize (bW 10000 R').getD i 0=y at *;go_wp2_with fail
      go_round
      case rel=>exact ⟨(i:Int) - 1,f*10000+y,by omega,by omega,rfl,by go_num,zh (by rw [show ((i:Int) - 1+1).toNat=i by omega];exact SK.out.symm)⟩
      case measure=>simp [intOf]
     ·have hy0:(bW 10000 R').getD i 0=0:=by
       have h3:(bW 10000 R').length=z3:=HZ3.out;rw [List.getD_eq_getElem?_getD,List.getElem?_eq_none zo];rfl
      rw [hy0,Nat.add_zero] at SK;clear HF hy0;go_wp2_with fail
      go_round
      case rel=>exact ⟨(i:Int) - 1,f*10000,by omega,by omega,rfl,by go_num,zh (by rw [show ((i:Int) - 1+1).toNat=i by omega];exact SK.out.symm)⟩
      case measure=>simp [intOf]
    ·have hkk:k=(p:Int) - 1:=by omega
     subst hkk
     have hfR:f=R' / P:=by
      have h1:=HF.out;rw [show ((p:Int) - 1+1).toNat=p by omega,ab3 zo (aT zo R'),aP zo,hP] at h1;exact h1
     have hf8:f<1000000000000:=by
      have h1:=gJ (B:=10000) zo ((aT (by omega:1<10000) R').drop p);rw [List.length_drop] at h1;have h2:=HF.out;rw [show ((p:Int) - 1+1).toNat=p by omega] at h2;have h3:(bW 10000 R').length=z3:=HZ3.out;have h4:=HSR.out;have h5:=HNP.out;have h6:10000^((bW 10000 R').length - p)≤10000^3:=Nat.pow_le_pow_right zo zo;rw [h2];exact Nat.lt_of_lt_of_le h1 h6
     obtain ⟨g1,g2,g3⟩:=GUESS.out R' f HRD.out hfR;have hlo:(((f / (T+1):Nat)):Int)=(f:Int) / ((T:Int)+1):=by rw [Int.natCast_ediv];rfl
     have hhi:(((f / T:Nat)):Int)=(f:Int) / (T:Int):=by rw [Int.natCast_ediv]
     have hl1:f / (T+1)≤f:=Nat.div_le_self _ _;generalize f / (T+1)=lo at *;generalize f / T=hi1 at *;have hz1:(((T:Int)+1) == 0)=false:=by simp;omega
     have hz2':((T:Int) == 0)=false:=by simp;omega
     clear HF hfR;have HG1:=zh g1;have HG2:=zh g2;have hlo2:(f:Int) / ((T:Int)+1)=(lo:Int):=hlo.symm;have hhi2:(f:Int) / (T:Int)=(hi1:Int):=hhi.symm;clear g1 g2 hlo hhi;go_wp2_with fail
     go_quiet (fail)
     obtain ⟨w3,Ew3⟩:∃ y,w2.drewN nq=y:=⟨_,rfl⟩;have hw3:Below w2.heap.size w2 w3:=by rw [← Ew3];exact below_drewN (Below.refl _ _) _
     rw [Ew3];replace Va:=zh (Va.out.later hw3);replace HB:=zh (Bt HB.out hw3);replace rE:=zh (rE.out.later hw3);clear Ew3 hw3 HQ3 hf8 hl1 hz1 hz2' hlo2 hhi2;obtain ⟨wo,rfl⟩:∃ wo:World,wo=wr:=⟨_,rfl⟩;have h13:hi1+1≤10001:=g3
     have hlh:lo<hi1+1:=by
      have h1:=HG1.out;have h2:=HG2.out
      rcases Nat.lt_or_ge lo (hi1+1) with h|h
      ·exact h
      ·exfalso
       have h3:(hi1+1)*D≤lo*D:=Nat.mul_le_mul_right _ h;omega
     go_wp2_with fail
     go_loopw [15,16,17] (fun lv hv _ wr=>∃ lo hi:Nat,lo<hi∧hi≤10001∧lv= .int .i64 lo∧hv= .int .i64 hi∧Hid (lo*D≤R')∧Hid (R'<hi*D)∧Hid (Nm wr (.slice (some ⟨b3,o3,none⟩) z3 c3) R')∧Hid (Below w.heap.size w wr) ∧
       Hid (ah wr w.heap.size (ints (List.replicate (j+1) 0++s)).toArray 3))
      (fun lv hv _ _=>(intOf hv - intOf lv).toNat)
     case atStart=>exact ⟨lo,hi1+1,hlh,h13,rfl,by go_num,HG1,HG2,Va,HB,rE⟩
     case round =>
      clear Va HB rE HG1 HG2 hlh h13 g3;obtain ⟨lo,hi,hlh,hhb,rfl,rfl,HG1,HG2,Va,HB,rE⟩:=hrel
      by_cases hfin:lo+1<hi
      ·obtain ⟨f1,f2,f3,f4⟩:=aw8 HG1.out HRD.out hhb hfin;have ZG:((lo:Int)+(hi:Int)) / 2=(((lo+hi) / 2:Nat):Int):=by omega
       obtain ⟨mm,emm⟩:∃ y,(lo+hi) / 2=y:=⟨_,rfl⟩;rw [emm] at f2 f3 f4 ZG;have hgt:(1:Int)<(hi:Int) - (lo:Int):=by omega
       have XJ:=zh (Dg _ (.slice (some ⟨wr.heap.size,0,none⟩) 1 1) bl [mm] (wr.alloc (.cells #[.int .i64 (mm:Int)] 3)) (Vb.out.later (Bt HB.out (bI (Below.refl _ _) _))) Gs.one HDB.out (.inr ⟨rfl,fun x hx=>by rw [List.mem_singleton.1 hx];exact f2⟩) (by rw [wQ.out];omega) zi);clear emm;go_wp2_with fail
       refine XJ.out.mono ?_;rintro e w4 ⟨v4,rfl,hb4,hv4⟩;have hval:val 10000 bl*val 10000 [mm]=D*mm:=by rw [HD.out];simp [val]
       rw [hval] at hv4;have hct:=xJ v4 _ w4 hv4.gs (aT zo _);rw [aP zo] at hct;have HC4:=zh hct;have h14:Below wr.heap.size wr w4:=Bt (bI (Below.refl _ _) _) hb4;obtain ⟨p4,l4,c4,rfl⟩:=hv4.slice;replace Va:=zh (Va.out.later h14);replace HB:=zh (Bt HB.out h14);replace rE:=zh (rE.out.later h14);clear hval hct hb4 h14 hv4 XJ;go_wp2_with fail
       refine HC4.out.mono ?_;rintro e w' ⟨v5,rfl,rfl,hv5⟩;obtain ⟨p5,l5,c5,rfl⟩:=hv5.slice;have HO:=zh (uH _ _ (D*mm) R' w4 hv5 Va.out);clear hv5 HC4;go_wp2_with fail
       refine HO.out.mono ?_;rintro e w5 ⟨r,rfl,hb5,hor⟩;replace Va:=zh (Va.out.later hb5);replace HB:=zh (Bt HB.out hb5);replace rE:=zh (rE.out.later hb5);clear HO hb5
       by_cases hle:D*mm≤R'
       ·have hr:r≤0:=hor.1.2 hle;have Jo:Hid (mm*D≤R'):=zh (by rw [Nat.mul_comm];exact hle);clear hle hor;go_wp2_with fail
        go_roundw
        case rel=>exact ⟨mm,hi,f4,hhb,rfl,rfl,Jo,HG2,Va,HB,rE⟩
        case measure=>exact zM
       ·have hr:¬ r≤0:=fun h=>hle (hor.1.1 h);have HLT:Hid (R'<mm*D):=zh (by rw [Nat.mul_comm];omega);clear hle hor;go_wp2_with fail
        go_roundw
        case rel=>exact ⟨lo,mm,f3,by omega,rfl,rfl,HG1,HLT,Va,HB,rE⟩
        case measure=>exact zM
      ·have hh:hi=lo+1:=by omega
       subst hh;have hgt:¬ (1:Int)<(lo:Int)+1 - (lo:Int):=by omega
       obtain ⟨hdv,hmd⟩:=aA8 HG1.out HG2.out
       have aL4:lo<10000:=by
        rw [← hdv,Nat.div_lt_iff_lt_mul zo,Nat.mul_comm];exact HRD.out
       have SK:=zh hdv;have HMD:=zh hmd;have hbs:=rE.out.set j (.int .i64 (lo:Int));rw [List.setIfInBounds_toArray,ints_set,yA] at hbs;have fbx:=rE.out.free j
       have hcx:wr.cell? ⟨w.heap.size,j,none⟩=some (.int .i64 0):=by
        rw [rE.out.cell,List.getElem?_toArray,qY (by rw [List.length_append,List.length_replicate];omega),vS zo];rfl
       have hbw:Below w.heap.size w (wr.setCell ⟨w.heap.size,j,none⟩ (.int .i64 (lo:Int))):=HB.out.setCell (Nat.le_refl _) _;obtain ⟨w6,Ew6⟩:∃ y,wr.setCell ⟨w.heap.size,j,none⟩ (.int .i64 (lo:Int))=y:=⟨_,rfl⟩;rw [Ew6] at hbs hbw;have hn6:Nm w6 (.slice (some ⟨b3,o3,none⟩) z3 c3) R':=by rw [← Ew6];exact Nm.setBlock Va.out hb3 _ _
       have XJ:=zh (Dg _ (.slice (some ⟨w6.heap.size,0,none⟩) 1 1) bl [lo] (w6.alloc (.cells #[.int .i64 (lo:Int)] 3)) (Vb.out.later (Bt hbw (bI (Below.refl _ _) _))) Gs.one HDB.out (.inl (dS.nil.cons aL4)) (by rw [wQ.out];omega) zi);have HB6:=zh hbw;have HN6:=zh hn6;have ae8:=zh hbs;clear hdv hmd hbs hbw hn6 HB Va rE HG1 HG2 hlh hhb;go_wp2_with fail
       clear Ew6 fbx hcx;refine XJ.out.mono ?_;rintro e w7 ⟨v4,rfl,hb4,hv4⟩;have hval:val 10000 bl*val 10000 [lo]=D*lo:=by rw [HD.out];simp [val]
       rw [hval] at hv4;have h17:Below w6.heap.size w6 w7:=Bt (bI (Below.refl _ _) _) hb4;obtain ⟨p4,l4,c4,rfl⟩:=hv4.slice;have hdl:D*lo≤R':=by rw [← SK.out];exact Nat.mul_div_le R' D
       have HDF:=zh (qE _ _ R' (D*lo) w7 (HN6.out.later h17) hv4 (by rw [HZ3.out];have:=HSR.out;omega) hdl);replace HB6:=zh (Bt HB6.out h17);replace ae8:=zh (ae8.out.later h17);clear hval h17 hb4 hv4 XJ HN6 hdl;go_wp2_with fail
       refine HDF.out.mono ?_;rintro e w8 ⟨v8,rfl,qN,qA⟩;obtain ⟨p8,l8,c8,rfl⟩:=qA.slice;have HN8:=zh qA;replace HB6:=zh (Bt HB6.out qN);replace ae8:=zh (ae8.out.later qN);clear HDF qN qA;go_wp2_with fail
       go_roundw
       case rel =>
        have ej2:((j:Int) - 1+1).toNat=j:=by omega
        refine ⟨(j:Int) - 1,R'%D,lo::s,by omega,by omega,rfl,zh (by rw [ej2,List.length_cons,HS.out];omega),zh (by rw [ej2];exact ae8.out),zh (Au.out.cons aL4),zh (by rw [ej2];exact HST.out lo SK.out),zh (Nat.mod_lt _ hD0),zh ?_,HB6⟩;rw [HMD.out];exact HN8.out
       case measure=>simp [intOf]
theorem Di (x y:Value) (a b:Nat) (w:World) (hx:Nm w x a) (hy:Nm w y b) (hb:0<b) (ha:sz 10000 a≤274877906944) (hsb:sz 10000 b≤274877906944) :
  Calls Tryz.prog 260 #[x,y] w (wC w a b):=by
 have hlen:(bW 10000 b).length=sz 10000 b:=rfl
 have hs1:1≤sz 10000 b:=by
  rcases Nat.eq_zero_or_pos (sz 10000 b) with h|h
  ·have:=iq (B:=10000) zo b;rw [h] at this;simp at this
   omega
  ·exact h
 have htp:=mV (B:=10000) zo b;obtain ⟨pb,cb,rfl,h1,h2,h3⟩:=hy.read
 by_cases hone:sz 10000 b=1
 ·rw [hone] at h3 ⊢
  have hd:bW 10000 b=[b]:=by
   have e:=aP (B:=10000) zo b
   match hl:bW 10000 b,hlen with
   | [d],_=>rw [hl] at e;simp [val] at e;rw [e]
   | [],h=>rw [hone] at h;cases h
   | _:: _:: _,h=>rw [hone] at h;simp at h
  have hb4:b<10000:=by
   have:=aT (B:=10000) zo b;rw [hd] at this;exact this.head
  obtain ⟨b',o',e, -, hc⟩:=h3 0 zo;rw [hd] at hc;exact VO x a b pb cb w hx zo hb hb4 ⟨b',o',e,hc⟩
 ·obtain ⟨p,hp⟩:∃ p,sz 10000 b=p+2:=⟨sz 10000 b - 2,by omega⟩
  by_cases hlt:sz 10000 a≤p+1
  ·rw [hp];exact Qd x a p b pb cb w hx hlt zo (uL (B:=10000) zo zo)
  ·have hgs:=hy.gs;rw [hp] at hgs ⊢;refine Qc x a (p+1) p (sz 10000 a - (p+1)) b (bW 10000 b) pb cb w hx hgs (by rw [hlen,hp]) (aT zo b) ?_ rfl zo zo ha (aP zo b);have:=htp (p+1) (by rw [hlen,hp]);omega
theorem rV (b:Bool) (v:Value) (n:Nat) (z:Int) (w:World) (h:Nm w v n) (hz:gT n b=z) :
  Calls Tryz.prog 258 #[.bool b,v] w fun e w'=>∃ v',e= .returned v'∧Below w.heap.size w w'∧Pl w' v' z:=by
 have:=iM b v _ w h.gs (aT zo _)
 rwa [aP zo,hz] at this
theorem gN (x y:Value) (a b:Int) (w:World) (hx:Pl w x a) (hy:Pl w y b) (ha:sz 10000 a.natAbs≤549755813888) (hb:sz 10000 b.natAbs≤549755813888) :
  Calls Tryz.prog 211 #[x,y] w fun e w'=>∃ v',e= .returned v'∧Below w.heap.size w w'∧Pl w' v' (a*b):=by
 obtain ⟨bA,je,lA,jG,rfl⟩:=hx.agg;obtain ⟨bB,nK,lB,nN,rfl⟩:=hy.agg;obtain ⟨nA,eA⟩:=hx.nm;obtain ⟨nB,eB⟩:=hy.nm;have tL:=zh nA;have zH:=zh nB;have KA:=zh ha;have KB:=zh hb
 have hs:gT (a.natAbs*b.natAbs) (bA != bB)=a*b:=by
  rw [eA,eB];exact yx a b
 have HS:=zh hs;clear nA nB eA eB ha hb hx hy hs;go_enter Tryz.func211,Tryz.ntmps211
 go_wp2_with fail
 obtain ⟨jN,EW,hz,X1,X2,X3⟩:=Ji w #[.bool bA,.slice je lA jG] 161 #[.bool bB,.slice nK lB nN] 161 #[.bool false,.slice none 0 0] 161;rw [EW];replace tL:=zh (tL.out.later hz);replace zH:=zh (zH.out.later hz);have hk2:=Bt (Below.refl _ _) hz;clear EW hz;obtain ⟨jV,jU,lJ⟩:=X1.clf;obtain ⟨tH,tF,xI⟩:=X2.clf;refine aF [(.pure,0),(.read,1),(.pure,2),(.read,3),(.pure,4),(.pure,5),(.read,6),(.pure,7),(.read,8),(.ext,9),(.ext,10),(.fin,11)] zk zk zR zP ?_;refine zV ?_;refine aH rfl rfl (fun we3 hb3 J hJ=>?_);go_simp;have hh3:Below jN.heap.size jN we3:=aD;clear hb3;refine (xB _ _ _ _ _ (tL.out.later hh3) (zH.out.later hh3) (by have:=KA.out;omega) (by have:=KB.out;omega)).mono ?_;rintro e Td ⟨v,rfl,hb4,hv5⟩;obtain ⟨TV,lP,UG,rfl⟩:=hv5.slice;refine hJ _ _ hb4 ?_;clear hJ J;have Um:=Bt hh3 hb4;have NP:=zh hv5;clear hh3 hb4 hv5;refine zV ?_
 refine aH rfl rfl (fun GD hb6 J hJ=>?_);go_simp;have tQ:Below jN.heap.size jN GD:=Bt Um aD;replace NP:=zh (NP.out.later (show Below Td.heap.size Td GD from aD));clear hb6 Um;refine (rV _ _ _ _ _ NP.out HS.out).mono ?_;rintro e sQ ⟨v,rfl,iJ,qA⟩;obtain ⟨bR,paR,lR,caR,rfl⟩:=qA.agg;refine hJ _ _ iJ ?_;clear hJ J;have Bd:=Bt tQ iJ;replace NP:=zh (NP.out.later iJ);have NR:=zh qA;clear tQ iJ qA;refine zV ?_;refine aU [_] rfl (fun Po hf9=>?_);replace NP:=zh (NP.out.later (show Below sQ.heap.size sQ Po from aD));replace NR:=zh (NR.out.later (show Below sQ.heap.size sQ Po from aD));have mI:Below jN.heap.size jN Po:=Bt Bd aD;clear hf9 Bd;clear jV jU lJ tH tF xI;replace tL:=zh (tL.out.later mI);replace zH:=zh (zH.out.later mI);replace X1:=X1.bl mI;replace X2:=X2.bl mI;replace X3:=X3.bl mI;have hk10:=Bt hk2 mI;clear hk2
 clear mI;clear NP;obtain ⟨cX3,Zw,fX3⟩:=X3.clf;have hres:=X3.out;go_wp2_with fail
 refine dH rfl rfl aJ Tryz.underlying161 rfl zk ?_;exact ⟨_,rfl,aD,NR.out.set2 hres zd _ _ _ _⟩
theorem ak8 (b:Bool) (v:Value) (l:List Nat) (n:Nat) (z:Int) (w:World) (h:Gs w v l) (hd:dS 10000 l) (hn:val 10000 l=n) (hz:gT n b=z) :
  Calls Tryz.prog 258 #[.bool b,v] w fun e w'=>∃ v',e= .returned v'∧Below w.heap.size w w'∧Pl w' v' z:=by
 have:=iM b v l w h hd
 rwa [hn,hz] at this
theorem Mi {a b:Int} (h:decide (a<0)≠decide (b<0)) (hle:b.natAbs≤a.natAbs):gT (a.natAbs - b.natAbs) (decide (a<0))=a+b:=by
 unfold gT
 by_cases ha:a<0<;>by_cases hb:b<0<;>simp [ha,hb] at h ⊢<;>omega
def xV (w:World) (z:Int) (e:Ending) (w':World):Prop:=∃ v',e= .returned v'∧Below w.heap.size w w'∧Pl w' v' z
theorem ql (x y:Value) (a b:Int) (w:World) (hx:Pl w x a) (hy:Pl w y b) (ha:sz 10000 a.natAbs≤549755813888) (hb:sz 10000 b.natAbs≤549755813888) :
  Calls Tryz.prog 279 #[x,y] w (xV w (a+b)):=by
 obtain ⟨bA,je,lA,jG,rfl⟩:=hx.agg;obtain ⟨bB,nK,lB,nN,rfl⟩:=hy.agg;obtain ⟨nA,eA⟩:=hx.nm;obtain ⟨nB,eB⟩:=hy.nm;have tL:=zh nA;have zH:=zh nB;have KA:=zh ha;have KB:=zh hb
 by_cases hab:bA=bB
 ·subst hab;have hs:gT (a.natAbs+b.natAbs) bA=a+b:=Tt eA.symm eB.symm;have HS:=zh hs;clear nA nB eA eB ha hb hx hy hs;go_enter Tryz.func279,Tryz.ntmps279
  go_wp2_with fail
  obtain ⟨jN,EW,hz,X1,X2,X3⟩:=Ji w #[.bool bA,.slice je lA jG] 161 #[.bool bA,.slice nK lB nN] 161 #[.bool false,.slice none 0 0] 161;rw [EW];replace tL:=zh (tL.out.later hz);have hk2:=Bt (Below.refl _ _) hz;clear EW hz;obtain ⟨jV,jU,lJ⟩:=X1.clf;obtain ⟨tH,tF,xI⟩:=X2.clf;refine aF [(.pure,0),(.read,1),(.pure,2),(.read,3),(.pure,4),(.read,5),(.ext,6),(.ext,7),(.fin,8)] zk zk zR zP ?_;refine zV ?_;refine aH rfl rfl (fun we3 hb3 J hJ=>?_);go_simp;have hh3:Below jN.heap.size jN we3:=aD;clear hb3;refine (wW _ _ _ _ _ (tL.out.later hh3) (zH.out.later (Bt hk2 hh3)) KA.out KB.out).mono ?_;rintro e Td ⟨v,s,rfl,hb4,hg,hd,hv⟩;obtain ⟨paS,caS,rfl, -⟩:=hg.read;have Au:=zh hd;have HVS:=zh hv;clear hd hv;refine hJ _ _ hb4 ?_;clear hJ J;have Um:=Bt hh3 hb4;have NS:=zh hg;clear hh3 hb4 hg;refine zV ?_;refine aH rfl rfl (fun GD hb6 J hJ=>?_);go_simp
  have tQ:Below jN.heap.size jN GD:=Bt Um aD;replace NS:=zh (NS.out.later (show Below Td.heap.size Td GD from aD));clear hb6 Um;refine (ak8 _ _ _ _ _ _ NS.out Au.out HVS.out HS.out).mono ?_;rintro e sQ ⟨v,rfl,iJ,qA⟩;obtain ⟨bR,paR,lR,caR,rfl⟩:=qA.agg;refine hJ _ _ iJ ?_;clear hJ J;have Bd:=Bt tQ iJ;replace NS:=zh (NS.out.later iJ);have NR:=zh qA;clear tQ iJ qA;refine zV ?_;refine aU [_] rfl (fun Po hf9=>?_);replace NS:=zh (NS.out.later (show Below sQ.heap.size sQ Po from aD));replace NR:=zh (NR.out.later (show Below sQ.heap.size sQ Po from aD));have mI:Below jN.heap.size jN Po:=Bt Bd aD;clear hf9 Bd;clear jV jU lJ tH tF xI;replace tL:=zh (tL.out.later mI);replace X1:=X1.bl mI;replace X2:=X2.bl mI;replace X3:=X3.bl mI;have hk10:=Bt hk2 mI;clear hk2;clear mI;clear NS;obtain ⟨cX3,Zw,fX3⟩:=X3.clf;have hres:=X3.out
  go_wp2_with fail
  refine dH rfl rfl aJ Tryz.underlying161 rfl zk ?_;exact ⟨_,rfl,aD,NR.out.set2 hres zd _ _ _ _⟩
 ·have hE:(bA == bB)=false:=by simp [hab]
  by_cases hle:b.natAbs≤a.natAbs
  ·have hs:gT (a.natAbs - b.natAbs) bA=a+b:=by
    rw [eA];exact Mi (by rw [← eA,← eB];exact hab) hle
   have HS:=zh hs;have Jo:=zh hle;clear nA nB eA eB ha hb hx hy hs hle hab;go_enter Tryz.func279,Tryz.ntmps279
   go_wp2_with fail
   obtain ⟨jN,EW,hz,X1,X2,X3⟩:=Ji w #[.bool bA,.slice je lA jG] 161 #[.bool bB,.slice nK lB nN] 161 #[.bool false,.slice none 0 0] 161;rw [EW];replace tL:=zh (tL.out.later hz);replace zH:=zh (zH.out.later hz);have hk2:=Bt (Below.refl _ _) hz;clear EW hz;refine (uH _ _ _ _ _ tL.out zH.out).mono ?_;rintro e kE ⟨r,rfl,hb3,hor⟩;have hr:0≤r:=hor.2.2 Jo.out;clear hor;replace tL:=zh (tL.out.later hb3);replace zH:=zh (zH.out.later hb3);replace X1:=X1.bl hb3;replace X2:=X2.bl hb3;replace X3:=X3.bl hb3;have hk5:=Bt hk2 hb3;clear hk2;clear hb3;go_wp2_with fail
   obtain ⟨jV,jU,lJ⟩:=X1.clf;obtain ⟨tH,tF,xI⟩:=X2.clf;refine aF [(.pure,0),(.read,1),(.pure,2),(.read,3),(.pure,4),(.read,5),(.ext,6),(.ext,7),(.fin,8)] zk zk zR zP ?_;refine zV ?_;refine aH rfl rfl (fun GD hb6 J hJ=>?_);go_simp;have tQ:Below kE.heap.size kE GD:=aD;clear hb6;refine (qE _ _ _ _ _ (tL.out.later tQ) (zH.out.later tQ) (by have:=KA.out;omega) Jo.out).mono ?_;rintro e sQ ⟨v,rfl,iJ,qA⟩;obtain ⟨paD,lD,caD,rfl⟩:=qA.slice;refine hJ _ _ iJ ?_;clear hJ J;have Bd:=Bt tQ iJ;have ND:=zh qA;clear tQ iJ qA;refine zV ?_;refine aH rfl rfl (fun GI tT J hJ=>?_);go_simp;have mI:Below kE.heap.size kE GI:=Bt Bd aD;replace ND:=zh (ND.out.later (show Below sQ.heap.size sQ GI from aD));clear tT Bd;refine (rV _ _ _ _ _ ND.out HS.out).mono ?_;rintro e jW ⟨v,rfl,iG,qC⟩;obtain ⟨bR,paR,lR,caR,rfl⟩:=qC.agg
   refine hJ _ _ iG ?_;clear hJ J;have oQ:=Bt mI iG;replace ND:=zh (ND.out.later iG);have NR:=zh qC;clear mI iG qC;refine zV ?_;refine aU [_] rfl (fun Pp ay9=>?_);replace ND:=zh (ND.out.later (show Below jW.heap.size jW Pp from aD));replace NR:=zh (NR.out.later (show Below jW.heap.size jW Pp from aD));have hh12:Below kE.heap.size kE Pp:=Bt oQ aD;clear ay9 oQ;clear jV jU lJ tH tF xI;replace tL:=zh (tL.out.later hh12);replace zH:=zh (zH.out.later hh12);replace X1:=X1.bl hh12;replace X2:=X2.bl hh12;replace X3:=X3.bl hh12;have aV0:=Bt hk5 hh12;clear hk5;clear hh12;clear ND;obtain ⟨cX3,Zw,fX3⟩:=X3.clf;have hres:=X3.out;go_wp2_with fail
   refine dH rfl rfl aJ Tryz.underlying161 rfl zk ?_;exact ⟨_,rfl,aD,NR.out.set2 hres zd _ _ _ _⟩
  ·have hs:gT (b.natAbs - a.natAbs) bB=a+b:=by
    rw [eB,Int.add_comm a b];exact Mi (by rw [← eA,← eB];exact fun h=>hab h.symm) zo
   have HS:=zh hs;have Jo:Hid (a.natAbs≤b.natAbs):=zh zo;have HLN:=zh hle;clear nA nB eA eB ha hb hx hy hs hle hab;go_enter Tryz.func279,Tryz.ntmps279
   go_wp2_with fail
   obtain ⟨jN,EW,hz,X1,X2,X3⟩:=Ji w #[.bool bA,.slice je lA jG] 161 #[.bool bB,.slice nK lB nN] 161 #[.bool false,.slice none 0 0] 161;rw [EW];replace tL:=zh (tL.out.later hz);replace zH:=zh (zH.out.later hz);have hk2:=Bt (Below.refl _ _) hz;clear EW hz;refine (uH _ _ _ _ _ tL.out zH.out).mono ?_;rintro e kE ⟨r,rfl,hb3,hor⟩;have hr:¬ 0≤r:=fun h=>HLN.out (hor.2.1 h);clear hor;replace tL:=zh (tL.out.later hb3);replace zH:=zh (zH.out.later hb3);replace X1:=X1.bl hb3;replace X2:=X2.bl hb3;replace X3:=X3.bl hb3;have hk5:=Bt hk2 hb3;clear hk2;clear hb3;go_wp2_with fail
   obtain ⟨tH,tF,xI⟩:=X2.clf;obtain ⟨jV,jU,lJ⟩:=X1.clf;refine aF [(.pure,0),(.read,1),(.pure,2),(.read,3),(.pure,4),(.read,5),(.ext,6),(.ext,7),(.fin,8)] zk zk zR zP ?_;refine zV ?_;refine aH rfl rfl (fun GD hb6 J hJ=>?_);go_simp;have tQ:Below kE.heap.size kE GD:=aD;clear hb6;refine (qE _ _ _ _ _ (zH.out.later tQ) (tL.out.later tQ) (by have:=KB.out;omega) Jo.out).mono ?_;rintro e sQ ⟨v,rfl,iJ,qA⟩;obtain ⟨paD,lD,caD,rfl⟩:=qA.slice;refine hJ _ _ iJ ?_;clear hJ J;have Bd:=Bt tQ iJ;have ND:=zh qA;clear tQ iJ qA;refine zV ?_;refine aH rfl rfl (fun GI tT J hJ=>?_);go_simp;have mI:Below kE.heap.size kE GI:=Bt Bd aD;replace ND:=zh (ND.out.later (show Below sQ.heap.size sQ GI from aD));clear tT Bd;refine (rV _ _ _ _ _ ND.out HS.out).mono ?_;rintro e jW ⟨v,rfl,iG,qC⟩;obtain ⟨bR,paR,lR,caR,rfl⟩:=qC.agg
   refine hJ _ _ iG ?_;clear hJ J;have oQ:=Bt mI iG;replace ND:=zh (ND.out.later iG);have NR:=zh qC;clear mI iG qC;refine zV ?_;refine aU [_] rfl (fun Pp ay9=>?_);replace ND:=zh (ND.out.later (show Below jW.heap.size jW Pp from aD));replace NR:=zh (NR.out.later (show Below jW.heap.size jW Pp from aD));have hh12:Below kE.heap.size kE Pp:=Bt oQ aD;clear ay9 oQ;clear tH tF xI jV jU lJ;replace tL:=zh (tL.out.later hh12);replace zH:=zh (zH.out.later hh12);replace X1:=X1.bl hh12;replace X2:=X2.bl hh12;replace X3:=X3.bl hh12;have aV0:=Bt hk5 hh12;clear hk5;clear hh12;clear ND;obtain ⟨cX3,Zw,fX3⟩:=X3.clf;have hres:=X3.out;go_wp2_with fail
   refine dH rfl rfl aJ Tryz.underlying161 rfl zk ?_;exact ⟨_,rfl,aD,NR.out.set2 hres zd _ _ _ _⟩
theorem nH (x y:Value) (a b:Int) (w:World) (hx:Pl w x a) (hy:Pl w y b) (ha:sz 10000 a.natAbs≤549755813888) (hb:sz 10000 b.natAbs≤549755813888) :
  Calls Tryz.prog 301 #[x,y] w (xV w (a - b)):=by
 obtain ⟨bA,je,lA,jG,rfl⟩:=hx.agg;obtain ⟨bB,nK,lB,nN,rfl⟩:=hy.agg;have NA:=zh hx;have NB:=zh hy;have KA:=zh ha;have KB:Hid (sz 10000 (-b).natAbs≤549755813888):=zh (by rw [Int.natAbs_neg];exact hb);clear ha hb hx hy;go_enter Tryz.func301,Tryz.ntmps301
 go_wp2_with fail
 obtain ⟨jN,EW,hz,X1,X2,X3⟩:=Ji w #[.bool bA,.slice je lA jG] 161 #[.bool bB,.slice nK lB nN] 161 #[.bool false,.slice none 0 0] 161;rw [EW];replace NA:=zh (NA.out.later hz);replace NB:=zh (NB.out.later hz);have hk2:=Bt (Below.refl _ _) hz;clear EW hz;obtain ⟨jV,jU,lJ⟩:=X1.clf;obtain ⟨tH,tF,xI⟩:=X2.clf;refine aF [(.read,0),(.read,1),(.ext,2),(.ext,3),(.fin,4)] zk zk zR zP ?_;refine zV ?_;refine aH rfl rfl (fun we3 hb3 J hJ=>?_);go_simp;have hh3:Below jN.heap.size jN we3:=aD;clear hb3;refine (vZ _ _ _ (NB.out.later hh3)).mono ?_;rintro e Td ⟨v,rfl,hb4,hv5⟩;obtain ⟨bT,paT,lT,caT,rfl⟩:=hv5.agg;refine hJ _ _ hb4 ?_;clear hJ J;have Um:=Bt hh3 hb4;have NT:=zh hv5;clear hh3 hb4 hv5;refine zV ?_;refine aH rfl rfl (fun GD hb6 J hJ=>?_);go_simp;have tQ:Below jN.heap.size jN GD:=Bt Um aD
 replace NT:=zh (NT.out.later (show Below Td.heap.size Td GD from aD));clear hb6 Um;refine (ql _ _ _ _ _ (NA.out.later tQ) NT.out KA.out KB.out).mono ?_;rintro e sQ ⟨v,rfl,iJ,qA⟩;obtain ⟨bR,paR,lR,caR,rfl⟩:=qA.agg;refine hJ _ _ iJ ?_;clear hJ J;have Bd:=Bt tQ iJ;replace NT:=zh (NT.out.later iJ);have NR:=zh qA;clear tQ iJ qA;refine zV ?_;refine aU [_] rfl (fun Po hf9=>?_);replace NT:=zh (NT.out.later (show Below sQ.heap.size sQ Po from aD));replace NR:=zh (NR.out.later (show Below sQ.heap.size sQ Po from aD));have mI:Below jN.heap.size jN Po:=Bt Bd aD;clear hf9 Bd;clear jV jU lJ tH tF xI;replace NA:=zh (NA.out.later mI);replace NB:=zh (NB.out.later mI);replace X1:=X1.bl mI;replace X2:=X2.bl mI;replace X3:=X3.bl mI;have hk10:=Bt hk2 mI;clear hk2;clear mI;clear NT;obtain ⟨cX3,Zw,fX3⟩:=X3.clf;have hres:=X3.out;go_wp2_with fail
 refine dH rfl rfl aJ Tryz.underlying161 rfl zk ?_;exact ⟨_,rfl,aD,NR.out.set2 hres zd _ _ _ _⟩
theorem aw3 {a b:Int} (h:Hid (a<b)):decide (a - b<0)=true:=decide_eq_true (by have:=h.out;omega)
theorem aw5 {a b:Int} (h:Hid (a=b)):decide (a - b<0)=false:=decide_eq_false (by have:=h.out;omega)
theorem aw4 {a b:Int} (h:Hid (b<a)):decide (a - b<0)=false:=decide_eq_false (by have:=h.out;omega)
theorem YU {a b:Int} (h:Hid (a=b)):(a - b).natAbs=0:=by have:=h.out;omega
theorem aj0 {a b:Int} (h:Hid (b<a)):0<(a - b).natAbs:=by have:=h.out;omega
def zl (a b:Int):Int:=if a<b then -1 else if b<a then 1 else 0
theorem iI (x y:Value) (a b:Int) (w:World) (hx:Pl w x a) (hy:Pl w y b) (ha:sz 10000 a.natAbs≤549755813888) (hb:sz 10000 b.natAbs≤549755813888) :
  Calls Tryz.prog 264 #[x,y] w (fun e w'=>e= .returned (.int .i64 (zl a b))∧Below w.heap.size w w'):=by
 obtain ⟨bA,je,lA,jG,rfl⟩:=hx.agg;obtain ⟨bB,nK,lB,nN,rfl⟩:=hy.agg;have NA:=zh hx;have NB:=zh hy;have KA:=zh ha;have KB:=zh hb;clear ha hb hx hy;unfold zl
 rcases Int.lt_trichotomy a b with h|h|h
 ·rw [if_pos h];have H:=zh h;clear h;go_enter Tryz.func264,Tryz.ntmps264
  go_wp2_with fail
  obtain ⟨jN,EW,hz,X1,X2⟩:=Gj w #[.bool bA,.slice je lA jG] 161 #[.bool bB,.slice nK lB nN] 161;rw [EW];replace NA:=zh (NA.out.later hz);replace NB:=zh (NB.out.later hz);have hk2:=Bt (Below.refl _ _) hz;clear EW hz;refine (nH _ _ _ _ _ NA.out NB.out KA.out KB.out).mono ?_;rintro e kE ⟨v,rfl,hb3,hv⟩;obtain ⟨bD,paD,lD,caD,rfl⟩:=hv.agg;obtain ⟨hn,hbb⟩:=hv.nm;have hb1:bD=true:=hbb.trans (aw3 H);subst hb1
  skip
  clear hn hbb hv
  skip
  replace NA:=zh (NA.out.later hb3);replace NB:=zh (NB.out.later hb3);replace X1:=X1.bl hb3;replace X2:=X2.bl hb3;have hk5:=Bt hk2 hb3;clear hk2;clear hb3;go_wp2_with fail
  go_ret
  exact ⟨rfl,aD⟩
 ·rw [if_neg zo,if_neg zo];have H:=zh h;clear h;go_enter Tryz.func264,Tryz.ntmps264
  go_wp2_with fail
  obtain ⟨jN,EW,hz,X1,X2⟩:=Gj w #[.bool bA,.slice je lA jG] 161 #[.bool bB,.slice nK lB nN] 161;rw [EW];replace NA:=zh (NA.out.later hz);replace NB:=zh (NB.out.later hz);have hk2:=Bt (Below.refl _ _) hz;clear EW hz;refine (nH _ _ _ _ _ NA.out NB.out KA.out KB.out).mono ?_;rintro e kE ⟨v,rfl,hb3,hv⟩;obtain ⟨bD,paD,lD,caD,rfl⟩:=hv.agg;obtain ⟨hn,hbb⟩:=hv.nm;have hb1:bD=false:=hbb.trans (aw5 H);subst hb1;have hl0:lD=0:=hn.ax1 (YU H);clear hn hbb hv;subst hl0;replace NA:=zh (NA.out.later hb3);replace NB:=zh (NB.out.later hb3);replace X1:=X1.bl hb3;replace X2:=X2.bl hb3;have hk5:=Bt hk2 hb3;clear hk2;clear hb3;go_wp2_with fail
  go_ret
  exact ⟨rfl,aD⟩
 ·rw [if_neg zo,if_pos h];have H:=zh h;clear h;go_enter Tryz.func264,Tryz.ntmps264
  go_wp2_with fail
  obtain ⟨jN,EW,hz,X1,X2⟩:=Gj w #[.bool bA,.slice je lA jG] 161 #[.bool bB,.slice nK lB nN] 161;rw [EW];replace NA:=zh (NA.out.later hz);replace NB:=zh (NB.out.later hz);have hk2:=Bt (Below.refl _ _) hz;clear EW hz;refine (nH _ _ _ _ _ NA.out NB.out KA.out KB.out).mono ?_;rintro e kE ⟨v,rfl,hb3,hv⟩;obtain ⟨bD,paD,lD,caD,rfl⟩:=hv.agg;obtain ⟨hn,hbb⟩:=hv.nm;have hb1:bD=false:=hbb.trans (aw4 H);subst hb1;have hl0:0<lD:=hn.ax0 (aj0 H);clear hn hbb hv
  skip
  replace NA:=zh (NA.out.later hb3);replace NB:=zh (NB.out.later hb3);replace X1:=X1.bl hb3;replace X2:=X2.bl hb3;have hk5:=Bt hk2 hb3;clear hk2;clear hb3;go_wp2_with fail
  go_ret
  exact ⟨rfl,aD⟩
theorem YE {P:Program} {fn:Func} {R:Ending→World→Prop} {w:World} {tmps:Array Value} {p q:Tmp} {ty t Bu t2:TypeId} {g g2:Nat} {cs cs2:Array Value} {d d2:TypeDesc} (h:fn.results=#[.cell p ty,.cell q Bu])
  (hp:tmps.getD p undef= .pointer (some ⟨g,0,none⟩)) (hg:ah w g cs t) (hu:P.underlying ty=some d)
  (hd:(match d with| .struct _| .array _ _=>true| _=>false)=true) (hi:(P.info? ty).map (·.size)=some cs.size)
  (hp2:tmps.getD q undef= .pointer (some ⟨g2,0,none⟩)) (hg2:ah w g2 cs2 t2) (hu2:P.underlying Bu=some d2)
  (hd2:(match d2 with| .struct _| .array _ _=>true| _=>false)=true) (hi2:(P.info? Bu).map (·.size)=some cs2.size)
  (k:R (.returned (.tuple #[.agg cs,.agg cs2])) w):bodyPost P fn R .ret { tmps:=tmps,defers:=[] } w:=by
 refine bodyPost_ret ?_ rfl k
 have e:(results fn tmps).run P w=((asAddr (tmps.getD p undef)).run P w).andThen fun a w₁=>((loadVar ty a).run P w₁).andThen fun v w₂=>((asAddr (tmps.getD q undef)).run P w₂).andThen fun a w₁=>((loadVar Bu a).run P w₁).andThen fun v2 w₂=>.ok (.tuple #[v,v2]) w₂:=by
  simp only [results,h];simp [Sem.run_bind,Result.andThen]
 rw [e,hp,hp2];simp only [asAddr,Sem.run_pure,Result.andThen_ok];rw [run_loadVar_row w g t ty cs (0,0) d hg hu hd hi];simp only [Result.andThen_ok,Sem.run_pure];rw [run_loadVar_row w g2 t2 Bu cs2 (0,0) d2 hg2 hu2 hd2 hi2];rfl
theorem Nm.inj {w:World} {v:Value} {m n:Nat} (h:Nm w v m) (k:Nm w v n):m=n:=by
 obtain ⟨p,c,rfl, -, -, h1⟩:=Gs.read h.gs;obtain ⟨p',c',e, -, -, h2⟩:=Gs.read k.gs;simp only [Value.slice.injEq] at e;obtain ⟨rfl,hl,rfl⟩:=e
 have:bW 10000 m=bW 10000 n:=by
  refine List.ext_getElem hl fun i hi hi2=>?_;obtain ⟨b,o,e, -, hc⟩:=h1 i hi;obtain ⟨b',o',e', -, hc'⟩:=h2 i hi2;rw [e] at e';simp only [Option.some.injEq,Addr.mk.injEq,and_true] at e';obtain ⟨rfl,rfl⟩:=e';rw [hc] at hc';simp only [Option.some.injEq,Value.int.injEq,true_and] at hc';rw [List.getD_eq_getElem?_getD,List.getD_eq_getElem?_getD,List.getElem?_eq_getElem hi,List.getElem?_eq_getElem hi2] at hc'
  simpa using Int.ofNat_inj.mp hc'
 rw [← aP (B:=10000) zo m,this,aP zo]
open Classical in
noncomputable def aw7 (w:World) (v:Value):Nat:=if h:∃ n,Nm w v n then h.choose else 0
theorem Ug {w:World} {v:Value} {n:Nat} (h:Nm w v n):aw7 w v=n:=by
 unfold aw7;rw [dif_pos ⟨n,h⟩];exact Nm.inj (Exists.choose_spec (⟨n,h⟩:∃ n,Nm w v n)) h
theorem xW (x y:Value) (a b:Int) (w:World) (hx:Pl w x a) (hy:Pl w y b) (ha:sz 10000 a.natAbs≤274877906944) (hb:sz 10000 b.natAbs≤274877906944) :
  Calls Tryz.prog 208 #[x,y] w (xV w (Nat.gcd a.natAbs b.natAbs)):=by
 obtain ⟨bA,je,lA,jG,rfl⟩:=hx.agg;obtain ⟨bB,nK,lB,nN,rfl⟩:=hy.agg;have NA:=zh hx.nm.1;have NB:=zh hy.nm.1;obtain ⟨G,EG⟩:∃ G,Nat.gcd a.natAbs b.natAbs=G:=⟨_,rfl⟩;rw [EG];have HG:=zh EG;have KA:=zh ha;have KB:=zh hb;have h0:Below w.heap.size w (((w.alloc (.cells #[.bool bA,.slice je lA jG] 161)).alloc (.cells #[.bool bB,.slice nK lB nN] 161)).alloc (.cells #[.bool false,.slice none 0 0] 161)):=aD;obtain ⟨W,EW⟩:∃ y,((w.alloc (.cells #[.bool bA,.slice je lA jG] 161)).alloc (.cells #[.bool bB,.slice nK lB nN] 161)).alloc (.cells #[.bool false,.slice none 0 0] 161)=y:=⟨_,rfl⟩;have hx1:ah W w.heap.size #[.bool bA,.slice je lA jG] 161:=by rw [← EW];exact aJ
 have hx2:ah W (w.heap.size+1) #[.bool bB,.slice nK lB nN] 161:=by rw [← EW];exact aJ
 have hx3:ah W (w.heap.size+1+1) #[.bool false,.slice none 0 0] 161:=by rw [← EW];exact ah.at2 _ _ _ _ _
 rw [EW] at h0;have c1:=hx1.cell;have c2:=hx2.cell;have l1:=hx1.lt;have l2:=hx2.lt;have HX3:=zh hx3;clear EG hx hy ha hb hx1 hx2 hx3;go_enter Tryz.func208,Tryz.ntmps208
 go_wp2_with fail
 go_quiet (fail)
 clear EW c1 c2 l1 l2;have hq:Below W.heap.size W (W.drewN nq):=below_drewN (Below.refl _ _) _;obtain ⟨W1,E1⟩:∃ y,W.drewN nq=y:=⟨_,rfl⟩;rw [E1] at hq ⊢;clear E1;replace HX3:=zh (HX3.out.later hq);have h1:=Bt h0 hq;have HA1:=zh (NA.out.later h1);have HB1:=zh (NB.out.later h1);clear hq h0 NA NB;go_wp2_with fail
 go_loopw [5,6,7,8] (fun xv yv _ _ wr=>∃ p q:Nat,Hid (Nm wr xv p)∧Hid (Nm wr yv q)∧Hid (Nat.gcd p q=G)∧Hid (sz 10000 p≤274877906944)∧Hid (sz 10000 q≤274877906944)∧Hid (Below W1.heap.size W1 wr)) (fun _ yv _ _ wr=>aw7 wr yv)
 case atStart=>exact ⟨_,_,HA1,HB1,HG,KA,KB,zh (Below.refl _ _)⟩
 case round =>
  clear HA1 HB1;obtain ⟨p,q,HP,HQ,HPG,KP,KQ,HB⟩:=hrel;obtain ⟨pp,lp,cp,rfl⟩:=HP.out.slice;obtain ⟨pq,lq,cq,rfl⟩:=HQ.out.slice
  rcases Nat.eq_zero_or_pos q with h0|h0
  ·subst h0;have hl:=HQ.out.ax1 rfl;subst hl;have hpg:Hid (p=G):=zh (by have:=HPG.out;rwa [Nat.gcd_zero_right] at this);have hres:=HX3.out.later HB.out;have cr:=hres.cell;have fr:=hres.free;go_wp2_with fail
   refine dH rfl rfl aJ Tryz.underlying161 rfl zk ?_;have hlt:=HX3.out.lt;have hB2:Below w.heap.size w wr:=Bt h1 HB.out;refine ⟨_,rfl,aD,Pl.mk (n:=p) ((HP.out.setOther hres zd 0 _).setOther (hres.set 0 _) zd 1 _) (by rw [hpg.out];rfl) ?_⟩;simp
  ·have hl:=HQ.out.ax0 h0;have HPT:=zh (Di _ _ p q wr HP.out HQ.out h0 KP.out KQ.out);have H0:=zh h0;clear h0;go_wp2_with fail
   refine HPT.out.mono ?_;rintro e w2 ⟨qv,rv,rfl,hb2,hq2,hr2⟩;obtain ⟨p3,l3,c3,rfl⟩:=hq2.slice;obtain ⟨p4,l4,c4,rfl⟩:=hr2.slice;have HR2:=zh hr2;have HQ2:=zh (HQ.out.later hb2);have HB2:=zh (Bt HB.out hb2);clear hr2 hq2 hb2 HPT;go_wp2_with fail
   go_roundw
   case rel =>
    refine ⟨q,p%q,HQ2,HR2,zh ?_,KQ,zh ?_,HB2⟩
    ·rw [Nat.gcd_comm,← Nat.gcd_rec,Nat.gcd_comm];exact HPG.out
    ·exact Nat.le_trans (dh zo (Nat.mod_le _ _)) KP.out
   case measure =>
    rw [Ug HR2.out,Ug HQ.out];exact Nat.mod_lt _ H0.out
end Go.Proofs.au
namespace Go.Proofs.au
open Go Go.RowKit Go.SW Go.Num Go.Mem Go.Proofs
theorem ah4 {a b:Int} (hb:0<b) (h:0≤a∨b ∣ a):gT (a.natAbs / b.natAbs) (decide (a<0))=a / b∧gT (a.natAbs%b.natAbs) (decide (a<0))=a%b∧0≤a%b:=by
 have hm:=Int.emod_nonneg a (show b≠0 by omega)
 rcases h with h|h
 ·have h1:¬ a<0:=by omega
  unfold gT;simp only [h1,decide_false,Bool.false_eq_true,if_false];obtain ⟨x,rfl⟩:=Int.eq_ofNat_of_zero_le h;obtain ⟨y,rfl⟩:=Int.eq_ofNat_of_zero_le (Int.le_of_lt hb);simp only [Int.natAbs_natCast];exact ⟨by rw [Int.natCast_ediv],by rw [Int.natCast_emod],hm⟩
 ·have e1:a%b=0:=Int.emod_eq_zero_of_dvd h;have e2:a.natAbs%b.natAbs=0:=Nat.mod_eq_zero_of_dvd (Int.natAbs_dvd_natAbs.2 h);refine ⟨?_,by rw [e1,e2];unfold gT;simp,hm⟩;obtain ⟨c,rfl⟩:=h;have h2:=Mf (z:=b*c) (y:=b) ⟨c,rfl⟩;have h3:¬ b<0:=by omega
  simpa [h3] using h2
def sP (w:World) (q r:Int) (e:Ending) (w':World):Prop:=∃ x y,e= .returned (.tuple #[x,y])∧Below w.heap.size w w'∧Pl w' x q∧Pl w' y r
theorem vB (x y:Value) (a b:Int) (w:World) (hx:Pl w x a) (hy:Pl w y b) (ha:sz 10000 a.natAbs≤274877906944) (hb:sz 10000 b.natAbs≤274877906944) (hb0:0<b) (hd:0≤a∨b ∣ a) :
  Calls Tryz.prog 262 #[x,y] w (sP w (a / b) (a%b)):=by
 obtain ⟨bA,je,lA,jG,rfl⟩:=hx.agg;obtain ⟨bB,nK,lB,nN,rfl⟩:=hy.agg;obtain ⟨nA,eA⟩:=hx.nm;obtain ⟨nB,eB⟩:=hy.nm;have hbf:bB=false:=by rw [eB];simp;omega
 subst hbf;obtain ⟨s1,s2,s3⟩:=ah4 hb0 hd;rw [← eA] at s1 s2;have tL:=zh nA;have zH:=zh nB;have KA:=zh ha;have KB:=zh hb;have H0:Hid (0<b.natAbs):=zh zo;have HS1:=zh s1;have HS2:=zh s2;have HS3:=zh s3;clear hx hy ha hb hb0 hd nA nB eA eB s1 s2 s3;go_enter Tryz.func262,Tryz.ntmps262
 go_wp2_with fail
 obtain ⟨jN,EW,hz,X1,X2,X3,X4⟩:=al4 w #[.bool bA,.slice je lA jG] 161 #[.bool false,.slice nK lB nN] 161 #[.bool false,.slice none 0 0] 161 #[.bool false,.slice none 0 0] 161;rw [EW];replace tL:=zh (tL.out.later hz);have hk2:=Bt (Below.refl _ _) hz;clear EW hz;refine (Di _ _ _ _ _ tL.out (zH.out.later hk2) H0.out KA.out KB.out).mono ?_;rintro e kE ⟨q,r,rfl,hb3,hq,hr⟩;obtain ⟨paQ,lQ,caQ,rfl⟩:=hq.slice;obtain ⟨paR,lR,caR,rfl⟩:=hr.slice;replace tL:=zh (tL.out.later hb3);replace X1:=X1.bl hb3;replace X2:=X2.bl hb3;replace X3:=X3.bl hb3;replace X4:=X4.bl hb3;have hk5:=Bt hk2 hb3;clear hk2;have NQ:=zh hq;have NR:=zh hr;clear hb3 hq hr;have HL4:=zh X4.out.lt;go_wp2_with fail
 obtain ⟨jV,jU,lJ⟩:=X1.clf;obtain ⟨tH,tF,xI⟩:=X2.clf;refine aF [(.pure,0),(.read,1),(.pure,2),(.read,3),(.pure,4),(.pure,5),(.pure,7),(.read,8),(.pure,9),(.ext,6),(.ext,10),(.alloc #[.bool false,.slice none 0 0] 161,11),(.alloc #[.bool false,.slice none 0 0] 161,12),(.fin,13),(.fin,14)] zk zk zR zP ?_;refine zV ?_;refine aH rfl rfl (fun GD hb6 J hJ=>?_);go_simp;have tQ:Below kE.heap.size kE GD:=aD;clear hb6;refine (rV _ _ _ _ _ (NQ.out.later tQ) HS1.out).mono ?_;rintro e sQ ⟨v,rfl,iJ,qA⟩;obtain ⟨bU,VU,lU,Xd,rfl⟩:=qA.agg;refine hJ _ _ iJ ?_;clear hJ J;have Bd:=Bt tQ iJ;have NU:=zh qA;clear tQ iJ qA;refine zV ?_;refine aH rfl rfl (fun GI tT J hJ=>?_);go_simp;have mI:Below kE.heap.size kE GI:=Bt Bd aD;replace NU:=zh (NU.out.later (show Below sQ.heap.size sQ GI from aD));clear tT Bd
 refine (rV _ _ _ _ _ (NR.out.later mI) HS2.out).mono ?_;rintro e jW ⟨v,rfl,iG,hv⟩;obtain ⟨bV,VT,lV,Xc,rfl⟩:=hv.agg;have hbv:bV=false:=hv.nm.2.trans (decide_eq_false (by have:=HS3.out;omega));subst hbv;refine hJ _ _ iG ?_;clear hJ J;have oQ:=Bt mI iG;replace NU:=zh (NU.out.later iG);have NV:=zh hv;clear mI iG hv;refine zV ?_;refine cK rfl (fun iP aJ1 Nt kg yP EH iZ=>?_);go_simp;replace iZ:ah _ _ _ _:=iZ;have DW:w.heap.size≤iP:=(by first|omega|exact Nat.le_trans (Below.size (B:=w.heap.size) aD) kg);refine cK rfl (fun kK aQ8 Ns qD Km DY rW=>?_);go_simp;replace rW:ah _ _ _ _:=rW;have QJ:w.heap.size≤kK:=(by first|omega|exact Nat.le_trans (Below.size (B:=w.heap.size) aD) qD);replace iZ:=ah.later iZ Ns;have hne:iP≠kK:=fun h=>DY (by simp [h])
 have hne2:kK≠iP:=fun h=>hne h.symm;refine aU [_,_] rfl (fun ag3 ay8=>?_);replace NU:=zh (NU.out.later (show Below jW.heap.size jW ag3 from aD));replace NV:=zh (NV.out.later (show Below jW.heap.size jW ag3 from aD));have WK:Below kE.heap.size kE ag3:=Bt oQ aD;have hq0:=iZ.later ay8;have cq0:=hq0.cell;have fq0:=hq0.free;have hq1:=rW.later ay8;have cq1:=hq1.cell;have fq1:=hq1.free;clear iZ rW ay8 oQ;clear jV jU lJ tH tF xI;go_wp2_with fail
 obtain ⟨at7,EW⟩:∃ y,((((ag3.setCell ⟨iP,0,none⟩ (.bool bU)).setCell ⟨iP,1,none⟩ (.slice VU lU Xd)).setCell ⟨kK,0,none⟩ (.bool false)).setCell ⟨kK,1,none⟩ (.slice VT lV Xc))=y:=⟨_,rfl⟩;have hz:Below kE.heap.size kE at7:=by rw [← EW];exact ((((WK.setCell kg _).setCell kg _).setCell qD _).setCell qD _)
 have X5:Hid (ah at7 iP #[.bool bU,.slice VU lU Xd] 161):=zh (by rw [← EW];exact ((((hq0.set 0 _).set 1 _).setOther _ (by first|exact hne|exact hne2)).setOther _ (by first|exact hne|exact hne2)));have X6:Hid (ah at7 kK #[.bool false,.slice VT lV Xc] 161):=zh (by rw [← EW];exact ((((hq1.setOther _ (by first|exact hne|exact hne2)).setOther _ (by first|exact hne|exact hne2)).set 0 _).set 1 _));have t:=((((NU.out.setOther hq0 zd 0 (.bool bU)).setOther (hq0.set 0 _) zd 1 (.slice VU lU Xd)).setOther ((hq1.setOther _ (by first|exact hne|exact hne2)).setOther _ (by first|exact hne|exact hne2)) zd 0 (.bool false)).setOther (((hq1.setOther _ (by first|exact hne|exact hne2)).setOther _ (by first|exact hne|exact hne2)).set 0 _) zd 1 (.slice VT lV Xc));rw [EW] at t;replace NU:=zh t;clear t
 have t:=((((NV.out.setOther hq0 zd 0 (.bool bU)).setOther (hq0.set 0 _) zd 1 (.slice VU lU Xd)).setOther ((hq1.setOther _ (by first|exact hne|exact hne2)).setOther _ (by first|exact hne|exact hne2)) zd 0 (.bool false)).setOther (((hq1.setOther _ (by first|exact hne|exact hne2)).setOther _ (by first|exact hne|exact hne2)).set 0 _) zd 1 (.slice VT lV Xc));rw [EW] at t;replace NV:=zh t;clear t;rw [EW];clear EW hq0 cq0 fq0 hq1 cq1 fq1 WK;clear tL;replace X1:=X1.bl hz;replace X2:=X2.bl hz;replace X3:=X3.bl hz;replace X4:=X4.bl hz;replace NQ:=zh (NQ.out.later hz);replace NR:=zh (NR.out.later hz);have bj4:=Bt hk5 hz;clear hk5;clear hz;clear Nt EH DY DW QJ Ns;have ay5:=kg;have ay4:=qD;clear kg qD yP Km;have c5:=X5.out.cell;have c6:=X6.out.cell;have c3:=X3.out.cell;have c4:=X4.out.cell;have f3:=X3.out.free;have f4:=X4.out.free
 have hl4:=HL4.out;have n1:kK≠w.heap.size+1+1:=by omega
 have n2:kK≠w.heap.size+1+1+1:=by omega
 have n3:iP≠w.heap.size+1+1:=by omega
 have n4:iP≠w.heap.size+1+1+1:=by omega
 have h3:=X3.out;have h4:=X4.out;clear X1 X2 X5 X6 NQ NR HS1 HS2 HS3 H0 KA KB zH hne hne2 hl4 HL4 ay5 ay4;go_region
 go_wp2_with fail
 have h4b:=(h4.setOther (a:=⟨w.heap.size+1+1,0,none⟩) (.bool bU) zi).setOther (a:=⟨w.heap.size+1+1,1,none⟩) (.slice VU lU Xd) zi;have h3b:=(((h3.set 0 (.bool bU)).set 1 (.slice VU lU Xd)).setOther (a:=⟨w.heap.size+1+1+1,0,none⟩) (.bool false) zi).setOther (a:=⟨w.heap.size+1+1+1,1,none⟩) (.slice VT lV Xc) zi;have hU:=(NU.out.set2 h3 zd 0 1 (.bool bU) (.slice VU lU Xd)).set2 h4b zd 0 1 (.bool false) (.slice VT lV Xc);have hV:=(NV.out.set2 h3 zd 0 1 (.bool bU) (.slice VU lU Xd)).set2 h4b zd 0 1 (.bool false) (.slice VT lV Xc);refine YE rfl rfl (ah.drew h3b) Tryz.underlying161 rfl zk rfl (ah.drew ((h4b.set 0 (.bool false)).set 1 (.slice VT lV Xc))) Tryz.underlying161 rfl zk ?_;exact ⟨_,_,rfl,aD,hU.later (Below.drew (Below.refl _ _)),hV.later (Below.drew (Below.refl _ _))⟩
end Go.Proofs.au
namespace Go.Proofs.au
open Go Go.RowKit Go.SW Go.Num Go.Mem Go.Proofs Go.Dec
theorem am5 (d:Nat) (hd:d<10000) (w:World) :
  Calls Tryz.prog 259 #[.int .i64 (d:Int)] w fun e w'=>e= .returned (.string ⟨(pad 4 d).toArray⟩)∧Below w.heap.size w w':=by
 have hp:pad 4 d=[UInt8.ofNat (48+d / 1000),UInt8.ofNat (48+d / 100%10),UInt8.ofNat (48+d / 10%10),UInt8.ofNat (48+d%10)]:=by
  simp only [pad,List.nil_append,List.cons_append];rw [show d / 10 / 10 / 10%10=d / 1000 by omega,show d / 10 / 10%10=d / 100%10 by omega]
 have hb:∀ x:Nat,x<10→((UInt8.ofNat (48+x)).toNat:Int)=48+(x:Int):=fun x hx=>by
  rw [mJ hx];omega
 have e1:=hb (d / 1000) zo;have e2:=hb (d / 100%10) zo;have e3:=hb (d / 10%10) zo;have e4:=hb (d%10) zo
 have hcv:(convert 275 9 (.slice (some ⟨w.heap.size,0,none⟩) 4 4)).run Tryz.prog (w.alloc (.cells #[.int .u8 (48+(d:Int) / 1000),.int .u8 (48+(d:Int) / 100%10),.int .u8 (48+(d:Int) / 10%10),.int .u8 (48+(d:Int)%10)] 5))
   = .ok (.string ⟨(pad 4 d).toArray⟩) (w.alloc (.cells #[.int .u8 (48+(d:Int) / 1000),.int .u8 (48+(d:Int) / 100%10),.int .u8 (48+(d:Int) / 10%10),.int .u8 (48+(d:Int)%10)] 5)):=by
  have hx:=ah.new w #[.int .u8 (48+(d:Int) / 1000),.int .u8 (48+(d:Int) / 100%10),.int .u8 (48+(d:Int) / 10%10),.int .u8 (48+(d:Int)%10)] 5;have hl:=oL 4 d
  have:=run_convert_bytes_back (P:=Tryz.prog) (w.alloc (.cells #[.int .u8 (48+(d:Int) / 1000),.int .u8 (48+(d:Int) / 100%10),.int .u8 (48+(d:Int) / 10%10),.int .u8 (48+(d:Int)%10)] 5)) 275 9 5 ⟨w.heap.size,0,none⟩ 4 (pad 4 d) Tryz.underlying275 Tryz.underlying5 Tryz.underlying9 (fun j hj=>by
   rw [Addr.add_lit,hx.cell,Nat.zero_add];rw [hl] at hj
   match j,hj with
   | 0,_=>simp only [hp,List.getElem_cons_zero,e1];rfl
   | 1,_=>simp only [hp,List.getElem_cons_zero,List.getElem_cons_succ,e2];rfl
   | 2,_=>simp only [hp,List.getElem_cons_zero,List.getElem_cons_succ,e3];rfl
   | 3,_=>simp only [hp,List.getElem_cons_zero,List.getElem_cons_succ,e4];rfl)
  rwa [hl] at this
 obtain ⟨B,EB⟩:∃ B:ByteArray,Hid ((⟨(pad 4 d).toArray⟩:ByteArray)=B):=⟨_,zh rfl⟩;rw [EB.out] at hcv ⊢;clear e1 e2 e3 e4 hb hp EB;go_enter Tryz.func259,Tryz.ntmps259
 go_wp2
 go_ret
 exact ⟨rfl,aD⟩
def txt:List Nat→List UInt8
 | []=>[]
 | d::l=>txt l++pad 4 d
theorem Yl {l:List Nat} {i:Nat} (h:i<l.length):txt (l.drop i)=txt (l.drop (i+1))++pad 4 (l.getD i 0):=by
 rw [iH h];rfl
theorem Jz:∀ {l:List Nat},dS 10000 l→Top l→l≠[]→∃ m,txt l=List.replicate m 48++Lib.decDigits (val 10000 l)
 | [],_,_,h=>absurd rfl h
 | d::l,hd,ht,_=>by
  by_cases hl:l=[]
  ·subst hl;refine ⟨4 - (Lib.decDigits d).length,?_⟩;have h1:=yX 4 d zo (by have:=hd.head;omega)
   show []++pad 4 d=_
   rw [← h1];simp [val]
  ·obtain ⟨m,hm⟩:=Jz hd.tail ht.tail hl;refine ⟨m,?_⟩;have hp:=gV (B:=10000) zo ht.tail hl
   show txt l++pad 4 d=_
   rw [hm,List.append_assoc,← Cj 4 _ d hp (by have:=hd.head;omega)];simp only [val];rw [show val 10000 l*10^4+d=d+10000*val 10000 l by omega]
theorem Tf (l:List Nat):(txt l).length=4*l.length:=by
 induction l with
 | nil=>rfl
 | cons d l ih=>show (txt l++pad 4 d).length=_;rw [List.length_append,ih,oL,List.length_cons];omega
theorem Vt {l:List Nat} {k:Nat} (hd:dS 10000 l) (ht:Top l) (h:∀ i,i<k→(txt l)[i]? =some 48) (hk:k<(txt l).length) (hne:(txt l)[k]? ≠some 48):(txt l).drop k=Lib.decDigits (val 10000 l):=by
 have hl:l≠[]:=fun e=>by subst e;cases hk
 have hp:=gV (B:=10000) zo ht hl;obtain ⟨m,hm⟩:=Jz hd ht hl
 have hkm:k=m:=by
  rcases Nat.lt_trichotomy k m with h1|h1|h1
  ·exfalso
   rw [hm,List.getElem?_append_left (by simpa using h1)] at hne;simp [h1] at hne
  ·exact h1
  ·exfalso
   have h2:=h m h1;rw [hm,List.getElem?_append_right zi] at h2;simp only [List.length_replicate,Nat.sub_self] at h2;have:=uX (n:=val 10000 l) (by rw [List.head?_eq_getElem?];exact h2);omega
 subst hkm;rw [hm,List.drop_append_of_le_length zi,List.drop_of_length_le zi,List.nil_append]
theorem Vu {l:List Nat} (hd:dS 10000 l) (ht:Top l) (h:∀ i,i<(txt l).length→(txt l)[i]? =some 48):val 10000 l=0:=by
 by_cases hl:l=[]
 ·subst hl;rfl
 ·exfalso
  have hp:=gV (B:=10000) zo ht hl;obtain ⟨m,hm⟩:=Jz hd ht hl;have h2:=h m (by rw [hm,List.length_append,List.length_replicate];have:=uW (val 10000 l);omega);rw [hm,List.getElem?_append_right zi] at h2;simp only [List.length_replicate,Nat.sub_self] at h2;have:=uX (n:=val 10000 l) (by rw [List.head?_eq_getElem?];exact h2);omega
theorem ba_eq {a b:ByteArray} (h:a.data.toList=b.data.toList):a=b:=by
 cases a;cases b
 simp only at h;rw [Array.toList_inj.1 h]
theorem yK (z:Int):Lib.itoa z=if z<0 then 45::Lib.decDigits z.natAbs else Lib.decDigits z.natAbs:=by
 unfold Lib.itoa
 by_cases h:z<0
 ·rw [if_pos h,if_pos h]
 ·rw [if_neg h,if_neg h,show z.toNat=z.natAbs by omega]
theorem rZ (S:ByteArray) (k:Nat):(S.extract k S.size).data.toList=S.data.toList.drop k:=by
 have h:S.size=S.data.toList.length:=rfl;rw [ByteArray.data_extract,Array.toList_extract];unfold List.extract;rw [List.take_of_length_le (by rw [List.length_drop,h];exact Nat.le_refl _)]
theorem UO (x:Value) (z:Int) (w:World) (hx:Pl w x z) (hs:sz 10000 z.natAbs≤1073741824) :
  Calls Tryz.prog 207 #[x] w (fun e w'=>e= .returned (.string ⟨(Lib.itoa z).toArray⟩)∧Below w.heap.size w w'):=by
 obtain ⟨bA,je,lA,jG,rfl⟩:=hx.agg;obtain ⟨hn,hbz⟩:=hx.nm;obtain ⟨l,El⟩:∃ l,bW 10000 z.natAbs=l:=⟨_,rfl⟩;obtain ⟨pa',Ph,e,k1,k2,k3⟩:=hn.read;simp only [Value.slice.injEq] at e;obtain ⟨rfl,rfl,rfl⟩:=e;rw [El] at k3;have hl:l.length=sz 10000 z.natAbs:=by rw [← El];rfl
 have hdl:dS 10000 l:=by rw [← El];exact aT zo _
 have htl:Top l:=by rw [← El];exact mV zo _
 have hvl:val 10000 l=z.natAbs:=by rw [← El];exact aP zo _
 obtain ⟨L,EL⟩:∃ L,sz 10000 z.natAbs=L:=⟨_,rfl⟩;rw [EL] at hl hs k1 k3 ⊢;have h0:Below w.heap.size w (w.alloc (.cells #[.bool bA,.slice je L jG] 161)):=aD;have hbx:=ah.new w #[.bool bA,.slice je L jG] 161;obtain ⟨W,EW⟩:∃ y,w.alloc (.cells #[.bool bA,.slice je L jG] 161)=y:=⟨_,rfl⟩;rw [EW] at h0 hbx
 have k4:∀ k,k<L→∃ b off,je=some ⟨b,off,none⟩∧b<W.heap.size∧W.cell? ⟨b,off+k,none⟩=some (.int .i64 (l.getD k 0:Nat)):=fun k hk=>by
  obtain ⟨b,off,e,h1,h2⟩:=k3 k hk;exact ⟨b,off,e,Nat.lt_of_lt_of_le h1 h0.size,(h0.cell (by exact h1)).trans h2⟩
 have K4:=zh k4;have HX:=zh hbx;have HL:=zh hl;have Io:=zh hdl;have HTL:=zh htl;have HVL:=zh hvl;have HBZ:=zh hbz;have c0:=hbx.cell;clear k3 k4 hbx hl hdl htl hvl hbz hn hx EL El;go_enter Tryz.func207,Tryz.ntmps207
 go_wp2_with fail
 clear EW c0
 go_loopw [3,4] (fun sv iv wr=>∃ (q:Int) (S:ByteArray), -1≤q∧q<L∧iv= .int .i64 q∧sv= .string S∧Hid (S.data.toList=txt (l.drop (q+1).toNat))∧Hid (Below W.heap.size W wr)) (fun _ iv _=>(intOf iv+1).toNat)
 case atStart =>
  have e:((L:Int) - 1+1).toNat=l.length:=by have:=HL.out;omega
  exact ⟨(L:Int) - 1,⟨#[]⟩,by omega,by omega,rfl,rfl,zh (by rw [e,List.drop_length];rfl),zh (Below.refl _ _)⟩
 case round =>
  obtain ⟨q,S,hq1,hq2,rfl,rfl,HS,HB⟩:=hrel;have hbx:=HX.out.later HB.out;have c0:=hbx.cell
  by_cases hq:q<0
  ·have hq0:q= -1:=by omega
   subst hq0;have hS:S.data.toList=txt l:=by have:=HS.out;simpa using this
   have HS2:=zh hS;clear hS HS
   have hsz:S.size=4*L:=by
    have h1:S.size=S.data.toList.length:=rfl;rw [h1,HS2.out,Tf,HL.out]
   go_wp2_with fail
   go_loop [5] (fun kv=>∃ k:Nat,k≤S.size∧kv= .int .i64 k∧Hid (∀ i,i<k→S.data.toList[i]? =some 48)) (fun kv=>S.size - (intOf kv).toNat)
   case atStart=>exact ⟨0,Nat.zero_le _,rfl,zh fun i hi=>by cases hi⟩
   case round =>
    obtain ⟨k,hk,rfl,HK⟩:=hrel
    by_cases hks:k<S.size
    ·have hg:(txt l)[k]? =some S[k]:=by
      rw [← HS2.out];exact List.getElem?_eq_getElem (by exact hks)
     by_cases h48:S[k]=48
     ·have e:((S[k].toNat:Int) == 48)=true:=by rw [h48];rfl
      have HK1:Hid (∀ i,i<k+1→S.data.toList[i]? =some 48):=zh fun i hi=>by
       by_cases hik:i<k
       ·exact HK.out i hik
       ·obtain rfl:i=k:=by omega
        rw [HS2.out,hg,h48]
      clear hg h48;go_wp2_with fail
      go_round
      case rel=>exact ⟨k+1,by omega,by go_num,HK1⟩
      case measure=>exact zM
     ·have e:((S[k].toNat:Int) == 48)=false:=by
       rw [beq_eq_false_iff_ne];intro h;have aU8:S[k].toNat=48:=by omega
       exact h48 (UInt8.toNat_inj.1 (by rw [aU8];rfl))
      have hdrop:=Vt Io.out HTL.out (fun i hi=>by rw [← HS2.out];exact HK.out i hi) (by rw [← HS2.out];exact hks) (by rw [hg];intro h;exact h48 (Option.some.inj h))
      have hT:(S.extract k (4*L)).data.toList=Lib.decDigits z.natAbs:=by
       rw [← hsz,rZ,HS2.out,hdrop,HVL.out]
      have hE:(S.extract k (4*L)).toList.isEmpty=false:=by
       rw [ByteArray.toList_eq,hT];have:=uW z.natAbs;cases h:Lib.decDigits z.natAbs with
       | nil=>rw [h] at this;cases this
       | cons a b=>rfl
      have HT:=zh hT;clear hdrop hT hg h48 HK;cases bA
      ·have hz:¬ z<0:=by have:=HBZ.out;intro h;rw [decide_eq_true h] at this;cases this
       have eS:S.extract k (4*L)=⟨(Lib.itoa z).toArray⟩:=ba_eq (by rw [HT.out,yK,if_neg hz]);have ES:=zh eS;clear eS hz;go_wp2_with fail
       go_ret
       exact ⟨congrArg (fun s=>Ending.returned (.string s)) ES.out,Bt h0 HB.out⟩
      ·have hz:z<0:=of_decide_eq_true HBZ.out.symm
       have eS:(⟨#[45]⟩:ByteArray)++S.extract k (4*L)=⟨(Lib.itoa z).toArray⟩:=ba_eq (by
        rw [yK,if_pos hz,ByteArray.data_append,Array.toList_append,HT.out];rfl)
       have ES:=zh eS
       have hsm:¬ 9223372036854775807<1+(S.extract k (4*L)).size:=by
        have h1:(S.extract k (4*L)).size=(S.extract k (4*L)).data.toList.length:=rfl;have h2:=HT.out;rw [← hsz,rZ] at h2
        have h3:(S.extract k (4*L)).data.toList.length≤S.data.toList.length:=by
         rw [← hsz,rZ,List.length_drop];omega
        have h4:S.data.toList.length=S.size:=rfl;omega
       clear eS hz;go_wp2_with fail
       go_ret
       exact ⟨congrArg (fun s=>Ending.returned (.string s)) ES.out,Bt h0 HB.out⟩
    ·have hke:k=S.size:=by omega
     subst hke
     have hz0:z.natAbs=0:=by
      rw [← HVL.out]
      exact Vu Io.out HTL.out fun i hi=>by
       rw [← HS2.out] at hi ⊢;exact HK.out i hi
     have hz:z=0:=by omega
     have EZ:Hid ((⟨#[48]⟩:ByteArray)=⟨(Lib.itoa z).toArray⟩):=zh (by rw [hz];exact ba_eq (by rw [yK];simp [gH]));clear hz hz0 HK;go_wp2_with fail
     go_ret
     exact ⟨congrArg (fun s=>Ending.returned (.string s)) EZ.out,Bt h0 HB.out⟩
  ·obtain ⟨j,rfl⟩:=Int.eq_ofNat_of_zero_le (by omega:0≤q);have ej:((j:Int)+1).toNat=j+1:=by omega
   rw [ej] at HS;obtain ⟨b,off,rfl,hb1,hc1⟩:=K4.out j zo;have hcj:wr.cell? ⟨b,off+j,none⟩=some (.int .i64 (l.getD j 0:Nat)):=(HB.out.cell (by exact hb1)).trans hc1;have hdj:=Io.out.getD zo j;have HST:Hid (txt (l.drop j)=S.data.toList++pad 4 (l.getD j 0)):=zh (by rw [HS.out];exact Yl (by rw [HL.out];omega));have HSL:Hid (S.data.toList.length=4*(L - (j+1))):=zh (by rw [HS.out,Tf,List.length_drop,HL.out]);clear HS hc1;generalize l.getD j 0=d at *;have HF:=zh (am5 d hdj)
   have hsum:¬ 9223372036854775807<S.size+(pad 4 d).length:=by
    have h1:S.size=S.data.toList.length:=rfl;rw [oL,h1,HSL.out];omega
   go_wp2_with fail
   refine (HF.out _).mono ?_;rintro e w1 ⟨rfl,hb⟩;have HB1:=zh (Bt HB.out hb);clear hb hbx c0 hcj;go_wp2_with fail
   go_roundw
   case rel =>
    have e1:((j:Int) - 1+1).toNat=j:=by omega
    exact ⟨(j:Int) - 1,S++⟨(pad 4 d).toArray⟩,by omega,by omega,rfl,rfl,zh (by rw [e1,HST.out];simp),HB1⟩
   case measure=>simp [intOf]
theorem Rh (n:Nat):(Lib.decDigits n).length≤4*sz 10000 n+1:=by
 refine ko _ _ zo ?_;have h1:=iq (B:=10000) zo n;have h2:(10:Nat)^(4*sz 10000 n)=10000^sz 10000 n:=by rw [Nat.pow_mul]
 rw [Nat.pow_succ,h2];omega
def YT (z:Int):Value:=if fF.jd z.natAbs then .tuple #[bL z,.int .i64 0] else .tuple #[.string ⟨#[]⟩,.int .i64 6]
theorem Zz (z:Int):(Lib.itoa z).length=(Lib.decDigits z.natAbs).length+(if z<0 then 1 else 0):=by
 rw [yK]
 by_cases h:z<0
 ·rw [if_pos h,if_pos h];rfl
 ·rw [if_neg h,if_neg h];rfl
theorem vC (x:Value) (z:Int) (w:World) (hx:Pl w x z) (hs:sz 10000 z.natAbs≤1073741824) :
  Calls Tryz.prog 209 #[x] w (fun e w'=>e= .returned (YT z)∧Below w.heap.size w w'):=by
 obtain ⟨bA,je,lA,jG,rfl⟩:=hx.agg;obtain ⟨hn,hbz⟩:=hx.nm;have NA:=zh hx;have hlen:=Zz z;have hok:=fF.dI (n:=z.natAbs);obtain ⟨S,ES⟩:∃ S:ByteArray,Hid (S=⟨(Lib.itoa z).toArray⟩):=⟨_,zh rfl⟩;have hsz:S.size=(Lib.itoa z).length:=by rw [ES.out];simp [ByteArray.size]
 have hsb:(Lib.decDigits z.natAbs).length≤4294967297:=by
  have:=Rh z.natAbs;omega
 have HT:=zh (fun W (hb:Below w.heap.size w W)=>UO _ z W (hx.later hb) hs);rw [← ES.out] at HT
 have hv:YT z=if (Lib.decDigits z.natAbs).length≤600 then .tuple #[.string S,.int .i64 0] else .tuple #[.string ⟨#[]⟩,.int .i64 6]:=by
  unfold YT;rw [ES.out]
  by_cases h:(Lib.decDigits z.natAbs).length≤600
  ·rw [if_pos h,if_pos (hok.2 h)];rfl
  ·rw [if_neg h,if_neg (fun h'=>h (hok.1 h'))]
 rw [hv];obtain ⟨n,En⟩:∃ n,(Lib.decDigits z.natAbs).length=n:=⟨_,rfl⟩;rw [En] at hlen hsb ⊢;rw [hlen] at hsz;have h0:Below w.heap.size w (w.alloc (.cells #[.bool bA,.slice je lA jG] 161)):=aD;have hbx:=ah.new w #[.bool bA,.slice je lA jG] 161;have rE:=zh hbx;have HH0:=zh h0
 by_cases hz:z<0
 ·have hbt:bA=true:=by rw [hbz,decide_eq_true hz]
  subst hbt;rw [if_pos hz] at hsz;clear hz hlen hok hn hbz hv En hs hx NA h0 hbx
  by_cases hbig:n≤600
  ·rw [if_pos hbig];have e1:¬ (600:Int)<(n:Int)+1 - 1:=by omega
   go_enter Tryz.func209,Tryz.ntmps209
   go_wp2_with fail
   refine (HT.out _ HH0.out).mono ?_;rintro e w1 ⟨rfl,hb⟩;have c0:=(rE.out.later hb).cell;go_wp2_with fail
   go_ret2
   exact ⟨rfl,Bt HH0.out hb⟩
  ·rw [if_neg hbig];have e1:(600:Int)<(n:Int)+1 - 1:=by omega
   go_enter Tryz.func209,Tryz.ntmps209
   go_wp2_with fail
   refine (HT.out _ HH0.out).mono ?_;rintro e w1 ⟨rfl,hb⟩;have c0:=(rE.out.later hb).cell;go_wp2_with fail
   go_ret2
   exact ⟨rfl,Bt HH0.out hb⟩
 ·have hbt:bA=false:=by rw [hbz,decide_eq_false hz]
  subst hbt;rw [if_neg hz,Nat.add_zero] at hsz;clear hz hlen hok hn hbz hv En hs hx NA h0 hbx
  by_cases hbig:n≤600
  ·rw [if_pos hbig];have e1:¬ (600:Int)<(n:Int):=by omega
   go_enter Tryz.func209,Tryz.ntmps209
   go_wp2_with fail
   refine (HT.out _ HH0.out).mono ?_;rintro e w1 ⟨rfl,hb⟩;have c0:=(rE.out.later hb).cell;go_wp2_with fail
   go_ret2
   exact ⟨rfl,Bt HH0.out hb⟩
  ·rw [if_neg hbig];have e1:(600:Int)<(n:Int):=by omega
   go_enter Tryz.func209,Tryz.ntmps209
   go_wp2_with fail
   refine (HT.out _ HH0.out).mono ?_;rintro e w1 ⟨rfl,hb⟩;have c0:=(rE.out.later hb).cell;go_wp2_with fail
   go_ret2
   exact ⟨rfl,Bt HH0.out hb⟩
theorem Qj {d:List UInt8} {neg:Bool} (h:d.length<1∨600<d.length):eO d neg=false:=by
 unfold eO
 rcases h with h|h
 ·have:d=[]:=List.length_eq_zero_iff.1 zo;subst this;rfl
 ·have:decide (d.length≤600)=false:=by simp;omega
  simp [this]
theorem JY {d:List UInt8} {neg:Bool} {b:UInt8} (h:b∈d) (hb:b.toNat<48∨57<b.toNat):eO d neg=false:=by
 cases hk:eO d neg with
 | false=>rfl
 | true=>have:=pW hk b h;omega
theorem YW {d:List UInt8} {neg:Bool} (h1:1≤d.length) (h2:d.length≤600) (h:∀ b∈d,48≤b.toNat∧b.toNat≤57):eO d neg= !(d.head? == some 48&&(neg || decide (1<d.length))):=by
 unfold eO;have e1:decide (d≠[])=true:=by simp;intro h;subst h;simp at h1
 have e2:d.all (fun b=>decide (48≤b.toNat)&&decide (b.toNat≤57))=true:=by
  rw [List.all_eq_true];intro b hb;have:=h b hb;simp [this.1,this.2]
 rw [e1,e2,decide_eq_true h2];simp
theorem Pn (bs:List UInt8):(whole bs).isSome=eO (cut bs).1 (cut bs).2:=by
 unfold whole;cases eO (cut bs).1 (cut bs).2<;>rfl
theorem mZ {s:ByteArray} {i f:Nat} (hf:f≤i) (hi:i<s.size):s[i]∈s.data.toList.drop f:=by
 have h:s.data.toList[i]? =some s[i]:=List.getElem?_eq_getElem (by exact hi);rw [List.mem_iff_getElem?];exact ⟨i - f,by rw [List.getElem?_drop,show f+(i - f)=i by omega];exact h⟩
theorem pz (s:ByteArray) (w:World) (hs:s.size≤4611686018427387904) :
  Calls Tryz.prog 205 #[.string s] w (fun e w'=>e= .returned (.bool (whole s.data.toList).isSome)∧w=w'):=by
 rw [Pn];have hsz:s.data.toList.length=s.size:=rfl
 by_cases h0:s.size=0
 ·have e:s.data.toList=[]:=List.length_eq_zero_iff.1 (by rw [hsz,h0]);rw [e,Qj (.inl (by unfold Dec.cut;simp))];have hs0:(s.size:Int)=0:=by omega
  clear hs hsz e;go_enter Tryz.func205,Tryz.ntmps205
  go_wp2
  go_ret
  exact ⟨rfl,rfl⟩
 ·have hs0:0<s.size:=by omega
  have hd0:s.data.toList[0]? =some s[0]:=List.getElem?_eq_getElem (by exact hs0);have hhd:s.data.toList.head? =some s[0]:=by rw [List.head?_eq_getElem?];exact hd0
  obtain ⟨d,Ed⟩:∃ d,(Dec.cut s.data.toList).1=d:=⟨_,rfl⟩;obtain ⟨ng,En⟩:∃ ng,(Dec.cut s.data.toList).2=ng:=⟨_,rfl⟩;rw [Ed,En]
  by_cases h45:s[0]=45
  ·have hC:d=s.data.toList.drop 1∧ng=true:=by
    unfold Dec.cut at Ed En;rw [if_pos (by rw [hhd,h45])] at Ed En;exact ⟨by rw [← Ed,List.drop_one],En.symm⟩
   obtain ⟨hd,hng⟩:=hC;subst hng
   have hq:((s[0].toNat:Int) == 45)=true:=by
    rw [h45];rfl
   have hdl:d.length=s.size - 1:=by rw [hd,List.length_drop,hsz]
   have HD:=zh hd;clear hd Ed En hhd hd0 h45
   by_cases hbad:s.size - 1<1∨600<s.size - 1
   ·rw [Qj (by rw [hdl];exact hbad)];have hb1:(s.size:Int) - 1<1∨(600:Int)<(s.size:Int) - 1:=by omega
    clear hsz hdl
    rcases hb1 with hb1|hb1
    ·go_enter Tryz.func205,Tryz.ntmps205
     go_wp2
     all_goals (go_ret;exact ⟨rfl,rfl⟩)
    ·have hb2:¬ (s.size:Int) - 1<1:=by omega
     go_enter Tryz.func205,Tryz.ntmps205
     go_wp2
     go_ret
     exact ⟨rfl,rfl⟩
   ·have hb1:¬ (s.size:Int) - 1<1:=by omega
    have hb2:¬ (600:Int)<(s.size:Int) - 1:=by omega
    have Io:=zh hdl;obtain ⟨R,ER⟩:∃ R,Hid (eO d true=R):=⟨_,zh rfl⟩;rw [ER.out];clear hsz hdl hbad;go_enter Tryz.func205,Tryz.ntmps205
    go_wp2
    go_loop [5] (fun iv=>∃ i:Nat,1≤i∧i≤s.size∧iv= .int .i64 i∧Hid (∀ j (h:j<s.size),1≤j→j<i→48≤s[j].toNat∧s[j].toNat≤57)) (fun iv=>s.size - (intOf iv).toNat)
    case atStart=>exact ⟨1,Nat.le_refl _,by omega,rfl,zh fun j h h1 h2=>absurd h2 zo⟩
    case round =>
     obtain ⟨i,hi1,hi2,rfl,HK⟩:=hrel
     by_cases his:i<s.size
     ·by_cases hlo:s[i].toNat<48
      ·have q1:(s[i].toNat:Int)<48:=by omega
       have HR:Hid (R=false):=zh (by rw [← ER.out];exact JY (by rw [HD.out];exact mZ hi1 his) (.inl hlo));clear hlo
       go_wp2
       go_ret
       exact ⟨by rw [HR.out];rfl,rfl⟩
      ·by_cases hhi:57<s[i].toNat
       ·have q1:¬ (s[i].toNat:Int)<48:=by omega
        have q2:(57:Int)<(s[i].toNat:Int):=by omega
        have HR:Hid (R=false):=zh (by rw [← ER.out];exact JY (by rw [HD.out];exact mZ hi1 his) (.inr hhi));clear hlo hhi
        go_wp2
        go_ret
        exact ⟨by rw [HR.out];rfl,rfl⟩
       ·have q1:¬ (s[i].toNat:Int)<48:=by omega
        have q2:¬ (57:Int)<(s[i].toNat:Int):=by omega
        have HK2:Hid (∀ j (h:j<s.size),1≤j→j<i+1→48≤s[j].toNat∧s[j].toNat≤57):=zh fun j h h1 h2=>by
         by_cases hji:j<i
         ·exact HK.out j h h1 hji
         ·obtain rfl:j=i:=by omega
          omega
        clear hlo hhi
        go_wp2
        go_round
        case rel=>exact ⟨i+1,by omega,by omega,by go_num,HK2⟩
        case measure=>exact zM
     ·have hie:i=s.size:=by omega
      subst hie;have hF:1<s.size:=by omega
      have hall:eO d true= !(d.head? == some 48&&(true || decide (1<d.length))):=YW (by rw [Io.out];omega) (by rw [Io.out];omega) fun b hb=>by
       rw [HD.out] at hb;obtain ⟨j,hj,rfl⟩:=List.getElem_of_mem hb;rw [List.length_drop] at hj
       have hj2:j+1<s.size:=by
        have:s.data.toList.length=s.size:=rfl;omega
       have:=HK.out (j+1) hj2 zo zo;rw [List.getElem_drop]
       have e:s.data.toList[1+j]'(by have:s.data.toList.length=s.size:=rfl;omega)=s[j+1]:=by
        simp only [Nat.add_comm 1 j];rfl
       rw [e];exact this
      have hh:d.head? =some s[1]:=by
       rw [HD.out,List.head?_eq_getElem?, List.getElem?_drop];exact List.getElem?_eq_getElem (by exact hF)
      rw [hh,Io.out,ER.out] at hall;clear hh HK
      by_cases h48:s[1]=48
      ·have q3:((s[1].toNat:Int) == 48)=true:=by rw [h48];rfl
       have q4:((s[1].toNat:Int) != 48)=false:=by rw [h48];rfl
       have q5:((s.size:Int) == 1)=false:=by simp;omega
       have HR:Hid (R=false):=zh (by rw [hall,h48];rfl);clear h48 hall
       go_wp2
       go_ret
       exact ⟨by rw [HR.out];rfl,rfl⟩
      ·have q3:((s[1].toNat:Int) == 48)=false:=by
        rw [beq_eq_false_iff_ne];intro h
        exact h48 (UInt8.toNat_inj.1 (by
         have:s[1].toNat=48:=by omega
         rw [this];rfl))
       have q4:((s[1].toNat:Int) != 48)=true:=by rw [bne,q3];rfl
       have q5:(some s[1] == some (48:UInt8))=false:=by
        rw [beq_eq_false_iff_ne];intro h;exact h48 (Option.some.inj h)
       have HR:Hid (R=true):=zh (by rw [hall,q5];rfl);clear h48 q5 hall
       go_wp2
       go_ret
       exact ⟨by rw [HR.out];rfl,rfl⟩
  ·have hC:d=s.data.toList.drop 0∧ng=false:=by
    unfold Dec.cut at Ed En;rw [if_neg (by rw [hhd];intro h;exact h45 (Option.some.inj h))] at Ed En;exact ⟨by rw [← Ed];rfl,En.symm⟩
   obtain ⟨hd,hng⟩:=hC;subst hng
   have hq:((s[0].toNat:Int) == 45)=false:=by
    rw [beq_eq_false_iff_ne];intro h
    exact h45 (UInt8.toNat_inj.1 (by
     have:s[0].toNat=45:=by omega
     rw [this];rfl))
   have hdl:d.length=s.size - 0:=by rw [hd,List.length_drop,hsz]
   have HD:=zh hd;clear hd Ed En hhd hd0 h45
   by_cases hbad:s.size - 0<1∨600<s.size - 0
   ·rw [Qj (by rw [hdl];exact hbad)];have hb1:(s.size:Int) - 0<1∨(600:Int)<(s.size:Int) - 0:=by omega
    clear hsz hdl
    rcases hb1 with hb1|hb1
    ·go_enter Tryz.func205,Tryz.ntmps205
     go_wp2
     all_goals (go_ret;exact ⟨rfl,rfl⟩)
    ·have hb2:¬ (s.size:Int) - 0<1:=by omega
     go_enter Tryz.func205,Tryz.ntmps205
     go_wp2
     go_ret
     exact ⟨rfl,rfl⟩
   ·have hb1:¬ (s.size:Int) - 0<1:=by omega
    have hb2:¬ (600:Int)<(s.size:Int) - 0:=by omega
    have Io:=zh hdl;obtain ⟨R,ER⟩:∃ R,Hid (eO d false=R):=⟨_,zh rfl⟩;rw [ER.out];clear hsz hdl hbad;go_enter Tryz.func205,Tryz.ntmps205
    go_wp2
    go_loop [5] (fun iv=>∃ i:Nat,0≤i∧i≤s.size∧iv= .int .i64 i∧Hid (∀ j (h:j<s.size),0≤j→j<i→48≤s[j].toNat∧s[j].toNat≤57)) (fun iv=>s.size - (intOf iv).toNat)
    case atStart=>exact ⟨0,Nat.le_refl _,by omega,rfl,zh fun j h h1 h2=>absurd h2 zo⟩
    case round =>
     obtain ⟨i,hi1,hi2,rfl,HK⟩:=hrel
     by_cases his:i<s.size
     ·by_cases hlo:s[i].toNat<48
      ·have q1:(s[i].toNat:Int)<48:=by omega
       have HR:Hid (R=false):=zh (by rw [← ER.out];exact JY (by rw [HD.out];exact mZ hi1 his) (.inl hlo));clear hlo
       go_wp2
       go_ret
       exact ⟨by rw [HR.out];rfl,rfl⟩
      ·by_cases hhi:57<s[i].toNat
       ·have q1:¬ (s[i].toNat:Int)<48:=by omega
        have q2:(57:Int)<(s[i].toNat:Int):=by omega
        have HR:Hid (R=false):=zh (by rw [← ER.out];exact JY (by rw [HD.out];exact mZ hi1 his) (.inr hhi));clear hlo hhi
        go_wp2
        go_ret
        exact ⟨by rw [HR.out];rfl,rfl⟩
       ·have q1:¬ (s[i].toNat:Int)<48:=by omega
        have q2:¬ (57:Int)<(s[i].toNat:Int):=by omega
        have HK2:Hid (∀ j (h:j<s.size),0≤j→j<i+1→48≤s[j].toNat∧s[j].toNat≤57):=zh fun j h h1 h2=>by
         by_cases hji:j<i
         ·exact HK.out j h h1 hji
         ·obtain rfl:j=i:=by omega
          omega
        clear hlo hhi
        go_wp2
        go_round
        case rel=>exact ⟨i+1,by omega,by omega,by go_num,HK2⟩
        case measure=>exact zM
     ·have hie:i=s.size:=by omega
      subst hie;have hF:0<s.size:=by omega
      have hall:eO d false= !(d.head? == some 48&&(false || decide (1<d.length))):=YW (by rw [Io.out];omega) (by rw [Io.out];omega) fun b hb=>by
       rw [HD.out] at hb;obtain ⟨j,hj,rfl⟩:=List.getElem_of_mem hb;rw [List.length_drop] at hj
       have hj2:j+0<s.size:=by
        have:s.data.toList.length=s.size:=rfl;omega
       have:=HK.out (j+0) hj2 zo zo;rw [List.getElem_drop]
       have e:s.data.toList[0+j]'(by have:s.data.toList.length=s.size:=rfl;omega)=s[j+0]:=by
        simp only [Nat.add_comm 0 j];rfl
       rw [e];exact this
      have hh:d.head? =some s[0]:=by
       rw [HD.out,List.head?_eq_getElem?, List.getElem?_drop];exact List.getElem?_eq_getElem (by exact hF)
      rw [hh,Io.out,ER.out] at hall;clear hh HK
      by_cases h48:s[0]=48
      ·have q3:((s[0].toNat:Int) == 48)=true:=by rw [h48];rfl
       have q4:((s[0].toNat:Int) != 48)=false:=by rw [h48];rfl
       by_cases h1:s.size=1
       ·have q5:((s.size:Int) == 1)=true:=by simp;omega
        have HR:Hid (R=true):=zh (by rw [hall,h48,h1];rfl);clear h48 hall
        go_wp2
        go_ret
        exact ⟨by rw [HR.out];rfl,rfl⟩
       ·have q5:((s.size:Int) == 1)=false:=by simp;omega
        have q6:decide (1<s.size - 0)=true:=by simp;omega
        have HR:Hid (R=false):=zh (by rw [hall,h48,q6];rfl);clear h48 q6 hall
        go_wp2
        go_ret
        exact ⟨by rw [HR.out];rfl,rfl⟩
      ·have q3:((s[0].toNat:Int) == 48)=false:=by
        rw [beq_eq_false_iff_ne];intro h
        exact h48 (UInt8.toNat_inj.1 (by
         have:s[0].toNat=48:=by omega
         rw [this];rfl))
       have q4:((s[0].toNat:Int) != 48)=true:=by rw [bne,q3];rfl
       have q5:(some s[0] == some (48:UInt8))=false:=by
        rw [beq_eq_false_iff_ne];intro h;exact h48 (Option.some.inj h)
       have HR:Hid (R=true):=zh (by rw [hall,q5];rfl);clear h48 q5 hall
       go_wp2
       go_ret
       exact ⟨by rw [HR.out];rfl,rfl⟩
theorem kI {bs:List UInt8} {f:Nat} (hd:qL (bs.drop f)) {st i:Nat} (hf:f≤st) (h4:i - st≤4):num ((bs.take i).drop st)<10000:=by
 have h1:=Zd ((bs.take i).drop st) (fun b hb=>by
  refine hd b ?_
  have h:b∈(bs.take i).drop f:=by
   obtain ⟨j,hj,rfl⟩:=List.getElem_of_mem hb;rw [List.getElem_drop];have:(bs.take i).drop st=((bs.take i).drop f).drop (st - f):=by rw [List.drop_drop,show f+(st - f)=st by omega]
   rw [List.mem_iff_getElem?];refine ⟨st - f+j,?_⟩;rw [List.getElem?_drop,show f+(st - f+j)=st+j by omega];exact List.getElem?_eq_getElem _
  rw [List.drop_take] at h;exact List.mem_of_mem_take h)
 have h2:(10:Nat)^((bs.take i).drop st).length≤10^4:=Nat.pow_le_pow_right zo (by rw [List.length_drop,List.length_take];omega);omega
theorem nX {bs:List UInt8} {st i:Nat} {x:UInt8} (hst:st≤i) (hb:48≤x.toNat∧x.toNat≤57) (hx:bs[i]? =some x) :
  ((num ((bs.take i).drop st):Nat):Int)*10+((x.toNat:Int) - 48)=(num ((bs.take (i+1)).drop st):Nat):=by
 rw [ug hst hx,oM];omega
theorem Jm (s:ByteArray) (z:Int) (w:World) (hz:whole s.data.toList=some z) :
  Calls Tryz.prog 206 #[.string s] w (xV w z):=by
 obtain ⟨i0,hi,hz0,hz1,hz2⟩:=info_parts yL;obtain ⟨bs,hbs⟩:∃ bs,s.data.toList=bs:=⟨_,rfl⟩;rw [hbs] at hz;have hn:bs.length=s.size:=by rw [← hbs];rfl
 have hok:eO (Dec.cut bs).1 (Dec.cut bs).2=true:=by
  unfold whole at hz;split at hz
  ·assumption
  ·cases hz
 have hzz:Dec.mk (num (Dec.cut bs).1) (Dec.cut bs).2=z:=by
  unfold whole at hz;rw [if_pos hok] at hz;exact Option.some.inj hz
 have hsz:s.size≤601:=by
  have h1:(Dec.cut bs).1.length≤600:=by
   unfold eO at hok;simp only [Bool.and_eq_true,decide_eq_true_eq] at hok;exact hok.1.1.2
  have h2:bs.length≤(Dec.cut bs).1.length+1:=by
   unfold Dec.cut;split
   ·simp;omega
   ·simp
  omega
 have hs0:0<s.size:=by
  rcases Nat.eq_zero_or_pos s.size with h|h
  ·have:bs=[]:=List.length_eq_zero_iff.1 zo;subst this;exact absurd hok (by simp [Dec.cut,eO])
  ·exact h
 have hhd:bs.head? =some s[0]:=by
  rw [List.head?_eq_getElem?, ← hbs];exact List.getElem?_eq_getElem (by exact hs0)
 obtain ⟨d,Ed⟩:∃ d,(Dec.cut bs).1=d:=⟨_,rfl⟩;obtain ⟨ng,En⟩:∃ ng,(Dec.cut bs).2=ng:=⟨_,rfl⟩;rw [Ed,En] at hok hzz;have HZ:Hid (gT (num d) ng=z):=zh hzz
 have hC:(d=bs.drop 1∧ng=true)∨(d=bs.drop 0∧ng=false):=by
  unfold Dec.cut at Ed En
  by_cases h:bs.head? =some 45
  ·rw [if_pos h] at Ed En;exact .inl ⟨by rw [← Ed,List.drop_one],En.symm⟩
  ·rw [if_neg h] at Ed En;exact .inr ⟨by rw [← Ed];rfl,En.symm⟩
 have h45:(ng=true→s[0]=45)∧(s[0]=45→ng=true):=by
  unfold Dec.cut at En
  constructor
  ·intro h
   by_cases h':bs.head? =some 45
   ·rw [hhd] at h';exact Option.some.inj h'
   ·rw [if_neg h'] at En;rw [← En] at h;cases h
  ·intro h;rw [if_pos (by rw [hhd,h])] at En;exact En.symm
 have h0:Below w.heap.size w (w.alloc (.cells #[.bool false,.slice none 0 0] 161)):=aD;have hx:=ah.new w #[.bool false,.slice none 0 0] 161;have Vb:=zh hbs;have HN:=zh hn;clear hz hzz hhd Ed En hbs hn
 rcases hC with hC|hC
 ·obtain ⟨hd,hng⟩:=hC;subst hng;have HD:=zh hd;have hds:qL (bs.drop 1):=by rw [← hd];exact pW hok
  have hle:1<s.size:=by
   have h1:d≠[]:=fun e=>by rw [e] at hok;exact absurd hok (by simp [eO])
   have h2:0<d.length:=List.length_pos_iff.2 h1;rw [hd,List.length_drop,HN.out] at h2;omega
  have hq:((s[0].toNat:Int) == 45)=true:=by
   have:s[0]=45:=by have:=h45.1 rfl;exact this
   rw [this];rfl
  have Au:=zh hds;clear hd hds hok h45;go_enter Tryz.func206,Tryz.ntmps206
  go_wp2_with fail
  go_loopw [4,5,6,7] (fun dv ev _ _ wr=>∃ (q:Int) (ls:List Nat),ev= .int .i64 q∧ -4≤q∧q≤s.size∧Hid ((1:Int)<q→(s.size:Int) - q=4*ls.length)∧Hid (ls.length≤s.size)∧Hid (dS 10000 ls)∧Hid (val 10000 ls=num (bs.drop (max q 1).toNat))∧wr.ownsRow (w.heap.size+1) 3 1 dv ls.length (ints ls) ∧
    Below (w.heap.size+1) (w.alloc (.cells #[.bool false,.slice none 0 0] 161)) wr) (fun _ ev _ _ _=>(intOf ev+4).toNat)
  case atStart=>exact ⟨s.size,[],rfl,by omega,by omega,zh (by intro h;simp),zh zi,zh dS.nil,zh (by rw [show (max (s.size:Int) 1).toNat=bs.length by rw [HN.out];omega,List.drop_length];simp [val,num]),World.ownsRow_nil _ _ _ _,Below.refl _ _⟩
  case round =>
   obtain ⟨q,ls,rfl,hq4,hqs,HE,HLL,Io,HV,hown,hb⟩:=hrel
   by_cases hqf:q≤1
   ·have hv:val 10000 ls=num (bs.drop 1):=by rw [HV.out,show (max q 1).toNat=1 by omega]
    have hz:gT (val 10000 ls) true=z:=by rw [hv,← HD.out];exact HZ.out
    have h1:Below w.heap.size w wr:=⟨hb.os,hb.tape,hb.output,Nat.le_trans zi hb.size,fun i hi=>(hb.block i zo).trans (h0.block i hi)⟩;have ZC:=hx.later (w':=wr) ⟨hb.os,hb.tape,hb.output,by have:=hb.size;simpa using this,fun i hi=>hb.block i (by simpa using hi)⟩;have cx:=ZC.cell;have fx:=ZC.free;have hg:=iM true u4 ls wr (Gs.fI hown) Io.out;rw [hz] at hg;have HG:=zh hg;obtain ⟨pa,ca,rfl, -⟩:=(Gs.fI hown).read;clear hv hz hg hown HE HV hb;go_wp2_with fail
    refine HG.out.mono ?_;rintro e w' ⟨v',rfl,hb,hv⟩;obtain ⟨bNV,av9,lNV,aB5,rfl⟩:=hv.agg;have NV:=zh hv;clear hv;have hy:=ZC.later hb;clear cx fx;have cy:=hy.cell;have fy:=hy.free;go_wp2_with fail
    refine dH rfl rfl aJ Tryz.underlying161 rfl zk ?_;exact ⟨_,rfl,aD,NV.out.set2 hy zd _ _ _ _⟩
   ·obtain ⟨e,rfl⟩:∃ e:Nat,q=(e:Int):=⟨q.toNat,by omega⟩;have hef:1<e:=by omega
    have aV4:(1:Int)<(e:Int):=by omega
    rcases Int.lt_or_le ((e:Int) - 4) 1 with h4|h4
    ·have hst':(e:Int) - 4<1:=by omega
     have Qy:max ((e:Int) - 4) 1=1:=by omega
     have hgl:=kI (bs:=bs) (f:=1) Au.out (Nat.le_refl _) (i:=e) zo;have HE2:Hid ((s.size:Int) - e=4*ls.length):=zh (HE.out zo);clear HE;go_wp2_with fail
     obtain ⟨wo,rfl⟩:∃ wo:World,wo=wr:=⟨_,rfl⟩
     go_loopw [6,7] (fun v6 v7 wi=>∃ i:Nat,v7= .int .i64 (i:Int)∧1≤i∧i≤e∧Hid (v6= .int .i64 (num ((bs.take i).drop 1):Nat))∧wo=wi) (fun _ v7 _=>e - (intOf v7).toNat)
     case atStart=>exact ⟨1,rfl,Nat.le_refl _,by omega,zh (by rw [List.drop_eq_nil_of_le (by rw [List.length_take];omega)];rfl),rfl⟩
     case round =>
      obtain ⟨i,rfl,hi1,hi2,H6,rfl⟩:=hrel;have e6:=H6.out;subst e6
      rcases Nat.lt_or_ge i e with hie|hie
      ·have his:i<s.size:=by omega
       have hx2:bs[i]? =some s[i]:=by rw [← Vb.out];exact List.getElem?_eq_getElem (by exact his)
       have hdi:=Au.out s[i] (by rw [← Vb.out];exact mZ zo his);have HS:=zh (nX (bs:=bs) (st:=1) (x:=s[i]) hi1 hdi hx2);have hgb:=kI (bs:=bs) (f:=1) Au.out (Nat.le_refl _) (i:=i) zo;generalize num ((bs.take i).drop 1)=g at *;go_wp2_with fail
       exact ⟨⟨i+1,rfl,by omega,by omega,zh (by rw [← HS.out]),trivial⟩,by simp only [intOf];omega⟩
      ·have hie:i=e:=by omega
       subst hie;have HG:=zh (om (bs:=bs) (s:=1) (e:=i) zo (by have:=HN.out;omega));have hlen:bs.length - i=4*ls.length:=by have:=HE2.out;have:=HN.out;omega
       have hmx:(max (i:Int) 1).toNat=i:=by omega
       have hv0:=HV.out;rw [hmx] at hv0;rw [hlen,Nat.pow_mul,← hv0] at HG;generalize num ((bs.take i).drop 1)=gv at *;have hll:ls.length+1≤s.size:=by have:=HE2.out;omega
       have ec:ints ls++[.int .i64 (gv:Int)]=ints (ls++[gv]):=by unfold ints;simp only [List.map_append,List.map_cons,List.map_nil]
       have EC:=zh ec;clear H6 ec;go_wp2_with (at_builtin;refine wpList_append_own _ rfl (.tmp 35) (.tmp 37) 159 rfl (w.heap.size+1) 3 i0 (.int .i64 0) 1 8 Tryz.underlying159 hi hz0 hz1 hz2 rfl zd _ _ _ rfl (hown.alloc _) ⟨wo.heap.size,0,none⟩ 1 1 [.int .i64 (gv:Int)] rfl rfl (by intro t u ht;match t,ht with|0,ht=>simp at ht;subst ht;simp [Addr.add]) (by intro u hu;simp at hu;subst hu;rfl) (by unfold maxLen;omega) zo (by have:=hb.size;simp at*; omega) ?_)
       intro v' w1 hown1 hgrow1 _;rw [EC.out] at hown1;have hb3:Below (w.heap.size+1) (w.alloc (.cells #[.bool false,.slice none 0 0] 161)) w1:=(hb.alloc (by have:=hb.size;simpa using this) _).grown hgrow1 (by simp;have:=hb.size;simp at*; omega) (fun k hk=>(hown.lt k hk).1)
       have Cn:Hid (val 10000 (ls++[gv])=num (bs.drop (max ((i:Int) - 4) 1).toNat)):=by
        unfold Hid;rw [show (max ((i:Int) - 4) 1).toNat=1 by omega,gU,HG.out,Nat.add_comm,Nat.mul_comm]
       clear hown hgrow1 hst' Qy;go_wp2_with fail
       refine ⟨⟨(i:Int) - 4,ls++[gv],rfl,by omega,by omega,zh (fun h=>?_),zh (by rw [List.length_append];exact hll),zh (Io.out.snoc hgl),Cn,by rw [List.length_append];exact hown1,hb3⟩,?_⟩
       ·have:=HE2.out;rw [List.length_append,List.length_singleton];omega
       ·simp only [intOf];omega
    ·obtain ⟨f,rfl⟩:∃ f,e=f+4:=⟨e - 4,by omega⟩;have s1:1≤f:=by omega
     have hst':¬ (f:Int)<1:=by omega
     have Qy:max (f:Int) 1=(f:Int):=by omega
     have hgl:=kI (bs:=bs) (f:=1) Au.out s1 (i:=f+4) zo;have HE2:Hid ((s.size:Int) - ((f+4:Nat):Int)=4*ls.length):=zh (HE.out zo);clear HE;go_wp2_with fail
     obtain ⟨wo,rfl⟩:∃ wo:World,wo=wr:=⟨_,rfl⟩
     go_loopw [6,7] (fun v6 v7 wi=>∃ i:Nat,v7= .int .i64 (i:Int)∧f≤i∧i≤f+4∧Hid (v6= .int .i64 (num ((bs.take i).drop f):Nat))∧wo=wi) (fun _ v7 _=>f+4 - (intOf v7).toNat)
     case atStart=>exact ⟨f,rfl,Nat.le_refl _,by omega,zh (by rw [List.drop_eq_nil_of_le (by rw [List.length_take];omega)];rfl),rfl⟩
     case round =>
      obtain ⟨i,rfl,hi1,hi2,H6,rfl⟩:=hrel;have e6:=H6.out;subst e6
      rcases Nat.lt_or_ge i (f+4) with hie|hie
      ·have his:i<s.size:=by omega
       have hx2:bs[i]? =some s[i]:=by rw [← Vb.out];exact List.getElem?_eq_getElem (by exact his)
       have hdi:=Au.out s[i] (by rw [← Vb.out];exact mZ zo his);have HS:=zh (nX (bs:=bs) (st:=f) (x:=s[i]) hi1 hdi hx2);have hgb:=kI (bs:=bs) (f:=1) Au.out s1 (i:=i) zo;generalize num ((bs.take i).drop f)=g at *;go_wp2_with fail
       exact ⟨⟨i+1,rfl,by omega,by omega,zh (by rw [← HS.out]),trivial⟩,by simp only [intOf];omega⟩
      ·obtain rfl:i=f+4:=by omega
       have HG:=zh (om (bs:=bs) (s:=f) (e:=f+4) zo (by have:=HN.out;omega));have hlen:bs.length - (f+4)=4*ls.length:=by have:=HE2.out;have:=HN.out;omega
       have hmx:(max ((f+4:Nat):Int) 1).toNat=f+4:=by omega
       have hv0:=HV.out;rw [hmx] at hv0;rw [hlen,Nat.pow_mul,← hv0] at HG;generalize num ((bs.take (f+4)).drop f)=gv at *;have hll:ls.length+1≤s.size:=by have:=HE2.out;omega
       have ec:ints ls++[.int .i64 (gv:Int)]=ints (ls++[gv]):=by unfold ints;simp only [List.map_append,List.map_cons,List.map_nil]
       have EC:=zh ec;clear H6 ec;go_wp2_with (at_builtin;refine wpList_append_own _ rfl (.tmp 35) (.tmp 37) 159 rfl (w.heap.size+1) 3 i0 (.int .i64 0) 1 8 Tryz.underlying159 hi hz0 hz1 hz2 rfl zd _ _ _ rfl (hown.alloc _) ⟨wo.heap.size,0,none⟩ 1 1 [.int .i64 (gv:Int)] rfl rfl (by intro t u ht;match t,ht with|0,ht=>simp at ht;subst ht;simp [Addr.add]) (by intro u hu;simp at hu;subst hu;rfl) (by unfold maxLen;omega) zo (by have:=hb.size;simp at*; omega) ?_)
       intro v' w1 hown1 hgrow1 _;rw [EC.out] at hown1;have hb3:Below (w.heap.size+1) (w.alloc (.cells #[.bool false,.slice none 0 0] 161)) w1:=(hb.alloc (by have:=hb.size;simpa using this) _).grown hgrow1 (by simp;have:=hb.size;simp at*; omega) (fun k hk=>(hown.lt k hk).1)
       have Cn:Hid (val 10000 (ls++[gv])=num (bs.drop (max (f:Int) 1).toNat)):=by
        unfold Hid;rw [show (max (f:Int) 1).toNat=f by omega,gU,HG.out,Nat.add_comm,Nat.mul_comm]
       clear hown hgrow1 hst' Qy;go_wp2_with fail
       refine ⟨⟨(f:Int),ls++[gv],rfl,by omega,by omega,zh (fun h=>?_),zh (by rw [List.length_append];exact hll),zh (Io.out.snoc hgl),Cn,by rw [List.length_append];exact hown1,hb3⟩,?_⟩
       ·have:=HE2.out;rw [List.length_append,List.length_singleton];omega
       ·simp only [intOf];omega
 ·obtain ⟨hd,hng⟩:=hC;subst hng;have HD:=zh hd;have hds:qL (bs.drop 0):=by rw [← hd];exact pW hok
  have hle:0<s.size:=by
   have h1:d≠[]:=fun e=>by rw [e] at hok;exact absurd hok (by simp [eO])
   have h2:0<d.length:=List.length_pos_iff.2 h1;rw [hd,List.length_drop,HN.out] at h2;omega
  have hq:((s[0].toNat:Int) == 45)=false:=by
   have h:s[0]≠45:=fun e=>by have:=h45.2 e;cases this
   rw [beq_eq_false_iff_ne];intro h2
   exact h (UInt8.toNat_inj.1 (by
    have:s[0].toNat=45:=by omega
    rw [this];rfl))
  have Au:=zh hds;clear hd hds hok h45;go_enter Tryz.func206,Tryz.ntmps206
  go_wp2_with fail
  go_loopw [4,5,6,7] (fun dv ev _ _ wr=>∃ (q:Int) (ls:List Nat),ev= .int .i64 q∧ -4≤q∧q≤s.size∧Hid ((0:Int)<q→(s.size:Int) - q=4*ls.length)∧Hid (ls.length≤s.size)∧Hid (dS 10000 ls)∧Hid (val 10000 ls=num (bs.drop (max q 0).toNat))∧wr.ownsRow (w.heap.size+1) 3 1 dv ls.length (ints ls) ∧
    Below (w.heap.size+1) (w.alloc (.cells #[.bool false,.slice none 0 0] 161)) wr) (fun _ ev _ _ _=>(intOf ev+4).toNat)
  case atStart=>exact ⟨s.size,[],rfl,by omega,by omega,zh (by intro h;simp),zh zi,zh dS.nil,zh (by rw [show (max (s.size:Int) 0).toNat=bs.length by rw [HN.out];omega,List.drop_length];simp [val,num]),World.ownsRow_nil _ _ _ _,Below.refl _ _⟩
  case round =>
   obtain ⟨q,ls,rfl,hq4,hqs,HE,HLL,Io,HV,hown,hb⟩:=hrel
   by_cases hqf:q≤0
   ·have hv:val 10000 ls=num (bs.drop 0):=by rw [HV.out,show (max q 0).toNat=0 by omega]
    have hz:gT (val 10000 ls) false=z:=by rw [hv,← HD.out];exact HZ.out
    have h1:Below w.heap.size w wr:=⟨hb.os,hb.tape,hb.output,Nat.le_trans zi hb.size,fun i hi=>(hb.block i zo).trans (h0.block i hi)⟩;have ZC:=hx.later (w':=wr) ⟨hb.os,hb.tape,hb.output,by have:=hb.size;simpa using this,fun i hi=>hb.block i (by simpa using hi)⟩;have cx:=ZC.cell;have fx:=ZC.free;have hg:=iM false u4 ls wr (Gs.fI hown) Io.out;rw [hz] at hg;have HG:=zh hg;obtain ⟨pa,ca,rfl, -⟩:=(Gs.fI hown).read;clear hv hz hg hown HE HV hb;go_wp2_with fail
    refine HG.out.mono ?_;rintro e w' ⟨v',rfl,hb,hv⟩;obtain ⟨bNV,av9,lNV,aB5,rfl⟩:=hv.agg;have NV:=zh hv;clear hv;have hy:=ZC.later hb;clear cx fx;have cy:=hy.cell;have fy:=hy.free;go_wp2_with fail
    refine dH rfl rfl aJ Tryz.underlying161 rfl zk ?_;exact ⟨_,rfl,aD,NV.out.set2 hy zd _ _ _ _⟩
   ·obtain ⟨e,rfl⟩:∃ e:Nat,q=(e:Int):=⟨q.toNat,by omega⟩;have hef:0<e:=by omega
    have aV4:(0:Int)<(e:Int):=by omega
    rcases Int.lt_or_le ((e:Int) - 4) 0 with h4|h4
    ·have hst':(e:Int) - 4<0:=by omega
     have Qy:max ((e:Int) - 4) 0=0:=by omega
     have hgl:=kI (bs:=bs) (f:=0) Au.out (Nat.le_refl _) (i:=e) zo;have HE2:Hid ((s.size:Int) - e=4*ls.length):=zh (HE.out zo);clear HE;go_wp2_with fail
     obtain ⟨wo,rfl⟩:∃ wo:World,wo=wr:=⟨_,rfl⟩
     go_loopw [6,7] (fun v6 v7 wi=>∃ i:Nat,v7= .int .i64 (i:Int)∧0≤i∧i≤e∧Hid (v6= .int .i64 (num ((bs.take i).drop 0):Nat))∧wo=wi) (fun _ v7 _=>e - (intOf v7).toNat)
     case atStart=>exact ⟨0,rfl,Nat.le_refl _,by omega,zh (by rw [List.drop_eq_nil_of_le (by rw [List.length_take];omega)];rfl),rfl⟩
     case round =>
      obtain ⟨i,rfl,hi1,hi2,H6,rfl⟩:=hrel;have e6:=H6.out;subst e6
      rcases Nat.lt_or_ge i e with hie|hie
      ·have his:i<s.size:=by omega
       have hx2:bs[i]? =some s[i]:=by rw [← Vb.out];exact List.getElem?_eq_getElem (by exact his)
       have hdi:=Au.out s[i] (by rw [← Vb.out];exact mZ zo his);have HS:=zh (nX (bs:=bs) (st:=0) (x:=s[i]) hi1 hdi hx2);have hgb:=kI (bs:=bs) (f:=0) Au.out (Nat.le_refl _) (i:=i) zo;generalize num ((bs.take i).drop 0)=g at *;go_wp2_with fail
       exact ⟨⟨i+1,rfl,by omega,by omega,zh (by rw [← HS.out]),trivial⟩,by simp only [intOf];omega⟩
      ·have hie:i=e:=by omega
       subst hie;have HG:=zh (om (bs:=bs) (s:=0) (e:=i) zo (by have:=HN.out;omega));have hlen:bs.length - i=4*ls.length:=by have:=HE2.out;have:=HN.out;omega
       have hmx:(max (i:Int) 0).toNat=i:=by omega
       have hv0:=HV.out;rw [hmx] at hv0;rw [hlen,Nat.pow_mul,← hv0] at HG;generalize num ((bs.take i).drop 0)=gv at *;have hll:ls.length+1≤s.size:=by have:=HE2.out;omega
       have ec:ints ls++[.int .i64 (gv:Int)]=ints (ls++[gv]):=by unfold ints;simp only [List.map_append,List.map_cons,List.map_nil]
       have EC:=zh ec;clear H6 ec;go_wp2_with (at_builtin;refine wpList_append_own _ rfl (.tmp 35) (.tmp 37) 159 rfl (w.heap.size+1) 3 i0 (.int .i64 0) 1 8 Tryz.underlying159 hi hz0 hz1 hz2 rfl zd _ _ _ rfl (hown.alloc _) ⟨wo.heap.size,0,none⟩ 1 1 [.int .i64 (gv:Int)] rfl rfl (by intro t u ht;match t,ht with|0,ht=>simp at ht;subst ht;simp [Addr.add]) (by intro u hu;simp at hu;subst hu;rfl) (by unfold maxLen;omega) zo (by have:=hb.size;simp at*; omega) ?_)
       intro v' w1 hown1 hgrow1 _;rw [EC.out] at hown1;have hb3:Below (w.heap.size+1) (w.alloc (.cells #[.bool false,.slice none 0 0] 161)) w1:=(hb.alloc (by have:=hb.size;simpa using this) _).grown hgrow1 (by simp;have:=hb.size;simp at*; omega) (fun k hk=>(hown.lt k hk).1)
       have Cn:Hid (val 10000 (ls++[gv])=num (bs.drop (max ((i:Int) - 4) 0).toNat)):=by
        unfold Hid;rw [show (max ((i:Int) - 4) 0).toNat=0 by omega,gU,HG.out,Nat.add_comm,Nat.mul_comm]
       clear hown hgrow1 hst' Qy;go_wp2_with fail
       refine ⟨⟨(i:Int) - 4,ls++[gv],rfl,by omega,by omega,zh (fun h=>?_),zh (by rw [List.length_append];exact hll),zh (Io.out.snoc hgl),Cn,by rw [List.length_append];exact hown1,hb3⟩,?_⟩
       ·have:=HE2.out;rw [List.length_append,List.length_singleton];omega
       ·simp only [intOf];omega
    ·obtain ⟨f,rfl⟩:∃ f,e=f+4:=⟨e - 4,by omega⟩;have s1:0≤f:=by omega
     have hst':¬ (f:Int)<0:=by omega
     have Qy:max (f:Int) 0=(f:Int):=by omega
     have hgl:=kI (bs:=bs) (f:=0) Au.out s1 (i:=f+4) zo;have HE2:Hid ((s.size:Int) - ((f+4:Nat):Int)=4*ls.length):=zh (HE.out zo);clear HE;go_wp2_with fail
     obtain ⟨wo,rfl⟩:∃ wo:World,wo=wr:=⟨_,rfl⟩
     go_loopw [6,7] (fun v6 v7 wi=>∃ i:Nat,v7= .int .i64 (i:Int)∧f≤i∧i≤f+4∧Hid (v6= .int .i64 (num ((bs.take i).drop f):Nat))∧wo=wi) (fun _ v7 _=>f+4 - (intOf v7).toNat)
     case atStart=>exact ⟨f,rfl,Nat.le_refl _,by omega,zh (by rw [List.drop_eq_nil_of_le (by rw [List.length_take];omega)];rfl),rfl⟩
     case round =>
      obtain ⟨i,rfl,hi1,hi2,H6,rfl⟩:=hrel;have e6:=H6.out;subst e6
      rcases Nat.lt_or_ge i (f+4) with hie|hie
      ·have his:i<s.size:=by omega
       have hx2:bs[i]? =some s[i]:=by rw [← Vb.out];exact List.getElem?_eq_getElem (by exact his)
       have hdi:=Au.out s[i] (by rw [← Vb.out];exact mZ zo his);have HS:=zh (nX (bs:=bs) (st:=f) (x:=s[i]) hi1 hdi hx2);have hgb:=kI (bs:=bs) (f:=0) Au.out s1 (i:=i) zo;generalize num ((bs.take i).drop f)=g at *;go_wp2_with fail
       exact ⟨⟨i+1,rfl,by omega,by omega,zh (by rw [← HS.out]),trivial⟩,by simp only [intOf];omega⟩
      ·obtain rfl:i=f+4:=by omega
       have HG:=zh (om (bs:=bs) (s:=f) (e:=f+4) zo (by have:=HN.out;omega));have hlen:bs.length - (f+4)=4*ls.length:=by have:=HE2.out;have:=HN.out;omega
       have hmx:(max ((f+4:Nat):Int) 0).toNat=f+4:=by omega
       have hv0:=HV.out;rw [hmx] at hv0;rw [hlen,Nat.pow_mul,← hv0] at HG;generalize num ((bs.take (f+4)).drop f)=gv at *;have hll:ls.length+1≤s.size:=by have:=HE2.out;omega
       have ec:ints ls++[.int .i64 (gv:Int)]=ints (ls++[gv]):=by unfold ints;simp only [List.map_append,List.map_cons,List.map_nil]
       have EC:=zh ec;clear H6 ec;go_wp2_with (at_builtin;refine wpList_append_own _ rfl (.tmp 35) (.tmp 37) 159 rfl (w.heap.size+1) 3 i0 (.int .i64 0) 1 8 Tryz.underlying159 hi hz0 hz1 hz2 rfl zd _ _ _ rfl (hown.alloc _) ⟨wo.heap.size,0,none⟩ 1 1 [.int .i64 (gv:Int)] rfl rfl (by intro t u ht;match t,ht with|0,ht=>simp at ht;subst ht;simp [Addr.add]) (by intro u hu;simp at hu;subst hu;rfl) (by unfold maxLen;omega) zo (by have:=hb.size;simp at*; omega) ?_)
       intro v' w1 hown1 hgrow1 _;rw [EC.out] at hown1;have hb3:Below (w.heap.size+1) (w.alloc (.cells #[.bool false,.slice none 0 0] 161)) w1:=(hb.alloc (by have:=hb.size;simpa using this) _).grown hgrow1 (by simp;have:=hb.size;simp at*; omega) (fun k hk=>(hown.lt k hk).1)
       have Cn:Hid (val 10000 (ls++[gv])=num (bs.drop (max (f:Int) 0).toNat)):=by
        unfold Hid;rw [show (max (f:Int) 0).toNat=f by omega,gU,HG.out,Nat.add_comm,Nat.mul_comm]
       clear hown hgrow1 hst' Qy;go_wp2_with fail
       refine ⟨⟨(f:Int),ls++[gv],rfl,by omega,by omega,zh (fun h=>?_),zh (by rw [List.length_append];exact hll),zh (Io.out.snoc hgl),Cn,by rw [List.length_append];exact hown1,hb3⟩,?_⟩
       ·have:=HE2.out;rw [List.length_append,List.length_singleton];omega
       ·simp only [intOf];omega
end Go.Proofs.au
namespace Go.Proofs.aC
open Go Go.RowKit Go.SW Go.Num Go.Mem Go.Proofs Go.Dec Go.Proofs.au Go.Fx
def Ra (w:World) (v:Value) (q:Rat):Prop:=∃ bn pn ln cn bd pd ld cd,v= .agg #[.bool bn,.slice pn ln cn,.bool bd,.slice pd ld cd]∧Pl w (.agg #[.bool bn,.slice pn ln cn]) q.num∧Pl w (.agg #[.bool bd,.slice pd ld cd]) q.den
theorem Ra.later {w w':World} {v:Value} {q:Rat} (h:Ra w v q) (hb:Below w.heap.size w w'):Ra w' v q:=by
 obtain ⟨bn,pn,ln,cn,bd,pd,ld,cd,e,h1,h2⟩:=h;exact ⟨bn,pn,ln,cn,bd,pd,ld,cd,e,h1.later hb,h2.later hb⟩
def jM (w:World) (q:Rat) (e:Ending) (w':World):Prop:=∃ v',e= .returned v'∧Below w.heap.size w w'∧Ra w' v' q
def Sg (w:World) (q:Rat) (e:Ending) (w':World):Prop:=∃ b pa l ca b' pa' l' Ph,e= .returned (.agg #[.bool b,.slice pa l ca,.bool b',.slice pa' l' Ph])∧Below w.heap.size w w'∧Ra w' (.agg #[.bool b,.slice pa l ca,.bool b',.slice pa' l' Ph]) q
theorem iK {w:World} {q:Rat} {e:Ending} {w':World} (h:jM w q e w'):Sg w q e w':=by
 obtain ⟨v,rfl,h,hv⟩:=h;obtain ⟨b,pa,l,ca,b',pa',l',Ph,rfl, -⟩:=id hv;exact ⟨b,pa,l,ca,b',pa',l',Ph,rfl,h,hv⟩
theorem Ae {n d:Int} (hd:0<d):((n:Rat) / (d:Rat)).num=n / (Nat.gcd n.natAbs d.natAbs:Int)∧(((n:Rat) / (d:Rat)).den:Int)=d / (Nat.gcd n.natAbs d.natAbs:Int):=by
 obtain ⟨k,rfl⟩:=Int.eq_ofNat_of_zero_le (Int.le_of_lt hd);have hk:0<k:=by omega
 have e:(n:Rat) / ((k:Int):Rat)=mkRat n k:=by
  rw [Rat.mkRat_eq_div];rfl
 have h:=fF.uJ n hk;rw [e,Int.natAbs_natCast];refine ⟨?_,?_⟩
 ·rw [h.1,fF.CZ (Nat.gcd_dvd_left _ _)]
 ·rw [h.2,Int.natCast_ediv]
theorem Pl.GR {w:World} {v:Value} {z:Int} (h:Pl w v z) {b:Nat} {cs:Array Value} {T':TypeId} (hx:ah w b cs T') (hT:3≠T') (u0 u1 u2 u3:Value) :
  Pl ((((w.setCell ⟨b,0,none⟩ u0).setCell ⟨b,1,none⟩ u1).setCell ⟨b,2,none⟩ u2).setCell ⟨b,3,none⟩ u3) v z :=
 (h.set2 hx hT 0 1 u0 u1).set2 ((hx.set 0 u0).set 1 u1) hT 2 3 u2 u3
theorem Ra.GR {w:World} {v:Value} {q:Rat} (h:Ra w v q) {b:Nat} {cs:Array Value} {T':TypeId} (hx:ah w b cs T') (hT:3≠T') (u0 u1 u2 u3:Value) :
  Ra ((((w.setCell ⟨b,0,none⟩ u0).setCell ⟨b,1,none⟩ u1).setCell ⟨b,2,none⟩ u2).setCell ⟨b,3,none⟩ u3) v q:=by
 obtain ⟨bn,pn,ln,cn,bd,pd,ld,cd,e,h1,h2⟩:=h;exact ⟨bn,pn,ln,cn,bd,pd,ld,cd,e,Pl.GR h1 hx hT u0 u1 u2 u3,Pl.GR h2 hx hT u0 u1 u2 u3⟩
theorem _root_.Go.Mem.Pl.keep {l:List TypeId} {w w':World} {v:Value} {z:Int} (h:Pl w v z) (k:Kept l w w') (hT:l.contains 3=false:=by kernel_rfl):Pl w' v z:=by
 obtain ⟨pa,n,ca,h1,h2⟩:=h;exact ⟨pa,n,ca,h1,Row.keep h2 k (Ze hT)⟩
theorem Ra.keep {l:List TypeId} {w w':World} {v:Value} {q:Rat} (h:Ra w v q) (k:Kept l w w') (hT:l.contains 3=false:=by kernel_rfl):Ra w' v q:=by
 obtain ⟨bn,pn,ln,cn,bd,pd,ld,cd,e,h1,h2⟩:=h;exact ⟨bn,pn,ln,cn,bd,pd,ld,cd,e,h1.keep k hT,h2.keep k hT⟩
def ae2 (w:World) (z:Int) (e:Ending) (w':World):Prop:=∃ b pa l ca,e= .returned (.agg #[.bool b,.slice pa l ca])∧Below w.heap.size w w'∧Pl w' (.agg #[.bool b,.slice pa l ca]) z
theorem VL {w:World} {z:Int} {e:Ending} {w':World} (h:xV w z e w'):ae2 w z e w':=by
 obtain ⟨v,rfl,h,hv⟩:=h;obtain ⟨b,pa,l,ca,rfl⟩:=hv.agg;exact ⟨b,pa,l,ca,rfl,h,hv⟩
def aP2 (w:World) (x y:Int) (e:Ending) (w':World):Prop:=∃ b pa l ca b' pa' l' Ph,e= .returned (.tuple #[.agg #[.bool b,.slice pa l ca],.agg #[.bool b',.slice pa' l' Ph]])∧Below w.heap.size w w'∧Pl w' (.agg #[.bool b,.slice pa l ca]) x∧Pl w' (.agg #[.bool b',.slice pa' l' Ph]) y
theorem TL {w:World} {x y:Int} {e:Ending} {w':World} (h:sP w x y e w'):aP2 w x y e w':=by
 obtain ⟨v,u,rfl,h,hv,hu⟩:=h;obtain ⟨b,pa,l,ca,rfl⟩:=hv.agg;obtain ⟨b',pa',l',Ph,rfl⟩:=hu.agg;exact ⟨b,pa,l,ca,b',pa',l',Ph,rfl,h,hv,hu⟩
theorem Sj (x y:Value) (n d:Int) (w:World) (hx:Pl w x n) (hy:Pl w y d) (ha:sz 10000 n.natAbs≤274877906944) (hb:sz 10000 d.natAbs≤274877906944) (hd:0<d) :
  Calls Tryz.prog 210 #[x,y] w (jM w ((n:Rat) / (d:Rat))):=by
 obtain ⟨e1,e2⟩:=Ae (n:=n) hd;generalize (n:Rat) / (d:Rat)=q at *;obtain ⟨bA,je,lA,jG,rfl⟩:=hx.agg;obtain ⟨bB,nK,lB,nN,rfl⟩:=hy.agg;have hbf:bB=false:=by rw [hy.nm.2];simp;omega
 subst hbf;have hg0:0<Nat.gcd n.natAbs d.natAbs:=Nat.gcd_pos_of_pos_right _ zo;have hgd:Nat.gcd n.natAbs d.natAbs≤d.natAbs:=Nat.le_of_dvd zo (Nat.gcd_dvd_right _ _);have dn:((Nat.gcd n.natAbs d.natAbs:Nat):Int) ∣ n:=by rw [← Int.dvd_natAbs,Int.ofNat_dvd];exact Nat.gcd_dvd_left _ _
 have dd:((Nat.gcd n.natAbs d.natAbs:Nat):Int) ∣ d:=by rw [← Int.dvd_natAbs,Int.ofNat_dvd];exact Nat.gcd_dvd_right _ _
 have DV:=fun x y W h k=>(xW x y n d W h k ha hb).mono fun _ _ q=>VL q;generalize Nat.gcd n.natAbs d.natAbs=g at *;have G0:0<(g:Int):=by omega
 have KG:sz 10000 (g:Int).natAbs≤274877906944:=Nat.le_trans (dh zo (by simpa using hgd)) hb;have P1:=fun v u W h k=>(vB v u (n) g W h k ha KG G0 (.inr dn)).mono fun _ _ q=>TL q;have P2:=fun v u W h k=>(vB v u (d) g W h k hb KG G0 (.inr dd)).mono fun _ _ q=>TL q;rw [← e1] at P1;rw [← e2] at P2;refine Fx.door Tryz.func210 rfl (.nil w []) ?_;have B0:=Fx.Gw.nil w;refine Fx.new [] 2 #[.bool bA,.slice je lA jG] 161 [] [] fun dW=>?_;refine Fx.new [] 3 #[.bool false,.slice nK lB nN] 161 [] [] fun dM=>?_;refine Fx.aL [] 4 163 [] [] fun dP=>?_;refine Fx.gM [4,2,3,4] 18 [] [] (fun W M=>DV _ _ _ (hx.later (B0.at M)) (hy.later (B0.at M))) ?_;rintro W w4 e M ⟨b3,p3,l3,c3,rfl,D4,Q3⟩;refine ⟨D4,fun M4=>?_⟩;have B4:=B0.next M4
 refine Fx.aL [] 5 161 [] [] fun Yc=>?_;refine Fx.gM [6,3,6] 22 [] [(3,#[.bool b3,.slice p3 l3 c3])] (fun W M=>P1 _ _ _ (hx.later (B4.at M)) (Q3.keep (M4.keep M))) ?_;rintro W w6 e M ⟨b4,p4,l4,c4,x4,y4,z4,u4,rfl,D6,Q4, -⟩;refine ⟨D6,fun M6=>?_⟩;replace Q3:=Q3.keep (M4.keep M6);have B6:=B4.next M6
 refine Fx.aL [] 6 161 [(23,.agg #[.bool b4,.slice p4 l4 c4]),(24,.agg #[.bool x4,.slice y4 z4 u4])] [] fun bz7=>?_;refine Fx.aL [] 7 161 [] [] fun bz8=>?_;refine Fx.gM [7,8,4,6] 28 [] [(4,#[.bool b4,.slice p4 l4 c4]),(5,#[.bool x4,.slice y4 z4 u4])] (fun W M=>P2 _ _ _ (hy.later (B6.at M)) (Q3.keep (M6.keep M))) ?_;rintro W w9 e M ⟨b5,p5,l5,c5,x5,y5,z5,u5,rfl,D9,Q5, -⟩;refine ⟨D9,fun M9=>?_⟩;replace Q4:=Q4.keep (M6.keep M9);have B9:=B6.next M9
 refine Fx.aL [] 8 161 [(29,.agg #[.bool b5,.slice p5 l5 c5]),(30,.agg #[.bool x5,.slice y5 z5 u5])] [] fun ao3=>?_;refine Fx.aL [] 9 161 [] [] fun aO2=>?_;exact Fx.fV (cs:=#[.bool b4,.slice p4 l4 c4,.bool b5,.slice p5 l5 c5]) 2 dP [9,10,7,9,5] [(2,#[.bool b4,.slice p4 l4 c4,.bool b5,.slice p5 l5 c5]),(6,#[.bool b5,.slice p5 l5 c5]),(7,#[.bool x5,.slice y5 z5 u5])] (fun W M=>by have HB:=(B9.at M);exact ⟨_,rfl,HB,_,_,_,_,_,_,_,_,rfl,(Q4.keep (M9.keep M)),(Q5.keep (M9.keep M))⟩)
theorem Sk (x y:Value) (n d:Int) (w:World) (hx:Pl w x n) (hy:Pl w y d) (ha:sz 10000 n.natAbs≤274877906944) (hb:sz 10000 d.natAbs≤274877906944) (hd:d<0) :
  Calls Tryz.prog 210 #[x,y] w (jM w ((n:Rat) / (d:Rat))):=by
 obtain ⟨e1,e2⟩:=Ae (n:= -n) (d:= -d) zo;rw [show ((-n:Int):Rat) / ((-d:Int):Rat)=(n:Rat) / (d:Rat) by rw [Rat.intCast_neg,Rat.intCast_neg,Rat.div_def,Rat.div_def];grind,Int.natAbs_neg,Int.natAbs_neg] at e1 e2;generalize (n:Rat) / (d:Rat)=q at *;obtain ⟨bA,je,lA,jG,rfl⟩:=hx.agg;obtain ⟨bB,nK,lB,nN,rfl⟩:=hy.agg;have hbf:bB=true:=by rw [hy.nm.2];simp;omega
 subst hbf;have hg0:0<Nat.gcd n.natAbs d.natAbs:=Nat.gcd_pos_of_pos_right _ zo;have hgd:Nat.gcd n.natAbs d.natAbs≤d.natAbs:=Nat.le_of_dvd zo (Nat.gcd_dvd_right _ _);have dn:((Nat.gcd n.natAbs d.natAbs:Nat):Int) ∣ -n:=by rw [Int.dvd_neg];rw [← Int.dvd_natAbs,Int.ofNat_dvd];exact Nat.gcd_dvd_left _ _
 have dd:((Nat.gcd n.natAbs d.natAbs:Nat):Int) ∣ -d:=by rw [Int.dvd_neg];rw [← Int.dvd_natAbs,Int.ofNat_dvd];exact Nat.gcd_dvd_right _ _
 have ha2:sz 10000 (-n).natAbs≤274877906944:=by rw [Int.natAbs_neg];exact ha
 have hb2:sz 10000 (-d).natAbs≤274877906944:=by rw [Int.natAbs_neg];exact hb
 have DV:=fun x y W h k=>(xW x y (-n) (-d) W h k ha2 hb2).mono fun _ _ q=>VL q;rw [Int.natAbs_neg,Int.natAbs_neg] at DV;have T:=fun z W v h=>(vZ v z W h).mono fun _ _ q=>VL q;generalize Nat.gcd n.natAbs d.natAbs=g at *;have G0:0<(g:Int):=by omega
 have KG:sz 10000 (g:Int).natAbs≤274877906944:=Nat.le_trans (dh zo (by simpa using hgd)) hb;have P1:=fun v u W h k=>(vB v u (-n) g W h k ha2 KG G0 (.inr dn)).mono fun _ _ q=>TL q;have P2:=fun v u W h k=>(vB v u (-d) g W h k hb2 KG G0 (.inr dd)).mono fun _ _ q=>TL q;rw [← e1] at P1;rw [← e2] at P2;refine Fx.door Tryz.func210 rfl (.nil w []) ?_;have B0:=Fx.Gw.nil w;refine Fx.new [] 2 #[.bool bA,.slice je lA jG] 161 [] [] fun dW=>?_;refine Fx.new [] 3 #[.bool true,.slice nK lB nN] 161 [] [] fun dM=>?_;refine Fx.aL [] 4 163 [] [] fun dP=>?_;refine Fx.draw [4,1] [0,2,1,3,4,5] [] [] [] ?_;refine Fx.gM [3,4] 13 [(14,.agg #[.bool true,.slice nK lB nN])] [] (fun W M=>T _ _ _ (hx.later (B0.at M))) ?_;rintro W w4 e M ⟨b1,p1,l1,c1,rfl,D4,Q1⟩;refine ⟨D4,fun M4=>?_⟩;have B4:=B0.next M4
 refine Fx.gM [] 15 [] [] (fun W M=>T _ _ _ (hy.later (B4.at M))) ?_;rintro W w5 e M ⟨b2,p2,l2,c2,rfl,D5,Q2⟩;refine ⟨D5,fun M5=>?_⟩;replace Q1:=Q1.keep (M4.keep M5);have B5:=B4.next M5
 refine Fx.gM [3,4,3,4] 18 [] [(0,#[.bool b1,.slice p1 l1 c1]),(1,#[.bool b2,.slice p2 l2 c2])] (fun W M=>DV _ _ _ (Q1.keep (M5.keep M)) (Q2.keep (M5.keep M))) ?_;rintro W w6 e M ⟨b3,p3,l3,c3,rfl,D6,Q3⟩;refine ⟨D6,fun M6=>?_⟩;replace Q1:=Q1.keep (M5.keep M6);replace Q2:=Q2.keep (M5.keep M6);have B6:=B5.next M6
 refine Fx.aL [] 5 161 [] [] fun bz7=>?_;refine Fx.gM [6,3,6] 22 [] [(3,#[.bool b3,.slice p3 l3 c3])] (fun W M=>P1 _ _ _ (Q1.keep (M6.keep M)) (Q3.keep (M6.keep M))) ?_;rintro W w8 e M ⟨b4,p4,l4,c4,x4,y4,z4,u4,rfl,D8,Q4, -⟩;refine ⟨D8,fun M8=>?_⟩;replace Q2:=Q2.keep (M6.keep M8);replace Q3:=Q3.keep (M6.keep M8);have B8:=B6.next M8
 refine Fx.aL [] 6 161 [(23,.agg #[.bool b4,.slice p4 l4 c4]),(24,.agg #[.bool x4,.slice y4 z4 u4])] [] fun bz9=>?_;refine Fx.aL [] 7 161 [] [] fun ao3=>?_;refine Fx.gM [7,8,4,6] 28 [] [(4,#[.bool b4,.slice p4 l4 c4]),(5,#[.bool x4,.slice y4 z4 u4])] (fun W M=>P2 _ _ _ (Q2.keep (M8.keep M)) (Q3.keep (M8.keep M))) ?_;rintro W w11 e M ⟨b5,p5,l5,c5,x5,y5,z5,u5,rfl,D11,Q5, -⟩;refine ⟨D11,fun M11=>?_⟩;replace Q4:=Q4.keep (M8.keep M11);have B11:=B8.next M11
 refine Fx.aL [] 8 161 [(29,.agg #[.bool b5,.slice p5 l5 c5]),(30,.agg #[.bool x5,.slice y5 z5 u5])] [] fun ao2=>?_;refine Fx.aL [] 9 161 [] [] fun aX6=>?_;exact Fx.fV (cs:=#[.bool b4,.slice p4 l4 c4,.bool b5,.slice p5 l5 c5]) 2 dP [9,10,7,9,5] [(2,#[.bool b4,.slice p4 l4 c4,.bool b5,.slice p5 l5 c5]),(6,#[.bool b5,.slice p5 l5 c5]),(7,#[.bool x5,.slice y5 z5 u5])] (fun W M=>by have HB:=(B11.at M);exact ⟨_,rfl,HB,_,_,_,_,_,_,_,_,rfl,(Q4.keep (M11.keep M)),(Q5.keep (M11.keep M))⟩)
theorem wD (x y:Value) (n d:Int) (w:World) (hx:Pl w x n) (hy:Pl w y d) (ha:sz 10000 n.natAbs≤274877906944) (hb:sz 10000 d.natAbs≤274877906944) (hd:d≠0) :
  Calls Tryz.prog 210 #[x,y] w (jM w ((n:Rat) / (d:Rat))):=by
 by_cases h:0<d
 ·exact Sj x y n d w hx hy ha hb h
 ·exact Sk x y n d w hx hy ha hb zo
end Go.Proofs.aC
