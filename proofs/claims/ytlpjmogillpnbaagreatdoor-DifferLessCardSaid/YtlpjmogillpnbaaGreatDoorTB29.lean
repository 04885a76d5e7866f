/- Lemmas for the proof. No condition. -/
import Derived.Test.YtlpjmogillpnbaaGreatDoorTB13
import Derived.Deep.QuietTactic
import Derived.BigQuiet
import Derived.WalkSmall
set_option linter.unusedVariables false
set_option linter.unusedSimpArgs false
set_option maxRecDepth 100000
set_option maxHeartbeats 16000000
open Bool renaming eq_iff_iff → gN
open Go.Ending renaming returned → ah
open Go.IntKind renaming i64 → I
open Go.Value renaming bool → ay, int → Z, slice → aj, tuple → aD
open List renaming append_assoc → iF, getElem_mem → eX, length_cons → aZ, map_cons → bJ, map_nil → jK, replicate → bD, take_length → dR
open Nat renaming add_assoc → jr, add_zero → eO, div_eq_of_lt → dS, eq_zero_or_pos → aS, le_of_lt → jL, le_refl → aI, le_trans → aB, mod_eq_of_lt → eZ, mod_lt → dV, mul_le_mul → dJ
namespace Go.Proofs.aV
open Go Go.RowKit Go.SW Go.Num Go.Mem Go.Proofs
theorem yt:(Tryz.prog.info? 3).map (fun i=>(i.zero,i.size,i.bytes))=some (some (.int .i64 0),1,8):=by kernel_rfl
theorem DT (b off c:Nat) (l:List Nat) (w:World) (hl:l.length≤c) (hm:c≤9223372036854775807)
   (hc:∀ k,k<l.length→w.cell? ⟨b,off+k,none⟩=some (.int .i64 (l.getD k 0:Nat))) :
    Calls Tryz.prog 242 #[aj (some ⟨b,off,none⟩) l.length c] w fun e w'=>e= ah (aj (some ⟨b,off,none⟩) (trimLen l l.length) c)∧w=w':=by
  go_enter Tryz.func242,Tryz.ntmps242
  go_wp2
  go_loop [3] (fun v=>∃ k:Nat,k≤l.length∧trimLen l k=trimLen l l.length∧v= Z I k) (fun v=>(intOf v).toNat)
  case atStart=>exact ⟨l.length,aI _,rfl,rfl⟩
  case round =>
    obtain ⟨k,hk,ht,rfl⟩:=hrel;have HT:=zh ht;clear ht
    rcases aS k with h0|h0
    · subst h0
      go_wp2
      go_ret
      exact ⟨by rw [← HT.out];rfl,rfl⟩
    · obtain ⟨j,rfl⟩:∃ j,k=j+1:=⟨k - 1,by omega⟩
      have hcj:=hc j zo;have HS:Hid (trimLen l (j+1)=if l.getD j 0=0 then trimLen l j else j+1):=rfl;generalize l.getD j 0=d at hcj HS;clear hc
      rcases aS d with hd|hd
      · subst hd
        go_wp2
        go_round
        case rel=>exact ⟨j,by omega,by rw [← HT.out,HS.out];rfl,by go_num⟩
        case measure=>simp [intOf]
      · have hz:((d:Int) == 0)=false:=by simp;omega
        go_wp2
        go_ret
        exact ⟨by rw [← HT.out,HS.out,if_neg zo];rfl,rfl⟩
theorem QN (w:World):Calls Tryz.prog 242 #[aj none 0 0] w fun e w'=>e= ah (aj none 0 0)∧w=w':=by
 go_enter Tryz.func242,Tryz.ntmps242
 go_wp2
 refine wp_loop_rounds 1 ?_;rw [rounds_succ]
 go_wp2
 go_ret
 exact ⟨rfl,rfl⟩
theorem pF (v:Value) (l:List Nat) (w:World) (h:Gs w v l) (hd:fD 10000 l) :
  Calls Tryz.prog 242 #[v] w fun e w'=>∃ v',e= ah v'∧w=w'∧Nm w v' (val 10000 l):=by
 rcases Gs.cases h with ⟨rfl,rfl⟩|⟨b,off,cap,rfl,h1,h2,h3,⟨arr,h4⟩,h5⟩
 ·refine (QN w).mono ?_;rintro e w' ⟨rfl,rfl⟩;exact ⟨_,rfl,rfl,by rw [show val 10000 ([]:List Nat)=0 from rfl];exact Nm.zero _⟩
 ·refine (DT b off cap l w h1 h2 h5).mono ?_;rintro e w' ⟨rfl,rfl⟩;refine ⟨_,rfl,rfl,?_⟩;have ht:=trimLen_le l l.length;have e:val 10000 l=val 10000 (l.take (trimLen l l.length)):=by rw [sH _ _ _ (aI _)];simp
  rw [e];refine Nm.MI ?_ (hd.take _) (sI l _ (aI _));refine Row.mk (arr:=arr) (by rw [bQ];simp;omega) (by rw [bQ];simp;omega) h2 h4 fun i hi=>?_;rw [bQ] at hi;have hi2:i<l.length:=by simp at hi;omega
  have:=h5 i hi2;rw [h4.cell] at this;rw [this];simp [ints,hi2]
theorem kK (b:Bool) (v:Value) (l:List Nat) (w:World) (h:Gs w v l) (hd:fD 10000 l) :
  Calls Tryz.prog 190 #[ay b,v] w fun e w'=>∃ v',e= ah v'∧Below w.heap.size w w'∧Pl w' v' (iM (val 10000 l) b):=by
 have h0:Below w.heap.size w (w.alloc (.cells #[ay false,aj none 0 0] 144)):=aN;have hx:=aC.new w #[ay false,aj none 0 0] 144;have HG:=zh (pF v l _ (h.later h0) hd);obtain ⟨a0,c0,rfl, -⟩:=h.read;obtain ⟨W,EW⟩:∃ y,w.alloc (.cells #[ay false,aj none 0 0] 144)=y:=⟨_,rfl⟩;rw [EW] at h0 hx HG;have cx:=hx.cell;have fx:=hx.free;generalize val 10000 l=n at *;clear h hd;go_enter Tryz.func190,Tryz.ntmps190
 go_wp2_with fail
 clear EW;refine HG.out.mono ?_;rintro e w' ⟨v',rfl,rfl,hv⟩;obtain ⟨pa,len,ca,rfl⟩:=hv.slice
 have hl:Hid (len=sz 10000 n):=zh (by
  obtain ⟨a,cap,e, -⟩:=hv.read;simp only [Value.slice.injEq] at e;exact e.2.1)
 have HV:=zh hv
 have IX:∀ b:Bool,Hid ((b&&decide ((0:Int)<(len:Int)))=decide (iM n b<0)):=fun b=>zh (by
  rw [← L8]
  have h2:0<n↔0<len:=by
   rw [hl.out];unfold sz;rw [List.length_pos_iff,Ne,lF zo];omega
  rw [show decide ((0:Int)<(len:Int))=decide (0<n) by rw [gN];simp;omega])
 clear hv;cases b
 ·have HB:=IX false;clear IX;go_wp2_with fail
  refine iT rfl rfl bf Tryz.underlying144 rfl zk ?_;exact ⟨_,rfl,aN,Pl.mk ((HV.out.setOther hx zd 0 _).setOther (hx.set 0 _) zd 1 _) (iJ _ _).symm (by rw [← HB.out];rfl)⟩
 ·have HB:=IX true;clear IX;go_wp2_with fail
  refine iT rfl rfl bf Tryz.underlying144 rfl zk ?_;exact ⟨_,rfl,aN,Pl.mk ((HV.out.setOther hx zd 0 _).setOther (hx.set 0 _) zd 1 _) (iJ _ _).symm (by rw [← HB.out];simp)⟩
theorem Rh (v:Value) (z:Int) (w:World) (h:Pl w v z) :
  Calls Tryz.prog 187 #[v] w fun e w'=>∃ v',e= ah v'∧Below w.heap.size w w'∧Pl w' v' (-z):=by
 obtain ⟨b,pa,l,ca,rfl⟩:=h.agg;obtain ⟨hn,hbz⟩:=h.nm;have h0:Below w.heap.size w ((w.alloc (.cells #[ay b,aj pa l ca] 144)).alloc (.cells #[ay false,aj none 0 0] 144)):=aN;have hx:=aC.nS w (.cells #[ay b,aj pa l ca] 144) #[ay false,aj none 0 0] 144;have ha:=aC.alloc (aC.new w #[ay b,aj pa l ca] 144) (.cells #[ay false,aj none 0 0] 144);have HG:=zh (fun W (hb:Below w.heap.size w W)=>kK (!b) (aj pa l ca) _ W (hn.gs.later hb) (bN zo _));have hs:iM z.natAbs (!b)= -z:=by rw [hbz,LX]
 rw [bH zo,hs] at HG;obtain ⟨W,EW⟩:∃ y,(w.alloc (.cells #[ay b,aj pa l ca] 144)).alloc (.cells #[ay false,aj none 0 0] 144)=y:=⟨_,rfl⟩;rw [EW] at h0 hx ha;have Pb:=ha.cell;have cx:=hx.cell;have fx:=hx.free;clear hn ha h hbz hs;go_enter Tryz.func187,Tryz.ntmps187
 go_wp2_with fail
 clear EW Pb cx fx;refine (HG.out _ h0).mono ?_;rintro e w' ⟨v',rfl,hb,hv⟩;obtain ⟨bNV,aa6,lNV,af2,rfl⟩:=hv.agg;have NV:=zh hv;clear hv;have hy:=hx.later hb;have cy:=hy.cell;have fy:=hy.free;go_wp2_with fail
 refine iT rfl rfl bf Tryz.underlying144 rfl zk ?_;exact ⟨_,rfl,aN,NV.out.set2 hy zd _ _ _ _⟩
theorem yV (n:Int) (w:World) (h1: -9223372036854775808≤n) (h2:n≤9223372036854775807) :
  Calls Tryz.prog 148 #[Z I n] w fun e w'=>∃ v',e= ah v'∧Below w.heap.size w w'∧Pl w' v' n:=by
 obtain ⟨i0,hi,hz0,hz1,hz2⟩:=info_parts yt;have h0:Below w.heap.size w (w.alloc (.cells #[ay false,aj none 0 0] 144)):=aN;have hx:=aC.new w #[ay false,aj none 0 0] 144;have HN:=zh (And.intro h1 h2);clear h1 h2;go_enter Tryz.func148,Tryz.ntmps148
 go_wp2
 go_loopw [0,3,5] (fun nv dv _ wr=>∃ (m:Int) (s:List Nat),nv= Z I m∧Hid (-9223372036854775808≤m∧m≤9223372036854775807∧(m=0∨(m<0↔n<0)))∧s.length≤5∧wr.ownsRow (w.heap.size+1) 3 1 dv s.length (ints s)∧Hid (s++dF 10000 m.natAbs=dF 10000 n.natAbs)∧Below (w.heap.size+1) (w.alloc (.cells #[ay false,aj none 0 0] 144)) wr)
  (fun nv _ _ _=>(intOf nv).natAbs)
 case atStart=>exact ⟨n,[],rfl,zh ⟨HN.out.1,HN.out.2,.inr Iff.rfl⟩,by simp,World.ownsRow_nil _ _ _ _,zh rfl,Below.refl _ _⟩
 case round =>
  obtain ⟨m,s,rfl,HM,hs5,hown,HD,hb⟩:=hrel
  by_cases hm0:m=0
  ·subst hm0
   have hdg:fD 10000 s:=by
    have:=HD.out;rw [Int.natAbs_zero,gG,List.append_nil] at this;rw [this];exact bN zo _
   have hs:val 10000 s=n.natAbs:=by
    have:=HD.out;rw [Int.natAbs_zero,gG,List.append_nil] at this;rw [this,bH zo]
   have h1:Below w.heap.size w wr:=⟨hb.os,hb.tape,hb.output,aB zi hb.size,fun i hi=>(hb.block i zo).trans (h0.block i hi)⟩;have hxr:=hx.later (w':=wr) ⟨hb.os,hb.tape,hb.output,by have:=hb.size;simpa using this,fun i hi=>hb.block i (by simpa using hi)⟩;have cx:=hxr.cell;have fx:=hxr.free;have HG:=zh (kK (decide (n<0)) u3 s wr (Gs.iA hown) hdg);rw [hs,L6] at HG;obtain ⟨pa,ca,rfl, -⟩:=(Gs.iA hown).read;generalize decide (n<0)=b0 at *;clear hs hdg hown HD HM HN hx h0 hb;go_wp2_with fail
   refine HG.out.mono ?_;rintro e w' ⟨v',rfl,hb,hv⟩;obtain ⟨bNV,aa6,lNV,af2,rfl⟩:=hv.agg;have NV:=zh hv;clear hv;have hy:=hxr.later hb;clear cx fx;have cy:=hy.cell;have fy:=hy.free;go_wp2_with fail
   refine iT rfl rfl bf Tryz.underlying144 rfl zk ?_;exact ⟨_,rfl,aN,NV.out.set2 hy zd _ _ _ _⟩
  ·have hne:(m == 0)=false:=by simp [hm0]
   have hne':(m != 0)=true:=by simp [hm0]
   have hnp:0<m.natAbs:=by omega
   have hdv:m.natAbs / 10000<m.natAbs:=Nat.div_lt_self hnp zo
   have Vu:Hid ((s++[m.natAbs%10000])++dF 10000 (m.natAbs / 10000)=dF 10000 n.natAbs):=by
    unfold Hid;rw [← HD.out,jS zo hnp,iF];rfl
   have hl5:s.length+1≤5:=by
    have k1:=congrArg List.length Vu.out;have k2:=bY (B:=10000) zo 5 n.natAbs (by have:=HN.out;omega);unfold sz at k2;simp only [List.length_append,aZ,List.length_nil] at k1;omega
   have G7:=zh (And.intro hnp hdv);clear hnp hdv
   have hpart:(∃ j:Nat,m= -(j:Int)∧(j:Int)%10000=0)∨(∃ j:Nat,m= -(j:Int)∧0<(j:Int)%10000)∨∃ j:Nat,m=(j:Int)∧¬ (j:Int)%10000<0:=by
    rcases Int.lt_or_gt_of_ne hm0 with hlt|hgt
    ·by_cases hj:m.natAbs%10000=0
     ·exact .inl ⟨m.natAbs,by omega,by omega⟩
     ·exact .inr (.inl ⟨m.natAbs,by omega,by omega⟩)
    ·exact .inr (.inr ⟨m.natAbs,by omega,by omega⟩)
   rcases hpart with ⟨j,rfl,hjm⟩|⟨j,rfl,hjm⟩|⟨j,rfl,hjm⟩
   ·have hM:=HM.out;obtain ⟨k1,k2,k3⟩:=hM;have ej:((-(j:Int))).natAbs=j:=by omega
    rw [ej] at Vu G7
    have ec:Hid (ints s++[Z I 0]=ints (s++[j%10000])):=zh (by
     unfold ints;simp only [List.map_append,bJ,jK];rw [show ((j%10000:Nat):Int)=0 by omega])
    have HK:=zh k3;clear HD k3;go_wp2_with (at_builtin;refine wpList_append_own _ rfl (.tmp 16) (.tmp 18) 142 rfl (w.heap.size+1) 3 i0 (Z I 0) 1 8 Tryz.underlying142 hi hz0 hz1 hz2 rfl zd _ _ _ rfl (hown.alloc _) ⟨wr.heap.size,0,none⟩ 1 1 [Z I 0] rfl rfl (by intro t u ht;match t,ht with|0,ht=>simp at ht;subst ht;simp [Addr.add]) (by intro u hu;simp at hu;subst hu;rfl) (by unfold maxLen;omega) zo (by have:=hb.size;simp at*; omega) ?_)
    intro v' w1 hown1 hgrow1 _;rw [ec.out] at hown1;have hb3:Below (w.heap.size+1) (w.alloc (.cells #[ay false,aj none 0 0] 144)) w1:=(hb.alloc (by have:=hb.size;simpa using this) _).grown hgrow1 (by simp;have:=hb.size;simp at*; omega) (fun k hk=>(hown.lt k hk).1);clear hown hgrow1
    go_wp2
    go_roundw
    case rel=>exact ⟨(-((j:Int) / 10000)),s++[j%10000],rfl,zh (by have:=HK.out;omega),by rw [List.length_append];exact hl5,by rw [List.length_append];exact hown1,zh (by rw [show ((-((j:Int) / 10000))).natAbs=j / 10000 by omega];exact Vu.out),hb3⟩
    case measure=>exact zM
   ·have hM:=HM.out;obtain ⟨k1,k2,k3⟩:=hM;have ej:((-(j:Int))).natAbs=j:=by omega
    rw [ej] at Vu G7
    have ec:Hid (ints s++[Z I ((j:Int)%10000)]=ints (s++[j%10000])):=zh (by
     unfold ints;simp only [List.map_append,bJ,jK];rw [show ((j%10000:Nat):Int)=((j:Int)%10000) by omega])
    have HK:=zh k3;clear HD k3;go_wp2_with (at_builtin;refine wpList_append_own _ rfl (.tmp 16) (.tmp 18) 142 rfl (w.heap.size+1) 3 i0 (Z I 0) 1 8 Tryz.underlying142 hi hz0 hz1 hz2 rfl zd _ _ _ rfl (hown.alloc _) ⟨wr.heap.size,0,none⟩ 1 1 [Z I ((j:Int)%10000)] rfl rfl (by intro t u ht;match t,ht with|0,ht=>simp at ht;subst ht;simp [Addr.add]) (by intro u hu;simp at hu;subst hu;rfl) (by unfold maxLen;omega) zo (by have:=hb.size;simp at*; omega) ?_)
    intro v' w1 hown1 hgrow1 _;rw [ec.out] at hown1;have hb3:Below (w.heap.size+1) (w.alloc (.cells #[ay false,aj none 0 0] 144)) w1:=(hb.alloc (by have:=hb.size;simpa using this) _).grown hgrow1 (by simp;have:=hb.size;simp at*; omega) (fun k hk=>(hown.lt k hk).1);clear hown hgrow1
    go_wp2
    go_roundw
    case rel=>exact ⟨(-((j:Int) / 10000)),s++[j%10000],rfl,zh (by have:=HK.out;omega),by rw [List.length_append];exact hl5,by rw [List.length_append];exact hown1,zh (by rw [show ((-((j:Int) / 10000))).natAbs=j / 10000 by omega];exact Vu.out),hb3⟩
    case measure=>exact zM
   ·have hM:=HM.out;obtain ⟨k1,k2,k3⟩:=hM;have ej:((j:Int)).natAbs=j:=by omega
    rw [ej] at Vu G7
    have ec:Hid (ints s++[Z I ((j:Int)%10000)]=ints (s++[j%10000])):=zh (by
     unfold ints;simp only [List.map_append,bJ,jK];rw [show ((j%10000:Nat):Int)=((j:Int)%10000) by omega])
    have HK:=zh k3;clear HD k3;go_wp2_with (at_builtin;refine wpList_append_own _ rfl (.tmp 16) (.tmp 18) 142 rfl (w.heap.size+1) 3 i0 (Z I 0) 1 8 Tryz.underlying142 hi hz0 hz1 hz2 rfl zd _ _ _ rfl (hown.alloc _) ⟨wr.heap.size,0,none⟩ 1 1 [Z I ((j:Int)%10000)] rfl rfl (by intro t u ht;match t,ht with|0,ht=>simp at ht;subst ht;simp [Addr.add]) (by intro u hu;simp at hu;subst hu;rfl) (by unfold maxLen;omega) zo (by have:=hb.size;simp at*; omega) ?_)
    intro v' w1 hown1 hgrow1 _;rw [ec.out] at hown1;have hb3:Below (w.heap.size+1) (w.alloc (.cells #[ay false,aj none 0 0] 144)) w1:=(hb.alloc (by have:=hb.size;simpa using this) _).grown hgrow1 (by simp;have:=hb.size;simp at*; omega) (fun k hk=>(hown.lt k hk).1);clear hown hgrow1
    go_wp2
    go_roundw
    case rel=>exact ⟨((j:Int) / 10000),s++[j%10000],rfl,zh (by have:=HK.out;omega),by rw [List.length_append];exact hl5,by rw [List.length_append];exact hown1,zh (by rw [show (((j:Int) / 10000)).natAbs=j / 10000 by omega];exact Vu.out),hb3⟩
    case measure=>exact zM
def Ord (r:Int) (a b:Nat):Prop:=(r≤0↔a≤b)∧(0≤r↔b≤a)
def Jd (w:World) (a b:Nat) (e:Ending) (w':World):Prop:=∃ r:Int,e= ah (Z I r)∧Below w.heap.size w w'∧Ord r a b
theorem Ord.lt {r:Int} {a b:Nat} (h:a<b) (hr:r<0):Ord r a b:=⟨⟨fun _=>by omega,fun _=>by omega⟩,⟨fun _=>by omega,fun _=>by omega⟩⟩
theorem Ord.gt {r:Int} {a b:Nat} (h:b<a) (hr:0<r):Ord r a b:=⟨⟨fun _=>by omega,fun _=>by omega⟩,⟨fun _=>by omega,fun _=>by omega⟩⟩
theorem Ord.eq (a:Nat):Ord 0 a a:=⟨⟨fun _=>by omega,fun _=>by omega⟩,⟨fun _=>by omega,fun _=>by omega⟩⟩
theorem JO (a b:Option Addr) (m n c d:Nat) (w:World) (h:m≠n) (hm:m≤9223372036854775807) (hn:n≤9223372036854775807) :
  Calls Tryz.prog 279 #[aj a m c,aj b n d] w fun e w'=>e= ah (Z I ((m:Int) - (n:Int)))∧w=w':=by
 have h1:((m:Int) == (n:Int))=false:=by simp;omega
 have h2:((m:Int) != (n:Int))=true:=by simp;omega
 go_enter Tryz.func279,Tryz.ntmps279
 go_wp2
 go_ret
 exact ⟨rfl,rfl⟩
theorem FY (pa pb:Option Addr) (ca cb:Nat) (l m:List Nat) (w:World) (hlen:l.length=m.length) (hm:l.length≤9223372036854775807) (hl:fD 10000 l) (hmd:fD 10000 m)
   (hc:∀ k,k<l.length→∃ b off,pa=some ⟨b,off,none⟩∧b<w.heap.size∧w.cell? ⟨b,off+k,none⟩=some (.int .i64 (l.getD k 0:Nat)))
   (hd:∀ k,k<m.length→∃ b off,pb=some ⟨b,off,none⟩∧b<w.heap.size∧w.cell? ⟨b,off+k,none⟩=some (.int .i64 (m.getD k 0:Nat))) :
    Calls Tryz.prog 279 #[aj pa l.length ca,aj pb m.length cb] w (Jd w (val 10000 l) (val 10000 m)):=by
  have HL:=zh hlen;clear hlen;rw [← HL.out];have h1:((l.length:Int) == (l.length:Int))=true:=by simp
  have h2:((l.length:Int) != (l.length:Int))=false:=by simp
  go_enter Tryz.func279,Tryz.ntmps279
  go_wp2
  clear h1 h2
  go_loopw [5] (fun i wr=>∃ q:Int, -1≤q∧q<l.length∧i= Z I q∧l.drop (q+1).toNat=m.drop (q+1).toNat∧Below w.heap.size w wr) (fun i _=>(intOf i+1).toNat)
  case atStart=>exact ⟨(l.length:Int) - 1,by omega,by omega,rfl,by rw [show ((l.length:Int) - 1+1).toNat=l.length by omega,List.drop_length];rw [HL.out,List.drop_length],Below.refl _ _⟩
  case round =>
    obtain ⟨q,hq1,hq2,rfl,hdr,hb⟩:=hrel;have HD:=zh hdr;clear hdr
    by_cases hq:q<0
    · have hq0:q= -1:=by omega
      subst hq0
      go_wp2
      go_ret
      have e:l=m:=by have:=HD.out;simpa using this
      rw [e];exact ⟨0,rfl,hb,Ord.eq _⟩
    · obtain ⟨j,rfl⟩:=Int.eq_ofNat_of_zero_le (by omega:0≤q)
      have hjl:j<l.length:=by omega
      have hjm:j<m.length:=by rw [← HL.out];exact hjl
      obtain ⟨ba,oa,rfl,hba,hx0⟩:=hc j hjl;obtain ⟨bb,ob,rfl,hbb,hy0⟩:=hd j hjm;have hx:wr.cell? ⟨ba,oa+j,none⟩=some (.int .i64 (l.getD j 0:Nat)):=(hb.cell (by exact hba)).trans hx0;have hy:wr.cell? ⟨bb,ob+j,none⟩=some (.int .i64 (m.getD j 0:Nat)):=(hb.cell (by exact hbb)).trans hy0;clear hx0 hy0;have HD2:Hid (l.drop (j+1)=m.drop (j+1)):=by have:=HD.out;rwa [show ((j:Int)+1).toNat=j+1 by omega] at this
      have hlt:Hid (l.getD j 0<m.getD j 0→val 10000 l<val 10000 m):=qL zo hl hjl hjm HD2.out;have hgt:Hid (m.getD j 0<l.getD j 0→val 10000 m<val 10000 l):=qL zo hmd hjm hjl HD2.out.symm;have heq:Hid (l.getD j 0=m.getD j 0→l.drop j=m.drop j):=fun e=>by rw [iW hjl,iW hjm,HD2.out,e]
      have hdx:=hl.getD zo j;have hdy:=hmd.getD zo j;generalize l.getD j 0=x at *;generalize m.getD j 0=y at *;clear HD HD2 hc hd
      by_cases hxy:x=y
      · subst hxy
        have h1:((x:Int) == (x:Int))=true:=by simp
        have h2:((x:Int) != (x:Int))=false:=by simp
        go_wp2
        go_quiet (fail)
        go_wp2
        go_roundw
        case rel=>exact ⟨(j:Int) - 1,by omega,by omega,rfl,by rw [show ((j:Int) - 1+1).toNat=j by omega];exact heq.out trivial,below_drewN hb _⟩
        case measure=>simp [intOf]
      · have h1:((x:Int) == (y:Int))=false:=by simp;omega
        have h2:((x:Int) != (y:Int))=true:=by simp;omega
        go_wp2
        go_quiet (fail)
        have HXY:=zh hxy;have V5:x<10000:=by have:=hdx;omega
        have hy9:y<10000:=by have:=hdy;omega
        clear hxy
        go_wp2
        go_quiet (fail)
        go_wp2
        go_ret
        refine ⟨(x:Int) - (y:Int),rfl,below_drewN (below_drewN hb _) _,?_⟩;have:=HXY.out
        rcases Nat.lt_or_gt_of_ne HXY.out with h|h
        · exact Ord.lt (hlt.out h) zo
        · exact Ord.gt (hgt.out h) zo
theorem xS (x y:Value) (a b:Nat) (w:World) (hx:Nm w x a) (hy:Nm w y b) :
  Calls Tryz.prog 279 #[x,y] w (Jd w a b):=by
 by_cases hs:sz 10000 a=sz 10000 b
 ·obtain ⟨pa,ca,rfl,h1,h2,h3⟩:=Gs.read hx.gs;obtain ⟨pb,cb,rfl,k1,k2,k3⟩:=Gs.read hy.gs;have:=FY pa pb ca cb _ _ w hs zo (bN zo a) (bN zo b) h3 k3
  rwa [bH zo,bH zo] at this
 ·obtain ⟨pa,ca,rfl,h1,h2, -⟩:=hx.read;obtain ⟨pb,cb,rfl,k1,k2, -⟩:=hy.read;refine (JO pa pb _ _ ca cb w hs zo zo).mono ?_;rintro e w' ⟨rfl,rfl⟩;refine ⟨_,rfl,Below.refl _ _,?_⟩
  rcases Nat.lt_or_gt_of_ne hs with h|h
  ·exact Ord.lt (qw zo h) zo
  ·exact Ord.gt (qw zo h) zo
theorem JQ (pl:Option Addr) (cl:Nat) (l:List Nat) (d:Nat) (w:World) (hl:fD 10000 l) (hb1:l.length≤1099511627776) (hd0:0<d) (hd1:d≤10000)
   (hc:∀ k,k<l.length→∃ b off,pl=some ⟨b,off,none⟩∧b<w.heap.size∧w.cell? ⟨b,off+k,none⟩=some (.int .i64 (l.getD k 0:Nat))) :
    Calls Tryz.prog 278 #[aj pl l.length cl,Z I d] w fun e w'=>∃ v,e= ah (aD #[v,Z I (val 10000 l%d:Nat)])∧Below w.heap.size w w'∧Nm w' v (val 10000 l / d):=by
  obtain ⟨i0,hi,hz0,hz1,hz2⟩:=info_parts yt;go_enter Tryz.func278,Tryz.ntmps278
  go_wp2_with (at_make;refine wpList_make_full _ rfl _ _ 142 rfl w.heap.size 3 i0 (Z I 0) 1 Tryz.underlying142 hi hz0 hz1 _ _ _ _ l.length rfl rfl zo zo (by rw [hz2];omega) (by unfold maxLen;omega) (aI _) ?_)
  intro w0 hown0 jH;rw [uU] at hown0
  go_wp2
  go_loopw [7,8] (fun rv iv wr=>∃ (q:Int) (r:Nat) (s:List Nat), -1≤q∧q<l.length∧r<d∧iv= Z I q∧rv= Z I r∧Hid (s.length=l.length - (q+1).toNat) ∧
      wr.ownsRow w.heap.size 3 1 (aj (some ⟨w.heap.size,0,none⟩) l.length l.length) l.length (ints (bD (q+1).toNat 0++s))∧fD 10000 s∧Hid (val 10000 (l.drop (q+1).toNat)=d*val 10000 s+r)∧Below w.heap.size w wr)
    (fun _ iv _=>(intOf iv+1).toNat)
  case atStart =>
    have e:((l.length:Int) - 1+1).toNat=l.length:=by omega
    exact ⟨(l.length:Int) - 1,0,[],by omega,by omega,hd0,rfl,rfl,zh (by rw [e];simp),by rw [e,List.append_nil];exact hown0,fD.nil,zh (by rw [e,List.drop_length];simp [val]),(Below.refl _ _).grown jH (aI _) (fun k h=>by cases h)⟩
  case round =>
    obtain ⟨q,r,s,hq1,hq2,hrd,rfl,rfl,HS,hown,hds,HV,hb⟩:=hrel
    by_cases hq:q<0
    · have hq0:q= -1:=by omega
      subst hq0;have HF:Hid (val 10000 l=d*val 10000 s+r):=zh (by have:=HV.out;simpa using this);have hown3:Gs wr (aj (some ⟨w.heap.size,0,none⟩) l.length l.length) s:=by have:=Gs.iA hown;simpa using this
      have e1:Hid (val 10000 l / d=val 10000 s):=by unfold Hid;rw [HF.out,Nat.mul_add_div hd0,dS hrd,eO]
      have e2:Hid (val 10000 l%d=r):=by unfold Hid;rw [HF.out,Nat.mul_add_mod,eZ hrd]
      clear hown HV HF HS hc;go_wp2_with (go_at_call 242;refine (pF _ _ _ hown3 hds).mono ?_;rintro e w' ⟨v,rfl,rfl,hv⟩)
      go_ret2
      exact ⟨v,by rw [e2.out];rfl,hb,by rw [e1.out];exact hv⟩
    · obtain ⟨j,rfl⟩:=Int.eq_ofNat_of_zero_le (by omega:0≤q)
      have ej:((j:Int)+1).toNat=j+1:=by omega
      have hjl:j<l.length:=by omega
      rw [ej] at HS HV hown;obtain ⟨b,off,rfl,hbb,hx0⟩:=hc j hjl;have hx:wr.cell? ⟨b,off+j,none⟩=some (.int .i64 (l.getD j 0:Nat)):=(hb.cell (by exact hbb)).trans hx0;have hdl:l.getD j 0<10000:=hl.getD zo j;have hlen:(bD (j+1) 0++s).length=l.length:=by rw [List.length_append,List.length_replicate,HS.out];omega
      have hr1:wr.cell? ⟨w.heap.size,j,none⟩=some (.int .i64 0):=by
        rw [hown.cellAt j zo,qx (by rw [hlen];exact hjl),qO zo];rfl
      have hr2:wr.frozen? ⟨w.heap.size,j,none⟩=false:=hown.frozenAt j;have HP:=zh (xD hjl HV.out);have hdg:=vE hrd hdl;have hmd:=dV (r*10000+l.getD j 0) hd0
      have HO:Hid (∀ d:Nat,(wr.setCell ⟨w.heap.size,j,none⟩ (Z I (d:Int))).ownsRow w.heap.size 3 1 (aj (some ⟨w.heap.size,0,none⟩) l.length l.length) l.length (ints (bD j 0++d::s))∧Below w.heap.size w (wr.setCell ⟨w.heap.size,j,none⟩ (Z I (d:Int)))):=fun d=>by
        have h1:=(hown.stored j (Z I (d:Int))).1;rw [ints_set,sP] at h1;exact ⟨h1,hb.setCell (aI _) _⟩
      clear hx0 hc hown hlen;generalize l.getD j 0=x at *;have hqi:(((r*10000+x) / d:Nat):Int)=((r:Int)*10000+(x:Int)) / (d:Int):=by rw [Int.natCast_ediv,Int.natCast_add,Int.natCast_mul];rfl
      have Nt:(((r*10000+x)%d:Nat):Int)=((r:Int)*10000+(x:Int))%(d:Int):=by rw [Int.natCast_emod,Int.natCast_add,Int.natCast_mul];rfl
      generalize (r*10000+x) / d=Q at *;generalize (r*10000+x)%d=M at *;have g1:0≤((r:Int)*10000+(x:Int)) / (d:Int):=by rw [← hqi];omega
      have g2:((r:Int)*10000+(x:Int)) / (d:Int)≤9999:=by rw [← hqi];omega
      have g3:0≤((r:Int)*10000+(x:Int))%(d:Int):=by rw [← Nt];omega
      have g4:((r:Int)*10000+(x:Int))%(d:Int)≤9999:=by rw [← Nt];omega
      have nu:=HO.out Q;rw [hqi] at nu;have nD:=zh nu;have HM:=zh Nt;have HG:=zh hdg;have SE:=zh hmd;clear nu HO hqi Nt hdg hmd
      go_wp2
      go_roundw
      case rel=>exact ⟨(j:Int) - 1,M,Q::s,by omega,by omega,SE.out,rfl,by rw [HM.out],zh (by rw [aZ,HS.out];omega),by rw [show ((j:Int) - 1+1).toNat=j by omega];exact nD.out.1,hds.cons HG.out,zh (by rw [show ((j:Int) - 1+1).toNat=j by omega];exact HP.out),nD.out.2⟩
      case measure=>simp [intOf]
theorem Qc (x:Value) (a d:Nat) (w:World) (hx:Nm w x a) (ha:sz 10000 a≤1099511627776) (hd0:0<d) (hd1:d≤10000) :
  Calls Tryz.prog 278 #[x,Z I d] w fun e w'=>∃ v,e= ah (aD #[v,Z I (a%d:Nat)])∧Below w.heap.size w w'∧Nm w' v (a / d):=by
 obtain ⟨pa,ca,rfl,h1,h2,h3⟩:=Gs.read hx.gs;have:=JQ pa ca _ d w (bN zo a) ha hd0 hd1 h3
 rwa [bH zo] at this
def Vi (m:List Nat):Prop:=fD 10000 m∨(m.length=1∧∀ d∈m,d≤10000)
theorem Vi.le {m:List Nat} (h:Vi m) {j:Nat} (hj:j<m.length):m.getD j 0≤10000:=by
 have e:m.getD j 0=m[j]:=by simp [hj]
 rw [e]
 rcases h with h|h
 ·exact jL (h _ (eX hj))
 ·exact h.2 _ (eX hj)
theorem Vi.carry {m:List Nat} (h:Vi m) {j c z x:Nat} (hj:j<m.length) (hc:c<10000) (hc0:j=0→c=0) (hz:z<10000) (hx:x<10000):(c+(z+x*m.getD j 0)) / 10000<10000:=by
 rcases h with h|h
 ·exact vD hc hz hx (h.getD zo j)
 ·have h1:m.getD j 0≤10000:=Vi.le (.inr h) hj;have h2:c=0:=hc0 zo;subst h2;have h3:x*m.getD j 0≤9999*10000:=dJ zo h1;generalize x*m.getD j 0=p at *;omega
theorem Mk {x y:Nat} (hx:x<10000) (hy:y≤10000):(0:Int)≤(x:Int)*(y:Int)∧(x:Int)*(y:Int)≤99990000:=by
 have h:x*y≤9999*10000:=dJ zo zo;rw [← Int.natCast_mul];omega
theorem A8 (pl ps:Option Addr) (cl cs:Nat) (l m:List Nat) (w:World) (hl:fD 10000 l) (hmd:Vi m) (hb1:l.length≤1099511627776) (hb2:m.length≤1099511627776)
   (hc:∀ k,k<l.length→∃ b off,pl=some ⟨b,off,none⟩∧b<w.heap.size∧w.cell? ⟨b,off+k,none⟩=some (.int .i64 (l.getD k 0:Nat)))
   (hd:∀ k,k<m.length→∃ b off,ps=some ⟨b,off,none⟩∧b<w.heap.size∧w.cell? ⟨b,off+k,none⟩=some (.int .i64 (m.getD k 0:Nat))) :
    Calls Tryz.prog 280 #[aj pl l.length cl,aj ps m.length cs] w fun e w'=>∃ v,e= ah v∧Below w.heap.size w w'∧Nm w' v (val 10000 l*val 10000 m):=by
  obtain ⟨i0,hi,hz0,hz1,hz2⟩:=info_parts yt;go_enter Tryz.func280,Tryz.ntmps280
  go_wp2_with (at_make;refine wpList_make_full _ rfl _ _ 142 rfl w.heap.size 3 i0 (Z I 0) 1 Tryz.underlying142 hi hz0 hz1 _ _ _ _ (l.length+m.length) rfl rfl zo zo (by rw [hz2];omega) (by unfold maxLen;omega) (aI _) ?_)
  intro w0 hown0 jH;rw [uU] at hown0
  go_wp2
  go_loopw [6,7,8] (fun iv _ _ wr=>∃ (i:Nat) (p:List Nat),i≤l.length∧iv= Z I i∧Hid (p.length=l.length+m.length)∧(∀ t,i+m.length≤t→p.getD t 0=0) ∧
      wr.ownsRow w.heap.size 3 1 (aj (some ⟨w.heap.size,0,none⟩) (l.length+m.length) (l.length+m.length)) (l.length+m.length) (ints p)∧fD 10000 p∧Hid (val 10000 p=val 10000 (l.take i)*val 10000 m)∧Below w.heap.size w wr)
    (fun iv _ _ _=>l.length - (intOf iv).toNat)
  case atStart=>exact ⟨0,bD (l.length+m.length) 0,Nat.zero_le _,rfl,zh zi,fun t _=>by simp [List.getD,List.getElem?_replicate];split<;>rfl,hown0,fun x hx=>by rw [List.eq_of_mem_replicate hx];omega,zh (by rw [qK];simp [val]),(Below.refl _ _).grown jH (aI _) (fun k h=>by cases h)⟩
  case round =>
    obtain ⟨i,p,hil,rfl,HL,hz,hown,hdp,HV,hb⟩:=hrel;have HZ:=zh hz;clear hz
    by_cases hlt:i<l.length
    · obtain ⟨b,off,rfl,hbb,hx0⟩:=hc i hlt
      have hx:wr.cell? ⟨b,off+i,none⟩=some (.int .i64 (l.getD i 0:Nat)):=(hb.cell (by exact hbb)).trans hx0;have hdl:l.getD i 0<10000:=hl.getD zo i;have HX0:=zh hx0;clear hx0 hc;have HD:Hid (l.getD i 0=l.getD i 0):=rfl
      revert HD
      generalize V5:l.getD i 0=x at hx hdl HX0;have HX:=zh V5;clear V5;intro _;obtain ⟨wo,rfl⟩:∃ wo:World,wo=wr:=⟨_,rfl⟩
      go_wp2
      go_loopw [7,8] (fun cv jv wq=>∃ (j c:Nat) (q:List Nat),j≤m.length∧c<10000∧Hid (j=0→c=0)∧jv= Z I j∧cv= Z I c∧Hid (q.length=l.length+m.length)∧Hid (∀ t,i+m.length≤t→q.getD t 0=0) ∧
          wq.ownsRow w.heap.size 3 1 (aj (some ⟨w.heap.size,0,none⟩) (l.length+m.length) (l.length+m.length)) (l.length+m.length) (ints q)∧fD 10000 q∧Hid (val 10000 q+c*10000^(i+j)=val 10000 (l.take i)*val 10000 m+10000^i*(x*val 10000 (m.take j)))∧Below w.heap.size w wq)
        (fun _ jv _=>m.length - (intOf jv).toNat)
      case atStart=>exact ⟨0,0,p,Nat.zero_le _,by omega,zh (fun _=>rfl),rfl,rfl,HL,HZ,hown,hdp,zh (by rw [HV.out];simp [val]),hb⟩
      case round =>
        obtain ⟨j,c,q,hjl,hcb,HC0,rfl,rfl,KT,KJ,hown,BX,Ry,hb⟩:=hrel
        by_cases hjlt:j<m.length
        · obtain ⟨b2,off2,rfl,Bp,hy0⟩:=hd j hjlt
          have hy:wr.cell? ⟨b2,off2+j,none⟩=some (.int .i64 (m.getD j 0:Nat)):=(hb.cell (by exact Bp)).trans hy0;have hxi:wr.cell? ⟨b,off+i,none⟩=some (.int .i64 (x:Int)):=(hb.cell (by exact hbb)).trans HX0.out;have Lc:m.getD j 0≤10000:=hmd.le hjlt;have hij:i+j<q.length:=by have:=KT.out;omega
          obtain ⟨t,ht⟩:∃ t,i+j=t:=⟨_,rfl⟩;have ej:(i:Int)+(j:Int)=(t:Int):=by omega
          have ht3:(t:Int)<(l.length:Int)+(m.length:Int):=by omega
          have ht4:t<l.length+m.length:=by omega
          have hwt:I.wrap (t:Int)=(t:Int):=by rw [IntKind.wrap_i64];omega
          have hq1:wr.cell? ⟨w.heap.size,t,none⟩=some (.int .i64 (q.getD (i+j) 0:Nat)):=by rw [← ht,hown.cellAt (i+j) zo,qx hij]
          have hq2:wr.frozen? ⟨w.heap.size,t,none⟩=false:=hown.frozenAt t;have TY:q.getD (i+j) 0<10000:=BX.getD zo (i+j);have HS:=zh (xu hjlt hij Ry.out);have HC:=zh (hmd.carry hjlt hcb HC0.out TY hdl)
          have HO:Hid (∀ d:Nat,d<10000→(wr.setCell ⟨w.heap.size,t,none⟩ (Z I (d:Int))).ownsRow w.heap.size 3 1 (aj (some ⟨w.heap.size,0,none⟩) (l.length+m.length) (l.length+m.length)) (l.length+m.length) (ints (q.set (i+j) d)) ∧
              Below w.heap.size w (wr.setCell ⟨w.heap.size,t,none⟩ (Z I (d:Int)))∧fD 10000 (q.set (i+j) d)∧(q.set (i+j) d).length=l.length+m.length∧(∀ t,i+m.length≤t→(q.set (i+j) d).getD t 0=0)):=fun d hd=>by
            have h1:=(hown.stored t (Z I (d:Int))).1;rw [ints_set] at h1;rw [ht];exact ⟨h1,hb.setCell (aI _) _,BX.set _ hd,by rw [List.length_set];exact KT.out,fun s hs=>by rw [wK zo];exact KJ.out s hs⟩
          clear hy0 hd hown Ry BX KT KJ hij ht;generalize m.getD j 0=y at *;generalize q.getD (i+j) 0=z at *;obtain ⟨hp1,hp2⟩:=Mk hdl Lc;have hr:((((c+(z+x*y))%10000:Nat)):Int)=((c:Int)+(z:Int)+(x:Int)*(y:Int))%10000:=by rw [Int.natCast_emod,Int.natCast_add,Int.natCast_add,Int.natCast_mul,Int.add_assoc];rfl
          have hq:((((c+(z+x*y)) / 10000:Nat)):Int)=((c:Int)+(z:Int)+(x:Int)*(y:Int)) / 10000:=by rw [Int.natCast_ediv,Int.natCast_add,Int.natCast_add,Int.natCast_mul,Int.add_assoc];rfl
          have nu:=HO.out _ (dV (c+(z+x*y)) zo);rw [hr] at nu;have nD:=zh nu;have HR:=zh hq;clear HO nu hr hq;have aq6:I.wrap ((i:Int)+(j:Int))=(i:Int)+(j:Int):=by rw [IntKind.wrap_i64];omega
          have ar1:(i:Int)+(j:Int)<((l.length+m.length:Nat):Int):=by omega
          go_wp2
          go_quiet (fail)
          go_wp2
          go_roundw
          case rel=>exact ⟨j+1,(c+(z+x*y)) / 10000,q.set (i+j) ((c+(z+x*y))%10000),by omega,HC.out,zh (fun h=>absurd h zo),by go_num,by rw [HR.out],zh nD.out.2.2.2.1,zh nD.out.2.2.2.2,nD.out.1,nD.out.2.2.1,zh (by rw [← jr i j 1];exact HS.out),⟨nD.out.2.1.os,nD.out.2.1.tape,nD.out.2.1.output,nD.out.2.1.size,nD.out.2.1.block⟩⟩
          case measure=>exact zM
        · have hjm:j=m.length:=by omega
          subst hjm;have hij:i+m.length<q.length:=by have:=KT.out;omega
          have hq1:wr.cell? ⟨w.heap.size,i+m.length,none⟩=some (.int .i64 0):=by rw [hown.cellAt (i+m.length) zo,qx hij,KJ.out _ (aI _)];rfl
          have hq2:wr.frozen? ⟨w.heap.size,i+m.length,none⟩=false:=hown.frozenAt (i+m.length)
          have HF:Hid (val 10000 (q.set (i+m.length) c)=val 10000 (l.take (i+1))*val 10000 m) :=
            vC hlt hij (KJ.out _ (aI _)) (by have:=Ry.out;rw [dR] at this;rw [HX.out];exact this)
          have HO:Hid ((wr.setCell ⟨w.heap.size,i+m.length,none⟩ (Z I (c:Int))).ownsRow w.heap.size 3 1 (aj (some ⟨w.heap.size,0,none⟩) (l.length+m.length) (l.length+m.length)) (l.length+m.length) (ints (q.set (i+m.length) c)) ∧
              Below w.heap.size w (wr.setCell ⟨w.heap.size,i+m.length,none⟩ (Z I (c:Int)))∧fD 10000 (q.set (i+m.length) c)∧(q.set (i+m.length) c).length=l.length+m.length∧(∀ t,i+1+m.length≤t→(q.set (i+m.length) c).getD t 0=0)):=by
            have h1:=(hown.stored (i+m.length) (Z I (c:Int))).1;rw [ints_set] at h1;exact ⟨h1,hb.setCell (aI _) _,BX.set _ hcb,by rw [List.length_set];exact KT.out,fun t ht=>by rw [wK zo];exact KJ.out t zo⟩
          clear hown Ry BX KT KJ hij hd
          go_wp2
          go_roundw
          case rel=>exact ⟨i+1,q.set (i+m.length) c,by omega,by go_num,zh HO.out.2.2.2.1,HO.out.2.2.2.2,HO.out.1,HO.out.2.2.1,HF,HO.out.2.1⟩
          case measure=>exact zM
    · have TV:i=l.length:=by omega
      subst TV;clear hc hd;have HF:Hid (val 10000 p=val 10000 l*val 10000 m):=by have:=HV.out;rwa [dR] at this
      have hown3:Gs wr (aj (some ⟨w.heap.size,0,none⟩) (l.length+m.length) (l.length+m.length)) p:=Gs.iA hown;clear hown HV;go_wp2_with (go_at_call 242;refine (pF _ _ _ hown3 hdp).mono ?_;rintro e w' ⟨v,rfl,rfl,hv⟩)
      go_ret
      exact ⟨v,rfl,hb,by rw [← HF.out];exact hv⟩
end Go.Proofs.aV
