/- Lemmas for the proof. No condition. -/
import Derived.Test.YtneajphgfdlmhaaGreatDoorQB06
import Derived.Deep.QuietTactic
import Derived.BigQuiet
import Derived.WalkSmall
import Derived.Deep.AppendSrc
import Derived.Deep.DeepAppendWide
set_option linter.unusedVariables false
set_option linter.unusedSimpArgs false
set_option maxRecDepth 100000
set_option maxHeartbeats 16000000
open Bool renaming eq_iff_iff → iN
open Go.Ending renaming returned → aj
open Go.IntKind renaming i64 → I
open Go.Value renaming bool → ak, int → Z, slice → ah, tuple → aG
open List renaming append_assoc → ji, getElem_mem → dY, length_cons → bg, map_cons → bL, map_nil → gY, replicate → bM, take_length → fG, take_of_length_le → dG
open Nat renaming add_assoc → jT, add_zero → fJ, div_eq_of_lt → fI, eq_zero_or_pos → aV, le_of_lt → bJ, le_of_not_lt → dL, le_refl → aD, le_trans → ay, mod_eq_of_lt → gq, mod_lt → fC, mul_add → aX, mul_comm → aL, mul_le_mul → dP, mul_left_comm → dN, pow_succ → bN, zero_add → dK
namespace Go.Proofs.aC
open Go Go.RowKit Go.SW Go.Num Go.Mem Go.Proofs
theorem xX:(Tryz.prog.info? 3).map (fun i=>(i.zero,i.size,i.bytes))=some (some (.int .i64 0),1,8):=by kernel_rfl
theorem J3 (b off c:Nat) (l:List Nat) (w:World) (hl:l.length≤c) (hm:c≤9223372036854775807)
   (hc:∀ k,k<l.length→w.cell? ⟨b,off+k,none⟩=some (.int .i64 (l.getD k 0:Nat))) :
    Calls Tryz.prog 297 #[ah (some ⟨b,off,none⟩) l.length c] w fun e w'=>e= aj (ah (some ⟨b,off,none⟩) (trimLen l l.length) c)∧w=w':=by
  go_enter Tryz.func297,Tryz.ntmps297
  go_wp2
  go_loop [3] (fun v=>∃ k:Nat,k≤l.length∧trimLen l k=trimLen l l.length∧v= Z I k) (fun v=>(intOf v).toNat)
  case atStart=>exact ⟨l.length,aD _,rfl,rfl⟩
  case round =>
    obtain ⟨k,hk,ht,rfl⟩:=hrel;have HT:=zh ht;clear ht
    rcases aV k with h0|h0
    · subst h0
      go_wp2
      go_ret
      exact ⟨by rw [← HT.out];rfl,rfl⟩
    · obtain ⟨j,rfl⟩:∃ j,k=j+1:=⟨k - 1,by omega⟩
      have hcj:=hc j zo;have HS:Hid (trimLen l (j+1)=if l.getD j 0=0 then trimLen l j else j+1):=rfl;generalize l.getD j 0=d at hcj HS;clear hc
      rcases aV d with hd|hd
      · subst hd
        go_wp2
        go_round
        case rel=>exact ⟨j,by omega,by rw [← HT.out,HS.out];rfl,by go_num⟩
        case measure=>simp [intOf]
      · have hz:((d:Int) == 0)=false:=by simp;omega
        go_wp2
        go_ret
        exact ⟨by rw [← HT.out,HS.out,if_neg zo];rfl,rfl⟩
theorem XL (w:World):Calls Tryz.prog 297 #[ah none 0 0] w fun e w'=>e= aj (ah none 0 0)∧w=w':=by
 go_enter Tryz.func297,Tryz.ntmps297
 go_wp2
 refine wp_loop_rounds 1 ?_;rw [rounds_succ]
 go_wp2
 go_ret
 exact ⟨rfl,rfl⟩
theorem wL (v:Value) (l:List Nat) (w:World) (h:Gs w v l) (hd:fZ 10000 l) :
  Calls Tryz.prog 297 #[v] w fun e w'=>∃ v',e= aj v'∧w=w'∧Nm w v' (val 10000 l):=by
 rcases Gs.cases h with ⟨rfl,rfl⟩|⟨b,off,cap,rfl,h1,h2,h3,⟨arr,h4⟩,h5⟩
 ·refine (XL w).mono ?_;rintro e w' ⟨rfl,rfl⟩;exact ⟨_,rfl,rfl,by rw [show val 10000 ([]:List Nat)=0 from rfl];exact Nm.zero _⟩
 ·refine (J3 b off cap l w h1 h2 h5).mono ?_;rintro e w' ⟨rfl,rfl⟩;refine ⟨_,rfl,rfl,?_⟩;have ht:=trimLen_le l l.length;have e:val 10000 l=val 10000 (l.take (trimLen l l.length)):=by rw [xg _ _ _ (aD _)];simp
  rw [e];refine Nm.TB ?_ (hd.take _) (xq l _ (aD _));refine Row.mk (arr:=arr) (by rw [dI];simp;omega) (by rw [dI];simp;omega) h2 h4 fun i hi=>?_;rw [dI] at hi;have hi2:i<l.length:=by simp at hi;omega
  have:=h5 i hi2;rw [h4.cell] at this;rw [this];simp [ints,hi2]
theorem jK (b:Bool) (v:Value) (l:List Nat) (w:World) (h:Gs w v l) (hd:fZ 10000 l) :
  Calls Tryz.prog 258 #[ak b,v] w fun e w'=>∃ v',e= aj v'∧Below w.heap.size w w'∧Pl w' v' (iV (val 10000 l) b):=by
 have h0:Below w.heap.size w (w.alloc (.cells #[ak false,ah none 0 0] 161)):=aF;have hx:=aA.new w #[ak false,ah none 0 0] 161;have HG:=zh (wL v l _ (h.later h0) hd);obtain ⟨a0,c0,rfl, -⟩:=h.read;obtain ⟨W,EW⟩:∃ y,w.alloc (.cells #[ak false,ah none 0 0] 161)=y:=⟨_,rfl⟩;rw [EW] at h0 hx HG;have cx:=hx.cell;have fx:=hx.free;generalize val 10000 l=n at *;clear h hd;go_enter Tryz.func258,Tryz.ntmps258
 go_wp2_with fail
 clear EW;refine HG.out.mono ?_;rintro e w' ⟨v',rfl,rfl,hv⟩;obtain ⟨pa,len,ca,rfl⟩:=hv.slice
 have hl:Hid (len=sz 10000 n):=zh (by
  obtain ⟨a,cap,e, -⟩:=hv.read;simp only [Value.slice.injEq] at e;exact e.2.1)
 have HV:=zh hv
 have OO:∀ b:Bool,Hid ((b&&decide ((0:Int)<(len:Int)))=decide (iV n b<0)):=fun b=>zh (by
  rw [← SY]
  have h2:0<n↔0<len:=by
   rw [hl.out];unfold sz;rw [List.length_pos_iff,Ne,nX zo];omega
  rw [show decide ((0:Int)<(len:Int))=decide (0<n) by rw [iN];simp;omega])
 clear hv;cases b
 ·have HB:=OO false;clear OO;go_wp2_with fail
  refine gF rfl rfl bf Tryz.underlying161 rfl zk ?_;exact ⟨_,rfl,aF,Pl.mk ((HV.out.setOther hx zd 0 _).setOther (hx.set 0 _) zd 1 _) (kG _ _).symm (by rw [← HB.out];rfl)⟩
 ·have HB:=OO true;clear OO;go_wp2_with fail
  refine gF rfl rfl bf Tryz.underlying161 rfl zk ?_;exact ⟨_,rfl,aF,Pl.mk ((HV.out.setOther hx zd 0 _).setOther (hx.set 0 _) zd 1 _) (kG _ _).symm (by rw [← HB.out];simp)⟩
theorem vw (v:Value) (z:Int) (w:World) (h:Pl w v z) :
  Calls Tryz.prog 261 #[v] w fun e w'=>∃ v',e= aj v'∧Below w.heap.size w w'∧Pl w' v' (-z):=by
 obtain ⟨b,pa,l,ca,rfl⟩:=h.agg;obtain ⟨hn,hbz⟩:=h.nm;have h0:Below w.heap.size w ((w.alloc (.cells #[ak b,ah pa l ca] 161)).alloc (.cells #[ak false,ah none 0 0] 161)):=aF;have hx:=aA.pV w (.cells #[ak b,ah pa l ca] 161) #[ak false,ah none 0 0] 161;have ha:=aA.alloc (aA.new w #[ak b,ah pa l ca] 161) (.cells #[ak false,ah none 0 0] 161);have HG:=zh (fun W (hb:Below w.heap.size w W)=>jK (!b) (ah pa l ca) _ W (hn.gs.later hb) (cZ zo _));have hs:iV z.natAbs (!b)= -z:=by rw [hbz,SS]
 rw [bQ zo,hs] at HG;obtain ⟨W,EW⟩:∃ y,(w.alloc (.cells #[ak b,ah pa l ca] 161)).alloc (.cells #[ak false,ah none 0 0] 161)=y:=⟨_,rfl⟩;rw [EW] at h0 hx ha;have KW:=ha.cell;have cx:=hx.cell;have fx:=hx.free;clear hn ha h hbz hs;go_enter Tryz.func261,Tryz.ntmps261
 go_wp2_with fail
 clear EW KW cx fx;refine (HG.out _ h0).mono ?_;rintro e w' ⟨v',rfl,hb,hv⟩;obtain ⟨bNV,ZJ,lNV,ae2,rfl⟩:=hv.agg;have NV:=zh hv;clear hv;have hy:=hx.later hb;have cy:=hy.cell;have fy:=hy.free;go_wp2_with fail
 refine gF rfl rfl bf Tryz.underlying161 rfl zk ?_;exact ⟨_,rfl,aF,NV.out.set2 hy zd _ _ _ _⟩
theorem jO (n:Int) (w:World) (h1: -9223372036854775808≤n) (h2:n≤9223372036854775807) :
  Calls Tryz.prog 250 #[Z I n] w fun e w'=>∃ v',e= aj v'∧Below w.heap.size w w'∧Pl w' v' n:=by
 obtain ⟨i0,hi,hz0,hz1,hz2⟩:=info_parts xX;have h0:Below w.heap.size w (w.alloc (.cells #[ak false,ah none 0 0] 161)):=aF;have hx:=aA.new w #[ak false,ah none 0 0] 161;have HN:=zh (And.intro h1 h2);clear h1 h2;go_enter Tryz.func250,Tryz.ntmps250
 go_wp2
 go_loopw [0,3,5] (fun nv dv _ wr=>∃ (m:Int) (s:List Nat),nv= Z I m∧Hid (-9223372036854775808≤m∧m≤9223372036854775807∧(m=0∨(m<0↔n<0)))∧s.length≤5∧wr.ownsRow (w.heap.size+1) 3 1 dv s.length (ints s)∧Hid (s++eF 10000 m.natAbs=eF 10000 n.natAbs)∧Below (w.heap.size+1) (w.alloc (.cells #[ak false,ah none 0 0] 161)) wr)
  (fun nv _ _ _=>(intOf nv).natAbs)
 case atStart=>exact ⟨n,[],rfl,zh ⟨HN.out.1,HN.out.2,.inr Iff.rfl⟩,by simp,World.ownsRow_nil _ _ _ _,zh rfl,Below.refl _ _⟩
 case round =>
  obtain ⟨m,s,rfl,HM,hs5,hown,HD,hb⟩:=hrel
  by_cases hm0:m=0
  ·subst hm0
   have hdg:fZ 10000 s:=by
    have:=HD.out;rw [Int.natAbs_zero,iD,List.append_nil] at this;rw [this];exact cZ zo _
   have hs:val 10000 s=n.natAbs:=by
    have:=HD.out;rw [Int.natAbs_zero,iD,List.append_nil] at this;rw [this,bQ zo]
   have h1:Below w.heap.size w wr:=⟨hb.os,hb.tape,hb.output,ay zi hb.size,fun i hi=>(hb.block i zo).trans (h0.block i hi)⟩;have Ug:=hx.later (w':=wr) ⟨hb.os,hb.tape,hb.output,by have:=hb.size;simpa using this,fun i hi=>hb.block i (by simpa using hi)⟩;have cx:=Ug.cell;have fx:=Ug.free;have HG:=zh (jK (decide (n<0)) u3 s wr (Gs.ig hown) hdg);rw [hs,SX] at HG;obtain ⟨pa,ca,rfl, -⟩:=(Gs.ig hown).read;generalize decide (n<0)=b0 at *;clear hs hdg hown HD HM HN hx h0 hb;go_wp2_with fail
   refine HG.out.mono ?_;rintro e w' ⟨v',rfl,hb,hv⟩;obtain ⟨bNV,ZJ,lNV,ae2,rfl⟩:=hv.agg;have NV:=zh hv;clear hv;have hy:=Ug.later hb;clear cx fx;have cy:=hy.cell;have fy:=hy.free;go_wp2_with fail
   refine gF rfl rfl bf Tryz.underlying161 rfl zk ?_;exact ⟨_,rfl,aF,NV.out.set2 hy zd _ _ _ _⟩
  ·have hne:(m == 0)=false:=by simp [hm0]
   have hne':(m != 0)=true:=by simp [hm0]
   have hnp:0<m.natAbs:=by omega
   have hdv:m.natAbs / 10000<m.natAbs:=Nat.div_lt_self hnp zo
   have HNX:Hid ((s++[m.natAbs%10000])++eF 10000 (m.natAbs / 10000)=eF 10000 n.natAbs):=by
    unfold Hid;rw [← HD.out,kW zo hnp,ji];rfl
   have hl5:s.length+1≤5:=by
    have k1:=congrArg List.length HNX.out;have k2:=cO (B:=10000) zo 5 n.natAbs (by have:=HN.out;omega);unfold sz at k2;simp only [List.length_append,bg,List.length_nil] at k1;omega
   have NK:=zh (And.intro hnp hdv);clear hnp hdv
   have hpart:(∃ j:Nat,m= -(j:Int)∧(j:Int)%10000=0)∨(∃ j:Nat,m= -(j:Int)∧0<(j:Int)%10000)∨∃ j:Nat,m=(j:Int)∧¬ (j:Int)%10000<0:=by
    rcases Int.lt_or_gt_of_ne hm0 with hlt|hgt
    ·by_cases hj:m.natAbs%10000=0
     ·exact .inl ⟨m.natAbs,by omega,by omega⟩
     ·exact .inr (.inl ⟨m.natAbs,by omega,by omega⟩)
    ·exact .inr (.inr ⟨m.natAbs,by omega,by omega⟩)
   rcases hpart with ⟨j,rfl,hjm⟩|⟨j,rfl,hjm⟩|⟨j,rfl,hjm⟩
   ·have hM:=HM.out;obtain ⟨k1,k2,k3⟩:=hM;have ej:((-(j:Int))).natAbs=j:=by omega
    rw [ej] at HNX NK
    have ec:Hid (ints s++[Z I 0]=ints (s++[j%10000])):=zh (by
     unfold ints;simp only [List.map_append,bL,gY];rw [show ((j%10000:Nat):Int)=0 by omega])
    have HK:=zh k3;clear HD k3;go_wp2_with (at_builtin;refine wpList_append_own _ rfl (.tmp 16) (.tmp 18) 159 rfl (w.heap.size+1) 3 i0 (Z I 0) 1 8 Tryz.underlying159 hi hz0 hz1 hz2 rfl zd _ _ _ rfl (hown.alloc _) ⟨wr.heap.size,0,none⟩ 1 1 [Z I 0] rfl rfl (by intro t u ht;match t,ht with|0,ht=>simp at ht;subst ht;simp [Addr.add]) (by intro u hu;simp at hu;subst hu;rfl) (by unfold maxLen;omega) zo (by have:=hb.size;simp at*; omega) ?_)
    intro v' w1 hown1 hgrow1 _;rw [ec.out] at hown1;have hb3:Below (w.heap.size+1) (w.alloc (.cells #[ak false,ah none 0 0] 161)) w1:=(hb.alloc (by have:=hb.size;simpa using this) _).grown hgrow1 (by simp;have:=hb.size;simp at*; omega) (fun k hk=>(hown.lt k hk).1);clear hown hgrow1
    go_wp2
    go_roundw
    case rel=>exact ⟨(-((j:Int) / 10000)),s++[j%10000],rfl,zh (by have:=HK.out;omega),by rw [List.length_append];exact hl5,by rw [List.length_append];exact hown1,zh (by rw [show ((-((j:Int) / 10000))).natAbs=j / 10000 by omega];exact HNX.out),hb3⟩
    case measure=>exact zM
   ·have hM:=HM.out;obtain ⟨k1,k2,k3⟩:=hM;have ej:((-(j:Int))).natAbs=j:=by omega
    rw [ej] at HNX NK
    have ec:Hid (ints s++[Z I ((j:Int)%10000)]=ints (s++[j%10000])):=zh (by
     unfold ints;simp only [List.map_append,bL,gY];rw [show ((j%10000:Nat):Int)=((j:Int)%10000) by omega])
    have HK:=zh k3;clear HD k3;go_wp2_with (at_builtin;refine wpList_append_own _ rfl (.tmp 16) (.tmp 18) 159 rfl (w.heap.size+1) 3 i0 (Z I 0) 1 8 Tryz.underlying159 hi hz0 hz1 hz2 rfl zd _ _ _ rfl (hown.alloc _) ⟨wr.heap.size,0,none⟩ 1 1 [Z I ((j:Int)%10000)] rfl rfl (by intro t u ht;match t,ht with|0,ht=>simp at ht;subst ht;simp [Addr.add]) (by intro u hu;simp at hu;subst hu;rfl) (by unfold maxLen;omega) zo (by have:=hb.size;simp at*; omega) ?_)
    intro v' w1 hown1 hgrow1 _;rw [ec.out] at hown1;have hb3:Below (w.heap.size+1) (w.alloc (.cells #[ak false,ah none 0 0] 161)) w1:=(hb.alloc (by have:=hb.size;simpa using this) _).grown hgrow1 (by simp;have:=hb.size;simp at*; omega) (fun k hk=>(hown.lt k hk).1);clear hown hgrow1
    go_wp2
    go_roundw
    case rel=>exact ⟨(-((j:Int) / 10000)),s++[j%10000],rfl,zh (by have:=HK.out;omega),by rw [List.length_append];exact hl5,by rw [List.length_append];exact hown1,zh (by rw [show ((-((j:Int) / 10000))).natAbs=j / 10000 by omega];exact HNX.out),hb3⟩
    case measure=>exact zM
   ·have hM:=HM.out;obtain ⟨k1,k2,k3⟩:=hM;have ej:((j:Int)).natAbs=j:=by omega
    rw [ej] at HNX NK
    have ec:Hid (ints s++[Z I ((j:Int)%10000)]=ints (s++[j%10000])):=zh (by
     unfold ints;simp only [List.map_append,bL,gY];rw [show ((j%10000:Nat):Int)=((j:Int)%10000) by omega])
    have HK:=zh k3;clear HD k3;go_wp2_with (at_builtin;refine wpList_append_own _ rfl (.tmp 16) (.tmp 18) 159 rfl (w.heap.size+1) 3 i0 (Z I 0) 1 8 Tryz.underlying159 hi hz0 hz1 hz2 rfl zd _ _ _ rfl (hown.alloc _) ⟨wr.heap.size,0,none⟩ 1 1 [Z I ((j:Int)%10000)] rfl rfl (by intro t u ht;match t,ht with|0,ht=>simp at ht;subst ht;simp [Addr.add]) (by intro u hu;simp at hu;subst hu;rfl) (by unfold maxLen;omega) zo (by have:=hb.size;simp at*; omega) ?_)
    intro v' w1 hown1 hgrow1 _;rw [ec.out] at hown1;have hb3:Below (w.heap.size+1) (w.alloc (.cells #[ak false,ah none 0 0] 161)) w1:=(hb.alloc (by have:=hb.size;simpa using this) _).grown hgrow1 (by simp;have:=hb.size;simp at*; omega) (fun k hk=>(hown.lt k hk).1);clear hown hgrow1
    go_wp2
    go_roundw
    case rel=>exact ⟨((j:Int) / 10000),s++[j%10000],rfl,zh (by have:=HK.out;omega),by rw [List.length_append];exact hl5,by rw [List.length_append];exact hown1,zh (by rw [show (((j:Int) / 10000)).natAbs=j / 10000 by omega];exact HNX.out),hb3⟩
    case measure=>exact zM
def Ord (r:Int) (a b:Nat):Prop:=(r≤0↔a≤b)∧(0≤r↔b≤a)
def Pw (w:World) (a b:Nat) (e:Ending) (w':World):Prop:=∃ r:Int,e= aj (Z I r)∧Below w.heap.size w w'∧Ord r a b
theorem Ord.lt {r:Int} {a b:Nat} (h:a<b) (hr:r<0):Ord r a b:=⟨⟨fun _=>by omega,fun _=>by omega⟩,⟨fun _=>by omega,fun _=>by omega⟩⟩
theorem Ord.gt {r:Int} {a b:Nat} (h:b<a) (hr:0<r):Ord r a b:=⟨⟨fun _=>by omega,fun _=>by omega⟩,⟨fun _=>by omega,fun _=>by omega⟩⟩
theorem Ord.eq (a:Nat):Ord 0 a a:=⟨⟨fun _=>by omega,fun _=>by omega⟩,⟨fun _=>by omega,fun _=>by omega⟩⟩
theorem Qv (a b:Option Addr) (m n c d:Nat) (w:World) (h:m≠n) (hm:m≤9223372036854775807) (hn:n≤9223372036854775807) :
  Calls Tryz.prog 299 #[ah a m c,ah b n d] w fun e w'=>e= aj (Z I ((m:Int) - (n:Int)))∧w=w':=by
 have h1:((m:Int) == (n:Int))=false:=by simp;omega
 have h2:((m:Int) != (n:Int))=true:=by simp;omega
 go_enter Tryz.func299,Tryz.ntmps299
 go_wp2
 go_ret
 exact ⟨rfl,rfl⟩
theorem LM (pa pb:Option Addr) (ca cb:Nat) (l m:List Nat) (w:World) (hlen:l.length=m.length) (hm:l.length≤9223372036854775807) (hl:fZ 10000 l) (hmd:fZ 10000 m)
   (hc:∀ k,k<l.length→∃ b off,pa=some ⟨b,off,none⟩∧b<w.heap.size∧w.cell? ⟨b,off+k,none⟩=some (.int .i64 (l.getD k 0:Nat)))
   (hd:∀ k,k<m.length→∃ b off,pb=some ⟨b,off,none⟩∧b<w.heap.size∧w.cell? ⟨b,off+k,none⟩=some (.int .i64 (m.getD k 0:Nat))) :
    Calls Tryz.prog 299 #[ah pa l.length ca,ah pb m.length cb] w (Pw w (val 10000 l) (val 10000 m)):=by
  have HL:=zh hlen;clear hlen;rw [← HL.out];have h1:((l.length:Int) == (l.length:Int))=true:=by simp
  have h2:((l.length:Int) != (l.length:Int))=false:=by simp
  go_enter Tryz.func299,Tryz.ntmps299
  go_wp2
  clear h1 h2
  go_loopw [5] (fun i wr=>∃ q:Int, -1≤q∧q<l.length∧i= Z I q∧l.drop (q+1).toNat=m.drop (q+1).toNat∧Below w.heap.size w wr) (fun i _=>(intOf i+1).toNat)
  case atStart=>exact ⟨(l.length:Int) - 1,by omega,by omega,rfl,by rw [show ((l.length:Int) - 1+1).toNat=l.length by omega,List.drop_length];rw [HL.out,List.drop_length],Below.refl _ _⟩
  case round =>
    obtain ⟨q,hq1,hq2,rfl,hdr,hb⟩:=hrel;have HD:=zh hdr;clear hdr
    by_cases hq:q<0
    · have hq0:q= -1:=by omega
      subst hq0
      go_wp2
      go_ret
      have e:l=m:=by have:=HD.out;simpa using this
      rw [e];exact ⟨0,rfl,hb,Ord.eq _⟩
    · obtain ⟨j,rfl⟩:=Int.eq_ofNat_of_zero_le (by omega:0≤q)
      have hjl:j<l.length:=by omega
      have hjm:j<m.length:=by rw [← HL.out];exact hjl
      obtain ⟨ba,oa,rfl,hba,hx0⟩:=hc j hjl;obtain ⟨bb,ob,rfl,hbb,hy0⟩:=hd j hjm;have hx:wr.cell? ⟨ba,oa+j,none⟩=some (.int .i64 (l.getD j 0:Nat)):=(hb.cell (by exact hba)).trans hx0;have hy:wr.cell? ⟨bb,ob+j,none⟩=some (.int .i64 (m.getD j 0:Nat)):=(hb.cell (by exact hbb)).trans hy0;clear hx0 hy0;have HD2:Hid (l.drop (j+1)=m.drop (j+1)):=by have:=HD.out;rwa [show ((j:Int)+1).toNat=j+1 by omega] at this
      have hlt:Hid (l.getD j 0<m.getD j 0→val 10000 l<val 10000 m):=uM zo hl hjl hjm HD2.out;have hgt:Hid (m.getD j 0<l.getD j 0→val 10000 m<val 10000 l):=uM zo hmd hjm hjl HD2.out.symm;have heq:Hid (l.getD j 0=m.getD j 0→l.drop j=m.drop j):=fun e=>by rw [jG hjl,jG hjm,HD2.out,e]
      have hdx:=hl.getD zo j;have hdy:=hmd.getD zo j;generalize l.getD j 0=x at *;generalize m.getD j 0=y at *;clear HD HD2 hc hd
      by_cases hxy:x=y
      · subst hxy
        have h1:((x:Int) == (x:Int))=true:=by simp
        have h2:((x:Int) != (x:Int))=false:=by simp
        go_wp2
        go_quiet (fail)
        go_wp2
        go_roundw
        case rel=>exact ⟨(j:Int) - 1,by omega,by omega,rfl,by rw [show ((j:Int) - 1+1).toNat=j by omega];exact heq.out trivial,below_drewN hb _⟩
        case measure=>simp [intOf]
      · have h1:((x:Int) == (y:Int))=false:=by simp;omega
        have h2:((x:Int) != (y:Int))=true:=by simp;omega
        go_wp2
        go_quiet (fail)
        have HXY:=zh hxy;have KT:x<10000:=by have:=hdx;omega
        have hy9:y<10000:=by have:=hdy;omega
        clear hxy
        go_wp2
        go_quiet (fail)
        go_wp2
        go_ret
        refine ⟨(x:Int) - (y:Int),rfl,below_drewN (below_drewN hb _) _,?_⟩;have:=HXY.out
        rcases Nat.lt_or_gt_of_ne HXY.out with h|h
        · exact Ord.lt (hlt.out h) zo
        · exact Ord.gt (hgt.out h) zo
theorem tX (x y:Value) (a b:Nat) (w:World) (hx:Nm w x a) (hy:Nm w y b) :
  Calls Tryz.prog 299 #[x,y] w (Pw w a b):=by
 by_cases hs:sz 10000 a=sz 10000 b
 ·obtain ⟨pa,ca,rfl,h1,h2,h3⟩:=Gs.read hx.gs;obtain ⟨pb,cb,rfl,k1,k2,k3⟩:=Gs.read hy.gs;have:=LM pa pb ca cb _ _ w hs zo (cZ zo a) (cZ zo b) h3 k3
  rwa [bQ zo,bQ zo] at this
 ·obtain ⟨pa,ca,rfl,h1,h2, -⟩:=hx.read;obtain ⟨pb,cb,rfl,k1,k2, -⟩:=hy.read;refine (Qv pa pb _ _ ca cb w hs zo zo).mono ?_;rintro e w' ⟨rfl,rfl⟩;refine ⟨_,rfl,Below.refl _ _,?_⟩
  rcases Nat.lt_or_gt_of_ne hs with h|h
  ·exact Ord.lt (uf zo h) zo
  ·exact Ord.gt (uf zo h) zo
theorem Qw (pl:Option Addr) (cl:Nat) (l:List Nat) (d:Nat) (w:World) (hl:fZ 10000 l) (hb1:l.length≤1099511627776) (hd0:0<d) (hd1:d≤10000)
   (hc:∀ k,k<l.length→∃ b off,pl=some ⟨b,off,none⟩∧b<w.heap.size∧w.cell? ⟨b,off+k,none⟩=some (.int .i64 (l.getD k 0:Nat))) :
    Calls Tryz.prog 298 #[ah pl l.length cl,Z I d] w fun e w'=>∃ v,e= aj (aG #[v,Z I (val 10000 l%d:Nat)])∧Below w.heap.size w w'∧Nm w' v (val 10000 l / d):=by
  obtain ⟨i0,hi,hz0,hz1,hz2⟩:=info_parts xX;go_enter Tryz.func298,Tryz.ntmps298
  go_wp2_with (at_make;refine wpList_make_full _ rfl _ _ 159 rfl w.heap.size 3 i0 (Z I 0) 1 Tryz.underlying159 hi hz0 hz1 _ _ _ _ l.length rfl rfl zo zo (by rw [hz2];omega) (by unfold maxLen;omega) (aD _) ?_)
  intro w0 hown0 kJ;rw [yY] at hown0
  go_wp2
  go_loopw [7,8] (fun rv iv wr=>∃ (q:Int) (r:Nat) (s:List Nat), -1≤q∧q<l.length∧r<d∧iv= Z I q∧rv= Z I r∧Hid (s.length=l.length - (q+1).toNat) ∧
      wr.ownsRow w.heap.size 3 1 (ah (some ⟨w.heap.size,0,none⟩) l.length l.length) l.length (ints (bM (q+1).toNat 0++s))∧fZ 10000 s∧Hid (val 10000 (l.drop (q+1).toNat)=d*val 10000 s+r)∧Below w.heap.size w wr)
    (fun _ iv _=>(intOf iv+1).toNat)
  case atStart =>
    have e:((l.length:Int) - 1+1).toNat=l.length:=by omega
    exact ⟨(l.length:Int) - 1,0,[],by omega,by omega,hd0,rfl,rfl,zh (by rw [e];simp),by rw [e,List.append_nil];exact hown0,fZ.nil,zh (by rw [e,List.drop_length];simp [val]),(Below.refl _ _).grown kJ (aD _) (fun k h=>by cases h)⟩
  case round =>
    obtain ⟨q,r,s,hq1,hq2,hrd,rfl,rfl,HS,hown,hds,HV,hb⟩:=hrel
    by_cases hq:q<0
    · have hq0:q= -1:=by omega
      subst hq0;have HF:Hid (val 10000 l=d*val 10000 s+r):=zh (by have:=HV.out;simpa using this);have hown3:Gs wr (ah (some ⟨w.heap.size,0,none⟩) l.length l.length) s:=by have:=Gs.ig hown;simpa using this
      have e1:Hid (val 10000 l / d=val 10000 s):=by unfold Hid;rw [HF.out,Nat.mul_add_div hd0,fI hrd,fJ]
      have e2:Hid (val 10000 l%d=r):=by unfold Hid;rw [HF.out,Nat.mul_add_mod,gq hrd]
      clear hown HV HF HS hc;go_wp2_with (go_at_call 297;refine (wL _ _ _ hown3 hds).mono ?_;rintro e w' ⟨v,rfl,rfl,hv⟩)
      go_ret2
      exact ⟨v,by rw [e2.out];rfl,hb,by rw [e1.out];exact hv⟩
    · obtain ⟨j,rfl⟩:=Int.eq_ofNat_of_zero_le (by omega:0≤q)
      have ej:((j:Int)+1).toNat=j+1:=by omega
      have hjl:j<l.length:=by omega
      rw [ej] at HS HV hown;obtain ⟨b,off,rfl,hbb,hx0⟩:=hc j hjl;have hx:wr.cell? ⟨b,off+j,none⟩=some (.int .i64 (l.getD j 0:Nat)):=(hb.cell (by exact hbb)).trans hx0;have hdl:l.getD j 0<10000:=hl.getD zo j;have hlen:(bM (j+1) 0++s).length=l.length:=by rw [List.length_append,List.length_replicate,HS.out];omega
      have hr1:wr.cell? ⟨w.heap.size,j,none⟩=some (.int .i64 0):=by
        rw [hown.cellAt j zo,um (by rw [hlen];exact hjl),uU zo];rfl
      have hr2:wr.frozen? ⟨w.heap.size,j,none⟩=false:=hown.frozenAt j;have HP:=zh (BI hjl HV.out);have hdg:=zO hrd hdl;have hmd:=fC (r*10000+l.getD j 0) hd0
      have HO:Hid (∀ d:Nat,(wr.setCell ⟨w.heap.size,j,none⟩ (Z I (d:Int))).ownsRow w.heap.size 3 1 (ah (some ⟨w.heap.size,0,none⟩) l.length l.length) l.length (ints (bM j 0++d::s))∧Below w.heap.size w (wr.setCell ⟨w.heap.size,j,none⟩ (Z I (d:Int)))):=fun d=>by
        have h1:=(hown.stored j (Z I (d:Int))).1;rw [ints_set,xG] at h1;exact ⟨h1,hb.setCell (aD _) _⟩
      clear hx0 hc hown hlen;generalize l.getD j 0=x at *;have hqi:(((r*10000+x) / d:Nat):Int)=((r:Int)*10000+(x:Int)) / (d:Int):=by rw [Int.natCast_ediv,Int.natCast_add,Int.natCast_mul];rfl
      have Ul:(((r*10000+x)%d:Nat):Int)=((r:Int)*10000+(x:Int))%(d:Int):=by rw [Int.natCast_emod,Int.natCast_add,Int.natCast_mul];rfl
      generalize (r*10000+x) / d=Q at *;generalize (r*10000+x)%d=M at *;have g1:0≤((r:Int)*10000+(x:Int)) / (d:Int):=by rw [← hqi];omega
      have g2:((r:Int)*10000+(x:Int)) / (d:Int)≤9999:=by rw [← hqi];omega
      have g3:0≤((r:Int)*10000+(x:Int))%(d:Int):=by rw [← Ul];omega
      have g4:((r:Int)*10000+(x:Int))%(d:Int)≤9999:=by rw [← Ul];omega
      have pR:=HO.out Q;rw [hqi] at pR;have pW:=zh pR;have HM:=zh Ul;have HG:=zh hdg;have Y8:=zh hmd;clear pR HO hqi Ul hdg hmd
      go_wp2
      go_roundw
      case rel=>exact ⟨(j:Int) - 1,M,Q::s,by omega,by omega,Y8.out,rfl,by rw [HM.out],zh (by rw [bg,HS.out];omega),by rw [show ((j:Int) - 1+1).toNat=j by omega];exact pW.out.1,hds.cons HG.out,zh (by rw [show ((j:Int) - 1+1).toNat=j by omega];exact HP.out),pW.out.2⟩
      case measure=>simp [intOf]
theorem WR (x:Value) (a d:Nat) (w:World) (hx:Nm w x a) (ha:sz 10000 a≤1099511627776) (hd0:0<d) (hd1:d≤10000) :
  Calls Tryz.prog 298 #[x,Z I d] w fun e w'=>∃ v,e= aj (aG #[v,Z I (a%d:Nat)])∧Below w.heap.size w w'∧Nm w' v (a / d):=by
 obtain ⟨pa,ca,rfl,h1,h2,h3⟩:=Gs.read hx.gs;have:=Qw pa ca _ d w (cZ zo a) ha hd0 hd1 h3
 rwa [bQ zo] at this
def Okm (m:List Nat):Prop:=fZ 10000 m∨(m.length=1∧∀ d∈m,d≤10000)
theorem Okm.le {m:List Nat} (h:Okm m) {j:Nat} (hj:j<m.length):m.getD j 0≤10000:=by
 have e:m.getD j 0=m[j]:=by simp [hj]
 rw [e]
 rcases h with h|h
 ·exact bJ (h _ (dY hj))
 ·exact h.2 _ (dY hj)
theorem Okm.carry {m:List Nat} (h:Okm m) {j c z x:Nat} (hj:j<m.length) (hc:c<10000) (hc0:j=0→c=0) (hz:z<10000) (hx:x<10000):(c+(z+x*m.getD j 0)) / 10000<10000:=by
 rcases h with h|h
 ·exact zN hc hz hx (h.getD zo j)
 ·have h1:m.getD j 0≤10000:=Okm.le (.inr h) hj;have h2:c=0:=hc0 zo;subst h2;have h3:x*m.getD j 0≤9999*10000:=dP zo h1;generalize x*m.getD j 0=p at *;omega
theorem Tk {x y:Nat} (hx:x<10000) (hy:y≤10000):(0:Int)≤(x:Int)*(y:Int)∧(x:Int)*(y:Int)≤99990000:=by
 have h:x*y≤9999*10000:=dP zo zo;rw [← Int.natCast_mul];omega
theorem xL (pl ps:Option Addr) (cl cs:Nat) (l m:List Nat) (w:World) (hl:fZ 10000 l) (hmd:Okm m) (hb1:l.length≤1099511627776) (hb2:m.length≤1099511627776)
   (hc:∀ k,k<l.length→∃ b off,pl=some ⟨b,off,none⟩∧b<w.heap.size∧w.cell? ⟨b,off+k,none⟩=some (.int .i64 (l.getD k 0:Nat)))
   (hd:∀ k,k<m.length→∃ b off,ps=some ⟨b,off,none⟩∧b<w.heap.size∧w.cell? ⟨b,off+k,none⟩=some (.int .i64 (m.getD k 0:Nat))) :
    Calls Tryz.prog 263 #[ah pl l.length cl,ah ps m.length cs] w fun e w'=>∃ v,e= aj v∧Below w.heap.size w w'∧Nm w' v (val 10000 l*val 10000 m):=by
  obtain ⟨i0,hi,hz0,hz1,hz2⟩:=info_parts xX;go_enter Tryz.func263,Tryz.ntmps263
  go_wp2_with (at_make;refine wpList_make_full _ rfl _ _ 159 rfl w.heap.size 3 i0 (Z I 0) 1 Tryz.underlying159 hi hz0 hz1 _ _ _ _ (l.length+m.length) rfl rfl zo zo (by rw [hz2];omega) (by unfold maxLen;omega) (aD _) ?_)
  intro w0 hown0 kJ;rw [yY] at hown0
  go_wp2
  go_loopw [6,7,8] (fun iv _ _ wr=>∃ (i:Nat) (p:List Nat),i≤l.length∧iv= Z I i∧Hid (p.length=l.length+m.length)∧(∀ t,i+m.length≤t→p.getD t 0=0) ∧
      wr.ownsRow w.heap.size 3 1 (ah (some ⟨w.heap.size,0,none⟩) (l.length+m.length) (l.length+m.length)) (l.length+m.length) (ints p)∧fZ 10000 p∧Hid (val 10000 p=val 10000 (l.take i)*val 10000 m)∧Below w.heap.size w wr)
    (fun iv _ _ _=>l.length - (intOf iv).toNat)
  case atStart=>exact ⟨0,bM (l.length+m.length) 0,Nat.zero_le _,rfl,zh zi,fun t _=>by simp [List.getD,List.getElem?_replicate];split<;>rfl,hown0,fun x hx=>by rw [List.eq_of_mem_replicate hx];omega,zh (by rw [uL];simp [val]),(Below.refl _ _).grown kJ (aD _) (fun k h=>by cases h)⟩
  case round =>
    obtain ⟨i,p,hil,rfl,HL,hz,hown,hdp,HV,hb⟩:=hrel;have HZ:=zh hz;clear hz
    by_cases hlt:i<l.length
    · obtain ⟨b,off,rfl,hbb,hx0⟩:=hc i hlt
      have hx:wr.cell? ⟨b,off+i,none⟩=some (.int .i64 (l.getD i 0:Nat)):=(hb.cell (by exact hbb)).trans hx0;have hdl:l.getD i 0<10000:=hl.getD zo i;have HX0:=zh hx0;clear hx0 hc;have HD:Hid (l.getD i 0=l.getD i 0):=rfl
      revert HD
      generalize KT:l.getD i 0=x at hx hdl HX0;have HX:=zh KT;clear KT;intro _;obtain ⟨wo,rfl⟩:∃ wo:World,wo=wr:=⟨_,rfl⟩
      go_wp2
      go_loopw [7,8] (fun cv jv wq=>∃ (j c:Nat) (q:List Nat),j≤m.length∧c<10000∧Hid (j=0→c=0)∧jv= Z I j∧cv= Z I c∧Hid (q.length=l.length+m.length)∧Hid (∀ t,i+m.length≤t→q.getD t 0=0) ∧
          wq.ownsRow w.heap.size 3 1 (ah (some ⟨w.heap.size,0,none⟩) (l.length+m.length) (l.length+m.length)) (l.length+m.length) (ints q)∧fZ 10000 q∧Hid (val 10000 q+c*10000^(i+j)=val 10000 (l.take i)*val 10000 m+10000^i*(x*val 10000 (m.take j)))∧Below w.heap.size w wq)
        (fun _ jv _=>m.length - (intOf jv).toNat)
      case atStart=>exact ⟨0,0,p,Nat.zero_le _,by omega,zh (fun _=>rfl),rfl,rfl,HL,HZ,hown,hdp,zh (by rw [HV.out];simp [val]),hb⟩
      case round =>
        obtain ⟨j,c,q,hjl,hcb,HC0,rfl,rfl,RD,Rx,hown,Iu,Yk,hb⟩:=hrel
        by_cases hjlt:j<m.length
        · obtain ⟨b2,off2,rfl,G6,hy0⟩:=hd j hjlt
          have hy:wr.cell? ⟨b2,off2+j,none⟩=some (.int .i64 (m.getD j 0:Nat)):=(hb.cell (by exact G6)).trans hy0;have hxi:wr.cell? ⟨b,off+i,none⟩=some (.int .i64 (x:Int)):=(hb.cell (by exact hbb)).trans HX0.out;have Mx:m.getD j 0≤10000:=hmd.le hjlt;have hij:i+j<q.length:=by have:=RD.out;omega
          obtain ⟨t,ht⟩:∃ t,i+j=t:=⟨_,rfl⟩;have ej:(i:Int)+(j:Int)=(t:Int):=by omega
          have ht3:(t:Int)<(l.length:Int)+(m.length:Int):=by omega
          have ht4:t<l.length+m.length:=by omega
          have hwt:I.wrap (t:Int)=(t:Int):=by rw [IntKind.wrap_i64];omega
          have hq1:wr.cell? ⟨w.heap.size,t,none⟩=some (.int .i64 (q.getD (i+j) 0:Nat)):=by rw [← ht,hown.cellAt (i+j) zo,um hij]
          have hq2:wr.frozen? ⟨w.heap.size,t,none⟩=false:=hown.frozenAt t;have ab6:q.getD (i+j) 0<10000:=Iu.getD zo (i+j);have HS:=zh (BA hjlt hij Yk.out);have HC:=zh (hmd.carry hjlt hcb HC0.out ab6 hdl)
          have HO:Hid (∀ d:Nat,d<10000→(wr.setCell ⟨w.heap.size,t,none⟩ (Z I (d:Int))).ownsRow w.heap.size 3 1 (ah (some ⟨w.heap.size,0,none⟩) (l.length+m.length) (l.length+m.length)) (l.length+m.length) (ints (q.set (i+j) d)) ∧
              Below w.heap.size w (wr.setCell ⟨w.heap.size,t,none⟩ (Z I (d:Int)))∧fZ 10000 (q.set (i+j) d)∧(q.set (i+j) d).length=l.length+m.length∧(∀ t,i+m.length≤t→(q.set (i+j) d).getD t 0=0)):=fun d hd=>by
            have h1:=(hown.stored t (Z I (d:Int))).1;rw [ints_set] at h1;rw [ht];exact ⟨h1,hb.setCell (aD _) _,Iu.set _ hd,by rw [List.length_set];exact RD.out,fun s hs=>by rw [A9 zo];exact Rx.out s hs⟩
          clear hy0 hd hown Yk Iu RD Rx hij ht;generalize m.getD j 0=y at *;generalize q.getD (i+j) 0=z at *;obtain ⟨hp1,hp2⟩:=Tk hdl Mx;have hr:((((c+(z+x*y))%10000:Nat)):Int)=((c:Int)+(z:Int)+(x:Int)*(y:Int))%10000:=by rw [Int.natCast_emod,Int.natCast_add,Int.natCast_add,Int.natCast_mul,Int.add_assoc];rfl
          have hq:((((c+(z+x*y)) / 10000:Nat)):Int)=((c:Int)+(z:Int)+(x:Int)*(y:Int)) / 10000:=by rw [Int.natCast_ediv,Int.natCast_add,Int.natCast_add,Int.natCast_mul,Int.add_assoc];rfl
          have pR:=HO.out _ (fC (c+(z+x*y)) zo);rw [hr] at pR;have pW:=zh pR;have HR:=zh hq;clear HO pR hr hq;have aO0:I.wrap ((i:Int)+(j:Int))=(i:Int)+(j:Int):=by rw [IntKind.wrap_i64];omega
          have aO5:(i:Int)+(j:Int)<((l.length+m.length:Nat):Int):=by omega
          go_wp2
          go_quiet (fail)
          go_wp2
          go_roundw
          case rel=>exact ⟨j+1,(c+(z+x*y)) / 10000,q.set (i+j) ((c+(z+x*y))%10000),by omega,HC.out,zh (fun h=>absurd h zo),by go_num,by rw [HR.out],zh pW.out.2.2.2.1,zh pW.out.2.2.2.2,pW.out.1,pW.out.2.2.1,zh (by rw [← jT i j 1];exact HS.out),⟨pW.out.2.1.os,pW.out.2.1.tape,pW.out.2.1.output,pW.out.2.1.size,pW.out.2.1.block⟩⟩
          case measure=>exact zM
        · have hjm:j=m.length:=by omega
          subst hjm;have hij:i+m.length<q.length:=by have:=RD.out;omega
          have hq1:wr.cell? ⟨w.heap.size,i+m.length,none⟩=some (.int .i64 0):=by rw [hown.cellAt (i+m.length) zo,um hij,Rx.out _ (aD _)];rfl
          have hq2:wr.frozen? ⟨w.heap.size,i+m.length,none⟩=false:=hown.frozenAt (i+m.length)
          have HF:Hid (val 10000 (q.set (i+m.length) c)=val 10000 (l.take (i+1))*val 10000 m) :=
            zL hlt hij (Rx.out _ (aD _)) (by have:=Yk.out;rw [fG] at this;rw [HX.out];exact this)
          have HO:Hid ((wr.setCell ⟨w.heap.size,i+m.length,none⟩ (Z I (c:Int))).ownsRow w.heap.size 3 1 (ah (some ⟨w.heap.size,0,none⟩) (l.length+m.length) (l.length+m.length)) (l.length+m.length) (ints (q.set (i+m.length) c)) ∧
              Below w.heap.size w (wr.setCell ⟨w.heap.size,i+m.length,none⟩ (Z I (c:Int)))∧fZ 10000 (q.set (i+m.length) c)∧(q.set (i+m.length) c).length=l.length+m.length∧(∀ t,i+1+m.length≤t→(q.set (i+m.length) c).getD t 0=0)):=by
            have h1:=(hown.stored (i+m.length) (Z I (c:Int))).1;rw [ints_set] at h1;exact ⟨h1,hb.setCell (aD _) _,Iu.set _ hcb,by rw [List.length_set];exact RD.out,fun t ht=>by rw [A9 zo];exact Rx.out t zo⟩
          clear hown Yk Iu RD Rx hij hd
          go_wp2
          go_roundw
          case rel=>exact ⟨i+1,q.set (i+m.length) c,by omega,by go_num,zh HO.out.2.2.2.1,HO.out.2.2.2.2,HO.out.1,HO.out.2.2.1,HF,HO.out.2.1⟩
          case measure=>exact zM
    · have ab2:i=l.length:=by omega
      subst ab2;clear hc hd;have HF:Hid (val 10000 p=val 10000 l*val 10000 m):=by have:=HV.out;rwa [fG] at this
      have hown3:Gs wr (ah (some ⟨w.heap.size,0,none⟩) (l.length+m.length) (l.length+m.length)) p:=Gs.ig hown;clear hown HV;go_wp2_with (go_at_call 297;refine (wL _ _ _ hown3 hdp).mono ?_;rintro e w' ⟨v,rfl,rfl,hv⟩)
      go_ret
      exact ⟨v,rfl,hb,by rw [← HF.out];exact hv⟩
theorem wD (x y:Value) (a b:Nat) (w:World) (hx:Nm w x a) (hy:Nm w y b) (ha:sz 10000 a≤1099511627776) (hb:sz 10000 b≤1099511627776) :
  Calls Tryz.prog 263 #[x,y] w fun e w'=>∃ v,e= aj v∧Below w.heap.size w w'∧Nm w' v (a*b):=by
 obtain ⟨pa,ca,rfl,h1,h2,h3⟩:=Gs.read hx.gs;obtain ⟨pb,cb,rfl,k1,k2,k3⟩:=Gs.read hy.gs;have:=xL pa pb ca cb _ _ w (cZ zo a) (.inl (cZ zo b)) ha hb h3 k3
 rwa [bQ zo,bQ zo] at this
theorem AA (pl ps:Option Addr) (cl cs:Nat) (l m:List Nat) (w:World) (hl:fZ 10000 l) (hmd:fZ 10000 m) (hb1:l.length≤1099511627776) (hml:m.length≤l.length) (hle:val 10000 m≤val 10000 l)
   (hc:∀ k,k<l.length→∃ b off,pl=some ⟨b,off,none⟩∧b<w.heap.size∧w.cell? ⟨b,off+k,none⟩=some (.int .i64 (l.getD k 0:Nat)))
   (hd:∀ k,k<m.length→∃ b off,ps=some ⟨b,off,none⟩∧b<w.heap.size∧w.cell? ⟨b,off+k,none⟩=some (.int .i64 (m.getD k 0:Nat))) :
    Calls Tryz.prog 300 #[ah pl l.length cl,ah ps m.length cs] w fun e w'=>∃ v,e= aj v∧Below w.heap.size w w'∧Nm w' v (val 10000 l - val 10000 m):=by
  obtain ⟨i0,hi,hz0,hz1,hz2⟩:=info_parts xX;have FY:=zh hle;clear hle;go_enter Tryz.func300,Tryz.ntmps300
  go_wp2
  go_loopw [5,6,7,8] (fun ov cv kv _ wr=>∃ (k c:Nat) (s:List Nat),k≤l.length∧c≤1∧Hid (s.length=k)∧kv= Z I k∧cv= Z I c ∧
      wr.ownsRow w.heap.size 3 1 ov k (ints s)∧fZ 10000 s∧Hid (val 10000 s+val 10000 (m.take k)=val 10000 (l.take k)+c*10000^k)∧Below w.heap.size w wr)
    (fun _ _ kv _ _=>l.length - (intOf kv).toNat)
  case atStart=>exact ⟨0,0,[],Nat.zero_le _,by omega,rfl,rfl,rfl,World.ownsRow_nil _ _ _ _,fZ.nil,(by simp [val]:val _ _+val _ _=val _ _+0*_),Below.refl _ _⟩
  case round =>
    obtain ⟨k,c,s,hk,hc1,HS,rfl,rfl,hown,hds,HV,hb⟩:=hrel
    by_cases hkl:k<l.length
    · obtain ⟨b,off,rfl,hbb,hx0⟩:=hc k hkl
      have hx:wr.cell? ⟨b,off+k,none⟩=some (.int .i64 (l.getD k 0:Nat)):=(hb.cell (by exact hbb)).trans hx0;have hdl:l.getD k 0<10000:=hl.getD zo k
      have HP:Hid (∀ d c',d+m.getD k 0+c=l.getD k 0+c'*10000→val 10000 (s++[d])+val 10000 (m.take (k+1))=val 10000 (l.take (k+1))+c'*10000^(k+1)) :=
        fun d c' h=>Cj hkl HS.out HV.out h
      have ec:∀ (d:Nat) (z:Int),(d:Int)=z→ints s++[Z I z]=ints (s++[d]):=fun d z e=>by
        unfold ints;simp only [List.map_append,bL,gY];rw [e]
      have EC:=zh ec;clear hx0 hc ec
      by_cases hkm:k<m.length
      · obtain ⟨b2,off2,rfl,G6,hy0⟩:=hd k hkm
        have hy:wr.cell? ⟨b2,off2+k,none⟩=some (.int .i64 (m.getD k 0:Nat)):=(hb.cell (by exact G6)).trans hy0;have Mx:m.getD k 0<10000:=hmd.getD zo k;clear hy0 hd;generalize l.getD k 0=x at *;generalize m.getD k 0=y at *
        by_cases hge:x<c+y
        · have hneg:(x:Int) - (c:Int) - (y:Int)<0:=by omega
          have e:=EC.out (x+10000 - (c+y)) ((x:Int) - (c:Int) - (y:Int)+10000) zo;have NZ:=zh e;have HG:=zh hge;clear hge e EC;go_wp2_with (at_builtin;refine wpList_append_own _ rfl (.tmp 35) (.tmp 37) 159 rfl w.heap.size 3 i0 (Z I 0) 1 8 Tryz.underlying159 hi hz0 hz1 hz2 rfl zd _ _ _ rfl (hown.alloc _) ⟨wr.heap.size,0,none⟩ 1 1 [Z I ((x:Int) - (c:Int) - (y:Int)+10000)] rfl rfl (by intro t u ht;match t,ht with|0,ht=>simp at ht;subst ht;simp [Addr.add]) (by intro u hu;simp at hu;subst hu;rfl) (by unfold maxLen;omega) zo (by have:=hb.size;simp;omega) ?_)
          intro v' w1 hown1 hgrow1 _;rw [NZ.out] at hown1;have hb3:Below w.heap.size w w1:=(hb.alloc hb.size _).grown hgrow1 (by simp;have:=hb.size;omega) (fun k hk=>(hown.lt k hk).1);clear hown hgrow1
          go_wp2
          go_roundw
          case rel=>exact ⟨k+1,1,s++[(x+10000 - (c+y))],by omega,by omega,zh (by rw [List.length_append,HS.out];rfl),by go_num,rfl,hown1,hds.snoc (by have:=HG.out;omega),HP.out _ _ (by have:=HG.out;omega),hb3⟩
          case measure=>exact zM
        by_cases hge:¬ x<c+y
        · have hneg:¬ (x:Int) - (c:Int) - (y:Int)<0:=by omega
          have e:=EC.out (x - (c+y)) ((x:Int) - (c:Int) - (y:Int)) zo;have NZ:=zh e;have HG:=zh hge;clear hge e EC;go_wp2_with (at_builtin;refine wpList_append_own _ rfl (.tmp 35) (.tmp 37) 159 rfl w.heap.size 3 i0 (Z I 0) 1 8 Tryz.underlying159 hi hz0 hz1 hz2 rfl zd _ _ _ rfl (hown.alloc _) ⟨wr.heap.size,0,none⟩ 1 1 [Z I ((x:Int) - (c:Int) - (y:Int))] rfl rfl (by intro t u ht;match t,ht with|0,ht=>simp at ht;subst ht;simp [Addr.add]) (by intro u hu;simp at hu;subst hu;rfl) (by unfold maxLen;omega) zo (by have:=hb.size;simp;omega) ?_)
          intro v' w1 hown1 hgrow1 _;rw [NZ.out] at hown1;have hb3:Below w.heap.size w w1:=(hb.alloc hb.size _).grown hgrow1 (by simp;have:=hb.size;omega) (fun k hk=>(hown.lt k hk).1);clear hown hgrow1
          go_wp2
          go_roundw
          case rel=>exact ⟨k+1,0,s++[(x - (c+y))],by omega,by omega,zh (by rw [List.length_append,HS.out];rfl),by go_num,rfl,hown1,hds.snoc (by have:=HG.out;omega),HP.out _ _ (by have:=HG.out;omega),hb3⟩
          case measure=>exact zM
        exact absurd ‹¬ x<c+y› ‹¬ ¬ x<c+y›
      · have hm0:m.getD k 0=0:=by simp [dL hkm]
        rw [hm0] at HP;clear hm0 hd;generalize l.getD k 0=x at *
        by_cases hge:x<c
        · have hneg:(x:Int) - (c:Int)<0:=by omega
          have e:=EC.out (x+10000 - c) ((x:Int) - (c:Int)+10000) zo;have NZ:=zh e;have HG:=zh hge;clear hge e EC;go_wp2_with (at_builtin;refine wpList_append_own _ rfl (.tmp 35) (.tmp 37) 159 rfl w.heap.size 3 i0 (Z I 0) 1 8 Tryz.underlying159 hi hz0 hz1 hz2 rfl zd _ _ _ rfl (hown.alloc _) ⟨wr.heap.size,0,none⟩ 1 1 [Z I ((x:Int) - (c:Int)+10000)] rfl rfl (by intro t u ht;match t,ht with|0,ht=>simp at ht;subst ht;simp [Addr.add]) (by intro u hu;simp at hu;subst hu;rfl) (by unfold maxLen;omega) zo (by have:=hb.size;simp;omega) ?_)
          intro v' w1 hown1 hgrow1 _;rw [NZ.out] at hown1;have hb3:Below w.heap.size w w1:=(hb.alloc hb.size _).grown hgrow1 (by simp;have:=hb.size;omega) (fun k hk=>(hown.lt k hk).1);clear hown hgrow1
          go_wp2
          go_roundw
          case rel=>exact ⟨k+1,1,s++[(x+10000 - c)],by omega,by omega,zh (by rw [List.length_append,HS.out];rfl),by go_num,rfl,hown1,hds.snoc (by have:=HG.out;omega),HP.out _ _ (by have:=HG.out;omega),hb3⟩
          case measure=>exact zM
        by_cases hge:¬ x<c
        · have hneg:¬ (x:Int) - (c:Int)<0:=by omega
          have e:=EC.out (x - c) ((x:Int) - (c:Int)) zo;have NZ:=zh e;have HG:=zh hge;clear hge e EC;go_wp2_with (at_builtin;refine wpList_append_own _ rfl (.tmp 35) (.tmp 37) 159 rfl w.heap.size 3 i0 (Z I 0) 1 8 Tryz.underlying159 hi hz0 hz1 hz2 rfl zd _ _ _ rfl (hown.alloc _) ⟨wr.heap.size,0,none⟩ 1 1 [Z I ((x:Int) - (c:Int))] rfl rfl (by intro t u ht;match t,ht with|0,ht=>simp at ht;subst ht;simp [Addr.add]) (by intro u hu;simp at hu;subst hu;rfl) (by unfold maxLen;omega) zo (by have:=hb.size;simp;omega) ?_)
          intro v' w1 hown1 hgrow1 _;rw [NZ.out] at hown1;have hb3:Below w.heap.size w w1:=(hb.alloc hb.size _).grown hgrow1 (by simp;have:=hb.size;omega) (fun k hk=>(hown.lt k hk).1);clear hown hgrow1
          go_wp2
          go_roundw
          case rel=>exact ⟨k+1,0,s++[(x - c)],by omega,by omega,zh (by rw [List.length_append,HS.out];rfl),by go_num,rfl,hown1,hds.snoc (by have:=HG.out;omega),HP.out _ _ (by have:=HG.out;omega),hb3⟩
          case measure=>exact zM
        exact absurd ‹¬ x<c› ‹¬ ¬ x<c›
    · have hkk:k=l.length:=by omega
      subst hkk;clear hc hd
      have Bj:val 10000 s+val 10000 m=val 10000 l+c*10000^l.length:=by
        have:=HV.out;rwa [fG,dG hml] at this
      have hvs:val 10000 s<10000^l.length:=by have:=iP zo hds;rwa [HS.out] at this
      have hc0:c=0:=by
        rcases aV c with h|h
        · exact h
        · exfalso
          have:c=1:=by omega
          subst this;have:=FY.out;omega
      have HF:Hid (val 10000 s=val 10000 l - val 10000 m):=by subst hc0;unfold Hid;omega
      clear HV Bj hvs FY;have hown3:Gs wr u5 s:=Gs.ig hown;obtain ⟨pa,ca,rfl, -⟩:=hown3.read;clear hown;go_wp2_with (go_at_call 297;refine (wL _ _ _ hown3 hds).mono ?_;rintro e w' ⟨v,rfl,rfl,hv⟩)
      go_ret
      exact ⟨v,rfl,hb,by rw [← HF.out];exact hv⟩
theorem qF (x y:Value) (a b:Nat) (w:World) (hx:Nm w x a) (hy:Nm w y b) (ha:sz 10000 a≤1099511627776) (hle:b≤a) :
  Calls Tryz.prog 300 #[x,y] w fun e w'=>∃ v,e= aj v∧Below w.heap.size w w'∧Nm w' v (a - b):=by
 obtain ⟨pa,ca,rfl,h1,h2,h3⟩:=Gs.read hx.gs;obtain ⟨pb,cb,rfl,k1,k2,k3⟩:=Gs.read hy.gs;have:=AA pa pb ca cb _ _ w (cZ zo a) (cZ zo b) ha (gu zo hle) (by rw [bQ zo,bQ zo];exact hle) h3 k3
 rwa [bQ zo,bQ zo] at this
theorem IL (B:Nat) (l:List Nat) (k:Nat):val B (l.take (k+1))=val B (l.take k)+B^k*l.getD k 0:=by
 by_cases h:k<l.length
 ·exact dO B h
 ·rw [dG zo,dG zo];simp [dL h]
theorem SC {B:Nat} {l m s:List Nat} {k c d c':Nat} (hs:s.length=k) (he:val B s+c*B^k=val B (l.take k)+val B (m.take k)) (h:d+c'*B=c+l.getD k 0+m.getD k 0) :
  val B (s++[d])+c'*B^(k+1)=val B (l.take (k+1))+val B (m.take (k+1)):=by
 rw [iY,IL,IL,hs,bN];have h2:=congrArg (B^k* ·) h;simp only [aX] at h2;rw [show c'*(B^k*B)=B^k*(c'*B) by rw [dN]];rw [aL c (B^k)] at he;omega
def Pp (w:World) (n:Nat) (e:Ending) (w':World):Prop:=∃ v s,e= aj v∧Below w.heap.size w w'∧Gs w' v s∧fZ 10000 s∧val 10000 s=n
theorem Sz (pl ps:Option Addr) (cl cs:Nat) (l m:List Nat) (w:World) (hl:fZ 10000 l) (hmd:fZ 10000 m) (hb1:l.length≤549755813888) (hb2:m.length≤549755813888)
   (hc:∀ k,k<l.length→∃ b off,pl=some ⟨b,off,none⟩∧b<w.heap.size∧w.cell? ⟨b,off+k,none⟩=some (.int .i64 (l.getD k 0:Nat)))
   (hd:∀ k,k<m.length→∃ b off,ps=some ⟨b,off,none⟩∧b<w.heap.size∧w.cell? ⟨b,off+k,none⟩=some (.int .i64 (m.getD k 0:Nat))) :
    Calls Tryz.prog 318 #[ah pl l.length cl,ah ps m.length cs] w (Pp w (val 10000 l+val 10000 m)):=by
  obtain ⟨i0,hi,hz0,hz1,hz2⟩:=info_parts xX;go_enter Tryz.func318,Tryz.ntmps318
  go_wp2
  go_loopw [5,6,7] (fun ov cv kv wr=>∃ (k c:Nat) (s:List Nat),k≤max l.length m.length+1∧c≤1∧(c=0∨k≤max l.length m.length)∧Hid (s.length=k)∧kv= Z I k∧cv= Z I c ∧
      wr.ownsRow w.heap.size 3 1 ov k (ints s)∧fZ 10000 s∧Hid (val 10000 s+c*10000^k=val 10000 (l.take k)+val 10000 (m.take k))∧Below w.heap.size w wr)
    (fun _ _ kv _=>max l.length m.length+1 - (intOf kv).toNat)
  case atStart=>exact ⟨0,0,[],Nat.zero_le _,by omega,.inl rfl,rfl,rfl,rfl,World.ownsRow_nil _ _ _ _,fZ.nil,(by simp [val]:val _ _+0*_=_),Below.refl _ _⟩
  case round =>
    obtain ⟨k,c,s,hk,hc1,hck,HS,rfl,rfl,hown,hds,HV,hb⟩:=hrel
    have HP:Hid (∀ d c',d+c'*10000=c+l.getD k 0+m.getD k 0→val 10000 (s++[d])+c'*10000^(k+1)=val 10000 (l.take (k+1))+val 10000 (m.take (k+1))) :=
      fun d c' h=>SC HS.out HV.out h
    have hdl:l.getD k 0<10000:=hl.getD zo k;have Mx:m.getD k 0<10000:=hmd.getD zo k
    have ec:∀ (d:Nat) (z:Int),(d:Int)=z→ints s++[Z I z]=ints (s++[d]):=fun d z e=>by
      unfold ints;simp only [List.map_append,bL,gY];rw [e]
    have EC:=zh ec;have hl0:¬ k<l.length→l.getD k 0=0:=fun h=>by simp [dL h]
    have hm0:¬ k<m.length→m.getD k 0=0:=fun h=>by simp [dL h]
    have HL0:=zh hl0;have HM0:=zh hm0;clear ec hl0 hm0;have hrun:k<l.length∨k<m.length∨0<c∨(¬ k<l.length∧¬ k<m.length∧c=0):=by omega
    by_cases hfin:¬ k<l.length∧¬ k<m.length∧c=0
    · obtain ⟨n1,n2,rfl⟩:=hfin
      have HF:Hid (val 10000 s=val 10000 l+val 10000 m):=by
        have:=HV.out;rw [dG zo,dG zo] at this;unfold Hid;omega
      have hown3:Gs wr u5 s:=Gs.ig hown;clear hown HV HP EC hc hd HL0 HM0 hrun
      go_wp2
      go_ret
      exact ⟨_,s,rfl,hb,hown3,hds,HF.out⟩
    · have YQ:k≤max l.length m.length:=by omega
      have vH:=zh YQ;have hkb:k≤549755813888:=by omega
      have HNF:=zh hfin;clear hrun hfin YQ hck hk
      have hx:k<l.length→∃ b off,pl=some ⟨b,off,none⟩∧wr.cell? ⟨b,off+k,none⟩=some (.int .i64 (l.getD k 0:Nat)):=fun h=>by
        obtain ⟨b,off,e,hbb,hx0⟩:=hc k h;exact ⟨b,off,e,(hb.cell (by exact hbb)).trans hx0⟩
      have hy:k<m.length→∃ b off,ps=some ⟨b,off,none⟩∧wr.cell? ⟨b,off+k,none⟩=some (.int .i64 (m.getD k 0:Nat)):=fun h=>by
        obtain ⟨b,off,e,hbb,hx0⟩:=hd k h;exact ⟨b,off,e,(hb.cell (by exact hbb)).trans hx0⟩
      have HX:=zh hx;have HY:=zh hy;clear hx hy hc hd HV;generalize l.getD k 0=x at *;generalize m.getD k 0=y at *;have h4:(k<l.length∧k<m.length)∨(k<l.length∧¬ k<m.length)∨(¬ k<l.length∧k<m.length)∨(¬ k<l.length∧¬ k<m.length):=by omega
      rcases h4 with ⟨hkl,hkm⟩|⟨hkl,hkm⟩|⟨hkl,hkm⟩|⟨hkl,hkm⟩
      · obtain ⟨b,off,rfl,hx⟩:=HX.out hkl
        obtain ⟨b2,off2,rfl,hy⟩:=HY.out hkm
        skip
        skip
        skip
        skip
        have e:=EC.out ((c+x+y)%10000) (((c:Int)+(x:Int)+(y:Int))%10000) zo;have NZ:=zh e;have HG:Hid ((c+x+y) / 10000≤1):=zh zo;clear e EC HX HY HL0 HM0;go_wp2_with (at_builtin;refine wpList_append_own _ rfl (.tmp 44) (.tmp 47) 159 rfl w.heap.size 3 i0 (Z I 0) 1 8 Tryz.underlying159 hi hz0 hz1 hz2 rfl zd _ _ _ rfl (hown.alloc _) ⟨wr.heap.size,0,none⟩ 1 1 [Z I (((c:Int)+(x:Int)+(y:Int))%10000)] rfl rfl (by intro t u ht;match t,ht with|0,ht=>simp at ht;subst ht;simp [Addr.add]) (by intro u hu;simp at hu;subst hu;rfl) (by have:=vH.out;unfold maxLen;omega) (by have:=vH.out;omega) (by have:=hb.size;simp;omega) ?_)
        intro v' w1 hown1 hgrow1 _;rw [NZ.out] at hown1;have hb3:Below w.heap.size w w1:=(hb.alloc hb.size _).grown hgrow1 (by simp;have:=hb.size;omega) (fun k hk=>(hown.lt k hk).1);clear hown hgrow1
        go_wp2
        go_roundw
        case rel=>exact ⟨k+1,(c+x+y) / 10000,s++[(c+x+y)%10000],by have:=vH.out;omega,HG.out,by have:=HG.out;omega,zh (by rw [List.length_append,HS.out];rfl),by go_num,by go_num,hown1,hds.snoc zo,HP.out _ _ zo,hb3⟩
        case measure=>simp [intOf];have:=vH.out;omega
      · obtain ⟨b,off,rfl,hx⟩:=HX.out hkl
        skip
        have e0:=HM0.out hkm;have e1:=e0;subst e0
        skip
        have e:=EC.out ((c+x+0)%10000) (((c:Int)+(x:Int))%10000) zo;have NZ:=zh e;have HG:Hid ((c+x+0) / 10000≤1):=zh zo;clear e EC HX HY HL0 HM0;go_wp2_with (at_builtin;refine wpList_append_own _ rfl (.tmp 44) (.tmp 47) 159 rfl w.heap.size 3 i0 (Z I 0) 1 8 Tryz.underlying159 hi hz0 hz1 hz2 rfl zd _ _ _ rfl (hown.alloc _) ⟨wr.heap.size,0,none⟩ 1 1 [Z I (((c:Int)+(x:Int))%10000)] rfl rfl (by intro t u ht;match t,ht with|0,ht=>simp at ht;subst ht;simp [Addr.add]) (by intro u hu;simp at hu;subst hu;rfl) (by have:=vH.out;unfold maxLen;omega) (by have:=vH.out;omega) (by have:=hb.size;simp;omega) ?_)
        intro v' w1 hown1 hgrow1 _;rw [NZ.out] at hown1;have hb3:Below w.heap.size w w1:=(hb.alloc hb.size _).grown hgrow1 (by simp;have:=hb.size;omega) (fun k hk=>(hown.lt k hk).1);clear hown hgrow1
        go_wp2
        go_roundw
        case rel=>exact ⟨k+1,(c+x+0) / 10000,s++[(c+x+0)%10000],by have:=vH.out;omega,HG.out,by have:=HG.out;omega,zh (by rw [List.length_append,HS.out];rfl),by go_num,by go_num,hown1,hds.snoc zo,HP.out _ _ zo,hb3⟩
        case measure=>simp [intOf];have:=vH.out;omega
      · skip
        obtain ⟨b2,off2,rfl,hy⟩:=HY.out hkm;have e0:=HL0.out hkl;have e1:=e0;subst e0
        skip
        have e:=EC.out ((c+0+y)%10000) (((c:Int)+(y:Int))%10000) zo;have NZ:=zh e;have HG:Hid ((c+0+y) / 10000≤1):=zh zo;clear e EC HX HY HL0 HM0;go_wp2_with (at_builtin;refine wpList_append_own _ rfl (.tmp 44) (.tmp 47) 159 rfl w.heap.size 3 i0 (Z I 0) 1 8 Tryz.underlying159 hi hz0 hz1 hz2 rfl zd _ _ _ rfl (hown.alloc _) ⟨wr.heap.size,0,none⟩ 1 1 [Z I (((c:Int)+(y:Int))%10000)] rfl rfl (by intro t u ht;match t,ht with|0,ht=>simp at ht;subst ht;simp [Addr.add]) (by intro u hu;simp at hu;subst hu;rfl) (by have:=vH.out;unfold maxLen;omega) (by have:=vH.out;omega) (by have:=hb.size;simp;omega) ?_)
        intro v' w1 hown1 hgrow1 _;rw [NZ.out] at hown1;have hb3:Below w.heap.size w w1:=(hb.alloc hb.size _).grown hgrow1 (by simp;have:=hb.size;omega) (fun k hk=>(hown.lt k hk).1);clear hown hgrow1
        go_wp2
        go_roundw
        case rel=>exact ⟨k+1,(c+0+y) / 10000,s++[(c+0+y)%10000],by have:=vH.out;omega,HG.out,by have:=HG.out;omega,zh (by rw [List.length_append,HS.out];rfl),by go_num,by go_num,hown1,hds.snoc zo,HP.out _ _ zo,hb3⟩
        case measure=>simp [intOf];have:=vH.out;omega
      · skip
        have hcp:0<c:=Nat.pos_of_ne_zero fun h=>HNF.out ⟨hkl,hkm,h⟩;have e0:=HL0.out hkl;have e1:=HM0.out hkm;subst e0;subst e1;have e:=EC.out ((c+0+0)%10000) ((c:Int)%10000) zo;have NZ:=zh e;have HG:Hid ((c+0+0) / 10000≤1):=zh zo;clear e EC HX HY HL0 HM0;go_wp2_with (at_builtin;refine wpList_append_own _ rfl (.tmp 44) (.tmp 47) 159 rfl w.heap.size 3 i0 (Z I 0) 1 8 Tryz.underlying159 hi hz0 hz1 hz2 rfl zd _ _ _ rfl (hown.alloc _) ⟨wr.heap.size,0,none⟩ 1 1 [Z I ((c:Int)%10000)] rfl rfl (by intro t u ht;match t,ht with|0,ht=>simp at ht;subst ht;simp [Addr.add]) (by intro u hu;simp at hu;subst hu;rfl) (by have:=vH.out;unfold maxLen;omega) (by have:=vH.out;omega) (by have:=hb.size;simp;omega) ?_)
        intro v' w1 hown1 hgrow1 _;rw [NZ.out] at hown1;have hb3:Below w.heap.size w w1:=(hb.alloc hb.size _).grown hgrow1 (by simp;have:=hb.size;omega) (fun k hk=>(hown.lt k hk).1);clear hown hgrow1
        go_wp2
        go_roundw
        case rel=>exact ⟨k+1,(c+0+0) / 10000,s++[(c+0+0)%10000],by have:=vH.out;omega,HG.out,by have:=HG.out;omega,zh (by rw [List.length_append,HS.out];rfl),by go_num,by go_num,hown1,hds.snoc zo,HP.out _ _ zo,hb3⟩
        case measure=>simp [intOf];have:=vH.out;omega
theorem vV (x y:Value) (a b:Nat) (w:World) (hx:Nm w x a) (hy:Nm w y b) (ha:sz 10000 a≤549755813888) (hb:sz 10000 b≤549755813888) :
  Calls Tryz.prog 318 #[x,y] w (Pp w (a+b)):=by
 obtain ⟨pa,ca,rfl,h1,h2,h3⟩:=Gs.read hx.gs;obtain ⟨pb,cb,rfl,k1,k2,k3⟩:=Gs.read hy.gs;have:=Sz pa pb ca cb _ _ w (cZ zo a) (cZ zo b) ha hb h3 k3
 rwa [bQ zo,bQ zo] at this
theorem wpList_append_run {P:Program} {ops:Array Oper} {rest:List Oper} {o:Oper} {a:Act} {w w':World} {Q:Exit→Act→World→Prop} (hgd:o.guard=none) (s x:Operand) (t:TypeId)
  (ho:o.op= .call { callee:=.builtin .append,args:=#[s,x],argTypes:=#[t,t] }) {vs vx v:Value} (hs:a.eval s=vs) (hx:a.eval x=vx)
  (hr:∀ ty,(Builtin.append_ #[t,t] ty #[vs,vx]).run P w= .ok v w') (h:wpList P ops Q rest (a.put o.dst v) w'):wpList P ops Q (o::rest) a w :=
 wpList_plain hgd fun _ hK=>by
  unfold Oper.wp execOp;simp only [ho,resolve,invoke,builtin,Sem.run_bind,Sem.run_pure,Result.andThen_ok,List.map_toArray,bL,gY,hs,hx,hr];exact hK _ _ h
theorem wQ (W:World) (g:Nat) (ds l:List Nat) (v:Value) (hx:aA W g (ints ds).toArray 3) (h:Gs W v l) (hl:ds.length+l.length≤1099511627776) :
  ∃ v' W',(∀ ty,(Builtin.append_ #[159,159] ty #[ah (some ⟨g,0,none⟩) ds.length ds.length,v]).run Tryz.prog W= .ok v' W')∧Gs W' v' (ds++l)∧Below W.heap.size W W'∧∃ b o n c,v'= ah (some ⟨b,o,none⟩) n c∧(b=g∨b=W.heap.size):=by
 obtain ⟨i0,hi,hz0,hz1,hz2⟩:=info_parts xX
 have hcell:∀ (w':World),w'.heap=W.heap→∀ j u,(ints ds)[j]? =some u→w'.cell? ((⟨g,0,none⟩:Addr).add j)=some u:=fun w' hw j u hu=>by
  have hx':aA w' g (ints ds).toArray 3:=by unfold aA at*; rw [hw];exact hx
  rw [Addr.add_lit,hx'.cell,dK,List.getElem?_toArray,hu]
 have same:l=[]→Gs W (ah (some ⟨g,0,none⟩) ds.length ds.length) (ds++l):=fun e=>by
  subst e;rw [List.append_nil];refine Row.mk (by rw [dI]) (by rw [dI];exact aD _) zo hx fun i hi=>?_;rw [dK,List.getElem?_toArray];exact List.getElem?_eq_getElem hi
 have room:∀ (x:Value),l=[]→Src Tryz.prog i0.size 159 x 0 [] W→∃ v' W',(∀ ty,(Builtin.append_ #[159,159] ty #[ah (some ⟨g,0,none⟩) ds.length ds.length,x]).run Tryz.prog W= .ok v' W')∧Gs W' v' (ds++l)∧Below W.heap.size W W'∧∃ b o n c,v'= ah (some ⟨b,o,none⟩) n c∧(b=g∨b=W.heap.size):=fun x e hs =>
  ⟨_,_,fun ty=>run_append_room_src W 159 159 ty 3 i0 Tryz.underlying159 hi g 0 ds.length ds.length x 0 [] hs zo (fun j hj=>by cases hj) (fun j hj=>by cases hj),by simpa [World.setCells] using same e,by simpa [World.setCells] using Below.refl _ _,_,_,_,_,rfl,.inl rfl⟩
 rcases Gs.cases h with ⟨rfl,rfl⟩|⟨b,off,cap,rfl,h1,h2,h3, -, h5⟩
 ·exact room _ rfl (Src.ofNil W Tryz.underlying159 0)
 ·by_cases hl0:l.length=0
  ·have e:=List.length_eq_zero_iff.1 hl0;have hs:Src Tryz.prog i0.size 159 (ah (some ⟨b,off,none⟩) 0 cap) 0 [] W:=Src.ofSlice W Tryz.underlying159 ⟨b,off,none⟩ 0 cap [] zi (fun j u hu=>by cases hu) (fun u hu=>by cases hu);rw [hl0];exact room _ e hs
  ·have hs:Src Tryz.prog i0.size 159 (ah (some ⟨b,off,none⟩) l.length cap) l.length (ints l) W:=Src.ofSlice W Tryz.underlying159 ⟨b,off,none⟩ l.length cap (ints l) (by rw [dI,hz1];simp) (fun j u hu=>by
    have hj:j<l.length:=by
     have:=(List.getElem?_eq_some_iff.1 hu).1;rwa [dI] at this
    rw [um hj] at hu;rw [Addr.add_lit,h5 j hj,← hu]) (Go.Mem.ints_oneCell l)
   have hold:(Builtin.firstCells i0.size ds.length (ah (some ⟨g,0,none⟩) ds.length ds.length)).run Tryz.prog W.drew= .ok (ints ds).toArray W.drew :=
    run_firstCells_some W.drew i0.size ds.length ⟨g,0,none⟩ ds.length ds.length (ints ds) (by rw [dI,hz1];simp) (hcell W.drew rfl)
   refine ⟨_,_,fun ty=>run_append_grow_src W 159 159 ty 3 i0 (Z I 0) Tryz.underlying159 hi hz0 (some ⟨g,0,none⟩) ds.length ds.length (ints ds) hold _ l.length (ints l) hs zo zo (growslice_fits_wide zo (by rw [hz2];omega)),?_,?_,_,_,_,_,rfl,.inr rfl⟩
   ·refine Row.mk (by rw [dI,List.length_append]) ?_ ?_ (aA.new _ _ _) fun i hi=>?_
    ·rw [dI,List.length_append];exact grownCap_ge _ _ _ _
    ·have:=grownCap_le_maxLen W (ds.length+l.length) ds.length 3 (by unfold maxLen;omega);unfold maxLen at this;omega
    ·rw [dI,List.length_append] at hi;rw [dK,Array.getElem?_append_left (by simp [ints];omega),List.getElem?_toArray];have e:ints ds++ints l=ints (ds++l):=by unfold ints;rw [List.map_append]
     rw [e];exact List.getElem?_eq_getElem (by rw [dI,List.length_append];exact hi)
   ·exact (Below.drew (Below.refl _ _)).alloc zi _
end Go.Proofs.aC
