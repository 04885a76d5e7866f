/- Lemmas for the proof. No condition. -/
import Derived.Test.YtbngfhgoeoncmaaGreatDoorWB05
import Derived.Deep.QuietTactic
import Derived.BigQuiet
import Derived.WalkSmall
import Derived.Deep.AppendSrc
import Derived.Deep.DeepAppendWide
set_option linter.unusedVariables false
set_option linter.unusedSimpArgs false
set_option maxRecDepth 100000
set_option maxHeartbeats 16000000
open Bool renaming eq_iff_iff → iZ
open Go.Ending renaming returned → aj
open Go.IntKind renaming i64 → I
open Go.Value renaming bool → ak, int → Z, slice → ah, tuple → aD
open List renaming append_assoc → jP, getD_eq_getElem?_getD → cO, getElem_mem → dx, length_cons → aV, map_cons → bH, map_nil → gM, replicate → bJ, take_append_drop → gJ, take_length → eX, take_of_length_le → fu
open Nat renaming add_assoc → kY, add_comm → iH, add_mul → dM, add_zero → fZ, div_add_mod → dG, div_eq_of_lt → fD, div_lt_iff_lt_mul → dz, eq_zero_or_pos → aY, le_of_lt → kM, le_of_not_lt → dJ, le_refl → aC, le_trans → au, lt_of_lt_of_le → aP, lt_or_ge → aH, min_eq_left → kU, mod_eq_of_lt → fQ, mod_lt → gH, mul_add → aX, mul_assoc → dA, mul_comm → aJ, mul_le_mul → fq, mul_le_mul_left → aT, mul_le_mul_right → aU, mul_left_comm → dN, mul_pos → gV, one_mul → iL, pow_le_pow_right → bW, pow_succ → bS, zero_add → dP
namespace Go.Proofs.aK
open Go Go.RowKit Go.SW Go.Num Go.Mem Go.Proofs
theorem wE:(Tryz.prog.info? 3).map (fun i=>(i.zero,i.size,i.bytes))=some (some (.int .i64 0),1,8):=by kernel_rfl
theorem MS (b off c:Nat) (l:List Nat) (w:World) (hl:l.length≤c) (hm:c≤9223372036854775807)
   (hc:∀ k,k<l.length→w.cell? ⟨b,off+k,none⟩=some (.int .i64 (l.getD k 0:Nat))) :
    Calls Tryz.prog 294 #[ah (some ⟨b,off,none⟩) l.length c] w fun e w'=>e= aj (ah (some ⟨b,off,none⟩) (trimLen l l.length) c)∧w=w':=by
  go_enter Tryz.func294,Tryz.ntmps294
  go_wp2
  go_loop [3] (fun v=>∃ k:Nat,k≤l.length∧trimLen l k=trimLen l l.length∧v= Z I k) (fun v=>(intOf v).toNat)
  case atStart=>exact ⟨l.length,aC _,rfl,rfl⟩
  case round =>
    obtain ⟨k,hk,ht,rfl⟩:=hrel;have HT:=zh ht;clear ht
    rcases aY k with h0|h0
    · subst h0
      go_wp2
      go_ret
      exact ⟨by rw [← HT.out];rfl,rfl⟩
    · obtain ⟨j,rfl⟩:∃ j,k=j+1:=⟨k - 1,by omega⟩
      have hcj:=hc j zo;have HS:Hid (trimLen l (j+1)=if l.getD j 0=0 then trimLen l j else j+1):=rfl;generalize l.getD j 0=d at hcj HS;clear hc
      rcases aY d with hd|hd
      · subst hd
        go_wp2
        go_round
        case rel=>exact ⟨j,by omega,by rw [← HT.out,HS.out];rfl,by go_num⟩
        case measure=>simp [intOf]
      · have hz:((d:Int) == 0)=false:=by simp;omega
        go_wp2
        go_ret
        exact ⟨by rw [← HT.out,HS.out,if_neg zo];rfl,rfl⟩
theorem ab1 (w:World):Calls Tryz.prog 294 #[ah none 0 0] w fun e w'=>e= aj (ah none 0 0)∧w=w':=by
 go_enter Tryz.func294,Tryz.ntmps294
 go_wp2
 refine wp_loop_rounds 1 ?_;rw [rounds_succ]
 go_wp2
 go_ret
 exact ⟨rfl,rfl⟩
theorem yT (v:Value) (l:List Nat) (w:World) (h:Gs w v l) (hd:fV 10000 l) :
  Calls Tryz.prog 294 #[v] w fun e w'=>∃ v',e= aj v'∧w=w'∧Nm w v' (val 10000 l):=by
 rcases Gs.cases h with ⟨rfl,rfl⟩|⟨b,off,cap,rfl,h1,h2,h3,⟨arr,h4⟩,h5⟩
 ·refine (ab1 w).mono ?_;rintro e w' ⟨rfl,rfl⟩;exact ⟨_,rfl,rfl,by rw [show val 10000 ([]:List Nat)=0 from rfl];exact Nm.zero _⟩
 ·refine (MS b off cap l w h1 h2 h5).mono ?_;rintro e w' ⟨rfl,rfl⟩;refine ⟨_,rfl,rfl,?_⟩;have ht:=trimLen_le l l.length;have e:val 10000 l=val 10000 (l.take (trimLen l l.length)):=by rw [zw _ _ _ (aC _)];simp
  rw [e];refine Nm.Vw ?_ (hd.take _) (zx l _ (aC _));refine Row.mk (arr:=arr) (by rw [dH];simp;omega) (by rw [dH];simp;omega) h2 h4 fun i hi=>?_;rw [dH] at hi;have hi2:i<l.length:=by simp at hi;omega
  have:=h5 i hi2;rw [h4.cell] at this;rw [this];simp [ints,hi2]
theorem oN (b:Bool) (v:Value) (l:List Nat) (w:World) (h:Gs w v l) (hd:fV 10000 l) :
  Calls Tryz.prog 258 #[ak b,v] w fun e w'=>∃ v',e= aj v'∧Bw w w'∧Pl w' v' (iR (val 10000 l) b):=by
 have h0:Below w.heap.size w (w.alloc (.cells #[ak false,ah none 0 0] 179)):=aI;have hx:=aA.new w #[ak false,ah none 0 0] 179;have HG:=zh (yT v l _ (h.later h0) hd);obtain ⟨a0,c0,rfl, -⟩:=h.read;obtain ⟨W,EW⟩:∃ y,w.alloc (.cells #[ak false,ah none 0 0] 179)=y:=⟨_,rfl⟩;rw [EW] at h0 hx HG;have cx:=hx.cell;have fx:=hx.free;generalize val 10000 l=n at *;clear h hd;go_enter Tryz.func258,Tryz.ntmps258
 go_wp2_with fail
 clear EW;refine HG.out.mono ?_;rintro e w' ⟨v',rfl,rfl,hv⟩;obtain ⟨pa,len,ca,rfl⟩:=hv.slice
 have hl:Hid (len=sz 10000 n):=zh (by
  obtain ⟨a,cap,e, -⟩:=hv.read;simp only [Value.slice.injEq] at e;exact e.2.1)
 have HV:=zh hv
 have Q6:∀ b:Bool,Hid ((b&&decide ((0:Int)<(len:Int)))=decide (iR n b<0)):=fun b=>zh (by
  rw [← UU]
  have h2:0<n↔0<len:=by
   rw [hl.out];unfold sz;rw [List.length_pos_iff,Ne,pz zo];omega
  rw [show decide ((0:Int)<(len:Int))=decide (0<n) by rw [iZ];simp;omega])
 clear hv;cases b
 ·have HB:=Q6 false;clear Q6;go_wp2_with fail
  refine gG rfl rfl bq Tryz.underlying179 rfl zk ?_;exact ⟨_,rfl,aI,Pl.mk ((HV.out.setOther hx zd 0 _).setOther (hx.set 0 _) zd 1 _) (jD _ _).symm (by rw [← HB.out];rfl)⟩
 ·have HB:=Q6 true;clear Q6;go_wp2_with fail
  refine gG rfl rfl bq Tryz.underlying179 rfl zk ?_;exact ⟨_,rfl,aI,Pl.mk ((HV.out.setOther hx zd 0 _).setOther (hx.set 0 _) zd 1 _) (jD _ _).symm (by rw [← HB.out];simp)⟩
theorem Av (v:Value) (z:Int) (w:World) (h:Pl w v z) :
  Calls Tryz.prog 261 #[v] w fun e w'=>∃ v',e= aj v'∧Bw w w'∧Pl w' v' (-z):=by
 obtain ⟨b,pa,l,ca,rfl⟩:=h.agg;obtain ⟨hn,hbz⟩:=h.nm;have h0:Below w.heap.size w ((w.alloc (.cells #[ak b,ah pa l ca] 179)).alloc (.cells #[ak false,ah none 0 0] 179)):=aI;have hx:=aA.qW w (.cells #[ak b,ah pa l ca] 179) #[ak false,ah none 0 0] 179;have ha:=aA.alloc (aA.new w #[ak b,ah pa l ca] 179) (.cells #[ak false,ah none 0 0] 179);have HG:=zh (fun W (hb:Bw w W)=>oN (!b) (ah pa l ca) _ W (hn.gs.later hb) (dw zo _));have hs:iR z.natAbs (!b)= -z:=by rw [hbz,UO]
 rw [bN zo,hs] at HG;obtain ⟨W,EW⟩:∃ y,(w.alloc (.cells #[ak b,ah pa l ca] 179)).alloc (.cells #[ak false,ah none 0 0] 179)=y:=⟨_,rfl⟩;rw [EW] at h0 hx ha;have Ob:=ha.cell;have cx:=hx.cell;have fx:=hx.free;clear hn ha h hbz hs;go_enter Tryz.func261,Tryz.ntmps261
 go_wp2_with fail
 clear EW Ob cx fx;refine (HG.out _ h0).mono ?_;rintro e w' ⟨v',rfl,hb,hv⟩;obtain ⟨bNV,ao8,lNV,ax8,rfl⟩:=hv.agg;have NV:=zh hv;clear hv;have hy:=hx.later hb;have cy:=hy.cell;have fy:=hy.free;go_wp2_with fail
 refine gG rfl rfl bq Tryz.underlying179 rfl zk ?_;exact ⟨_,rfl,aI,NV.out.set2 hy zd _ _ _ _⟩
theorem Gu (n:Int) (w:World) (h1: -9223372036854775808≤n) (h2:n≤9223372036854775807) :
  Calls Tryz.prog 257 #[Z I n] w fun e w'=>∃ v',e= aj v'∧Bw w w'∧Pl w' v' n:=by
 obtain ⟨i0,hi,hz0,hz1,hz2⟩:=info_parts wE;have h0:Below w.heap.size w (w.alloc (.cells #[ak false,ah none 0 0] 179)):=aI;have hx:=aA.new w #[ak false,ah none 0 0] 179;have HN:=zh (And.intro h1 h2);clear h1 h2;go_enter Tryz.func257,Tryz.ntmps257
 go_wp2
 go_loopw [0,3,5] (fun nv dv _ wr=>∃ (m:Int) (s:List Nat),nv= Z I m∧Hid (-9223372036854775808≤m∧m≤9223372036854775807∧(m=0∨(m<0↔n<0)))∧s.length≤5∧wr.ownsRow (w.heap.size+1) 3 1 dv s.length (ints s)∧Hid (s++d9 10000 m.natAbs=d9 10000 n.natAbs)∧Below (w.heap.size+1) (w.alloc (.cells #[ak false,ah none 0 0] 179)) wr)
  (fun nv _ _ _=>(intOf nv).natAbs)
 case atStart=>exact ⟨n,[],rfl,zh ⟨HN.out.1,HN.out.2,.inr Iff.rfl⟩,by simp,World.ownsRow_nil _ _ _ _,zh rfl,Below.refl _ _⟩
 case round =>
  obtain ⟨m,s,rfl,HM,hs5,hown,HD,hb⟩:=hrel
  by_cases hm0:m=0
  ·subst hm0
   have hdg:fV 10000 s:=by
    have:=HD.out;rw [Int.natAbs_zero,iA,List.append_nil] at this;rw [this];exact dw zo _
   have hs:val 10000 s=n.natAbs:=by
    have:=HD.out;rw [Int.natAbs_zero,iA,List.append_nil] at this;rw [this,bN zo]
   have h1:Bw w wr:=⟨hb.os,hb.tape,hb.output,au zi hb.size,fun i hi=>(hb.block i zo).trans (h0.block i hi)⟩;have zm:=hx.later (w':=wr) ⟨hb.os,hb.tape,hb.output,by have:=hb.size;simpa using this,fun i hi=>hb.block i (by simpa using hi)⟩;have cx:=zm.cell;have fx:=zm.free;have HG:=zh (oN (decide (n<0)) u3 s wr (Gs.gP hown) hdg);rw [hs,UR] at HG;obtain ⟨pa,ca,rfl, -⟩:=(Gs.gP hown).read;generalize decide (n<0)=b0 at *;clear hs hdg hown HD HM HN hx h0 hb;go_wp2_with fail
   refine HG.out.mono ?_;rintro e w' ⟨v',rfl,hb,hv⟩;obtain ⟨bNV,ao8,lNV,ax8,rfl⟩:=hv.agg;have NV:=zh hv;clear hv;have hy:=zm.later hb;clear cx fx;have cy:=hy.cell;have fy:=hy.free;go_wp2_with fail
   refine gG rfl rfl bq Tryz.underlying179 rfl zk ?_;exact ⟨_,rfl,aI,NV.out.set2 hy zd _ _ _ _⟩
  ·have hne:(m == 0)=false:=by simp [hm0]
   have hne':(m != 0)=true:=by simp [hm0]
   have hnp:0<m.natAbs:=by omega
   have hdv:m.natAbs / 10000<m.natAbs:=Nat.div_lt_self hnp zo
   have HNX:Hid ((s++[m.natAbs%10000])++d9 10000 (m.natAbs / 10000)=d9 10000 n.natAbs):=by
    unfold Hid;rw [← HD.out,mD zo hnp,jP];rfl
   have hl5:s.length+1≤5:=by
    have k1:=congrArg List.length HNX.out;have k2:=dF (B:=10000) zo 5 n.natAbs (by have:=HN.out;omega);unfold sz at k2;simp only [List.length_append,aV,List.length_nil] at k1;omega
   have NM:=zh (And.intro hnp hdv);clear hnp hdv
   have hpart:(∃ j:Nat,m= -(j:Int)∧(j:Int)%10000=0)∨(∃ j:Nat,m= -(j:Int)∧0<(j:Int)%10000)∨∃ j:Nat,m=(j:Int)∧¬ (j:Int)%10000<0:=by
    rcases Int.lt_or_gt_of_ne hm0 with hlt|hgt
    ·by_cases hj:m.natAbs%10000=0
     ·exact .inl ⟨m.natAbs,by omega,by omega⟩
     ·exact .inr (.inl ⟨m.natAbs,by omega,by omega⟩)
    ·exact .inr (.inr ⟨m.natAbs,by omega,by omega⟩)
   rcases hpart with ⟨j,rfl,hjm⟩|⟨j,rfl,hjm⟩|⟨j,rfl,hjm⟩
   ·have hM:=HM.out;obtain ⟨k1,k2,k3⟩:=hM;have ej:((-(j:Int))).natAbs=j:=by omega
    rw [ej] at HNX NM
    have ec:Hid (ints s++[Z I 0]=ints (s++[j%10000])):=zh (by
     unfold ints;simp only [List.map_append,bH,gM];rw [show ((j%10000:Nat):Int)=0 by omega])
    have HK:=zh k3;clear HD k3;go_wp2_with (at_builtin;refine wpList_append_own _ rfl (.tmp 16) (.tmp 18) 167 rfl (w.heap.size+1) 3 i0 (Z I 0) 1 8 Tryz.underlying167 hi hz0 hz1 hz2 rfl zd _ _ _ rfl (hown.alloc _) ⟨wr.heap.size,0,none⟩ 1 1 [Z I 0] rfl rfl (by intro t u ht;match t,ht with|0,ht=>simp at ht;subst ht;simp [Addr.add]) (by intro u hu;simp at hu;subst hu;rfl) (by unfold maxLen;omega) zo (by have:=hb.size;simp at*; omega) ?_)
    intro v' w1 hown1 hgrow1 _;rw [ec.out] at hown1;have hb3:Below (w.heap.size+1) (w.alloc (.cells #[ak false,ah none 0 0] 179)) w1:=(hb.alloc (by have:=hb.size;simpa using this) _).grown hgrow1 (by simp;have:=hb.size;simp at*; omega) (fun k hk=>(hown.lt k hk).1);clear hown hgrow1
    go_wp2
    go_roundw
    case rel=>exact ⟨(-((j:Int) / 10000)),s++[j%10000],rfl,zh (by have:=HK.out;omega),by rw [List.length_append];exact hl5,by rw [List.length_append];exact hown1,zh (by rw [show ((-((j:Int) / 10000))).natAbs=j / 10000 by omega];exact HNX.out),hb3⟩
    case measure=>exact zM
   ·have hM:=HM.out;obtain ⟨k1,k2,k3⟩:=hM;have ej:((-(j:Int))).natAbs=j:=by omega
    rw [ej] at HNX NM
    have ec:Hid (ints s++[Z I ((j:Int)%10000)]=ints (s++[j%10000])):=zh (by
     unfold ints;simp only [List.map_append,bH,gM];rw [show ((j%10000:Nat):Int)=((j:Int)%10000) by omega])
    have HK:=zh k3;clear HD k3;go_wp2_with (at_builtin;refine wpList_append_own _ rfl (.tmp 16) (.tmp 18) 167 rfl (w.heap.size+1) 3 i0 (Z I 0) 1 8 Tryz.underlying167 hi hz0 hz1 hz2 rfl zd _ _ _ rfl (hown.alloc _) ⟨wr.heap.size,0,none⟩ 1 1 [Z I ((j:Int)%10000)] rfl rfl (by intro t u ht;match t,ht with|0,ht=>simp at ht;subst ht;simp [Addr.add]) (by intro u hu;simp at hu;subst hu;rfl) (by unfold maxLen;omega) zo (by have:=hb.size;simp at*; omega) ?_)
    intro v' w1 hown1 hgrow1 _;rw [ec.out] at hown1;have hb3:Below (w.heap.size+1) (w.alloc (.cells #[ak false,ah none 0 0] 179)) w1:=(hb.alloc (by have:=hb.size;simpa using this) _).grown hgrow1 (by simp;have:=hb.size;simp at*; omega) (fun k hk=>(hown.lt k hk).1);clear hown hgrow1
    go_wp2
    go_roundw
    case rel=>exact ⟨(-((j:Int) / 10000)),s++[j%10000],rfl,zh (by have:=HK.out;omega),by rw [List.length_append];exact hl5,by rw [List.length_append];exact hown1,zh (by rw [show ((-((j:Int) / 10000))).natAbs=j / 10000 by omega];exact HNX.out),hb3⟩
    case measure=>exact zM
   ·have hM:=HM.out;obtain ⟨k1,k2,k3⟩:=hM;have ej:((j:Int)).natAbs=j:=by omega
    rw [ej] at HNX NM
    have ec:Hid (ints s++[Z I ((j:Int)%10000)]=ints (s++[j%10000])):=zh (by
     unfold ints;simp only [List.map_append,bH,gM];rw [show ((j%10000:Nat):Int)=((j:Int)%10000) by omega])
    have HK:=zh k3;clear HD k3;go_wp2_with (at_builtin;refine wpList_append_own _ rfl (.tmp 16) (.tmp 18) 167 rfl (w.heap.size+1) 3 i0 (Z I 0) 1 8 Tryz.underlying167 hi hz0 hz1 hz2 rfl zd _ _ _ rfl (hown.alloc _) ⟨wr.heap.size,0,none⟩ 1 1 [Z I ((j:Int)%10000)] rfl rfl (by intro t u ht;match t,ht with|0,ht=>simp at ht;subst ht;simp [Addr.add]) (by intro u hu;simp at hu;subst hu;rfl) (by unfold maxLen;omega) zo (by have:=hb.size;simp at*; omega) ?_)
    intro v' w1 hown1 hgrow1 _;rw [ec.out] at hown1;have hb3:Below (w.heap.size+1) (w.alloc (.cells #[ak false,ah none 0 0] 179)) w1:=(hb.alloc (by have:=hb.size;simpa using this) _).grown hgrow1 (by simp;have:=hb.size;simp at*; omega) (fun k hk=>(hown.lt k hk).1);clear hown hgrow1
    go_wp2
    go_roundw
    case rel=>exact ⟨((j:Int) / 10000),s++[j%10000],rfl,zh (by have:=HK.out;omega),by rw [List.length_append];exact hl5,by rw [List.length_append];exact hown1,zh (by rw [show (((j:Int) / 10000)).natAbs=j / 10000 by omega];exact HNX.out),hb3⟩
    case measure=>exact zM
def Ord (r:Int) (a b:Nat):Prop:=(r≤0↔a≤b)∧(0≤r↔b≤a)
def RF (w:World) (a b:Nat) (e:Ending) (w':World):Prop:=∃ r:Int,e= aj (Z I r)∧Bw w w'∧Ord r a b
theorem Ord.lt {r:Int} {a b:Nat} (h:a<b) (hr:r<0):Ord r a b:=⟨⟨fun _=>by omega,fun _=>by omega⟩,⟨fun _=>by omega,fun _=>by omega⟩⟩
theorem Ord.gt {r:Int} {a b:Nat} (h:b<a) (hr:0<r):Ord r a b:=⟨⟨fun _=>by omega,fun _=>by omega⟩,⟨fun _=>by omega,fun _=>by omega⟩⟩
theorem Ord.eq (a:Nat):Ord 0 a a:=⟨⟨fun _=>by omega,fun _=>by omega⟩,⟨fun _=>by omega,fun _=>by omega⟩⟩
theorem SF (a b:Option Addr) (m n c d:Nat) (w:World) (h:m≠n) (hm:m≤9223372036854775807) (hn:n≤9223372036854775807) :
  Calls Tryz.prog 296 #[ah a m c,ah b n d] w fun e w'=>e= aj (Z I ((m:Int) - (n:Int)))∧w=w':=by
 have h1:((m:Int) == (n:Int))=false:=by simp;omega
 have h2:((m:Int) != (n:Int))=true:=by simp;omega
 go_enter Tryz.func296,Tryz.ntmps296
 go_wp2
 go_ret
 exact ⟨rfl,rfl⟩
theorem OJ (pa pb:Option Addr) (ca cb:Nat) (l m:List Nat) (w:World) (hlen:l.length=m.length) (hm:l.length≤9223372036854775807) (hl:fV 10000 l) (hmd:fV 10000 m)
   (hc:∀ k,k<l.length→∃ b off,pa=some ⟨b,off,none⟩∧b<w.heap.size∧w.cell? ⟨b,off+k,none⟩=some (.int .i64 (l.getD k 0:Nat)))
   (hd:∀ k,k<m.length→∃ b off,pb=some ⟨b,off,none⟩∧b<w.heap.size∧w.cell? ⟨b,off+k,none⟩=some (.int .i64 (m.getD k 0:Nat))) :
    Calls Tryz.prog 296 #[ah pa l.length ca,ah pb m.length cb] w (RF w (val 10000 l) (val 10000 m)):=by
  have HL:=zh hlen;clear hlen;rw [← HL.out];have h1:((l.length:Int) == (l.length:Int))=true:=by simp
  have h2:((l.length:Int) != (l.length:Int))=false:=by simp
  go_enter Tryz.func296,Tryz.ntmps296
  go_wp2
  clear h1 h2
  go_loopw [5] (fun i wr=>∃ q:Int, -1≤q∧q<l.length∧i= Z I q∧l.drop (q+1).toNat=m.drop (q+1).toNat∧Bw w wr) (fun i _=>(intOf i+1).toNat)
  case atStart=>exact ⟨(l.length:Int) - 1,by omega,by omega,rfl,by rw [show ((l.length:Int) - 1+1).toNat=l.length by omega,List.drop_length];rw [HL.out,List.drop_length],Below.refl _ _⟩
  case round =>
    obtain ⟨q,hq1,hq2,rfl,hdr,hb⟩:=hrel;have HD:=zh hdr;clear hdr
    by_cases hq:q<0
    · have hq0:q= -1:=by omega
      subst hq0
      go_wp2
      go_ret
      have e:l=m:=by have:=HD.out;simpa using this
      rw [e];exact ⟨0,rfl,hb,Ord.eq _⟩
    · obtain ⟨j,rfl⟩:=Int.eq_ofNat_of_zero_le (by omega:0≤q)
      have hjl:j<l.length:=by omega
      have hjm:j<m.length:=by rw [← HL.out];exact hjl
      obtain ⟨ba,oa,rfl,hba,hx0⟩:=hc j hjl;obtain ⟨bb,ob,rfl,hbb,hy0⟩:=hd j hjm;have hx:wr.cell? ⟨ba,oa+j,none⟩=some (.int .i64 (l.getD j 0:Nat)):=(hb.cell (by exact hba)).trans hx0;have hy:wr.cell? ⟨bb,ob+j,none⟩=some (.int .i64 (m.getD j 0:Nat)):=(hb.cell (by exact hbb)).trans hy0;clear hx0 hy0;have HD2:Hid (l.drop (j+1)=m.drop (j+1)):=by have:=HD.out;rwa [show ((j:Int)+1).toNat=j+1 by omega] at this
      have hlt:Hid (l.getD j 0<m.getD j 0→val 10000 l<val 10000 m):=xq zo hl hjl hjm HD2.out;have hgt:Hid (m.getD j 0<l.getD j 0→val 10000 m<val 10000 l):=xq zo hmd hjm hjl HD2.out.symm;have heq:Hid (l.getD j 0=m.getD j 0→l.drop j=m.drop j):=fun e=>by rw [kF hjl,kF hjm,HD2.out,e]
      have hdx:=hl.getD zo j;have hdy:=hmd.getD zo j;generalize l.getD j 0=x at *;generalize m.getD j 0=y at *;clear HD HD2 hc hd
      by_cases hxy:x=y
      · subst hxy
        have h1:((x:Int) == (x:Int))=true:=by simp
        have h2:((x:Int) != (x:Int))=false:=by simp
        go_wp2
        go_quiet (fail)
        go_wp2
        go_roundw
        case rel=>exact ⟨(j:Int) - 1,by omega,by omega,rfl,by rw [show ((j:Int) - 1+1).toNat=j by omega];exact heq.out trivial,below_drewN hb _⟩
        case measure=>simp [intOf]
      · have h1:((x:Int) == (y:Int))=false:=by simp;omega
        have h2:((x:Int) != (y:Int))=true:=by simp;omega
        go_wp2
        go_quiet (fail)
        have HXY:=zh hxy;have hx9:x<10000:=by have:=hdx;omega
        have hy9:y<10000:=by have:=hdy;omega
        clear hxy
        go_wp2
        go_quiet (fail)
        go_wp2
        go_ret
        refine ⟨(x:Int) - (y:Int),rfl,below_drewN (below_drewN hb _) _,?_⟩;have:=HXY.out
        rcases Nat.lt_or_gt_of_ne HXY.out with h|h
        · exact Ord.lt (hlt.out h) zo
        · exact Ord.gt (hgt.out h) zo
theorem vZ (x y:Value) (a b:Nat) (w:World) (hx:Nm w x a) (hy:Nm w y b) :
  Calls Tryz.prog 296 #[x,y] w (RF w a b):=by
 by_cases hs:sz 10000 a=sz 10000 b
 ·obtain ⟨pa,ca,rfl,h1,h2,h3⟩:=Gs.read hx.gs;obtain ⟨pb,cb,rfl,k1,k2,k3⟩:=Gs.read hy.gs;have:=OJ pa pb ca cb _ _ w hs zo (dw zo a) (dw zo b) h3 k3
  rwa [bN zo,bN zo] at this
 ·obtain ⟨pa,ca,rfl,h1,h2, -⟩:=hx.read;obtain ⟨pb,cb,rfl,k1,k2, -⟩:=hy.read;refine (SF pa pb _ _ ca cb w hs zo zo).mono ?_;rintro e w' ⟨rfl,rfl⟩;refine ⟨_,rfl,Below.refl _ _,?_⟩
  rcases Nat.lt_or_gt_of_ne hs with h|h
  ·exact Ord.lt (wB zo h) zo
  ·exact Ord.gt (wB zo h) zo
theorem SG (pl:Option Addr) (cl:Nat) (l:List Nat) (d:Nat) (w:World) (hl:fV 10000 l) (hb1:l.length≤1099511627776) (hd0:0<d) (hd1:d≤10000)
   (hc:∀ k,k<l.length→∃ b off,pl=some ⟨b,off,none⟩∧b<w.heap.size∧w.cell? ⟨b,off+k,none⟩=some (.int .i64 (l.getD k 0:Nat))) :
    Calls Tryz.prog 295 #[ah pl l.length cl,Z I d] w fun e w'=>∃ v,e= aj (aD #[v,Z I (val 10000 l%d:Nat)])∧Bw w w'∧Nm w' v (val 10000 l / d):=by
  obtain ⟨i0,hi,hz0,hz1,hz2⟩:=info_parts wE;go_enter Tryz.func295,Tryz.ntmps295
  go_wp2_with (at_make;refine wpList_make_full _ rfl _ _ 167 rfl w.heap.size 3 i0 (Z I 0) 1 Tryz.underlying167 hi hz0 hz1 _ _ _ _ l.length rfl rfl zo zo (by rw [hz2];omega) (by unfold maxLen;omega) (aC _) ?_)
  intro w0 hown0 lZ;rw [Bj] at hown0
  go_wp2
  go_loopw [7,8] (fun rv iv wr=>∃ (q:Int) (r:Nat) (s:List Nat), -1≤q∧q<l.length∧r<d∧iv= Z I q∧rv= Z I r∧Hid (s.length=l.length - (q+1).toNat) ∧
      wr.ownsRow w.heap.size 3 1 (ah (some ⟨w.heap.size,0,none⟩) l.length l.length) l.length (ints (bJ (q+1).toNat 0++s))∧fV 10000 s∧Hid (val 10000 (l.drop (q+1).toNat)=d*val 10000 s+r)∧Bw w wr)
    (fun _ iv _=>(intOf iv+1).toNat)
  case atStart =>
    have e:((l.length:Int) - 1+1).toNat=l.length:=by omega
    exact ⟨(l.length:Int) - 1,0,[],by omega,by omega,hd0,rfl,rfl,zh (by rw [e];simp),by rw [e,List.append_nil];exact hown0,fV.nil,zh (by rw [e,List.drop_length];simp [val]),(Below.refl _ _).grown lZ (aC _) (fun k h=>by cases h)⟩
  case round =>
    obtain ⟨q,r,s,hq1,hq2,hrd,rfl,rfl,HS,hown,hds,HV,hb⟩:=hrel
    by_cases hq:q<0
    · have hq0:q= -1:=by omega
      subst hq0;have HF:Hid (val 10000 l=d*val 10000 s+r):=zh (by have:=HV.out;simpa using this);have hown3:Gs wr (ah (some ⟨w.heap.size,0,none⟩) l.length l.length) s:=by have:=Gs.gP hown;simpa using this
      have e1:Hid (val 10000 l / d=val 10000 s):=by unfold Hid;rw [HF.out,Nat.mul_add_div hd0,fD hrd,fZ]
      have e2:Hid (val 10000 l%d=r):=by unfold Hid;rw [HF.out,Nat.mul_add_mod,fQ hrd]
      clear hown HV HF HS hc;go_wp2_with (go_at_call 294;refine (yT _ _ _ hown3 hds).mono ?_;rintro e w' ⟨v,rfl,rfl,hv⟩)
      go_ret2
      exact ⟨v,by rw [e2.out];rfl,hb,by rw [e1.out];exact hv⟩
    · obtain ⟨j,rfl⟩:=Int.eq_ofNat_of_zero_le (by omega:0≤q)
      have ej:((j:Int)+1).toNat=j+1:=by omega
      have hjl:j<l.length:=by omega
      rw [ej] at HS HV hown;obtain ⟨b,off,rfl,hbb,hx0⟩:=hc j hjl;have hx:wr.cell? ⟨b,off+j,none⟩=some (.int .i64 (l.getD j 0:Nat)):=(hb.cell (by exact hbb)).trans hx0;have hdl:l.getD j 0<10000:=hl.getD zo j;have hlen:(bJ (j+1) 0++s).length=l.length:=by rw [List.length_append,List.length_replicate,HS.out];omega
      have hr1:wr.cell? ⟨w.heap.size,j,none⟩=some (.int .i64 0):=by
        rw [hown.cellAt j zo,wD (by rw [hlen];exact hjl),xG zo];rfl
      have hr2:wr.frozen? ⟨w.heap.size,j,none⟩=false:=hown.frozenAt j;have HP:=zh (DN hjl HV.out);have hdg:=BP hrd hdl;have hmd:=gH (r*10000+l.getD j 0) hd0
      have HO:Hid (∀ d:Nat,(wr.setCell ⟨w.heap.size,j,none⟩ (Z I (d:Int))).ownsRow w.heap.size 3 1 (ah (some ⟨w.heap.size,0,none⟩) l.length l.length) l.length (ints (bJ j 0++d::s))∧Below w.heap.size w (wr.setCell ⟨w.heap.size,j,none⟩ (Z I (d:Int)))):=fun d=>by
        have h1:=(hown.stored j (Z I (d:Int))).1;rw [ints_set,zD] at h1;exact ⟨h1,hb.setCell (aC _) _⟩
      clear hx0 hc hown hlen;generalize l.getD j 0=x at *;have hqi:(((r*10000+x) / d:Nat):Int)=((r:Int)*10000+(x:Int)) / (d:Int):=by rw [Int.natCast_ediv,Int.natCast_add,Int.natCast_mul];rfl
      have Ws:(((r*10000+x)%d:Nat):Int)=((r:Int)*10000+(x:Int))%(d:Int):=by rw [Int.natCast_emod,Int.natCast_add,Int.natCast_mul];rfl
      generalize (r*10000+x) / d=Q at *;generalize (r*10000+x)%d=M at *;have g1:0≤((r:Int)*10000+(x:Int)) / (d:Int):=by rw [← hqi];omega
      have g2:((r:Int)*10000+(x:Int)) / (d:Int)≤9999:=by rw [← hqi];omega
      have g3:0≤((r:Int)*10000+(x:Int))%(d:Int):=by rw [← Ws];omega
      have g4:((r:Int)*10000+(x:Int))%(d:Int)≤9999:=by rw [← Ws];omega
      have pV:=HO.out Q;rw [hqi] at pV;have rz:=zh pV;have HM:=zh Ws;have HG:=zh hdg;have HM2:=zh hmd;clear pV HO hqi Ws hdg hmd
      go_wp2
      go_roundw
      case rel=>exact ⟨(j:Int) - 1,M,Q::s,by omega,by omega,HM2.out,rfl,by rw [HM.out],zh (by rw [aV,HS.out];omega),by rw [show ((j:Int) - 1+1).toNat=j by omega];exact rz.out.1,hds.cons HG.out,zh (by rw [show ((j:Int) - 1+1).toNat=j by omega];exact HP.out),rz.out.2⟩
      case measure=>simp [intOf]
theorem Y9 (x:Value) (a d:Nat) (w:World) (hx:Nm w x a) (ha:sz 10000 a≤1099511627776) (hd0:0<d) (hd1:d≤10000) :
  Calls Tryz.prog 295 #[x,Z I d] w fun e w'=>∃ v,e= aj (aD #[v,Z I (a%d:Nat)])∧Bw w w'∧Nm w' v (a / d):=by
 obtain ⟨pa,ca,rfl,h1,h2,h3⟩:=Gs.read hx.gs;have:=SG pa ca _ d w (dw zo a) ha hd0 hd1 h3
 rwa [bN zo] at this
def Okm (m:List Nat):Prop:=fV 10000 m∨(m.length=1∧∀ d∈m,d≤10000)
theorem Okm.le {m:List Nat} (h:Okm m) {j:Nat} (hj:j<m.length):m.getD j 0≤10000:=by
 have e:m.getD j 0=m[j]:=by simp [hj]
 rw [e]
 rcases h with h|h
 ·exact kM (h _ (dx hj))
 ·exact h.2 _ (dx hj)
theorem Okm.carry {m:List Nat} (h:Okm m) {j c z x:Nat} (hj:j<m.length) (hc:c<10000) (hc0:j=0→c=0) (hz:z<10000) (hx:x<10000):(c+(z+x*m.getD j 0)) / 10000<10000:=by
 rcases h with h|h
 ·exact BO hc hz hx (h.getD zo j)
 ·have h1:m.getD j 0≤10000:=Okm.le (.inr h) hj;have h2:c=0:=hc0 zo;subst h2;have h3:x*m.getD j 0≤9999*10000:=fq zo h1;generalize x*m.getD j 0=p at *;omega
theorem Vj {x y:Nat} (hx:x<10000) (hy:y≤10000):(0:Int)≤(x:Int)*(y:Int)∧(x:Int)*(y:Int)≤99990000:=by
 have h:x*y≤9999*10000:=fq zo zo;rw [← Int.natCast_mul];omega
theorem zK (pl ps:Option Addr) (cl cs:Nat) (l m:List Nat) (w:World) (hl:fV 10000 l) (hmd:Okm m) (hb1:l.length≤1099511627776) (hb2:m.length≤1099511627776)
   (hc:∀ k,k<l.length→∃ b off,pl=some ⟨b,off,none⟩∧b<w.heap.size∧w.cell? ⟨b,off+k,none⟩=some (.int .i64 (l.getD k 0:Nat)))
   (hd:∀ k,k<m.length→∃ b off,ps=some ⟨b,off,none⟩∧b<w.heap.size∧w.cell? ⟨b,off+k,none⟩=some (.int .i64 (m.getD k 0:Nat))) :
    Calls Tryz.prog 263 #[ah pl l.length cl,ah ps m.length cs] w fun e w'=>∃ v,e= aj v∧Bw w w'∧Nm w' v (val 10000 l*val 10000 m):=by
  obtain ⟨i0,hi,hz0,hz1,hz2⟩:=info_parts wE;go_enter Tryz.func263,Tryz.ntmps263
  go_wp2_with (at_make;refine wpList_make_full _ rfl _ _ 167 rfl w.heap.size 3 i0 (Z I 0) 1 Tryz.underlying167 hi hz0 hz1 _ _ _ _ (l.length+m.length) rfl rfl zo zo (by rw [hz2];omega) (by unfold maxLen;omega) (aC _) ?_)
  intro w0 hown0 lZ;rw [Bj] at hown0
  go_wp2
  go_loopw [6,7,8] (fun iv _ _ wr=>∃ (i:Nat) (p:List Nat),i≤l.length∧iv= Z I i∧Hid (p.length=l.length+m.length)∧(∀ t,i+m.length≤t→p.getD t 0=0) ∧
      wr.ownsRow w.heap.size 3 1 (ah (some ⟨w.heap.size,0,none⟩) (l.length+m.length) (l.length+m.length)) (l.length+m.length) (ints p)∧fV 10000 p∧Hid (val 10000 p=val 10000 (l.take i)*val 10000 m)∧Bw w wr)
    (fun iv _ _ _=>l.length - (intOf iv).toNat)
  case atStart=>exact ⟨0,bJ (l.length+m.length) 0,Nat.zero_le _,rfl,zh zi,fun t _=>by simp [List.getD,List.getElem?_replicate];split<;>rfl,hown0,fun x hx=>by rw [List.eq_of_mem_replicate hx];omega,zh (by rw [xk];simp [val]),(Below.refl _ _).grown lZ (aC _) (fun k h=>by cases h)⟩
  case round =>
    obtain ⟨i,p,hil,rfl,HL,hz,hown,hdp,HV,hb⟩:=hrel;have HZ:=zh hz;clear hz
    by_cases hlt:i<l.length
    · obtain ⟨b,off,rfl,hbb,hx0⟩:=hc i hlt
      have hx:wr.cell? ⟨b,off+i,none⟩=some (.int .i64 (l.getD i 0:Nat)):=(hb.cell (by exact hbb)).trans hx0;have hdl:l.getD i 0<10000:=hl.getD zo i;have HX0:=zh hx0;clear hx0 hc;have HD:Hid (l.getD i 0=l.getD i 0):=rfl
      revert HD
      generalize hx9:l.getD i 0=x at hx hdl HX0;have HX:=zh hx9;clear hx9;intro _;obtain ⟨wo,rfl⟩:∃ wo:World,wo=wr:=⟨_,rfl⟩
      go_wp2
      go_loopw [7,8] (fun cv jv wq=>∃ (j c:Nat) (q:List Nat),j≤m.length∧c<10000∧Hid (j=0→c=0)∧jv= Z I j∧cv= Z I c∧Hid (q.length=l.length+m.length)∧Hid (∀ t,i+m.length≤t→q.getD t 0=0) ∧
          wq.ownsRow w.heap.size 3 1 (ah (some ⟨w.heap.size,0,none⟩) (l.length+m.length) (l.length+m.length)) (l.length+m.length) (ints q)∧fV 10000 q∧Hid (val 10000 q+c*10000^(i+j)=val 10000 (l.take i)*val 10000 m+10000^i*(x*val 10000 (m.take j)))∧Bw w wq)
        (fun _ jv _=>m.length - (intOf jv).toNat)
      case atStart=>exact ⟨0,0,p,Nat.zero_le _,by omega,zh (fun _=>rfl),rfl,rfl,HL,HZ,hown,hdp,zh (by rw [HV.out];simp [val]),hb⟩
      case round =>
        obtain ⟨j,c,q,hjl,hcb,HC0,rfl,rfl,TV,TT,hown,G9,HVq,hb⟩:=hrel
        by_cases hjlt:j<m.length
        · obtain ⟨b2,off2,rfl,J5,hy0⟩:=hd j hjlt
          have hy:wr.cell? ⟨b2,off2+j,none⟩=some (.int .i64 (m.getD j 0:Nat)):=(hb.cell (by exact J5)).trans hy0;have hxi:wr.cell? ⟨b,off+i,none⟩=some (.int .i64 (x:Int)):=(hb.cell (by exact hbb)).trans HX0.out;have Ta:m.getD j 0≤10000:=hmd.le hjlt;have hij:i+j<q.length:=by have:=TV.out;omega
          obtain ⟨t,ht⟩:∃ t,i+j=t:=⟨_,rfl⟩;have ej:(i:Int)+(j:Int)=(t:Int):=by omega
          have ht3:(t:Int)<(l.length:Int)+(m.length:Int):=by omega
          have ht4:t<l.length+m.length:=by omega
          have hwt:I.wrap (t:Int)=(t:Int):=by rw [IntKind.wrap_i64];omega
          have hq1:wr.cell? ⟨w.heap.size,t,none⟩=some (.int .i64 (q.getD (i+j) 0:Nat)):=by rw [← ht,hown.cellAt (i+j) zo,wD hij]
          have hq2:wr.frozen? ⟨w.heap.size,t,none⟩=false:=hown.frozenAt t;have at5:q.getD (i+j) 0<10000:=G9.getD zo (i+j);have HS:=zh (DF hjlt hij HVq.out);have HC:=zh (hmd.carry hjlt hcb HC0.out at5 hdl)
          have HO:Hid (∀ d:Nat,d<10000→(wr.setCell ⟨w.heap.size,t,none⟩ (Z I (d:Int))).ownsRow w.heap.size 3 1 (ah (some ⟨w.heap.size,0,none⟩) (l.length+m.length) (l.length+m.length)) (l.length+m.length) (ints (q.set (i+j) d)) ∧
              Below w.heap.size w (wr.setCell ⟨w.heap.size,t,none⟩ (Z I (d:Int)))∧fV 10000 (q.set (i+j) d)∧(q.set (i+j) d).length=l.length+m.length∧(∀ t,i+m.length≤t→(q.set (i+j) d).getD t 0=0)):=fun d hd=>by
            have h1:=(hown.stored t (Z I (d:Int))).1;rw [ints_set] at h1;rw [ht];exact ⟨h1,hb.setCell (aC _) _,G9.set _ hd,by rw [List.length_set];exact TV.out,fun s hs=>by rw [Df zo];exact TT.out s hs⟩
          clear hy0 hd hown HVq G9 TV TT hij ht;generalize m.getD j 0=y at *;generalize q.getD (i+j) 0=z at *;obtain ⟨hp1,hp2⟩:=Vj hdl Ta;have hr:((((c+(z+x*y))%10000:Nat)):Int)=((c:Int)+(z:Int)+(x:Int)*(y:Int))%10000:=by rw [Int.natCast_emod,Int.natCast_add,Int.natCast_add,Int.natCast_mul,Int.add_assoc];rfl
          have hq:((((c+(z+x*y)) / 10000:Nat)):Int)=((c:Int)+(z:Int)+(x:Int)*(y:Int)) / 10000:=by rw [Int.natCast_ediv,Int.natCast_add,Int.natCast_add,Int.natCast_mul,Int.add_assoc];rfl
          have pV:=HO.out _ (gH (c+(z+x*y)) zo);rw [hr] at pV;have rz:=zh pV;have HR:=zh hq;clear HO pV hr hq;have bi0:I.wrap ((i:Int)+(j:Int))=(i:Int)+(j:Int):=by rw [IntKind.wrap_i64];omega
          have bi5:(i:Int)+(j:Int)<((l.length+m.length:Nat):Int):=by omega
          go_wp2
          go_quiet (fail)
          go_wp2
          go_roundw
          case rel=>exact ⟨j+1,(c+(z+x*y)) / 10000,q.set (i+j) ((c+(z+x*y))%10000),by omega,HC.out,zh (fun h=>absurd h zo),by go_num,by rw [HR.out],zh rz.out.2.2.2.1,zh rz.out.2.2.2.2,rz.out.1,rz.out.2.2.1,zh (by rw [← kY i j 1];exact HS.out),⟨rz.out.2.1.os,rz.out.2.1.tape,rz.out.2.1.output,rz.out.2.1.size,rz.out.2.1.block⟩⟩
          case measure=>exact zM
        · have hjm:j=m.length:=by omega
          subst hjm;have hij:i+m.length<q.length:=by have:=TV.out;omega
          have hq1:wr.cell? ⟨w.heap.size,i+m.length,none⟩=some (.int .i64 0):=by rw [hown.cellAt (i+m.length) zo,wD hij,TT.out _ (aC _)];rfl
          have hq2:wr.frozen? ⟨w.heap.size,i+m.length,none⟩=false:=hown.frozenAt (i+m.length)
          have HF:Hid (val 10000 (q.set (i+m.length) c)=val 10000 (l.take (i+1))*val 10000 m) :=
            BN hlt hij (TT.out _ (aC _)) (by have:=HVq.out;rw [eX] at this;rw [HX.out];exact this)
          have HO:Hid ((wr.setCell ⟨w.heap.size,i+m.length,none⟩ (Z I (c:Int))).ownsRow w.heap.size 3 1 (ah (some ⟨w.heap.size,0,none⟩) (l.length+m.length) (l.length+m.length)) (l.length+m.length) (ints (q.set (i+m.length) c)) ∧
              Below w.heap.size w (wr.setCell ⟨w.heap.size,i+m.length,none⟩ (Z I (c:Int)))∧fV 10000 (q.set (i+m.length) c)∧(q.set (i+m.length) c).length=l.length+m.length∧(∀ t,i+1+m.length≤t→(q.set (i+m.length) c).getD t 0=0)):=by
            have h1:=(hown.stored (i+m.length) (Z I (c:Int))).1;rw [ints_set] at h1;exact ⟨h1,hb.setCell (aC _) _,G9.set _ hcb,by rw [List.length_set];exact TV.out,fun t ht=>by rw [Df zo];exact TT.out t zo⟩
          clear hown HVq G9 TV TT hij hd
          go_wp2
          go_roundw
          case rel=>exact ⟨i+1,q.set (i+m.length) c,by omega,by go_num,zh HO.out.2.2.2.1,HO.out.2.2.2.2,HO.out.1,HO.out.2.2.1,HF,HO.out.2.1⟩
          case measure=>exact zM
    · have as7:i=l.length:=by omega
      subst as7;clear hc hd;have HF:Hid (val 10000 p=val 10000 l*val 10000 m):=by have:=HV.out;rwa [eX] at this
      have hown3:Gs wr (ah (some ⟨w.heap.size,0,none⟩) (l.length+m.length) (l.length+m.length)) p:=Gs.gP hown;clear hown HV;go_wp2_with (go_at_call 294;refine (yT _ _ _ hown3 hdp).mono ?_;rintro e w' ⟨v,rfl,rfl,hv⟩)
      go_ret
      exact ⟨v,rfl,hb,by rw [← HF.out];exact hv⟩
theorem qK (x y:Value) (a b:Nat) (w:World) (hx:Nm w x a) (hy:Nm w y b) (ha:sz 10000 a≤1099511627776) (hb:sz 10000 b≤1099511627776) :
  Calls Tryz.prog 263 #[x,y] w fun e w'=>∃ v,e= aj v∧Bw w w'∧Nm w' v (a*b):=by
 obtain ⟨pa,ca,rfl,h1,h2,h3⟩:=Gs.read hx.gs;obtain ⟨pb,cb,rfl,k1,k2,k3⟩:=Gs.read hy.gs;have:=zK pa pb ca cb _ _ w (dw zo a) (.inl (dw zo b)) ha hb h3 k3
 rwa [bN zo,bN zo] at this
theorem Cu (pl ps:Option Addr) (cl cs:Nat) (l m:List Nat) (w:World) (hl:fV 10000 l) (hmd:fV 10000 m) (hb1:l.length≤1099511627776) (hml:m.length≤l.length) (hle:val 10000 m≤val 10000 l)
   (hc:∀ k,k<l.length→∃ b off,pl=some ⟨b,off,none⟩∧b<w.heap.size∧w.cell? ⟨b,off+k,none⟩=some (.int .i64 (l.getD k 0:Nat)))
   (hd:∀ k,k<m.length→∃ b off,ps=some ⟨b,off,none⟩∧b<w.heap.size∧w.cell? ⟨b,off+k,none⟩=some (.int .i64 (m.getD k 0:Nat))) :
    Calls Tryz.prog 297 #[ah pl l.length cl,ah ps m.length cs] w fun e w'=>∃ v,e= aj v∧Bw w w'∧Nm w' v (val 10000 l - val 10000 m):=by
  obtain ⟨i0,hi,hz0,hz1,hz2⟩:=info_parts wE;have Oe:=zh hle;clear hle;go_enter Tryz.func297,Tryz.ntmps297
  go_wp2
  go_loopw [5,6,7,8] (fun ov cv kv _ wr=>∃ (k c:Nat) (s:List Nat),k≤l.length∧c≤1∧Hid (s.length=k)∧kv= Z I k∧cv= Z I c ∧
      wr.ownsRow w.heap.size 3 1 ov k (ints s)∧fV 10000 s∧Hid (val 10000 s+val 10000 (m.take k)=val 10000 (l.take k)+c*10000^k)∧Bw w wr)
    (fun _ _ kv _ _=>l.length - (intOf kv).toNat)
  case atStart=>exact ⟨0,0,[],Nat.zero_le _,by omega,rfl,rfl,rfl,World.ownsRow_nil _ _ _ _,fV.nil,(by simp [val]:val _ _+val _ _=val _ _+0*_),Below.refl _ _⟩
  case round =>
    obtain ⟨k,c,s,hk,hc1,HS,rfl,rfl,hown,hds,HV,hb⟩:=hrel
    by_cases hkl:k<l.length
    · obtain ⟨b,off,rfl,hbb,hx0⟩:=hc k hkl
      have hx:wr.cell? ⟨b,off+k,none⟩=some (.int .i64 (l.getD k 0:Nat)):=(hb.cell (by exact hbb)).trans hx0;have hdl:l.getD k 0<10000:=hl.getD zo k
      have HP:Hid (∀ d c',d+m.getD k 0+c=l.getD k 0+c'*10000→val 10000 (s++[d])+val 10000 (m.take (k+1))=val 10000 (l.take (k+1))+c'*10000^(k+1)) :=
        fun d c' h=>Fh hkl HS.out HV.out h
      have ec:∀ (d:Nat) (z:Int),(d:Int)=z→ints s++[Z I z]=ints (s++[d]):=fun d z e=>by
        unfold ints;simp only [List.map_append,bH,gM];rw [e]
      have EC:=zh ec;clear hx0 hc ec
      by_cases hkm:k<m.length
      · obtain ⟨b2,off2,rfl,J5,hy0⟩:=hd k hkm
        have hy:wr.cell? ⟨b2,off2+k,none⟩=some (.int .i64 (m.getD k 0:Nat)):=(hb.cell (by exact J5)).trans hy0;have Ta:m.getD k 0<10000:=hmd.getD zo k;clear hy0 hd;generalize l.getD k 0=x at *;generalize m.getD k 0=y at *
        by_cases hge:x<c+y
        · have hneg:(x:Int) - (c:Int) - (y:Int)<0:=by omega
          have e:=EC.out (x+10000 - (c+y)) ((x:Int) - (c:Int) - (y:Int)+10000) zo;have Qh:=zh e;have HG:=zh hge;clear hge e EC;go_wp2_with (at_builtin;refine wpList_append_own _ rfl (.tmp 35) (.tmp 37) 167 rfl w.heap.size 3 i0 (Z I 0) 1 8 Tryz.underlying167 hi hz0 hz1 hz2 rfl zd _ _ _ rfl (hown.alloc _) ⟨wr.heap.size,0,none⟩ 1 1 [Z I ((x:Int) - (c:Int) - (y:Int)+10000)] rfl rfl (by intro t u ht;match t,ht with|0,ht=>simp at ht;subst ht;simp [Addr.add]) (by intro u hu;simp at hu;subst hu;rfl) (by unfold maxLen;omega) zo (by have:=hb.size;simp;omega) ?_)
          intro v' w1 hown1 hgrow1 _;rw [Qh.out] at hown1;have hb3:Bw w w1:=(hb.alloc hb.size _).grown hgrow1 (by simp;have:=hb.size;omega) (fun k hk=>(hown.lt k hk).1);clear hown hgrow1
          go_wp2
          go_roundw
          case rel=>exact ⟨k+1,1,s++[(x+10000 - (c+y))],by omega,by omega,zh (by rw [List.length_append,HS.out];rfl),by go_num,rfl,hown1,hds.snoc (by have:=HG.out;omega),HP.out _ _ (by have:=HG.out;omega),hb3⟩
          case measure=>exact zM
        by_cases hge:¬ x<c+y
        · have hneg:¬ (x:Int) - (c:Int) - (y:Int)<0:=by omega
          have e:=EC.out (x - (c+y)) ((x:Int) - (c:Int) - (y:Int)) zo;have Qh:=zh e;have HG:=zh hge;clear hge e EC;go_wp2_with (at_builtin;refine wpList_append_own _ rfl (.tmp 35) (.tmp 37) 167 rfl w.heap.size 3 i0 (Z I 0) 1 8 Tryz.underlying167 hi hz0 hz1 hz2 rfl zd _ _ _ rfl (hown.alloc _) ⟨wr.heap.size,0,none⟩ 1 1 [Z I ((x:Int) - (c:Int) - (y:Int))] rfl rfl (by intro t u ht;match t,ht with|0,ht=>simp at ht;subst ht;simp [Addr.add]) (by intro u hu;simp at hu;subst hu;rfl) (by unfold maxLen;omega) zo (by have:=hb.size;simp;omega) ?_)
          intro v' w1 hown1 hgrow1 _;rw [Qh.out] at hown1;have hb3:Bw w w1:=(hb.alloc hb.size _).grown hgrow1 (by simp;have:=hb.size;omega) (fun k hk=>(hown.lt k hk).1);clear hown hgrow1
          go_wp2
          go_roundw
          case rel=>exact ⟨k+1,0,s++[(x - (c+y))],by omega,by omega,zh (by rw [List.length_append,HS.out];rfl),by go_num,rfl,hown1,hds.snoc (by have:=HG.out;omega),HP.out _ _ (by have:=HG.out;omega),hb3⟩
          case measure=>exact zM
        exact absurd ‹¬ x<c+y› ‹¬ ¬ x<c+y›
      · have hm0:m.getD k 0=0:=by simp [dJ hkm]
        rw [hm0] at HP;clear hm0 hd;generalize l.getD k 0=x at *
        by_cases hge:x<c
        · have hneg:(x:Int) - (c:Int)<0:=by omega
          have e:=EC.out (x+10000 - c) ((x:Int) - (c:Int)+10000) zo;have Qh:=zh e;have HG:=zh hge;clear hge e EC;go_wp2_with (at_builtin;refine wpList_append_own _ rfl (.tmp 35) (.tmp 37) 167 rfl w.heap.size 3 i0 (Z I 0) 1 8 Tryz.underlying167 hi hz0 hz1 hz2 rfl zd _ _ _ rfl (hown.alloc _) ⟨wr.heap.size,0,none⟩ 1 1 [Z I ((x:Int) - (c:Int)+10000)] rfl rfl (by intro t u ht;match t,ht with|0,ht=>simp at ht;subst ht;simp [Addr.add]) (by intro u hu;simp at hu;subst hu;rfl) (by unfold maxLen;omega) zo (by have:=hb.size;simp;omega) ?_)
          intro v' w1 hown1 hgrow1 _;rw [Qh.out] at hown1;have hb3:Bw w w1:=(hb.alloc hb.size _).grown hgrow1 (by simp;have:=hb.size;omega) (fun k hk=>(hown.lt k hk).1);clear hown hgrow1
          go_wp2
          go_roundw
          case rel=>exact ⟨k+1,1,s++[(x+10000 - c)],by omega,by omega,zh (by rw [List.length_append,HS.out];rfl),by go_num,rfl,hown1,hds.snoc (by have:=HG.out;omega),HP.out _ _ (by have:=HG.out;omega),hb3⟩
          case measure=>exact zM
        by_cases hge:¬ x<c
        · have hneg:¬ (x:Int) - (c:Int)<0:=by omega
          have e:=EC.out (x - c) ((x:Int) - (c:Int)) zo;have Qh:=zh e;have HG:=zh hge;clear hge e EC;go_wp2_with (at_builtin;refine wpList_append_own _ rfl (.tmp 35) (.tmp 37) 167 rfl w.heap.size 3 i0 (Z I 0) 1 8 Tryz.underlying167 hi hz0 hz1 hz2 rfl zd _ _ _ rfl (hown.alloc _) ⟨wr.heap.size,0,none⟩ 1 1 [Z I ((x:Int) - (c:Int))] rfl rfl (by intro t u ht;match t,ht with|0,ht=>simp at ht;subst ht;simp [Addr.add]) (by intro u hu;simp at hu;subst hu;rfl) (by unfold maxLen;omega) zo (by have:=hb.size;simp;omega) ?_)
          intro v' w1 hown1 hgrow1 _;rw [Qh.out] at hown1;have hb3:Bw w w1:=(hb.alloc hb.size _).grown hgrow1 (by simp;have:=hb.size;omega) (fun k hk=>(hown.lt k hk).1);clear hown hgrow1
          go_wp2
          go_roundw
          case rel=>exact ⟨k+1,0,s++[(x - c)],by omega,by omega,zh (by rw [List.length_append,HS.out];rfl),by go_num,rfl,hown1,hds.snoc (by have:=HG.out;omega),HP.out _ _ (by have:=HG.out;omega),hb3⟩
          case measure=>exact zM
        exact absurd ‹¬ x<c› ‹¬ ¬ x<c›
    · have hkk:k=l.length:=by omega
      subst hkk;clear hc hd
      have Ci:val 10000 s+val 10000 m=val 10000 l+c*10000^l.length:=by
        have:=HV.out;rwa [eX,fu hml] at this
      have hvs:val 10000 s<10000^l.length:=by have:=jd zo hds;rwa [HS.out] at this
      have hc0:c=0:=by
        rcases aY c with h|h
        · exact h
        · exfalso
          have:c=1:=by omega
          subst this;have:=Oe.out;omega
      have HF:Hid (val 10000 s=val 10000 l - val 10000 m):=by subst hc0;unfold Hid;omega
      clear HV Ci hvs Oe;have hown3:Gs wr u5 s:=Gs.gP hown;obtain ⟨pa,ca,rfl, -⟩:=hown3.read;clear hown;go_wp2_with (go_at_call 294;refine (yT _ _ _ hown3 hds).mono ?_;rintro e w' ⟨v,rfl,rfl,hv⟩)
      go_ret
      exact ⟨v,rfl,hb,by rw [← HF.out];exact hv⟩
theorem sH (x y:Value) (a b:Nat) (w:World) (hx:Nm w x a) (hy:Nm w y b) (ha:sz 10000 a≤1099511627776) (hle:b≤a) :
  Calls Tryz.prog 297 #[x,y] w fun e w'=>∃ v,e= aj v∧Bw w w'∧Nm w' v (a - b):=by
 obtain ⟨pa,ca,rfl,h1,h2,h3⟩:=Gs.read hx.gs;obtain ⟨pb,cb,rfl,k1,k2,k3⟩:=Gs.read hy.gs;have:=Cu pa pb ca cb _ _ w (dw zo a) (dw zo b) ha (iJ zo hle) (by rw [bN zo,bN zo];exact hle) h3 k3
 rwa [bN zo,bN zo] at this
theorem Lh (B:Nat) (l:List Nat) (k:Nat):val B (l.take (k+1))=val B (l.take k)+B^k*l.getD k 0:=by
 by_cases h:k<l.length
 ·exact dR B h
 ·rw [fu zo,fu zo];simp [dJ h]
theorem UD {B:Nat} {l m s:List Nat} {k c d c':Nat} (hs:s.length=k) (he:val B s+c*B^k=val B (l.take k)+val B (m.take k)) (h:d+c'*B=c+l.getD k 0+m.getD k 0) :
  val B (s++[d])+c'*B^(k+1)=val B (l.take (k+1))+val B (m.take (k+1)):=by
 rw [jy,Lh,Lh,hs,bS];have h2:=congrArg (B^k* ·) h;simp only [aX] at h2;rw [show c'*(B^k*B)=B^k*(c'*B) by rw [dN]];rw [aJ c (B^k)] at he;omega
def Ay (w:World) (n:Nat) (e:Ending) (w':World):Prop:=∃ v s,e= aj v∧Bw w w'∧Gs w' v s∧fV 10000 s∧val 10000 s=n
theorem UC (pl ps:Option Addr) (cl cs:Nat) (l m:List Nat) (w:World) (hl:fV 10000 l) (hmd:fV 10000 m) (hb1:l.length≤549755813888) (hb2:m.length≤549755813888)
   (hc:∀ k,k<l.length→∃ b off,pl=some ⟨b,off,none⟩∧b<w.heap.size∧w.cell? ⟨b,off+k,none⟩=some (.int .i64 (l.getD k 0:Nat)))
   (hd:∀ k,k<m.length→∃ b off,ps=some ⟨b,off,none⟩∧b<w.heap.size∧w.cell? ⟨b,off+k,none⟩=some (.int .i64 (m.getD k 0:Nat))) :
    Calls Tryz.prog 311 #[ah pl l.length cl,ah ps m.length cs] w (Ay w (val 10000 l+val 10000 m)):=by
  obtain ⟨i0,hi,hz0,hz1,hz2⟩:=info_parts wE;go_enter Tryz.func311,Tryz.ntmps311
  go_wp2
  go_loopw [5,6,7] (fun ov cv kv wr=>∃ (k c:Nat) (s:List Nat),k≤max l.length m.length+1∧c≤1∧(c=0∨k≤max l.length m.length)∧Hid (s.length=k)∧kv= Z I k∧cv= Z I c ∧
      wr.ownsRow w.heap.size 3 1 ov k (ints s)∧fV 10000 s∧Hid (val 10000 s+c*10000^k=val 10000 (l.take k)+val 10000 (m.take k))∧Bw w wr)
    (fun _ _ kv _=>max l.length m.length+1 - (intOf kv).toNat)
  case atStart=>exact ⟨0,0,[],Nat.zero_le _,by omega,.inl rfl,rfl,rfl,rfl,World.ownsRow_nil _ _ _ _,fV.nil,(by simp [val]:val _ _+0*_=_),Below.refl _ _⟩
  case round =>
    obtain ⟨k,c,s,hk,hc1,hck,HS,rfl,rfl,hown,hds,HV,hb⟩:=hrel
    have HP:Hid (∀ d c',d+c'*10000=c+l.getD k 0+m.getD k 0→val 10000 (s++[d])+c'*10000^(k+1)=val 10000 (l.take (k+1))+val 10000 (m.take (k+1))) :=
      fun d c' h=>UD HS.out HV.out h
    have hdl:l.getD k 0<10000:=hl.getD zo k;have Ta:m.getD k 0<10000:=hmd.getD zo k
    have ec:∀ (d:Nat) (z:Int),(d:Int)=z→ints s++[Z I z]=ints (s++[d]):=fun d z e=>by
      unfold ints;simp only [List.map_append,bH,gM];rw [e]
    have EC:=zh ec;have hl0:¬ k<l.length→l.getD k 0=0:=fun h=>by simp [dJ h]
    have hm0:¬ k<m.length→m.getD k 0=0:=fun h=>by simp [dJ h]
    have HL0:=zh hl0;have HM0:=zh hm0;clear ec hl0 hm0;have hrun:k<l.length∨k<m.length∨0<c∨(¬ k<l.length∧¬ k<m.length∧c=0):=by omega
    by_cases hfin:¬ k<l.length∧¬ k<m.length∧c=0
    · obtain ⟨n1,n2,rfl⟩:=hfin
      have HF:Hid (val 10000 s=val 10000 l+val 10000 m):=by
        have:=HV.out;rw [fu zo,fu zo] at this;unfold Hid;omega
      have hown3:Gs wr u5 s:=Gs.gP hown;clear hown HV HP EC hc hd HL0 HM0 hrun
      go_wp2
      go_ret
      exact ⟨_,s,rfl,hb,hown3,hds,HF.out⟩
    · have ag0:k≤max l.length m.length:=by omega
      have xW:=zh ag0;have hkb:k≤549755813888:=by omega
      have HNF:=zh hfin;clear hrun hfin ag0 hck hk
      have hx:k<l.length→∃ b off,pl=some ⟨b,off,none⟩∧wr.cell? ⟨b,off+k,none⟩=some (.int .i64 (l.getD k 0:Nat)):=fun h=>by
        obtain ⟨b,off,e,hbb,hx0⟩:=hc k h;exact ⟨b,off,e,(hb.cell (by exact hbb)).trans hx0⟩
      have hy:k<m.length→∃ b off,ps=some ⟨b,off,none⟩∧wr.cell? ⟨b,off+k,none⟩=some (.int .i64 (m.getD k 0:Nat)):=fun h=>by
        obtain ⟨b,off,e,hbb,hx0⟩:=hd k h;exact ⟨b,off,e,(hb.cell (by exact hbb)).trans hx0⟩
      have HX:=zh hx;have HY:=zh hy;clear hx hy hc hd HV;generalize l.getD k 0=x at *;generalize m.getD k 0=y at *;have h4:(k<l.length∧k<m.length)∨(k<l.length∧¬ k<m.length)∨(¬ k<l.length∧k<m.length)∨(¬ k<l.length∧¬ k<m.length):=by omega
      rcases h4 with ⟨hkl,hkm⟩|⟨hkl,hkm⟩|⟨hkl,hkm⟩|⟨hkl,hkm⟩
      · obtain ⟨b,off,rfl,hx⟩:=HX.out hkl
        obtain ⟨b2,off2,rfl,hy⟩:=HY.out hkm
        skip
        skip
        skip
        skip
        have e:=EC.out ((c+x+y)%10000) (((c:Int)+(x:Int)+(y:Int))%10000) zo;have Qh:=zh e;have HG:Hid ((c+x+y) / 10000≤1):=zh zo;clear e EC HX HY HL0 HM0;go_wp2_with (at_builtin;refine wpList_append_own _ rfl (.tmp 44) (.tmp 47) 167 rfl w.heap.size 3 i0 (Z I 0) 1 8 Tryz.underlying167 hi hz0 hz1 hz2 rfl zd _ _ _ rfl (hown.alloc _) ⟨wr.heap.size,0,none⟩ 1 1 [Z I (((c:Int)+(x:Int)+(y:Int))%10000)] rfl rfl (by intro t u ht;match t,ht with|0,ht=>simp at ht;subst ht;simp [Addr.add]) (by intro u hu;simp at hu;subst hu;rfl) (by have:=xW.out;unfold maxLen;omega) (by have:=xW.out;omega) (by have:=hb.size;simp;omega) ?_)
        intro v' w1 hown1 hgrow1 _;rw [Qh.out] at hown1;have hb3:Bw w w1:=(hb.alloc hb.size _).grown hgrow1 (by simp;have:=hb.size;omega) (fun k hk=>(hown.lt k hk).1);clear hown hgrow1
        go_wp2
        go_roundw
        case rel=>exact ⟨k+1,(c+x+y) / 10000,s++[(c+x+y)%10000],by have:=xW.out;omega,HG.out,by have:=HG.out;omega,zh (by rw [List.length_append,HS.out];rfl),by go_num,by go_num,hown1,hds.snoc zo,HP.out _ _ zo,hb3⟩
        case measure=>simp [intOf];have:=xW.out;omega
      · obtain ⟨b,off,rfl,hx⟩:=HX.out hkl
        skip
        have e0:=HM0.out hkm;have e1:=e0;subst e0
        skip
        have e:=EC.out ((c+x+0)%10000) (((c:Int)+(x:Int))%10000) zo;have Qh:=zh e;have HG:Hid ((c+x+0) / 10000≤1):=zh zo;clear e EC HX HY HL0 HM0;go_wp2_with (at_builtin;refine wpList_append_own _ rfl (.tmp 44) (.tmp 47) 167 rfl w.heap.size 3 i0 (Z I 0) 1 8 Tryz.underlying167 hi hz0 hz1 hz2 rfl zd _ _ _ rfl (hown.alloc _) ⟨wr.heap.size,0,none⟩ 1 1 [Z I (((c:Int)+(x:Int))%10000)] rfl rfl (by intro t u ht;match t,ht with|0,ht=>simp at ht;subst ht;simp [Addr.add]) (by intro u hu;simp at hu;subst hu;rfl) (by have:=xW.out;unfold maxLen;omega) (by have:=xW.out;omega) (by have:=hb.size;simp;omega) ?_)
        intro v' w1 hown1 hgrow1 _;rw [Qh.out] at hown1;have hb3:Bw w w1:=(hb.alloc hb.size _).grown hgrow1 (by simp;have:=hb.size;omega) (fun k hk=>(hown.lt k hk).1);clear hown hgrow1
        go_wp2
        go_roundw
        case rel=>exact ⟨k+1,(c+x+0) / 10000,s++[(c+x+0)%10000],by have:=xW.out;omega,HG.out,by have:=HG.out;omega,zh (by rw [List.length_append,HS.out];rfl),by go_num,by go_num,hown1,hds.snoc zo,HP.out _ _ zo,hb3⟩
        case measure=>simp [intOf];have:=xW.out;omega
      · skip
        obtain ⟨b2,off2,rfl,hy⟩:=HY.out hkm;have e0:=HL0.out hkl;have e1:=e0;subst e0
        skip
        have e:=EC.out ((c+0+y)%10000) (((c:Int)+(y:Int))%10000) zo;have Qh:=zh e;have HG:Hid ((c+0+y) / 10000≤1):=zh zo;clear e EC HX HY HL0 HM0;go_wp2_with (at_builtin;refine wpList_append_own _ rfl (.tmp 44) (.tmp 47) 167 rfl w.heap.size 3 i0 (Z I 0) 1 8 Tryz.underlying167 hi hz0 hz1 hz2 rfl zd _ _ _ rfl (hown.alloc _) ⟨wr.heap.size,0,none⟩ 1 1 [Z I (((c:Int)+(y:Int))%10000)] rfl rfl (by intro t u ht;match t,ht with|0,ht=>simp at ht;subst ht;simp [Addr.add]) (by intro u hu;simp at hu;subst hu;rfl) (by have:=xW.out;unfold maxLen;omega) (by have:=xW.out;omega) (by have:=hb.size;simp;omega) ?_)
        intro v' w1 hown1 hgrow1 _;rw [Qh.out] at hown1;have hb3:Bw w w1:=(hb.alloc hb.size _).grown hgrow1 (by simp;have:=hb.size;omega) (fun k hk=>(hown.lt k hk).1);clear hown hgrow1
        go_wp2
        go_roundw
        case rel=>exact ⟨k+1,(c+0+y) / 10000,s++[(c+0+y)%10000],by have:=xW.out;omega,HG.out,by have:=HG.out;omega,zh (by rw [List.length_append,HS.out];rfl),by go_num,by go_num,hown1,hds.snoc zo,HP.out _ _ zo,hb3⟩
        case measure=>simp [intOf];have:=xW.out;omega
      · skip
        have hcp:0<c:=Nat.pos_of_ne_zero fun h=>HNF.out ⟨hkl,hkm,h⟩;have e0:=HL0.out hkl;have e1:=HM0.out hkm;subst e0;subst e1;have e:=EC.out ((c+0+0)%10000) ((c:Int)%10000) zo;have Qh:=zh e;have HG:Hid ((c+0+0) / 10000≤1):=zh zo;clear e EC HX HY HL0 HM0;go_wp2_with (at_builtin;refine wpList_append_own _ rfl (.tmp 44) (.tmp 47) 167 rfl w.heap.size 3 i0 (Z I 0) 1 8 Tryz.underlying167 hi hz0 hz1 hz2 rfl zd _ _ _ rfl (hown.alloc _) ⟨wr.heap.size,0,none⟩ 1 1 [Z I ((c:Int)%10000)] rfl rfl (by intro t u ht;match t,ht with|0,ht=>simp at ht;subst ht;simp [Addr.add]) (by intro u hu;simp at hu;subst hu;rfl) (by have:=xW.out;unfold maxLen;omega) (by have:=xW.out;omega) (by have:=hb.size;simp;omega) ?_)
        intro v' w1 hown1 hgrow1 _;rw [Qh.out] at hown1;have hb3:Bw w w1:=(hb.alloc hb.size _).grown hgrow1 (by simp;have:=hb.size;omega) (fun k hk=>(hown.lt k hk).1);clear hown hgrow1
        go_wp2
        go_roundw
        case rel=>exact ⟨k+1,(c+0+0) / 10000,s++[(c+0+0)%10000],by have:=xW.out;omega,HG.out,by have:=HG.out;omega,zh (by rw [List.length_append,HS.out];rfl),by go_num,by go_num,hown1,hds.snoc zo,HP.out _ _ zo,hb3⟩
        case measure=>simp [intOf];have:=xW.out;omega
theorem yD (x y:Value) (a b:Nat) (w:World) (hx:Nm w x a) (hy:Nm w y b) (ha:sz 10000 a≤549755813888) (hb:sz 10000 b≤549755813888) :
  Calls Tryz.prog 311 #[x,y] w (Ay w (a+b)):=by
 obtain ⟨pa,ca,rfl,h1,h2,h3⟩:=Gs.read hx.gs;obtain ⟨pb,cb,rfl,k1,k2,k3⟩:=Gs.read hy.gs;have:=UC pa pb ca cb _ _ w (dw zo a) (dw zo b) ha hb h3 k3
 rwa [bN zo,bN zo] at this
theorem wpList_append_run {P:Program} {ops:Array Oper} {rest:List Oper} {o:Oper} {a:Act} {w w':World} {Q:Exit→Act→World→Prop} (hgd:o.guard=none) (s x:Operand) (t:TypeId)
  (ho:o.op= .call { callee:=.builtin .append,args:=#[s,x],argTypes:=#[t,t] }) {vs vx v:Value} (hs:a.eval s=vs) (hx:a.eval x=vx)
  (hr:∀ ty,(Builtin.append_ #[t,t] ty #[vs,vx]).run P w= .ok v w') (h:wpList P ops Q rest (a.put o.dst v) w'):wpList P ops Q (o::rest) a w :=
 wpList_plain hgd fun _ hK=>by
  unfold Oper.wp execOp;simp only [ho,resolve,invoke,builtin,Sem.run_bind,Sem.run_pure,Result.andThen_ok,List.map_toArray,bH,gM,hs,hx,hr];exact hK _ _ h
theorem yY (W:World) (g:Nat) (ds l:List Nat) (v:Value) (hx:aA W g (ints ds).toArray 3) (h:Gs W v l) (hl:ds.length+l.length≤1099511627776) :
  ∃ v' W',(∀ ty,(Builtin.append_ #[167,167] ty #[ah (some ⟨g,0,none⟩) ds.length ds.length,v]).run Tryz.prog W= .ok v' W')∧Gs W' v' (ds++l)∧Bw W W'∧∃ b o n c,v'= ah (some ⟨b,o,none⟩) n c∧(b=g∨b=W.heap.size):=by
 obtain ⟨i0,hi,hz0,hz1,hz2⟩:=info_parts wE
 have hcell:∀ (w':World),w'.heap=W.heap→∀ j u,(ints ds)[j]? =some u→w'.cell? ((⟨g,0,none⟩:Addr).add j)=some u:=fun w' hw j u hu=>by
  have hx':aA w' g (ints ds).toArray 3:=by unfold aA at*; rw [hw];exact hx
  rw [Addr.add_lit,hx'.cell,dP,List.getElem?_toArray,hu]
 have same:l=[]→Gs W (ah (some ⟨g,0,none⟩) ds.length ds.length) (ds++l):=fun e=>by
  subst e;rw [List.append_nil];refine Row.mk (by rw [dH]) (by rw [dH];exact aC _) zo hx fun i hi=>?_;rw [dP,List.getElem?_toArray];exact List.getElem?_eq_getElem hi
 have room:∀ (x:Value),l=[]→Src Tryz.prog i0.size 167 x 0 [] W→∃ v' W',(∀ ty,(Builtin.append_ #[167,167] ty #[ah (some ⟨g,0,none⟩) ds.length ds.length,x]).run Tryz.prog W= .ok v' W')∧Gs W' v' (ds++l)∧Bw W W'∧∃ b o n c,v'= ah (some ⟨b,o,none⟩) n c∧(b=g∨b=W.heap.size):=fun x e hs =>
  ⟨_,_,fun ty=>run_append_room_src W 167 167 ty 3 i0 Tryz.underlying167 hi g 0 ds.length ds.length x 0 [] hs zo (fun j hj=>by cases hj) (fun j hj=>by cases hj),by simpa [World.setCells] using same e,by simpa [World.setCells] using Below.refl _ _,_,_,_,_,rfl,.inl rfl⟩
 rcases Gs.cases h with ⟨rfl,rfl⟩|⟨b,off,cap,rfl,h1,h2,h3, -, h5⟩
 ·exact room _ rfl (Src.ofNil W Tryz.underlying167 0)
 ·by_cases hl0:l.length=0
  ·have e:=List.length_eq_zero_iff.1 hl0;have hs:Src Tryz.prog i0.size 167 (ah (some ⟨b,off,none⟩) 0 cap) 0 [] W:=Src.ofSlice W Tryz.underlying167 ⟨b,off,none⟩ 0 cap [] zi (fun j u hu=>by cases hu) (fun u hu=>by cases hu);rw [hl0];exact room _ e hs
  ·have hs:Src Tryz.prog i0.size 167 (ah (some ⟨b,off,none⟩) l.length cap) l.length (ints l) W:=Src.ofSlice W Tryz.underlying167 ⟨b,off,none⟩ l.length cap (ints l) (by rw [dH,hz1];simp) (fun j u hu=>by
    have hj:j<l.length:=by
     have:=(List.getElem?_eq_some_iff.1 hu).1;rwa [dH] at this
    rw [wD hj] at hu;rw [Addr.add_lit,h5 j hj,← hu]) (Go.Mem.ints_oneCell l)
   have hold:(Builtin.firstCells i0.size ds.length (ah (some ⟨g,0,none⟩) ds.length ds.length)).run Tryz.prog W.drew= .ok (ints ds).toArray W.drew :=
    run_firstCells_some W.drew i0.size ds.length ⟨g,0,none⟩ ds.length ds.length (ints ds) (by rw [dH,hz1];simp) (hcell W.drew rfl)
   refine ⟨_,_,fun ty=>run_append_grow_src W 167 167 ty 3 i0 (Z I 0) Tryz.underlying167 hi hz0 (some ⟨g,0,none⟩) ds.length ds.length (ints ds) hold _ l.length (ints l) hs zo zo (growslice_fits_wide zo (by rw [hz2];omega)),?_,?_,_,_,_,_,rfl,.inr rfl⟩
   ·refine Row.mk (by rw [dH,List.length_append]) ?_ ?_ (aA.new _ _ _) fun i hi=>?_
    ·rw [dH,List.length_append];exact grownCap_ge _ _ _ _
    ·have:=grownCap_le_maxLen W (ds.length+l.length) ds.length 3 (by unfold maxLen;omega);unfold maxLen at this;omega
    ·rw [dH,List.length_append] at hi;rw [dP,Array.getElem?_append_left (by simp [ints];omega),List.getElem?_toArray];have e:ints ds++ints l=ints (ds++l):=by unfold ints;rw [List.map_append]
     rw [e];exact List.getElem?_eq_getElem (by rw [dH,List.length_append];exact hi)
   ·exact (Below.drew (Below.refl _ _)).alloc zi _
theorem WX (B:Nat) (l:List Nat) (k:Nat):val B (l.drop k)=val B (l.drop (k+1))*B+l.getD k 0:=by
 by_cases h:k<l.length
 ·exact uz h
 ·rw [List.drop_of_length_le zo,List.drop_of_length_le zo];simp [val,dJ h]
theorem WY {B:Nat} (hB:0<B) {l:List Nat} (hl:fV B l) (k:Nat):val B (l.drop k)=val B l / B^k:=by
 by_cases h:k≤l.length
 ·have e:val B l=val B (l.take k)+B^k*val B (l.drop k):=by
   conv=>lhs;rw [← gJ k l,val_append]
   rw [List.length_take,kU h]
  have h2:=jd hB (hl.take k);rw [List.length_take,kU h] at h2;rw [e,Nat.add_mul_div_left _ _ (Nat.pow_pos hB),fD h2,dP]
 ·rw [List.drop_of_length_le zo];have h2:=jd hB hl;rw [fD (aP h2 (bW hB zo))];rfl
theorem au6 {R D P t f:Nat} (h1:t*P≤D) (h2:D<(t+1)*P) (ht:10000≤t) (hR:R<D*10000) (hP:0<P) (hf:f=R / P) :
  f / (t+1)*D≤R∧R<(f / t+1)*D∧f / t+1≤10001:=by
 have e1:f*P≤R:=by rw [hf];exact Nat.div_mul_le_self R P
 have e2:R<(f+1)*P:=by rw [hf,dM,iL];exact Nat.lt_div_mul_add hP
 refine ⟨?_,?_,?_⟩
 ·have h3:f / (t+1)*D≤f / (t+1)*((t+1)*P):=aT _ (kM h2);have h4:f / (t+1)*(t+1)*P≤f*P:=aU _ (Nat.div_mul_le_self _ _);rw [dA] at h4;omega
 ·have h3:f+1≤(f / t+1)*t:=by
   rw [dM,iL];exact Nat.lt_div_mul_add zo
  have h4:(f+1)*P≤(f / t+1)*t*P:=aU _ h3;have h5:(f / t+1)*(t*P)≤(f / t+1)*D:=aT _ h1;rw [dA] at h4;omega
 ·have h3:f*P<(t+1)*10000*P:=by
   have h6:D*10000≤(t+1)*P*10000:=aU _ (kM h2);rw [dA,aJ P 10000,← dA] at h6;omega
  have h4:f<(t+1)*10000:=Nat.lt_of_mul_lt_mul_right h3
  have h5:f / t<10001:=by
   rw [dz zo];omega
  omega
theorem aq1 {lo hi R D:Nat} (h1:lo*D≤R) (hR:R<D*10000) (hhi:hi≤10001) (hlt:lo+1<hi):lo≤9999∧(lo+hi) / 2≤10000∧lo<(lo+hi) / 2∧(lo+hi) / 2<hi:=by
 have:lo<10000:=by
  rcases aH lo 10000 with h|h
  ·exact h
  ·exfalso
   have h2:10000*D≤lo*D:=aU _ h;rw [aJ] at h2;omega
 omega
theorem yS {lo R D:Nat} (h1:lo*D≤R) (h2:R<(lo+1)*D):R / D=lo∧R%D=R - D*lo:=by
 have hD:0<D:=by
  rcases aY D with h|h
  ·subst h;simp at h2
  ·exact h
 have e:R / D=lo:=by
  rw [Nat.div_eq_iff zo];rw [dM,iL] at h2;have:=aJ D lo;omega
 refine ⟨e,?_⟩;have:=dG R D;rw [e] at this;omega
theorem OC {B D:Nat} {a s:List Nat} {j R lo:Nat} (hj:j<a.length) (he:val B (a.drop (j+1))=D*val B s+R) (h1:(a.getD j 0+B*R) / D=lo) :
  val B (a.drop j)=D*val B (lo::s)+(a.getD j 0+B*R)%D:=by
 rw [uz hj,he];have h:=dG (a.getD j 0+B*R) D;rw [h1] at h;simp only [val];have e1:D*(lo+B*val B s)=D*lo+B*(D*val B s):=by rw [aX,dN]
 have e2:(D*val B s+R)*B=B*(D*val B s)+B*R:=by rw [dM,aJ,aJ R]
 rw [e1,e2];omega
theorem EO (x y:Value) (l m:List Nat) (w:World) (hx:Gs w x l) (hy:Gs w y m) (hl:fV 10000 l) (hm:Okm m) (ha:l.length≤1099511627776) (hb:m.length≤1099511627776) :
  Calls Tryz.prog 263 #[x,y] w fun e w'=>∃ v,e= aj v∧Bw w w'∧Nm w' v (val 10000 l*val 10000 m):=by
 obtain ⟨pa,ca,rfl,h1,h2,h3⟩:=Gs.read hx;obtain ⟨pb,cb,rfl,k1,k2,k3⟩:=Gs.read hy;exact zK pa pb ca cb _ _ w hl hm ha hb h3 k3
theorem Gs.one {w:World} {d:Nat}:Gs (w.alloc (.cells #[Z I (d:Int)] 3 (0,0))) (ah (some ⟨w.heap.size,0,none⟩) 1 1) [d]:=by
 refine Row.mk rfl (by simp [ints]) zo (aA.new _ _ _) fun i hi=>?_
 match i,hi with
 | 0,_=>rfl
def xL (w:World) (a b:Nat) (e:Ending) (w':World):Prop:=∃ q r,e= aj (aD #[q,r])∧Bw w w'∧Nm w' q (a / b)∧Nm w' r (a%b)
theorem Sy (x:Value) (a d:Nat) (pb:Option Addr) (cb:Nat) (w:World) (hx:Nm w x a) (ha:sz 10000 a≤1099511627776) (hd0:0<d) (hd1:d<10000)
  (hc:∃ b off,pb=some ⟨b,off,none⟩∧w.cell? ⟨b,off,none⟩=some (.int .i64 (d:Int))) :
  Calls Tryz.prog 260 #[x,ah pb 1 cb] w (xL w a d):=by
 have HO:=zh (Y9 x a d w hx ha hd0 zo);obtain ⟨pa,ca,rfl, -⟩:=hx.read;obtain ⟨b,off,rfl,hcell⟩:=hc;clear hx ha;go_enter Tryz.func260,Tryz.ntmps260
 go_wp2_with fail
 refine HO.out.mono ?_;rintro e w1 ⟨v,rfl,hb1,hv⟩;obtain ⟨pq,lq,cq,rfl⟩:=hv.slice;have HV:=zh hv;have hr:a%d<10000:=Nat.lt_trans (gH _ hd0) hd1;generalize hR:a%d=r at *;have HR:=zh hR;clear hR hv hcell;have HC:=zh (yT (ah (some ⟨w1.heap.size,0,none⟩) 1 1) [r] (w1.alloc (.cells #[Z I (r:Int)] 3)) Gs.one (fV.nil.cons hr));go_wp2_with fail
 refine HC.out.mono ?_;rintro e w' ⟨v',rfl,rfl,hv'⟩;obtain ⟨pr,lr,cr,rfl⟩:=hv'.slice;have HV':=zh hv';clear hv' HC HO;go_wp2_with fail
 go_ret2
 refine ⟨_,_,rfl,bL hb1 _,HV.out.alloc _,?_⟩;have e:val 10000 [r]=r:=by simp [val]
 rw [HR.out,← e];exact HV'.out
theorem OE (x:Value) (a p d:Nat) (pb:Option Addr) (cb:Nat) (w:World) (hx:Nm w x a) (ha:sz 10000 a≤p+1) (hp:p≤549755813888) (hd:a<d) :
  Calls Tryz.prog 260 #[x,ah pb (p+2) cb] w (xL w a d):=by
 obtain ⟨i0,hi,hz0,hz1,hz2⟩:=info_parts wE;obtain ⟨v',W',hap,hg,hb, -⟩:=yY (w.alloc (.cells #[] 3)) w.heap.size [] (d9 10000 a) x (aA.new _ _ _) (hx.alloc _) (by have:(d9 10000 a).length=sz 10000 a:=rfl;simp;omega);obtain ⟨pa,ca,rfl,k1,k2, -⟩:=hx.read;rw [List.nil_append] at hg;have HG:=zh hg;obtain ⟨p2,c2,rfl, -⟩:=hg.read;have HB:=zh hb;have HA:Hid (a / d=0∧a%d=a):=zh ⟨fD hd,fQ hd⟩;generalize sz 10000 a=sa at *;clear hx hg hb hd;have h1:((p:Int)+2 == 1)=false:=by simp;omega
 have h2:(sa:Int)≤(p:Int)+2 - 1:=by omega
 have XT:=zh hap;clear hap;go_enter Tryz.func260,Tryz.ntmps260
 go_wp2_with (at_builtin;refine wpList_append_run rfl (.tmp 40) (.tmp 41) 167 rfl rfl rfl XT.out ?_)
 go_ret2
 exact ⟨_,_,rfl,Bt aI HB.out,by rw [HA.out.1];exact Nm.zero _,by rw [HA.out.2];exact HG.out⟩
theorem Gs.drop {w:World} {b off n c:Nat} {l:List Nat} (h:Gs w (ah (some ⟨b,off,none⟩) n c) l) (k:Nat) (hk:k≤n):Gs w (ah (some ⟨b,off+k,none⟩) (n - k) (c - k)) (l.drop k):=by
 rcases Row.cases h with ⟨h1, -⟩|⟨b',off',cap,arr,e,h2,h3,h4,h5⟩
 ·cases h1
 ·simp only [Value.slice.injEq,Option.some.injEq,Addr.mk.injEq,and_true] at e;obtain ⟨⟨rfl,rfl⟩,hn,rfl⟩:=e;rw [dH] at hn h2;refine Row.mk (by rw [dH,List.length_drop];omega) (by rw [dH,List.length_drop];omega) zo h4 fun i hi=>?_;rw [dH,List.length_drop] at hi;have:=h5 (k+i) (by rw [dH];omega);rw [← kY] at this;rw [this];simp [ints]
theorem Nm.setBlock {w:World} {b off k c n g:Nat} (h:Nm w (ah (some ⟨b,off,none⟩) k c) n) (hne:b≠g) (o:Nat) (u:Value):Nm (w.setCell ⟨g,o,none⟩ u) (ah (some ⟨b,off,none⟩) k c) n:=by
 obtain ⟨a,cap,h1,h2,h3,h4,h5⟩:=h;refine ⟨a,cap,h1,h2,h3,h4,fun ad had=>?_⟩;obtain ⟨h6,arr,h7,h8⟩:=h5 ad had
 have e:ad.block=b:=by
  subst had;simp only [Value.slice.injEq,Option.some.injEq] at h1;rw [← h1.1]
 have hy:aA w ad.block arr 3:=h7;exact ⟨h6,arr,hy.setOther u (by rw [e];exact hne),h8⟩
theorem Xh (b off n c:Nat) (l:List Nat) (w:World) (h:Gs w (ah (some ⟨b,off,none⟩) n c) l) (hd:fV 10000 l) :
  Calls Tryz.prog 294 #[ah (some ⟨b,off,none⟩) n c] w fun e w'=>∃ k,e= aj (ah (some ⟨b,off,none⟩) k c)∧w=w'∧Nm w (ah (some ⟨b,off,none⟩) k c) (val 10000 l):=by
 rcases Gs.cases h with ⟨h1, -⟩|⟨b',off',cap,e,h1,h2,h3, -, h5⟩
 ·cases h1
 ·simp only [Value.slice.injEq,Option.some.injEq,Addr.mk.injEq,and_true] at e;obtain ⟨⟨rfl,rfl⟩,rfl,rfl⟩:=e;refine (MS b off c l w h1 h2 h5).mono ?_;rintro e w' ⟨rfl,rfl⟩;refine ⟨_,rfl,rfl,?_⟩
  rcases Row.cases h with ⟨e1, -⟩|⟨b',off',cap',arr,e1, -, -, h4, -⟩
  ·cases e1
  ·simp only [Value.slice.injEq,Option.some.injEq,Addr.mk.injEq,and_true] at e1;obtain ⟨⟨rfl,rfl⟩, -, rfl⟩:=e1;have ht:=trimLen_le l l.length;have e:val 10000 l=val 10000 (l.take (trimLen l l.length)):=by rw [zw _ _ _ (aC _)];simp
   rw [e];refine Nm.Vw ?_ (hd.take _) (zx l _ (aC _));refine Row.mk (arr:=arr) (by rw [dH];simp;omega) (by rw [dH];simp;omega) h2 h4 fun i hi=>?_;rw [dH] at hi;have hi2:i<l.length:=by simp at hi;omega
   have:=h5 i hi2;rw [h4.cell] at this;rw [this];simp [ints,hi2]
theorem Nm.Zc {w:World} {v:Value} {a k:Nat} (h:Gs w v ((d9 10000 a).drop k)):Nm w v (val 10000 ((d9 10000 a).drop k)):=Nm.Vw h ((dw zo a).drop k) (Go.Dec.DC (oU zo a) k)
theorem OD (x:Value) (a n p m D:Nat) (bl:List Nat) (pb:Option Addr) (cb:Nat) (w:World) (hx:Nm w x a) (hbs:Gs w (ah pb (n+1) cb) bl) (hbl:bl.length=n+1) (db:fV 10000 bl) (htop:1≤bl.getD n 0)
  (hn:n=p+1) (hm:sz 10000 a=m+n) (hm1:1≤m) (ha2:sz 10000 a≤274877906944) (hD:val 10000 bl=D) :
  Calls Tryz.prog 260 #[x,ah pb (n+1) cb] w (xL w a D):=by
 obtain ⟨i0,hi,hz0,hz1,hz2⟩:=info_parts wE;have Pg:bl.length=p+2:=by omega
 have hv2:=qE (B:=10000) Pg;have ZI:=jd (B:=10000) zo (db.take p);rw [List.length_take,kU zo] at ZI;rw [hD] at hv2;have d1:=db.getD zo n;have d0:=db.getD zo p;rw [show p+1=n by omega] at hv2
 obtain ⟨b,off,rfl,lbb,c1⟩:∃ b off,pb=some ⟨b,off,none⟩∧b<w.heap.size∧w.cell? ⟨b,off+n,none⟩=some (.int .i64 (bl.getD n 0:Nat)):=by
  obtain ⟨a',c',e, -, -, h5⟩:=hbs.read;simp only [Value.slice.injEq] at e;obtain ⟨rfl, -, -⟩:=e;exact h5 n zo
 have c0:w.cell? ⟨b,off+p,none⟩=some (.int .i64 (bl.getD p 0:Nat)):=by
  obtain ⟨a',c',e, -, -, h5⟩:=hbs.read;simp only [Value.slice.injEq] at e;obtain ⟨rfl, -, -⟩:=e;obtain ⟨b',o',e2, -, h6⟩:=h5 p zo;simp only [Option.some.injEq,Addr.mk.injEq,and_true] at e2;obtain ⟨rfl,rfl⟩:=e2;exact h6
 generalize bl.getD n 0=t1 at *;generalize bl.getD p 0=t0 at *;obtain ⟨T,eT⟩:∃ T,t1*10000+t0=T:=⟨_,rfl⟩;have hT:10000≤T∧T≤99999999:=by omega
 obtain ⟨P,hP⟩:∃ P,10000^p=P:=⟨_,rfl⟩;have hP0:0<P:=by rw [← hP];exact Nat.pow_pos zo
 rw [hP] at hv2 ZI
 have hD1:T*P≤D:=by
  rw [hv2,← eT,aJ,aJ t1,iH (10000*t1)];omega
 have hD2:D<(T+1)*P:=by
  rw [hv2,dM,iL,← eT,aJ (t1*10000+t0),aJ t1,iH (10000*t1)];omega
 have hD0:0<D:=aP (gV zo hP0) hD1
 have hDn:D<10000^(n+1):=by
  have:=jd (B:=10000) zo db
  rwa [hD,hbl] at this
 have GUESS:=zh (fun R f (hR:R<D*10000) (hf:f=R / P)=>au6 hD1 hD2 hT.1 hR hP0 hf);have hla:(d9 10000 a).length=m+n:=hm;have hda:=dw (B:=10000) zo a;have hva:=bN (B:=10000) zo a;obtain ⟨l,El⟩:∃ l,d9 10000 a=l:=⟨_,rfl⟩;obtain ⟨pa,ca,rfl,k1,k2,k3⟩:=hx.read;rw [El] at k3 hla hda hva;rw [hm] at k1 k3;obtain ⟨ba,oa,rfl,lba, -⟩:=k3 0 zo
 have ka:∀ j,j<m+n→w.cell? ⟨ba,oa+j,none⟩=some (.int .i64 (l.getD j 0:Nat)):=fun j hj=>by
  obtain ⟨b',o',e2, -, h6⟩:=k3 j hj;simp only [Option.some.injEq,Addr.mk.injEq,and_true] at e2;obtain ⟨rfl,rfl⟩:=e2;exact h6
 have KA:=zh ka;have HLA:=zh hla;have HDA:=zh hda
 have hgd:Gs w (ah (some ⟨ba,oa+m,none⟩) n (ca - m)) (l.drop m):=by
  have:=Gs.drop hx.gs m (by rw [hm];omega);rw [hm,El] at this
  rwa [show m+n - m=n by omega] at this
 have hr0:val 10000 (l.drop m)<D:=by
  have h1:=jd (B:=10000) zo (hda.drop m);rw [List.length_drop,hla,show m+n - m=n by omega] at h1
  have h2:10000^n≤D:=by
   have h3:10000*P≤T*P:=aU _ hT.1;have h4:10000^n=10000*P:=by rw [hn,bS,hP,aJ]
   omega
  omega
 have HGD:=zh hgd;have HR0:=zh hr0;have RL:=zh hbs;have HDB:=zh db;have yu:=zh hbl;have HD:=zh hD;have HDN:=zh hDn
 have HDiv:Hid (∀ s r,a=D*val 10000 s+r→r<D→a / D=val 10000 s∧a%D=r):=zh fun s r e h=>by
  constructor
  ·rw [e,Nat.mul_add_div hD0,fD h,fZ]
  ·rw [e,Nat.mul_add_mod,fQ h]
 have HVA:=zh hva
 have HDr:Hid (∀ w' v k,Gs w' v (l.drop k)→Nm w' v (val 10000 (l.drop k))):=zh fun w' v k h=>by
  rw [← El] at h ⊢;exact Nm.Zc h
 rw [hm] at ha2 ⊢;clear Pg hv2 ZI db hbs hbl hD hDn hD1 hD2 htop hgd hr0 k3 ka hla hda hva El hx hm;have hbn:(n:Int)+1 - 1=(n:Int):=by omega
 have ep:(n:Int) - 1=(p:Int):=by omega
 have em:(m:Int)+(n:Int) - (n:Int)=(m:Int):=by omega
 have emn:m+n - m=n:=by omega
 have eTi:(t1:Int)*10000+(t0:Int)=(T:Int):=by omega
 have hn1:((n:Int)+1 == 1)=false:=by simp;omega
 have hmn:¬ (m:Int)+(n:Int)≤(n:Int):=by omega
 have hwp:I.wrap (p:Int)=(p:Int):=by rw [IntKind.wrap_i64];omega
 have hpn:(p:Int)<(n:Int)+1:=by omega
 obtain ⟨hT1,hT2⟩:=hT;have HNP:=zh hn;clear eT hn;go_enter Tryz.func260,Tryz.ntmps260
 go_wp2_with fail
 go_quiet (fail)
 go_wp2_with (at_make;refine wpList_make_full _ rfl _ _ 167 rfl w.heap.size 3 i0 (Z I 0) 1 Tryz.underlying167 hi hz0 hz1 _ _ _ _ m rfl rfl zo zo (by rw [hz2];omega) (by unfold maxLen;omega) (aC _) ?_)
 intro w0 hown0 lZ;rw [Bj] at hown0;obtain ⟨hbx, -⟩:=wR hown0;have hb0:Bw w w0:=(below_drewN (Below.refl _ _) _).grown lZ (aC _) (fun k h=>by cases h);have e0:Gs (w0.alloc (.cells #[] 3)) (ah (some ⟨ba,oa+m,none⟩) n (ca - m)) (l.drop m):=(HGD.out.later hb0).alloc _;obtain ⟨v1,w1,hap,hg1,hb1, -⟩:=yY (w0.alloc (.cells #[] 3)) w0.heap.size [] (l.drop m) _ (aA.new _ _ _) e0 (by rw [List.length_drop,HLA.out];simp;omega);rw [List.nil_append] at hg1;have HN1:=zh (HDr.out _ _ _ hg1);have HB1:Hid (Bw w w1):=zh (Bt (bL hb0 _) hb1);have aP3:Hid (aA w1 w.heap.size (ints (bJ m 0)).toArray 3):=zh ((hbx.alloc _).later hb1);have XT:=zh hap;obtain ⟨pr,lr,cr,rfl⟩:=HN1.out.slice;clear hap hg1 hb1 e0 hb0 hbx lZ hown0 c1 c0 HGD
 go_wp2_with (at_builtin;refine wpList_append_run rfl (.tmp 59) (.tmp 65) 167 rfl rfl rfl XT.out ?_)
 clear XT
 go_loopw [11,12,13,14,15,16,17] (fun rv iv _ _ _ _ _ wr=>∃ (q:Int) (R:Nat) (s:List Nat), -1≤q∧q<m∧iv= Z I q∧Hid (s.length=m - (q+1).toNat)∧Hid (aA wr w.heap.size (ints (bJ (q+1).toNat 0++s)).toArray 3)∧Hid (fV 10000 s) ∧
   Hid (val 10000 (l.drop (q+1).toNat)=D*val 10000 s+R)∧Hid (R<D)∧Hid (Nm wr rv R)∧Hid (Bw w wr))
  (fun _ iv _ _ _ _ _ _=>(intOf iv+1).toNat)
 case atStart =>
  have e:((m:Int) - 1+1).toNat=m:=by omega
  exact ⟨(m:Int) - 1,val 10000 (l.drop m),[],by omega,by omega,rfl,zh (by rw [e];simp),zh (by rw [e,List.append_nil];exact aP3.out),zh fV.nil,zh (by rw [e];simp [val]),HR0,HN1,HB1⟩
 case round =>
  clear HN1 HB1 aP3;obtain ⟨q,R,s,hq1,hq2,rfl,HS,ug,BI,HV,HR,HNR,HB⟩:=hrel;obtain ⟨p1,l1,c1,rfl⟩:=HNR.out.slice
  by_cases hq:q<0
  ·have hq0:q= -1:=by omega
   subst hq0;have HF:Hid (a=D*val 10000 s+R):=zh (by have:=HV.out;simpa [HVA.out] using this)
   have hgs:Gs wr (ah (some ⟨w.heap.size,0,none⟩) m m) s:=by
    have h1:=ug.out;have h2:=HS.out;refine Gs.yN (post:=[]) (by simpa using h1) (by simpa using h2) (aC _) zo
   have HC:=zh (yT _ s wr hgs BI.out);clear hgs;go_wp2_with fail
   refine HC.out.mono ?_;rintro e w' ⟨v',rfl,rfl,hv'⟩;obtain ⟨p2,l2,c2,rfl⟩:=hv'.slice;have HV':=zh hv';clear hv' HC;go_wp2_with fail
   go_ret2
   obtain ⟨e1,e2⟩:=HDiv.out _ _ HF.out HR.out;exact ⟨_,_,rfl,HB.out,by rw [e1];exact HV'.out,by rw [e2];exact HNR.out⟩
  ·obtain ⟨j,rfl⟩:=Int.eq_ofNat_of_zero_le (by omega:0≤q);have ej:((j:Int)+1).toNat=j+1:=by omega
   have hjm:j<m:=by omega
   rw [ej] at HS HV ug;have hcj:wr.cell? ⟨ba,oa+j,none⟩=some (.int .i64 (l.getD j 0:Nat)):=(HB.out.cell (by exact lba)).trans (KA.out j zo);have hdj:l.getD j 0<10000:=HDA.out.getD zo j;have HST:Hid (∀ lo,(l.getD j 0+10000*R) / D=lo→val 10000 (l.drop j)=D*val 10000 (lo::s)+(l.getD j 0+10000*R)%D):=zh fun lo h=>OC (by rw [HLA.out];omega) HV.out h;clear HV;generalize l.getD j 0=d at *;obtain ⟨R',ER'⟩:∃ y,Hid (d+10000*R=y):=⟨_,zh rfl⟩;rw [ER'.out] at HST;have aU7:sz 10000 R≤n+1:=dF zo _ _ (Nat.lt_trans HR.out HDN.out);have hR':R'<D*10000:=by have:=ER'.out;have:=HR.out;omega
   have af6:sz 10000 R'≤n+2:=by
    refine dF zo _ _ (aP hR' ?_);rw [bS];exact aU _ (kM HDN.out)
   obtain ⟨v2,w2,hap,hg2,hb2,b3,o3,n3,c3,rfl,aG3⟩:=yY (wr.alloc (.cells #[Z I (d:Int)] 3)) wr.heap.size [d] (d9 10000 R) (ah p1 l1 c1) (aA.new _ _ _) (HNR.out.gs.alloc _) (by have:(d9 10000 R).length=sz 10000 R:=rfl;simp;omega)
   have hev:val 10000 ([d]++d9 10000 R)=R':=by
    show d+10000*val 10000 (d9 10000 R)=R'
    rw [bN zo,ER'.out]
   have hb3:b3≠w.heap.size:=by
    have h1:=ug.out.lt;have h2:b3=wr.heap.size∨b3=wr.heap.size+1:=by simpa using aG3
    omega
   have hct:=Xh b3 o3 n3 c3 _ w2 hg2 ((dw zo R).cons hdj);rw [hev] at hct;have HC:=zh hct;have XT:=zh hap;have HB2:Hid (Bw wr w2):=zh (Bt (bL (Below.refl _ _) _) hb2);have HRD:=zh hR';have HSR:=zh af6;clear hev hct hap hb2 hg2 aG3 hR' aU7 af6 ER' HR HNR;go_wp2_with (at_builtin;refine wpList_append_run rfl (.tmp 78) (.tmp 79) 167 rfl rfl rfl XT.out ?_)
   refine HC.out.mono ?_;rintro e w' ⟨z3,rfl,rfl,hv3⟩;obtain ⟨p3,c3',e3,q1,q2,q3⟩:=hv3.read;simp only [Value.slice.injEq] at e3;obtain ⟨rfl,rfl,rfl⟩:=e3;have RI:=zh hv3
   have HQ3:Hid (∀ i,i<sz 10000 R'→b3<w2.heap.size∧w2.cell? ⟨b3,o3+i,none⟩=some (.int .i64 ((d9 10000 R').getD i 0:Nat))):=zh fun i hi=>by
    obtain ⟨b',o',e2,h5,h6⟩:=q3 i hi;simp only [Option.some.injEq,Addr.mk.injEq,and_true] at e2;obtain ⟨rfl,rfl⟩:=e2;exact ⟨h5,h6⟩
   replace HB:=zh (Bt HB.out HB2.out);replace ug:=zh (ug.out.later HB2.out);clear hv3 q3 HC XT HB2 hcj;generalize hz3:sz 10000 R'=z3 at *;have HZ3:=zh hz3;clear hz3;go_wp2_with fail
   go_loop [13,14] (fun fv kv=>∃ (k:Int) (f:Nat),(p:Int) - 1≤k∧k≤(p:Int)+2∧kv= Z I k∧fv= Z I f∧Hid (f=val 10000 ((d9 10000 R').drop (k+1).toNat)))
    (fun _ kv=>(intOf kv+1).toNat)
   case atStart =>
    have h1:=HNP.out
    exact ⟨(n:Int)+1,0,by omega,by omega,rfl,rfl,zh (by
     have h2:(d9 10000 R').length=z3:=HZ3.out;have h3:=HSR.out;rw [List.drop_of_length_le zo];rfl)⟩
   case round =>
    obtain ⟨k,f,hk1,hk2,rfl,rfl,HF⟩:=hrel
    by_cases hkp:(p:Int)≤k
    ·obtain ⟨i,rfl⟩:=Int.eq_ofNat_of_zero_le (by omega:0≤k);have ei:((i:Int)+1).toNat=i+1:=by omega
     rw [ei] at HF
     have hf:f<100000000:=by
      have h1:=HF.out;have h2:=jd (B:=10000) zo ((dw (by omega:1<10000) R').drop (i+1));rw [List.length_drop] at h2;have h3:(d9 10000 R').length=z3:=HZ3.out;have h4:=HSR.out;have h5:=HNP.out;have h6:10000^((d9 10000 R').length - (i+1))≤10000^2:=bW zo zo;rw [h1];exact aP h2 h6
     have NM:Hid (val 10000 ((d9 10000 R').drop i)=f*10000+(d9 10000 R').getD i 0):=zh (by rw [WX,← HF.out])
     by_cases hi3:i<z3
     ·obtain ⟨-, hc3⟩:=HQ3.out i hi3;have hd3:(d9 10000 R').getD i 0<10000:=(dw zo R').getD zo i;clear HF;generalize (d9 10000 R').getD i 0=y at *;go_wp2_with fail
      go_round
      case rel=>exact ⟨(i:Int) - 1,f*10000+y,by omega,by omega,rfl,by go_num,zh (by rw [show ((i:Int) - 1+1).toNat=i by omega];exact NM.out.symm)⟩
      case measure=>simp [intOf]
     ·have hy0:(d9 10000 R').getD i 0=0:=by
       have h3:(d9 10000 R').length=z3:=HZ3.out;rw [cO,List.getElem?_eq_none zo];rfl
      rw [hy0,fZ] at NM;clear HF hy0;go_wp2_with fail
      go_round
      case rel=>exact ⟨(i:Int) - 1,f*10000,by omega,by omega,rfl,by go_num,zh (by rw [show ((i:Int) - 1+1).toNat=i by omega];exact NM.out.symm)⟩
      case measure=>simp [intOf]
    ·have hkk:k=(p:Int) - 1:=by omega
     subst hkk
     have hfR:f=R' / P:=by
      have h1:=HF.out;rw [show ((p:Int) - 1+1).toNat=p by omega,WY zo (dw zo R'),bN zo,hP] at h1;exact h1
     have hf8:f<1000000000000:=by
      have h1:=jd (B:=10000) zo ((dw (by omega:1<10000) R').drop p);rw [List.length_drop] at h1;have h2:=HF.out;rw [show ((p:Int) - 1+1).toNat=p by omega] at h2;have h3:(d9 10000 R').length=z3:=HZ3.out;have h4:=HSR.out;have h5:=HNP.out;have h6:10000^((d9 10000 R').length - p)≤10000^3:=bW zo zo;rw [h2];exact aP h1 h6
     obtain ⟨g1,g2,g3⟩:=GUESS.out R' f HRD.out hfR;have hlo:(((f / (T+1):Nat)):Int)=(f:Int) / ((T:Int)+1):=by rw [Int.natCast_ediv];rfl
     have hhi:(((f / T:Nat)):Int)=(f:Int) / (T:Int):=by rw [Int.natCast_ediv]
     have hl1:f / (T+1)≤f:=Nat.div_le_self _ _;generalize f / (T+1)=lo at *;generalize f / T=hi1 at *;have hz1:(((T:Int)+1) == 0)=false:=by simp;omega
     have hz2':((T:Int) == 0)=false:=by simp;omega
     clear HF hfR;have HG1:=zh g1;have HG2:=zh g2;have hlo2:(f:Int) / ((T:Int)+1)=(lo:Int):=hlo.symm;have hhi2:(f:Int) / (T:Int)=(hi1:Int):=hhi.symm;clear g1 g2 hlo hhi;go_wp2_with fail
     go_quiet (fail)
     obtain ⟨w3,Ew3⟩:∃ y,w2.drewN nq=y:=⟨_,rfl⟩;have hw3:Bw w2 w3:=by rw [← Ew3];exact below_drewN (Below.refl _ _) _
     rw [Ew3];replace RI:=zh (RI.out.later hw3);replace HB:=zh (Bt HB.out hw3);replace ug:=zh (ug.out.later hw3);clear Ew3 hw3 HQ3 hf8 hl1 hz1 hz2' hlo2 hhi2;obtain ⟨wo,rfl⟩:∃ wo:World,wo=wr:=⟨_,rfl⟩;have h13:hi1+1≤10001:=g3
     have hlh:lo<hi1+1:=by
      have h1:=HG1.out;have h2:=HG2.out
      rcases aH lo (hi1+1) with h|h
      ·exact h
      ·exfalso
       have h3:(hi1+1)*D≤lo*D:=aU _ h;omega
     go_wp2_with fail
     go_loopw [15,16,17] (fun lv hv _ wr=>∃ lo hi:Nat,lo<hi∧hi≤10001∧lv= Z I lo∧hv= Z I hi∧Hid (lo*D≤R')∧Hid (R'<hi*D)∧Hid (Nm wr (ah (some ⟨b3,o3,none⟩) z3 c3) R')∧Hid (Bw w wr) ∧
       Hid (aA wr w.heap.size (ints (bJ (j+1) 0++s)).toArray 3))
      (fun lv hv _ _=>(intOf hv - intOf lv).toNat)
     case atStart=>exact ⟨lo,hi1+1,hlh,h13,rfl,by go_num,HG1,HG2,RI,HB,ug⟩
     case round =>
      clear RI HB ug HG1 HG2 hlh h13 g3;obtain ⟨lo,hi,hlh,hhb,rfl,rfl,HG1,HG2,RI,HB,ug⟩:=hrel
      by_cases hfin:lo+1<hi
      ·obtain ⟨f1,f2,f3,f4⟩:=aq1 HG1.out HRD.out hhb hfin;have Ws:((lo:Int)+(hi:Int)) / 2=(((lo+hi) / 2:Nat):Int):=by omega
       obtain ⟨mm,emm⟩:∃ y,(lo+hi) / 2=y:=⟨_,rfl⟩;rw [emm] at f2 f3 f4 Ws;have hgt:(1:Int)<(hi:Int) - (lo:Int):=by omega
       have Yn:=zh (EO _ (ah (some ⟨wr.heap.size,0,none⟩) 1 1) bl [mm] (wr.alloc (.cells #[Z I (mm:Int)] 3)) (RL.out.later (Bt HB.out (bL (Below.refl _ _) _))) Gs.one HDB.out (.inr ⟨rfl,fun x hx=>by rw [List.mem_singleton.1 hx];exact f2⟩) (by rw [yu.out];omega) zi);clear emm;go_wp2_with fail
       refine Yn.out.mono ?_;rintro e w4 ⟨v4,rfl,hb4,hv4⟩;have hval:val 10000 bl*val 10000 [mm]=D*mm:=by rw [HD.out];simp [val]
       rw [hval] at hv4;have hct:=yT v4 _ w4 hv4.gs (dw zo _);rw [bN zo] at hct;have HC4:=zh hct;have h14:Bw wr w4:=Bt (bL (Below.refl _ _) _) hb4;obtain ⟨p4,l4,c4,rfl⟩:=hv4.slice;replace RI:=zh (RI.out.later h14);replace HB:=zh (Bt HB.out h14);replace ug:=zh (ug.out.later h14);clear hval hct hb4 h14 hv4 Yn;go_wp2_with fail
       refine HC4.out.mono ?_;rintro e w' ⟨v5,rfl,rfl,hv5⟩;obtain ⟨p5,l5,c5,rfl⟩:=hv5.slice;have HO:=zh (vZ _ _ (D*mm) R' w4 hv5 RI.out);clear hv5 HC4;go_wp2_with fail
       refine HO.out.mono ?_;rintro e w5 ⟨r,rfl,hb5,hor⟩;replace RI:=zh (RI.out.later hb5);replace HB:=zh (Bt HB.out hb5);replace ug:=zh (ug.out.later hb5);clear HO hb5
       by_cases hle:D*mm≤R'
       ·have hr:r≤0:=hor.1.2 hle;have Oe:Hid (mm*D≤R'):=zh (by rw [aJ];exact hle);clear hle hor;go_wp2_with fail
        go_roundw
        case rel=>exact ⟨mm,hi,f4,hhb,rfl,rfl,Oe,HG2,RI,HB,ug⟩
        case measure=>exact zM
       ·have hr:¬ r≤0:=fun h=>hle (hor.1.1 h);have HLT:Hid (R'<mm*D):=zh (by rw [aJ];omega);clear hle hor;go_wp2_with fail
        go_roundw
        case rel=>exact ⟨lo,mm,f3,by omega,rfl,rfl,HG1,HLT,RI,HB,ug⟩
        case measure=>exact zM
      ·have hh:hi=lo+1:=by omega
       subst hh;have hgt:¬ (1:Int)<(lo:Int)+1 - (lo:Int):=by omega
       obtain ⟨hdv,hmd⟩:=yS HG1.out HG2.out
       have aG6:lo<10000:=by
        rw [← hdv,dz zo,aJ];exact HRD.out
       have NM:=zh hdv;have HMD:=zh hmd;have hbs:=ug.out.set j (Z I (lo:Int));rw [List.setIfInBounds_toArray,ints_set,zD] at hbs;have fbx:=ug.out.free j
       have hcx:wr.cell? ⟨w.heap.size,j,none⟩=some (.int .i64 0):=by
        rw [ug.out.cell,List.getElem?_toArray,wD (by rw [List.length_append,List.length_replicate];omega),xG zo];rfl
       have hbw:Below w.heap.size w (wr.setCell ⟨w.heap.size,j,none⟩ (Z I (lo:Int))):=HB.out.setCell (aC _) _;obtain ⟨w6,Ew6⟩:∃ y,wr.setCell ⟨w.heap.size,j,none⟩ (Z I (lo:Int))=y:=⟨_,rfl⟩;rw [Ew6] at hbs hbw;have hn6:Nm w6 (ah (some ⟨b3,o3,none⟩) z3 c3) R':=by rw [← Ew6];exact Nm.setBlock RI.out hb3 _ _
       have Yn:=zh (EO _ (ah (some ⟨w6.heap.size,0,none⟩) 1 1) bl [lo] (w6.alloc (.cells #[Z I (lo:Int)] 3)) (RL.out.later (Bt hbw (bL (Below.refl _ _) _))) Gs.one HDB.out (.inl (fV.nil.cons aG6)) (by rw [yu.out];omega) zi);have XR:=zh hbw;have HN6:=zh hn6;have XQ:=zh hbs;clear hdv hmd hbs hbw hn6 HB RI ug HG1 HG2 hlh hhb;go_wp2_with fail
       clear Ew6 fbx hcx;refine Yn.out.mono ?_;rintro e w7 ⟨v4,rfl,hb4,hv4⟩;have hval:val 10000 bl*val 10000 [lo]=D*lo:=by rw [HD.out];simp [val]
       rw [hval] at hv4;have h17:Bw w6 w7:=Bt (bL (Below.refl _ _) _) hb4;obtain ⟨p4,l4,c4,rfl⟩:=hv4.slice;have hdl:D*lo≤R':=by rw [← NM.out];exact Nat.mul_div_le R' D
       have HDF:=zh (sH _ _ R' (D*lo) w7 (HN6.out.later h17) hv4 (by rw [HZ3.out];have:=HSR.out;omega) hdl);replace XR:=zh (Bt XR.out h17);replace XQ:=zh (XQ.out.later h17);clear hval h17 hb4 hv4 Yn HN6 hdl;go_wp2_with fail
       refine HDF.out.mono ?_;rintro e w8 ⟨v8,rfl,o7,wF⟩;obtain ⟨p8,l8,c8,rfl⟩:=wF.slice;have HN8:=zh wF;replace XR:=zh (Bt XR.out o7);replace XQ:=zh (XQ.out.later o7);clear HDF o7 wF;go_wp2_with fail
       go_roundw
       case rel =>
        have ej2:((j:Int) - 1+1).toNat=j:=by omega
        refine ⟨(j:Int) - 1,R'%D,lo::s,by omega,by omega,rfl,zh (by rw [ej2,aV,HS.out];omega),zh (by rw [ej2];exact XQ.out),zh (BI.out.cons aG6),zh (by rw [ej2];exact HST.out lo NM.out),zh (gH _ hD0),zh ?_,XR⟩;rw [HMD.out];exact HN8.out
       case measure=>simp [intOf]
theorem LQ (x y:Value) (a b:Nat) (w:World) (hx:Nm w x a) (hy:Nm w y b) (hb:0<b) (ha:sz 10000 a≤274877906944) (hsb:sz 10000 b≤274877906944) :
  Calls Tryz.prog 260 #[x,y] w (xL w a b):=by
 have hlen:(d9 10000 b).length=sz 10000 b:=rfl
 have hs1:1≤sz 10000 b:=by
  rcases aY (sz 10000 b) with h|h
  ·have:=jM (B:=10000) zo b;rw [h] at this;simp at this
   omega
  ·exact h
 have htp:=oU (B:=10000) zo b;obtain ⟨pb,cb,rfl,h1,h2,h3⟩:=hy.read
 by_cases hone:sz 10000 b=1
 ·rw [hone] at h3 ⊢
  have hd:d9 10000 b=[b]:=by
   have e:=bN (B:=10000) zo b
   match hl:d9 10000 b,hlen with
   | [d],_=>rw [hl] at e;simp [val] at e;rw [e]
   | [],h=>rw [hone] at h;cases h
   | _:: _:: _,h=>rw [hone] at h;simp at h
  have hb4:b<10000:=by
   have:=dw (B:=10000) zo b;rw [hd] at this;exact this.head
  obtain ⟨b',o',e, -, hc⟩:=h3 0 zo;rw [hd] at hc;exact Sy x a b pb cb w hx zo hb hb4 ⟨b',o',e,hc⟩
 ·obtain ⟨p,hp⟩:∃ p,sz 10000 b=p+2:=⟨sz 10000 b - 2,by omega⟩
  by_cases hlt:sz 10000 a≤p+1
  ·rw [hp];exact OE x a p b pb cb w hx hlt zo (wB (B:=10000) zo zo)
  ·have hgs:=hy.gs;rw [hp] at hgs ⊢;refine OD x a (p+1) p (sz 10000 a - (p+1)) b (d9 10000 b) pb cb w hx hgs (by rw [hlen,hp]) (dw zo b) ?_ rfl zo zo ha (bN zo b);have:=htp (p+1) (by rw [hlen,hp]);omega
theorem zQ (b:Bool) (v:Value) (n:Nat) (z:Int) (w:World) (h:Nm w v n) (hz:iR n b=z) :
  Calls Tryz.prog 258 #[ak b,v] w fun e w'=>∃ v',e= aj v'∧Bw w w'∧Pl w' v' z:=by
 have:=oN b v _ w h.gs (dw zo _)
 rwa [bN zo,hz] at this
theorem mI (x y:Value) (a b:Int) (w:World) (hx:Pl w x a) (hy:Pl w y b) (ha:sz 10000 a.natAbs≤549755813888) (hb:sz 10000 b.natAbs≤549755813888) :
  Calls Tryz.prog 192 #[x,y] w fun e w'=>∃ v',e= aj v'∧Bw w w'∧Pl w' v' (a*b):=by
 obtain ⟨bA,oV,lA,pJ,rfl⟩:=hx.agg;obtain ⟨bB,qZ,lB,q8,rfl⟩:=hy.agg;obtain ⟨nA,eA⟩:=hx.nm;obtain ⟨nB,eB⟩:=hy.nm;have xM:=zh nA;have Ch:=zh nB;have KA:=zh ha;have KB:=zh hb
 have hs:iR (a.natAbs*b.natAbs) (bA != bB)=a*b:=by
  rw [eA,eB];exact zC a b
 have HS:=zh hs;clear nA nB eA eB ha hb hx hy hs;go_enter Tryz.func192,Tryz.ntmps192
 go_wp2_with fail
 obtain ⟨vk,EW,hz,X1,X2,X3⟩:=Uc w #[ak bA,ah oV lA pJ] 179 #[ak bB,ah qZ lB q8] 179 #[ak false,ah none 0 0] 179;rw [EW];replace xM:=zh (xM.out.later hz);replace Ch:=zh (Ch.out.later hz);have hk2:=Bt (Below.refl _ _) hz;clear EW hz;obtain ⟨qx,qo,sS⟩:=X1.clf;obtain ⟨Cz,Cr,IZ⟩:=X2.clf;refine aO [(.pure,0),(.read,1),(.pure,2),(.read,3),(.pure,4),(.pure,5),(.read,6),(.pure,7),(.read,8),(.ext,9),(.ext,10),(.fin,11)] zk zk zR zP ?_;refine zV ?_;refine aL rfl rfl (fun we3 hb3 J hJ=>?_);go_simp;have hh3:Bw vk we3:=aI;clear hb3;refine (qK _ _ _ _ _ (xM.out.later hh3) (Ch.out.later hh3) (by have:=KA.out;omega) (by have:=KB.out;omega)).mono ?_;rintro e wc4 ⟨v,rfl,hb4,hv5⟩;obtain ⟨paP,lP,caP,rfl⟩:=hv5.slice;refine hJ _ _ hb4 ?_;clear hJ J;have Wx:=Bt hh3 hb4;have NP:=zh hv5;clear hh3 hb4 hv5;refine zV ?_
 refine aL rfl rfl (fun Le hb6 J hJ=>?_);go_simp;have AQ:Bw vk Le:=Bt Wx aI;replace NP:=zh (NP.out.later (show Bw wc4 Le from aI));clear hb6 Wx;refine (zQ _ _ _ _ _ NP.out HS.out).mono ?_;rintro e Jl ⟨v,rfl,jY,wF⟩;obtain ⟨bR,paR,lR,caR,rfl⟩:=wF.agg;refine hJ _ _ jY ?_;clear hJ J;have IW:=Bt AQ jY;replace NP:=zh (NP.out.later jY);have NR:=zh wF;clear AQ jY wF;refine zV ?_;refine cZ [_] rfl (fun Uo hf9=>?_);replace NP:=zh (NP.out.later (show Bw Jl Uo from aI));replace NR:=zh (NR.out.later (show Bw Jl Uo from aI));have rH:Bw vk Uo:=Bt IW aI;clear hf9 IW;clear qx qo sS Cz Cr IZ;replace xM:=zh (xM.out.later rH);replace Ch:=zh (Ch.out.later rH);replace X1:=X1.bl rH;replace X2:=X2.bl rH;replace X3:=X3.bl rH;have hk10:=Bt hk2 rH;clear hk2
 clear rH;clear NP;obtain ⟨Yj,Yd,Z8⟩:=X3.clf;have hres:=X3.out;go_wp2_with fail
 refine gG rfl rfl bq Tryz.underlying179 rfl zk ?_;exact ⟨_,rfl,aI,NR.out.set2 hres zd _ _ _ _⟩
theorem Zv (b:Bool) (v:Value) (l:List Nat) (n:Nat) (z:Int) (w:World) (h:Gs w v l) (hd:fV 10000 l) (hn:val 10000 l=n) (hz:iR n b=z) :
  Calls Tryz.prog 258 #[ak b,v] w fun e w'=>∃ v',e= aj v'∧Bw w w'∧Pl w' v' z:=by
 have:=oN b v l w h hd
 rwa [hn,hz] at this
theorem Lp {a b:Int} (h:decide (a<0)≠decide (b<0)) (hle:b.natAbs≤a.natAbs):iR (a.natAbs - b.natAbs) (decide (a<0))=a+b:=by
 unfold iR
 by_cases ha:a<0<;>by_cases hb:b<0<;>simp [ha,hb] at h ⊢<;>omega
def Gq (w:World) (z:Int) (e:Ending) (w':World):Prop:=∃ v',e= aj v'∧Bw w w'∧Pl w' v' z
theorem AA (x y:Value) (a b:Int) (w:World) (hx:Pl w x a) (hy:Pl w y b) (ha:sz 10000 a.natAbs≤549755813888) (hb:sz 10000 b.natAbs≤549755813888) :
  Calls Tryz.prog 293 #[x,y] w (Gq w (a+b)):=by
 obtain ⟨bA,oV,lA,pJ,rfl⟩:=hx.agg;obtain ⟨bB,qZ,lB,q8,rfl⟩:=hy.agg;obtain ⟨nA,eA⟩:=hx.nm;obtain ⟨nB,eB⟩:=hy.nm;have xM:=zh nA;have Ch:=zh nB;have KA:=zh ha;have KB:=zh hb
 by_cases hab:bA=bB
 ·subst hab;have hs:iR (a.natAbs+b.natAbs) bA=a+b:=Qv eA.symm eB.symm;have HS:=zh hs;clear nA nB eA eB ha hb hx hy hs;go_enter Tryz.func293,Tryz.ntmps293
  go_wp2_with fail
  obtain ⟨vk,EW,hz,X1,X2,X3⟩:=Uc w #[ak bA,ah oV lA pJ] 179 #[ak bA,ah qZ lB q8] 179 #[ak false,ah none 0 0] 179;rw [EW];replace xM:=zh (xM.out.later hz);have hk2:=Bt (Below.refl _ _) hz;clear EW hz;obtain ⟨qx,qo,sS⟩:=X1.clf;obtain ⟨Cz,Cr,IZ⟩:=X2.clf;refine aO [(.pure,0),(.read,1),(.pure,2),(.read,3),(.pure,4),(.read,5),(.ext,6),(.ext,7),(.fin,8)] zk zk zR zP ?_;refine zV ?_;refine aL rfl rfl (fun we3 hb3 J hJ=>?_);go_simp;have hh3:Bw vk we3:=aI;clear hb3;refine (yD _ _ _ _ _ (xM.out.later hh3) (Ch.out.later (Bt hk2 hh3)) KA.out KB.out).mono ?_;rintro e wc4 ⟨v,s,rfl,hb4,hg,hd,hv⟩;obtain ⟨paS,caS,rfl, -⟩:=hg.read;have BI:=zh hd;have HVS:=zh hv;clear hd hv;refine hJ _ _ hb4 ?_;clear hJ J;have Wx:=Bt hh3 hb4;have NS:=zh hg;clear hh3 hb4 hg;refine zV ?_;refine aL rfl rfl (fun Le hb6 J hJ=>?_);go_simp
  have AQ:Bw vk Le:=Bt Wx aI;replace NS:=zh (NS.out.later (show Bw wc4 Le from aI));clear hb6 Wx;refine (Zv _ _ _ _ _ _ NS.out BI.out HVS.out HS.out).mono ?_;rintro e Jl ⟨v,rfl,jY,wF⟩;obtain ⟨bR,paR,lR,caR,rfl⟩:=wF.agg;refine hJ _ _ jY ?_;clear hJ J;have IW:=Bt AQ jY;replace NS:=zh (NS.out.later jY);have NR:=zh wF;clear AQ jY wF;refine zV ?_;refine cZ [_] rfl (fun Uo hf9=>?_);replace NS:=zh (NS.out.later (show Bw Jl Uo from aI));replace NR:=zh (NR.out.later (show Bw Jl Uo from aI));have rH:Bw vk Uo:=Bt IW aI;clear hf9 IW;clear qx qo sS Cz Cr IZ;replace xM:=zh (xM.out.later rH);replace X1:=X1.bl rH;replace X2:=X2.bl rH;replace X3:=X3.bl rH;have hk10:=Bt hk2 rH;clear hk2;clear rH;clear NS;obtain ⟨Yj,Yd,Z8⟩:=X3.clf;have hres:=X3.out
  go_wp2_with fail
  refine gG rfl rfl bq Tryz.underlying179 rfl zk ?_;exact ⟨_,rfl,aI,NR.out.set2 hres zd _ _ _ _⟩
 ·have hE:(bA == bB)=false:=by simp [hab]
  by_cases hle:b.natAbs≤a.natAbs
  ·have hs:iR (a.natAbs - b.natAbs) bA=a+b:=by
    rw [eA];exact Lp (by rw [← eA,← eB];exact hab) hle
   have HS:=zh hs;have Oe:=zh hle;clear nA nB eA eB ha hb hx hy hs hle hab;go_enter Tryz.func293,Tryz.ntmps293
   go_wp2_with fail
   obtain ⟨vk,EW,hz,X1,X2,X3⟩:=Uc w #[ak bA,ah oV lA pJ] 179 #[ak bB,ah qZ lB q8] 179 #[ak false,ah none 0 0] 179;rw [EW];replace xM:=zh (xM.out.later hz);replace Ch:=zh (Ch.out.later hz);have hk2:=Bt (Below.refl _ _) hz;clear EW hz;refine (vZ _ _ _ _ _ xM.out Ch.out).mono ?_;rintro e um ⟨r,rfl,hb3,hor⟩;have hr:0≤r:=hor.2.2 Oe.out;clear hor;replace xM:=zh (xM.out.later hb3);replace Ch:=zh (Ch.out.later hb3);replace X1:=X1.bl hb3;replace X2:=X2.bl hb3;replace X3:=X3.bl hb3;have hk5:=Bt hk2 hb3;clear hk2;clear hb3;go_wp2_with fail
   obtain ⟨qx,qo,sS⟩:=X1.clf;obtain ⟨Cz,Cr,IZ⟩:=X2.clf;refine aO [(.pure,0),(.read,1),(.pure,2),(.read,3),(.pure,4),(.read,5),(.ext,6),(.ext,7),(.fin,8)] zk zk zR zP ?_;refine zV ?_;refine aL rfl rfl (fun Le hb6 J hJ=>?_);go_simp;have AQ:Bw um Le:=aI;clear hb6;refine (sH _ _ _ _ _ (xM.out.later AQ) (Ch.out.later AQ) (by have:=KA.out;omega) Oe.out).mono ?_;rintro e Jl ⟨v,rfl,jY,wF⟩;obtain ⟨paD,lD,caD,rfl⟩:=wF.slice;refine hJ _ _ jY ?_;clear hJ J;have IW:=Bt AQ jY;have ND:=zh wF;clear AQ jY wF;refine zV ?_;refine aL rfl rfl (fun K8 rJ J hJ=>?_);go_simp;have rH:Bw um K8:=Bt IW aI;replace ND:=zh (ND.out.later (show Bw Jl K8 from aI));clear rJ IW;refine (zQ _ _ _ _ _ ND.out HS.out).mono ?_;rintro e xP ⟨v,rfl,lN,sw⟩;obtain ⟨bR,paR,lR,caR,rfl⟩:=sw.agg
   refine hJ _ _ lN ?_;clear hJ J;have tK:=Bt rH lN;replace ND:=zh (ND.out.later lN);have NR:=zh sw;clear rH lN sw;refine zV ?_;refine cZ [_] rfl (fun Oi at0=>?_);replace ND:=zh (ND.out.later (show Bw xP Oi from aI));replace NR:=zh (NR.out.later (show Bw xP Oi from aI));have hh12:Bw um Oi:=Bt tK aI;clear at0 tK;clear qx qo sS Cz Cr IZ;replace xM:=zh (xM.out.later hh12);replace Ch:=zh (Ch.out.later hh12);replace X1:=X1.bl hh12;replace X2:=X2.bl hh12;replace X3:=X3.bl hh12;have aV4:=Bt hk5 hh12;clear hk5;clear hh12;clear ND;obtain ⟨Yj,Yd,Z8⟩:=X3.clf;have hres:=X3.out;go_wp2_with fail
   refine gG rfl rfl bq Tryz.underlying179 rfl zk ?_;exact ⟨_,rfl,aI,NR.out.set2 hres zd _ _ _ _⟩
  ·have hs:iR (b.natAbs - a.natAbs) bB=a+b:=by
    rw [eB,Int.add_comm a b];exact Lp (by rw [← eA,← eB];exact fun h=>hab h.symm) zo
   have HS:=zh hs;have Oe:Hid (a.natAbs≤b.natAbs):=zh zo;have HLN:=zh hle;clear nA nB eA eB ha hb hx hy hs hle hab;go_enter Tryz.func293,Tryz.ntmps293
   go_wp2_with fail
   obtain ⟨vk,EW,hz,X1,X2,X3⟩:=Uc w #[ak bA,ah oV lA pJ] 179 #[ak bB,ah qZ lB q8] 179 #[ak false,ah none 0 0] 179;rw [EW];replace xM:=zh (xM.out.later hz);replace Ch:=zh (Ch.out.later hz);have hk2:=Bt (Below.refl _ _) hz;clear EW hz;refine (vZ _ _ _ _ _ xM.out Ch.out).mono ?_;rintro e um ⟨r,rfl,hb3,hor⟩;have hr:¬ 0≤r:=fun h=>HLN.out (hor.2.1 h);clear hor;replace xM:=zh (xM.out.later hb3);replace Ch:=zh (Ch.out.later hb3);replace X1:=X1.bl hb3;replace X2:=X2.bl hb3;replace X3:=X3.bl hb3;have hk5:=Bt hk2 hb3;clear hk2;clear hb3;go_wp2_with fail
   obtain ⟨Cz,Cr,IZ⟩:=X2.clf;obtain ⟨qx,qo,sS⟩:=X1.clf;refine aO [(.pure,0),(.read,1),(.pure,2),(.read,3),(.pure,4),(.read,5),(.ext,6),(.ext,7),(.fin,8)] zk zk zR zP ?_;refine zV ?_;refine aL rfl rfl (fun Le hb6 J hJ=>?_);go_simp;have AQ:Bw um Le:=aI;clear hb6;refine (sH _ _ _ _ _ (Ch.out.later AQ) (xM.out.later AQ) (by have:=KB.out;omega) Oe.out).mono ?_;rintro e Jl ⟨v,rfl,jY,wF⟩;obtain ⟨paD,lD,caD,rfl⟩:=wF.slice;refine hJ _ _ jY ?_;clear hJ J;have IW:=Bt AQ jY;have ND:=zh wF;clear AQ jY wF;refine zV ?_;refine aL rfl rfl (fun K8 rJ J hJ=>?_);go_simp;have rH:Bw um K8:=Bt IW aI;replace ND:=zh (ND.out.later (show Bw Jl K8 from aI));clear rJ IW;refine (zQ _ _ _ _ _ ND.out HS.out).mono ?_;rintro e xP ⟨v,rfl,lN,sw⟩;obtain ⟨bR,paR,lR,caR,rfl⟩:=sw.agg
   refine hJ _ _ lN ?_;clear hJ J;have tK:=Bt rH lN;replace ND:=zh (ND.out.later lN);have NR:=zh sw;clear rH lN sw;refine zV ?_;refine cZ [_] rfl (fun Oi at0=>?_);replace ND:=zh (ND.out.later (show Bw xP Oi from aI));replace NR:=zh (NR.out.later (show Bw xP Oi from aI));have hh12:Bw um Oi:=Bt tK aI;clear at0 tK;clear Cz Cr IZ qx qo sS;replace xM:=zh (xM.out.later hh12);replace Ch:=zh (Ch.out.later hh12);replace X1:=X1.bl hh12;replace X2:=X2.bl hh12;replace X3:=X3.bl hh12;have aV4:=Bt hk5 hh12;clear hk5;clear hh12;clear ND;obtain ⟨Yj,Yd,Z8⟩:=X3.clf;have hres:=X3.out;go_wp2_with fail
   refine gG rfl rfl bq Tryz.underlying179 rfl zk ?_;exact ⟨_,rfl,aI,NR.out.set2 hres zd _ _ _ _⟩
theorem wV (x y:Value) (a b:Int) (w:World) (hx:Pl w x a) (hy:Pl w y b) (ha:sz 10000 a.natAbs≤549755813888) (hb:sz 10000 b.natAbs≤549755813888) :
  Calls Tryz.prog 298 #[x,y] w (Gq w (a - b)):=by
 obtain ⟨bA,oV,lA,pJ,rfl⟩:=hx.agg;obtain ⟨bB,qZ,lB,q8,rfl⟩:=hy.agg;have NA:=zh hx;have NB:=zh hy;have KA:=zh ha;have KB:Hid (sz 10000 (-b).natAbs≤549755813888):=zh (by rw [Int.natAbs_neg];exact hb);clear ha hb hx hy;go_enter Tryz.func298,Tryz.ntmps298
 go_wp2_with fail
 obtain ⟨vk,EW,hz,X1,X2,X3⟩:=Uc w #[ak bA,ah oV lA pJ] 179 #[ak bB,ah qZ lB q8] 179 #[ak false,ah none 0 0] 179;rw [EW];replace NA:=zh (NA.out.later hz);replace NB:=zh (NB.out.later hz);have hk2:=Bt (Below.refl _ _) hz;clear EW hz;obtain ⟨qx,qo,sS⟩:=X1.clf;obtain ⟨Cz,Cr,IZ⟩:=X2.clf;refine aO [(.read,0),(.read,1),(.ext,2),(.ext,3),(.fin,4)] zk zk zR zP ?_;refine zV ?_;refine aL rfl rfl (fun we3 hb3 J hJ=>?_);go_simp;have hh3:Bw vk we3:=aI;clear hb3;refine (Av _ _ _ (NB.out.later hh3)).mono ?_;rintro e wc4 ⟨v,rfl,hb4,hv5⟩;obtain ⟨bT,paT,lT,caT,rfl⟩:=hv5.agg;refine hJ _ _ hb4 ?_;clear hJ J;have Wx:=Bt hh3 hb4;have NT:=zh hv5;clear hh3 hb4 hv5;refine zV ?_;refine aL rfl rfl (fun Le hb6 J hJ=>?_);go_simp;have AQ:Bw vk Le:=Bt Wx aI
 replace NT:=zh (NT.out.later (show Bw wc4 Le from aI));clear hb6 Wx;refine (AA _ _ _ _ _ (NA.out.later AQ) NT.out KA.out KB.out).mono ?_;rintro e Jl ⟨v,rfl,jY,wF⟩;obtain ⟨bR,paR,lR,caR,rfl⟩:=wF.agg;refine hJ _ _ jY ?_;clear hJ J;have IW:=Bt AQ jY;replace NT:=zh (NT.out.later jY);have NR:=zh wF;clear AQ jY wF;refine zV ?_;refine cZ [_] rfl (fun Uo hf9=>?_);replace NT:=zh (NT.out.later (show Bw Jl Uo from aI));replace NR:=zh (NR.out.later (show Bw Jl Uo from aI));have rH:Bw vk Uo:=Bt IW aI;clear hf9 IW;clear qx qo sS Cz Cr IZ;replace NA:=zh (NA.out.later rH);replace NB:=zh (NB.out.later rH);replace X1:=X1.bl rH;replace X2:=X2.bl rH;replace X3:=X3.bl rH;have hk10:=Bt hk2 rH;clear hk2;clear rH;clear NT;obtain ⟨Yj,Yd,Z8⟩:=X3.clf;have hres:=X3.out;go_wp2_with fail
 refine gG rfl rfl bq Tryz.underlying179 rfl zk ?_;exact ⟨_,rfl,aI,NR.out.set2 hres zd _ _ _ _⟩
theorem ap4 {a b:Int} (h:Hid (a<b)):decide (a - b<0)=true:=decide_eq_true (by have:=h.out;omega)
theorem ap6 {a b:Int} (h:Hid (a=b)):decide (a - b<0)=false:=decide_eq_false (by have:=h.out;omega)
theorem ap5 {a b:Int} (h:Hid (b<a)):decide (a - b<0)=false:=decide_eq_false (by have:=h.out;omega)
theorem Vs {a b:Int} (h:Hid (a=b)):(a - b).natAbs=0:=by have:=h.out;omega
theorem Y8 {a b:Int} (h:Hid (b<a)):0<(a - b).natAbs:=by have:=h.out;omega
def ab2 (a b:Int):Int:=if a<b then -1 else if b<a then 1 else 0
theorem Gt (x y:Value) (a b:Int) (w:World) (hx:Pl w x a) (hy:Pl w y b) (ha:sz 10000 a.natAbs≤549755813888) (hb:sz 10000 b.natAbs≤549755813888) :
  Calls Tryz.prog 291 #[x,y] w (fun e w'=>e= aj (Z I (ab2 a b))∧Bw w w'):=by
 obtain ⟨bA,oV,lA,pJ,rfl⟩:=hx.agg;obtain ⟨bB,qZ,lB,q8,rfl⟩:=hy.agg;have NA:=zh hx;have NB:=zh hy;have KA:=zh ha;have KB:=zh hb;clear ha hb hx hy;unfold ab2
 rcases Int.lt_trichotomy a b with h|h|h
 ·rw [if_pos h];have H:=zh h;clear h;go_enter Tryz.func291,Tryz.ntmps291
  go_wp2_with fail
  obtain ⟨vk,EW,hz,X1,X2⟩:=Ud w #[ak bA,ah oV lA pJ] 179 #[ak bB,ah qZ lB q8] 179;rw [EW];replace NA:=zh (NA.out.later hz);replace NB:=zh (NB.out.later hz);have hk2:=Bt (Below.refl _ _) hz;clear EW hz;refine (wV _ _ _ _ _ NA.out NB.out KA.out KB.out).mono ?_;rintro e um ⟨v,rfl,hb3,hv⟩;obtain ⟨bD,paD,lD,caD,rfl⟩:=hv.agg;obtain ⟨hn,hbb⟩:=hv.nm;have hb1:bD=true:=hbb.trans (ap4 H);subst hb1
  skip
  clear hn hbb hv
  skip
  replace NA:=zh (NA.out.later hb3);replace NB:=zh (NB.out.later hb3);replace X1:=X1.bl hb3;replace X2:=X2.bl hb3;have hk5:=Bt hk2 hb3;clear hk2;clear hb3;go_wp2_with fail
  go_ret
  exact ⟨rfl,aI⟩
 ·rw [if_neg zo,if_neg zo];have H:=zh h;clear h;go_enter Tryz.func291,Tryz.ntmps291
  go_wp2_with fail
  obtain ⟨vk,EW,hz,X1,X2⟩:=Ud w #[ak bA,ah oV lA pJ] 179 #[ak bB,ah qZ lB q8] 179;rw [EW];replace NA:=zh (NA.out.later hz);replace NB:=zh (NB.out.later hz);have hk2:=Bt (Below.refl _ _) hz;clear EW hz;refine (wV _ _ _ _ _ NA.out NB.out KA.out KB.out).mono ?_;rintro e um ⟨v,rfl,hb3,hv⟩;obtain ⟨bD,paD,lD,caD,rfl⟩:=hv.agg;obtain ⟨hn,hbb⟩:=hv.nm;have hb1:bD=false:=hbb.trans (ap6 H);subst hb1;have hl0:lD=0:=hn.aq5 (Vs H);clear hn hbb hv;subst hl0;replace NA:=zh (NA.out.later hb3);replace NB:=zh (NB.out.later hb3);replace X1:=X1.bl hb3;replace X2:=X2.bl hb3;have hk5:=Bt hk2 hb3;clear hk2;clear hb3;go_wp2_with fail
  go_ret
  exact ⟨rfl,aI⟩
 ·rw [if_neg zo,if_pos h];have H:=zh h;clear h;go_enter Tryz.func291,Tryz.ntmps291
  go_wp2_with fail
  obtain ⟨vk,EW,hz,X1,X2⟩:=Ud w #[ak bA,ah oV lA pJ] 179 #[ak bB,ah qZ lB q8] 179;rw [EW];replace NA:=zh (NA.out.later hz);replace NB:=zh (NB.out.later hz);have hk2:=Bt (Below.refl _ _) hz;clear EW hz;refine (wV _ _ _ _ _ NA.out NB.out KA.out KB.out).mono ?_;rintro e um ⟨v,rfl,hb3,hv⟩;obtain ⟨bD,paD,lD,caD,rfl⟩:=hv.agg;obtain ⟨hn,hbb⟩:=hv.nm;have hb1:bD=false:=hbb.trans (ap5 H);subst hb1;have hl0:0<lD:=hn.aq4 (Y8 H);clear hn hbb hv
  skip
  replace NA:=zh (NA.out.later hb3);replace NB:=zh (NB.out.later hb3);replace X1:=X1.bl hb3;replace X2:=X2.bl hb3;have hk5:=Bt hk2 hb3;clear hk2;clear hb3;go_wp2_with fail
  go_ret
  exact ⟨rfl,aI⟩
end Go.Proofs.aK
