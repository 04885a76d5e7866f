/- Lemmas for the proof. No condition. -/
import Derived.Test.YtneajphgfdlmhaaGreatDoorUB34
import Derived.Deep.Cut
set_option linter.unusedVariables false
set_option linter.unusedSimpArgs false
set_option maxRecDepth 100000
set_option maxHeartbeats 16000000
open Bool renaming and_eq_true → aG
open Go.Ending renaming returned → ah
open Go.IntKind renaming i64 → I
open Go.Value renaming agg → au, bool → ak, int → Z, slice → aj, string → O, tuple → aD
open List renaming getElem?_drop → ji, map_cons → bQ, map_nil → iE, mem_of_mem_take → jI
open Nat renaming add_comm → iO, eq_zero_or_pos → aX, le_refl → aC, le_trans → ay, lt_or_ge → aR, mul_comm → aL, pow_le_pow_right → bH
namespace Go.Proofs.aF
open Go Go.RowKit Go.SW Go.Num Go.Mem Go.Proofs Go.Dec
theorem nC {bs:List UInt8} {f:Nat} (hd:rP (bs.drop f)) {st i:Nat} (hf:f≤st) (h4:i - st≤4):num ((bs.take i).drop st)<10000:=by
 have h1:=VD ((bs.take i).drop st) (fun b hb=>by
  refine hd b ?_
  have h:b∈(bs.take i).drop f:=by
   obtain ⟨j,hj,rfl⟩:=List.getElem_of_mem hb;rw [List.getElem_drop];have:(bs.take i).drop st=((bs.take i).drop f).drop (st - f):=by rw [List.drop_drop,show f+(st - f)=st by omega]
   rw [List.mem_iff_getElem?];refine ⟨st - f+j,?_⟩;rw [ji,show f+(st - f+j)=st+j by omega];exact List.getElem?_eq_getElem _
  rw [List.drop_take] at h;exact jI h)
 have h2:(10:Nat)^((bs.take i).drop st).length≤10^4:=bH zo (by rw [List.length_drop,List.length_take];omega);omega
theorem pU {bs:List UInt8} {st i:Nat} {x:UInt8} (hst:st≤i) (hb:48≤x.toNat∧x.toNat≤57) (hx:bs[i]? =some x) :
  ((num ((bs.take i).drop st):Nat):Int)*10+((x.toNat:Int) - 48)=(num ((bs.take (i+1)).drop st):Nat):=by
 rw [uJ hst hx,qz];omega
theorem GN (s:ByteArray) (z:Int) (w:World) (hz:whole s.data.toList=some z) :
  Calls Tryz.prog 206 #[O s] w (Al w z):=by
 obtain ⟨i0,hi,hz0,hz1,hz2⟩:=info_parts yH;obtain ⟨bs,hbs⟩:∃ bs,s.data.toList=bs:=⟨_,rfl⟩;rw [hbs] at hz;have hn:bs.length=s.size:=by rw [← hbs];rfl
 have hok:iq (Dec.cut bs).1 (Dec.cut bs).2=true:=by
  unfold whole at hz;split at hz
  ·assumption
  ·cases hz
 have hzz:Dec.mk (num (Dec.cut bs).1) (Dec.cut bs).2=z:=by
  unfold whole at hz;rw [if_pos hok] at hz;exact Option.some.inj hz
 have hsz:s.size≤601:=by
  have h1:(Dec.cut bs).1.length≤600:=by
   unfold iq at hok;simp only [aG,decide_eq_true_eq] at hok;exact hok.1.1.2
  have h2:bs.length≤(Dec.cut bs).1.length+1:=by
   unfold Dec.cut;split
   ·simp;omega
   ·simp
  omega
 have hs0:0<s.size:=by
  rcases aX s.size with h|h
  ·have:bs=[]:=List.length_eq_zero_iff.1 zo;subst this;exact absurd hok (by simp [Dec.cut,iq])
  ·exact h
 have hhd:bs.head? =some s[0]:=by
  rw [List.head?_eq_getElem?, ← hbs];exact List.getElem?_eq_getElem (by exact hs0)
 obtain ⟨d,Ed⟩:∃ d,(Dec.cut bs).1=d:=⟨_,rfl⟩;obtain ⟨ng,En⟩:∃ ng,(Dec.cut bs).2=ng:=⟨_,rfl⟩;rw [Ed,En] at hok hzz;have HZ:Hid (jh (num d) ng=z):=zh hzz
 have hC:(d=bs.drop 1∧ng=true)∨(d=bs.drop 0∧ng=false):=by
  unfold Dec.cut at Ed En
  by_cases h:bs.head? =some 45
  ·rw [if_pos h] at Ed En;exact .inl ⟨by rw [← Ed,List.drop_one],En.symm⟩
  ·rw [if_neg h] at Ed En;exact .inr ⟨by rw [← Ed];rfl,En.symm⟩
 have h45:(ng=true→s[0]=45)∧(s[0]=45→ng=true):=by
  unfold Dec.cut at En
  constructor
  ·intro h
   by_cases h':bs.head? =some 45
   ·rw [hhd] at h';exact Option.some.inj h'
   ·rw [if_neg h'] at En;rw [← En] at h;cases h
  ·intro h;rw [if_pos (by rw [hhd,h])] at En;exact En.symm
 have h0:Below w.heap.size w (w.alloc (.cells #[ak false,aj none 0 0] 161)):=aJ;have hx:=aB.new w #[ak false,aj none 0 0] 161;have Ql:=zh hbs;have HN:=zh hn;clear hz hzz hhd Ed En hbs hn
 rcases hC with hC|hC
 ·obtain ⟨hd,Zb⟩:=hC;subst Zb;have HD:=zh hd;have hds:rP (bs.drop 1):=by rw [← hd];exact qQ hok
  have hle:1<s.size:=by
   have h1:d≠[]:=fun e=>by rw [e] at hok;exact absurd hok (by simp [iq])
   have h2:0<d.length:=List.length_pos_iff.2 h1;rw [hd,List.length_drop,HN.out] at h2;omega
  have hq:((s[0].toNat:Int) == 45)=true:=by
   have:s[0]=45:=by have:=h45.1 rfl;exact this
   rw [this];rfl
  have Am:=zh hds;clear hd hds hok h45;go_enter Tryz.func206,Tryz.ntmps206
  go_wp2_with fail
  go_loopw [4,5,6,7] (fun dv ev _ _ wr=>∃ (q:Int) (ls:List Nat),ev= Z I q∧ -4≤q∧q≤s.size∧Hid ((1:Int)<q→(s.size:Int) - q=4*ls.length)∧Hid (ls.length≤s.size)∧Hid (gT 10000 ls)∧Hid (val 10000 ls=num (bs.drop (max q 1).toNat))∧wr.ownsRow (w.heap.size+1) 3 1 dv ls.length (ints ls) ∧
    Below (w.heap.size+1) (w.alloc (.cells #[ak false,aj none 0 0] 161)) wr) (fun _ ev _ _ _=>(intOf ev+4).toNat)
  case atStart=>exact ⟨s.size,[],rfl,by omega,by omega,zh (by intro h;simp),zh zi,zh gT.nil,zh (by rw [show (max (s.size:Int) 1).toNat=bs.length by rw [HN.out];omega,List.drop_length];simp [val,num]),World.ownsRow_nil _ _ _ _,Below.refl _ _⟩
  case round =>
   obtain ⟨q,ls,rfl,hq4,hqs,HE,HLL,F7,HV,hown,hb⟩:=hrel
   by_cases hqf:q≤1
   ·have hv:val 10000 ls=num (bs.drop 1):=by rw [HV.out,show (max q 1).toNat=1 by omega]
    have hz:jh (val 10000 ls) true=z:=by rw [hv,← HD.out];exact HZ.out
    have h1:Below w.heap.size w wr:=⟨hb.os,hb.tape,hb.output,ay zi hb.size,fun i hi=>(hb.block i zo).trans (h0.block i hi)⟩;have V9:=hx.later (w':=wr) ⟨hb.os,hb.tape,hb.output,by have:=hb.size;simpa using this,fun i hi=>hb.block i (by simpa using hi)⟩;have cx:=V9.cell;have fx:=V9.free;have hg:=mo true u4 ls wr (Gs.iG hown) F7.out;rw [hz] at hg;have HG:=zh hg;obtain ⟨pa,ca,rfl, -⟩:=(Gs.iG hown).read;clear hv hz hg hown HE HV hb;go_wp2_with fail
    refine HG.out.mono ?_;rintro e w' ⟨v',rfl,hb,hv⟩;obtain ⟨bNV,ag4,lNV,an1,rfl⟩:=hv.agg;have NV:=zh hv;clear hv;have hy:=V9.later hb;clear cx fx;have cy:=hy.cell;have fy:=hy.free;go_wp2_with fail
    refine ig rfl rfl bI Tryz.underlying161 rfl zk ?_;exact ⟨_,rfl,aJ,NV.out.set2 hy zd _ _ _ _⟩
   ·obtain ⟨e,rfl⟩:∃ e:Nat,q=(e:Int):=⟨q.toNat,by omega⟩;have hef:1<e:=by omega
    have aJ5:(1:Int)<(e:Int):=by omega
    rcases Int.lt_or_le ((e:Int) - 4) 1 with h4|h4
    ·have hst':(e:Int) - 4<1:=by omega
     have Nj:max ((e:Int) - 4) 1=1:=by omega
     have hgl:=nC (bs:=bs) (f:=1) Am.out (aC _) (i:=e) zo;have HE2:Hid ((s.size:Int) - e=4*ls.length):=zh (HE.out zo);clear HE;go_wp2_with fail
     obtain ⟨wo,rfl⟩:∃ wo:World,wo=wr:=⟨_,rfl⟩
     go_loopw [6,7] (fun v6 v7 wi=>∃ i:Nat,v7= Z I (i:Int)∧1≤i∧i≤e∧Hid (v6= Z I (num ((bs.take i).drop 1):Nat))∧wo=wi) (fun _ v7 _=>e - (intOf v7).toNat)
     case atStart=>exact ⟨1,rfl,aC _,by omega,zh (by rw [List.drop_eq_nil_of_le (by rw [List.length_take];omega)];rfl),rfl⟩
     case round =>
      obtain ⟨i,rfl,hi1,hi2,H6,rfl⟩:=hrel;have e6:=H6.out;subst e6
      rcases aR i e with hie|hie
      ·have his:i<s.size:=by omega
       have hx2:bs[i]? =some s[i]:=by rw [← Ql.out];exact List.getElem?_eq_getElem (by exact his)
       have hdi:=Am.out s[i] (by rw [← Ql.out];exact oL zo his);have HS:=zh (pU (bs:=bs) (st:=1) (x:=s[i]) hi1 hdi hx2);have hgb:=nC (bs:=bs) (f:=1) Am.out (aC _) (i:=i) zo;generalize num ((bs.take i).drop 1)=g at *;go_wp2_with fail
       exact ⟨⟨i+1,rfl,by omega,by omega,zh (by rw [← HS.out]),trivial⟩,by simp only [intOf];omega⟩
      ·have hie:i=e:=by omega
       subst hie;have HG:=zh (qd (bs:=bs) (s:=1) (e:=i) zo (by have:=HN.out;omega));have hlen:bs.length - i=4*ls.length:=by have:=HE2.out;have:=HN.out;omega
       have hmx:(max (i:Int) 1).toNat=i:=by omega
       have hv0:=HV.out;rw [hmx] at hv0;rw [hlen,Nat.pow_mul,← hv0] at HG;generalize num ((bs.take i).drop 1)=gv at *;have hll:ls.length+1≤s.size:=by have:=HE2.out;omega
       have ec:ints ls++[Z I (gv:Int)]=ints (ls++[gv]):=by unfold ints;simp only [List.map_append,bQ,iE]
       have EC:=zh ec;clear H6 ec;go_wp2_with (at_builtin;refine wpList_append_own _ rfl (.tmp 35) (.tmp 37) 159 rfl (w.heap.size+1) 3 i0 (Z I 0) 1 8 Tryz.underlying159 hi hz0 hz1 hz2 rfl zd _ _ _ rfl (hown.alloc _) ⟨wo.heap.size,0,none⟩ 1 1 [Z I (gv:Int)] rfl rfl (by intro t u ht;match t,ht with|0,ht=>simp at ht;subst ht;simp [Addr.add]) (by intro u hu;simp at hu;subst hu;rfl) (by unfold maxLen;omega) zo (by have:=hb.size;simp at*; omega) ?_)
       intro v' w1 hown1 hgrow1 _;rw [EC.out] at hown1;have hb3:Below (w.heap.size+1) (w.alloc (.cells #[ak false,aj none 0 0] 161)) w1:=(hb.alloc (by have:=hb.size;simpa using this) _).grown hgrow1 (by simp;have:=hb.size;simp at*; omega) (fun k hk=>(hown.lt k hk).1)
       have BX:Hid (val 10000 (ls++[gv])=num (bs.drop (max ((i:Int) - 4) 1).toNat)):=by
        unfold Hid;rw [show (max ((i:Int) - 4) 1).toNat=1 by omega,jk,HG.out,iO,aL]
       clear hown hgrow1 hst' Nj;go_wp2_with fail
       refine ⟨⟨(i:Int) - 4,ls++[gv],rfl,by omega,by omega,zh (fun h=>?_),zh (by rw [List.length_append];exact hll),zh (F7.out.snoc hgl),BX,by rw [List.length_append];exact hown1,hb3⟩,?_⟩
       ·have:=HE2.out;rw [List.length_append,List.length_singleton];omega
       ·simp only [intOf];omega
    ·obtain ⟨f,rfl⟩:∃ f,e=f+4:=⟨e - 4,by omega⟩;have s1:1≤f:=by omega
     have hst':¬ (f:Int)<1:=by omega
     have Nj:max (f:Int) 1=(f:Int):=by omega
     have hgl:=nC (bs:=bs) (f:=1) Am.out s1 (i:=f+4) zo;have HE2:Hid ((s.size:Int) - ((f+4:Nat):Int)=4*ls.length):=zh (HE.out zo);clear HE;go_wp2_with fail
     obtain ⟨wo,rfl⟩:∃ wo:World,wo=wr:=⟨_,rfl⟩
     go_loopw [6,7] (fun v6 v7 wi=>∃ i:Nat,v7= Z I (i:Int)∧f≤i∧i≤f+4∧Hid (v6= Z I (num ((bs.take i).drop f):Nat))∧wo=wi) (fun _ v7 _=>f+4 - (intOf v7).toNat)
     case atStart=>exact ⟨f,rfl,aC _,by omega,zh (by rw [List.drop_eq_nil_of_le (by rw [List.length_take];omega)];rfl),rfl⟩
     case round =>
      obtain ⟨i,rfl,hi1,hi2,H6,rfl⟩:=hrel;have e6:=H6.out;subst e6
      rcases aR i (f+4) with hie|hie
      ·have his:i<s.size:=by omega
       have hx2:bs[i]? =some s[i]:=by rw [← Ql.out];exact List.getElem?_eq_getElem (by exact his)
       have hdi:=Am.out s[i] (by rw [← Ql.out];exact oL zo his);have HS:=zh (pU (bs:=bs) (st:=f) (x:=s[i]) hi1 hdi hx2);have hgb:=nC (bs:=bs) (f:=1) Am.out s1 (i:=i) zo;generalize num ((bs.take i).drop f)=g at *;go_wp2_with fail
       exact ⟨⟨i+1,rfl,by omega,by omega,zh (by rw [← HS.out]),trivial⟩,by simp only [intOf];omega⟩
      ·obtain rfl:i=f+4:=by omega
       have HG:=zh (qd (bs:=bs) (s:=f) (e:=f+4) zo (by have:=HN.out;omega));have hlen:bs.length - (f+4)=4*ls.length:=by have:=HE2.out;have:=HN.out;omega
       have hmx:(max ((f+4:Nat):Int) 1).toNat=f+4:=by omega
       have hv0:=HV.out;rw [hmx] at hv0;rw [hlen,Nat.pow_mul,← hv0] at HG;generalize num ((bs.take (f+4)).drop f)=gv at *;have hll:ls.length+1≤s.size:=by have:=HE2.out;omega
       have ec:ints ls++[Z I (gv:Int)]=ints (ls++[gv]):=by unfold ints;simp only [List.map_append,bQ,iE]
       have EC:=zh ec;clear H6 ec;go_wp2_with (at_builtin;refine wpList_append_own _ rfl (.tmp 35) (.tmp 37) 159 rfl (w.heap.size+1) 3 i0 (Z I 0) 1 8 Tryz.underlying159 hi hz0 hz1 hz2 rfl zd _ _ _ rfl (hown.alloc _) ⟨wo.heap.size,0,none⟩ 1 1 [Z I (gv:Int)] rfl rfl (by intro t u ht;match t,ht with|0,ht=>simp at ht;subst ht;simp [Addr.add]) (by intro u hu;simp at hu;subst hu;rfl) (by unfold maxLen;omega) zo (by have:=hb.size;simp at*; omega) ?_)
       intro v' w1 hown1 hgrow1 _;rw [EC.out] at hown1;have hb3:Below (w.heap.size+1) (w.alloc (.cells #[ak false,aj none 0 0] 161)) w1:=(hb.alloc (by have:=hb.size;simpa using this) _).grown hgrow1 (by simp;have:=hb.size;simp at*; omega) (fun k hk=>(hown.lt k hk).1)
       have BX:Hid (val 10000 (ls++[gv])=num (bs.drop (max (f:Int) 1).toNat)):=by
        unfold Hid;rw [show (max (f:Int) 1).toNat=f by omega,jk,HG.out,iO,aL]
       clear hown hgrow1 hst' Nj;go_wp2_with fail
       refine ⟨⟨(f:Int),ls++[gv],rfl,by omega,by omega,zh (fun h=>?_),zh (by rw [List.length_append];exact hll),zh (F7.out.snoc hgl),BX,by rw [List.length_append];exact hown1,hb3⟩,?_⟩
       ·have:=HE2.out;rw [List.length_append,List.length_singleton];omega
       ·simp only [intOf];omega
 ·obtain ⟨hd,Zb⟩:=hC;subst Zb;have HD:=zh hd;have hds:rP (bs.drop 0):=by rw [← hd];exact qQ hok
  have hle:0<s.size:=by
   have h1:d≠[]:=fun e=>by rw [e] at hok;exact absurd hok (by simp [iq])
   have h2:0<d.length:=List.length_pos_iff.2 h1;rw [hd,List.length_drop,HN.out] at h2;omega
  have hq:((s[0].toNat:Int) == 45)=false:=by
   have h:s[0]≠45:=fun e=>by have:=h45.2 e;cases this
   rw [beq_eq_false_iff_ne];intro h2
   exact h (UInt8.toNat_inj.1 (by
    have:s[0].toNat=45:=by omega
    rw [this];rfl))
  have Am:=zh hds;clear hd hds hok h45;go_enter Tryz.func206,Tryz.ntmps206
  go_wp2_with fail
  go_loopw [4,5,6,7] (fun dv ev _ _ wr=>∃ (q:Int) (ls:List Nat),ev= Z I q∧ -4≤q∧q≤s.size∧Hid ((0:Int)<q→(s.size:Int) - q=4*ls.length)∧Hid (ls.length≤s.size)∧Hid (gT 10000 ls)∧Hid (val 10000 ls=num (bs.drop (max q 0).toNat))∧wr.ownsRow (w.heap.size+1) 3 1 dv ls.length (ints ls) ∧
    Below (w.heap.size+1) (w.alloc (.cells #[ak false,aj none 0 0] 161)) wr) (fun _ ev _ _ _=>(intOf ev+4).toNat)
  case atStart=>exact ⟨s.size,[],rfl,by omega,by omega,zh (by intro h;simp),zh zi,zh gT.nil,zh (by rw [show (max (s.size:Int) 0).toNat=bs.length by rw [HN.out];omega,List.drop_length];simp [val,num]),World.ownsRow_nil _ _ _ _,Below.refl _ _⟩
  case round =>
   obtain ⟨q,ls,rfl,hq4,hqs,HE,HLL,F7,HV,hown,hb⟩:=hrel
   by_cases hqf:q≤0
   ·have hv:val 10000 ls=num (bs.drop 0):=by rw [HV.out,show (max q 0).toNat=0 by omega]
    have hz:jh (val 10000 ls) false=z:=by rw [hv,← HD.out];exact HZ.out
    have h1:Below w.heap.size w wr:=⟨hb.os,hb.tape,hb.output,ay zi hb.size,fun i hi=>(hb.block i zo).trans (h0.block i hi)⟩;have V9:=hx.later (w':=wr) ⟨hb.os,hb.tape,hb.output,by have:=hb.size;simpa using this,fun i hi=>hb.block i (by simpa using hi)⟩;have cx:=V9.cell;have fx:=V9.free;have hg:=mo false u4 ls wr (Gs.iG hown) F7.out;rw [hz] at hg;have HG:=zh hg;obtain ⟨pa,ca,rfl, -⟩:=(Gs.iG hown).read;clear hv hz hg hown HE HV hb;go_wp2_with fail
    refine HG.out.mono ?_;rintro e w' ⟨v',rfl,hb,hv⟩;obtain ⟨bNV,ag4,lNV,an1,rfl⟩:=hv.agg;have NV:=zh hv;clear hv;have hy:=V9.later hb;clear cx fx;have cy:=hy.cell;have fy:=hy.free;go_wp2_with fail
    refine ig rfl rfl bI Tryz.underlying161 rfl zk ?_;exact ⟨_,rfl,aJ,NV.out.set2 hy zd _ _ _ _⟩
   ·obtain ⟨e,rfl⟩:∃ e:Nat,q=(e:Int):=⟨q.toNat,by omega⟩;have hef:0<e:=by omega
    have aJ5:(0:Int)<(e:Int):=by omega
    rcases Int.lt_or_le ((e:Int) - 4) 0 with h4|h4
    ·have hst':(e:Int) - 4<0:=by omega
     have Nj:max ((e:Int) - 4) 0=0:=by omega
     have hgl:=nC (bs:=bs) (f:=0) Am.out (aC _) (i:=e) zo;have HE2:Hid ((s.size:Int) - e=4*ls.length):=zh (HE.out zo);clear HE;go_wp2_with fail
     obtain ⟨wo,rfl⟩:∃ wo:World,wo=wr:=⟨_,rfl⟩
     go_loopw [6,7] (fun v6 v7 wi=>∃ i:Nat,v7= Z I (i:Int)∧0≤i∧i≤e∧Hid (v6= Z I (num ((bs.take i).drop 0):Nat))∧wo=wi) (fun _ v7 _=>e - (intOf v7).toNat)
     case atStart=>exact ⟨0,rfl,aC _,by omega,zh (by rw [List.drop_eq_nil_of_le (by rw [List.length_take];omega)];rfl),rfl⟩
     case round =>
      obtain ⟨i,rfl,hi1,hi2,H6,rfl⟩:=hrel;have e6:=H6.out;subst e6
      rcases aR i e with hie|hie
      ·have his:i<s.size:=by omega
       have hx2:bs[i]? =some s[i]:=by rw [← Ql.out];exact List.getElem?_eq_getElem (by exact his)
       have hdi:=Am.out s[i] (by rw [← Ql.out];exact oL zo his);have HS:=zh (pU (bs:=bs) (st:=0) (x:=s[i]) hi1 hdi hx2);have hgb:=nC (bs:=bs) (f:=0) Am.out (aC _) (i:=i) zo;generalize num ((bs.take i).drop 0)=g at *;go_wp2_with fail
       exact ⟨⟨i+1,rfl,by omega,by omega,zh (by rw [← HS.out]),trivial⟩,by simp only [intOf];omega⟩
      ·have hie:i=e:=by omega
       subst hie;have HG:=zh (qd (bs:=bs) (s:=0) (e:=i) zo (by have:=HN.out;omega));have hlen:bs.length - i=4*ls.length:=by have:=HE2.out;have:=HN.out;omega
       have hmx:(max (i:Int) 0).toNat=i:=by omega
       have hv0:=HV.out;rw [hmx] at hv0;rw [hlen,Nat.pow_mul,← hv0] at HG;generalize num ((bs.take i).drop 0)=gv at *;have hll:ls.length+1≤s.size:=by have:=HE2.out;omega
       have ec:ints ls++[Z I (gv:Int)]=ints (ls++[gv]):=by unfold ints;simp only [List.map_append,bQ,iE]
       have EC:=zh ec;clear H6 ec;go_wp2_with (at_builtin;refine wpList_append_own _ rfl (.tmp 35) (.tmp 37) 159 rfl (w.heap.size+1) 3 i0 (Z I 0) 1 8 Tryz.underlying159 hi hz0 hz1 hz2 rfl zd _ _ _ rfl (hown.alloc _) ⟨wo.heap.size,0,none⟩ 1 1 [Z I (gv:Int)] rfl rfl (by intro t u ht;match t,ht with|0,ht=>simp at ht;subst ht;simp [Addr.add]) (by intro u hu;simp at hu;subst hu;rfl) (by unfold maxLen;omega) zo (by have:=hb.size;simp at*; omega) ?_)
       intro v' w1 hown1 hgrow1 _;rw [EC.out] at hown1;have hb3:Below (w.heap.size+1) (w.alloc (.cells #[ak false,aj none 0 0] 161)) w1:=(hb.alloc (by have:=hb.size;simpa using this) _).grown hgrow1 (by simp;have:=hb.size;simp at*; omega) (fun k hk=>(hown.lt k hk).1)
       have BX:Hid (val 10000 (ls++[gv])=num (bs.drop (max ((i:Int) - 4) 0).toNat)):=by
        unfold Hid;rw [show (max ((i:Int) - 4) 0).toNat=0 by omega,jk,HG.out,iO,aL]
       clear hown hgrow1 hst' Nj;go_wp2_with fail
       refine ⟨⟨(i:Int) - 4,ls++[gv],rfl,by omega,by omega,zh (fun h=>?_),zh (by rw [List.length_append];exact hll),zh (F7.out.snoc hgl),BX,by rw [List.length_append];exact hown1,hb3⟩,?_⟩
       ·have:=HE2.out;rw [List.length_append,List.length_singleton];omega
       ·simp only [intOf];omega
    ·obtain ⟨f,rfl⟩:∃ f,e=f+4:=⟨e - 4,by omega⟩;have s1:0≤f:=by omega
     have hst':¬ (f:Int)<0:=by omega
     have Nj:max (f:Int) 0=(f:Int):=by omega
     have hgl:=nC (bs:=bs) (f:=0) Am.out s1 (i:=f+4) zo;have HE2:Hid ((s.size:Int) - ((f+4:Nat):Int)=4*ls.length):=zh (HE.out zo);clear HE;go_wp2_with fail
     obtain ⟨wo,rfl⟩:∃ wo:World,wo=wr:=⟨_,rfl⟩
     go_loopw [6,7] (fun v6 v7 wi=>∃ i:Nat,v7= Z I (i:Int)∧f≤i∧i≤f+4∧Hid (v6= Z I (num ((bs.take i).drop f):Nat))∧wo=wi) (fun _ v7 _=>f+4 - (intOf v7).toNat)
     case atStart=>exact ⟨f,rfl,aC _,by omega,zh (by rw [List.drop_eq_nil_of_le (by rw [List.length_take];omega)];rfl),rfl⟩
     case round =>
      obtain ⟨i,rfl,hi1,hi2,H6,rfl⟩:=hrel;have e6:=H6.out;subst e6
      rcases aR i (f+4) with hie|hie
      ·have his:i<s.size:=by omega
       have hx2:bs[i]? =some s[i]:=by rw [← Ql.out];exact List.getElem?_eq_getElem (by exact his)
       have hdi:=Am.out s[i] (by rw [← Ql.out];exact oL zo his);have HS:=zh (pU (bs:=bs) (st:=f) (x:=s[i]) hi1 hdi hx2);have hgb:=nC (bs:=bs) (f:=0) Am.out s1 (i:=i) zo;generalize num ((bs.take i).drop f)=g at *;go_wp2_with fail
       exact ⟨⟨i+1,rfl,by omega,by omega,zh (by rw [← HS.out]),trivial⟩,by simp only [intOf];omega⟩
      ·obtain rfl:i=f+4:=by omega
       have HG:=zh (qd (bs:=bs) (s:=f) (e:=f+4) zo (by have:=HN.out;omega));have hlen:bs.length - (f+4)=4*ls.length:=by have:=HE2.out;have:=HN.out;omega
       have hmx:(max ((f+4:Nat):Int) 0).toNat=f+4:=by omega
       have hv0:=HV.out;rw [hmx] at hv0;rw [hlen,Nat.pow_mul,← hv0] at HG;generalize num ((bs.take (f+4)).drop f)=gv at *;have hll:ls.length+1≤s.size:=by have:=HE2.out;omega
       have ec:ints ls++[Z I (gv:Int)]=ints (ls++[gv]):=by unfold ints;simp only [List.map_append,bQ,iE]
       have EC:=zh ec;clear H6 ec;go_wp2_with (at_builtin;refine wpList_append_own _ rfl (.tmp 35) (.tmp 37) 159 rfl (w.heap.size+1) 3 i0 (Z I 0) 1 8 Tryz.underlying159 hi hz0 hz1 hz2 rfl zd _ _ _ rfl (hown.alloc _) ⟨wo.heap.size,0,none⟩ 1 1 [Z I (gv:Int)] rfl rfl (by intro t u ht;match t,ht with|0,ht=>simp at ht;subst ht;simp [Addr.add]) (by intro u hu;simp at hu;subst hu;rfl) (by unfold maxLen;omega) zo (by have:=hb.size;simp at*; omega) ?_)
       intro v' w1 hown1 hgrow1 _;rw [EC.out] at hown1;have hb3:Below (w.heap.size+1) (w.alloc (.cells #[ak false,aj none 0 0] 161)) w1:=(hb.alloc (by have:=hb.size;simpa using this) _).grown hgrow1 (by simp;have:=hb.size;simp at*; omega) (fun k hk=>(hown.lt k hk).1)
       have BX:Hid (val 10000 (ls++[gv])=num (bs.drop (max (f:Int) 0).toNat)):=by
        unfold Hid;rw [show (max (f:Int) 0).toNat=f by omega,jk,HG.out,iO,aL]
       clear hown hgrow1 hst' Nj;go_wp2_with fail
       refine ⟨⟨(f:Int),ls++[gv],rfl,by omega,by omega,zh (fun h=>?_),zh (by rw [List.length_append];exact hll),zh (F7.out.snoc hgl),BX,by rw [List.length_append];exact hown1,hb3⟩,?_⟩
       ·have:=HE2.out;rw [List.length_append,List.length_singleton];omega
       ·simp only [intOf];omega
end Go.Proofs.aF
namespace Go.Proofs.aH
open Go Go.RowKit Go.SW Go.Num Go.Mem Go.Proofs Go.Dec Go.Proofs.aF Go.Fx
def Ra (w:World) (v:Value) (q:Rat):Prop:=∃ bn pn ln cn bd pd ld cd,v= au #[ak bn,aj pn ln cn,ak bd,aj pd ld cd]∧Pl w (au #[ak bn,aj pn ln cn]) q.num∧Pl w (au #[ak bd,aj pd ld cd]) q.den
theorem Ra.later {w w':World} {v:Value} {q:Rat} (h:Ra w v q) (hb:Below w.heap.size w w'):Ra w' v q:=by
 obtain ⟨bn,pn,ln,cn,bd,pd,ld,cd,e,h1,h2⟩:=h;exact ⟨bn,pn,ln,cn,bd,pd,ld,cd,e,h1.later hb,h2.later hb⟩
def ow (w:World) (q:Rat) (e:Ending) (w':World):Prop:=∃ v',e= ah v'∧Below w.heap.size w w'∧Ra w' v' q
def I5 (w:World) (q:Rat) (e:Ending) (w':World):Prop:=∃ b pa l ca b' pa' l' LJ,e= ah (au #[ak b,aj pa l ca,ak b',aj pa' l' LJ])∧Below w.heap.size w w'∧Ra w' (au #[ak b,aj pa l ca,ak b',aj pa' l' LJ]) q
theorem jT {w:World} {q:Rat} {e:Ending} {w':World} (h:ow w q e w'):I5 w q e w':=by
 obtain ⟨v,rfl,h,hv⟩:=h;obtain ⟨b,pa,l,ca,b',pa',l',LJ,rfl, -⟩:=id hv;exact ⟨b,pa,l,ca,b',pa',l',LJ,rfl,h,hv⟩
theorem Aa {n d:Int} (hd:0<d):((n:Rat) / (d:Rat)).num=n / (Nat.gcd n.natAbs d.natAbs:Int)∧(((n:Rat) / (d:Rat)).den:Int)=d / (Nat.gcd n.natAbs d.natAbs:Int):=by
 obtain ⟨k,rfl⟩:=Int.eq_ofNat_of_zero_le (Int.le_of_lt hd);have hk:0<k:=by omega
 have e:(n:Rat) / ((k:Int):Rat)=mkRat n k:=by
  rw [Rat.mkRat_eq_div];rfl
 have h:=gB.yD n hk;rw [e,Int.natAbs_natCast];refine ⟨?_,?_⟩
 ·rw [h.1,gB.Cv (Nat.gcd_dvd_left _ _)]
 ·rw [h.2,Int.natCast_ediv]
theorem Pl.Mq {w:World} {v:Value} {z:Int} (h:Pl w v z) {b:Nat} {cs:Array Value} {T':TypeId} (hx:aB w b cs T') (hT:3≠T') (u0 u1 u2 u3:Value) :
  Pl ((((w.setCell ⟨b,0,none⟩ u0).setCell ⟨b,1,none⟩ u1).setCell ⟨b,2,none⟩ u2).setCell ⟨b,3,none⟩ u3) v z :=
 (h.set2 hx hT 0 1 u0 u1).set2 ((hx.set 0 u0).set 1 u1) hT 2 3 u2 u3
theorem Ra.Mq {w:World} {v:Value} {q:Rat} (h:Ra w v q) {b:Nat} {cs:Array Value} {T':TypeId} (hx:aB w b cs T') (hT:3≠T') (u0 u1 u2 u3:Value) :
  Ra ((((w.setCell ⟨b,0,none⟩ u0).setCell ⟨b,1,none⟩ u1).setCell ⟨b,2,none⟩ u2).setCell ⟨b,3,none⟩ u3) v q:=by
 obtain ⟨bn,pn,ln,cn,bd,pd,ld,cd,e,h1,h2⟩:=h;exact ⟨bn,pn,ln,cn,bd,pd,ld,cd,e,Pl.Mq h1 hx hT u0 u1 u2 u3,Pl.Mq h2 hx hT u0 u1 u2 u3⟩
theorem _root_.Go.Mem.Pl.keep {l:List TypeId} {w w':World} {v:Value} {z:Int} (h:Pl w v z) (k:Kept l w w') (hT:l.contains 3=false:=by kernel_rfl):Pl w' v z:=by
 obtain ⟨pa,n,ca,h1,h2⟩:=h;exact ⟨pa,n,ca,h1,Row.keep h2 k (VE hT)⟩
theorem Ra.keep {l:List TypeId} {w w':World} {v:Value} {q:Rat} (h:Ra w v q) (k:Kept l w w') (hT:l.contains 3=false:=by kernel_rfl):Ra w' v q:=by
 obtain ⟨bn,pn,ln,cn,bd,pd,ld,cd,e,h1,h2⟩:=h;exact ⟨bn,pn,ln,cn,bd,pd,ld,cd,e,h1.keep k hT,h2.keep k hT⟩
def XA (w:World) (z:Int) (e:Ending) (w':World):Prop:=∃ b pa l ca,e= ah (au #[ak b,aj pa l ca])∧Below w.heap.size w w'∧Pl w' (au #[ak b,aj pa l ca]) z
theorem Rz {w:World} {z:Int} {e:Ending} {w':World} (h:Al w z e w'):XA w z e w':=by
 obtain ⟨v,rfl,h,hv⟩:=h;obtain ⟨b,pa,l,ca,rfl⟩:=hv.agg;exact ⟨b,pa,l,ca,rfl,h,hv⟩
def aC3 (w:World) (x y:Int) (e:Ending) (w':World):Prop:=∃ b pa l ca b' pa' l' LJ,e= ah (aD #[au #[ak b,aj pa l ca],au #[ak b',aj pa' l' LJ]])∧Below w.heap.size w w'∧Pl w' (au #[ak b,aj pa l ca]) x∧Pl w' (au #[ak b',aj pa' l' LJ]) y
theorem Pg {w:World} {x y:Int} {e:Ending} {w':World} (h:uf w x y e w'):aC3 w x y e w':=by
 obtain ⟨v,u,rfl,h,hv,hu⟩:=h;obtain ⟨b,pa,l,ca,rfl⟩:=hv.agg;obtain ⟨b',pa',l',LJ,rfl⟩:=hu.agg;exact ⟨b,pa,l,ca,b',pa',l',LJ,rfl,h,hv,hu⟩
theorem Oo (x y:Value) (n d:Int) (w:World) (hx:Pl w x n) (hy:Pl w y d) (ha:sz 10000 n.natAbs≤274877906944) (hb:sz 10000 d.natAbs≤274877906944) (hd:0<d) :
  Calls Tryz.prog 210 #[x,y] w (ow w ((n:Rat) / (d:Rat))):=by
 obtain ⟨e1,e2⟩:=Aa (n:=n) hd;generalize (n:Rat) / (d:Rat)=q at *;obtain ⟨bA,mK,lA,mP,rfl⟩:=hx.agg;obtain ⟨bB,pz,lB,pF,rfl⟩:=hy.agg;have hbf:bB=false:=by rw [hy.nm.2];simp;omega
 subst hbf;have hg0:0<Nat.gcd n.natAbs d.natAbs:=Nat.gcd_pos_of_pos_right _ zo;have hgd:Nat.gcd n.natAbs d.natAbs≤d.natAbs:=Nat.le_of_dvd zo (Nat.gcd_dvd_right _ _);have dn:((Nat.gcd n.natAbs d.natAbs:Nat):Int) ∣ n:=by rw [← Int.dvd_natAbs,Int.ofNat_dvd];exact Nat.gcd_dvd_left _ _
 have dd:((Nat.gcd n.natAbs d.natAbs:Nat):Int) ∣ d:=by rw [← Int.dvd_natAbs,Int.ofNat_dvd];exact Nat.gcd_dvd_right _ _
 have DV:=fun x y W h k=>(xU x y n d W h k ha hb).mono fun _ _ q=>Rz q;generalize Nat.gcd n.natAbs d.natAbs=g at *;have G0:0<(g:Int):=by omega
 have KG:sz 10000 (g:Int).natAbs≤274877906944:=ay (fB zo (by simpa using hgd)) hb;have P1:=fun v u W h k=>(vJ v u (n) g W h k ha KG G0 (.inr dn)).mono fun _ _ q=>Pg q;have P2:=fun v u W h k=>(vJ v u (d) g W h k hb KG G0 (.inr dd)).mono fun _ _ q=>Pg q;rw [← e1] at P1;rw [← e2] at P2;refine Fx.door Tryz.func210 rfl (.nil w []) ?_;have B0:=Fx.Fa.nil w;refine Fx.new [] 2 #[ak bA,aj mK lA mP] 161 [] [] fun fT=>?_;refine Fx.new [] 3 #[ak false,aj pz lB pF] 161 [] [] fun fJ=>?_;refine Fx.aV [] 4 163 [] [] fun fF=>?_;refine Fx.je [4,2,3,4] 18 [] [] (fun W M=>DV _ _ _ (hx.later (B0.at M)) (hy.later (B0.at M))) ?_;rintro W w4 e M ⟨b3,p3,l3,c3,rfl,D4,Q3⟩;refine ⟨D4,fun M4=>?_⟩;have B4:=B0.next M4
 refine Fx.aV [] 5 161 [] [] fun rQ=>?_;refine Fx.je [6,3,6] 22 [] [(3,#[ak b3,aj p3 l3 c3])] (fun W M=>P1 _ _ _ (hx.later (B4.at M)) (Q3.keep (M4.keep M))) ?_;rintro W w6 e M ⟨b4,p4,l4,c4,x4,y4,z4,u4,rfl,D6,Q4, -⟩;refine ⟨D6,fun M6=>?_⟩;replace Q3:=Q3.keep (M4.keep M6);have B6:=B4.next M6
 refine Fx.aV [] 6 161 [(23,au #[ak b4,aj p4 l4 c4]),(24,au #[ak x4,aj y4 z4 u4])] [] fun P8=>?_;refine Fx.aV [] 7 161 [] [] fun Xi=>?_;refine Fx.je [7,8,4,6] 28 [] [(4,#[ak b4,aj p4 l4 c4]),(5,#[ak x4,aj y4 z4 u4])] (fun W M=>P2 _ _ _ (hy.later (B6.at M)) (Q3.keep (M6.keep M))) ?_;rintro W w9 e M ⟨b5,p5,l5,c5,x5,y5,z5,u5,rfl,D9,Q5, -⟩;refine ⟨D9,fun M9=>?_⟩;replace Q4:=Q4.keep (M6.keep M9);have B9:=B6.next M9
 refine Fx.aV [] 8 161 [(29,au #[ak b5,aj p5 l5 c5]),(30,au #[ak x5,aj y5 z5 u5])] [] fun NJ=>?_;refine Fx.aV [] 9 161 [] [] fun ZL=>?_;exact Fx.iy (cs:=#[ak b4,aj p4 l4 c4,ak b5,aj p5 l5 c5]) 2 fF [9,10,7,9,5] [(2,#[ak b4,aj p4 l4 c4,ak b5,aj p5 l5 c5]),(6,#[ak b5,aj p5 l5 c5]),(7,#[ak x5,aj y5 z5 u5])] (fun W M=>by have HB:=(B9.at M);exact ⟨_,rfl,HB,_,_,_,_,_,_,_,_,rfl,(Q4.keep (M9.keep M)),(Q5.keep (M9.keep M))⟩)
theorem Oq (x y:Value) (n d:Int) (w:World) (hx:Pl w x n) (hy:Pl w y d) (ha:sz 10000 n.natAbs≤274877906944) (hb:sz 10000 d.natAbs≤274877906944) (hd:d<0) :
  Calls Tryz.prog 210 #[x,y] w (ow w ((n:Rat) / (d:Rat))):=by
 obtain ⟨e1,e2⟩:=Aa (n:= -n) (d:= -d) zo;rw [show ((-n:Int):Rat) / ((-d:Int):Rat)=(n:Rat) / (d:Rat) by rw [Rat.intCast_neg,Rat.intCast_neg,Rat.div_def,Rat.div_def];grind,Int.natAbs_neg,Int.natAbs_neg] at e1 e2;generalize (n:Rat) / (d:Rat)=q at *;obtain ⟨bA,mK,lA,mP,rfl⟩:=hx.agg;obtain ⟨bB,pz,lB,pF,rfl⟩:=hy.agg;have hbf:bB=true:=by rw [hy.nm.2];simp;omega
 subst hbf;have hg0:0<Nat.gcd n.natAbs d.natAbs:=Nat.gcd_pos_of_pos_right _ zo;have hgd:Nat.gcd n.natAbs d.natAbs≤d.natAbs:=Nat.le_of_dvd zo (Nat.gcd_dvd_right _ _);have dn:((Nat.gcd n.natAbs d.natAbs:Nat):Int) ∣ -n:=by rw [Int.dvd_neg];rw [← Int.dvd_natAbs,Int.ofNat_dvd];exact Nat.gcd_dvd_left _ _
 have dd:((Nat.gcd n.natAbs d.natAbs:Nat):Int) ∣ -d:=by rw [Int.dvd_neg];rw [← Int.dvd_natAbs,Int.ofNat_dvd];exact Nat.gcd_dvd_right _ _
 have ha2:sz 10000 (-n).natAbs≤274877906944:=by rw [Int.natAbs_neg];exact ha
 have hb2:sz 10000 (-d).natAbs≤274877906944:=by rw [Int.natAbs_neg];exact hb
 have DV:=fun x y W h k=>(xU x y (-n) (-d) W h k ha2 hb2).mono fun _ _ q=>Rz q;rw [Int.natAbs_neg,Int.natAbs_neg] at DV;have T:=fun z W v h=>(wD v z W h).mono fun _ _ q=>Rz q;generalize Nat.gcd n.natAbs d.natAbs=g at *;have G0:0<(g:Int):=by omega
 have KG:sz 10000 (g:Int).natAbs≤274877906944:=ay (fB zo (by simpa using hgd)) hb;have P1:=fun v u W h k=>(vJ v u (-n) g W h k ha2 KG G0 (.inr dn)).mono fun _ _ q=>Pg q;have P2:=fun v u W h k=>(vJ v u (-d) g W h k hb2 KG G0 (.inr dd)).mono fun _ _ q=>Pg q;rw [← e1] at P1;rw [← e2] at P2;refine Fx.door Tryz.func210 rfl (.nil w []) ?_;have B0:=Fx.Fa.nil w;refine Fx.new [] 2 #[ak bA,aj mK lA mP] 161 [] [] fun fT=>?_;refine Fx.new [] 3 #[ak true,aj pz lB pF] 161 [] [] fun fJ=>?_;refine Fx.aV [] 4 163 [] [] fun fF=>?_;refine Fx.draw [4,1] [0,2,1,3,4,5] [] [] [] ?_;refine Fx.je [3,4] 13 [(14,au #[ak true,aj pz lB pF])] [] (fun W M=>T _ _ _ (hx.later (B0.at M))) ?_;rintro W w4 e M ⟨b1,p1,l1,c1,rfl,D4,Q1⟩;refine ⟨D4,fun M4=>?_⟩;have B4:=B0.next M4
 refine Fx.je [] 15 [] [] (fun W M=>T _ _ _ (hy.later (B4.at M))) ?_;rintro W w5 e M ⟨b2,p2,l2,c2,rfl,D5,Q2⟩;refine ⟨D5,fun M5=>?_⟩;replace Q1:=Q1.keep (M4.keep M5);have B5:=B4.next M5
 refine Fx.je [3,4,3,4] 18 [] [(0,#[ak b1,aj p1 l1 c1]),(1,#[ak b2,aj p2 l2 c2])] (fun W M=>DV _ _ _ (Q1.keep (M5.keep M)) (Q2.keep (M5.keep M))) ?_;rintro W w6 e M ⟨b3,p3,l3,c3,rfl,D6,Q3⟩;refine ⟨D6,fun M6=>?_⟩;replace Q1:=Q1.keep (M5.keep M6);replace Q2:=Q2.keep (M5.keep M6);have B6:=B5.next M6
 refine Fx.aV [] 5 161 [] [] fun P8=>?_;refine Fx.je [6,3,6] 22 [] [(3,#[ak b3,aj p3 l3 c3])] (fun W M=>P1 _ _ _ (Q1.keep (M6.keep M)) (Q3.keep (M6.keep M))) ?_;rintro W w8 e M ⟨b4,p4,l4,c4,x4,y4,z4,u4,rfl,D8,Q4, -⟩;refine ⟨D8,fun M8=>?_⟩;replace Q2:=Q2.keep (M6.keep M8);replace Q3:=Q3.keep (M6.keep M8);have B8:=B6.next M8
 refine Fx.aV [] 6 161 [(23,au #[ak b4,aj p4 l4 c4]),(24,au #[ak x4,aj y4 z4 u4])] [] fun bz9=>?_;refine Fx.aV [] 7 161 [] [] fun NJ=>?_;refine Fx.je [7,8,4,6] 28 [] [(4,#[ak b4,aj p4 l4 c4]),(5,#[ak x4,aj y4 z4 u4])] (fun W M=>P2 _ _ _ (Q2.keep (M8.keep M)) (Q3.keep (M8.keep M))) ?_;rintro W w11 e M ⟨b5,p5,l5,c5,x5,y5,z5,u5,rfl,D11,Q5, -⟩;refine ⟨D11,fun M11=>?_⟩;replace Q4:=Q4.keep (M8.keep M11);have B11:=B8.next M11
 refine Fx.aV [] 8 161 [(29,au #[ak b5,aj p5 l5 c5]),(30,au #[ak x5,aj y5 z5 u5])] [] fun SQ=>?_;refine Fx.aV [] 9 161 [] [] fun aB2=>?_;exact Fx.iy (cs:=#[ak b4,aj p4 l4 c4,ak b5,aj p5 l5 c5]) 2 fF [9,10,7,9,5] [(2,#[ak b4,aj p4 l4 c4,ak b5,aj p5 l5 c5]),(6,#[ak b5,aj p5 l5 c5]),(7,#[ak x5,aj y5 z5 u5])] (fun W M=>by have HB:=(B11.at M);exact ⟨_,rfl,HB,_,_,_,_,_,_,_,_,rfl,(Q4.keep (M11.keep M)),(Q5.keep (M11.keep M))⟩)
theorem wF (x y:Value) (n d:Int) (w:World) (hx:Pl w x n) (hy:Pl w y d) (ha:sz 10000 n.natAbs≤274877906944) (hb:sz 10000 d.natAbs≤274877906944) (hd:d≠0) :
  Calls Tryz.prog 210 #[x,y] w (ow w ((n:Rat) / (d:Rat))):=by
 by_cases h:0<d
 ·exact Oo x y n d w hx hy ha hb h
 ·exact Oq x y n d w hx hy ha hb zo
end Go.Proofs.aH
