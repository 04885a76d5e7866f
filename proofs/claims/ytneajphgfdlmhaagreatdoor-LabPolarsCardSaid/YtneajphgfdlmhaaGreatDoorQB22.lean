/- Lemmas for the proof. No condition. -/
import Derived.Test.YtneajphgfdlmhaaGreatDoorQB21
import Derived.RegionTactic
set_option linter.unusedVariables false
set_option linter.unusedSimpArgs false
set_option maxRecDepth 100000
set_option maxHeartbeats 16000000
open Bool renaming and_eq_true → aK, false_eq_true → dJ
open Go.Ending renaming returned → aj
open Go.IntKind renaming i64 → I
open Go.Value renaming bool → ak, int → Z, slice → ah, string → O, tuple → aG
open List renaming all_eq_true → dX, append_assoc → ji, cons_append → dh, getElem?_append_left → eO, getElem?_append_right → dZ, getElem?_drop → iX, length_cons → bg, map_cons → bL, map_nil → gY, mem_of_mem_take → jk, replicate → bM, take_of_length_le → dG
open Nat renaming add_comm → iF, add_zero → fJ, eq_zero_or_pos → aV, le_refl → aD, le_trans → ay, lt_of_lt_of_le → aI, lt_or_ge → aO, mul_comm → aL, pow_le_pow_right → bI, pow_succ → bN, zero_add → dK
namespace Go.Proofs.aC
open Go Go.RowKit Go.SW Go.Num Go.Mem Go.Proofs
theorem Ww {a b:Int} (hb:0<b) (h:0≤a∨b ∣ a):iV (a.natAbs / b.natAbs) (decide (a<0))=a / b∧iV (a.natAbs%b.natAbs) (decide (a<0))=a%b∧0≤a%b:=by
 have hm:=Int.emod_nonneg a (show b≠0 by omega)
 rcases h with h|h
 ·have h1:¬ a<0:=by omega
  unfold iV;simp only [h1,decide_false,dJ,if_false];obtain ⟨x,rfl⟩:=Int.eq_ofNat_of_zero_le h;obtain ⟨y,rfl⟩:=Int.eq_ofNat_of_zero_le (Int.le_of_lt hb);simp only [Int.natAbs_natCast];exact ⟨by rw [Int.natCast_ediv],by rw [Int.natCast_emod],hm⟩
 ·have e1:a%b=0:=Int.emod_eq_zero_of_dvd h;have e2:a.natAbs%b.natAbs=0:=Nat.mod_eq_zero_of_dvd (Int.natAbs_dvd_natAbs.2 h);refine ⟨?_,by rw [e1,e2];unfold iV;simp,hm⟩;obtain ⟨c,rfl⟩:=h;have h2:=IY (z:=b*c) (y:=b) ⟨c,rfl⟩;have h3:¬ b<0:=by omega
  simpa [h3] using h2
def sH (w:World) (q r:Int) (e:Ending) (w':World):Prop:=∃ x y,e= aj (aG #[x,y])∧Below w.heap.size w w'∧Pl w' x q∧Pl w' y r
theorem uH (x y:Value) (a b:Int) (w:World) (hx:Pl w x a) (hy:Pl w y b) (ha:sz 10000 a.natAbs≤274877906944) (hb:sz 10000 b.natAbs≤274877906944) (hb0:0<b) (hd:0≤a∨b ∣ a) :
  Calls Tryz.prog 262 #[x,y] w (sH w (a / b) (a%b)):=by
 obtain ⟨bA,kg,lA,kN,rfl⟩:=hx.agg;obtain ⟨bB,oq,lB,oz,rfl⟩:=hy.agg;obtain ⟨nA,eA⟩:=hx.nm;obtain ⟨nB,eB⟩:=hy.nm;have hbf:bB=false:=by rw [eB];simp;omega
 subst hbf;obtain ⟨s1,s2,s3⟩:=Ww hb0 hd;rw [← eA] at s1 s2;have sU:=zh nA;have yL:=zh nB;have KA:=zh ha;have KB:=zh hb;have H0:Hid (0<b.natAbs):=zh zo;have HS1:=zh s1;have HS2:=zh s2;have HS3:=zh s3;clear hx hy ha hb hb0 hd nA nB eA eB s1 s2 s3;go_enter Tryz.func262,Tryz.ntmps262
 go_wp2_with fail
 obtain ⟨lZ,EW,hz,X1,X2,X3,X4⟩:=al4 w #[ak bA,ah kg lA kN] 161 #[ak false,ah oq lB oz] 161 #[ak false,ah none 0 0] 161 #[ak false,ah none 0 0] 161;rw [EW];replace sU:=zh (sU.out.later hz);have hk2:=Bt (Below.refl _ _) hz;clear EW hz;refine (BU _ _ _ _ _ sU.out (yL.out.later hk2) H0.out KA.out KB.out).mono ?_;rintro e oo ⟨q,r,rfl,hb3,hq,hr⟩;obtain ⟨paQ,lQ,caQ,rfl⟩:=hq.slice;obtain ⟨WK,lR,XP,rfl⟩:=hr.slice;replace sU:=zh (sU.out.later hb3);replace X1:=X1.bl hb3;replace X2:=X2.bl hb3;replace X3:=X3.bl hb3;replace X4:=X4.bl hb3;have hk5:=Bt hk2 hb3;clear hk2;have NQ:=zh hq;have NR:=zh hr;clear hb3 hq hr;have HL4:=zh X4.out.lt;go_wp2_with fail
 obtain ⟨kZ,kY,ni⟩:=X1.clf;obtain ⟨sP,sO,wK⟩:=X2.clf;refine aJ [(.pure,0),(.read,1),(.pure,2),(.read,3),(.pure,4),(.pure,5),(.pure,7),(.read,8),(.pure,9),(.ext,6),(.ext,10),(.alloc #[ak false,ah none 0 0] 161,11),(.alloc #[ak false,ah none 0 0] 161,12),(.fin,13),(.fin,14)] zk zk zR zP ?_;refine zV ?_;refine aS rfl rfl (fun Dy hb6 J hJ=>?_);go_simp;have sW:Below oo.heap.size oo Dy:=aF;clear hb6;refine (rW _ _ _ _ _ (NQ.out.later sW) HS1.out).mono ?_;rintro e sJ ⟨v,rfl,jP,qC⟩;obtain ⟨bU,Qs,lU,Q0,rfl⟩:=qC.agg;refine hJ _ _ jP ?_;clear hJ J;have Ad:=Bt sW jP;have NU:=zh qC;clear sW jP qC;refine zV ?_;refine aS rfl rfl (fun DI sZ J hJ=>?_);go_simp;have nJ:Below oo.heap.size oo DI:=Bt Ad aF;replace NU:=zh (NU.out.later (show Below sJ.heap.size sJ DI from aF));clear sZ Ad
 refine (rW _ _ _ _ _ (NR.out.later nJ) HS2.out).mono ?_;rintro e lg ⟨v,rfl,jF,hv⟩;obtain ⟨bV,Qr,lV,QZ,rfl⟩:=hv.agg;have hbv:bV=false:=hv.nm.2.trans (decide_eq_false (by have:=HS3.out;omega));subst hbv;refine hJ _ _ jF ?_;clear hJ J;have pG:=Bt nJ jF;replace NU:=zh (NU.out.later jF);have NV:=zh hv;clear nJ jF hv;refine zV ?_;refine eX rfl (fun jN am0 JF lM yg CK jX=>?_);go_simp;replace jX:aA _ _ _ _:=jX;have CF:w.heap.size≤jN:=(by first|omega|exact ay (Below.size (B:=w.heap.size) aF) lM);refine eX rfl (fun mM av2 JE qE GZ CJ rX=>?_);go_simp;replace rX:aA _ _ _ _:=rX;have MG:w.heap.size≤mM:=(by first|omega|exact ay (Below.size (B:=w.heap.size) aF) qE);replace jX:=aA.later jX JE;have hne:jN≠mM:=fun h=>CJ (by simp [h])
 have hne2:mM≠jN:=fun h=>hne h.symm;refine dA [_,_] rfl (fun V6 ab4=>?_);replace NU:=zh (NU.out.later (show Below lg.heap.size lg V6 from aF));replace NV:=zh (NV.out.later (show Below lg.heap.size lg V6 from aF));have QM:Below oo.heap.size oo V6:=Bt pG aF;have hq0:=jX.later ab4;have U0:=hq0.cell;have UA:=hq0.free;have hq1:=rX.later ab4;have XM:=hq1.cell;have Xx:=hq1.free;clear jX rX ab4 pG;clear kZ kY ni sP sO wK;go_wp2_with fail
 obtain ⟨Zj,EW⟩:∃ y,((((V6.setCell ⟨jN,0,none⟩ (ak bU)).setCell ⟨jN,1,none⟩ (ah Qs lU Q0)).setCell ⟨mM,0,none⟩ (ak false)).setCell ⟨mM,1,none⟩ (ah Qr lV QZ))=y:=⟨_,rfl⟩;have hz:Below oo.heap.size oo Zj:=by rw [← EW];exact ((((QM.setCell lM _).setCell lM _).setCell qE _).setCell qE _)
 have X5:Hid (aA Zj jN #[ak bU,ah Qs lU Q0] 161):=zh (by rw [← EW];exact ((((hq0.set 0 _).set 1 _).setOther _ (by first|exact hne|exact hne2)).setOther _ (by first|exact hne|exact hne2)));have X6:Hid (aA Zj mM #[ak false,ah Qr lV QZ] 161):=zh (by rw [← EW];exact ((((hq1.setOther _ (by first|exact hne|exact hne2)).setOther _ (by first|exact hne|exact hne2)).set 0 _).set 1 _));have t:=((((NU.out.setOther hq0 zd 0 (ak bU)).setOther (hq0.set 0 _) zd 1 (ah Qs lU Q0)).setOther ((hq1.setOther _ (by first|exact hne|exact hne2)).setOther _ (by first|exact hne|exact hne2)) zd 0 (ak false)).setOther (((hq1.setOther _ (by first|exact hne|exact hne2)).setOther _ (by first|exact hne|exact hne2)).set 0 _) zd 1 (ah Qr lV QZ));rw [EW] at t;replace NU:=zh t;clear t
 have t:=((((NV.out.setOther hq0 zd 0 (ak bU)).setOther (hq0.set 0 _) zd 1 (ah Qs lU Q0)).setOther ((hq1.setOther _ (by first|exact hne|exact hne2)).setOther _ (by first|exact hne|exact hne2)) zd 0 (ak false)).setOther (((hq1.setOther _ (by first|exact hne|exact hne2)).setOther _ (by first|exact hne|exact hne2)).set 0 _) zd 1 (ah Qr lV QZ));rw [EW] at t;replace NV:=zh t;clear t;rw [EW];clear EW hq0 U0 UA hq1 XM Xx QM;clear sU;replace X1:=X1.bl hz;replace X2:=X2.bl hz;replace X3:=X3.bl hz;replace X4:=X4.bl hz;replace NQ:=zh (NQ.out.later hz);replace NR:=zh (NR.out.later hz);have aO7:=Bt hk5 hz;clear hk5;clear hz;clear JF CK CJ CF MG JE;have ab1:=lM;have ab0:=qE;clear lM qE yg GZ;have c5:=X5.out.cell;have c6:=X6.out.cell;have c3:=X3.out.cell;have c4:=X4.out.cell;have f3:=X3.out.free;have f4:=X4.out.free
 have hl4:=HL4.out;have n1:mM≠w.heap.size+1+1:=by omega
 have n2:mM≠w.heap.size+1+1+1:=by omega
 have n3:jN≠w.heap.size+1+1:=by omega
 have n4:jN≠w.heap.size+1+1+1:=by omega
 have h3:=X3.out;have h4:=X4.out;clear X1 X2 X5 X6 NQ NR HS1 HS2 HS3 H0 KA KB yL hne hne2 hl4 HL4 ab1 ab0;go_region
 go_wp2_with fail
 have h4b:=(h4.setOther (a:=⟨w.heap.size+1+1,0,none⟩) (ak bU) zi).setOther (a:=⟨w.heap.size+1+1,1,none⟩) (ah Qs lU Q0) zi;have h3b:=(((h3.set 0 (ak bU)).set 1 (ah Qs lU Q0)).setOther (a:=⟨w.heap.size+1+1+1,0,none⟩) (ak false) zi).setOther (a:=⟨w.heap.size+1+1+1,1,none⟩) (ah Qr lV QZ) zi;have hU:=(NU.out.set2 h3 zd 0 1 (ak bU) (ah Qs lU Q0)).set2 h4b zd 0 1 (ak false) (ah Qr lV QZ);have hV:=(NV.out.set2 h3 zd 0 1 (ak bU) (ah Qs lU Q0)).set2 h4b zd 0 1 (ak false) (ah Qr lV QZ);refine Tc rfl rfl (aA.drew h3b) Tryz.underlying161 rfl zk rfl (aA.drew ((h4b.set 0 (ak false)).set 1 (ah Qr lV QZ))) Tryz.underlying161 rfl zk ?_;exact ⟨_,_,rfl,aF,hU.later (Below.drew (Below.refl _ _)),hV.later (Below.drew (Below.refl _ _))⟩
end Go.Proofs.aC
namespace Go.Proofs.aC
open Go Go.RowKit Go.SW Go.Num Go.Mem Go.Proofs Go.Dec
theorem Xy (d:Nat) (hd:d<10000) (w:World) :
  Calls Tryz.prog 259 #[Z I (d:Int)] w fun e w'=>e= aj (O ⟨(pad 4 d).toArray⟩)∧Below w.heap.size w w':=by
 have hp:pad 4 d=[UInt8.ofNat (48+d / 1000),UInt8.ofNat (48+d / 100%10),UInt8.ofNat (48+d / 10%10),UInt8.ofNat (48+d%10)]:=by
  simp only [pad,List.nil_append,dh];rw [show d / 10 / 10 / 10%10=d / 1000 by omega,show d / 10 / 10%10=d / 100%10 by omega]
 have hb:∀ x:Nat,x<10→((UInt8.ofNat (48+x)).toNat:Int)=48+(x:Int):=fun x hx=>by
  rw [nL hx];omega
 have e1:=hb (d / 1000) zo;have e2:=hb (d / 100%10) zo;have e3:=hb (d / 10%10) zo;have e4:=hb (d%10) zo
 have hcv:(convert 275 9 (ah (some ⟨w.heap.size,0,none⟩) 4 4)).run Tryz.prog (w.alloc (.cells #[Z .u8 (48+(d:Int) / 1000),Z .u8 (48+(d:Int) / 100%10),Z .u8 (48+(d:Int) / 10%10),Z .u8 (48+(d:Int)%10)] 5))
   = .ok (O ⟨(pad 4 d).toArray⟩) (w.alloc (.cells #[Z .u8 (48+(d:Int) / 1000),Z .u8 (48+(d:Int) / 100%10),Z .u8 (48+(d:Int) / 10%10),Z .u8 (48+(d:Int)%10)] 5)):=by
  have hx:=aA.new w #[Z .u8 (48+(d:Int) / 1000),Z .u8 (48+(d:Int) / 100%10),Z .u8 (48+(d:Int) / 10%10),Z .u8 (48+(d:Int)%10)] 5;have hl:=o9 4 d
  have:=run_convert_bytes_back (P:=Tryz.prog) (w.alloc (.cells #[Z .u8 (48+(d:Int) / 1000),Z .u8 (48+(d:Int) / 100%10),Z .u8 (48+(d:Int) / 10%10),Z .u8 (48+(d:Int)%10)] 5)) 275 9 5 ⟨w.heap.size,0,none⟩ 4 (pad 4 d) Tryz.underlying275 Tryz.underlying5 Tryz.underlying9 (fun j hj=>by
   rw [Addr.add_lit,hx.cell,dK];rw [hl] at hj
   match j,hj with
   | 0,_=>simp only [hp,List.getElem_cons_zero,e1];rfl
   | 1,_=>simp only [hp,List.getElem_cons_zero,List.getElem_cons_succ,e2];rfl
   | 2,_=>simp only [hp,List.getElem_cons_zero,List.getElem_cons_succ,e3];rfl
   | 3,_=>simp only [hp,List.getElem_cons_zero,List.getElem_cons_succ,e4];rfl)
  rwa [hl] at this
 obtain ⟨B,EB⟩:∃ B:ByteArray,Hid ((⟨(pad 4 d).toArray⟩:ByteArray)=B):=⟨_,zh rfl⟩;rw [EB.out] at hcv ⊢;clear e1 e2 e3 e4 hb hp EB;go_enter Tryz.func259,Tryz.ntmps259
 go_wp2
 go_ret
 exact ⟨rfl,aF⟩
def txt:List Nat→List UInt8
 | []=>[]
 | d::l=>txt l++pad 4 d
theorem Sn {l:List Nat} {i:Nat} (h:i<l.length):txt (l.drop i)=txt (l.drop (i+1))++pad 4 (l.getD i 0):=by
 rw [jG h];rfl
theorem Gh:∀ {l:List Nat},fZ 10000 l→Top l→l≠[]→∃ m,txt l=bM m 48++Lib.decDigits (val 10000 l)
 | [],_,_,h=>absurd rfl h
 | d::l,hd,ht,_=>by
  by_cases hl:l=[]
  ·subst hl;refine ⟨4 - (Lib.decDigits d).length,?_⟩;have h1:=yB 4 d zo (by have:=hd.head;omega)
   show []++pad 4 d=_
   rw [← h1];simp [val]
  ·obtain ⟨m,hm⟩:=Gh hd.tail ht.tail hl;refine ⟨m,?_⟩;have hp:=iZ (B:=10000) zo ht.tail hl
   show txt l++pad 4 d=_
   rw [hm,ji,← Bf 4 _ d hp (by have:=hd.head;omega)];simp only [val];rw [show val 10000 l*10^4+d=d+10000*val 10000 l by omega]
theorem Od (l:List Nat):(txt l).length=4*l.length:=by
 induction l with
 | nil=>rfl
 | cons d l ih=>show (txt l++pad 4 d).length=_;rw [List.length_append,ih,o9,bg];omega
theorem P8 {l:List Nat} {k:Nat} (hd:fZ 10000 l) (ht:Top l) (h:∀ i,i<k→(txt l)[i]? =some 48) (hk:k<(txt l).length) (hne:(txt l)[k]? ≠some 48):(txt l).drop k=Lib.decDigits (val 10000 l):=by
 have hl:l≠[]:=fun e=>by subst e;cases hk
 have hp:=iZ (B:=10000) zo ht hl;obtain ⟨m,hm⟩:=Gh hd ht hl
 have hkm:k=m:=by
  rcases Nat.lt_trichotomy k m with h1|h1|h1
  ·exfalso
   rw [hm,eO (by simpa using h1)] at hne;simp [h1] at hne
  ·exact h1
  ·exfalso
   have h2:=h m h1;rw [hm,dZ zi] at h2;simp only [List.length_replicate,Nat.sub_self] at h2;have:=uF (n:=val 10000 l) (by rw [List.head?_eq_getElem?];exact h2);omega
 subst hkm;rw [hm,List.drop_append_of_le_length zi,List.drop_of_length_le zi,List.nil_append]
theorem P9 {l:List Nat} (hd:fZ 10000 l) (ht:Top l) (h:∀ i,i<(txt l).length→(txt l)[i]? =some 48):val 10000 l=0:=by
 by_cases hl:l=[]
 ·subst hl;rfl
 ·exfalso
  have hp:=iZ (B:=10000) zo ht hl;obtain ⟨m,hm⟩:=Gh hd ht hl;have h2:=h m (by rw [hm,List.length_append,List.length_replicate];have:=uE (val 10000 l);omega);rw [hm,dZ zi] at h2;simp only [List.length_replicate,Nat.sub_self] at h2;have:=uF (n:=val 10000 l) (by rw [List.head?_eq_getElem?];exact h2);omega
theorem ba_eq {a b:ByteArray} (h:a.data.toList=b.data.toList):a=b:=by
 cases a;cases b
 simp only at h;rw [Array.toList_inj.1 h]
theorem xW (z:Int):Lib.itoa z=if z<0 then 45::Lib.decDigits z.natAbs else Lib.decDigits z.natAbs:=by
 unfold Lib.itoa
 by_cases h:z<0
 ·rw [if_pos h,if_pos h]
 ·rw [if_neg h,if_neg h,show z.toNat=z.natAbs by omega]
theorem rY (S:ByteArray) (k:Nat):(S.extract k S.size).data.toList=S.data.toList.drop k:=by
 have h:S.size=S.data.toList.length:=rfl;rw [ByteArray.data_extract,Array.toList_extract];unfold List.extract;rw [dG (by rw [List.length_drop,h];exact aD _)]
theorem Po (x:Value) (z:Int) (w:World) (hx:Pl w x z) (hs:sz 10000 z.natAbs≤1073741824) :
  Calls Tryz.prog 207 #[x] w (fun e w'=>e= aj (O ⟨(Lib.itoa z).toArray⟩)∧Below w.heap.size w w'):=by
 obtain ⟨bA,kg,lA,kN,rfl⟩:=hx.agg;obtain ⟨hn,hbz⟩:=hx.nm;obtain ⟨l,El⟩:∃ l,eF 10000 z.natAbs=l:=⟨_,rfl⟩;obtain ⟨pa',KW,e,k1,k2,k3⟩:=hn.read;simp only [Value.slice.injEq] at e;obtain ⟨rfl,rfl,rfl⟩:=e;rw [El] at k3;have hl:l.length=sz 10000 z.natAbs:=by rw [← El];rfl
 have hdl:fZ 10000 l:=by rw [← El];exact cZ zo _
 have htl:Top l:=by rw [← El];exact nQ zo _
 have hvl:val 10000 l=z.natAbs:=by rw [← El];exact bQ zo _
 obtain ⟨L,EL⟩:∃ L,sz 10000 z.natAbs=L:=⟨_,rfl⟩;rw [EL] at hl hs k1 k3 ⊢;have h0:Below w.heap.size w (w.alloc (.cells #[ak bA,ah kg L kN] 161)):=aF;have hbx:=aA.new w #[ak bA,ah kg L kN] 161;obtain ⟨W,EW⟩:∃ y,w.alloc (.cells #[ak bA,ah kg L kN] 161)=y:=⟨_,rfl⟩;rw [EW] at h0 hbx
 have k4:∀ k,k<L→∃ b off,kg=some ⟨b,off,none⟩∧b<W.heap.size∧W.cell? ⟨b,off+k,none⟩=some (.int .i64 (l.getD k 0:Nat)):=fun k hk=>by
  obtain ⟨b,off,e,h1,h2⟩:=k3 k hk;exact ⟨b,off,e,aI h1 h0.size,(h0.cell (by exact h1)).trans h2⟩
 have K4:=zh k4;have HX:=zh hbx;have HL:=zh hl;have EO:=zh hdl;have HTL:=zh htl;have Y6:=zh hvl;have HBZ:=zh hbz;have c0:=hbx.cell;clear k3 k4 hbx hl hdl htl hvl hbz hn hx EL El;go_enter Tryz.func207,Tryz.ntmps207
 go_wp2_with fail
 clear EW c0
 go_loopw [3,4] (fun sv iv wr=>∃ (q:Int) (S:ByteArray), -1≤q∧q<L∧iv= Z I q∧sv= O S∧Hid (S.data.toList=txt (l.drop (q+1).toNat))∧Hid (Below W.heap.size W wr)) (fun _ iv _=>(intOf iv+1).toNat)
 case atStart =>
  have e:((L:Int) - 1+1).toNat=l.length:=by have:=HL.out;omega
  exact ⟨(L:Int) - 1,⟨#[]⟩,by omega,by omega,rfl,rfl,zh (by rw [e,List.drop_length];rfl),zh (Below.refl _ _)⟩
 case round =>
  obtain ⟨q,S,hq1,hq2,rfl,rfl,HS,HB⟩:=hrel;have hbx:=HX.out.later HB.out;have c0:=hbx.cell
  by_cases hq:q<0
  ·have hq0:q= -1:=by omega
   subst hq0;have hS:S.data.toList=txt l:=by have:=HS.out;simpa using this
   have HS2:=zh hS;clear hS HS
   have hsz:S.size=4*L:=by
    have h1:S.size=S.data.toList.length:=rfl;rw [h1,HS2.out,Od,HL.out]
   go_wp2_with fail
   go_loop [5] (fun kv=>∃ k:Nat,k≤S.size∧kv= Z I k∧Hid (∀ i,i<k→S.data.toList[i]? =some 48)) (fun kv=>S.size - (intOf kv).toNat)
   case atStart=>exact ⟨0,Nat.zero_le _,rfl,zh fun i hi=>by cases hi⟩
   case round =>
    obtain ⟨k,hk,rfl,HK⟩:=hrel
    by_cases hks:k<S.size
    ·have hg:(txt l)[k]? =some S[k]:=by
      rw [← HS2.out];exact List.getElem?_eq_getElem (by exact hks)
     by_cases h48:S[k]=48
     ·have e:((S[k].toNat:Int) == 48)=true:=by rw [h48];rfl
      have HK1:Hid (∀ i,i<k+1→S.data.toList[i]? =some 48):=zh fun i hi=>by
       by_cases hik:i<k
       ·exact HK.out i hik
       ·obtain rfl:i=k:=by omega
        rw [HS2.out,hg,h48]
      clear hg h48;go_wp2_with fail
      go_round
      case rel=>exact ⟨k+1,by omega,by go_num,HK1⟩
      case measure=>exact zM
     ·have e:((S[k].toNat:Int) == 48)=false:=by
       rw [beq_eq_false_iff_ne];intro h;have aA3:S[k].toNat=48:=by omega
       exact h48 (UInt8.toNat_inj.1 (by rw [aA3];rfl))
      have hdrop:=P8 EO.out HTL.out (fun i hi=>by rw [← HS2.out];exact HK.out i hi) (by rw [← HS2.out];exact hks) (by rw [hg];intro h;exact h48 (Option.some.inj h))
      have hT:(S.extract k (4*L)).data.toList=Lib.decDigits z.natAbs:=by
       rw [← hsz,rY,HS2.out,hdrop,Y6.out]
      have hE:(S.extract k (4*L)).toList.isEmpty=false:=by
       rw [ByteArray.toList_eq,hT];have:=uE z.natAbs;cases h:Lib.decDigits z.natAbs with
       | nil=>rw [h] at this;cases this
       | cons a b=>rfl
      have HT:=zh hT;clear hdrop hT hg h48 HK;cases bA
      ·have hz:¬ z<0:=by have:=HBZ.out;intro h;rw [decide_eq_true h] at this;cases this
       have eS:S.extract k (4*L)=⟨(Lib.itoa z).toArray⟩:=ba_eq (by rw [HT.out,xW,if_neg hz]);have ES:=zh eS;clear eS hz;go_wp2_with fail
       go_ret
       exact ⟨congrArg (fun s=>Ending.returned (O s)) ES.out,Bt h0 HB.out⟩
      ·have hz:z<0:=of_decide_eq_true HBZ.out.symm
       have eS:(⟨#[45]⟩:ByteArray)++S.extract k (4*L)=⟨(Lib.itoa z).toArray⟩:=ba_eq (by
        rw [xW,if_pos hz,ByteArray.data_append,Array.toList_append,HT.out];rfl)
       have ES:=zh eS
       have hsm:¬ 9223372036854775807<1+(S.extract k (4*L)).size:=by
        have h1:(S.extract k (4*L)).size=(S.extract k (4*L)).data.toList.length:=rfl;have h2:=HT.out;rw [← hsz,rY] at h2
        have h3:(S.extract k (4*L)).data.toList.length≤S.data.toList.length:=by
         rw [← hsz,rY,List.length_drop];omega
        have h4:S.data.toList.length=S.size:=rfl;omega
       clear eS hz;go_wp2_with fail
       go_ret
       exact ⟨congrArg (fun s=>Ending.returned (O s)) ES.out,Bt h0 HB.out⟩
    ·have hke:k=S.size:=by omega
     subst hke
     have hz0:z.natAbs=0:=by
      rw [← Y6.out]
      exact P9 EO.out HTL.out fun i hi=>by
       rw [← HS2.out] at hi ⊢;exact HK.out i hi
     have hz:z=0:=by omega
     have EZ:Hid ((⟨#[48]⟩:ByteArray)=⟨(Lib.itoa z).toArray⟩):=zh (by rw [hz];exact ba_eq (by rw [xW];simp [iM]));clear hz hz0 HK;go_wp2_with fail
     go_ret
     exact ⟨congrArg (fun s=>Ending.returned (O s)) EZ.out,Bt h0 HB.out⟩
  ·obtain ⟨j,rfl⟩:=Int.eq_ofNat_of_zero_le (by omega:0≤q);have ej:((j:Int)+1).toNat=j+1:=by omega
   rw [ej] at HS;obtain ⟨b,off,rfl,hb1,hc1⟩:=K4.out j zo;have hcj:wr.cell? ⟨b,off+j,none⟩=some (.int .i64 (l.getD j 0:Nat)):=(HB.out.cell (by exact hb1)).trans hc1;have hdj:=EO.out.getD zo j;have HST:Hid (txt (l.drop j)=S.data.toList++pad 4 (l.getD j 0)):=zh (by rw [HS.out];exact Sn (by rw [HL.out];omega));have HSL:Hid (S.data.toList.length=4*(L - (j+1))):=zh (by rw [HS.out,Od,List.length_drop,HL.out]);clear HS hc1;generalize l.getD j 0=d at *;have HF:=zh (Xy d hdj)
   have hsum:¬ 9223372036854775807<S.size+(pad 4 d).length:=by
    have h1:S.size=S.data.toList.length:=rfl;rw [o9,h1,HSL.out];omega
   go_wp2_with fail
   refine (HF.out _).mono ?_;rintro e w1 ⟨rfl,hb⟩;have HB1:=zh (Bt HB.out hb);clear hb hbx c0 hcj;go_wp2_with fail
   go_roundw
   case rel =>
    have e1:((j:Int) - 1+1).toNat=j:=by omega
    exact ⟨(j:Int) - 1,S++⟨(pad 4 d).toArray⟩,by omega,by omega,rfl,rfl,zh (by rw [e1,HST.out];simp),HB1⟩
   case measure=>simp [intOf]
theorem MO (n:Nat):(Lib.decDigits n).length≤4*sz 10000 n+1:=by
 refine lS _ _ zo ?_;have h1:=jg (B:=10000) zo n;have h2:(10:Nat)^(4*sz 10000 n)=10000^sz 10000 n:=by rw [Nat.pow_mul]
 rw [bN,h2];omega
def Tw (z:Int):Value:=if gD.kI z.natAbs then aG #[dW z,Z I 0] else aG #[O ⟨#[]⟩,Z I 6]
theorem Ue (z:Int):(Lib.itoa z).length=(Lib.decDigits z.natAbs).length+(if z<0 then 1 else 0):=by
 rw [xW]
 by_cases h:z<0
 ·rw [if_pos h,if_pos h];rfl
 ·rw [if_neg h,if_neg h];rfl
theorem uI (x:Value) (z:Int) (w:World) (hx:Pl w x z) (hs:sz 10000 z.natAbs≤1073741824) :
  Calls Tryz.prog 209 #[x] w (fun e w'=>e= aj (Tw z)∧Below w.heap.size w w'):=by
 obtain ⟨bA,kg,lA,kN,rfl⟩:=hx.agg;obtain ⟨hn,hbz⟩:=hx.nm;have NA:=zh hx;have hlen:=Ue z;have hok:=gD.fK (n:=z.natAbs);obtain ⟨S,ES⟩:∃ S:ByteArray,Hid (S=⟨(Lib.itoa z).toArray⟩):=⟨_,zh rfl⟩;have hsz:S.size=(Lib.itoa z).length:=by rw [ES.out];simp [ByteArray.size]
 have hsb:(Lib.decDigits z.natAbs).length≤4294967297:=by
  have:=MO z.natAbs;omega
 have HT:=zh (fun W (hb:Below w.heap.size w W)=>Po _ z W (hx.later hb) hs);rw [← ES.out] at HT
 have hv:Tw z=if (Lib.decDigits z.natAbs).length≤600 then aG #[O S,Z I 0] else aG #[O ⟨#[]⟩,Z I 6]:=by
  unfold Tw;rw [ES.out]
  by_cases h:(Lib.decDigits z.natAbs).length≤600
  ·rw [if_pos h,if_pos (hok.2 h)];rfl
  ·rw [if_neg h,if_neg (fun h'=>h (hok.1 h'))]
 rw [hv];obtain ⟨n,En⟩:∃ n,(Lib.decDigits z.natAbs).length=n:=⟨_,rfl⟩;rw [En] at hlen hsb ⊢;rw [hlen] at hsz;have h0:Below w.heap.size w (w.alloc (.cells #[ak bA,ah kg lA kN] 161)):=aF;have hbx:=aA.new w #[ak bA,ah kg lA kN] 161;have rC:=zh hbx;have HH0:=zh h0
 by_cases hz:z<0
 ·have hbt:bA=true:=by rw [hbz,decide_eq_true hz]
  subst hbt;rw [if_pos hz] at hsz;clear hz hlen hok hn hbz hv En hs hx NA h0 hbx
  by_cases hbig:n≤600
  ·rw [if_pos hbig];have e1:¬ (600:Int)<(n:Int)+1 - 1:=by omega
   go_enter Tryz.func209,Tryz.ntmps209
   go_wp2_with fail
   refine (HT.out _ HH0.out).mono ?_;rintro e w1 ⟨rfl,hb⟩;have c0:=(rC.out.later hb).cell;go_wp2_with fail
   go_ret2
   exact ⟨rfl,Bt HH0.out hb⟩
  ·rw [if_neg hbig];have e1:(600:Int)<(n:Int)+1 - 1:=by omega
   go_enter Tryz.func209,Tryz.ntmps209
   go_wp2_with fail
   refine (HT.out _ HH0.out).mono ?_;rintro e w1 ⟨rfl,hb⟩;have c0:=(rC.out.later hb).cell;go_wp2_with fail
   go_ret2
   exact ⟨rfl,Bt HH0.out hb⟩
 ·have hbt:bA=false:=by rw [hbz,decide_eq_false hz]
  subst hbt;rw [if_neg hz,fJ] at hsz;clear hz hlen hok hn hbz hv En hs hx NA h0 hbx
  by_cases hbig:n≤600
  ·rw [if_pos hbig];have e1:¬ (600:Int)<(n:Int):=by omega
   go_enter Tryz.func209,Tryz.ntmps209
   go_wp2_with fail
   refine (HT.out _ HH0.out).mono ?_;rintro e w1 ⟨rfl,hb⟩;have c0:=(rC.out.later hb).cell;go_wp2_with fail
   go_ret2
   exact ⟨rfl,Bt HH0.out hb⟩
  ·rw [if_neg hbig];have e1:(600:Int)<(n:Int):=by omega
   go_enter Tryz.func209,Tryz.ntmps209
   go_wp2_with fail
   refine (HT.out _ HH0.out).mono ?_;rintro e w1 ⟨rfl,hb⟩;have c0:=(rC.out.later hb).cell;go_wp2_with fail
   go_ret2
   exact ⟨rfl,Bt HH0.out hb⟩
theorem LQ {d:List UInt8} {neg:Bool} (h:d.length<1∨600<d.length):gP d neg=false:=by
 unfold gP
 rcases h with h|h
 ·have:d=[]:=List.length_eq_zero_iff.1 zo;subst this;rfl
 ·have:decide (d.length≤600)=false:=by simp;omega
  simp [this]
theorem GD {d:List UInt8} {neg:Bool} {b:UInt8} (h:b∈d) (hb:b.toNat<48∨57<b.toNat):gP d neg=false:=by
 cases hk:gP d neg with
 | false=>rfl
 | true=>have:=pY hk b h;omega
theorem Tz {d:List UInt8} {neg:Bool} (h1:1≤d.length) (h2:d.length≤600) (h:∀ b∈d,48≤b.toNat∧b.toNat≤57):gP d neg= !(d.head? == some 48&&(neg || decide (1<d.length))):=by
 unfold gP;have e1:decide (d≠[])=true:=by simp;intro h;subst h;simp at h1
 have e2:d.all (fun b=>decide (48≤b.toNat)&&decide (b.toNat≤57))=true:=by
  rw [dX];intro b hb;have:=h b hb;simp [this.1,this.2]
 rw [e1,e2,decide_eq_true h2];simp
theorem K8 (bs:List UInt8):(whole bs).isSome=gP (cut bs).1 (cut bs).2:=by
 unfold whole;cases gP (cut bs).1 (cut bs).2<;>rfl
theorem nU {s:ByteArray} {i f:Nat} (hf:f≤i) (hi:i<s.size):s[i]∈s.data.toList.drop f:=by
 have h:s.data.toList[i]? =some s[i]:=List.getElem?_eq_getElem (by exact hi);rw [List.mem_iff_getElem?];exact ⟨i - f,by rw [iX,show f+(i - f)=i by omega];exact h⟩
theorem q9 (s:ByteArray) (w:World) (hs:s.size≤4611686018427387904) :
  Calls Tryz.prog 205 #[O s] w (fun e w'=>e= aj (ak (whole s.data.toList).isSome)∧w=w'):=by
 rw [K8];have hsz:s.data.toList.length=s.size:=rfl
 by_cases h0:s.size=0
 ·have e:s.data.toList=[]:=List.length_eq_zero_iff.1 (by rw [hsz,h0]);rw [e,LQ (.inl (by unfold Dec.cut;simp))];have hs0:(s.size:Int)=0:=by omega
  clear hs hsz e;go_enter Tryz.func205,Tryz.ntmps205
  go_wp2
  go_ret
  exact ⟨rfl,rfl⟩
 ·have hs0:0<s.size:=by omega
  have hd0:s.data.toList[0]? =some s[0]:=List.getElem?_eq_getElem (by exact hs0);have hhd:s.data.toList.head? =some s[0]:=by rw [List.head?_eq_getElem?];exact hd0
  obtain ⟨d,Ed⟩:∃ d,(Dec.cut s.data.toList).1=d:=⟨_,rfl⟩;obtain ⟨ng,En⟩:∃ ng,(Dec.cut s.data.toList).2=ng:=⟨_,rfl⟩;rw [Ed,En]
  by_cases h45:s[0]=45
  ·have hC:d=s.data.toList.drop 1∧ng=true:=by
    unfold Dec.cut at Ed En;rw [if_pos (by rw [hhd,h45])] at Ed En;exact ⟨by rw [← Ed,List.drop_one],En.symm⟩
   obtain ⟨hd,Xk⟩:=hC;subst Xk
   have hq:((s[0].toNat:Int) == 45)=true:=by
    rw [h45];rfl
   have hdl:d.length=s.size - 1:=by rw [hd,List.length_drop,hsz]
   have HD:=zh hd;clear hd Ed En hhd hd0 h45
   by_cases hbad:s.size - 1<1∨600<s.size - 1
   ·rw [LQ (by rw [hdl];exact hbad)];have hb1:(s.size:Int) - 1<1∨(600:Int)<(s.size:Int) - 1:=by omega
    clear hsz hdl
    rcases hb1 with hb1|hb1
    ·go_enter Tryz.func205,Tryz.ntmps205
     go_wp2
     all_goals (go_ret;exact ⟨rfl,rfl⟩)
    ·have hb2:¬ (s.size:Int) - 1<1:=by omega
     go_enter Tryz.func205,Tryz.ntmps205
     go_wp2
     go_ret
     exact ⟨rfl,rfl⟩
   ·have hb1:¬ (s.size:Int) - 1<1:=by omega
    have hb2:¬ (600:Int)<(s.size:Int) - 1:=by omega
    have EO:=zh hdl;obtain ⟨R,ER⟩:∃ R,Hid (gP d true=R):=⟨_,zh rfl⟩;rw [ER.out];clear hsz hdl hbad;go_enter Tryz.func205,Tryz.ntmps205
    go_wp2
    go_loop [5] (fun iv=>∃ i:Nat,1≤i∧i≤s.size∧iv= Z I i∧Hid (∀ j (h:j<s.size),1≤j→j<i→48≤s[j].toNat∧s[j].toNat≤57)) (fun iv=>s.size - (intOf iv).toNat)
    case atStart=>exact ⟨1,aD _,by omega,rfl,zh fun j h h1 h2=>absurd h2 zo⟩
    case round =>
     obtain ⟨i,hi1,hi2,rfl,HK⟩:=hrel
     by_cases his:i<s.size
     ·by_cases hlo:s[i].toNat<48
      ·have q1:(s[i].toNat:Int)<48:=by omega
       have HR:Hid (R=false):=zh (by rw [← ER.out];exact GD (by rw [HD.out];exact nU hi1 his) (.inl hlo));clear hlo
       go_wp2
       go_ret
       exact ⟨by rw [HR.out];rfl,rfl⟩
      ·by_cases hhi:57<s[i].toNat
       ·have q1:¬ (s[i].toNat:Int)<48:=by omega
        have q2:(57:Int)<(s[i].toNat:Int):=by omega
        have HR:Hid (R=false):=zh (by rw [← ER.out];exact GD (by rw [HD.out];exact nU hi1 his) (.inr hhi));clear hlo hhi
        go_wp2
        go_ret
        exact ⟨by rw [HR.out];rfl,rfl⟩
       ·have q1:¬ (s[i].toNat:Int)<48:=by omega
        have q2:¬ (57:Int)<(s[i].toNat:Int):=by omega
        have HK2:Hid (∀ j (h:j<s.size),1≤j→j<i+1→48≤s[j].toNat∧s[j].toNat≤57):=zh fun j h h1 h2=>by
         by_cases hji:j<i
         ·exact HK.out j h h1 hji
         ·obtain rfl:j=i:=by omega
          omega
        clear hlo hhi
        go_wp2
        go_round
        case rel=>exact ⟨i+1,by omega,by omega,by go_num,HK2⟩
        case measure=>exact zM
     ·have hie:i=s.size:=by omega
      subst hie;have hF:1<s.size:=by omega
      have hall:gP d true= !(d.head? == some 48&&(true || decide (1<d.length))):=Tz (by rw [EO.out];omega) (by rw [EO.out];omega) fun b hb=>by
       rw [HD.out] at hb;obtain ⟨j,hj,rfl⟩:=List.getElem_of_mem hb;rw [List.length_drop] at hj
       have hj2:j+1<s.size:=by
        have:s.data.toList.length=s.size:=rfl;omega
       have:=HK.out (j+1) hj2 zo zo;rw [List.getElem_drop]
       have e:s.data.toList[1+j]'(by have:s.data.toList.length=s.size:=rfl;omega)=s[j+1]:=by
        simp only [iF 1 j];rfl
       rw [e];exact this
      have hh:d.head? =some s[1]:=by
       rw [HD.out,List.head?_eq_getElem?, iX];exact List.getElem?_eq_getElem (by exact hF)
      rw [hh,EO.out,ER.out] at hall;clear hh HK
      by_cases h48:s[1]=48
      ·have q3:((s[1].toNat:Int) == 48)=true:=by rw [h48];rfl
       have q4:((s[1].toNat:Int) != 48)=false:=by rw [h48];rfl
       have q5:((s.size:Int) == 1)=false:=by simp;omega
       have HR:Hid (R=false):=zh (by rw [hall,h48];rfl);clear h48 hall
       go_wp2
       go_ret
       exact ⟨by rw [HR.out];rfl,rfl⟩
      ·have q3:((s[1].toNat:Int) == 48)=false:=by
        rw [beq_eq_false_iff_ne];intro h
        exact h48 (UInt8.toNat_inj.1 (by
         have:s[1].toNat=48:=by omega
         rw [this];rfl))
       have q4:((s[1].toNat:Int) != 48)=true:=by rw [bne,q3];rfl
       have q5:(some s[1] == some (48:UInt8))=false:=by
        rw [beq_eq_false_iff_ne];intro h;exact h48 (Option.some.inj h)
       have HR:Hid (R=true):=zh (by rw [hall,q5];rfl);clear h48 q5 hall
       go_wp2
       go_ret
       exact ⟨by rw [HR.out];rfl,rfl⟩
  ·have hC:d=s.data.toList.drop 0∧ng=false:=by
    unfold Dec.cut at Ed En;rw [if_neg (by rw [hhd];intro h;exact h45 (Option.some.inj h))] at Ed En;exact ⟨by rw [← Ed];rfl,En.symm⟩
   obtain ⟨hd,Xk⟩:=hC;subst Xk
   have hq:((s[0].toNat:Int) == 45)=false:=by
    rw [beq_eq_false_iff_ne];intro h
    exact h45 (UInt8.toNat_inj.1 (by
     have:s[0].toNat=45:=by omega
     rw [this];rfl))
   have hdl:d.length=s.size - 0:=by rw [hd,List.length_drop,hsz]
   have HD:=zh hd;clear hd Ed En hhd hd0 h45
   by_cases hbad:s.size - 0<1∨600<s.size - 0
   ·rw [LQ (by rw [hdl];exact hbad)];have hb1:(s.size:Int) - 0<1∨(600:Int)<(s.size:Int) - 0:=by omega
    clear hsz hdl
    rcases hb1 with hb1|hb1
    ·go_enter Tryz.func205,Tryz.ntmps205
     go_wp2
     all_goals (go_ret;exact ⟨rfl,rfl⟩)
    ·have hb2:¬ (s.size:Int) - 0<1:=by omega
     go_enter Tryz.func205,Tryz.ntmps205
     go_wp2
     go_ret
     exact ⟨rfl,rfl⟩
   ·have hb1:¬ (s.size:Int) - 0<1:=by omega
    have hb2:¬ (600:Int)<(s.size:Int) - 0:=by omega
    have EO:=zh hdl;obtain ⟨R,ER⟩:∃ R,Hid (gP d false=R):=⟨_,zh rfl⟩;rw [ER.out];clear hsz hdl hbad;go_enter Tryz.func205,Tryz.ntmps205
    go_wp2
    go_loop [5] (fun iv=>∃ i:Nat,0≤i∧i≤s.size∧iv= Z I i∧Hid (∀ j (h:j<s.size),0≤j→j<i→48≤s[j].toNat∧s[j].toNat≤57)) (fun iv=>s.size - (intOf iv).toNat)
    case atStart=>exact ⟨0,aD _,by omega,rfl,zh fun j h h1 h2=>absurd h2 zo⟩
    case round =>
     obtain ⟨i,hi1,hi2,rfl,HK⟩:=hrel
     by_cases his:i<s.size
     ·by_cases hlo:s[i].toNat<48
      ·have q1:(s[i].toNat:Int)<48:=by omega
       have HR:Hid (R=false):=zh (by rw [← ER.out];exact GD (by rw [HD.out];exact nU hi1 his) (.inl hlo));clear hlo
       go_wp2
       go_ret
       exact ⟨by rw [HR.out];rfl,rfl⟩
      ·by_cases hhi:57<s[i].toNat
       ·have q1:¬ (s[i].toNat:Int)<48:=by omega
        have q2:(57:Int)<(s[i].toNat:Int):=by omega
        have HR:Hid (R=false):=zh (by rw [← ER.out];exact GD (by rw [HD.out];exact nU hi1 his) (.inr hhi));clear hlo hhi
        go_wp2
        go_ret
        exact ⟨by rw [HR.out];rfl,rfl⟩
       ·have q1:¬ (s[i].toNat:Int)<48:=by omega
        have q2:¬ (57:Int)<(s[i].toNat:Int):=by omega
        have HK2:Hid (∀ j (h:j<s.size),0≤j→j<i+1→48≤s[j].toNat∧s[j].toNat≤57):=zh fun j h h1 h2=>by
         by_cases hji:j<i
         ·exact HK.out j h h1 hji
         ·obtain rfl:j=i:=by omega
          omega
        clear hlo hhi
        go_wp2
        go_round
        case rel=>exact ⟨i+1,by omega,by omega,by go_num,HK2⟩
        case measure=>exact zM
     ·have hie:i=s.size:=by omega
      subst hie;have hF:0<s.size:=by omega
      have hall:gP d false= !(d.head? == some 48&&(false || decide (1<d.length))):=Tz (by rw [EO.out];omega) (by rw [EO.out];omega) fun b hb=>by
       rw [HD.out] at hb;obtain ⟨j,hj,rfl⟩:=List.getElem_of_mem hb;rw [List.length_drop] at hj
       have hj2:j+0<s.size:=by
        have:s.data.toList.length=s.size:=rfl;omega
       have:=HK.out (j+0) hj2 zo zo;rw [List.getElem_drop]
       have e:s.data.toList[0+j]'(by have:s.data.toList.length=s.size:=rfl;omega)=s[j+0]:=by
        simp only [iF 0 j];rfl
       rw [e];exact this
      have hh:d.head? =some s[0]:=by
       rw [HD.out,List.head?_eq_getElem?, iX];exact List.getElem?_eq_getElem (by exact hF)
      rw [hh,EO.out,ER.out] at hall;clear hh HK
      by_cases h48:s[0]=48
      ·have q3:((s[0].toNat:Int) == 48)=true:=by rw [h48];rfl
       have q4:((s[0].toNat:Int) != 48)=false:=by rw [h48];rfl
       by_cases h1:s.size=1
       ·have q5:((s.size:Int) == 1)=true:=by simp;omega
        have HR:Hid (R=true):=zh (by rw [hall,h48,h1];rfl);clear h48 hall
        go_wp2
        go_ret
        exact ⟨by rw [HR.out];rfl,rfl⟩
       ·have q5:((s.size:Int) == 1)=false:=by simp;omega
        have q6:decide (1<s.size - 0)=true:=by simp;omega
        have HR:Hid (R=false):=zh (by rw [hall,h48,q6];rfl);clear h48 q6 hall
        go_wp2
        go_ret
        exact ⟨by rw [HR.out];rfl,rfl⟩
      ·have q3:((s[0].toNat:Int) == 48)=false:=by
        rw [beq_eq_false_iff_ne];intro h
        exact h48 (UInt8.toNat_inj.1 (by
         have:s[0].toNat=48:=by omega
         rw [this];rfl))
       have q4:((s[0].toNat:Int) != 48)=true:=by rw [bne,q3];rfl
       have q5:(some s[0] == some (48:UInt8))=false:=by
        rw [beq_eq_false_iff_ne];intro h;exact h48 (Option.some.inj h)
       have HR:Hid (R=true):=zh (by rw [hall,q5];rfl);clear h48 q5 hall
       go_wp2
       go_ret
       exact ⟨by rw [HR.out];rfl,rfl⟩
theorem mq {bs:List UInt8} {f:Nat} (hd:qL (bs.drop f)) {st i:Nat} (hf:f≤st) (h4:i - st≤4):num ((bs.take i).drop st)<10000:=by
 have h1:=TH ((bs.take i).drop st) (fun b hb=>by
  refine hd b ?_
  have h:b∈(bs.take i).drop f:=by
   obtain ⟨j,hj,rfl⟩:=List.getElem_of_mem hb;rw [List.getElem_drop];have:(bs.take i).drop st=((bs.take i).drop f).drop (st - f):=by rw [List.drop_drop,show f+(st - f)=st by omega]
   rw [List.mem_iff_getElem?];refine ⟨st - f+j,?_⟩;rw [iX,show f+(st - f+j)=st+j by omega];exact List.getElem?_eq_getElem _
  rw [List.drop_take] at h;exact jk h)
 have h2:(10:Nat)^((bs.take i).drop st).length≤10^4:=bI zo (by rw [List.length_drop,List.length_take];omega);omega
theorem oJ {bs:List UInt8} {st i:Nat} {x:UInt8} (hst:st≤i) (hb:48≤x.toNat∧x.toNat≤57) (hx:bs[i]? =some x) :
  ((num ((bs.take i).drop st):Nat):Int)*10+((x.toNat:Int) - 48)=(num ((bs.take (i+1)).drop st):Nat):=by
 rw [tJ hst hx,pz];omega
theorem FW (s:ByteArray) (z:Int) (w:World) (hz:whole s.data.toList=some z) :
  Calls Tryz.prog 206 #[O s] w (wV w z):=by
 obtain ⟨i0,hi,hz0,hz1,hz2⟩:=info_parts xX;obtain ⟨bs,hbs⟩:∃ bs,s.data.toList=bs:=⟨_,rfl⟩;rw [hbs] at hz;have hn:bs.length=s.size:=by rw [← hbs];rfl
 have hok:gP (Dec.cut bs).1 (Dec.cut bs).2=true:=by
  unfold whole at hz;split at hz
  ·assumption
  ·cases hz
 have hzz:Dec.mk (num (Dec.cut bs).1) (Dec.cut bs).2=z:=by
  unfold whole at hz;rw [if_pos hok] at hz;exact Option.some.inj hz
 have hsz:s.size≤601:=by
  have h1:(Dec.cut bs).1.length≤600:=by
   unfold gP at hok;simp only [aK,decide_eq_true_eq] at hok;exact hok.1.1.2
  have h2:bs.length≤(Dec.cut bs).1.length+1:=by
   unfold Dec.cut;split
   ·simp;omega
   ·simp
  omega
 have hs0:0<s.size:=by
  rcases aV s.size with h|h
  ·have:bs=[]:=List.length_eq_zero_iff.1 zo;subst this;exact absurd hok (by simp [Dec.cut,gP])
  ·exact h
 have hhd:bs.head? =some s[0]:=by
  rw [List.head?_eq_getElem?, ← hbs];exact List.getElem?_eq_getElem (by exact hs0)
 obtain ⟨d,Ed⟩:∃ d,(Dec.cut bs).1=d:=⟨_,rfl⟩;obtain ⟨ng,En⟩:∃ ng,(Dec.cut bs).2=ng:=⟨_,rfl⟩;rw [Ed,En] at hok hzz;have HZ:Hid (iV (num d) ng=z):=zh hzz
 have hC:(d=bs.drop 1∧ng=true)∨(d=bs.drop 0∧ng=false):=by
  unfold Dec.cut at Ed En
  by_cases h:bs.head? =some 45
  ·rw [if_pos h] at Ed En;exact .inl ⟨by rw [← Ed,List.drop_one],En.symm⟩
  ·rw [if_neg h] at Ed En;exact .inr ⟨by rw [← Ed];rfl,En.symm⟩
 have h45:(ng=true→s[0]=45)∧(s[0]=45→ng=true):=by
  unfold Dec.cut at En
  constructor
  ·intro h
   by_cases h':bs.head? =some 45
   ·rw [hhd] at h';exact Option.some.inj h'
   ·rw [if_neg h'] at En;rw [← En] at h;cases h
  ·intro h;rw [if_pos (by rw [hhd,h])] at En;exact En.symm
 have h0:Below w.heap.size w (w.alloc (.cells #[ak false,ah none 0 0] 161)):=aF;have hx:=aA.new w #[ak false,ah none 0 0] 161;have Py:=zh hbs;have HN:=zh hn;clear hz hzz hhd Ed En hbs hn
 rcases hC with hC|hC
 ·obtain ⟨hd,Xk⟩:=hC;subst Xk;have HD:=zh hd;have hds:qL (bs.drop 1):=by rw [← hd];exact pY hok
  have hle:1<s.size:=by
   have h1:d≠[]:=fun e=>by rw [e] at hok;exact absurd hok (by simp [gP])
   have h2:0<d.length:=List.length_pos_iff.2 h1;rw [hd,List.length_drop,HN.out] at h2;omega
  have hq:((s[0].toNat:Int) == 45)=true:=by
   have:s[0]=45:=by have:=h45.1 rfl;exact this
   rw [this];rfl
  have zH:=zh hds;clear hd hds hok h45;go_enter Tryz.func206,Tryz.ntmps206
  go_wp2_with fail
  go_loopw [4,5,6,7] (fun dv ev _ _ wr=>∃ (q:Int) (ls:List Nat),ev= Z I q∧ -4≤q∧q≤s.size∧Hid ((1:Int)<q→(s.size:Int) - q=4*ls.length)∧Hid (ls.length≤s.size)∧Hid (fZ 10000 ls)∧Hid (val 10000 ls=num (bs.drop (max q 1).toNat))∧wr.ownsRow (w.heap.size+1) 3 1 dv ls.length (ints ls) ∧
    Below (w.heap.size+1) (w.alloc (.cells #[ak false,ah none 0 0] 161)) wr) (fun _ ev _ _ _=>(intOf ev+4).toNat)
  case atStart=>exact ⟨s.size,[],rfl,by omega,by omega,zh (by intro h;simp),zh zi,zh fZ.nil,zh (by rw [show (max (s.size:Int) 1).toNat=bs.length by rw [HN.out];omega,List.drop_length];simp [val,num]),World.ownsRow_nil _ _ _ _,Below.refl _ _⟩
  case round =>
   obtain ⟨q,ls,rfl,hq4,hqs,HE,HLL,EO,HV,hown,hb⟩:=hrel
   by_cases hqf:q≤1
   ·have hv:val 10000 ls=num (bs.drop 1):=by rw [HV.out,show (max q 1).toNat=1 by omega]
    have hz:iV (val 10000 ls) true=z:=by rw [hv,← HD.out];exact HZ.out
    have h1:Below w.heap.size w wr:=⟨hb.os,hb.tape,hb.output,ay zi hb.size,fun i hi=>(hb.block i zo).trans (h0.block i hi)⟩;have Ug:=hx.later (w':=wr) ⟨hb.os,hb.tape,hb.output,by have:=hb.size;simpa using this,fun i hi=>hb.block i (by simpa using hi)⟩;have cx:=Ug.cell;have fx:=Ug.free;have hg:=jK true u4 ls wr (Gs.ig hown) EO.out;rw [hz] at hg;have HG:=zh hg;obtain ⟨pa,ca,rfl, -⟩:=(Gs.ig hown).read;clear hv hz hg hown HE HV hb;go_wp2_with fail
    refine HG.out.mono ?_;rintro e w' ⟨v',rfl,hb,hv⟩;obtain ⟨bNV,ZJ,lNV,ae2,rfl⟩:=hv.agg;have NV:=zh hv;clear hv;have hy:=Ug.later hb;clear cx fx;have cy:=hy.cell;have fy:=hy.free;go_wp2_with fail
    refine gF rfl rfl bf Tryz.underlying161 rfl zk ?_;exact ⟨_,rfl,aF,NV.out.set2 hy zd _ _ _ _⟩
   ·obtain ⟨e,rfl⟩:∃ e:Nat,q=(e:Int):=⟨q.toNat,by omega⟩;have hef:1<e:=by omega
    have aA8:(1:Int)<(e:Int):=by omega
    rcases Int.lt_or_le ((e:Int) - 4) 1 with h4|h4
    ·have hst':(e:Int) - 4<1:=by omega
     have Mq:max ((e:Int) - 4) 1=1:=by omega
     have hgl:=mq (bs:=bs) (f:=1) zH.out (aD _) (i:=e) zo;have HE2:Hid ((s.size:Int) - e=4*ls.length):=zh (HE.out zo);clear HE;go_wp2_with fail
     obtain ⟨wo,rfl⟩:∃ wo:World,wo=wr:=⟨_,rfl⟩
     go_loopw [6,7] (fun v6 v7 wi=>∃ i:Nat,v7= Z I (i:Int)∧1≤i∧i≤e∧Hid (v6= Z I (num ((bs.take i).drop 1):Nat))∧wo=wi) (fun _ v7 _=>e - (intOf v7).toNat)
     case atStart=>exact ⟨1,rfl,aD _,by omega,zh (by rw [List.drop_eq_nil_of_le (by rw [List.length_take];omega)];rfl),rfl⟩
     case round =>
      obtain ⟨i,rfl,hi1,hi2,H6,rfl⟩:=hrel;have e6:=H6.out;subst e6
      rcases aO i e with hie|hie
      ·have his:i<s.size:=by omega
       have hx2:bs[i]? =some s[i]:=by rw [← Py.out];exact List.getElem?_eq_getElem (by exact his)
       have hdi:=zH.out s[i] (by rw [← Py.out];exact nU zo his);have HS:=zh (oJ (bs:=bs) (st:=1) (x:=s[i]) hi1 hdi hx2);have hgb:=mq (bs:=bs) (f:=1) zH.out (aD _) (i:=i) zo;generalize num ((bs.take i).drop 1)=g at *;go_wp2_with fail
       exact ⟨⟨i+1,rfl,by omega,by omega,zh (by rw [← HS.out]),trivial⟩,by simp only [intOf];omega⟩
      ·have hie:i=e:=by omega
       subst hie;have HG:=zh (oN (bs:=bs) (s:=1) (e:=i) zo (by have:=HN.out;omega));have hlen:bs.length - i=4*ls.length:=by have:=HE2.out;have:=HN.out;omega
       have hmx:(max (i:Int) 1).toNat=i:=by omega
       have hv0:=HV.out;rw [hmx] at hv0;rw [hlen,Nat.pow_mul,← hv0] at HG;generalize num ((bs.take i).drop 1)=gv at *;have hll:ls.length+1≤s.size:=by have:=HE2.out;omega
       have ec:ints ls++[Z I (gv:Int)]=ints (ls++[gv]):=by unfold ints;simp only [List.map_append,bL,gY]
       have EC:=zh ec;clear H6 ec;go_wp2_with (at_builtin;refine wpList_append_own _ rfl (.tmp 35) (.tmp 37) 159 rfl (w.heap.size+1) 3 i0 (Z I 0) 1 8 Tryz.underlying159 hi hz0 hz1 hz2 rfl zd _ _ _ rfl (hown.alloc _) ⟨wo.heap.size,0,none⟩ 1 1 [Z I (gv:Int)] rfl rfl (by intro t u ht;match t,ht with|0,ht=>simp at ht;subst ht;simp [Addr.add]) (by intro u hu;simp at hu;subst hu;rfl) (by unfold maxLen;omega) zo (by have:=hb.size;simp at*; omega) ?_)
       intro v' w1 hown1 hgrow1 _;rw [EC.out] at hown1;have hb3:Below (w.heap.size+1) (w.alloc (.cells #[ak false,ah none 0 0] 161)) w1:=(hb.alloc (by have:=hb.size;simpa using this) _).grown hgrow1 (by simp;have:=hb.size;simp at*; omega) (fun k hk=>(hown.lt k hk).1)
       have Bj:Hid (val 10000 (ls++[gv])=num (bs.drop (max ((i:Int) - 4) 1).toNat)):=by
        unfold Hid;rw [show (max ((i:Int) - 4) 1).toNat=1 by omega,iY,HG.out,iF,aL]
       clear hown hgrow1 hst' Mq;go_wp2_with fail
       refine ⟨⟨(i:Int) - 4,ls++[gv],rfl,by omega,by omega,zh (fun h=>?_),zh (by rw [List.length_append];exact hll),zh (EO.out.snoc hgl),Bj,by rw [List.length_append];exact hown1,hb3⟩,?_⟩
       ·have:=HE2.out;rw [List.length_append,List.length_singleton];omega
       ·simp only [intOf];omega
    ·obtain ⟨f,rfl⟩:∃ f,e=f+4:=⟨e - 4,by omega⟩;have s1:1≤f:=by omega
     have hst':¬ (f:Int)<1:=by omega
     have Mq:max (f:Int) 1=(f:Int):=by omega
     have hgl:=mq (bs:=bs) (f:=1) zH.out s1 (i:=f+4) zo;have HE2:Hid ((s.size:Int) - ((f+4:Nat):Int)=4*ls.length):=zh (HE.out zo);clear HE;go_wp2_with fail
     obtain ⟨wo,rfl⟩:∃ wo:World,wo=wr:=⟨_,rfl⟩
     go_loopw [6,7] (fun v6 v7 wi=>∃ i:Nat,v7= Z I (i:Int)∧f≤i∧i≤f+4∧Hid (v6= Z I (num ((bs.take i).drop f):Nat))∧wo=wi) (fun _ v7 _=>f+4 - (intOf v7).toNat)
     case atStart=>exact ⟨f,rfl,aD _,by omega,zh (by rw [List.drop_eq_nil_of_le (by rw [List.length_take];omega)];rfl),rfl⟩
     case round =>
      obtain ⟨i,rfl,hi1,hi2,H6,rfl⟩:=hrel;have e6:=H6.out;subst e6
      rcases aO i (f+4) with hie|hie
      ·have his:i<s.size:=by omega
       have hx2:bs[i]? =some s[i]:=by rw [← Py.out];exact List.getElem?_eq_getElem (by exact his)
       have hdi:=zH.out s[i] (by rw [← Py.out];exact nU zo his);have HS:=zh (oJ (bs:=bs) (st:=f) (x:=s[i]) hi1 hdi hx2);have hgb:=mq (bs:=bs) (f:=1) zH.out s1 (i:=i) zo;generalize num ((bs.take i).drop f)=g at *;go_wp2_with fail
       exact ⟨⟨i+1,rfl,by omega,by omega,zh (by rw [← HS.out]),trivial⟩,by simp only [intOf];omega⟩
      ·obtain rfl:i=f+4:=by omega
       have HG:=zh (oN (bs:=bs) (s:=f) (e:=f+4) zo (by have:=HN.out;omega));have hlen:bs.length - (f+4)=4*ls.length:=by have:=HE2.out;have:=HN.out;omega
       have hmx:(max ((f+4:Nat):Int) 1).toNat=f+4:=by omega
       have hv0:=HV.out;rw [hmx] at hv0;rw [hlen,Nat.pow_mul,← hv0] at HG;generalize num ((bs.take (f+4)).drop f)=gv at *;have hll:ls.length+1≤s.size:=by have:=HE2.out;omega
       have ec:ints ls++[Z I (gv:Int)]=ints (ls++[gv]):=by unfold ints;simp only [List.map_append,bL,gY]
       have EC:=zh ec;clear H6 ec;go_wp2_with (at_builtin;refine wpList_append_own _ rfl (.tmp 35) (.tmp 37) 159 rfl (w.heap.size+1) 3 i0 (Z I 0) 1 8 Tryz.underlying159 hi hz0 hz1 hz2 rfl zd _ _ _ rfl (hown.alloc _) ⟨wo.heap.size,0,none⟩ 1 1 [Z I (gv:Int)] rfl rfl (by intro t u ht;match t,ht with|0,ht=>simp at ht;subst ht;simp [Addr.add]) (by intro u hu;simp at hu;subst hu;rfl) (by unfold maxLen;omega) zo (by have:=hb.size;simp at*; omega) ?_)
       intro v' w1 hown1 hgrow1 _;rw [EC.out] at hown1;have hb3:Below (w.heap.size+1) (w.alloc (.cells #[ak false,ah none 0 0] 161)) w1:=(hb.alloc (by have:=hb.size;simpa using this) _).grown hgrow1 (by simp;have:=hb.size;simp at*; omega) (fun k hk=>(hown.lt k hk).1)
       have Bj:Hid (val 10000 (ls++[gv])=num (bs.drop (max (f:Int) 1).toNat)):=by
        unfold Hid;rw [show (max (f:Int) 1).toNat=f by omega,iY,HG.out,iF,aL]
       clear hown hgrow1 hst' Mq;go_wp2_with fail
       refine ⟨⟨(f:Int),ls++[gv],rfl,by omega,by omega,zh (fun h=>?_),zh (by rw [List.length_append];exact hll),zh (EO.out.snoc hgl),Bj,by rw [List.length_append];exact hown1,hb3⟩,?_⟩
       ·have:=HE2.out;rw [List.length_append,List.length_singleton];omega
       ·simp only [intOf];omega
 ·obtain ⟨hd,Xk⟩:=hC;subst Xk;have HD:=zh hd;have hds:qL (bs.drop 0):=by rw [← hd];exact pY hok
  have hle:0<s.size:=by
   have h1:d≠[]:=fun e=>by rw [e] at hok;exact absurd hok (by simp [gP])
   have h2:0<d.length:=List.length_pos_iff.2 h1;rw [hd,List.length_drop,HN.out] at h2;omega
  have hq:((s[0].toNat:Int) == 45)=false:=by
   have h:s[0]≠45:=fun e=>by have:=h45.2 e;cases this
   rw [beq_eq_false_iff_ne];intro h2
   exact h (UInt8.toNat_inj.1 (by
    have:s[0].toNat=45:=by omega
    rw [this];rfl))
  have zH:=zh hds;clear hd hds hok h45;go_enter Tryz.func206,Tryz.ntmps206
  go_wp2_with fail
  go_loopw [4,5,6,7] (fun dv ev _ _ wr=>∃ (q:Int) (ls:List Nat),ev= Z I q∧ -4≤q∧q≤s.size∧Hid ((0:Int)<q→(s.size:Int) - q=4*ls.length)∧Hid (ls.length≤s.size)∧Hid (fZ 10000 ls)∧Hid (val 10000 ls=num (bs.drop (max q 0).toNat))∧wr.ownsRow (w.heap.size+1) 3 1 dv ls.length (ints ls) ∧
    Below (w.heap.size+1) (w.alloc (.cells #[ak false,ah none 0 0] 161)) wr) (fun _ ev _ _ _=>(intOf ev+4).toNat)
  case atStart=>exact ⟨s.size,[],rfl,by omega,by omega,zh (by intro h;simp),zh zi,zh fZ.nil,zh (by rw [show (max (s.size:Int) 0).toNat=bs.length by rw [HN.out];omega,List.drop_length];simp [val,num]),World.ownsRow_nil _ _ _ _,Below.refl _ _⟩
  case round =>
   obtain ⟨q,ls,rfl,hq4,hqs,HE,HLL,EO,HV,hown,hb⟩:=hrel
   by_cases hqf:q≤0
   ·have hv:val 10000 ls=num (bs.drop 0):=by rw [HV.out,show (max q 0).toNat=0 by omega]
    have hz:iV (val 10000 ls) false=z:=by rw [hv,← HD.out];exact HZ.out
    have h1:Below w.heap.size w wr:=⟨hb.os,hb.tape,hb.output,ay zi hb.size,fun i hi=>(hb.block i zo).trans (h0.block i hi)⟩;have Ug:=hx.later (w':=wr) ⟨hb.os,hb.tape,hb.output,by have:=hb.size;simpa using this,fun i hi=>hb.block i (by simpa using hi)⟩;have cx:=Ug.cell;have fx:=Ug.free;have hg:=jK false u4 ls wr (Gs.ig hown) EO.out;rw [hz] at hg;have HG:=zh hg;obtain ⟨pa,ca,rfl, -⟩:=(Gs.ig hown).read;clear hv hz hg hown HE HV hb;go_wp2_with fail
    refine HG.out.mono ?_;rintro e w' ⟨v',rfl,hb,hv⟩;obtain ⟨bNV,ZJ,lNV,ae2,rfl⟩:=hv.agg;have NV:=zh hv;clear hv;have hy:=Ug.later hb;clear cx fx;have cy:=hy.cell;have fy:=hy.free;go_wp2_with fail
    refine gF rfl rfl bf Tryz.underlying161 rfl zk ?_;exact ⟨_,rfl,aF,NV.out.set2 hy zd _ _ _ _⟩
   ·obtain ⟨e,rfl⟩:∃ e:Nat,q=(e:Int):=⟨q.toNat,by omega⟩;have hef:0<e:=by omega
    have aA8:(0:Int)<(e:Int):=by omega
    rcases Int.lt_or_le ((e:Int) - 4) 0 with h4|h4
    ·have hst':(e:Int) - 4<0:=by omega
     have Mq:max ((e:Int) - 4) 0=0:=by omega
     have hgl:=mq (bs:=bs) (f:=0) zH.out (aD _) (i:=e) zo;have HE2:Hid ((s.size:Int) - e=4*ls.length):=zh (HE.out zo);clear HE;go_wp2_with fail
     obtain ⟨wo,rfl⟩:∃ wo:World,wo=wr:=⟨_,rfl⟩
     go_loopw [6,7] (fun v6 v7 wi=>∃ i:Nat,v7= Z I (i:Int)∧0≤i∧i≤e∧Hid (v6= Z I (num ((bs.take i).drop 0):Nat))∧wo=wi) (fun _ v7 _=>e - (intOf v7).toNat)
     case atStart=>exact ⟨0,rfl,aD _,by omega,zh (by rw [List.drop_eq_nil_of_le (by rw [List.length_take];omega)];rfl),rfl⟩
     case round =>
      obtain ⟨i,rfl,hi1,hi2,H6,rfl⟩:=hrel;have e6:=H6.out;subst e6
      rcases aO i e with hie|hie
      ·have his:i<s.size:=by omega
       have hx2:bs[i]? =some s[i]:=by rw [← Py.out];exact List.getElem?_eq_getElem (by exact his)
       have hdi:=zH.out s[i] (by rw [← Py.out];exact nU zo his);have HS:=zh (oJ (bs:=bs) (st:=0) (x:=s[i]) hi1 hdi hx2);have hgb:=mq (bs:=bs) (f:=0) zH.out (aD _) (i:=i) zo;generalize num ((bs.take i).drop 0)=g at *;go_wp2_with fail
       exact ⟨⟨i+1,rfl,by omega,by omega,zh (by rw [← HS.out]),trivial⟩,by simp only [intOf];omega⟩
      ·have hie:i=e:=by omega
       subst hie;have HG:=zh (oN (bs:=bs) (s:=0) (e:=i) zo (by have:=HN.out;omega));have hlen:bs.length - i=4*ls.length:=by have:=HE2.out;have:=HN.out;omega
       have hmx:(max (i:Int) 0).toNat=i:=by omega
       have hv0:=HV.out;rw [hmx] at hv0;rw [hlen,Nat.pow_mul,← hv0] at HG;generalize num ((bs.take i).drop 0)=gv at *;have hll:ls.length+1≤s.size:=by have:=HE2.out;omega
       have ec:ints ls++[Z I (gv:Int)]=ints (ls++[gv]):=by unfold ints;simp only [List.map_append,bL,gY]
       have EC:=zh ec;clear H6 ec;go_wp2_with (at_builtin;refine wpList_append_own _ rfl (.tmp 35) (.tmp 37) 159 rfl (w.heap.size+1) 3 i0 (Z I 0) 1 8 Tryz.underlying159 hi hz0 hz1 hz2 rfl zd _ _ _ rfl (hown.alloc _) ⟨wo.heap.size,0,none⟩ 1 1 [Z I (gv:Int)] rfl rfl (by intro t u ht;match t,ht with|0,ht=>simp at ht;subst ht;simp [Addr.add]) (by intro u hu;simp at hu;subst hu;rfl) (by unfold maxLen;omega) zo (by have:=hb.size;simp at*; omega) ?_)
       intro v' w1 hown1 hgrow1 _;rw [EC.out] at hown1;have hb3:Below (w.heap.size+1) (w.alloc (.cells #[ak false,ah none 0 0] 161)) w1:=(hb.alloc (by have:=hb.size;simpa using this) _).grown hgrow1 (by simp;have:=hb.size;simp at*; omega) (fun k hk=>(hown.lt k hk).1)
       have Bj:Hid (val 10000 (ls++[gv])=num (bs.drop (max ((i:Int) - 4) 0).toNat)):=by
        unfold Hid;rw [show (max ((i:Int) - 4) 0).toNat=0 by omega,iY,HG.out,iF,aL]
       clear hown hgrow1 hst' Mq;go_wp2_with fail
       refine ⟨⟨(i:Int) - 4,ls++[gv],rfl,by omega,by omega,zh (fun h=>?_),zh (by rw [List.length_append];exact hll),zh (EO.out.snoc hgl),Bj,by rw [List.length_append];exact hown1,hb3⟩,?_⟩
       ·have:=HE2.out;rw [List.length_append,List.length_singleton];omega
       ·simp only [intOf];omega
    ·obtain ⟨f,rfl⟩:∃ f,e=f+4:=⟨e - 4,by omega⟩;have s1:0≤f:=by omega
     have hst':¬ (f:Int)<0:=by omega
     have Mq:max (f:Int) 0=(f:Int):=by omega
     have hgl:=mq (bs:=bs) (f:=0) zH.out s1 (i:=f+4) zo;have HE2:Hid ((s.size:Int) - ((f+4:Nat):Int)=4*ls.length):=zh (HE.out zo);clear HE;go_wp2_with fail
     obtain ⟨wo,rfl⟩:∃ wo:World,wo=wr:=⟨_,rfl⟩
     go_loopw [6,7] (fun v6 v7 wi=>∃ i:Nat,v7= Z I (i:Int)∧f≤i∧i≤f+4∧Hid (v6= Z I (num ((bs.take i).drop f):Nat))∧wo=wi) (fun _ v7 _=>f+4 - (intOf v7).toNat)
     case atStart=>exact ⟨f,rfl,aD _,by omega,zh (by rw [List.drop_eq_nil_of_le (by rw [List.length_take];omega)];rfl),rfl⟩
     case round =>
      obtain ⟨i,rfl,hi1,hi2,H6,rfl⟩:=hrel;have e6:=H6.out;subst e6
      rcases aO i (f+4) with hie|hie
      ·have his:i<s.size:=by omega
       have hx2:bs[i]? =some s[i]:=by rw [← Py.out];exact List.getElem?_eq_getElem (by exact his)
       have hdi:=zH.out s[i] (by rw [← Py.out];exact nU zo his);have HS:=zh (oJ (bs:=bs) (st:=f) (x:=s[i]) hi1 hdi hx2);have hgb:=mq (bs:=bs) (f:=0) zH.out s1 (i:=i) zo;generalize num ((bs.take i).drop f)=g at *;go_wp2_with fail
       exact ⟨⟨i+1,rfl,by omega,by omega,zh (by rw [← HS.out]),trivial⟩,by simp only [intOf];omega⟩
      ·obtain rfl:i=f+4:=by omega
       have HG:=zh (oN (bs:=bs) (s:=f) (e:=f+4) zo (by have:=HN.out;omega));have hlen:bs.length - (f+4)=4*ls.length:=by have:=HE2.out;have:=HN.out;omega
       have hmx:(max ((f+4:Nat):Int) 0).toNat=f+4:=by omega
       have hv0:=HV.out;rw [hmx] at hv0;rw [hlen,Nat.pow_mul,← hv0] at HG;generalize num ((bs.take (f+4)).drop f)=gv at *;have hll:ls.length+1≤s.size:=by have:=HE2.out;omega
       have ec:ints ls++[Z I (gv:Int)]=ints (ls++[gv]):=by unfold ints;simp only [List.map_append,bL,gY]
       have EC:=zh ec;clear H6 ec;go_wp2_with (at_builtin;refine wpList_append_own _ rfl (.tmp 35) (.tmp 37) 159 rfl (w.heap.size+1) 3 i0 (Z I 0) 1 8 Tryz.underlying159 hi hz0 hz1 hz2 rfl zd _ _ _ rfl (hown.alloc _) ⟨wo.heap.size,0,none⟩ 1 1 [Z I (gv:Int)] rfl rfl (by intro t u ht;match t,ht with|0,ht=>simp at ht;subst ht;simp [Addr.add]) (by intro u hu;simp at hu;subst hu;rfl) (by unfold maxLen;omega) zo (by have:=hb.size;simp at*; omega) ?_)
       intro v' w1 hown1 hgrow1 _;rw [EC.out] at hown1;have hb3:Below (w.heap.size+1) (w.alloc (.cells #[ak false,ah none 0 0] 161)) w1:=(hb.alloc (by have:=hb.size;simpa using this) _).grown hgrow1 (by simp;have:=hb.size;simp at*; omega) (fun k hk=>(hown.lt k hk).1)
       have Bj:Hid (val 10000 (ls++[gv])=num (bs.drop (max (f:Int) 0).toNat)):=by
        unfold Hid;rw [show (max (f:Int) 0).toNat=f by omega,iY,HG.out,iF,aL]
       clear hown hgrow1 hst' Mq;go_wp2_with fail
       refine ⟨⟨(f:Int),ls++[gv],rfl,by omega,by omega,zh (fun h=>?_),zh (by rw [List.length_append];exact hll),zh (EO.out.snoc hgl),Bj,by rw [List.length_append];exact hown1,hb3⟩,?_⟩
       ·have:=HE2.out;rw [List.length_append,List.length_singleton];omega
       ·simp only [intOf];omega
end Go.Proofs.aC
