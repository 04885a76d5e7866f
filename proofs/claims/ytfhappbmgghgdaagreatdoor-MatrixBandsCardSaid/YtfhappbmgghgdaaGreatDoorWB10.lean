/- Lemmas for the proof. No condition. -/
import Derived.Test.YtfhappbmgghgdaaGreatDoorWB01
import Derived.Test.YtfhappbmgghgdaaGreatDoorWB02
import Derived.Test.YtfhappbmgghgdaaGreatDoorWB03
import Derived.Test.YtfhappbmgghgdaaGreatDoorWB09
import Derived.Laws.CopyOwn
import Derived.Deep.CutRange
set_option linter.unusedVariables false
set_option linter.unusedSimpArgs false
set_option maxRecDepth 100000
set_option maxHeartbeats 16000000
namespace Go.Proofs.matrix
open Go Go.RowKit Go.SW Go.Num Go.Mem Go.Proofs Go.Dec Go.cK
theorem Dx (f:Nat→Int):∀ n,o8 f n=uH f n
 | 0=>rfl
 | n+1=>by simp only [o8,uH];rw [Dx f n]
theorem an1:(Tryz.prog.info? 59).map (fun i=>(i.zero,i.size,i.bytes))=some (some (.agg #[.string ⟨#[]⟩,.string ⟨#[]⟩]),2,32):=by kernel_rfl
def TP (w:World) (xs:List Rat) (e:Ending) (w':World):Prop :=
 (xs.all iR=true∧∃ vo,e= .returned (.tuple #[vo,.int .i64 0])∧Below w.heap.size w w'∧gX w' 59 vo (xs.map Fr.of)) ∨
 (xs.all iR=false∧e= .returned (.tuple #[.slice none 0 0,.int .i64 6])∧Below w.heap.size w w')
def RM.ok (m:RM) (n:Nat):Prop:=1≤m.length∧m.length≤4∧1≤n∧n≤4∧∀ r∈m,r.length=n∧∀ q∈r,iR q=true
theorem Mg {qs:List Rat} (h:∀ q∈qs,iR q=true):gN (qs.map Fr.of)=0:=by
 unfold gN;rw [if_pos];rw [List.all_eq_true];intro a ha;obtain ⟨q,hq,rfl⟩:=List.mem_map.1 ha;rw [Ql (h q hq)];rfl
theorem RM.ok.Pn {m:RM} {n:Nat} (h:m.ok n):gZ m.fr=0:=by
 obtain ⟨h1,h2,h3,h4,h5⟩:=h;unfold gZ;rw [if_pos];unfold jQ RM.fr;cases m with
 | nil=>simp at h1
 | cons r t =>
  have hr:=h5 r zi;simp only [List.map_cons,List.headD_cons,List.length_map,Bool.and_eq_true,decide_eq_true_eq];refine ⟨⟨⟨⟨by simp,by simpa using h2⟩,by omega⟩,by omega⟩,?_⟩;rw [List.all_eq_true];intro x hx
  have key:∀ s∈r::t,((s.map Fr.of).length == r.length&&gN (s.map Fr.of) == 0)=true:=fun s hs=>by
   have hs2:=h5 s hs;rw [Mg hs2.2,List.length_map,hs2.1,hr.1];simp
  rcases List.mem_cons.1 hx with rfl|hx
  ·exact key r zi
  ·obtain ⟨s,hs,rfl⟩:=List.mem_map.1 hx;exact key s (by simp [hs])
theorem aN.head {w:World} {v:Value} {m:RM} (h:aN w v m.fr) (h0:0<m.length) :
  ∃ b off cap a0 cap0,v= .slice (some ⟨b,off,none⟩) m.length cap∧b<w.heap.size∧w.cell? ⟨b,off,none⟩=some (.slice a0 (m.headD []).length cap0):=by
 obtain ⟨rs,hR,hlen,hF⟩:=h;have hl:m.fr.length=m.length:=List.length_map _
 rcases hR.cases with ⟨rfl,rfl⟩|⟨b,off,cap,arr,rfl,k1,k2,k3,k4⟩
 ·simp at hlen;omega
 ·have h0r:0<rs.length:=by omega
  obtain ⟨a0,cap0,e0, -⟩:=(hF 0 h0r zo).read;refine ⟨b,off,cap,a0,cap0,by rw [hlen,hl],k3.lt,?_⟩;have:=(k3.cell (off+0)).trans (k4 0 h0r);rw [e0] at this;cases m with
  | nil=>simp at h0
  | cons r t=>simpa [RM.fr] using this
theorem Bd {w:World} {g:Nat} {T:TypeId} {n k:Nat} {f:Nat→Fr} (h:Fill w g T n k (vN f)) {a:Addr} (u:Value) (hne:g≠a.block):Fill (w.setCell a u) g T n k (vN f):=by
 obtain ⟨arr,h1,h2,h3⟩:=h;exact ⟨arr,h1.setOther u hne,h2,h3⟩
theorem pO {w:World} {va:Option Addr} {na ca:Nat} {xss:List (List Int)} (h:xK w (.slice va na ca) xss) :
  na=xss.length∧∀ k (_:k<xss.length),∃ b off pa n cc,va=some ⟨b,off,none⟩∧b<w.heap.size∧w.cell? ⟨b,off+k,none⟩=some (.slice pa n cc)∧bN w (.slice pa n cc) xss[k]:=by
 obtain ⟨rs,hR,hl,hF⟩:=h
 rcases hR.cases with ⟨h1,h2⟩|⟨b,off,cap,arr,h1, -, -, h4,h5⟩
 ·simp only [Value.slice.injEq] at h1;subst h2;have hl0:0=xss.length:=hl;exact ⟨by omega,fun k hk=>absurd hk zo⟩
 ·simp only [Value.slice.injEq] at h1;refine ⟨by rw [h1.2.1,hl],fun k hk=>?_⟩;have hk2:k<rs.length:=by omega
  have hi:=hF k hk hk2;obtain ⟨pa,cc,e, -⟩:=hi.read;refine ⟨b,off,pa,_,cc,h1.1,h4.lt,?_,e ▸ hi⟩;rw [h4.cell,h5 k hk2,e]
theorem mZ {w:World} {va:Option Addr} {na ca:Nat} {ds:List Nat} (h:vM w (.slice va na ca) ds) :
  na=ds.length∧∀ k (_:k<ds.length),∃ b off pa n cc,va=some ⟨b,off,none⟩∧b<w.heap.size∧w.cell? ⟨b,off+k,none⟩=some (.slice pa n cc)∧aK w (.slice pa n cc) ds[k]:=by
 obtain ⟨rs,hR,hl,hF⟩:=h
 rcases hR.cases with ⟨h1,h2⟩|⟨b,off,cap,arr,h1, -, -, h4,h5⟩
 ·simp only [Value.slice.injEq] at h1;subst h2;have hl0:0=ds.length:=hl;exact ⟨by omega,fun k hk=>absurd hk zo⟩
 ·simp only [Value.slice.injEq] at h1;refine ⟨by rw [h1.2.1,hl],fun k hk=>?_⟩;have hk2:k<rs.length:=by omega
  have hi:=hF k hk hk2;obtain ⟨pa,n,cc,e⟩:=hi.slice;refine ⟨b,off,pa,n,cc,h1.1,h4.lt,?_,e ▸ hi⟩;rw [h4.cell,h5 k hk2,e]
theorem Km (v vl:Value) (m:RM) (qs:List Rat) (T:TypeId) (w:World) (h:aN w v m.fr) (hl:gX w T vl (qs.map Fr.of)) (hm:m.ok qs.length) (hq:∀ q∈qs,iR q=true) (ht:oO.Pow w) :
  Calls Tryz.prog 29 #[v,vl] w (TP w (m.map fun r=>jh r qs)):=by
 have hm2:=hm;obtain ⟨m1,m4,n1,n4,hrows⟩:=hm2;obtain ⟨i0,hi,hz0,hz1,hz2⟩:=info_parts an1;obtain ⟨b,off,cap,a0,cap0,rfl,lb,hc0⟩:=aN.head h zo
 have hw0:(m.headD []).length=qs.length:=by
  cases m with
  | nil=>simp at m1
  | cons r t=>exact (hrows r zi).1
 rw [hw0] at hc0;obtain ⟨al,ab0,rfl,RY,Od, -⟩:=hl.read;have sD:=zh (fun w' hb=>dw _ m.fr w' (h.later hb));rw [hm.Pn] at sD;have x9:=zh (fun w' hb=>iX _ (qs.map Fr.of) T w' (hl.later hb));rw [Mg hq] at x9;have Kw:=zh (fun w' hb=>rC _ m w' (h.later hb) m4 (fun r hr=>⟨by have:=(hrows r hr).1;omega,(hrows r hr).2⟩));have HCM:=zh (fun w' hb=>Cx _ qs T w' (hl.later hb) hq zo);have hln:(qs.map Fr.of).length=qs.length:=List.length_map _;rw [hln] at x9 HCM RY ⊢;have au6:=zh hrows;have HQ:=zh hq;have HT:=zh ht;clear h hl hm hq ht hrows hw0 hln;have h0m:0<m.length:=by omega
 go_enter Tryz.func29,Tryz.ntmps29
 go_wp2_with fail
 refine (sD.out _ (Below.refl _ _)).mono ?_;rintro e v1 ⟨rfl,hc1⟩;go_wp2_with fail
 refine (x9.out _ hc1).mono ?_;rintro e v2 ⟨rfl,hc2⟩;have c0:=((Bt hc1 hc2).cell (p:=⟨b,off,none⟩) lb).trans hc0;go_wp2_with fail
 refine (Kw.out _ (Bt hc1 hc2)).mono ?_;rintro e v3 ⟨vt,rfl,hc3,htab⟩;obtain ⟨va,na,ca,vb,nb,cb,rfl,hrw,hmg⟩:=htab;have HRW:=zh hrw;have HMG:=zh hmg;clear hrw hmg;go_wp2_with fail
 refine (HCM.out _ (aJ (Bt (Bt hc1 hc2) hc3) _)).mono ?_;rintro e v4 ⟨vtt,vd,rfl,hc4,hv1,hv2⟩;obtain ⟨at',ct',rfl, -⟩:=hv1.read;obtain ⟨ad,nd,cd,rfl⟩:=hv2.slice;have IY:=(au.new v3 #[.slice va na ca,.slice vb nb cb] 105).later hc4;have hbv:Below v3.heap.size v3 v4:=Bt (aJ (Below.refl _ _) _) hc4;replace HRW:=zh (HRW.out.later hbv);replace HMG:=zh (HMG.out.later hbv);have HVT:=zh hv1;have HVD:=zh hv2;have hbw:Below w.heap.size w v4:=Bt (Bt (Bt hc1 hc2) hc3) hbv;have htl:(qs.map (ji (bI qs))).length=qs.length:=List.length_map _;rw [htl] at HVT ⊢;obtain ⟨B8,hB8⟩:∃ x,v3.heap.size=x:=⟨_,rfl⟩;rw [hB8] at IY ⊢;have HX8:=zh IY;clear hv1 hv2 hbv IY hB8 htl
 go_wp2_with (at_make;refine wpList_make_full _ rfl _ _ 29 rfl w.heap.size 59 i0 (.agg #[.string ⟨#[]⟩,.string ⟨#[]⟩]) 2 Tryz.underlying29 hi hz0 hz1 _ _ _ _ m.length rfl rfl zo zo (by rw [hz2];omega) (by unfold maxLen;omega) hbw.size ?_)
 intro w5 hown hgrow;have hb5:Below v4.heap.size v4 w5:=(Below.refl _ _).grown hgrow (Nat.le_refl _) (fun k hk=>by cases hk);have HF:=zh (Fill.start (ok:=vN (fun i=>Fr.of (jh (m.getD i []) qs))) hown);have hG:w.heap.size≤v4.heap.size:=hbw.size;obtain ⟨hna,an6⟩:=pO HRW.out;obtain ⟨hnb,an5⟩:=mZ HMG.out;have hl1:(m.map dX).length=m.length:=List.length_map _;have hl2:(m.map bI).length=m.length:=List.length_map _;rw [hl1] at hna;rw [hl2] at hnb;subst hna hnb;have HR1:=zh an6;have HR2:=zh an5;clear hown hgrow an6 an5 hl1 hl2 HRW HMG;go_wp2_with fail
 go_loopw [44] (fun iv wr=>∃ k:Nat,iv= .int .i64 (k:Int)∧k≤m.length∧Hid (Fill wr v4.heap.size 59 m.length k (vN (fun i=>Fr.of (jh (m.getD i []) qs))))∧Hid (∀ i,i<k→iR (jh (m.getD i []) qs)=true)∧Below v4.heap.size v4 wr) (fun iv _=>m.length - (intOf iv).toNat)
 case atStart=>exact ⟨0,rfl,by omega,HF,zh (fun i h=>by omega),hb5⟩
 case round =>
  obtain ⟨k,rfl,hk,HF,HK,hb⟩:=hrel;have IY:=HX8.out.later hb;have c8:=IY.cell;have l8:=IY.lt
  rcases Nat.lt_or_ge k m.length with hlt|hge
  ·obtain ⟨b1,off1,p1,n1,d1,rfl,e2,e3,e4⟩:=HR1.out k (by rw [List.length_map];exact hlt);obtain ⟨b2,off2,p2,n2,d2,rfl,f2,f3,f4⟩:=HR2.out k (by rw [List.length_map];exact hlt);have cr:=(hb.cell (p:=⟨b1,off1+k,none⟩) e2).trans e3;have cm:=(hb.cell (p:=⟨b2,off2+k,none⟩) f2).trans f3;have hlt2:(k:Int)<(m.length:Int):=by omega
   have hrow:=au6.out m[k] (List.getElem_mem _);have hgd:m.getD k []=m[k]:=by simp [hlt]
   simp only [List.getElem_map] at e4 f4;have H4:=zh (e4.later hb);have G4:=zh (f4.later hb);have VE:=HVT.out.later hb;have aD7:=zh VE;have WZ:=zh (HVD.out.later hb);have Kv:=zh hrow;have HGD:=zh hgd;have lG:=HF.out.lt;clear e2 e3 e4 f2 f3 f4 hrow hgd VE;generalize m[k]=r at *;have hrl:=Kv.out.1;have htl:(dX r).length=r.length:=List.length_map _
   have O4:=zh (fun w' hb=>SA _ _ (dX r) (qs.map (ji (bI qs))) w' (H4.out.later hb) (aD7.out.later hb) (by rw [htl,List.length_map,hrl]) zo zo
    (fun i=>Nat.le_trans (lJ Kv.out.2 zo i) zo) (fun i=>Nat.le_trans (lJ HQ.out n4 i) zo))
   have hcr:=lK r Kv.out.2;have hcq:=lK qs HQ.out;have hpr:=(gU r).1;have hpq:=(gU qs).1;have hprod:=Nat.mul_pos hpr hpq;have hsp:=jC (B:=1000000000) zo (bI r) (bI qs);have Ab:=SB (r:=r) (s:=qs) hrl.symm;have KR:=zh (show sz 1000000000 (bI r)≤1099511627776 by omega);have KQ:=zh (show sz 1000000000 (bI qs)≤1099511627776 by omega)
   have hz1:sz 1000000000 (wL (dX r) (qs.map (ji (bI qs)))).natAbs≤549755813888:=by
    unfold wL
    have:=rD (fun i=>(dX r).getD i 0*(qs.map (ji (bI qs))).getD i 0) 2000 (fun i=>by
     have h1:=iH ((dX r).getD i 0) ((qs.map (ji (bI qs))).getD i 0);have h2:=lJ Kv.out.2 zo i;have h3:=lJ HQ.out n4 i;unfold dX at *;omega) (dX r).length
    omega
   have hzd:wL (dX r) (qs.map (ji (bI qs)))=uH (fun i=>(r.map (ji (bI r))).getD i 0*(qs.map (ji (bI qs))).getD i 0) r.length:=by
    unfold wL;rw [htl,Dx];rfl
   rw [← hzd] at Ab;obtain ⟨z,EZ⟩:∃ x:Int,Hid (wL (dX r) (qs.map (ji (bI qs)))=x):=⟨_,zh rfl⟩;obtain ⟨D,ED⟩:∃ x:Nat,Hid (bI r*bI qs=x):=⟨_,zh rfl⟩;rw [EZ.out] at O4 hz1 Ab;rw [ED.out] at hprod hsp Ab;have KZ:=zh hz1;have KD:Hid (sz 1000000000 ((D:Nat):Int).natAbs≤549755813888):=zh (by rw [Int.natAbs_natCast];omega);have ND:Hid (((D:Nat):Int)≠0):=zh zo;have SD:Hid (gB D false=((D:Nat):Int)):=zh rfl;have HW:Hid ((z:Rat) / ((((D:Nat):Int)):Rat)=jh r qs):=zh (by rw [Rat.intCast_natCast];exact Ab);clear hrl htl hcr hcq hpr hpq hprod hsp Ab hz1 hzd;obtain ⟨q,EQ⟩:∃ x:Rat,Hid (jh r qs=x):=⟨_,zh rfl⟩;rw [EQ.out] at HW;go_wp2_with fail
   refine aD [(.pure,0),(.read,1),(.pure,2),(.pure,3),(.read,4),(.pure,5),(.pure,7),(.read,8),(.pure,9),(.pure,10),(.read,11),(.pure,12),(.ext,6),(.ext,13),(.ext,14),(.ext,15),(.pure,16),(.pure,17),(.pure,18),(.alloc #[.string ⟨#[]⟩,.string ⟨#[]⟩] 59,19),(.fin,20),(.fin,21)] zk zk zR zP ?_;refine zV ?_;refine aG rfl rfl (fun w11 Eh J hJ=>?_);go_simp;replace G4:=zh (aK.carry G4.out aI Eh);replace WZ:=zh (aK.carry WZ.out aI Eh);refine (O4.out _ ah).mono ?_;rintro e v11 ⟨v,rfl,Ac,hv⟩;obtain ⟨al0,lHz,as4,rfl,Hz⟩:=hv;replace Hz:=zh Hz;replace G4:=zh (aK.later G4.out Ac);replace WZ:=zh (aK.later WZ.out Ac);refine hJ _ _ Ac ?_;clear hJ J;refine aG rfl rfl (fun w12 jF J hJ=>?_);go_simp;replace Hz:=zh (aK.later Hz.out jF)
   refine ((iD _ _ (bI r) (bI qs) _ aI aI KR.out KQ.out).mono (by rw [ED.out];exact fun _ _ h=>h)).mono ?_;rintro e v12 ⟨v,rfl,JX,hv⟩;obtain ⟨ax0,lHm,aB8,rfl⟩:=hv.slice;have Hm:=zh hv;clear hv;replace Hz:=zh (aK.later Hz.out JX);refine hJ _ _ JX ?_;clear hJ J;refine aG rfl rfl (fun w13 kY J hJ=>?_);go_simp;replace Hz:=zh (aK.later Hz.out kY);refine ((dx _ D false _ aI).mono (by rw [SD.out];exact fun _ _ h=>h)).mono ?_;rintro e v13 ⟨v,rfl,aq0,hv⟩;obtain ⟨vZ,N8,wN,rfl,Hs⟩:=hv;replace Hs:=zh Hs;replace Hz:=zh (aK.later Hz.out aq0);refine hJ _ _ aq0 ?_;clear hJ J;have hq2:iR q=true∨iR q=false:=by cases iR q<;>simp
   rcases hq2 with hq2|hq2
   ·have CU:Hid (Fr.res (cK.wr q)= .tuple #[.agg #[.string (Fr.of q).n,.string (Fr.of q).d],.int .i64 0]):=zh (by unfold cK.wr;rw [if_pos hq2];rfl);have MC:=zh hq2;clear hq2;obtain ⟨s1,O8⟩:∃ x:ByteArray,Hid ((Fr.of q).n=x):=⟨_,zh rfl⟩;obtain ⟨s2,O7⟩:∃ x:ByteArray,Hid ((Fr.of q).d=x):=⟨_,zh rfl⟩;rw [O8.out,O7.out] at CU;refine aG rfl rfl (fun w14 VW J hJ=>?_);go_simp;refine ((jm _ _ z ((D:Nat):Int) _ (aS.aO aI) (aS.aO aI) ND.out KZ.out KD.out (HT.out.later ah)).mono (by rw [HW.out,CU.out];exact fun _ _ h=>h)).mono ?_;rintro e v14 ⟨rfl,ZU⟩;refine hJ _ _ ZU ?_;clear hJ J;refine zV ?_;refine aX rfl (fun b13 w6 Uj Cr RJ XY dU=>?_);go_simp;replace dU:au _ _ _ _:=dU;have LU:w.heap.size≤b13:=(by first|omega|exact Nat.le_trans (Below.size (B:=w.heap.size) ah) Cr);refine aL [_,_] rfl (fun w7 gM=>?_)
    replace dU:=au.later (dU) gM;replace Az:=dU.cell;replace Ap:=dU.free;replace zH:=dU.lt;replace HF:Hid (Fill w7 v4.heap.size 59 m.length k (vN (fun i=>Fr.of (jh (m.getD i []) qs)))):=zh (HF.out.later ah (fun _ _ _ h=>h));have hN:wr.heap.size≤b13:=Cr;have ne1:v4.heap.size≠b13:=by omega
    have ne2:b13≠v4.heap.size:=by omega
    obtain ⟨⟨y1,BO⟩,⟨y2,Oq⟩,fy⟩:=HF.out.cells hlt;have hF2:=zh (Bd (Bd HF.out (a:=⟨b13,0,none⟩) (.string s1) ne1) (a:=⟨b13,1,none⟩) (.string s2) ne1);have gM:Below v4.heap.size v4 w7:=ah;have hle:v4.heap.size≤b13:=by omega
    go_wp2_with fail
    go_roundw
    case rel =>
     refine ⟨k+1,by go_num,by omega,zh (hF2.out.step hlt (fun _ _ _ h=>h) ⟨?_,?_⟩),zh fun i hi=>?_,(((gM.setCell hle _).setCell hle _).setCell (Nat.le_refl _) _).setCell (Nat.le_refl _) _⟩
     ·show Value.string s1= .string (Fr.of (jh (m.getD k []) qs)).n
      rw [HGD.out,EQ.out,O8.out]
     ·show Value.string s2= .string (Fr.of (jh (m.getD k []) qs)).d
      rw [HGD.out,EQ.out,O7.out]
     ·rcases Nat.lt_or_ge i k with h|h
      ·exact HK.out i h
      ·obtain rfl:i=k:=by omega
       rw [HGD.out,EQ.out];exact MC.out
    case measure=>exact zM
   ·have CU:Hid (Fr.res (cK.wr q)= .tuple #[.agg #[.string ⟨#[]⟩,.string ⟨#[]⟩],.int .i64 6]):=zh (qb hq2)
    have hbad:(m.map fun r=>jh r qs).all iR=false:=by
     rw [List.all_eq_false];have hkm:k<(m.map fun r=>jh r qs).length:=by rw [List.length_map];exact hlt
     refine ⟨(m.map fun r=>jh r qs)[k],List.getElem_mem _,?_⟩;have e1:(m.map fun r=>jh r qs)[k]=jh (m.getD k []) qs:=by simp [hlt]
     rw [e1,HGD.out,EQ.out,hq2];simp
    have HBAD:=zh hbad;clear hq2 hbad;refine aG rfl rfl (fun w14 VW J hJ=>?_);go_simp;refine ((jm _ _ z ((D:Nat):Int) _ (aS.aO aI) (aS.aO aI) ND.out KZ.out KD.out (HT.out.later ah)).mono (by rw [HW.out,CU.out];exact fun _ _ h=>h)).mono ?_;rintro e v14 ⟨rfl,ZU⟩;refine hJ _ _ ZU ?_;clear hJ J;refine zV ?_;refine aX rfl (fun b13 w6 Uj Cr RJ XY dU=>?_);go_simp;replace dU:au _ _ _ _:=dU;have LU:w.heap.size≤b13:=(by first|omega|exact Nat.le_trans (Below.size (B:=w.heap.size) ah) Cr);refine aL [_,_] rfl (fun w7 gM=>?_);replace dU:=au.later (dU) gM;replace Az:=dU.cell;replace Ap:=dU.free;replace zH:=dU.lt;have aA7:Below w.heap.size w w7:=ah;go_wp2_with fail
    go_ret2
    exact .inr ⟨HBAD.out,rfl,(aA7.setCell LU _).setCell LU _⟩
  ·obtain rfl:k=m.length:=by omega
   have hall:(m.map fun r=>jh r qs).all iR=true:=by
    rw [List.all_eq_true];intro q hq;obtain ⟨i,hi,rfl⟩:=List.getElem_of_mem hq;have hi2:i<m.length:=by rw [List.length_map] at hi;exact hi
    have:=HK.out i hi2
    simpa [hi2] using this
   have hfr:gX wr 59 (.slice (some ⟨v4.heap.size,0,none⟩) m.length m.length) ((m.map fun r=>jh r qs).map Fr.of):=by
    have hll:((m.map fun r=>jh r qs).map Fr.of).length=m.length:=by simp
    have ap5:Fill wr v4.heap.size 59 ((m.map fun r=>jh r qs).map Fr.of).length ((m.map fun r=>jh r qs).map Fr.of).length (vN fun i=>((m.map fun r=>jh r qs).map Fr.of).getD i Fr.no):=by
     rw [hll];obtain ⟨arr,g1,g2,g3⟩:=HF.out;refine ⟨arr,g1,g2,fun i hi=>?_⟩;obtain ⟨x,y,y1,y2,y3,y4⟩:=g3 i hi;refine ⟨x,y,y1,y2,?_⟩;have e:((m.map fun r=>jh r qs).map Fr.of).getD i Fr.no=Fr.of (jh (m.getD i []) qs):=by simp [hi]
     exact ⟨by show x= .string (((m.map fun r=>jh r qs).map Fr.of).getD i Fr.no).n;rw [e];exact y3,by show y= .string (((m.map fun r=>jh r qs).map Fr.of).getD i Fr.no).d;rw [e];exact y4⟩
    have:=gX.rG ap5 (by rw [hll];omega);rw [hll] at this;exact this
   have KJ:=zh hfr;have aE3:=zh hall;clear hfr hall;go_wp2_with fail
   go_ret2
   exact .inl ⟨aE3.out,_,rfl,Bt hbw hb,KJ.out⟩
def SS (m:RM) (c:Nat):List Rat:=m.map fun r=>r.getD c 0
def xG (m:RM) (n:Nat):RM:=(List.range n).map (SS m)
def BA (a b:RM) (n:Nat):RM:=a.map fun r=>(List.range n).map fun c=>jh r (SS b c)
def vD (m:RM):Bool:=m.all fun r=>r.all iR
theorem M6 {m:RM} {n:Nat} (h:m.ok n):jB m.fr n=(xG m n).fr:=by
 obtain ⟨-, -, -, -, h5⟩:=h;unfold jB xG RM.fr;rw [List.map_map];refine List.map_congr_left fun c hc=>?_;have hcn:c<n:=List.mem_range.1 hc;unfold BQ SS;simp only [Function.comp,List.map_map];refine List.map_congr_left fun r hr=>?_;have:=(h5 r hr).1;simp [this,hcn]
theorem SQ {m:RM} {n:Nat} (h:m.ok n):(xG m n).ok m.length:=by
 obtain ⟨h1,h2,h3,h4,h5⟩:=h;refine ⟨by simp [xG];omega,by simp [xG];omega,h1,h2,fun r hr=>?_⟩;obtain ⟨c,hc,rfl⟩:=List.mem_map.1 hr;have hcn:c<n:=List.mem_range.1 hc;refine ⟨by simp [SS],fun q hq=>?_⟩;obtain ⟨s,hs,rfl⟩:=List.mem_map.1 hq;obtain ⟨k1,k2⟩:=h5 s hs;have e:s.getD c 0=s[c]'zo:=by simp [k1,hcn]
 rw [e];exact k2 _ (List.getElem_mem _)
theorem QN (va vb:Value) (ma mb:RM) (n:Nat) (w:World) (ha:aN w va ma.fr) (hb:aN w vb mb.fr) (XA:ma.ok mb.length) (okb:mb.ok n) (ht:oO.Pow w) :
  Calls Tryz.prog 27 #[va,vb] w (aV w (if vD (BA ma mb n) then 0 else 6) (BA ma mb n).fr):=by
 have xS:=XA;obtain ⟨a1,a4,b1,b4,iA⟩:=XA;have Vg:=okb;obtain ⟨_,_,n1,n4,JY⟩:=okb;obtain ⟨ba,qD,Ik,a0,cap0,rfl,xU,vB⟩:=aN.head ha zo;obtain ⟨bb,am5,aM5,b0,aF4,rfl,lbb,cb0⟩:=aN.head hb zo
 have XH:(ma.headD []).length=mb.length:=by
  cases ma with
  | nil=>simp at a1
  | cons r t=>exact (iA r zi).1
 have hwb:(mb.headD []).length=n:=by
  cases mb with
  | nil=>simp at b1
  | cons r t=>exact (JY r zi).1
 rw [XH] at vB;rw [hwb] at cb0;have sD:=zh (fun w' hx=>dw _ ma.fr w' (ha.later hx));rw [xS.Pn] at sD;have x9:=zh (fun w' hx=>dw _ mb.fr w' (hb.later hx));rw [Vg.Pn] at x9;have I8:=zh (fun w' hx=>rC _ ma w' (ha.later hx) a4 (fun r hr=>⟨by have:=(iA r hr).1;omega,(iA r hr).2⟩))
 have HTR:=zh (fun w' hx=>sF _ mb.fr n w' (hb.later hx) (by simpa [RM.fr] using b1) (by simpa [RM.fr] using b4) n4 (fun r hr=>by
  obtain ⟨s,hs,rfl⟩:=List.mem_map.1 hr
  simpa using (JY s hs).1))
 rw [M6 Vg] at HTR;have okc:=SQ Vg;obtain ⟨mc,Emc⟩:∃ y:RM,Hid (xG mb n=y):=⟨_,zh rfl⟩;have hcl:mc.length=n:=by rw [← Emc.out];simp [xG]
 have hcg:∀ c,c<n→mc.getD c []=SS mb c:=fun c hc=>by rw [← Emc.out];simp [xG,hc]
 rw [Emc.out] at HTR okc;have HRC:=zh (fun v w' (hx:aN w' v mc.fr)=>rC v mc w' hx zo (fun r hr=>⟨by have:=(okc.2.2.2.2 r hr).1;omega,(okc.2.2.2.2 r hr).2⟩));obtain ⟨E,EE⟩:∃ E:Nat→Nat→Rat,E=fun i c=>jh (ma.getD i []) (mc.getD c []):=⟨_,rfl⟩
 have TW:Hid (∀ i,i<ma.length→(BA ma mb n).getD i []=(List.range n).map (E i)):=zh fun i hi=>by
  rw [EE];simp only [BA,List.getD_eq_getElem?_getD,List.getElem?_map,List.getElem?_eq_getElem hi,Option.map_some,Option.getD_some];refine List.map_congr_left fun c hc=>?_;have:=hcg c (List.mem_range.1 hc);rw [List.getD_eq_getElem?_getD] at this;rw [this]
 have KE:Hid ((BA ma mb n).length=ma.length):=zh (by simp [BA]);have HAR:=zh iA;have HOC:=zh okc;have HT:=zh ht;have HEE:Hid (∀ i c,jh (ma.getD i []) (mc.getD c [])=E i c):=zh fun i c=>by rw [EE]
 have Xi:=zh hcl;clear ha hb xS Vg iA JY XH hwb okc ht hcl hcg EE;obtain ⟨na,hna⟩:∃ y,ma.length=y:=⟨_,rfl⟩;obtain ⟨nb,hnb⟩:∃ y,mb.length=y:=⟨_,rfl⟩;have ME:=zh hna;have Uq:=zh hnb;rw [hna] at sD I8 a1 a4 TW KE ⊢;rw [hnb] at b1 b4 vB x9 HTR HAR HOC ⊢;clear hna hnb;have b0n:0<nb:=by omega
 have Bh:0<na:=by omega
 obtain ⟨er,Xf⟩:∃ y:Int,Hid ((if vD (BA ma mb n) then 0 else 6)=y):=⟨_,zh rfl⟩;obtain ⟨MM,EMM⟩:∃ y:RM,Hid (BA ma mb n=y):=⟨_,zh rfl⟩;rw [Xf.out];rw [EMM.out] at Xf TW KE ⊢;clear EMM;go_enter Tryz.func27,Tryz.ntmps27
 go_wp2_with fail
 refine (sD.out _ (Below.refl _ _)).mono ?_;rintro e v1 ⟨rfl,hc1⟩;go_wp2_with fail
 refine (x9.out _ hc1).mono ?_;rintro e v2 ⟨rfl,hc2⟩;have hw2:Below w.heap.size w v2:=Bt hc1 hc2;have c1:=(hw2.cell (p:=⟨ba,qD,none⟩) xU).trans vB;have c2:=(hw2.cell (p:=⟨bb,am5,none⟩) lbb).trans cb0;go_wp2_with fail
 refine (I8.out _ hw2).mono ?_;rintro e v3 ⟨vt,rfl,hc3,htab⟩;obtain ⟨Xz,XE,Tk,Qw,QM,Tj,rfl,hra,hma⟩:=htab;have Ky:=zh hra;have Fh:=zh hma;have hw3:Below w.heap.size w v3:=Bt hw2 hc3;clear hra hma c1 c2;go_wp2_with fail
 refine (HTR.out _ hw3).mono ?_;rintro e v4 ⟨vtr,rfl,hc4,hmt⟩;have HMT:=zh hmt;clear hmt;go_wp2_with fail
 refine (HRC.out _ _ HMT.out).mono ?_;rintro e v5 ⟨vt,rfl,nT,htab⟩;obtain ⟨pb1,XD,cb1,pb2,nb2,cb2,rfl,hrb,hmb⟩:=htab;have au8:=zh hrb;have av1:=zh hmb;have h45:=Bt hc4 nT;replace Ky:=zh (Ky.out.later h45);replace Fh:=zh (Fh.out.later h45);have Rv:Below w.heap.size w v5:=Bt hw3 h45;obtain ⟨Wp,G9,hmk⟩:=zD na zo;have FV:=zh G9;clear hrb hmb h45 G9;go_wp2_with fail
 obtain ⟨vb,Pz⟩:∃ y,(v5.alloc (.cells #[.slice Xz XE Tk,.slice Qw QM Tj] 105)).alloc (.cells #[.slice pb1 XD cb1,.slice pb2 nb2 cb2] 105)=y:=⟨_,rfl⟩;have hM:v5.heap.size+1+1=vb.heap.size:=by rw [← Pz];simp
 have h5b:Below v5.heap.size v5 vb:=by rw [← Pz];exact ah
 have WW:Hid (au vb v5.heap.size #[.slice Xz XE Tk,.slice Qw QM Tj] 105):=zh (by rw [← Pz];exact aT);have HX7:Hid (au vb (v5.heap.size+1) #[.slice pb1 XD cb1,.slice pb2 nb2 cb2] 105):=zh (by rw [← Pz];exact aT);rw [Pz,hM];have hwb:Below w.heap.size w vb:=Bt Rv h5b;obtain ⟨hn1,hr1⟩:=pO (Ky.out.later h5b);obtain ⟨hn2,hr2⟩:=mZ (Fh.out.later h5b);obtain ⟨Oa,hr3⟩:=pO (au8.out.later h5b);obtain ⟨hn4,hr4⟩:=mZ (av1.out.later h5b);rw [List.length_map,ME.out] at hn1 hn2;rw [List.length_map,Xi.out] at Oa hn4;replace hn1:=hn1.symm;replace hn2:=hn2.symm;replace Oa:=Oa.symm;replace hn4:=hn4.symm;subst hn1 hn2 Oa hn4;have HR1:=zh hr1;have HR2:=zh hr2;have HR3:=zh hr3;have HR4:=zh hr4;have HM:=zh (fK.yT (f:=fun i=>((List.range n).map (E i)).map Fr.of) (au.new vb Wp 29) FV.out)
 have h0b:Below vb.heap.size vb (vb.alloc (.cells Wp 29)):=ah;obtain ⟨X6,EX6⟩:∃ y,v5.heap.size=y:=⟨_,rfl⟩;rw [EX6] at WW HX7 ⊢;have l6:X6<vb.heap.size:=WW.out.lt;have l7:X6+1<vb.heap.size:=HX7.out.lt;have csz:=hwb.size;clear hr1 hr2 hr3 hr4 Ky Fh au8 av1 HMT Rv hw3 hw2 hc1 hc2 hc3 hc4 nT h5b hM EX6 sD x9 I8 HTR HRC hmk FV Pz;obtain ⟨SI,RU,hmk⟩:=zF n zo;have FV:=zh RU;clear RU
 go_loopw [39] (fun iv wr=>∃ r:Nat,iv= .int .i64 (r:Int)∧r≤na∧Hid (fK wr vb.heap.size na r (fun i=>((List.range n).map (E i)).map Fr.of))∧Hid (∀ i,i<r→∀ c,c<n→iR (E i c)=true)∧Below vb.heap.size vb wr) (fun iv _=>na - (intOf iv).toNat)
 case atStart=>exact ⟨0,rfl,by omega,HM,zh (fun i h=>by omega),h0b⟩
 case round =>
  clear HM h0b;obtain ⟨r,rfl,hr,HM,HK,hb⟩:=hrel;obtain ⟨wo,hwo⟩:∃ y,y=wr:=⟨_,rfl⟩;subst hwo;have lM:=HM.out.lt
  rcases Nat.lt_or_ge r na with hlt|hge
  ·have hlt2:(r:Int)<(na:Int):=by omega
   have cbo:=((Bt hwb hb).cell (p:=⟨bb,am5,none⟩) lbb).trans cb0;have lbo:bb<wo.heap.size:=Nat.lt_of_lt_of_le lbb (Bt hwb hb).size;obtain ⟨⟨y1,BO⟩,fy⟩:=HM.out.cell hlt;obtain ⟨rZ,bM,hsz, -⟩:=HM.out;have Ut:=zh bM;have hrs:r<rZ.size:=by omega
   clear bM hsz;go_wp2_with fail
   clear BO fy cbo lbo;have hGM:wo.heap.size≠vb.heap.size:=by omega
   have Ul:vb.heap.size≠wo.heap.size:=by omega
   have hBn:au ((wo.setCell ⟨vb.heap.size,r,none⟩ (.slice (some ⟨wo.heap.size,0,none⟩) n n)).alloc (.cells SI 59 (0,0))) wo.heap.size SI 59:=au.qE zi;have HF:=zh (show Fill _ wo.heap.size 59 n 0 (vN fun i=>Fr.of (E r i)) from ⟨SI,hBn,FV.out,fun i hi=>by omega⟩);have HB:=zh ((Ut.out.set r (.slice (some ⟨wo.heap.size,0,none⟩) n n)).alloc (.cells SI 59 (0,0)));have HN:=zh (((fM.refl wo vb.heap.size).set r (.slice (some ⟨wo.heap.size,0,none⟩) n n)).below (w':=(wo.setCell ⟨vb.heap.size,r,none⟩ (.slice (some ⟨wo.heap.size,0,none⟩) n n)).alloc (.cells SI 59 (0,0))) ah);clear hBn
   go_loopw [55] (fun iv wr=>∃ c:Nat,iv= .int .i64 (c:Int)∧c≤n∧Hid (Fill wr wo.heap.size 59 n c (vN fun i=>Fr.of (E r i)))∧Hid (∀ i,i<c→iR (E r i)=true)∧Hid (au wr vb.heap.size (rZ.setIfInBounds r (.slice (some ⟨wo.heap.size,0,none⟩) n n)) 29)∧Hid (fM wo wr vb.heap.size)) (fun iv _=>n - (intOf iv).toNat)
   case atStart=>exact ⟨0,rfl,by omega,HF,zh (fun i h=>by omega),HB,HN⟩
   case round =>
    clear HF HB HN;obtain ⟨c,rfl,hcn,HF,HKc,HB,HN⟩:=hrel
    rcases Nat.lt_or_ge c n with hcl|hcl
    ·have Od:(c:Int)<(n:Int):=by omega
     have hbv:Below vb.heap.size vb wr:=HN.out.toBelow hb (Nat.le_refl _);obtain ⟨b1,o1,p1,m1,d1,rfl,e2,e3,e4⟩:=HR1.out r (by rw [List.length_map,ME.out];exact hlt);obtain ⟨b2,o2,p2,m2,d2,rfl,f2,f3,f4⟩:=HR2.out r (by rw [List.length_map,ME.out];exact hlt);obtain ⟨b3,o3,p3,m3,d3,rfl,g2,g3,g4⟩:=HR3.out c (by rw [List.length_map,Xi.out];exact hcl);obtain ⟨b4',o4,p4,m4,d4,rfl,k2,k3,k4⟩:=HR4.out c (by rw [List.length_map,Xi.out];exact hcl);simp only [List.getElem_map] at e4 f4 g4 k4;have q1:=(hbv.cell (p:=⟨b1,o1+r,none⟩) e2).trans e3;have q2:=(hbv.cell (p:=⟨b2,o2+r,none⟩) f2).trans f3;have q3:=(hbv.cell (p:=⟨b3,o3+c,none⟩) g2).trans g3;have q4:=(hbv.cell (p:=⟨b4',o4+c,none⟩) k2).trans k3;have x6:=(WW.out.later hbv).cell;have x7:=(HX7.out.later hbv).cell;have G1:=zh (e4.later hbv);have G2:=zh (f4.later hbv);have G3:=zh (g4.later hbv);have G4:=zh (k4.later hbv)
     have l1:=Nat.lt_of_lt_of_le e2 hbv.size;have l2:=Nat.lt_of_lt_of_le f2 hbv.size;have l3:=Nat.lt_of_lt_of_le g2 hbv.size;have l4:=Nat.lt_of_lt_of_le k2 hbv.size;have z6:=Nat.lt_of_lt_of_le l6 hbv.size;have z7:=Nat.lt_of_lt_of_le l7 hbv.size;clear e2 e3 e4 f2 f3 f4 g2 g3 g4 k2 k3 k4;have HWB:=zh (show Below vb.heap.size vb wr from hbv);have hrm:r<ma.length:=by rw [ME.out];exact hlt
     have hcm:c<mc.length:=by rw [Xi.out];exact hcl
     have hra:=HAR.out ma[r] (List.getElem_mem _);have hcc:=HOC.out.2.2.2.2 mc[c] (List.getElem_mem _)
     have hee:jh ma[r] mc[c]=E r c:=by
      have:=HEE.out r c;rw [getD_lt hrm,getD_lt hcm] at this;exact this
     have I8:=zh hra;have HCC:=zh hcc;have Xg:=zh hee;clear hra hcc hee HR1 HR2 HR3 HR4 WW HX7;generalize ma[r]=ra at *;generalize mc[c]=cc at *;clear hrm hcm;have htl:(dX ra).length=ra.length:=List.length_map _;have htc:(dX cc).length=cc.length:=List.length_map _;have hrl:=I8.out.1;have RV:=HCC.out.1
     have O4:=zh (fun w' (hx:Below wr.heap.size wr w')=>SA _ _ (dX ra) (dX cc) w' (G1.out.later hx) (G3.out.later hx) (by rw [htl,htc,hrl,RV]) zo zo
      (fun i=>Nat.le_trans (lJ I8.out.2 zo i) zo) (fun i=>Nat.le_trans (lJ HCC.out.2 zo i) zo))
     have hcr:=lK ra I8.out.2;have hcq:=lK cc HCC.out.2;have hpr:=(gU ra).1;have hpq:=(gU cc).1;have hprod:=Nat.mul_pos hpr hpq;have hsp:=jC (B:=1000000000) zo (bI ra) (bI cc);have Ab:=SB (r:=ra) (s:=cc) (by rw [RV,hrl]);have KR:=zh (show sz 1000000000 (bI ra)≤1099511627776 by omega);have KQ:=zh (show sz 1000000000 (bI cc)≤1099511627776 by omega)
     have hz1:sz 1000000000 (wL (dX ra) (dX cc)).natAbs≤549755813888:=by
      unfold wL
      have:=rD (fun i=>(dX ra).getD i 0*(dX cc).getD i 0) 2000 (fun i=>by
       have h1:=iH ((dX ra).getD i 0) ((dX cc).getD i 0);have h2:=lJ I8.out.2 zo i;have h3:=lJ HCC.out.2 zo i;unfold dX at *;omega) (dX ra).length
      omega
     have hzd:wL (dX ra) (dX cc)=uH (fun i=>(ra.map (ji (bI ra))).getD i 0*(cc.map (ji (bI cc))).getD i 0) ra.length:=by
      unfold wL;rw [htl,Dx];rfl
     rw [← hzd] at Ab;obtain ⟨z,EZ⟩:∃ x:Int,Hid (wL (dX ra) (dX cc)=x):=⟨_,zh rfl⟩;obtain ⟨D,ED⟩:∃ x:Nat,Hid (bI ra*bI cc=x):=⟨_,zh rfl⟩;rw [EZ.out] at O4 hz1 Ab;rw [ED.out] at hprod hsp Ab;have KZ:=zh hz1;have KD:Hid (sz 1000000000 ((D:Nat):Int).natAbs≤549755813888):=zh (by rw [Int.natAbs_natCast];omega);have ND:Hid (((D:Nat):Int)≠0):=zh zo;have SD:Hid (gB D false=((D:Nat):Int)):=zh rfl;have HW:Hid ((z:Rat) / ((((D:Nat):Int)):Rat)=jh ra cc):=zh (by rw [Rat.intCast_natCast];exact Ab);clear htl htc hrl RV hcr hcq hpr hpq hprod hsp Ab hz1 hzd;rw [Xg.out] at HW;obtain ⟨q,EQ⟩:∃ x:Rat,Hid (E r c=x):=⟨_,zh rfl⟩;rw [EQ.out] at HW;have Uo:=zh (HT.out.later (Bt hwb hbv));go_wp2_with fail
     refine aD [(.pure,0),(.read,1),(.pure,2),(.pure,3),(.read,4),(.pure,5),(.read,6),(.pure,7),(.pure,8),(.read,9),(.ext,10),(.fin,11)] zk zk zR zP ?_;refine zV ?_;refine aG rfl rfl (fun w21 Z7 J hJ=>?_);go_simp;replace G2:=zh (aK.carry G2.out aI Z7);replace G4:=zh (aK.carry G4.out aI Z7);refine ((iD _ _ (bI ra) (bI cc) _ aI aI KR.out KQ.out).mono (by rw [ED.out];exact fun _ _ h=>h)).mono ?_;rintro e v21 ⟨v,rfl,hc21,hv⟩;obtain ⟨ax0,lHm,aB8,rfl⟩:=hv.slice;have Hm:=zh hv;clear hv;replace G2:=zh (aK.later G2.out hc21);replace G4:=zh (aK.later G4.out hc21);refine hJ _ _ hc21 ?_;clear hJ J;refine aL [_] rfl (fun w14 VW=>?_);have JK:Below wr.heap.size wr w14:=ah;replace Hm:=zh (Hm.out.later VW);have q1':=(JK.cell (p:=⟨b1,o1+r,none⟩) l1).trans q1;have q3':=(JK.cell (p:=⟨b3,o3+c,none⟩) l3).trans q3
     have x6':=(JK.cell (p:=⟨X6,0,none⟩) z6).trans (x6 0);have x7':=(JK.cell (p:=⟨X6+1,0,none⟩) z7).trans (x7 0);clear q1 q2 q3 q4 x6 x7 VW Z7 hc21 G2 G4;have lG:=HF.out.lt;have lMr:=HB.out.lt;have aM2:=JK.size;go_wp2_with fail
     refine aD [(.pure,0),(.read,1),(.pure,2),(.pure,3),(.read,4),(.pure,5),(.read,6),(.pure,7),(.pure,8),(.read,9),(.pure,11),(.ext,10),(.ext,12),(.ext,13),(.pure,14),(.pure,15),(.pure,16),(.alloc #[.string ⟨#[]⟩,.string ⟨#[]⟩] 59,17),(.fin,18),(.fin,19)] zk zk zR zP ?_;refine zV ?_;refine aG rfl rfl (fun w31 Ae J hJ=>?_);go_simp;replace Hm:=zh (aK.carry Hm.out aI Ae);refine (O4.out _ ah).mono ?_;rintro e v31 ⟨v,rfl,hc31,hv⟩;obtain ⟨al0,lHz,as4,rfl,Hz⟩:=hv;replace Hz:=zh Hz;replace Hm:=zh (aK.later Hm.out hc31);refine hJ _ _ hc31 ?_;clear hJ J;refine aG rfl rfl (fun w32 Z6 J hJ=>?_);go_simp;replace Hz:=zh (aK.later Hz.out Z6);refine ((dx _ D false _ aI).mono (by rw [SD.out];exact fun _ _ h=>h)).mono ?_;rintro e v32 ⟨v,rfl,hc32,hv⟩;obtain ⟨vZ,N8,wN,rfl,Hs⟩:=hv;replace Hs:=zh Hs;replace Hz:=zh (aK.later Hz.out hc32)
     refine hJ _ _ hc32 ?_;clear hJ J;have hq2:iR q=true∨iR q=false:=by cases iR q<;>simp
     rcases hq2 with hq2|hq2
     ·have CU:Hid (Fr.res (cK.wr q)= .tuple #[.agg #[.string (Fr.of q).n,.string (Fr.of q).d],.int .i64 0]):=zh (by unfold cK.wr;rw [if_pos hq2];rfl);have MC:=zh hq2;clear hq2;obtain ⟨s1,O8⟩:∃ x:ByteArray,Hid ((Fr.of q).n=x):=⟨_,zh rfl⟩;obtain ⟨s2,O7⟩:∃ x:ByteArray,Hid ((Fr.of q).d=x):=⟨_,zh rfl⟩;rw [O8.out,O7.out] at CU;refine aG rfl rfl (fun w33 Z5 J hJ=>?_);go_simp;refine ((jm _ _ z ((D:Nat):Int) _ (aS.aO aI) (aS.aO aI) ND.out KZ.out KD.out (Uo.out.later ah)).mono (by rw [HW.out,CU.out];exact fun _ _ h=>h)).mono ?_;rintro e v33 ⟨rfl,JW⟩;refine hJ _ _ JW ?_;clear hJ J;refine zV ?_;refine aX rfl (fun b17 w17 ZE Cq ZJ ar8 kE=>?_);go_simp;replace kE:au _ _ _ _:=kE;have ar4:w.heap.size≤b17:=(by first|omega|exact Nat.le_trans (Below.size (B:=w.heap.size) ah) Cq);refine aL [_,_] rfl (fun Uh BM=>?_)
      replace kE:=au.later (kE) BM;replace SX:=kE.cell;replace Sq:=kE.free;replace Rh:=kE.lt;have wE:Below wr.heap.size wr Uh:=ah;have Z8:w14.heap.size≤b17:=Cq;replace HF:=zh (HF.out.zI wE);replace HB:=zh (HB.out.later wE);replace HN:=zh (HN.out.below wE);have ne1:wo.heap.size≠b17:=by omega
      have ne2:vb.heap.size≠b17:=by omega
      have ge1:wo.heap.size≤b17:=by omega
      clear q1' q3' x6' x7' JK wE Cq O4 Uo;go_wp2_with fail
      obtain ⟨UK,E19⟩:∃ y,(Uh.setCell ⟨b17,0,none⟩ (.string s1)).setCell ⟨b17,1,none⟩ (.string s2)=y:=⟨_,rfl⟩;replace HF:=zh ((HF.out.other (a:=⟨b17,0,none⟩) (.string s1) ne1).other (a:=⟨b17,1,none⟩) (.string s2) ne1);replace HB:=zh ((HB.out.setOther (a:=⟨b17,0,none⟩) (.string s1) ne2).setOther (a:=⟨b17,1,none⟩) (.string s2) ne2);replace HN:=zh ((HN.out.gG ge1 0 (.string s1)).gG ge1 1 (.string s2));have zN:=(kE.set 0 (.string s1)).set 1 (.string s2);simp only [List.setIfInBounds_toArray,List.set_cons_zero,List.set_cons_succ] at zN;rw [E19] at HF HB HN zN ⊢;clear E19 kE SX Sq Rh;have c17:=zN.cell;have l17:=zN.lt;have cM:=HB.out.cell r;rw [Array.getElem?_setIfInBounds,if_pos rfl,if_pos hrs] at cM;have lM9:=HB.out.lt;refine aD [(.pure,0),(.pure,1),(.pure,2),(.read,3),(.pure,4),(.read,5),(.pure,6),(.fin,7)] zk zk zR zP ?_;refine zV ?_
      refine aL [_] rfl (fun w20 tF=>?_);have DY:Below UK.heap.size UK w20:=ah;replace HF:=zh (HF.out.zI DY);replace HB:=zh (HB.out.later DY);replace HN:=zh (HN.out.below DY);obtain ⟨⟨y1,BO⟩,⟨y2,Oq⟩,fy⟩:=HF.out.cells hcl;have ay3:=HF.out.lt;clear tF DY c17 l17 cM lM9 zN;go_wp2_with fail
      go_roundw
      case rel =>
       refine ⟨c+1,by go_num,by omega,zh (HF.out.step hcl (fun _ _ _ h=>h) ⟨?_,?_⟩),zh fun i hi=>?_,zh ((HB.out.setOther _ Ul).setOther _ Ul),zh ((HN.out.gG (Nat.le_refl _) _ _).gG (Nat.le_refl _) _ _)⟩
       ·show Value.string s1= .string (Fr.of (E r c)).n
        rw [EQ.out,O8.out]
       ·show Value.string s2= .string (Fr.of (E r c)).d
        rw [EQ.out,O7.out]
       ·rcases Nat.lt_or_ge i c with h|h
        ·exact HKc.out i h
        ·obtain rfl:i=c:=by omega
         rw [EQ.out];exact MC.out
      case measure=>exact zM
     ·have CU:Hid (Fr.res (cK.wr q)= .tuple #[.agg #[.string ⟨#[]⟩,.string ⟨#[]⟩],.int .i64 6]):=zh (qb hq2)
      have hbad:vD MM=false:=by
       unfold vD;rw [List.all_eq_false];refine ⟨MM.getD r [],?_,?_⟩
       ·rw [getD_lt (show r<MM.length by rw [KE.out];exact hlt)];exact List.getElem_mem _
       ·rw [TW.out r hlt];simp only [List.all_map,Bool.not_eq_true];rw [List.all_eq_false];exact ⟨c,List.mem_range.2 hcl,by simp only [Function.comp];rw [EQ.out,hq2];simp⟩
      have her:er=6:=by rw [← Xf.out,if_neg (by rw [hbad];simp)]
      have HE6:=zh her;clear hq2 hbad her;refine aG rfl rfl (fun w33 Z5 J hJ=>?_);go_simp;refine ((jm _ _ z ((D:Nat):Int) _ (aS.aO aI) (aS.aO aI) ND.out KZ.out KD.out (Uo.out.later ah)).mono (by rw [HW.out,CU.out];exact fun _ _ h=>h)).mono ?_;rintro e v33 ⟨rfl,JW⟩;refine hJ _ _ JW ?_;clear hJ J;refine zV ?_;refine aX rfl (fun b17 w17 ZE Cq ZJ ar8 kE=>?_);go_simp;replace kE:au _ _ _ _:=kE;have ar4:w.heap.size≤b17:=(by first|omega|exact Nat.le_trans (Below.size (B:=w.heap.size) ah) Cq);refine aL [_,_] rfl (fun Uh BM=>?_);replace kE:=au.later (kE) BM;replace SX:=kE.cell;replace Sq:=kE.free;replace Rh:=kE.lt;have wE:Below w.heap.size w Uh:=Bt (Bt hwb hbv) ah;have Z8:w14.heap.size≤b17:=Cq;have hwr:=(Bt hwb hbv).size;clear q1' q3' x6' x7' JK;go_wp2_with fail
      go_ret2
      rw [HE6.out];exact aV.no ((wE.setCell (by simp;omega) _).setCell (by simp;omega) _) zd
    ·have ZT:n=c:=by omega
     subst ZT;go_wp2_with fail
     go_roundw
     case rel =>
      have hbv:Below vb.heap.size vb wr:=HN.out.toBelow hb (Nat.le_refl _);refine ⟨r+1,by go_num,by omega,zh (HM.out.step (v:=.slice (some ⟨wo.heap.size,0,none⟩) n n) hlt HN.out (fun arr hA=>?_) ?_),zh fun i hi c hc=>?_,hbv⟩
      ·have hAM:arr=rZ:=cK.au.uniq hA Ut.out;rw [hAM];exact HB.out
      ·refine Fill.Sc (HF.out.Av fun i hi=>?_) zi zo;simp [hi]
      ·rcases Nat.lt_or_ge i r with h|h
       ·exact HK.out i h c hc
       ·obtain rfl:i=r:=by omega
        exact HKc.out c hc
     case measure=>exact zM
  ·have hrn:na=r:=by omega
   subst hrn
   have hall:vD MM=true:=by
    unfold vD;rw [List.all_eq_true];intro x hx;obtain ⟨i,hi,rfl⟩:=List.getElem_of_mem hx;rw [KE.out] at hi;have e:=TW.out i hi;rw [getD_lt (show i<MM.length by rw [KE.out];exact hi)] at e;rw [e,List.all_eq_true];intro q hq;obtain ⟨c,hc,rfl⟩:=List.mem_map.1 hq;exact HK.out i hi c (List.mem_range.1 hc)
   have her:er=0:=by rw [← Xf.out,if_pos hall]
   have hmv:aN wo (.slice (some ⟨vb.heap.size,0,none⟩) na na) MM.fr:=by
    have e1:MM.fr.length=na:=by unfold RM.fr;rw [List.length_map];exact KE.out
    have:aN wo (.slice (some ⟨vb.heap.size,0,none⟩) MM.fr.length MM.fr.length) MM.fr:=by
     refine fK.JF ?_ zo;rw [e1];obtain ⟨arr,k1,k2,k3⟩:=HM.out;refine ⟨arr,k1,k2,fun i hi=>?_⟩
     have e2:MM.fr.getD i []=((List.range n).map (E i)).map Fr.of:=by
      rw [← TW.out i hi];simp [RM.fr,show i<List.length MM by rw [KE.out];exact hi]
     show ∃ v,arr[i]? =some v∧gX wo 59 v (MM.fr.getD i [])
     rw [e2];exact k3 i hi
    rw [e1] at this;exact this
   have HMV:=zh hmv;have HE0:=zh her;clear hall hmv her;go_wp2_with fail
   go_ret2
   rw [HE0.out];exact aV.yes (Bt hwb hb) HMV.out
theorem y7 (P:Program) (w:World) (dT sT ty elem:TypeId) (g o dLen dCap size:Nat) (a:Addr) (sLen sCap:Nat) (cur:Array Value) (t:TypeId) (cs:List Value)
  (hu:P.underlying dT=some (.slice elem)) (hs:(P.info? elem).map (·.size)=some size)
  (hg:w.heap[g]? =some (.cells cur t (0,0))) (hn:cs.length=Nat.min sLen dLen*size)
  (hsrc:∀ j v,cs[j]? =some v→w.cell? (a.add j)=some v) (hfit:o+cs.length≤cur.size) (h1:∀ v∈cs,v.oneCell'=true) :
  (Builtin.copy_ #[dT,sT] ty #[.slice (some ⟨g,o,none⟩) dLen dCap,.slice (some a) sLen sCap]).run P w =
   .ok (goInt (Nat.min sLen dLen)) (w.setRow g (cur.toList.take o++cs++cur.toList.drop (o+cs.length)).toArray):=by
 have hl:=run_loadCells_list (P:=P) w a cs hsrc;have hst:=run_storeCells_at P g o t cs 0 cur w hg (by simpa using hfit) h1;cases hq:P.info? elem with
 | none=>simp [hq] at hs
 | some i =>
  have hi:i.size=size:=by simpa [hq] using hs
  simp [Builtin.copy_,run_underlying hu,Builtin.lenOf,Builtin.firstCells,sizeOf,typeInfo,hq,hi,← hn,hl,hst]
theorem bN.raw {w:World} {a:Option Addr} {n c:Nat} {l:List Int} (h:bN w (.slice a n c) l) (h0:0<n) :
  n=l.length∧∃ b off,∃ cs:List Value,a=some ⟨b,off,none⟩∧b<w.heap.size∧cs.length=n*2∧(∀ j v,cs[j]? =some v→w.cell? ⟨b,off+j,none⟩=some v)∧(∀ v∈cs,v.oneCell'=true) ∧
   ∀ i,i<n→∃ x y,cs[i*2]? =some x∧cs[i*2+1]? =some y∧gq (fun i=>l.getD i 0) w i x y:=by
 obtain ⟨a',c',e,h2,h3,h4,h5⟩:=h;simp only [Value.slice.injEq] at e;obtain ⟨rfl,rfl,rfl⟩:=e;refine ⟨rfl,?_⟩;cases a with
 | none=>have:=h4 rfl;omega
 | some ad =>
  obtain ⟨h6,arr,h7,h8⟩:=h5 ad rfl;obtain ⟨b,off,sp⟩:=ad;simp only at h6;subst h6
  have key:∀ k,k<l.length*2→∃ v,arr[off+k]? =some v∧v.oneCell'=true:=fun k hk=>by
   obtain ⟨x,y,k1,k2,pa,m,ca,k3,k4, -⟩:=h8 (k / 2) zo;subst k3 k4
   rcases Nat.mod_two_eq_zero_or_one k with e|e
   ·have e2:off+k=off+k / 2*2:=by omega
    rw [e2];exact ⟨_,k1,rfl⟩
   ·have e2:off+k=off+k / 2*2+1:=by omega
    rw [e2];exact ⟨_,k2,rfl⟩
  have hget:∀ k (h:k<l.length*2),((List.range (l.length*2)).map fun k=>(arr[off+k]?).getD undef)[k]? =arr[off+k]? :=fun k hk=>by
   obtain ⟨v,hv, -⟩:=key k hk;simp only [List.getElem?_map,List.getElem?_range hk,Option.map_some,hv,Option.getD_some]
  refine ⟨b,off,(List.range (l.length*2)).map fun k=>(arr[off+k]?).getD undef,rfl,h7.lt,by simp,fun j v hv=>?_,fun v hv=>?_,fun i hi=>?_⟩
  ·have hj:j<l.length*2:=by
    have:=(List.getElem?_eq_some_iff.1 hv).1
    simpa using this
   rw [hget j hj] at hv;exact (h7.cell _).trans hv
  ·obtain ⟨k,hk,rfl⟩:=List.mem_map.1 hv;obtain ⟨u,hu,h1⟩:=key k (List.mem_range.1 hk);simp only [hu,Option.getD_some];exact h1
  ·obtain ⟨x,y,k1,k2,k3⟩:=h8 i hi;exact ⟨x,y,by rw [hget _ zo];exact k1,by rw [hget _ zo,← k2,Nat.add_assoc],k3⟩
theorem oH (n:Nat) (hn:n≤1000) (z:Int) (hz:z=(n:Int)):∃ cs:Array Value,cs.size=n*2∧(∀ i,i<n→cs[i*2]? =some (.slice none 0 0)∧cs[i*2+1]? =some (.bool false))∧∀ W:World,(Instr.makeSlice 114 (.int .i64 z) (.int .i64 z)).run Tryz.prog W= .ok (.slice (some ⟨W.heap.size,0,none⟩) n n) (W.alloc (.cells cs 112)):=by
 subst hz;obtain ⟨i0,hi,hz0,hz1,hz2⟩:=info_parts nS;refine ⟨madeCells (Value.agg #[.slice none 0 0,.bool false]).cells (n*2),size_madeCells _ _,fun i hi=>?_,fun W=>?_⟩
 ·have e:(Value.agg #[.slice none 0 0,.bool false]).cells=#[.slice none 0 0,.bool false]:=rfl;rw [e];unfold madeCells
  constructor
  ·rw [Array.getElem?_map,Array.getElem?_range,if_pos zo];simp
  ·rw [Array.getElem?_map,Array.getElem?_range,if_pos zo];simp [Nat.add_mod]
 ·have:=run_makeSlice (P:=Tryz.prog) W 114 112 i0 (.agg #[.slice none 0 0,.bool false]) Tryz.underlying114 hi hz0 .i64 .i64 (n:Int) (n:Int) zo (Int.le_refl _) (by rw [hz1];simp;omega) (by rw [hz2];omega) zo;rw [hz1] at this
  simpa using this
theorem NK (n:Nat) (hn:n≤1000):∃ cs:Array Value,cs.size=n∧∀ W:World,(Instr.makeSlice 102 (.int .i64 (n:Int)) (.int .i64 (n:Int))).run Tryz.prog W= .ok (.slice (some ⟨W.heap.size,0,none⟩) n n) (W.alloc (.cells cs 114)):=by
 obtain ⟨i0,hi,hz0,hz1,hz2⟩:=info_parts LG;refine ⟨madeCells (Value.slice none 0 0).cells n,size_madeCells _ _,fun W=>?_⟩;have:=run_makeSlice (P:=Tryz.prog) W 102 114 i0 (.slice none 0 0) Tryz.underlying102 hi hz0 .i64 .i64 (n:Int) (n:Int) zo (Int.le_refl _) (by rw [hz1];simp;omega) (by rw [hz2];omega) zo;rw [hz1] at this
 simpa using this
theorem Fill.aw8 {w w':World} {G n j:Nat} {f:Nat→Int} {pa:Option Addr} {l ca:Nat} {z:Int} {b:Bool} (h:Fill w G 112 n n (gq f)) (hj:j<n) (hb:b=decide (z<0))
  (hB:Below w.heap.size ((w.setCell ⟨G,j*2,none⟩ (.slice pa l ca)).setCell ⟨G,j*2+1,none⟩ (.bool b)) w') (hm:aK w' (.slice pa l ca) z.natAbs) :
  Fill w' G 112 n n (gq fun c=>if c=j then z else f c):=by
 subst hb;have LD:=h.rX;have hB2:Below ((w.setCell ⟨G,j*2,none⟩ (.slice pa l ca)).setCell ⟨G,j*2+1,none⟩ (.bool (decide (z<0)))).heap.size ((w.setCell ⟨G,j*2,none⟩ (.slice pa l ca)).setCell ⟨G,j*2+1,none⟩ (.bool (decide (z<0)))) w':=by simpa using hB
 obtain ⟨arr,h1,h2,h3⟩:=h;refine ⟨(arr.setIfInBounds (j*2) (.slice pa l ca)).setIfInBounds (j*2+1) (.bool (decide (z<0))),((h1.set _ _).set _ _).later hB2,by simp [h2],fun i hi=>?_⟩
 by_cases e:i=j
 ·subst e;refine ⟨.slice pa l ca,.bool (decide (z<0)),?_,?_,?_⟩
  ·rw [Array.getElem?_setIfInBounds,if_neg zo,Array.getElem?_setIfInBounds,if_pos rfl,if_pos zo]
  ·rw [Array.getElem?_setIfInBounds,if_pos rfl,if_pos (by simp;omega)]
  ·have e:(fun c=>if c=i then z else f c) i=z:=by simp
   unfold gq;rw [e];exact ⟨_,_,_,rfl,rfl,hm⟩
 ·obtain ⟨x',y',k1,k2,k3⟩:=h3 i hi;refine ⟨x',y',?_,?_,?_⟩
  ·rw [Array.getElem?_setIfInBounds,if_neg zo,Array.getElem?_setIfInBounds,if_neg zo,k1]
  ·rw [Array.getElem?_setIfInBounds,if_neg zo,Array.getElem?_setIfInBounds,if_neg zo,k2]
  ·have k4:=gq.later hB2 _ _ _ (gq.jP (o:=j*2+1) (u:=.bool (decide (z<0))) (LD.setCell (a:=⟨G,j*2,none⟩) (u:=.slice pa l ca)) zd _ _ _ (gq.jP LD zd _ _ _ k3));unfold gq at *;simp only [if_neg e];exact k4
def vJ (w:World) (M n k:Nat) (f:Nat→List Int):Prop :=
 ∃ arr,au w M arr 114∧arr.size=n∧∀ i,i<k→∃ v,arr[i]? =some v∧bN w v (f i)
theorem vJ.lt {w:World} {M n k:Nat} {f:Nat→List Int} (h:vJ w M n k f):M<w.heap.size:=by
 obtain ⟨arr,h1, -⟩:=h;exact h1.lt
theorem vJ.cell {w:World} {M n k:Nat} {f:Nat→List Int} (h:vJ w M n k f) {j:Nat} (hj:j<n):(∃ x,w.cell? ⟨M,j,none⟩=some x)∧∀ o,w.frozen? ⟨M,o,none⟩=false:=by
 obtain ⟨arr,h1,h2, -⟩:=h;exact ⟨⟨arr[j]'zo,by rw [h1.cell];exact Array.getElem?_eq_getElem _⟩,h1.free⟩
theorem bN.near {w w':World} {M:Nat} {v:Value} {l:List Int} (h:bN w v l) (k:fM w w' M) (hM:sK w M 114):bN w' v l:=by
 obtain ⟨a,cap,h1,h2,h3,h4,h5⟩:=h;obtain ⟨cs,hM⟩:=hM;refine ⟨a,cap,h1,h2,h3,h4,fun ad had=>?_⟩;obtain ⟨h6,arr,h7,h8⟩:=h5 ad had;refine ⟨h6,arr,k.box h7 (h7.ne hM zd),fun i hi=>?_⟩;obtain ⟨x,y,k1,k2,pa,n,ca,k3,k4,k5⟩:=h8 i hi;refine ⟨x,y,k1,k2,pa,n,ca,k3,k4,?_⟩;obtain ⟨a',cap',g1,g2,g3,g4,g5⟩:=k5;refine ⟨a',cap',g1,g2,g3,g4,fun ad had=>?_⟩;obtain ⟨g6,arr',g7,g8⟩:=g5 ad had;have g7':au w ad.block arr' 65:=g7;exact ⟨g6,arr',k.box g7' (g7'.ne hM zd),g8⟩
theorem vJ.step {w w':World} {M n k:Nat} {f:Nat→List Int} {v:Value} (h:vJ w M n k f) (hk:k<n) (hn:fM w w' M)
  (hb:∀ arr,au w M arr 114→au w' M (arr.setIfInBounds k v) 114) (hv:bN w' v (f k)):vJ w' M n (k+1) f:=by
 obtain ⟨arr,h1,h2,h3⟩:=h;refine ⟨arr.setIfInBounds k v,hb _ h1,by simp [h2],fun i hi=>?_⟩
 rcases Nat.lt_or_ge i k with h|h
 ·obtain ⟨u,k1,k2⟩:=h3 i h;refine ⟨u,?_,bN.near k2 hn h1.rX⟩;rw [Array.getElem?_setIfInBounds,if_neg zo,k1]
 ·obtain rfl:i=k:=by omega
  refine ⟨v,?_,hv⟩;rw [Array.getElem?_setIfInBounds,if_pos rfl,if_pos zo]
theorem setRow_size (w:World) (g:Nat) (cs:Array Value):(w.setRow g cs).heap.size=w.heap.size:=by simp [World.setRow]
theorem fM.setRow {a w:World} {B g:Nat} (h:fM a w B) (hg:a.heap.size≤g) (cs:Array Value):fM a (w.setRow g cs) B :=
 ⟨h.os,h.tape,h.output,by rw [setRow_size];exact h.size,fun i hi hne=>(setRow_other w g i cs zo).trans (h.block i hi hne)⟩
theorem Keep.setRow {w:World} {g:Nat} {T:TypeId} {arr cs:Array Value} (h:au w g arr T):Keep [T] w (w.setRow g cs):=fun b xs T' hT hx=>by
 have hne:b≠g:=fun e=>by
  subst e;have:=cK.au.uniq hx h;unfold au at hx h;rw [h] at hx
  injection hx with e
  injection e with _ e2
  exact hT (by simp [e2])
 unfold au at *;rw [setRow_other w g b cs hne];exact hx
theorem copied {w:World} {G n N:Nat} {l:List Int} {I4:Array Value} {cs:List Value} (hG:au w G I4 112) (hs:I4.size=N*2) (hz:∀ i,i<N→I4[i*2]? =some (.slice none 0 0)∧I4[i*2+1]? =some (.bool false)) (hn:n≤N) (hl:cs.length=n*2)
  (hc:∀ i,i<n→∃ x y,cs[i*2]? =some x∧cs[i*2+1]? =some y∧gq (fun i=>l.getD i 0) w i x y) :
  Fill (w.setRow G (I4.toList.take 0++cs++I4.toList.drop (0+cs.length)).toArray) G 112 N N (gq fun i=>if i<n then l.getD i 0 else 0):=by
 have hk:Keep [112] w (w.setRow G (I4.toList.take 0++cs++I4.toList.drop (0+cs.length)).toArray):=Keep.setRow hG;refine ⟨_,setRow_heap w G _ _ _ _ hG,?_,fun i hi=>?_⟩
 ·simp [hl,hs]
  omega
 ·simp only [List.take_zero,List.nil_append,Nat.zero_add,List.getElem?_toArray]
  by_cases h:i<n
  ·obtain ⟨x,y,k1,k2,k3⟩:=hc i h;refine ⟨x,y,?_,?_,?_⟩
   ·rw [List.getElem?_append_left zo,k1]
   ·rw [List.getElem?_append_left zo,k2]
   ·have k4:=gq.kept hk zd _ _ _ k3;unfold gq at *;simp only [List.take_zero,List.nil_append,Nat.zero_add] at k4;simp only [if_pos h];exact k4
  ·obtain ⟨k1,k2⟩:=hz i hi;refine ⟨.slice none 0 0,.bool false,?_,?_,?_⟩
   ·rw [List.getElem?_append_right zo,List.getElem?_drop,hl,show n*2+(i*2 - n*2)=i*2 by omega,Array.getElem?_toList,k1]
   ·rw [List.getElem?_append_right zo,List.getElem?_drop,hl,show n*2+(i*2+1 - n*2)=i*2+1 by omega,Array.getElem?_toList,k2]
   ·unfold gq;simp only [if_neg h];exact ⟨none,0,0,rfl,rfl,aK.zero _⟩
theorem H9 (v:Value) (rs:IM) (n:Nat) (w:World) (h:xK w v rs) (hl:rs.length=n) (hr:∀ i,i<n→(rs.getD i []).length=n) (h1:1≤n) (h4:n≤4) :
  Calls Tryz.prog 77 #[v] w (fun e w'=>∃ B,e= .returned (.slice (some ⟨B,0,none⟩) n n)∧w.heap.size≤B∧Below w.heap.size w w'∧nY w' B 0 n (fun i=>(ext rs).getD i [])):=by
 obtain ⟨rv,hR, -, -⟩:=id h;obtain ⟨a,cap,rfl,hcap, -⟩:=hR;obtain ⟨hn,hread⟩:=pO h;rw [hl] at hn;rw [hn] at h hcap ⊢
 have Kw:Hid (∀ k,k<n→∃ b off pa cc,a=some ⟨b,off,none⟩∧b<w.heap.size∧w.cell? ⟨b,off+k,none⟩=some (.slice pa n cc)∧bN w (.slice pa n cc) (rs.getD k [])):=zh fun k hk=>by
  obtain ⟨b,off,pa,m,cc,k1,k2,k3,k4⟩:=hread k zo;have e:rs.getD k []=rs[k]:=getD_lt zo;obtain ⟨_,_,e3, -⟩:=k4.read;simp only [Value.slice.injEq] at e3;have e4:m=n:=by rw [e3.2.1,← e];exact hr k hk
  subst e4;exact ⟨b,off,pa,cc,k1,k2,k3,e ▸ k4⟩
 obtain ⟨Wp,G9,hmk⟩:=NK n zo;obtain ⟨I4,ap8,hcsz,aK6⟩:=oH (2*n) zo (2*(n:Int)) zo;have Yf:=zh G9;have HS2:=zh ap8;have HS3:=zh hcsz;have HL:=zh hl;have HLR:=zh hr;clear h hn hread G9 ap8 hcsz hl hr hcap;go_enter Tryz.func77,Tryz.ntmps77
 go_wp2_with fail
 have HM:Hid (vJ (w.alloc (.cells Wp 114)) w.heap.size n 0 (fun k=>(ext rs).getD k [])):=zh ⟨Wp,au.new _ _ _,Yf.out,fun i hi=>by omega⟩;have hb0:Below w.heap.size w (w.alloc (.cells Wp 114)):=ah;clear hmk Yf
 go_loopw [11] (fun iv wr=>∃ i:Nat,iv= .int .i64 (i:Int)∧i≤n∧Hid (vJ wr w.heap.size n i (fun k=>(ext rs).getD k []))∧Below w.heap.size w wr) (fun iv _=>n - (intOf iv).toNat)
 case atStart=>exact ⟨0,rfl,by omega,HM,hb0⟩
 case round =>
  clear HM hb0;obtain ⟨i,rfl,hin,HM,hb⟩:=hrel;have lM:=HM.out.lt
  rcases Nat.lt_or_ge i n with hlt|hge
  ·have hlt2:(i:Int)<(n:Int):=by omega
   obtain ⟨⟨y1,BO⟩,fy⟩:=HM.out.cell hlt;obtain ⟨b,off,pa,cc,rfl,lb,cb,hiv⟩:=Kw.out i hlt;have cbo:=(hb.cell (p:=⟨b,off+i,none⟩) lb).trans cb;have lbo:=Nat.lt_of_lt_of_le lb hb.size;obtain ⟨wo,hwo⟩:∃ y,y=wr:=⟨_,rfl⟩;subst hwo;obtain ⟨rZ,bM,hsz, -⟩:=id HM.out;obtain ⟨W1,EW1⟩:∃ y,(wo.setCell ⟨w.heap.size,i,none⟩ (.slice (some ⟨wo.heap.size,0,none⟩) (2*n) (2*n))).alloc (.cells I4 112)=y:=⟨_,rfl⟩;have hN1:fM wo W1 w.heap.size:=by rw [← EW1];exact ((fM.refl wo _).set _ _).below ah
   have hM1:au W1 w.heap.size (rZ.setIfInBounds i (.slice (some ⟨wo.heap.size,0,none⟩) (2*n) (2*n))) 114:=by rw [← EW1];exact (bM.set _ _).alloc _
   have hG1:au W1 wo.heap.size I4 112:=by rw [← EW1];exact au.qE zi
   have BK:bN W1 (.slice pa n cc) (rs.getD i []):=bN.near (hiv.later hb) hN1 bM.rX;obtain ⟨-, b2,off2,cs,rfl,lb2,hcl,hc1,hc2,hc3⟩:=bN.raw BK zo
   have hcp:∀ ty,(Builtin.copy_ #[114,114] ty #[.slice (some ⟨wo.heap.size,0,none⟩) (2*n) (2*n),.slice (some ⟨b2,off2,none⟩) n cc]).run Tryz.prog W1= .ok (goInt n) (W1.setRow wo.heap.size (I4.toList.take 0++cs++I4.toList.drop (0+cs.length)).toArray):=fun ty=>by
    obtain ⟨i0,hi,hz0,hz1,hz2⟩:=info_parts nS;have:=y7 Tryz.prog W1 114 114 ty 112 wo.heap.size 0 (2*n) (2*n) 2 ⟨b2,off2,none⟩ n cc I4 112 cs Tryz.underlying114 (by rw [hi];simp [hz1]) hG1 (by rw [hcl,show Nat.min n (2*n)=n from Nat.min_eq_left zo]) (fun j v hv=>by rw [Addr.add_lit];exact hc1 j v hv) (by rw [hcl,HS2.out];omega) hc2;rw [show Nat.min n (2*n)=n from Nat.min_eq_left zo] at this;exact this
   obtain ⟨W2,EW2⟩:∃ y,W1.setRow wo.heap.size (I4.toList.take 0++cs++I4.toList.drop (0+cs.length)).toArray=y:=⟨_,rfl⟩;have hF2:Fill W2 wo.heap.size 112 (2*n) (2*n) (gq fun j=>if j<n then (rs.getD i []).getD j 0 else 0):=by rw [← EW2];exact copied hG1 HS2.out HS3.out zo hcl hc3
   have hN2:fM wo W2 w.heap.size:=by rw [← EW2];exact fM.setRow hN1 (Nat.le_refl _) _
   have hM2:au W2 w.heap.size (rZ.setIfInBounds i (.slice (some ⟨wo.heap.size,0,none⟩) (2*n) (2*n))) 114:=by rw [← EW2];exact Keep.setRow hG1 _ _ _ zd hM1
   rw [EW2] at hcp;have Ut:=zh bM;have HF2:=zh hF2;have HN2:=zh hN2;have OX:=zh hM2;have cM2:=hM2.cell i;rw [Array.getElem?_setIfInBounds,if_pos rfl,if_pos (show i<rZ.size by omega)] at cM2;have cM1:=hM1.cell i;rw [Array.getElem?_setIfInBounds,if_pos rfl,if_pos (show i<rZ.size by omega)] at cM1;have lM2:=hM2.lt;have lG2:=hF2.lt;obtain ⟨⟨z1,cz1⟩,⟨z2,cz2⟩,fz⟩:=hF2.cells (j:=n+i) zo;clear hF2 hN2 hM2 bM hG1 hM1 hN1 BK hiv hc1 hc2 hc3 EW2;go_wp2_with fail
   have hne:w.heap.size≠wo.heap.size:=by omega
   have hb2:Below W2.heap.size ((W2.setCell ⟨wo.heap.size,(n+i)*2,none⟩ (.slice (some ⟨W2.heap.size,0,none⟩) 1 1)).setCell ⟨wo.heap.size,(n+i)*2+1,none⟩ (.bool false)) (((W2.setCell ⟨wo.heap.size,(n+i)*2,none⟩ (.slice (some ⟨W2.heap.size,0,none⟩) 1 1)).setCell ⟨wo.heap.size,(n+i)*2+1,none⟩ (.bool false)).alloc (.cells #[.int .u32 1] 65)):=(Below.refl _ _).alloc zi _
   have hm1:aK (((W2.setCell ⟨wo.heap.size,(n+i)*2,none⟩ (.slice (some ⟨W2.heap.size,0,none⟩) 1 1)).setCell ⟨wo.heap.size,(n+i)*2+1,none⟩ (.bool false)).alloc (.cells #[.int .u32 1] 65)) (.slice (some ⟨W2.heap.size,0,none⟩) 1 1) ((1:Int).natAbs):=by
    have:=aK.lit (w:=(W2.setCell ⟨wo.heap.size,(n+i)*2,none⟩ (.slice (some ⟨W2.heap.size,0,none⟩) 1 1)).setCell ⟨wo.heap.size,(n+i)*2+1,none⟩ (.bool false)) (d:=1) zo zo
    simpa using this
   have hF3:=Fill.aw8 HF2.out zo (z:=1) (b:=false) rfl hb2 hm1;have Uk:=(((HN2.out.gG (Nat.le_refl _) ((n+i)*2) (.slice (some ⟨W2.heap.size,0,none⟩) 1 1)).gG (Nat.le_refl _) ((n+i)*2+1) (.bool false)).below (w':=((W2.setCell ⟨wo.heap.size,(n+i)*2,none⟩ (.slice (some ⟨W2.heap.size,0,none⟩) 1 1)).setCell ⟨wo.heap.size,(n+i)*2+1,none⟩ (.bool false)).alloc (.cells #[.int .u32 1] 65)) ah);have hM3:=((OX.out.setOther (a:=⟨wo.heap.size,(n+i)*2,none⟩) (.slice (some ⟨W2.heap.size,0,none⟩) 1 1) hne).setOther (a:=⟨wo.heap.size,(n+i)*2+1,none⟩) (.bool false) hne).alloc (.cells #[.int .u32 1] 65 (0,0));have hL:=HL.out
   have hrow:(ext rs).getD i []=(List.range (2*n)).map fun j=>if j<n then rs.at i j else if j=n+i then 1 else 0:=by
    unfold ext;rw [hL,getD_lt (show i<_ by simp;omega)];simp
   have hlen:((ext rs).getD i []).length=2*n:=by rw [hrow];simp
   have az8:bN (((W2.setCell ⟨wo.heap.size,(n+i)*2,none⟩ (.slice (some ⟨W2.heap.size,0,none⟩) 1 1)).setCell ⟨wo.heap.size,(n+i)*2+1,none⟩ (.bool false)).alloc (.cells #[.int .u32 1] 65)) (.slice (some ⟨wo.heap.size,0,none⟩) (2*n) (2*n)) ((ext rs).getD i []):=by
    have:=bN.rG (l:=(ext rs).getD i []) (g:=wo.heap.size) (w:=((W2.setCell ⟨wo.heap.size,(n+i)*2,none⟩ (.slice (some ⟨W2.heap.size,0,none⟩) 1 1)).setCell ⟨wo.heap.size,(n+i)*2+1,none⟩ (.bool false)).alloc (.cells #[.int .u32 1] 65)) (by
     rw [hlen];obtain ⟨arr,g1,g2,g3⟩:=hF3;refine ⟨arr,g1,g2,fun j hj=>?_⟩;obtain ⟨x,y,y1,y2,pa,l,ca,y3,y4,y5⟩:=g3 j hj
     have e:((ext rs).getD i []).getD j 0=if j=n+i then 1 else if j<n then (rs.getD i []).getD j 0 else 0:=by
      rw [hrow,getD_lt (show j<_ by simp;omega)];simp only [List.getElem_map,List.getElem_range];unfold IM.at
      by_cases e1:j=n+i
      ·rw [if_neg zo,if_pos e1,if_pos e1]
      ·rw [if_neg e1,if_neg e1]
     exact ⟨x,y,y1,y2,pa,l,ca,y3,by simp only [e];exact y4,by simp only [e];exact y5⟩) (by rw [hlen];omega)
    rw [hlen] at this;exact this
   refine ⟨⟨i+1,by go_num,by omega,zh (HM.out.step hlt Uk (fun arr hA=>?_) az8),Uk.toBelow hb (Nat.le_refl _)⟩,by simp only [intOf];omega⟩;rw [cK.au.uniq hA Ut.out];exact hM3
  ·have hiN:n=i:=by omega
   subst hiN;go_wp2_with fail
   go_ret
   obtain ⟨arr,k1,k2,k3⟩:=HM.out;exact ⟨_,rfl,Nat.le_refl _,hb,arr,k1,fun k hk=>by rw [Nat.zero_add];exact k3 k hk⟩
theorem Qn (v u:Value) (z y:Int) (w:World) (h:aS w v z) (h2:aS w u y) (hy:y≠0) (kz:sz 1000000000 z.natAbs≤549755813888) :
  Calls Tryz.prog 184 #[v,u] w (fun e w'=>∃ v,e= .returned v∧Below w.heap.size w w'∧aS w' v (quo z y)):=by
 obtain ⟨IW,lH,I5,rfl,H⟩:=h;replace H:=zh H;obtain ⟨am2,lH2,at6,rfl,H2⟩:=h2;replace H2:=zh H2;have KZ:=zh kz;have HY:=zh hy;clear kz hy;go_enter Tryz.func184,Tryz.ntmps184
 go_wp2_with fail
 refine (dR _ _ z.natAbs y.natAbs _ aI aI (Int.natAbs_pos.mpr HY.out) KZ.out).mono ?_;rintro e v1 ⟨v,vr,rfl,hc1,hv,j4⟩;obtain ⟨am1,lHQ,at5,rfl⟩:=hv.slice;have HQ:=zh hv;clear hv;obtain ⟨am0,ay2,at0,rfl⟩:=j4.slice;have HQr:=zh j4;clear j4;have BR:=au.later (au.at2 _ _ _ _ _) hc1;have bK:=BR.cell;have bL:=BR.free;have eG:=BR.lt;have B1:=au.later (au.alloc (au.oN _ _ _ _) _) hc1;have cB1:=B1.cell;have FQ:=B1.free;have lB1:=B1.lt;have B0:=au.later (au.alloc (au.alloc (au.new _ _ _) _) _) hc1;have cB0:=B0.cell;have jc:=B0.free;have lB0:=B0.lt;go_wp2_with fail
 refine (dx _ (z.natAbs / y.natAbs) _ _ aI).mono ?_;rintro e v2 ⟨v,rfl,hc2,hv⟩;obtain ⟨Qu,lHT,Tg,rfl,HT⟩:=hv;replace HT:=zh HT;replace BR:=au.later (BR) hc2;replace bK:=BR.cell;replace bL:=BR.free;replace eG:=BR.lt;go_wp2_with fail
 refine dG rfl rfl aT Tryz.underlying112 rfl zk ?_;exact ⟨_,rfl,ah,(aS.aO aI).cast rfl⟩
theorem Ih (v u vd:Value) (xs ys:List Int) (k:Nat) (d:Int) (w:World) (hx:bN w v xs) (hy:bN w u ys) (hd:aS w vd d) (hl:ys.length=xs.length) (hk:k<xs.length) (hn:xs.length≤1000) (h0:d≠0)
  (k1:∀ i,sz 1000000000 (xs.getD i 0).natAbs≤1000000000) (k2:∀ i,sz 1000000000 (ys.getD i 0).natAbs≤1000000000) :
  Calls Tryz.prog 133 #[v,u,.int .i64 (k:Int),vd] w (fun e w'=>∃ g m c,e= .returned (.slice (some ⟨g,0,none⟩) m c)∧w.heap.size≤g∧Below w.heap.size w w'∧bN w' (.slice (some ⟨g,0,none⟩) m c) (comb xs ys k d)):=by
 obtain ⟨i0,hi,hz0,hz1,hz2⟩:=info_parts nS;obtain ⟨ax,aM4,rfl,aL8,aL7,hrx⟩:=hx.read;obtain ⟨ay,aM3,rfl,aA2,aL6,hry⟩:=hy.read;rw [hl] at hry ⊢;rw [hl] at aA2;obtain ⟨Nw,lHD,Oy,rfl,HD⟩:=hd;replace HD:=zh HD;obtain ⟨bk,ofk,pk,nk,ck,rfl,lk1,lk2,lk3,lk4⟩:=hrx k hk;obtain ⟨bj,ofj,pj,nj,cj,rfl,lj1,lj2,lj3,lj4⟩:=hry k hk;have HRX:=zh hrx;have HRY:=zh hry;have HX:=zh (fun i=>Nat.le_trans (k1 i) (show 1000000000≤549755813888 by omega));have HY:=zh (fun i=>Nat.le_trans (k2 i) (show 1000000000≤549755813888 by omega))
 have HZ:Hid (∀ j,sz 1000000000 (ys.getD k 0*xs.getD j 0).natAbs≤549755813888∧sz 1000000000 (-(xs.getD k 0*ys.getD j 0)).natAbs≤549755813888∧sz 1000000000 (ys.getD k 0*xs.getD j 0+ -(xs.getD k 0*ys.getD j 0)).natAbs≤549755813888):=zh fun j=>by
  have a1:=iH (ys.getD k 0) (xs.getD j 0);have a2:=iH (xs.getD k 0) (ys.getD j 0);have a3:=rA (ys.getD k 0*xs.getD j 0) (-(xs.getD k 0*ys.getD j 0));have b1:=k1 j;have b2:=k2 j;have b3:=k1 k;have b4:=k2 k;rw [Int.natAbs_neg] at a3 ⊢;omega
 have H0:=zh h0;have HK1:=zh lk4;have HJ1:=zh lj4;clear hx hy hrx hry k1 k2 h0 lk4 lj4;obtain ⟨f,EF⟩:∃ f,Hid (Cz xs ys k d=f):=⟨_,zh rfl⟩;have Yk:Hid (∀ j,quo (ys.getD k 0*xs.getD j 0+ -(xs.getD k 0*ys.getD j 0)) d=f j):=zh fun j=>by rw [← EF.out];rfl
 unfold comb;rw [EF.out];go_enter Tryz.func133,Tryz.ntmps133
 go_wp2_with (at_make;refine wpList_make_full _ rfl _ _ 114 rfl w.heap.size 112 i0 (.agg #[.slice none 0 0,.bool false]) 2 Tryz.underlying114 hi hz0 hz1 _ _ _ _ xs.length rfl rfl zo zo (by rw [hz2];omega) (by unfold maxLen;omega) zi ?_)
 intro w1 hown hgrow;obtain ⟨w0,Yz⟩:∃ y:World,Hid (w.alloc (.cells #[.slice Nw lHD Oy,.bool (decide (d<0))] 112)=y):=⟨_,zh rfl⟩;have hbw0:Below w.heap.size w w0:=by rw [← Yz.out];exact ah
 have BD:au w0 w.heap.size #[.slice Nw lHD Oy,.bool (decide (d<0))] 112:=by rw [← Yz.out];exact aT
 rw [Yz.out] at hgrow;have hbg:Below w0.heap.size w0 w1:=(Below.refl _ _).grown hgrow (Nat.le_refl _) (fun k hk=>by cases hk);have HF:Hid (Fill w1 (w.heap.size+1) 112 xs.length 0 (gq f)):=zh (Fill.start hown);replace BD:=BD.later hbg;have hb1:Below w.heap.size w w1:=Bt hbw0 hbg;clear hown hgrow hbg hbw0;go_wp2_with fail
 go_loopw [18] (fun iv wr=>∃ j:Nat,iv= .int .i64 (j:Int)∧j≤xs.length∧Hid (Fill wr (w.heap.size+1) 112 xs.length j (gq f))∧Hid (au wr w.heap.size #[.slice Nw lHD Oy,.bool (decide (d<0))] 112)∧Below w.heap.size w wr) (fun iv _=>xs.length - (intOf iv).toNat)
 case atStart=>exact ⟨0,rfl,by omega,HF,zh BD,hb1⟩
 case round =>
  clear BD HF hb1;obtain ⟨j,rfl,hj,HF,HBD,hb⟩:=hrel
  rcases Nat.lt_or_ge j xs.length with hlt|hge
  ·obtain ⟨b1,o1,p1,n1,c1,e1,m1,m2,m3,m4⟩:=HRX.out j hlt;cases e1
   obtain ⟨b2,o2,p2,n2,c2,e2,r1,r2,r3,r4⟩:=HRY.out j hlt;cases e2
   have Pm:=(hb.cell (p:=⟨bk,ofk+k*2,none⟩) lk1).trans lk2;have Pk:=(hb.cell (p:=⟨bk,ofk+k*2+1,none⟩) lk1).trans lk3;have cx3:=(hb.cell (p:=⟨bk,ofk+j*2,none⟩) lk1).trans m2;have cx4:=(hb.cell (p:=⟨bk,ofk+j*2+1,none⟩) lk1).trans m3;have BO:=(hb.cell (p:=⟨bj,ofj+k*2,none⟩) lj1).trans lj2;have Oq:=(hb.cell (p:=⟨bj,ofj+k*2+1,none⟩) lj1).trans lj3;have cy3:=(hb.cell (p:=⟨bj,ofj+j*2,none⟩) lj1).trans r2;have cy4:=(hb.cell (p:=⟨bj,ofj+j*2+1,none⟩) lj1).trans r3;have aJ4:bk<wr.heap.size:=Nat.lt_of_lt_of_le lk1 hb.size;have aJ3:bj<wr.heap.size:=Nat.lt_of_lt_of_le lj1 hb.size;have Ur:=zh (HK1.out.later hb);have OX:=zh (HJ1.out.later hb);have Xd:=zh (m4.later hb);have HM4:=zh (r4.later hb);have yD:=zh (HD.out.later hb);have S1:=zh (HX.out k);have S2:=zh (HY.out k);have S3:=zh (HX.out j);have S4:=zh (HY.out j);have SZ:=zh (HZ.out j);have HFJ:=zh (Yk.out j);have BD:=HBD.out
   have Mi:=BD.cell;have LY:=BD.free;have LB:=BD.lt;have lG:=HF.out.lt;clear m1 m2 m3 m4 r1 r2 r3 r4 HBD;generalize xs.getD k 0=xk at *;generalize ys.getD k 0=yk at *;generalize xs.getD j 0=xj at *;generalize ys.getD j 0=yj at *;generalize hfj:f j=fj at *;have aE0:=zh hfj;clear hfj;obtain ⟨p,Ep⟩:∃ y:Int,Hid (yk*xj=y):=⟨_,zh rfl⟩;obtain ⟨q,Eq⟩:∃ y:Int,Hid (xk*yj=y):=⟨_,zh rfl⟩;rw [Ep.out,Eq.out] at SZ HFJ;obtain ⟨mq,Em⟩:∃ y:Int,Hid (-q=y):=⟨_,zh rfl⟩;rw [Em.out] at SZ HFJ;obtain ⟨z,Ez⟩:∃ y:Int,Hid (p+mq=y):=⟨_,zh rfl⟩;rw [Ez.out] at SZ HFJ;go_wp2_with fail
   refine aD [(.pure,0),(.pure,1),(.pure,2),(.read,3),(.pure,4),(.pure,5),(.pure,6),(.read,7),(.pure,9),(.pure,10),(.pure,11),(.read,12),(.pure,13),(.pure,14),(.pure,15),(.read,16),(.ext,8),(.ext,17),(.alloc #[.slice none 0 0,.bool false] 112,18),(.alloc #[.slice none 0 0,.bool false] 112,19),(.fin,20),(.fin,21)] zk zk zR zP ?_;refine zV ?_;refine aG rfl rfl (fun w11 Eh J hJ=>?_);go_simp;replace Ur:=zh (aK.carry Ur.out aI Eh);replace OX:=zh (aK.carry OX.out aI Eh);replace Xd:=zh (aK.carry Xd.out aI Eh);replace HM4:=zh (aK.carry HM4.out aI Eh);replace yD:=zh (aK.carry yD.out aI Eh);replace BD:=au.later (au.drew BD) Eh;replace Mi:=BD.cell;replace LY:=BD.free;replace LB:=BD.lt;refine ((mR _ _ yk xj _ (aS.aO aI) (aS.aO aI) S2.out S3.out).mono (by rw [Ep.out];exact fun _ _ h=>h)).mono ?_
   rintro e v11 ⟨v,rfl,Ac,hv⟩;obtain ⟨aI3,lHP,aN3,rfl,HP⟩:=hv;replace HP:=zh HP;replace Ur:=zh (aK.later Ur.out Ac);replace OX:=zh (aK.later OX.out Ac);replace Xd:=zh (aK.later Xd.out Ac);replace HM4:=zh (aK.later HM4.out Ac);replace yD:=zh (aK.later yD.out Ac);replace BD:=au.later (BD) Ac;replace Mi:=BD.cell;replace LY:=BD.free;replace LB:=BD.lt;refine hJ _ _ Ac ?_;clear hJ J;refine aG rfl rfl (fun w12 jF J hJ=>?_);go_simp;replace HP:=zh (aK.carry HP.out aI jF);replace yD:=zh (aK.carry yD.out aI jF);replace BD:=au.later (BD) jF;replace Mi:=BD.cell;replace LY:=BD.free;replace LB:=BD.lt;refine ((mR _ _ xk yj _ (aS.aO aI) (aS.aO aI) S1.out S4.out).mono (by rw [Eq.out];exact fun _ _ h=>h)).mono ?_;rintro e v12 ⟨v,rfl,JX,hv⟩;obtain ⟨am1,lHQ,at5,rfl,HQ⟩:=hv;replace HQ:=zh HQ
   replace HP:=zh (aK.later HP.out JX);replace yD:=zh (aK.later yD.out JX);replace BD:=au.later (BD) JX;replace Mi:=BD.cell;replace LY:=BD.free;replace LB:=BD.lt;refine hJ _ _ JX ?_;clear hJ J;refine aX rfl (fun b13 w13 az0 Cr RJ XY dU=>?_);go_simp;replace dU:au _ _ _ _:=dU;have LU:w.heap.size≤b13:=(by first|omega|exact Nat.le_trans (Below.size (B:=w.heap.size) ah) Cr);replace BD:=au.later (BD) az0;replace Mi:=BD.cell;replace LY:=BD.free;replace LB:=BD.lt;refine aX rfl (fun b14 w14 an3 ar6 az5 ar9 kF=>?_);go_simp;replace kF:au _ _ _ _:=kF;have aF2:w.heap.size≤b14:=(by first|omega|exact Nat.le_trans (Below.size (B:=w.heap.size) ah) ar6)
   replace BD:=au.later (BD) an3;replace Mi:=BD.cell;replace LY:=BD.free;replace LB:=BD.lt;replace dU:=au.later (dU) an3;replace Az:=dU.cell;replace Ap:=dU.free;replace zH:=dU.lt;refine aL [_,_] rfl (fun w15 Og=>?_);replace BD:=au.later (BD) Og;replace Mi:=BD.cell;replace LY:=BD.free;replace LB:=BD.lt;replace dU:=au.later (dU) Og;replace Az:=dU.cell;replace Ap:=dU.free;replace zH:=dU.lt;replace kF:=au.later (kF) Og;replace SY:=kF.cell;replace Sr:=kF.free;replace Ri:=kF.lt;have n1:b13≠b14:=fun e=>ar9 (by simp [e]);have n2:b14≠b13:=fun e=>n1 e.symm;replace HP:=zh (aK.carry HP.out aI Og);replace HQ:=zh (aK.carry HQ.out aI Og);replace yD:=zh (aK.carry yD.out aI Og);have hbw:Below wr.heap.size wr w15:=ah;have n3:w.heap.size≠b13:=by omega
   have n4:w.heap.size≠b14:=by omega
   go_wp2_with fail
   have KP:=zh SZ.out.1;have KM:=zh SZ.out.2.1;have KZ:=zh SZ.out.2.2;refine aD [(.pure,0),(.pure,1),(.read,2),(.read,3),(.read,6),(.ext,4),(.ext,5),(.ext,7),(.pure,8),(.fin,9)] zk zk zR zP ?_;refine zV ?_;refine aG rfl rfl (fun w16 He J hJ=>?_);go_simp;replace HP:=zh (aK.carry HP.out aI He);replace HQ:=zh (aK.carry HQ.out aI He);replace yD:=zh (aK.carry yD.out aI He);replace dU:au _ (b13) _ _:=au.later aT He;(try simp only [List.setIfInBounds_toArray,List.set_cons_zero,List.set_cons_succ] at dU);replace Az:=dU.cell;replace Ap:=dU.free;replace zH:=dU.lt;replace kF:au _ (b14) _ _:=au.later aT He;(try simp only [List.setIfInBounds_toArray,List.set_cons_zero,List.set_cons_succ] at kF);replace SY:=kF.cell;replace Sr:=kF.free;replace Ri:=kF.lt
   replace BD:au _ (w.heap.size) _ _:=au.later aT He;(try simp only [List.setIfInBounds_toArray,List.set_cons_zero,List.set_cons_succ] at BD);replace Mi:=BD.cell;replace LY:=BD.free;replace LB:=BD.lt;refine ((nP _ q _ (aS.aO aI)).mono (by rw [Em.out];exact fun _ _ h=>h)).mono ?_;rintro e v16 ⟨v,rfl,hc16,hv⟩;obtain ⟨Jy,Zt,Kh,rfl,HN⟩:=hv;replace HN:=zh HN;replace HP:=zh (aK.later HP.out hc16);replace HQ:=zh (aK.later HQ.out hc16);replace yD:=zh (aK.later yD.out hc16);replace dU:=au.later (dU) hc16;replace Az:=dU.cell;replace Ap:=dU.free;replace zH:=dU.lt;replace kF:=au.later (kF) hc16;replace SY:=kF.cell;replace Sr:=kF.free;replace Ri:=kF.lt;replace BD:=au.later (BD) hc16;replace Mi:=BD.cell;replace LY:=BD.free;replace LB:=BD.lt;refine hJ _ _ hc16 ?_;clear hJ J
   refine aG rfl rfl (fun w17 rY J hJ=>?_);go_simp;replace yD:=zh (aK.carry yD.out aI rY);replace BD:=au.later (BD) rY;replace Mi:=BD.cell;replace LY:=BD.free;replace LB:=BD.lt;refine ((sQ _ _ p mq _ (aS.aO aI) (aS.aO aI) KP.out KM.out).mono (by rw [Ez.out];exact fun _ _ h=>h)).mono ?_;rintro e v17 ⟨v,rfl,hc17,hv⟩;obtain ⟨al9,lHS,as9,rfl,HS⟩:=hv;replace HS:=zh HS;replace yD:=zh (aK.later yD.out hc17);replace BD:=au.later (BD) hc17;replace Mi:=BD.cell;replace LY:=BD.free;replace LB:=BD.lt;refine hJ _ _ hc17 ?_;clear hJ J;refine aG rfl rfl (fun Uh BM J hJ=>?_);go_simp;replace yD:=zh (aK.carry yD.out aI BM);replace BD:=au.later (BD) BM;replace Mi:=BD.cell;replace LY:=BD.free;replace LB:=BD.lt
   refine ((Qn _ _ z d _ (aS.aO aI) (aS.aO aI) H0.out KZ.out).mono (by rw [HFJ.out];exact fun _ _ h=>h)).mono ?_;rintro e v18 ⟨v,rfl,hc18,hv⟩;obtain ⟨DC,Vx,Eu,rfl,HV⟩:=hv;replace HV:=zh HV;replace yD:=zh (aK.later yD.out hc18);replace BD:=au.later (BD) hc18;replace Mi:=BD.cell;replace LY:=BD.free;replace LB:=BD.lt;refine hJ _ _ hc18 ?_;clear hJ J;refine zV ?_;refine aL [_] rfl (fun UK VU=>?_);replace BD:=au.later (BD) VU;replace Mi:=BD.cell;replace LY:=BD.free;replace LB:=BD.lt;replace HV:=zh (aK.later HV.out VU)
   have R5:Below wr.heap.size wr UK:=by
    have hs:=hbw.size;exact ah
   replace HF:Hid (Fill UK (w.heap.size+1) 112 xs.length j (gq f)):=zh (HF.out.later R5 (gq.later R5));obtain ⟨⟨y1,BO⟩,⟨y2,Oq⟩,fy⟩:=HF.out.cells hlt;have LD:=HF.out.rX;have ar1:Below w.heap.size w UK:=Bt hb R5;have hne:w.heap.size≠w.heap.size+1:=by omega
   go_wp2_with fail
   go_roundw
   case rel =>
    refine ⟨j+1,by go_num,by omega,zh (HF.out.step hlt (fun i x y h=>gq.jP LD.setCell zd _ _ _ (gq.jP LD zd _ _ _ h)) (by unfold gq;rw [aE0.out];exact ⟨_,_,_,rfl,rfl,(HV.out.jP LD zd).jP LD.setCell zd⟩)),zh ((BD.setOther _ hne).setOther _ hne),(ar1.setCell zi _).setCell zi _⟩
   case measure=>exact zM
  ·obtain rfl:j=xs.length:=by omega
   have hfin:bN wr (.slice (some ⟨w.heap.size+1,0,none⟩) xs.length xs.length) ((List.range xs.length).map f):=by
    have hl2:((List.range xs.length).map f).length=xs.length:=by simp
    have hF:=HF.out
    have:bN wr (.slice (some ⟨w.heap.size+1,0,none⟩) ((List.range xs.length).map f).length ((List.range xs.length).map f).length) ((List.range xs.length).map f):=by
     refine bN.rG ?_ (by rw [hl2];omega);rw [hl2];obtain ⟨arr,g1,g2,g3⟩:=hF;refine ⟨arr,g1,g2,fun i hi=>?_⟩;obtain ⟨x,y,k1,k2,pa,l,ca,k3,k4,k5⟩:=g3 i hi;have e:((List.range xs.length).map f).getD i 0=f i:=by simp [hi]
     exact ⟨x,y,k1,k2,pa,l,ca,k3,by simp only [e];exact k4,by simp only [e];exact k5⟩
    rw [hl2] at this;exact this
   have ac2:=zh hfin;clear hfin;go_wp2_with fail
   go_ret
   exact ⟨_,_,_,rfl,by omega,hb,ac2.out⟩
def grow (S:Nat):Nat→Nat
 | 0=>S
 | k+1=>2*grow S k+1
theorem VZ {S k:Nat} (h:k≤4):grow S k≤16*S+15:=by
 have:k=0∨k=1∨k=2∨k=3∨k=4:=by omega
 rcases this with rfl|rfl|rfl|rfl|rfl<;>simp [grow]<;>omega
def Ub (w:World) (B off n:Nat) (R:Int × Bool × IM) (e:Ending) (w':World):Prop :=
 ∃ v,e= .returned (.tuple #[v,.bool R.2.1])∧fM w w' B∧aS w' v R.1∧nY w' B off n (fun i=>R.2.2.getD i [])
def mix (rs:IM) (k:Nat) (p:Int) (i j:Nat):List Int:=if j<i then gY rs k p j else rs.getD j []
theorem GL (rs:IM) (k:Nat) (p:Int) (i j:Nat):(if j=i then gY rs k p i else mix rs k p i j)=mix rs k p (i+1) j:=by
 unfold mix
 by_cases h:j=i
 ·subst h;simp
 ·rw [if_neg h]
  by_cases h2:j<i
  ·rw [if_pos h2,if_pos zo]
  ·rw [if_neg h2,if_neg zo]
theorem QU (rs:IM) (k:Nat) (p:Int) (j:Nat):mix rs k p k j=mix rs k p (k+1) j:=by
 rw [← GL]
 by_cases h:j=k
 ·subst h;rw [if_pos rfl];simp [mix,gY]
 ·rw [if_neg h]
theorem QV (rs:IM) (k:Nat) (p:Int) (i:Nat):mix rs k p i i=rs.getD i []:=by unfold mix;rw [if_neg zo]
theorem QT (rs:IM) (k:Nat) (p:Int) (j:Nat):mix rs k p 0 j=rs.getD j []:=by unfold mix;rw [if_neg zo]
theorem am8 (rs:IM) (k:Nat) (p:Int) (i:Nat):mix rs k p i k=rs.getD k []:=by
 unfold mix gY;split<;>simp
theorem uS (B off n c cap S:Nat) (rs:IM) (w:World) (h:nY w B off n (fun i=>rs.getD i [])) (hf:rs.fits n c S) (h1:1≤n) (hn:n≤4) (hnc:n≤c) (hc:c≤1000) (hS:S≤10000000) (hS1:1≤S) (hcap:n≤cap) (hcap2:cap≤9223372036854775807) :
  Calls Tryz.prog 73 #[.slice (some ⟨B,off,none⟩) n cap] w (Ub w B off n (elim n 0 rs 1 false)):=by
 have H0:=zh h.Xt;have HF:=zh hf;have HS:=zh hS;have hlt:=h.Xt.lt;obtain ⟨R,ER⟩:∃ R,Hid (elim n 0 rs 1 false=R):=⟨_,zh rfl⟩;rw [ER.out];clear h hf hS;go_enter Tryz.func73,Tryz.ntmps73
 go_wp2_with fail
 obtain ⟨w1,Ew1⟩:∃ y:World,Hid (((w.alloc (.cells #[.slice (some ⟨w.heap.size+1,0,none⟩) 1 1,.bool false] 112)).alloc (.cells #[.int .u32 1] 65))=y):=⟨_,zh rfl⟩;have hb1:Below w.heap.size w w1:=by rw [← Ew1.out];exact ah
 have XW:au w1 w.heap.size #[.slice (some ⟨w.heap.size+1,0,none⟩) 1 1,.bool false] 112:=by rw [← Ew1.out];exact aT
 have hP:au w1 w.heap.size #[.slice (some ⟨w.heap.size+1,0,none⟩) 1 1,.bool (decide ((1:Int)<0))] 112:=XW
 have hZ1:sz 1000000000 (1:Int).natAbs≤grow S 0:=by
  have:sz 1000000000 (1:Int).natAbs=1:=by decide+kernel
  rw [this];exact hS1
 have HZ1:=zh hZ1
 have hM1:aK w1 (.slice (some ⟨w.heap.size+1,0,none⟩) 1 1) ((1:Int).natAbs):=by
  rw [← Ew1.out];have:=aK.lit (w:=w.alloc (.cells #[.slice (some ⟨w.heap.size+1,0,none⟩) 1 1,.bool false] 112)) (d:=1) zo zo
  simpa using this
 have HR1:=zh (H0.out.later hb1);have MG:=zh ((fM.refl w B).below hb1);have IL:=zh hP;have Ur:=zh hM1;rw [Ew1.out];have hne:B≠w.heap.size:=by omega
 have hne2:w.heap.size≠B:=by omega
 clear hP XW hM1 hb1 hZ1 H0
 go_loopw [12,3] (fun kv tv wr=>∃ (k:Nat) (t:Bool) (rk:IM) (p:Int) (pa:Option Addr) (l ca:Nat),kv= .int .i64 (k:Int)∧tv= .bool t∧k≤n∧Hid (elim (n - k) k rk p t=R)∧Hid (rk.fits n c (grow S k))∧Hid (p≠0)∧Hid (sz 1000000000 p.natAbs≤grow S k) ∧
  Hid (fu wr w.heap.size B off n (fun i=>rk.getD i []))∧Hid (au wr w.heap.size #[.slice pa l ca,.bool (decide (p<0))] 112)∧Hid (aK wr (.slice pa l ca) p.natAbs)∧Hid (fM w wr B)) (fun kv _ _=>n - (intOf kv).toNat)
 case atStart=>exact ⟨0,false,rs,1,_,_,_,rfl,rfl,by omega,by rw [Nat.sub_zero];exact ER,HF,zh zd,HZ1,HR1,IL,Ur,MG⟩
 case round =>
  clear HR1 MG IL Ur HF ER Ew1 HZ1;obtain ⟨k,t,rk,p,pa,l,ca,rfl,rfl,hk,HE,HF,H0,HZ,HR,HP,HM,HN⟩:=hrel;obtain ⟨wo,hwo⟩:∃ y,y=wr:=⟨_,rfl⟩;subst hwo;have cP:=HP.out.cell;have fP:=HP.out.free;have lP:=HP.out.lt;have lB:=HR.out.lt
  rcases Nat.lt_or_ge k n with hlt|hge
  ·have hlt2:(k:Int)<(n:Int):=by omega
   go_wp2_with fail
   go_step3
   go_wp2_with fail
   go_step3
   go_wp2_with fail
   go_loopw [6,5] (fun iv av wr=>∃ i:Nat,iv= .int .i64 (i:Int)∧av= .int .i64 (-1)∧k≤i∧i≤n∧wr=wo∧Hid (∀ j,k≤j→j<i→rk.at j k=0)) (fun iv _ _=>n - (intOf iv).toNat)
   case atStart=>exact ⟨k,rfl,rfl,Nat.le_refl _,by omega,rfl,zh (fun j h1 h2=>by omega)⟩
   case round =>
    obtain ⟨i,rfl,rfl,hki,hin,hwr,H0s⟩:=hrel;subst hwr
    rcases Nat.lt_or_ge i n with RN|hgi
    ·have aL0:(i:Int)<(n:Int):=by omega
     obtain ⟨a,cc,ci,hl1,hl2,hiv,hoff⟩:=HR.out.get RN;obtain ⟨f1,f2,f3⟩:=HF.out;obtain ⟨b,o,pe,ne,ce,rfl, -, lb,ce1,ce2,hme⟩:=hiv.elem hoff (show k<(rk.getD i []).length by rw [f2 i RN];omega);rw [f2 i RN] at hl1 ci;have HME:=zh hme;have HAT:Hid ((rk.getD i []).getD k 0=rk.at i k):=zh rfl;rw [HAT.out] at HME;have hkc:k<c:=by omega
     clear hiv hoff hme f1 f2 f3;go_wp2_with fail
     refine (fQ _ _ _ HME.out).mono ?_;rintro e w1 ⟨rfl,rfl⟩
     by_cases hz:rk.at i k=0
     ·have HZ0:=zh hz;have b1:decide ((rk.at i k).natAbs=0)=true:=by rw [hz];rfl
      rw [b1];clear hz b1;go_wp2_with fail
      go_roundw
      case rel=>exact ⟨i+1,by go_num,rfl,by omega,by omega,trivial,zh fun j h1 h2=>by
       rcases Nat.lt_or_ge j i with h|h
       ·exact H0s.out j h1 h
       ·obtain rfl:j=i:=by omega
        exact HZ0.out⟩
      case measure=>exact zM
     ·have HZ0:=zh hz;have b1:decide ((rk.at i k).natAbs=0)=false:=by simp [hz]
      have aC7:decide ((i:Int)<0)=false:=by simp
      rw [b1];clear b1 hz ci ce1 ce2
      go_upto_if 38 with fail
      obtain ⟨Dq,YB⟩:∃ y:IM,Hid ((if i=k then rk else mO rk i k)=y):=⟨_,zh rfl⟩;obtain ⟨t1,ET1⟩:∃ y:Bool,Hid ((if i=k then t else !t)=y):=⟨_,zh rfl⟩
      go_cut [3] from 13 to 85 (fun tv wx=>tv= .bool t1∧Hid (fu wx w.heap.size B off n (fun j=>Dq.getD j []))∧Hid (au wx w.heap.size #[.slice pa l ca,.bool (decide (p<0))] 112)∧Hid (aK wx (.slice pa l ca) p.natAbs)∧Hid (fM w wx B))
      case first =>
       by_cases hik:i=k
       ·have b2:((i:Int) != (k:Int))=false:=by simp [hik]
        have EI:=zh hik;clear hik;go_wp2_with fail
        go_meet
        case rel =>
         rw [if_pos EI.out] at YB ET1;exact ⟨by rw [ET1.out],by rw [← YB.out];exact HR,HP,HM,HN⟩
       ·have b2:((i:Int) != (k:Int))=true:=by simp;omega
        have EI:=zh hik;clear hik;obtain ⟨ai,cci,ci1, -, -, BK,Cn⟩:=HR.out.get RN;obtain ⟨ak,cck,ci2, -, -, BJ,uM⟩:=HR.out.get hlt;have f2:=HF.out.2.1;rw [f2 i RN] at ci1 BK Cn;rw [f2 k hlt] at ci2 BJ uM;clear f2;have HI1:=zh BK;have HI2:=zh BJ;have Xb:=zh Cn;have kK:=zh uM;have fB:=HR.out.free;clear BK BJ Cn uM;go_wp2_with fail
        refine aD [(.pure,0),(.pure,1),(.pure,2),(.pure,3),(.pure,4),(.pure,5),(.pure,6),(.read,7),(.pure,8),(.pure,9),(.pure,10),(.read,11),(.pure,12),(.fin,13),(.fin,14),(.fin,15)] zk zk zR zP ?_;refine zV ?_;refine aL [_,_,_] rfl (fun w2 hb2=>?_);have hb2':Below wr.heap.size wr w2:=ah;replace HR:=zh (HR.out.later hb2');replace HI1:=zh (HI1.out.later hb2');replace HI2:=zh (HI2.out.later hb2');replace HM:=zh (HM.out.later hb2');replace HN:=zh (HN.out.below hb2');replace HP:=zh (HP.out.later hb2');have XG:=HR.out.rX;replace fB:=HR.out.free;obtain ⟨_,_,ci1, -⟩:=HR.out.get RN;obtain ⟨_,_,ci2, -⟩:=HR.out.get hlt;have hnk:¬ off+i=off+k:=by have:=EI.out;omega
        have aK2:¬ off+k=off+i:=by omega
        go_wp2_with fail
        go_meet
        case rel =>
         rw [if_neg EI.out] at YB ET1;refine ⟨by rw [ET1.out],zh ?_,zh ((HP.out.setOther _ hne2).setOther _ hne2),zh ((HM.out.jP XG zd).jP XG.setCell zd),zh ((HN.out.set _ _).set _ _)⟩;refine ((HR.out.set RN HI2.out kK.out).set hlt (HI1.out.kept (Keep.setCell XG) zd zd) Xb.out).congr fun j hj=>?_;rw [← YB.out,oU HF.out.1 RN hlt hj]
         by_cases e1:j=k
         ·rw [if_pos e1,if_pos e1]
         ·rw [if_neg e1,if_neg e1]
          by_cases e2:j=i
          ·rw [if_pos e2,if_pos e2]
          ·rw [if_neg e2,if_neg e2]
      case rest =>
       obtain ⟨rfl,HR1,IL,Ur,MG⟩:=hcut;clear HR HP HM HN cP fP lP lB lb HME hl1 hl2
       have hf1:Dq.fits n c (grow S k):=by
        rw [← YB.out];split
        ·exact HF.out
        ·exact HF.out.swap RN hlt
       have hp1:Dq.at k k=rk.at i k:=by
        rw [← YB.out];split
        ·rename_i h;rw [h]
        ·exact Nb HF.out.1 RN hlt
       have hE1:elim (n - (k+1)) (k+1) (iO Dq k p) (Dq.at k k) t1=R:=by
        rw [← HE.out];obtain ⟨m,hm⟩:∃ m,n - k=m+1:=⟨n - k - 1,by omega⟩;have hm2:n - (k+1)=m:=by omega
        rw [hm,hm2]
        conv=>rhs;unfold elim
        rw [Np hki (by rw [HF.out.1];exact RN) (fun j h1 h2=>H0s.out j h1 h2) HZ0.out];simp only [YB.out,ET1.out]
       have HF1:=zh hf1;have CV:=zh (show Dq.at k k≠0 by rw [hp1];exact HZ0.out);have OZ:=zh hE1;clear hf1 hp1 hE1 HE HF H0s HZ0 YB ET1 HAT aC7;replace HR1:=zh (HR1.out.congr (g:=mix Dq k p 0) fun j hj=>(QT _ _ _ _).symm);go_wp2_with fail
       go_loopw [57] (fun jv wr=>∃ j:Nat,jv= .int .i64 (j:Int)∧j≤n∧Hid (fu wr w.heap.size B off n (mix Dq k p j))∧Hid (au wr w.heap.size #[.slice pa l ca,.bool (decide (p<0))] 112)∧Hid (aK wr (.slice pa l ca) p.natAbs)∧Hid (fM w wr B)) (fun jv _=>n - (intOf jv).toNat)
       case atStart=>exact ⟨0,rfl,by omega,HR1,IL,Ur,MG⟩
       case round =>
        clear HR1 IL Ur MG;obtain ⟨j,rfl,hj,HR,HP,HM,HN⟩:=hrel;have cP:=HP.out.cell;have fP:=HP.out.free;have lP:=HP.out.lt;have lB:=HR.out.lt;obtain ⟨ak,cck,ci2,RV,aL9,BJ,uM⟩:=HR.out.get hlt;have f2:=HF1.out.2.1;rw [am8,f2 k hlt] at ci2 RV BJ uM
        rcases Nat.lt_or_ge j n with hlj|hgj
        ·have aK8:(j:Int)<(n:Int):=by omega
         by_cases hjk:j=k
         ·have b2:((j:Int) != (k:Int))=false:=by simp [hjk]
          have EI:=zh hjk;clear hjk f2 BJ uM;go_wp2_with fail
          exact ⟨⟨j+1,by go_num,by omega,zh (HR.out.congr fun x _=>by rw [EI.out];exact QU _ _ _ _),HP,HM,HN⟩,by simp only [intOf];omega⟩
         ·have b2:((j:Int) != (k:Int))=true:=by simp;omega
          have EI:=zh hjk;obtain ⟨aj,ccj,ci1,RY,Od,BK,Cn⟩:=HR.out.get hlj;rw [QV,f2 j hlj] at ci1 RY BK Cn;have HI1:=zh BK;have HI2:=zh BJ;have hS1:=HS.out;have hg1:=VZ (S:=S) (k:=k) zo
          have HCO:Hid (∀ w',Below wr.heap.size wr w'→Calls Tryz.prog 133 #[.slice aj c ccj,.slice ak c cck,.int .i64 (k:Int),.agg #[.slice pa l ca,.bool (decide (p<0))]] w' (fun e w''=>∃ g m cg,e= .returned (.slice (some ⟨g,0,none⟩) m cg)∧w'.heap.size≤g∧Below w'.heap.size w' w''∧bN w'' (.slice (some ⟨g,0,none⟩) m cg) (gY Dq k p j))):=zh fun w' hb=>by
           have:=Ih _ _ _ (Dq.getD j []) (Dq.getD k []) k p w' (HI1.out.later hb) (HI2.out.later hb) (aS.aO (HM.out.later hb)) (by rw [f2 j hlj,f2 k hlt]) (by rw [f2 j hlj];exact hkc) (by rw [f2 j hlj];exact hc) H0.out (fun i=>Nat.le_trans (HF1.out.2.2 j i) zo) (fun i=>Nat.le_trans (HF1.out.2.2 k i) zo);unfold gY;rw [if_neg EI.out];exact this
          clear hjk BK BJ Cn uM f2 hS1 hg1;go_wp2_with fail
          refine aD [(.pure,0),(.pure,1),(.pure,2),(.pure,3),(.pure,4),(.read,5),(.pure,6),(.pure,7),(.pure,8),(.read,9),(.pure,10),(.read,11),(.ext,12),(.pure,13),(.fin,14)] zk zk zR zP ?_;refine zV ?_;refine aG rfl rfl (fun w2 hb2 J hJ=>?_);go_simp;have hb2':Below wr.heap.size wr w2:=ah;refine (HCO.out _ hb2').mono ?_;rintro e w3 ⟨g,m,cg,rfl,hg,hc3,hiv⟩;have HIV:=zh hiv;clear hiv;refine hJ _ _ hc3 ?_;clear hJ J;refine zV ?_;refine aL [_] rfl (fun w4 hb4=>?_);have VT:Below wr.heap.size wr w4:=Bt (Bt hb2' hc3) hb4
          have hoff:Off w.heap.size (.slice (some ⟨g,0,none⟩) m cg):=by
           intro a m' c' e;have:=hb2'.size;cases e
           show g≠w.heap.size
           omega
          replace HR:=zh (HR.out.later VT);replace HIV:=zh (HIV.out.later hb4);replace HM:=zh (HM.out.later VT);replace HN:=zh (HN.out.below VT);replace HP:=zh (HP.out.later VT);have HOF:=zh hoff;have XG:=HR.out.rX;have fB:=HR.out.free;obtain ⟨_,_,ci3, -⟩:=HR.out.get hlj;clear ci1 ci2 cP fP lP hoff hb2 hb4;go_wp2_with fail
          go_roundw
          case rel =>
           refine ⟨j+1,by go_num,by omega,zh ((HR.out.set hlj HIV.out HOF.out).congr fun x _=>GL Dq k p j x),zh (HP.out.setOther _ hne2),zh (HM.out.jP XG zd),zh (HN.out.set _ _)⟩
          case measure=>exact zM
        ·have hjN:n=j:=by omega
         subst hjN
         replace HR:=zh (HR.out.congr (g:=fun x=>(iO Dq k p).getD x []) fun x hx=>by
          rw [jw (by rw [HF1.out.1];exact hx)];unfold mix;rw [if_pos hx])
         have hkl:k<(Dq.getD k []).length:=by rw [f2 k hlt];exact hkc
         obtain ⟨be,oe,pe,ne,ce,rfl,hbe,lbe,ce1,ce2,hme⟩:=BJ.elem uM hkl;have HME:=zh hme;have HAT:Hid ((Dq.getD k []).getD k 0=Dq.at k k):=zh rfl;rw [HAT.out] at HME ce2;clear hme BJ uM f2 hkl;go_wp2_with fail
         rw [Exit.noGoto_normal];go_wp2_with fail
         have Pg:=HP.out.rX
         have hpz:sz 1000000000 (Dq.at k k).natAbs≤grow S (k+1):=by
          have:=HF1.out.2.2 k k;simp only [grow];omega
         refine ⟨⟨k+1,t1,iO Dq k p,Dq.at k k,pe,ne,ce,by go_num,rfl,by omega,OZ,zh (HF1.out.clear p),CV,zh hpz,zh ((HR.out.qo Pg).qo Pg.setCell),zh ((HP.out.set 0 _).set 1 _),zh ((HME.out.jP Pg zd).jP Pg.setCell zd),zh ((HN.out.gG (Nat.le_refl _) _ _).gG (Nat.le_refl _) _ _)⟩,by simp only [intOf];omega⟩
    ·have hiN:i=n:=by omega
     have hR:R=(0,false,rk):=by
      rw [← HE.out];obtain ⟨m,hm⟩:∃ m,n - k=m+1:=⟨n - k - 1,by omega⟩;rw [hm];unfold elim;rw [Nq (fun j h1 h2=>H0s.out j h1 (by have:=HF.out.1;omega))]
     have HRR:=zh hR;clear hR hiN;go_wp2_with fail
     rw [Exit.noGoto_ret];go_wp2_with fail
     refine aP rfl rfl ((HP.out.set 0 _).set 1 _) Tryz.underlying112 rfl zk ?_;have Pg:=HP.out.rX;refine ⟨_,by rw [HRR.out];rfl,(HN.out.gG (Nat.le_refl _) _ _).gG (Nat.le_refl _) _ _,?_,?_⟩
     ·rw [HRR.out];exact ⟨none,0,0,rfl,aK.zero _⟩
     ·rw [HRR.out];exact ((HR.out.qo Pg).qo Pg.setCell).Xu
  ·have hkN:n=k:=by omega
   subst hkN
   have hR:R=(p,t,rk):=by
    rw [← HE.out,Nat.sub_self];rfl
   have HRR:=zh hR;clear hR;go_wp2_with fail
   refine aP rfl rfl ((HP.out.set 0 _).set 1 _) Tryz.underlying112 rfl zk ?_;have Pg:=HP.out.rX;refine ⟨_,by rw [HRR.out];rfl,(HN.out.gG (Nat.le_refl _) _ _).gG (Nat.le_refl _) _ _,?_,?_⟩
   ·rw [HRR.out];exact aS.aO ((HM.out.jP Pg zd).jP Pg.setCell zd)
   ·rw [HRR.out];exact ((HR.out.qo Pg).qo Pg.setCell).Xu
end Go.Proofs.matrix
