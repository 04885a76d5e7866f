/- Lemmas for the proof. No condition. -/
import Derived.Test.YtbngfhgoeoncmaaGreatDoorTB30
set_option linter.unusedVariables false
set_option linter.unusedSimpArgs false
set_option maxRecDepth 100000
set_option maxHeartbeats 16000000
open Bool renaming and_eq_true → aD
open Go.Ending renaming returned → ah
open Go.IntKind renaming i64 → I
open Go.Value renaming agg → aB, int → Z, slice → aj, string → O, tuple → aF
open List renaming all_eq_true → bZ, getElem_mem → bN, map_cons → bL
open Nat renaming le_refl → aG, le_trans → ay, lt_or_ge → aH, mul_pos → fV
namespace Go.Proofs.matrix
open Go Go.RowKit Go.SW Go.Num Go.Mem Go.Proofs Go.Dec Go.d9
theorem J3 (f:Nat→Int):∀ n,qc f n=wI f n
 | 0=>rfl
 | n+1=>by simp only [qc,wI];rw [J3 f n]
theorem ZY:(Tryz.prog.info? 38).map (fun i=>(i.zero,i.size,i.bytes))=some (some (.agg #[O ⟨#[]⟩,O ⟨#[]⟩]),2,32):=by kernel_rfl
def QM (w:World) (xs:List Rat) (e:Ending) (w':World):Prop :=
 (xs.all iG=true∧∃ vo,e= ah (aF #[vo,Z I 0])∧Below w.heap.size w w'∧qM w' 38 vo (xs.map Fr.of)) ∨
 (xs.all iG=false∧e= ah (aF #[aj none 0 0,Z I 6])∧Below w.heap.size w w')
def RM.ok (m:RM) (n:Nat):Prop:=1≤m.length∧m.length≤4∧1≤n∧n≤4∧∀ r∈m,r.length=n∧∀ q∈r,iG q=true
theorem KW {qs:List Rat} (h:∀ q∈qs,iG q=true):jW (qs.map Fr.of)=0:=by
 unfold jW;rw [if_pos];rw [bZ];intro a ha;obtain ⟨q,hq,rfl⟩:=List.mem_map.1 ha;rw [mF (h q hq)];rfl
theorem RM.ok.Cc {m:RM} {n:Nat} (h:m.ok n):Dv m.fr=0:=by
 obtain ⟨h1,h2,h3,h4,h5⟩:=h;unfold Dv;rw [if_pos];unfold ZO RM.fr;cases m with
 | nil=>simp at h1
 | cons r t =>
  have hr:=h5 r zi;simp only [bL,List.headD_cons,List.length_map,aD,decide_eq_true_eq];refine ⟨⟨⟨⟨by simp,by simpa using h2⟩,by omega⟩,by omega⟩,?_⟩;rw [bZ];intro x hx
  have key:∀ s∈r::t,((s.map Fr.of).length == r.length&&jW (s.map Fr.of) == 0)=true:=fun s hs=>by
   have hs2:=h5 s hs;rw [KW hs2.2,List.length_map,hs2.1,hr.1];simp
  rcases List.mem_cons.1 hx with rfl|hx
  ·exact key r zi
  ·obtain ⟨s,hs,rfl⟩:=List.mem_map.1 hx;exact key s (by simp [hs])
theorem kN.head {w:World} {v:Value} {m:RM} (h:kN w v m.fr) (h0:0<m.length) :
  ∃ b off cap a0 cap0,v= aj (some ⟨b,off,none⟩) m.length cap∧b<w.heap.size∧w.cell? ⟨b,off,none⟩=some (.slice a0 (m.headD []).length cap0):=by
 obtain ⟨rs,hR,hlen,hF⟩:=h;have hl:m.fr.length=m.length:=List.length_map _
 rcases hR.cases with ⟨rfl,rfl⟩|⟨b,off,cap,arr,rfl,k1,k2,k3,k4⟩
 ·simp at hlen;omega
 ·have h0r:0<rs.length:=by omega
  obtain ⟨a0,cap0,e0, -⟩:=(hF 0 h0r zo).read;refine ⟨b,off,cap,a0,cap0,by rw [hlen,hl],k3.lt,?_⟩;have:=(k3.cell (off+0)).trans (k4 0 h0r);rw [e0] at this;cases m with
  | nil=>simp at h0
  | cons r t=>simpa [RM.fr] using this
theorem AP {w:World} {g:Nat} {T:TypeId} {n k:Nat} {f:Nat→Fr} (h:Fill w g T n k (DL f)) {a:Addr} (u:Value) (hne:g≠a.block):Fill (w.setCell a u) g T n k (DL f):=by
 obtain ⟨arr,h1,h2,h3⟩:=h;exact ⟨arr,h1.setOther u hne,h2,h3⟩
theorem Js {w:World} {va:Option Addr} {na ca:Nat} {xss:List (List Int)} (h:G9 w (aj va na ca) xss) :
  na=xss.length∧∀ k (_:k<xss.length),∃ b off pa n cc,va=some ⟨b,off,none⟩∧b<w.heap.size∧w.cell? ⟨b,off+k,none⟩=some (.slice pa n cc)∧iq w (aj pa n cc) xss[k]:=by
 obtain ⟨rs,hR,hl,hF⟩:=h
 rcases hR.cases with ⟨h1,h2⟩|⟨b,off,cap,arr,h1, -, -, h4,h5⟩
 ·simp only [Value.slice.injEq] at h1;subst h2;have hl0:0=xss.length:=hl;exact ⟨by omega,fun k hk=>absurd hk zo⟩
 ·simp only [Value.slice.injEq] at h1;refine ⟨by rw [h1.2.1,hl],fun k hk=>?_⟩;have hk2:k<rs.length:=by omega
  have hi:=hF k hk hk2;obtain ⟨pa,cc,e, -⟩:=hi.read;refine ⟨b,off,pa,_,cc,h1.1,h4.lt,?_,e ▸ hi⟩;rw [h4.cell,h5 k hk2,e]
theorem Jt {w:World} {va:Option Addr} {na ca:Nat} {ds:List Nat} (h:Ho w (aj va na ca) ds) :
  na=ds.length∧∀ k (_:k<ds.length),∃ b off pa n cc,va=some ⟨b,off,none⟩∧b<w.heap.size∧w.cell? ⟨b,off+k,none⟩=some (.slice pa n cc)∧aT w (aj pa n cc) ds[k]:=by
 obtain ⟨rs,hR,hl,hF⟩:=h
 rcases hR.cases with ⟨h1,h2⟩|⟨b,off,cap,arr,h1, -, -, h4,h5⟩
 ·simp only [Value.slice.injEq] at h1;subst h2;have hl0:0=ds.length:=hl;exact ⟨by omega,fun k hk=>absurd hk zo⟩
 ·simp only [Value.slice.injEq] at h1;refine ⟨by rw [h1.2.1,hl],fun k hk=>?_⟩;have hk2:k<rs.length:=by omega
  have hi:=hF k hk hk2;obtain ⟨pa,n,cc,e⟩:=hi.slice;refine ⟨b,off,pa,n,cc,h1.1,h4.lt,?_,e ▸ hi⟩;rw [h4.cell,h5 k hk2,e]
theorem AB (v vl:Value) (m:RM) (qs:List Rat) (T:TypeId) (w:World) (h:kN w v m.fr) (hl:qM w T vl (qs.map Fr.of)) (hm:m.ok qs.length) (hq:∀ q∈qs,iG q=true) (ht:iA.Pow w) :
  Calls Tryz.prog 73 #[v,vl] w (QM w (m.map fun r=>kL r qs)):=by
 have hm2:=hm;obtain ⟨m1,m4,n1,n4,hrows⟩:=hm2;obtain ⟨i0,hi,hz0,hz1,hz2⟩:=info_parts ZY;obtain ⟨b,off,cap,a0,cap0,rfl,lb,hc0⟩:=kN.head h zo
 have hw0:(m.headD []).length=qs.length:=by
  cases m with
  | nil=>simp at m1
  | cons r t=>exact (hrows r zi).1
 rw [hw0] at hc0;obtain ⟨al,ax6,rfl,al6,al5, -⟩:=hl.read;have Vg:=zh (fun w' hb=>jJ _ m.fr w' (h.later hb));rw [hm.Cc] at Vg;have NC:=zh (fun w' hb=>u7 _ (qs.map Fr.of) T w' (hl.later hb));rw [KW hq] at NC;have HRD:=zh (fun w' hb=>CG _ m w' (h.later hb) m4 (fun r hr=>⟨by have:=(hrows r hr).1;omega,(hrows r hr).2⟩));have HCM:=zh (fun w' hb=>Cb _ qs T w' (hl.later hb) hq zo);have hln:(qs.map Fr.of).length=qs.length:=List.length_map _;rw [hln] at NC HCM al6 ⊢;have ag7:=zh hrows;have HQ:=zh hq;have HT:=zh ht;clear h hl hm hq ht hrows hw0 hln;have h0m:0<m.length:=by omega
 go_enter Tryz.func73,Tryz.ntmps73
 go_wp2_with fail
 refine (Vg.out _ (Below.refl _ _)).mono ?_;rintro e v1 ⟨rfl,hc1⟩;go_wp2_with fail
 refine (NC.out _ hc1).mono ?_;rintro e v2 ⟨rfl,hc2⟩;have c0:=((Bt hc1 hc2).cell (p:=⟨b,off,none⟩) lb).trans hc0;go_wp2_with fail
 refine (HRD.out _ (Bt hc1 hc2)).mono ?_;rintro e v3 ⟨vt,rfl,hc3,htab⟩;obtain ⟨va,na,ca,vb,nb,cb,rfl,hrw,hmg⟩:=htab;have HRW:=zh hrw;have HMG:=zh hmg;clear hrw hmg;go_wp2_with fail
 refine (HCM.out _ (bG (Bt (Bt hc1 hc2) hc3) _)).mono ?_;rintro e v4 ⟨vtt,vd,rfl,hc4,hv1,hv2⟩;obtain ⟨at',ct',rfl, -⟩:=hv1.read;obtain ⟨ad,nd,cd,rfl⟩:=hv2.slice;have YF:=(aA.new v3 #[aj va na ca,aj vb nb cb] 198).later hc4;have hbv:Below v3.heap.size v3 v4:=Bt (bG (Below.refl _ _) _) hc4;replace HRW:=zh (HRW.out.later hbv);replace HMG:=zh (HMG.out.later hbv);have HVT:=zh hv1;have HVD:=zh hv2;have hbw:Below w.heap.size w v4:=Bt (Bt (Bt hc1 hc2) hc3) hbv;have htl:(qs.map (kC (eO qs))).length=qs.length:=List.length_map _;rw [htl] at HVT ⊢;obtain ⟨B8,hB8⟩:∃ x,v3.heap.size=x:=⟨_,rfl⟩;rw [hB8] at YF ⊢;have HX8:=zh YF;clear hv1 hv2 hbv YF hB8 htl
 go_wp2_with (at_make;refine wpList_make_full _ rfl _ _ 130 rfl w.heap.size 38 i0 (aB #[O ⟨#[]⟩,O ⟨#[]⟩]) 2 Tryz.underlying130 hi hz0 hz1 _ _ _ _ m.length rfl rfl zo zo (by rw [hz2];omega) (by unfold maxLen;omega) hbw.size ?_)
 intro w5 hown hgrow;have hb5:Below v4.heap.size v4 w5:=(Below.refl _ _).grown hgrow (aG _) (fun k hk=>by cases hk);have HF:=zh (Fill.start (ok:=DL (fun i=>Fr.of (kL (m.getD i []) qs))) hown);have hG:w.heap.size≤v4.heap.size:=hbw.size;obtain ⟨hna,Z9⟩:=Js HRW.out;obtain ⟨hnb,Z8⟩:=Jt HMG.out;have hl1:(m.map sN).length=m.length:=List.length_map _;have hl2:(m.map eO).length=m.length:=List.length_map _;rw [hl1] at hna;rw [hl2] at hnb;subst hna hnb;have HR1:=zh Z9;have HR2:=zh Z8;clear hown hgrow Z9 Z8 hl1 hl2 HRW HMG;go_wp2_with fail
 go_loopw [44] (fun iv wr=>∃ k:Nat,iv= Z I (k:Int)∧k≤m.length∧Hid (Fill wr v4.heap.size 38 m.length k (DL (fun i=>Fr.of (kL (m.getD i []) qs))))∧Hid (∀ i,i<k→iG (kL (m.getD i []) qs)=true)∧Below v4.heap.size v4 wr) (fun iv _=>m.length - (intOf iv).toNat)
 case atStart=>exact ⟨0,rfl,by omega,HF,zh (fun i h=>by omega),hb5⟩
 case round =>
  obtain ⟨k,rfl,hk,HF,HK,hb⟩:=hrel;have YF:=HX8.out.later hb;have c8:=YF.cell;have l8:=YF.lt
  rcases aH k m.length with hlt|hge
  ·obtain ⟨b1,off1,p1,n1,d1,rfl,e2,e3,e4⟩:=HR1.out k (by rw [List.length_map];exact hlt);obtain ⟨b2,off2,p2,n2,d2,rfl,f2,f3,f4⟩:=HR2.out k (by rw [List.length_map];exact hlt);have cr:=(hb.cell (p:=⟨b1,off1+k,none⟩) e2).trans e3;have cm:=(hb.cell (p:=⟨b2,off2+k,none⟩) f2).trans f3;have hlt2:(k:Int)<(m.length:Int):=by omega
   have hrow:=ag7.out m[k] (bN _);have hgd:m.getD k []=m[k]:=by simp [hlt]
   simp only [List.getElem_map] at e4 f4;have H4:=zh (e4.later hb);have G4:=zh (f4.later hb);have Z0:=HVT.out.later hb;have ao3:=zh Z0;have Ul:=zh (HVD.out.later hb);have Un:=zh hrow;have HGD:=zh hgd;have lG:=HF.out.lt;clear e2 e3 e4 f2 f3 f4 hrow hgd Z0;generalize m[k]=r at *;have hrl:=Un.out.1;have htl:(sN r).length=r.length:=List.length_map _
   have ah0:=zh (fun w' hb=>Xo _ _ (sN r) (qs.map (kC (eO qs))) w' (H4.out.later hb) (ao3.out.later hb) (by rw [htl,List.length_map,hrl]) zo zo
    (fun i=>ay (yj Un.out.2 zo i) zo) (fun i=>ay (yj HQ.out n4 i) zo))
   have hcr:=yt r Un.out.2;have hcq:=yt qs HQ.out;have hpr:=(lZ r).1;have hpq:=(lZ qs).1;have hprod:=fV hpr hpq;have hsp:=kg (B:=1000000000) zo (eO r) (eO qs);have PL:=Xp (r:=r) (s:=qs) hrl.symm;have KR:=zh (show sz 1000000000 (eO r)≤1099511627776 by omega);have KQ:=zh (show sz 1000000000 (eO qs)≤1099511627776 by omega)
   have hz1:sz 1000000000 (F4 (sN r) (qs.map (kC (eO qs)))).natAbs≤549755813888:=by
    unfold F4
    have:=CP (fun i=>(sN r).getD i 0*(qs.map (kC (eO qs))).getD i 0) 2000 (fun i=>by
     have h1:=tY ((sN r).getD i 0) ((qs.map (kC (eO qs))).getD i 0);have h2:=yj Un.out.2 zo i;have h3:=yj HQ.out n4 i;unfold sN at *;omega) (sN r).length
    omega
   have hzd:F4 (sN r) (qs.map (kC (eO qs)))=wI (fun i=>(r.map (kC (eO r))).getD i 0*(qs.map (kC (eO qs))).getD i 0) r.length:=by
    unfold F4;rw [htl,J3];rfl
   rw [← hzd] at PL;obtain ⟨z,EZ⟩:∃ x:Int,Hid (F4 (sN r) (qs.map (kC (eO qs)))=x):=⟨_,zh rfl⟩;obtain ⟨D,ED⟩:∃ x:Nat,Hid (eO r*eO qs=x):=⟨_,zh rfl⟩;rw [EZ.out] at ah0 hz1 PL;rw [ED.out] at hprod hsp PL;have KZ:=zh hz1;have KD:Hid (sz 1000000000 ((D:Nat):Int).natAbs≤549755813888):=zh (by rw [Int.natAbs_natCast];omega);have ND:Hid (((D:Nat):Int)≠0):=zh zo;have SD:Hid (iZ D false=((D:Nat):Int)):=zh rfl;have HW:Hid ((z:Rat) / ((((D:Nat):Int)):Rat)=kL r qs):=zh (by rw [Rat.intCast_natCast];exact PL);clear hrl htl hcr hcq hpr hpq hprod hsp PL hz1 hzd;obtain ⟨q,EQ⟩:∃ x:Rat,Hid (kL r qs=x):=⟨_,zh rfl⟩;rw [EQ.out] at HW;go_wp2_with fail
   refine aQ [(.pure,0),(.read,1),(.pure,2),(.pure,3),(.read,4),(.pure,5),(.pure,7),(.read,8),(.pure,9),(.pure,10),(.read,11),(.pure,12),(.ext,6),(.ext,13),(.ext,14),(.ext,15),(.pure,16),(.pure,17),(.pure,18),(.alloc #[O ⟨#[]⟩,O ⟨#[]⟩] 38,19),(.fin,20),(.fin,21)] zk zk zR zP ?_;refine zV ?_;refine aN rfl rfl (fun w11 ab9 J hJ=>?_);go_simp;replace G4:=zh (aT.carry G4.out aK ab9);replace Ul:=zh (aT.carry Ul.out aK ab9);refine (ah0.out _ aO).mono ?_;rintro e v11 ⟨v,rfl,FT,hv⟩;obtain ⟨at6,lHz,ay6,rfl,Hz⟩:=hv;replace Hz:=zh Hz;replace G4:=zh (aT.later G4.out FT);replace Ul:=zh (aT.later Ul.out FT);refine hJ _ _ FT ?_;clear hJ J;refine aN rfl rfl (fun w12 am3 J hJ=>?_);go_simp;replace Hz:=zh (aT.later Hz.out am3)
   refine ((iE _ _ (eO r) (eO qs) _ aK aK KR.out KQ.out).mono (by rw [ED.out];exact fun _ _ h=>h)).mono ?_;rintro e v12 ⟨v,rfl,PN,hv⟩;obtain ⟨ai6,lHm,an2,rfl⟩:=hv.slice;have Hm:=zh hv;clear hv;replace Hz:=zh (aT.later Hz.out PN);refine hJ _ _ PN ?_;clear hJ J;refine aN rfl rfl (fun w13 am2 J hJ=>?_);go_simp;replace Hz:=zh (aT.later Hz.out am2);refine ((dM _ D false _ aK).mono (by rw [SD.out];exact fun _ _ h=>h)).mono ?_;rintro e v13 ⟨v,rfl,Tg,hv⟩;obtain ⟨xG,Nw,xQ,rfl,Hs⟩:=hv;replace Hs:=zh Hs;replace Hz:=zh (aT.later Hz.out Tg);refine hJ _ _ Tg ?_;clear hJ J;have hq2:iG q=true∨iG q=false:=by cases iG q<;>simp
   rcases hq2 with hq2|hq2
   ·have Hw:Hid (Fr.res (d9.wr q)= aF #[aB #[O (Fr.of q).n,O (Fr.of q).d],Z I 0]):=zh (by unfold d9.wr;rw [if_pos hq2];rfl);have QY:=zh hq2;clear hq2;obtain ⟨s1,Es1⟩:∃ x:ByteArray,Hid ((Fr.of q).n=x):=⟨_,zh rfl⟩;obtain ⟨s2,Es2⟩:∃ x:ByteArray,Hid ((Fr.of q).d=x):=⟨_,zh rfl⟩;rw [Es1.out,Es2.out] at Hw;refine aN rfl rfl (fun w14 PU J hJ=>?_);go_simp;refine ((jo _ _ z ((D:Nat):Int) _ (bW.dx aK) (bW.dx aK) ND.out KZ.out KD.out (HT.out.later aO)).mono (by rw [HW.out,Hw.out];exact fun _ _ h=>h)).mono ?_;rintro e v14 ⟨rfl,WS⟩;refine hJ _ _ WS ?_;clear hJ J;refine zV ?_;refine fE rfl (fun b13 w6 Py Kw WR ac3 nO=>?_);go_simp;replace nO:aA _ _ _ _:=nO;have PV:w.heap.size≤b13:=(by first|omega|exact ay (Below.size (B:=w.heap.size) aO) Kw);refine bT [_,_] rfl (fun w7 mJ=>?_)
    replace nO:=aA.later (nO) mJ;replace Xx:=nO.cell;replace Xh:=nO.free;replace Ww:=nO.lt;replace HF:Hid (Fill w7 v4.heap.size 38 m.length k (DL (fun i=>Fr.of (kL (m.getD i []) qs)))):=zh (HF.out.later aO (fun _ _ _ h=>h));have hN:wr.heap.size≤b13:=Kw;have ne1:v4.heap.size≠b13:=by omega
    have ne2:b13≠v4.heap.size:=by omega
    obtain ⟨⟨y1,cy1⟩,⟨y2,cy2⟩,fy⟩:=HF.out.cells hlt;have hF2:=zh (AP (AP HF.out (a:=⟨b13,0,none⟩) (O s1) ne1) (a:=⟨b13,1,none⟩) (O s2) ne1);have mJ:Below v4.heap.size v4 w7:=aO;have hle:v4.heap.size≤b13:=by omega
    go_wp2_with fail
    go_roundw
    case rel =>
     refine ⟨k+1,by go_num,by omega,zh (hF2.out.step hlt (fun _ _ _ h=>h) ⟨?_,?_⟩),zh fun i hi=>?_,(((mJ.setCell hle _).setCell hle _).setCell (aG _) _).setCell (aG _) _⟩
     ·show Value.string s1= O (Fr.of (kL (m.getD k []) qs)).n
      rw [HGD.out,EQ.out,Es1.out]
     ·show Value.string s2= O (Fr.of (kL (m.getD k []) qs)).d
      rw [HGD.out,EQ.out,Es2.out]
     ·rcases aH i k with h|h
      ·exact HK.out i h
      ·obtain rfl:i=k:=by omega
       rw [HGD.out,EQ.out];exact QY.out
    case measure=>exact zM
   ·have Hw:Hid (Fr.res (d9.wr q)= aF #[aB #[O ⟨#[]⟩,O ⟨#[]⟩],Z I 6]):=zh (qQ hq2)
    have hbad:(m.map fun r=>kL r qs).all iG=false:=by
     rw [List.all_eq_false];have hkm:k<(m.map fun r=>kL r qs).length:=by rw [List.length_map];exact hlt
     refine ⟨(m.map fun r=>kL r qs)[k],bN _,?_⟩;have e1:(m.map fun r=>kL r qs)[k]=kL (m.getD k []) qs:=by simp [hlt]
     rw [e1,HGD.out,EQ.out,hq2];simp
    have HBAD:=zh hbad;clear hq2 hbad;refine aN rfl rfl (fun w14 PU J hJ=>?_);go_simp;refine ((jo _ _ z ((D:Nat):Int) _ (bW.dx aK) (bW.dx aK) ND.out KZ.out KD.out (HT.out.later aO)).mono (by rw [HW.out,Hw.out];exact fun _ _ h=>h)).mono ?_;rintro e v14 ⟨rfl,WS⟩;refine hJ _ _ WS ?_;clear hJ J;refine zV ?_;refine fE rfl (fun b13 w6 Py Kw WR ac3 nO=>?_);go_simp;replace nO:aA _ _ _ _:=nO;have PV:w.heap.size≤b13:=(by first|omega|exact ay (Below.size (B:=w.heap.size) aO) Kw);refine bT [_,_] rfl (fun w7 mJ=>?_);replace nO:=aA.later (nO) mJ;replace Xx:=nO.cell;replace Xh:=nO.free;replace Ww:=nO.lt;have am1:Below w.heap.size w w7:=aO;go_wp2_with fail
    go_ret2
    exact .inr ⟨HBAD.out,rfl,(am1.setCell PV _).setCell PV _⟩
  ·obtain rfl:k=m.length:=by omega
   have hall:(m.map fun r=>kL r qs).all iG=true:=by
    rw [bZ];intro q hq;obtain ⟨i,hi,rfl⟩:=List.getElem_of_mem hq;have hi2:i<m.length:=by rw [List.length_map] at hi;exact hi
    have:=HK.out i hi2
    simpa [hi2] using this
   have hfr:qM wr 38 (aj (some ⟨v4.heap.size,0,none⟩) m.length m.length) ((m.map fun r=>kL r qs).map Fr.of):=by
    have hll:((m.map fun r=>kL r qs).map Fr.of).length=m.length:=by simp
    have aa6:Fill wr v4.heap.size 38 ((m.map fun r=>kL r qs).map Fr.of).length ((m.map fun r=>kL r qs).map Fr.of).length (DL fun i=>((m.map fun r=>kL r qs).map Fr.of).getD i Fr.no):=by
     rw [hll];obtain ⟨arr,g1,g2,g3⟩:=HF.out;refine ⟨arr,g1,g2,fun i hi=>?_⟩;obtain ⟨x,y,y1,y2,y3,y4⟩:=g3 i hi;refine ⟨x,y,y1,y2,?_⟩;have e:((m.map fun r=>kL r qs).map Fr.of).getD i Fr.no=Fr.of (kL (m.getD i []) qs):=by simp [hi]
     exact ⟨by show x= O (((m.map fun r=>kL r qs).map Fr.of).getD i Fr.no).n;rw [e];exact y3,by show y= O (((m.map fun r=>kL r qs).map Fr.of).getD i Fr.no).d;rw [e];exact y4⟩
    have:=qM.xW aa6 (by rw [hll];omega);rw [hll] at this;exact this
   have NA:=zh hfr;have Us:=zh hall;clear hfr hall;go_wp2_with fail
   go_ret2
   exact .inl ⟨Us.out,_,rfl,Bt hbw hb,NA.out⟩
end Go.Proofs.matrix
