/- Lemmas for the proof. No condition. -/
import Derived.Test.YtneajphgfdlmhaaGreatDoorUB31
set_option linter.unusedVariables false
set_option linter.unusedSimpArgs false
set_option maxRecDepth 100000
set_option maxHeartbeats 16000000
open Go.Ending renaming returned → ah
open Go.IntKind renaming i64 → I
open Go.Value renaming bool → ak, int → Z, slice → aj
open List renaming getD_eq_getElem?_getD → cK, length_cons → bg, replicate → bW
open Nat renaming add_assoc → kI, add_comm → iO, add_mul → dL, add_zero → fU, div_eq_of_lt → fQ, div_lt_iff_lt_mul → dz, eq_zero_or_pos → aX, le_of_lt → bM, le_refl → aC, lt_of_lt_of_le → aI, lt_or_ge → aR, min_eq_left → kD, mod_eq_of_lt → gU, mod_lt → fI, mul_comm → aL, mul_le_mul_right → bf, mul_pos → iP, one_mul → iw, pow_le_pow_right → bH, pow_succ → cZ
namespace Go.Proofs.aF
open Go Go.RowKit Go.SW Go.Num Go.Mem Go.Proofs
theorem Gs.drop {w:World} {b off n c:Nat} {l:List Nat} (h:Gs w (aj (some ⟨b,off,none⟩) n c) l) (k:Nat) (hk:k≤n):Gs w (aj (some ⟨b,off+k,none⟩) (n - k) (c - k)) (l.drop k):=by
 rcases Row.cases h with ⟨h1, -⟩|⟨b',off',cap,arr,e,h2,h3,h4,h5⟩
 ·cases h1
 ·simp only [Value.slice.injEq,Option.some.injEq,Addr.mk.injEq,and_true] at e;obtain ⟨⟨rfl,rfl⟩,hn,rfl⟩:=e;rw [dI] at hn h2;refine Row.mk (by rw [dI,List.length_drop];omega) (by rw [dI,List.length_drop];omega) zo h4 fun i hi=>?_;rw [dI,List.length_drop] at hi;have:=h5 (k+i) (by rw [dI];omega);rw [← kI] at this;rw [this];simp [ints]
theorem Nm.setBlock {w:World} {b off k c n g:Nat} (h:Nm w (aj (some ⟨b,off,none⟩) k c) n) (hne:b≠g) (o:Nat) (u:Value):Nm (w.setCell ⟨g,o,none⟩ u) (aj (some ⟨b,off,none⟩) k c) n:=by
 obtain ⟨a,cap,h1,h2,h3,h4,h5⟩:=h;refine ⟨a,cap,h1,h2,h3,h4,fun ad had=>?_⟩;obtain ⟨h6,arr,h7,h8⟩:=h5 ad had
 have e:ad.block=b:=by
  subst had;simp only [Value.slice.injEq,Option.some.injEq] at h1;rw [← h1.1]
 have hy:aB w ad.block arr 3:=h7;exact ⟨h6,arr,hy.setOther u (by rw [e];exact hne),h8⟩
theorem WW (b off n c:Nat) (l:List Nat) (w:World) (h:Gs w (aj (some ⟨b,off,none⟩) n c) l) (hd:gT 10000 l) :
  Calls Tryz.prog 297 #[aj (some ⟨b,off,none⟩) n c] w fun e w'=>∃ k,e= ah (aj (some ⟨b,off,none⟩) k c)∧w=w'∧Nm w (aj (some ⟨b,off,none⟩) k c) (val 10000 l):=by
 rcases Gs.cases h with ⟨h1, -⟩|⟨b',off',cap,e,h1,h2,h3, -, h5⟩
 ·cases h1
 ·simp only [Value.slice.injEq,Option.some.injEq,Addr.mk.injEq,and_true] at e;obtain ⟨⟨rfl,rfl⟩,rfl,rfl⟩:=e;refine (KT b off c l w h1 h2 h5).mono ?_;rintro e w' ⟨rfl,rfl⟩;refine ⟨_,rfl,rfl,?_⟩
  rcases Row.cases h with ⟨e1, -⟩|⟨b',off',cap',arr,e1, -, -, h4, -⟩
  ·cases e1
  ·simp only [Value.slice.injEq,Option.some.injEq,Addr.mk.injEq,and_true] at e1;obtain ⟨⟨rfl,rfl⟩, -, rfl⟩:=e1;have ht:=trimLen_le l l.length;have e:val 10000 l=val 10000 (l.take (trimLen l l.length)):=by rw [xY _ _ _ (aC _)];simp
   rw [e];refine Nm.Vz ?_ (hd.take _) (xZ l _ (aC _));refine Row.mk (arr:=arr) (by rw [dI];simp;omega) (by rw [dI];simp;omega) h2 h4 fun i hi=>?_;rw [dI] at hi;have hi2:i<l.length:=by simp at hi;omega
   have:=h5 i hi2;rw [h4.cell] at this;rw [this];simp [ints,hi2]
theorem Nm.YJ {w:World} {v:Value} {a k:Nat} (h:Gs w v ((d9 10000 a).drop k)):Nm w v (val 10000 ((d9 10000 a).drop k)):=Nm.Vz h ((dw zo a).drop k) (Go.Dec.Ck (oH zo a) k)
theorem MJ (x:Value) (a n p m D:Nat) (bl:List Nat) (pb:Option Addr) (cb:Nat) (w:World) (hx:Nm w x a) (hbs:Gs w (aj pb (n+1) cb) bl) (hbl:bl.length=n+1) (db:gT 10000 bl) (htop:1≤bl.getD n 0)
  (hn:n=p+1) (hm:sz 10000 a=m+n) (hm1:1≤m) (ha2:sz 10000 a≤274877906944) (hD:val 10000 bl=D) :
  Calls Tryz.prog 260 #[x,aj pb (n+1) cb] w (wE w a D):=by
 obtain ⟨i0,hi,hz0,hz1,hz2⟩:=info_parts yH;have Nr:bl.length=p+2:=by omega
 have hv2:=qm (B:=10000) Nr;have hvt:=iZ (B:=10000) zo (db.take p);rw [List.length_take,kD zo] at hvt;rw [hD] at hv2;have d1:=db.getD zo n;have d0:=db.getD zo p;rw [show p+1=n by omega] at hv2
 obtain ⟨b,off,rfl,lbb,c1⟩:∃ b off,pb=some ⟨b,off,none⟩∧b<w.heap.size∧w.cell? ⟨b,off+n,none⟩=some (.int .i64 (bl.getD n 0:Nat)):=by
  obtain ⟨a',c',e, -, -, h5⟩:=hbs.read;simp only [Value.slice.injEq] at e;obtain ⟨rfl, -, -⟩:=e;exact h5 n zo
 have c0:w.cell? ⟨b,off+p,none⟩=some (.int .i64 (bl.getD p 0:Nat)):=by
  obtain ⟨a',c',e, -, -, h5⟩:=hbs.read;simp only [Value.slice.injEq] at e;obtain ⟨rfl, -, -⟩:=e;obtain ⟨b',o',e2, -, h6⟩:=h5 p zo;simp only [Option.some.injEq,Addr.mk.injEq,and_true] at e2;obtain ⟨rfl,rfl⟩:=e2;exact h6
 generalize bl.getD n 0=t1 at *;generalize bl.getD p 0=t0 at *;obtain ⟨T,eT⟩:∃ T,t1*10000+t0=T:=⟨_,rfl⟩;have hT:10000≤T∧T≤99999999:=by omega
 obtain ⟨P,hP⟩:∃ P,10000^p=P:=⟨_,rfl⟩;have hP0:0<P:=by rw [← hP];exact Nat.pow_pos zo
 rw [hP] at hv2 hvt
 have hD1:T*P≤D:=by
  rw [hv2,← eT,aL,aL t1,iO (10000*t1)];omega
 have hD2:D<(T+1)*P:=by
  rw [hv2,dL,iw,← eT,aL (t1*10000+t0),aL t1,iO (10000*t1)];omega
 have hD0:0<D:=aI (iP zo hP0) hD1
 have hDn:D<10000^(n+1):=by
  have:=iZ (B:=10000) zo db
  rwa [hD,hbl] at this
 have GUESS:=zh (fun R f (hR:R<D*10000) (hf:f=R / P)=>ak8 hD1 hD2 hT.1 hR hP0 hf);have hla:(d9 10000 a).length=m+n:=hm;have hda:=dw (B:=10000) zo a;have hva:=bY (B:=10000) zo a;obtain ⟨l,El⟩:∃ l,d9 10000 a=l:=⟨_,rfl⟩;obtain ⟨pa,ca,rfl,k1,k2,k3⟩:=hx.read;rw [El] at k3 hla hda hva;rw [hm] at k1 k3;obtain ⟨ba,oa,rfl,lba, -⟩:=k3 0 zo
 have ka:∀ j,j<m+n→w.cell? ⟨ba,oa+j,none⟩=some (.int .i64 (l.getD j 0:Nat)):=fun j hj=>by
  obtain ⟨b',o',e2, -, h6⟩:=k3 j hj;simp only [Option.some.injEq,Addr.mk.injEq,and_true] at e2;obtain ⟨rfl,rfl⟩:=e2;exact h6
 have KA:=zh ka;have HLA:=zh hla;have HDA:=zh hda
 have hgd:Gs w (aj (some ⟨ba,oa+m,none⟩) n (ca - m)) (l.drop m):=by
  have:=Gs.drop hx.gs m (by rw [hm];omega);rw [hm,El] at this
  rwa [show m+n - m=n by omega] at this
 have hr0:val 10000 (l.drop m)<D:=by
  have h1:=iZ (B:=10000) zo (hda.drop m);rw [List.length_drop,hla,show m+n - m=n by omega] at h1
  have h2:10000^n≤D:=by
   have h3:10000*P≤T*P:=bf _ hT.1;have h4:10000^n=10000*P:=by rw [hn,cZ,hP,aL]
   omega
  omega
 have HGD:=zh hgd;have uy:=zh hr0;have Ql:=zh hbs;have HDB:=zh db;have wV:=zh hbl;have HD:=zh hD;have HDN:=zh hDn
 have HDiv:Hid (∀ s r,a=D*val 10000 s+r→r<D→a / D=val 10000 s∧a%D=r):=zh fun s r e h=>by
  constructor
  ·rw [e,Nat.mul_add_div hD0,fQ h,fU]
  ·rw [e,Nat.mul_add_mod,gU h]
 have HVA:=zh hva
 have HDr:Hid (∀ w' v k,Gs w' v (l.drop k)→Nm w' v (val 10000 (l.drop k))):=zh fun w' v k h=>by
  rw [← El] at h ⊢;exact Nm.YJ h
 rw [hm] at ha2 ⊢;clear Nr hv2 hvt db hbs hbl hD hDn hD1 hD2 htop hgd hr0 k3 ka hla hda hva El hx hm;have hbn:(n:Int)+1 - 1=(n:Int):=by omega
 have ep:(n:Int) - 1=(p:Int):=by omega
 have em:(m:Int)+(n:Int) - (n:Int)=(m:Int):=by omega
 have emn:m+n - m=n:=by omega
 have eTi:(t1:Int)*10000+(t0:Int)=(T:Int):=by omega
 have hn1:((n:Int)+1 == 1)=false:=by simp;omega
 have hmn:¬ (m:Int)+(n:Int)≤(n:Int):=by omega
 have hwp:I.wrap (p:Int)=(p:Int):=by rw [IntKind.wrap_i64];omega
 have hpn:(p:Int)<(n:Int)+1:=by omega
 obtain ⟨hT1,hT2⟩:=hT;have HNP:=zh hn;clear eT hn;go_enter Tryz.func260,Tryz.ntmps260
 go_wp2_with fail
 go_quiet (fail)
 go_wp2_with (at_make;refine wpList_make_full _ rfl _ _ 159 rfl w.heap.size 3 i0 (Z I 0) 1 Tryz.underlying159 hi hz0 hz1 _ _ _ _ m rfl rfl zo zo (by rw [hz2];omega) (by unfold maxLen;omega) (aC _) ?_)
 intro w0 hown0 kZ;rw [z8] at hown0;obtain ⟨hbx, -⟩:=vG hown0;have hb0:Below w.heap.size w w0:=(below_drewN (Below.refl _ _) _).grown kZ (aC _) (fun k h=>by cases h);have e0:Gs (w0.alloc (.cells #[] 3)) (aj (some ⟨ba,oa+m,none⟩) n (ca - m)) (l.drop m):=(HGD.out.later hb0).alloc _;obtain ⟨v1,w1,hap,hg1,hb1, -⟩:=xM (w0.alloc (.cells #[] 3)) w0.heap.size [] (l.drop m) _ (aB.new _ _ _) e0 (by rw [List.length_drop,HLA.out];simp;omega);rw [List.nil_append] at hg1;have HN1:=zh (HDr.out _ _ _ hg1);have HB1:Hid (Below w.heap.size w w1):=zh (Bt (dP hb0 _) hb1);have aD1:Hid (aB w1 w.heap.size (ints (bW m 0)).toArray 3):=zh ((hbx.alloc _).later hb1);have HAP:=zh hap;obtain ⟨pr,lr,cr,rfl⟩:=HN1.out.slice;clear hap hg1 hb1 e0 hb0 hbx kZ hown0 c1 c0 HGD
 go_wp2_with (at_builtin;refine wpList_append_run rfl (.tmp 59) (.tmp 65) 159 rfl rfl rfl HAP.out ?_)
 clear HAP
 go_loopw [11,12,13,14,15,16,17] (fun rv iv _ _ _ _ _ wr=>∃ (q:Int) (R:Nat) (s:List Nat), -1≤q∧q<m∧iv= Z I q∧Hid (s.length=m - (q+1).toNat)∧Hid (aB wr w.heap.size (ints (bW (q+1).toNat 0++s)).toArray 3)∧Hid (gT 10000 s) ∧
   Hid (val 10000 (l.drop (q+1).toNat)=D*val 10000 s+R)∧Hid (R<D)∧Hid (Nm wr rv R)∧Hid (Below w.heap.size w wr))
  (fun _ iv _ _ _ _ _ _=>(intOf iv+1).toNat)
 case atStart =>
  have e:((m:Int) - 1+1).toNat=m:=by omega
  exact ⟨(m:Int) - 1,val 10000 (l.drop m),[],by omega,by omega,rfl,zh (by rw [e];simp),zh (by rw [e,List.append_nil];exact aD1.out),zh gT.nil,zh (by rw [e];simp [val]),uy,HN1,HB1⟩
 case round =>
  clear HN1 HB1 aD1;obtain ⟨q,R,s,hq1,hq2,rfl,HS,sJ,Am,HV,HR,HNR,HB⟩:=hrel;obtain ⟨p1,l1,c1,rfl⟩:=HNR.out.slice
  by_cases hq:q<0
  ·have hq0:q= -1:=by omega
   subst hq0;have HF:Hid (a=D*val 10000 s+R):=zh (by have:=HV.out;simpa [HVA.out] using this)
   have hgs:Gs wr (aj (some ⟨w.heap.size,0,none⟩) m m) s:=by
    have h1:=sJ.out;have h2:=HS.out;refine Gs.xD (post:=[]) (by simpa using h1) (by simpa using h2) (aC _) zo
   have HC:=zh (xJ _ s wr hgs Am.out);clear hgs;go_wp2_with fail
   refine HC.out.mono ?_;rintro e w' ⟨v',rfl,rfl,hv'⟩;obtain ⟨p2,l2,c2,rfl⟩:=hv'.slice;have HV':=zh hv';clear hv' HC;go_wp2_with fail
   go_ret2
   obtain ⟨e1,e2⟩:=HDiv.out _ _ HF.out HR.out;exact ⟨_,_,rfl,HB.out,by rw [e1];exact HV'.out,by rw [e2];exact HNR.out⟩
  ·obtain ⟨j,rfl⟩:=Int.eq_ofNat_of_zero_le (by omega:0≤q);have ej:((j:Int)+1).toNat=j+1:=by omega
   have hjm:j<m:=by omega
   rw [ej] at HS HV sJ;have hcj:wr.cell? ⟨ba,oa+j,none⟩=some (.int .i64 (l.getD j 0:Nat)):=(HB.out.cell (by exact lba)).trans (KA.out j zo);have hdj:l.getD j 0<10000:=HDA.out.getD zo j;have HST:Hid (∀ lo,(l.getD j 0+10000*R) / D=lo→val 10000 (l.drop j)=D*val 10000 (lo::s)+(l.getD j 0+10000*R)%D):=zh fun lo h=>MI (by rw [HLA.out];omega) HV.out h;clear HV;generalize l.getD j 0=d at *;obtain ⟨R',ER'⟩:∃ y,Hid (d+10000*R=y):=⟨_,zh rfl⟩;rw [ER'.out] at HST;have aI3:sz 10000 R≤n+1:=dH zo _ _ (Nat.lt_trans HR.out HDN.out);have hR':R'<D*10000:=by have:=ER'.out;have:=HR.out;omega
   have ac3:sz 10000 R'≤n+2:=by
    refine dH zo _ _ (aI hR' ?_);rw [cZ];exact bf _ (bM HDN.out)
   obtain ⟨v2,w2,hap,hg2,hb2,b3,o3,n3,c3,rfl,ax7⟩:=xM (wr.alloc (.cells #[Z I (d:Int)] 3)) wr.heap.size [d] (d9 10000 R) (aj p1 l1 c1) (aB.new _ _ _) (HNR.out.gs.alloc _) (by have:(d9 10000 R).length=sz 10000 R:=rfl;simp;omega)
   have hev:val 10000 ([d]++d9 10000 R)=R':=by
    show d+10000*val 10000 (d9 10000 R)=R'
    rw [bY zo,ER'.out]
   have hb3:b3≠w.heap.size:=by
    have h1:=sJ.out.lt;have h2:b3=wr.heap.size∨b3=wr.heap.size+1:=by simpa using ax7
    omega
   have hct:=WW b3 o3 n3 c3 _ w2 hg2 ((dw zo R).cons hdj);rw [hev] at hct;have HC:=zh hct;have HAP:=zh hap;have HB2:Hid (Below wr.heap.size wr w2):=zh (Bt (dP (Below.refl _ _) _) hb2);have HRD:=zh hR';have HSR:=zh ac3;clear hev hct hap hb2 hg2 ax7 hR' aI3 ac3 ER' HR HNR;go_wp2_with (at_builtin;refine wpList_append_run rfl (.tmp 78) (.tmp 79) 159 rfl rfl rfl HAP.out ?_)
   refine HC.out.mono ?_;rintro e w' ⟨z3,rfl,rfl,hv3⟩;obtain ⟨p3,c3',e3,q1,q2,q3⟩:=hv3.read;simp only [Value.slice.injEq] at e3;obtain ⟨rfl,rfl,rfl⟩:=e3;have Qk:=zh hv3
   have HQ3:Hid (∀ i,i<sz 10000 R'→b3<w2.heap.size∧w2.cell? ⟨b3,o3+i,none⟩=some (.int .i64 ((d9 10000 R').getD i 0:Nat))):=zh fun i hi=>by
    obtain ⟨b',o',e2,h5,h6⟩:=q3 i hi;simp only [Option.some.injEq,Addr.mk.injEq,and_true] at e2;obtain ⟨rfl,rfl⟩:=e2;exact ⟨h5,h6⟩
   replace HB:=zh (Bt HB.out HB2.out);replace sJ:=zh (sJ.out.later HB2.out);clear hv3 q3 HC HAP HB2 hcj;generalize hz3:sz 10000 R'=z3 at *;have HZ3:=zh hz3;clear hz3;go_wp2_with fail
   go_loop [13,14] (fun fv kv=>∃ (k:Int) (f:Nat),(p:Int) - 1≤k∧k≤(p:Int)+2∧kv= Z I k∧fv= Z I f∧Hid (f=val 10000 ((d9 10000 R').drop (k+1).toNat)))
    (fun _ kv=>(intOf kv+1).toNat)
   case atStart =>
    have h1:=HNP.out
    exact ⟨(n:Int)+1,0,by omega,by omega,rfl,rfl,zh (by
     have h2:(d9 10000 R').length=z3:=HZ3.out;have h3:=HSR.out;rw [List.drop_of_length_le zo];rfl)⟩
   case round =>
    obtain ⟨k,f,hk1,hk2,rfl,rfl,HF⟩:=hrel
    by_cases hkp:(p:Int)≤k
    ·obtain ⟨i,rfl⟩:=Int.eq_ofNat_of_zero_le (by omega:0≤k);have ei:((i:Int)+1).toNat=i+1:=by omega
     rw [ei] at HF
     have hf:f<100000000:=by
      have h1:=HF.out;have h2:=iZ (B:=10000) zo ((dw (by omega:1<10000) R').drop (i+1));rw [List.length_drop] at h2;have h3:(d9 10000 R').length=z3:=HZ3.out;have h4:=HSR.out;have h5:=HNP.out;have h6:10000^((d9 10000 R').length - (i+1))≤10000^2:=bH zo zo;rw [h1];exact aI h2 h6
     have OD:Hid (val 10000 ((d9 10000 R').drop i)=f*10000+(d9 10000 R').getD i 0):=zh (by rw [WM,← HF.out])
     by_cases hi3:i<z3
     ·obtain ⟨-, hc3⟩:=HQ3.out i hi3;have hd3:(d9 10000 R').getD i 0<10000:=(dw zo R').getD zo i;clear HF;generalize (d9 10000 R').getD i 0=y at *;go_wp2_with fail
      go_round
      case rel=>exact ⟨(i:Int) - 1,f*10000+y,by omega,by omega,rfl,by go_num,zh (by rw [show ((i:Int) - 1+1).toNat=i by omega];exact OD.out.symm)⟩
      case measure=>simp [intOf]
     ·have hy0:(d9 10000 R').getD i 0=0:=by
       have h3:(d9 10000 R').length=z3:=HZ3.out;rw [cK,List.getElem?_eq_none zo];rfl
      rw [hy0,fU] at OD;clear HF hy0;go_wp2_with fail
      go_round
      case rel=>exact ⟨(i:Int) - 1,f*10000,by omega,by omega,rfl,by go_num,zh (by rw [show ((i:Int) - 1+1).toNat=i by omega];exact OD.out.symm)⟩
      case measure=>simp [intOf]
    ·have hkk:k=(p:Int) - 1:=by omega
     subst hkk
     have hfR:f=R' / P:=by
      have h1:=HF.out;rw [show ((p:Int) - 1+1).toNat=p by omega,WO zo (dw zo R'),bY zo,hP] at h1;exact h1
     have hf8:f<1000000000000:=by
      have h1:=iZ (B:=10000) zo ((dw (by omega:1<10000) R').drop p);rw [List.length_drop] at h1;have h2:=HF.out;rw [show ((p:Int) - 1+1).toNat=p by omega] at h2;have h3:(d9 10000 R').length=z3:=HZ3.out;have h4:=HSR.out;have h5:=HNP.out;have h6:10000^((d9 10000 R').length - p)≤10000^3:=bH zo zo;rw [h2];exact aI h1 h6
     obtain ⟨g1,g2,g3⟩:=GUESS.out R' f HRD.out hfR;have hlo:(((f / (T+1):Nat)):Int)=(f:Int) / ((T:Int)+1):=by rw [Int.natCast_ediv];rfl
     have hhi:(((f / T:Nat)):Int)=(f:Int) / (T:Int):=by rw [Int.natCast_ediv]
     have hl1:f / (T+1)≤f:=Nat.div_le_self _ _;generalize f / (T+1)=lo at *;generalize f / T=hi1 at *;have hz1:(((T:Int)+1) == 0)=false:=by simp;omega
     have hz2':((T:Int) == 0)=false:=by simp;omega
     clear HF hfR;have HG1:=zh g1;have HG2:=zh g2;have hlo2:(f:Int) / ((T:Int)+1)=(lo:Int):=hlo.symm;have hhi2:(f:Int) / (T:Int)=(hi1:Int):=hhi.symm;clear g1 g2 hlo hhi;go_wp2_with fail
     go_quiet (fail)
     obtain ⟨w3,Ew3⟩:∃ y,w2.drewN nq=y:=⟨_,rfl⟩;have hw3:Below w2.heap.size w2 w3:=by rw [← Ew3];exact below_drewN (Below.refl _ _) _
     rw [Ew3];replace Qk:=zh (Qk.out.later hw3);replace HB:=zh (Bt HB.out hw3);replace sJ:=zh (sJ.out.later hw3);clear Ew3 hw3 HQ3 hf8 hl1 hz1 hz2' hlo2 hhi2;obtain ⟨wo,rfl⟩:∃ wo:World,wo=wr:=⟨_,rfl⟩;have h13:hi1+1≤10001:=g3
     have hlh:lo<hi1+1:=by
      have h1:=HG1.out;have h2:=HG2.out
      rcases aR lo (hi1+1) with h|h
      ·exact h
      ·exfalso
       have h3:(hi1+1)*D≤lo*D:=bf _ h;omega
     go_wp2_with fail
     go_loopw [15,16,17] (fun lv hv _ wr=>∃ lo hi:Nat,lo<hi∧hi≤10001∧lv= Z I lo∧hv= Z I hi∧Hid (lo*D≤R')∧Hid (R'<hi*D)∧Hid (Nm wr (aj (some ⟨b3,o3,none⟩) z3 c3) R')∧Hid (Below w.heap.size w wr) ∧
       Hid (aB wr w.heap.size (ints (bW (j+1) 0++s)).toArray 3))
      (fun lv hv _ _=>(intOf hv - intOf lv).toNat)
     case atStart=>exact ⟨lo,hi1+1,hlh,h13,rfl,by go_num,HG1,HG2,Qk,HB,sJ⟩
     case round =>
      clear Qk HB sJ HG1 HG2 hlh h13 g3;obtain ⟨lo,hi,hlh,hhb,rfl,rfl,HG1,HG2,Qk,HB,sJ⟩:=hrel
      by_cases hfin:lo+1<hi
      ·obtain ⟨f1,f2,f3,f4⟩:=ah6 HG1.out HRD.out hhb hfin;have Wn:((lo:Int)+(hi:Int)) / 2=(((lo+hi) / 2:Nat):Int):=by omega
       obtain ⟨mm,emm⟩:∃ y,(lo+hi) / 2=y:=⟨_,rfl⟩;rw [emm] at f2 f3 f4 Wn;have hgt:(1:Int)<(hi:Int) - (lo:Int):=by omega
       have Ui:=zh (CG _ (aj (some ⟨wr.heap.size,0,none⟩) 1 1) bl [mm] (wr.alloc (.cells #[Z I (mm:Int)] 3)) (Ql.out.later (Bt HB.out (dP (Below.refl _ _) _))) Gs.one HDB.out (.inr ⟨rfl,fun x hx=>by rw [List.mem_singleton.1 hx];exact f2⟩) (by rw [wV.out];omega) zi);clear emm;go_wp2_with fail
       refine Ui.out.mono ?_;rintro e w4 ⟨v4,rfl,hb4,hv4⟩;have hval:val 10000 bl*val 10000 [mm]=D*mm:=by rw [HD.out];simp [val]
       rw [hval] at hv4;have hct:=xJ v4 _ w4 hv4.gs (dw zo _);rw [bY zo] at hct;have HC4:=zh hct;have h14:Below wr.heap.size wr w4:=Bt (dP (Below.refl _ _) _) hb4;obtain ⟨p4,l4,c4,rfl⟩:=hv4.slice;replace Qk:=zh (Qk.out.later h14);replace HB:=zh (Bt HB.out h14);replace sJ:=zh (sJ.out.later h14);clear hval hct hb4 h14 hv4 Ui;go_wp2_with fail
       refine HC4.out.mono ?_;rintro e w' ⟨v5,rfl,rfl,hv5⟩;obtain ⟨p5,l5,c5,rfl⟩:=hv5.slice;have HO:=zh (uP _ _ (D*mm) R' w4 hv5 Qk.out);clear hv5 HC4;go_wp2_with fail
       refine HO.out.mono ?_;rintro e w5 ⟨r,rfl,hb5,hor⟩;replace Qk:=zh (Qk.out.later hb5);replace HB:=zh (Bt HB.out hb5);replace sJ:=zh (sJ.out.later hb5);clear HO hb5
       by_cases hle:D*mm≤R'
       ·have hr:r≤0:=hor.1.2 hle;have LQ:Hid (mm*D≤R'):=zh (by rw [aL];exact hle);clear hle hor;go_wp2_with fail
        go_roundw
        case rel=>exact ⟨mm,hi,f4,hhb,rfl,rfl,LQ,HG2,Qk,HB,sJ⟩
        case measure=>exact zM
       ·have hr:¬ r≤0:=fun h=>hle (hor.1.1 h);have HLT:Hid (R'<mm*D):=zh (by rw [aL];omega);clear hle hor;go_wp2_with fail
        go_roundw
        case rel=>exact ⟨lo,mm,f3,by omega,rfl,rfl,HG1,HLT,Qk,HB,sJ⟩
        case measure=>exact zM
      ·have hh:hi=lo+1:=by omega
       subst hh;have hgt:¬ (1:Int)<(lo:Int)+1 - (lo:Int):=by omega
       obtain ⟨hdv,hmd⟩:=am2 HG1.out HG2.out
       have ay0:lo<10000:=by
        rw [← hdv,dz zo,aL];exact HRD.out
       have OD:=zh hdv;have HMD:=zh hmd;have hbs:=sJ.out.set j (Z I (lo:Int));rw [List.setIfInBounds_toArray,ints_set,yt] at hbs;have fbx:=sJ.out.free j
       have hcx:wr.cell? ⟨w.heap.size,j,none⟩=some (.int .i64 0):=by
        rw [sJ.out.cell,List.getElem?_toArray,uW (by rw [List.length_append,List.length_replicate];omega),vX zo];rfl
       have hbw:Below w.heap.size w (wr.setCell ⟨w.heap.size,j,none⟩ (Z I (lo:Int))):=HB.out.setCell (aC _) _;obtain ⟨w6,Ew6⟩:∃ y,wr.setCell ⟨w.heap.size,j,none⟩ (Z I (lo:Int))=y:=⟨_,rfl⟩;rw [Ew6] at hbs hbw;have hn6:Nm w6 (aj (some ⟨b3,o3,none⟩) z3 c3) R':=by rw [← Ew6];exact Nm.setBlock Qk.out hb3 _ _
       have Ui:=zh (CG _ (aj (some ⟨w6.heap.size,0,none⟩) 1 1) bl [lo] (w6.alloc (.cells #[Z I (lo:Int)] 3)) (Ql.out.later (Bt hbw (dP (Below.refl _ _) _))) Gs.one HDB.out (.inl (gT.nil.cons ay0)) (by rw [wV.out];omega) zi);have XL:=zh hbw;have HN6:=zh hn6;have XK:=zh hbs;clear hdv hmd hbs hbw hn6 HB Qk sJ HG1 HG2 hlh hhb;go_wp2_with fail
       clear Ew6 fbx hcx;refine Ui.out.mono ?_;rintro e w7 ⟨v4,rfl,hb4,hv4⟩;have hval:val 10000 bl*val 10000 [lo]=D*lo:=by rw [HD.out];simp [val]
       rw [hval] at hv4;have h17:Below w6.heap.size w6 w7:=Bt (dP (Below.refl _ _) _) hb4;obtain ⟨p4,l4,c4,rfl⟩:=hv4.slice;have hdl:D*lo≤R':=by rw [← OD.out];exact Nat.mul_div_le R' D
       have HDF:=zh (rD _ _ R' (D*lo) w7 (HN6.out.later h17) hv4 (by rw [HZ3.out];have:=HSR.out;omega) hdl);replace XL:=zh (Bt XL.out h17);replace XK:=zh (XK.out.later h17);clear hval h17 hb4 hv4 Ui HN6 hdl;go_wp2_with fail
       refine HDF.out.mono ?_;rintro e w8 ⟨v8,rfl,Ji,tL⟩;obtain ⟨p8,l8,c8,rfl⟩:=tL.slice;have HN8:=zh tL;replace XL:=zh (Bt XL.out Ji);replace XK:=zh (XK.out.later Ji);clear HDF Ji tL;go_wp2_with fail
       go_roundw
       case rel =>
        have ej2:((j:Int) - 1+1).toNat=j:=by omega
        refine ⟨(j:Int) - 1,R'%D,lo::s,by omega,by omega,rfl,zh (by rw [ej2,bg,HS.out];omega),zh (by rw [ej2];exact XK.out),zh (Am.out.cons ay0),zh (by rw [ej2];exact HST.out lo OD.out),zh (fI _ hD0),zh ?_,XL⟩;rw [HMD.out];exact HN8.out
       case measure=>simp [intOf]
theorem CO (x y:Value) (a b:Nat) (w:World) (hx:Nm w x a) (hy:Nm w y b) (hb:0<b) (ha:sz 10000 a≤274877906944) (hsb:sz 10000 b≤274877906944) :
  Calls Tryz.prog 260 #[x,y] w (wE w a b):=by
 have hlen:(d9 10000 b).length=sz 10000 b:=rfl
 have hs1:1≤sz 10000 b:=by
  rcases aX (sz 10000 b) with h|h
  ·have:=jE (B:=10000) zo b;rw [h] at this;simp at this
   omega
  ·exact h
 have htp:=oH (B:=10000) zo b;obtain ⟨pb,cb,rfl,h1,h2,h3⟩:=hy.read
 by_cases hone:sz 10000 b=1
 ·rw [hone] at h3 ⊢
  have hd:d9 10000 b=[b]:=by
   have e:=bY (B:=10000) zo b
   match hl:d9 10000 b,hlen with
   | [d],_=>rw [hl] at e;simp [val] at e;rw [e]
   | [],h=>rw [hone] at h;cases h
   | _:: _:: _,h=>rw [hone] at h;simp at h
  have hb4:b<10000:=by
   have:=dw (B:=10000) zo b;rw [hd] at this;exact this.head
  obtain ⟨b',o',e, -, hc⟩:=h3 0 zo;rw [hd] at hc;exact RG x a b pb cb w hx zo hb hb4 ⟨b',o',e,hc⟩
 ·obtain ⟨p,hp⟩:∃ p,sz 10000 b=p+2:=⟨sz 10000 b - 2,by omega⟩
  by_cases hlt:sz 10000 a≤p+1
  ·rw [hp];exact MK x a p b pb cb w hx hlt zo (uT (B:=10000) zo zo)
  ·have hgs:=hy.gs;rw [hp] at hgs ⊢;refine MJ x a (p+1) p (sz 10000 a - (p+1)) b (d9 10000 b) pb cb w hx hgs (by rw [hlen,hp]) (dw zo b) ?_ rfl zo zo ha (bY zo b);have:=htp (p+1) (by rw [hlen,hp]);omega
theorem tJ (b:Bool) (v:Value) (n:Nat) (z:Int) (w:World) (h:Nm w v n) (hz:jh n b=z) :
  Calls Tryz.prog 258 #[ak b,v] w fun e w'=>∃ v',e= ah v'∧Below w.heap.size w w'∧Pl w' v' z:=by
 have:=mo b v _ w h.gs (dw zo _)
 rwa [bY zo,hz] at this
theorem jr (x y:Value) (a b:Int) (w:World) (hx:Pl w x a) (hy:Pl w y b) (ha:sz 10000 a.natAbs≤549755813888) (hb:sz 10000 b.natAbs≤549755813888) :
  Calls Tryz.prog 211 #[x,y] w fun e w'=>∃ v',e= ah v'∧Below w.heap.size w w'∧Pl w' v' (a*b):=by
 obtain ⟨bA,mK,lA,mP,rfl⟩:=hx.agg;obtain ⟨bB,pz,lB,pF,rfl⟩:=hy.agg;obtain ⟨nA,eA⟩:=hx.nm;obtain ⟨nB,eB⟩:=hy.nm;have uw:=zh nA;have zA:=zh nB;have KA:=zh ha;have KB:=zh hb
 have hs:jh (a.natAbs*b.natAbs) (bA != bB)=a*b:=by
  rw [eA,eB];exact yj a b
 have HS:=zh hs;clear nA nB eA eB ha hb hx hy hs;go_enter Tryz.func211,Tryz.ntmps211
 go_wp2_with fail
 obtain ⟨oC,EW,hz,X1,X2,X3⟩:=LK w #[ak bA,aj mK lA mP] 161 #[ak bB,aj pz lB pF] 161 #[ak false,aj none 0 0] 161;rw [EW];replace uw:=zh (uw.out.later hz);replace zA:=zh (zA.out.later hz);have hk2:=Bt (Below.refl _ _) hz;clear EW hz;obtain ⟨nK,nI,oq⟩:=X1.clf;obtain ⟨uE,uz,xW⟩:=X2.clf;refine aO [(.pure,0),(.read,1),(.pure,2),(.read,3),(.pure,4),(.pure,5),(.read,6),(.pure,7),(.read,8),(.ext,9),(.ext,10),(.fin,11)] zk zk zR zP ?_;refine zV ?_;refine aU rfl rfl (fun we3 hb3 J hJ=>?_);go_simp;have hh3:Below oC.heap.size oC we3:=aJ;clear hb3;refine (xC _ _ _ _ _ (uw.out.later hh3) (zA.out.later hh3) (by have:=KA.out;omega) (by have:=KB.out;omega)).mono ?_;rintro e UK ⟨v,rfl,hb4,hv5⟩;obtain ⟨Pk,lP,P6,rfl⟩:=hv5.slice;refine hJ _ _ hb4 ?_;clear hJ J;have Ws:=Bt hh3 hb4;have NP:=zh hv5;clear hh3 hb4 hv5;refine zV ?_
 refine aU rfl rfl (fun G6 hb6 J hJ=>?_);go_simp;have wR:Below oC.heap.size oC G6:=Bt Ws aJ;replace NP:=zh (NP.out.later (show Below UK.heap.size UK G6 from aJ));clear hb6 Ws;refine (tJ _ _ _ _ _ NP.out HS.out).mono ?_;rintro e wG ⟨v,rfl,kR,tL⟩;obtain ⟨bR,YB,lR,ZF,rfl⟩:=tL.agg;refine hJ _ _ kR ?_;clear hJ J;have Di:=Bt wR kR;replace NP:=zh (NP.out.later kR);have NR:=zh tL;clear wR kR tL;refine zV ?_;refine dD [_] rfl (fun UH hf9=>?_);replace NP:=zh (NP.out.later (show Below wG.heap.size wG UH from aJ));replace NR:=zh (NR.out.later (show Below wG.heap.size wG UH from aJ));have qg:Below oC.heap.size oC UH:=Bt Di aJ;clear hf9 Di;clear nK nI oq uE uz xW;replace uw:=zh (uw.out.later qg);replace zA:=zh (zA.out.later qg);replace X1:=X1.bl qg;replace X2:=X2.bl qg;replace X3:=X3.bl qg;have hk10:=Bt hk2 qg;clear hk2
 clear qg;clear NP;obtain ⟨cX3,lX3,fX3⟩:=X3.clf;have hres:=X3.out;go_wp2_with fail
 refine ig rfl rfl bI Tryz.underlying161 rfl zk ?_;exact ⟨_,rfl,aJ,NR.out.set2 hres zd _ _ _ _⟩
end Go.Proofs.aF
