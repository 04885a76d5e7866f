/- Lemmas for the proof. No condition. -/
import Derived.Test.YtlpjmogillpnbaaGreatDoorTB24
import Derived.Laws.RangeString
set_option linter.unusedVariables false
set_option linter.unusedSimpArgs false
set_option maxRecDepth 100000
set_option maxHeartbeats 16000000
open Bool renaming and_eq_true → aF, not_eq_true' → gK
open Go.Ending renaming returned → ah
open Go.IntKind renaming i64 → I
open Go.Value renaming bool → ay, int → Z, string → O, tuple → aD
open List renaming getElem_mem → eX, length_cons → aZ
open Nat renaming le_refl → aI, le_trans → aB, lt_or_ge → aO
namespace Go.Proofs.dD
open Go Go.RowKit Go.SW Go.Num Go.Mem Go.Proofs Go.Dec Go.gW
def dot (s:ByteArray):Int:=Lib.indexByte s.data.toList 46
theorem Du:∀ (l:List UInt8),Lib.indexByte l 46= -1∨(0≤Lib.indexByte l 46∧Lib.indexByte l 46<l.length)
 | []=>.inl rfl
 | b::l=>by
  have:=Du l;unfold Lib.indexByte;split
  ·right;simp
  ·split
   ·left;rfl
   ·rename_i h
    right
    have h2:¬ Lib.indexByte l 46= -1:=by simpa using h
    simp only [aZ];omega
def nC (s:ByteArray):ByteArray × ByteArray × Bool:=if dot s<0 then (s,⟨#[]⟩,false) else (s.extract 0 (dot s).toNat,s.extract ((dot s).toNat+1) s.size,true)
theorem Nn (s:ByteArray) (hs:(([46]:List UInt8) == s.toList)=false) (w:World) :
  Calls Tryz.prog 258 #[O s,O ⟨#[46]⟩] w (fun e w'=>e= ah (Z I (dot s))∧w'=w):=by
 have H:=zh (fun W=>Tryz.stringslite_IndexByte s 46 W);go_enter Tryz.func258,Tryz.ntmps258
 go_wp2_with fail
 refine (H.out _).mono ?_;rintro e w1 ⟨rfl,rfl⟩;go_wp2_with fail
 go_ret
 exact ⟨rfl,rfl⟩
theorem Gf (s:ByteArray) (hs:(([46]:List UInt8) == s.toList)=false) (hz:s.size≤1000000) (w:World) :
  Calls Tryz.prog 197 #[O s,O ⟨#[46]⟩] w (fun e w'=>e= ah (aD #[O (nC s).1,O (nC s).2.1,ay (nC s).2.2])∧Below w.heap.size w w'):=by
 have H:=zh (fun W=>Nn s hs W);unfold nC;have hl:=Du s.data.toList;have hsz:s.data.toList.length=s.size:=by rw [Array.length_toList];rfl
 rw [hsz] at hl
 change dot s= -1∨(0≤dot s∧dot s<s.size) at hl
 rcases hl with hl|⟨h0,h1⟩
 ·rw [hl] at H ⊢;rw [if_pos zo];go_enter Tryz.func197,Tryz.ntmps197
  go_wp2_with fail
  refine (H.out _).mono ?_;rintro e w1 ⟨rfl,rfl⟩;go_wp2_with fail
  refine bodyPost_ret (v:=aD #[O s,O ⟨#[]⟩,ay false]) (by simp [results,Tryz.results197,go_sem]) rfl ⟨rfl,Below.refl _ _⟩
 ·obtain ⟨k,hk⟩:∃ k:Nat,dot s=(k:Int):=⟨(dot s).toNat,by omega⟩;rw [hk] at H h1 ⊢;rw [if_neg zo];simp only [Int.toNat_natCast];have hk2:k≤s.size:=by omega
  obtain ⟨k1,hk1⟩:∃ y:Nat,y=k+1:=⟨_,rfl⟩;have hk3:k1≤s.size:=by omega
  have EK:Hid ((k:Int)+1=(k1:Int)):=zh zo;rw [← hk1];have w1:I.wrap ((k:Int)+1)=((k+1:Nat):Int):=by unfold IntKind.wrap;simp [IntKind.bits,IntKind.signed];omega
  clear hk h0 h1 hk1;go_enter Tryz.func197,Tryz.ntmps197
  go_wp2_with fail
  refine (H.out _).mono ?_;rintro e w1 ⟨rfl,rfl⟩;go_wp2_with fail
  refine aT [(.pure,0),(.pure,1),(.pure,2),(.pure,3),(.pure,4),(.pure,5),(.pure,6),(.pure,7),(.pure,8),(.fin,9),(.fin,10),(.fin,11)] zk zk zR zP ?_;refine Wk.out ?_
  (iterate 8 refine zU ?_)
  rw [EK.out]
  (iterate 1 refine zU ?_)
  refine oO [_,_,_] rfl (fun wf hbf=>?_);go_wp2_with fail
  refine bodyPost_ret (v:=aD #[O (s.extract 0 k),O (s.extract k1 s.size),ay true]) (by simp [results,Tryz.results197,go_sem]) rfl ⟨rfl,aN⟩
theorem pF (s:ByteArray) (hs:(([46]:List UInt8) == s.toList)=false) (hz:s.size≤1000000) (w:World) :
  Calls Tryz.prog 155 #[O s,O ⟨#[46]⟩] w (fun e w'=>e= ah (aD #[O (nC s).1,O (nC s).2.1,ay (nC s).2.2])∧Below w.heap.size w w'):=by
 have H:=zh (fun W=>Gf s hs hz W);generalize nC s=c at *;obtain ⟨c1,c2,c3⟩:=c;go_enter Tryz.func155,Tryz.ntmps155
 go_wp2_with fail
 refine (H.out _).mono ?_;rintro e w1 ⟨rfl,hb⟩;go_wp2_with fail
 refine bodyPost_ret (v:=aD #[O c1,O c2,ay c3]) (by simp [results,Tryz.results155,go_sem]) rfl ⟨rfl,hb⟩
theorem Gi (w:World) (s:ByteArray) (k:Nat):Below w.heap.size w (w.iter s k):=(Below.refl _ _).alloc (aI _) _
theorem CW (s:ByteArray) (hd:nE s.data.toList) (h0:0<s.size) (hz:s.size≤1000000) (w:World) :
  Calls Tryz.prog 156 #[O s] w (fun e w'=>e= ah (ay true)∧Below w.heap.size w w'):=by
 have HD:Hid (∀ k (h:k<s.size),48≤(s[k]'h).toNat∧(s[k]'h).toNat≤57):=zh fun k h=>hd _ (by
  have:s[k]'h=s.data.toList[k]'(by simpa using h):=by simp [ByteArray.getElem_eq_getElem_data]
  rw [this];exact eX _)
 have H0:=zh h0;have HZ:=zh hz;clear hd h0 hz;go_enter Tryz.func156,Tryz.ntmps156
 go_wp2_with fail
 go_step3
 go_wp2_with fail
 go_step3
 go_wp2_with fail
 go_loopw [3] (fun c wr=>∃ k:Nat,c= Z I (k:Int)∧k≤s.size∧wr=w.iter s k) (fun c _=>s.size - (intOf c).toNat)
 case atStart=>exact ⟨0,rfl,Nat.zero_le _,rfl⟩
 case round =>
  obtain ⟨k,rfl,hk,rfl⟩:=hrel
  rcases aO k s.size with hlt|hge
  ·have hn:=fun ty=>run_next_ascii (P:=Tryz.prog) w s k ty hlt (by have:=HD.out k hlt;omega);have q1:decide (((s[k]'hlt).toNat:Int)<48)=false:=by have:=HD.out k hlt;simp;omega
   have q2:decide ((57:Int)<((s[k]'hlt).toNat:Int))=false:=by have:=HD.out k hlt;simp;omega
   have hw1:wrap64 ((k:Int)+1)=((k+1:Nat):Int):=by
    have:=HZ.out;unfold wrap64;omega
   go_wp2_with fail
   exact ⟨⟨k+1,by rw [hw1],hlt,rfl⟩,by rw [hw1];simp only [intOf];omega⟩
  ·obtain rfl:k=s.size:=by omega
   have hn:=fun ty=>run_next_end (P:=Tryz.prog) w s s.size ty zo;have q1:decide ((0:Int)<(s.size:Int))=true:=by have:=H0.out;simp;omega
   have hb:=Gi w s s.size;go_wp2_with fail
   rw [Exit.noGoto_ret];exact bodyPost_ret (v:=ay true) (by simp [results,Tryz.results156,go_sem]) rfl ⟨rfl,hb⟩
def tx (s:ByteArray):ByteArray:=⟨(cut s.data.toList).1.toArray⟩
def ng (s:ByteArray):Bool:=(cut s.data.toList).2
def dig (l:List UInt8):Bool:=l.all fun b=>decide (48≤b.toNat)&&decide (b.toNat≤57)
theorem Oc {l:List UInt8} (h:dig l=true):nE l:=fun b hb=>by simpa using List.all_eq_true.1 h b hb
def Yy (s:ByteArray):Bool :=
 !(([46]:List UInt8) == (tx s).toList)&&(decide ((tx s).size≤1000)&&(dig (nC (tx s)).1.data.toList&&(decide (0<(nC (tx s)).1.size)&&(decide ((nC (tx s)).1.size≤100) &&
  (decide ((nC (tx s)).1.size≤1)&&(dig (nC (tx s)).2.1.data.toList&&(decide ((nC (tx s)).2.1.size≤20) &&
   ((nC (tx s)).2.2 == decide (0<(nC (tx s)).2.1.size)&&(!ng s || !((⟨(Lib.trimB ((nC (tx s)).1++(nC (tx s)).2.1).data.toList 48).toArray⟩:ByteArray).toList == (⟨#[]⟩:ByteArray).toList))))))))))
def Xx (s:ByteArray):Rat:=mkRat (iM (num ((nC (tx s)).1++(nC (tx s)).2.1).data.toList) (ng s)) (10^(nC (tx s)).2.1.size)
def JL (s:ByteArray):Fr × Int:=wr (Xx s)
theorem Px (c:Nat):nE ((⟨#[49]⟩:ByteArray)++⟨(Lib.repeatL [48] c).toArray⟩).data.toList∧num ((⟨#[49]⟩:ByteArray)++⟨(Lib.repeatL [48] c).toArray⟩).data.toList=10^c:=by
 have e:((⟨#[49]⟩:ByteArray)++⟨(Lib.repeatL [48] c).toArray⟩).data.toList=49::Lib.repeatL [48] c:=by simp
 rw [e,← power.Dm c];have e2:Lib.itoa ((10^c:Nat):Int)=Lib.decDigits (10^c):=gJ.Dn _;rw [e2];exact ⟨jT _,kI _⟩
theorem OJ (s:ByteArray) (h:Yy s=true) (w:World) (ht:gJ.Pow w) :
  Calls Tryz.prog 114 #[O s] w (fun e w'=>e= ah (Fr.res (JL s))∧Below w.heap.size w w'):=by
 have C1:Hid (∀ W,Calls Tryz.prog 135 #[O s,O ⟨#[45]⟩] W (fun e w'=>e= ah (aD #[O (tx s),ay (ng s)])∧Below W.heap.size W w')):=zh fun W=>(whole.mo s W).mono fun _ _ h=>⟨h.1,h.2 ▸ Below.refl _ _⟩;unfold JL Xx;unfold Yy at h;generalize tx s=t at *;generalize ng s=neg at *;simp only [aF,decide_eq_true_eq,gK,beq_iff_eq] at h;obtain ⟨h1,h2,h3,h4,h5,h6,h7,h8,h9,h10⟩:=h;have C2:=zh (fun W=>pF t h1 zo W);generalize nC t=c at *;obtain ⟨b,f,dt⟩:=c;simp only at *;have d1:=Oc h3;have d2:=Oc h7;have P1:=zh (fun W=>CW b d1 h4 zo W);have P2:Hid (0<f.size→∀ W,Calls Tryz.prog 156 #[O f] W (fun e w'=>e= ah (ay true)∧Below W.heap.size W w')):=zh fun hf W=>CW f d2 hf zo W;have hbf:(b++f).data.toList=b.data.toList++f.data.toList:=by simp
 have dbf:nE (b++f).data.toList:=by rw [hbf];exact vO d1 d2
 have sbf:(b++f).size=b.size+f.size:=ByteArray.size_append;have HR:=zh (fun W=>Tryz.strings_Repeat ⟨#[48]⟩ f.size W zo (by rw [show (⟨#[48]⟩:ByteArray).size=1 from rfl];omega));obtain ⟨t1,t2⟩:=Px f.size
 have zs:(⟨(Lib.repeatL [48] f.size).toArray⟩:ByteArray).size=f.size:=by
  show (Lib.repeatL [48] f.size).length=f.size
  rw [Lib.repeatL_length];simp
 have G1:=zh (fun W=>mF ((⟨#[49]⟩:ByteArray)++⟨(Lib.repeatL [48] f.size).toArray⟩) (by rw [ByteArray.size_append,zs];show 1+f.size≤_;omega) t1 W);have G2:=zh (fun W=>mF (b++f) zo dbf W);rw [t2] at G1;have hn:=MN _ dbf;have ln:(b++f).data.toList.length=b.size+f.size:=by rw [← sbf];simp
 rw [ln] at hn;have S1:sz 1000000000 (num (b++f).data.toList)≤67:=jB (dZ.2 (aB (jh _ _ zo hn) zo));have S2:sz 1000000000 (10^f.size)≤67:=jB (dZ.2 (aB (jh (f.size+1) _ zo (Nat.pow_lt_pow_right zo zo)) zo));have hdp:0<10^f.size:=Nat.pow_pos zo;clear hn ln;generalize num (b++f).data.toList=nn at *;generalize (⟨(Lib.repeatL [48] f.size).toArray⟩:ByteArray)=zz at *;have c1:(⟨#[49]⟩:ByteArray).size+zz.size≤9223372036854775807:=by rw [zs];show 1+f.size≤_;omega
 have c2:b.size+f.size≤9223372036854775807:=by omega
 obtain ⟨dd,Edd⟩:∃ y:Nat,Hid (10^f.size=y):=⟨_,zh rfl⟩;rw [Edd.out] at G1 S2 hdp ⊢;have SG:=zh (fun (v:Value) W (hm:bC W v nn)=>dU v nn neg W hm);obtain ⟨gs,Egs⟩:∃ y:Int,Hid (iM nn neg=y):=⟨_,zh rfl⟩;have hs:sz 1000000000 (iM nn neg).natAbs≤67:=by rw [iJ];exact S1
 rw [Egs.out] at SG hs ⊢;have KS:=zh (aB hs (show 67≤549755813888 by omega));have KD:=zh (aB S2 (show 67≤549755813888 by omega));have Ws:=zh hdp
 have KQ:Hid (qc 1000000 (mkRat gs dd)):=by
  have hp:=qo gs hdp;refine zh ⟨?_,?_⟩
  ·rw [hp.1,iJ];exact aB jf zo
  ·rw [hp.2];exact aB jf zo
 obtain ⟨q,Eq⟩:∃ y:Rat,Hid (mkRat gs dd=y):=⟨_,zh rfl⟩;rw [Eq.out] at KQ ⊢;obtain ⟨x,Ex⟩:∃ y:Wx,Hid (wr q=y):=⟨_,zh rfl⟩;rw [Ex.out];obtain ⟨⟨s1,s2⟩,e0⟩:=x;rw [jV];clear hs S1 S2 hdp;have HT:=zh ht
 have Wp:Hid (neg=true→∃ u:ByteArray,u.toList.isEmpty=false∧∀ W,Calls Tryz.prog 157 #[O (b++f),O ⟨#[48]⟩] W (fun e w'=>e= ah (O u)∧Below W.heap.size W w')):=zh fun hn=>by
  refine ⟨_,?_,fun W=>(Tryz.strings_Trim_one (b++f) 48 zd W zo).mono fun _ _ h=>⟨h.1,?_⟩⟩
  ·rw [hn] at h10
   simpa using h10
  ·rcases h.2 with h|h<;>subst h
   ·exact Below.refl _ _
   ·exact ⟨rfl,rfl,rfl,aI _,fun _ _=>rfl⟩
 clear h1 h2 h3 h7 d1 d2 dbf t1 t2 hbf ht;have q3:decide ((600:Int)<(b.size:Int))=false:=by simp;omega
 have q4:decide ((20:Int)<(f.size:Int))=false:=by simp;omega
 have q1:decide ((1:Int)<(b.size:Int))=false:=by simp;omega
 clear h5 h6 h8 zs sbf;cases dt
 ·cases neg
  ·clear P2;clear Wp h4 h9 h10;go_enter Tryz.func114,Tryz.ntmps114
   go_wp2_with fail
   refine (C1.out _).mono ?_;rintro e v1 ⟨rfl,hc1⟩;have BR:=aC.later (aC.new _ _ _) hc1;have bT:=BR.cell;have bS:=BR.free;go_wp2_with fail
   refine (C2.out _).mono ?_;rintro e v2 ⟨rfl,hc2⟩;replace BR:=aC.later (BR) hc2;replace bT:=BR.cell;replace bS:=BR.free;go_wp2_with fail
   refine (P1.out _).mono ?_;rintro e v3 ⟨rfl,hc3⟩;replace BR:=aC.later (BR) hc3;replace bT:=BR.cell;replace bS:=BR.free;go_wp2_with fail
   refine (HR.out _).mono ?_;rintro e v4 ⟨rfl,hc4⟩;replace BR:=aC.later (BR) hc4;replace bT:=BR.cell;replace bS:=BR.free;go_wp2_with fail
   refine (G1.out _).mono ?_;rintro e v5 ⟨v,rfl,mg,hv⟩;obtain ⟨MB,XL,Oj,rfl⟩:=hv.slice;have Hg:=zh hv;clear hv;replace BR:=aC.later (BR) mg;replace bT:=BR.cell;replace bS:=BR.free;go_wp2_with fail
   refine (G2.out _).mono ?_;rintro e v6 ⟨v,rfl,hc6,hv⟩;obtain ⟨P8,Zx,QT,rfl⟩:=hv.slice;have Hn:=zh hv;clear hv;replace Hg:=zh (bC.later Hg.out hc6);replace BR:=aC.later (BR) hc6;replace bT:=BR.cell;replace bS:=BR.free;go_wp2_with fail
   refine (SG.out _ _ aR).mono ?_;rintro e v7 ⟨v,rfl,sG,hv⟩;obtain ⟨tC,IL,uz,rfl,Hs⟩:=hv;replace Hs:=zh Hs;replace Hg:=zh (bC.later Hg.out sG);replace BR:=aC.later (BR) sG;replace bT:=BR.cell;replace bS:=BR.free;go_wp2_with fail
   refine ((mU _ _ gs dd _ (dN.dW aR) aR Ws.out KS.out KD.out).mono (by rw [Eq.out];exact fun _ _ h=>h)).mono ?_;rintro e v8 ⟨v,rfl,hc8,hv⟩;obtain ⟨qZ,Fe,ru,sW,IK,uw,rfl,Hq,mI⟩:=hv;replace Hq:=zh Hq;replace mI:=zh mI;replace Hg:=zh (bC.later Hg.out hc8);replace Hs:=zh (bC.later Hs.out hc8);replace BR:=aC.later (BR) hc8;replace bT:=BR.cell;replace bS:=BR.free;go_wp2_with fail
   refine ((iG _ q _ (eG.of aR aR) KQ.out (HT.out.later aN)).mono (by rw [Ex.out,jV];exact fun _ _ h=>h)).mono ?_;rintro e v9 ⟨rfl,uI⟩;replace BR:=aC.later (BR) uI;replace bT:=BR.cell;replace bS:=BR.free;go_wp2_with fail
   refine aY rfl rfl bf Tryz.underlying29 rfl zk ?_;exact ⟨rfl,aN⟩
  ·clear P2;obtain ⟨u,hu,CT⟩:=Wp.out rfl;replace CT:=zh CT;clear Wp h4 h9 h10;go_enter Tryz.func114,Tryz.ntmps114
   go_wp2_with fail
   refine (C1.out _).mono ?_;rintro e v1 ⟨rfl,hc1⟩;have BR:=aC.later (aC.new _ _ _) hc1;have bT:=BR.cell;have bS:=BR.free;go_wp2_with fail
   refine (C2.out _).mono ?_;rintro e v2 ⟨rfl,hc2⟩;replace BR:=aC.later (BR) hc2;replace bT:=BR.cell;replace bS:=BR.free;go_wp2_with fail
   refine (P1.out _).mono ?_;rintro e v3 ⟨rfl,hc3⟩;replace BR:=aC.later (BR) hc3;replace bT:=BR.cell;replace bS:=BR.free;go_wp2_with fail
   refine (CT.out _).mono ?_;rintro e v4 ⟨rfl,hc4⟩;replace BR:=aC.later (BR) hc4;replace bT:=BR.cell;replace bS:=BR.free;go_wp2_with fail
   refine (HR.out _).mono ?_;rintro e v5 ⟨rfl,mg⟩;replace BR:=aC.later (BR) mg;replace bT:=BR.cell;replace bS:=BR.free;go_wp2_with fail
   refine (G1.out _).mono ?_;rintro e v6 ⟨v,rfl,hc6,hv⟩;obtain ⟨MB,XL,Oj,rfl⟩:=hv.slice;have Hg:=zh hv;clear hv;replace BR:=aC.later (BR) hc6;replace bT:=BR.cell;replace bS:=BR.free;go_wp2_with fail
   refine (G2.out _).mono ?_;rintro e v7 ⟨v,rfl,sG,hv⟩;obtain ⟨P8,Zx,QT,rfl⟩:=hv.slice;have Hn:=zh hv;clear hv;replace Hg:=zh (bC.later Hg.out sG);replace BR:=aC.later (BR) sG;replace bT:=BR.cell;replace bS:=BR.free;go_wp2_with fail
   refine (SG.out _ _ aR).mono ?_;rintro e v8 ⟨v,rfl,hc8,hv⟩;obtain ⟨tC,IL,uz,rfl,Hs⟩:=hv;replace Hs:=zh Hs;replace Hg:=zh (bC.later Hg.out hc8);replace BR:=aC.later (BR) hc8;replace bT:=BR.cell;replace bS:=BR.free;go_wp2_with fail
   refine ((mU _ _ gs dd _ (dN.dW aR) aR Ws.out KS.out KD.out).mono (by rw [Eq.out];exact fun _ _ h=>h)).mono ?_;rintro e v9 ⟨v,rfl,uI,hv⟩;obtain ⟨qZ,Fe,ru,sW,IK,uw,rfl,Hq,mI⟩:=hv;replace Hq:=zh Hq;replace mI:=zh mI;replace Hg:=zh (bC.later Hg.out uI);replace Hs:=zh (bC.later Hs.out uI);replace BR:=aC.later (BR) uI;replace bT:=BR.cell;replace bS:=BR.free;go_wp2_with fail
   refine ((iG _ q _ (eG.of aR aR) KQ.out (HT.out.later aN)).mono (by rw [Ex.out,jV];exact fun _ _ h=>h)).mono ?_;rintro e v10 ⟨rfl,vX⟩;replace BR:=aC.later (BR) vX;replace bT:=BR.cell;replace bS:=BR.free;go_wp2_with fail
   refine aY rfl rfl bf Tryz.underlying29 rfl zk ?_;exact ⟨rfl,aN⟩
 ·cases neg
  ·replace P2:=zh (P2.out (by simpa using h9));clear Wp h4 h9 h10;go_enter Tryz.func114,Tryz.ntmps114
   go_wp2_with fail
   refine (C1.out _).mono ?_;rintro e v1 ⟨rfl,hc1⟩;have BR:=aC.later (aC.new _ _ _) hc1;have bT:=BR.cell;have bS:=BR.free;go_wp2_with fail
   refine (C2.out _).mono ?_;rintro e v2 ⟨rfl,hc2⟩;replace BR:=aC.later (BR) hc2;replace bT:=BR.cell;replace bS:=BR.free;go_wp2_with fail
   refine (P1.out _).mono ?_;rintro e v3 ⟨rfl,hc3⟩;replace BR:=aC.later (BR) hc3;replace bT:=BR.cell;replace bS:=BR.free;go_wp2_with fail
   refine (P2.out _).mono ?_;rintro e v4 ⟨rfl,hc4⟩;replace BR:=aC.later (BR) hc4;replace bT:=BR.cell;replace bS:=BR.free;go_wp2_with fail
   refine (HR.out _).mono ?_;rintro e v5 ⟨rfl,mg⟩;replace BR:=aC.later (BR) mg;replace bT:=BR.cell;replace bS:=BR.free;go_wp2_with fail
   refine (G1.out _).mono ?_;rintro e v6 ⟨v,rfl,hc6,hv⟩;obtain ⟨MB,XL,Oj,rfl⟩:=hv.slice;have Hg:=zh hv;clear hv;replace BR:=aC.later (BR) hc6;replace bT:=BR.cell;replace bS:=BR.free;go_wp2_with fail
   refine (G2.out _).mono ?_;rintro e v7 ⟨v,rfl,sG,hv⟩;obtain ⟨P8,Zx,QT,rfl⟩:=hv.slice;have Hn:=zh hv;clear hv;replace Hg:=zh (bC.later Hg.out sG);replace BR:=aC.later (BR) sG;replace bT:=BR.cell;replace bS:=BR.free;go_wp2_with fail
   refine (SG.out _ _ aR).mono ?_;rintro e v8 ⟨v,rfl,hc8,hv⟩;obtain ⟨tC,IL,uz,rfl,Hs⟩:=hv;replace Hs:=zh Hs;replace Hg:=zh (bC.later Hg.out hc8);replace BR:=aC.later (BR) hc8;replace bT:=BR.cell;replace bS:=BR.free;go_wp2_with fail
   refine ((mU _ _ gs dd _ (dN.dW aR) aR Ws.out KS.out KD.out).mono (by rw [Eq.out];exact fun _ _ h=>h)).mono ?_;rintro e v9 ⟨v,rfl,uI,hv⟩;obtain ⟨qZ,Fe,ru,sW,IK,uw,rfl,Hq,mI⟩:=hv;replace Hq:=zh Hq;replace mI:=zh mI;replace Hg:=zh (bC.later Hg.out uI);replace Hs:=zh (bC.later Hs.out uI);replace BR:=aC.later (BR) uI;replace bT:=BR.cell;replace bS:=BR.free;go_wp2_with fail
   refine ((iG _ q _ (eG.of aR aR) KQ.out (HT.out.later aN)).mono (by rw [Ex.out,jV];exact fun _ _ h=>h)).mono ?_;rintro e v10 ⟨rfl,vX⟩;replace BR:=aC.later (BR) vX;replace bT:=BR.cell;replace bS:=BR.free;go_wp2_with fail
   refine aY rfl rfl bf Tryz.underlying29 rfl zk ?_;exact ⟨rfl,aN⟩
  ·replace P2:=zh (P2.out (by simpa using h9));obtain ⟨u,hu,CT⟩:=Wp.out rfl;replace CT:=zh CT;clear Wp h4 h9 h10;go_enter Tryz.func114,Tryz.ntmps114
   go_wp2_with fail
   refine (C1.out _).mono ?_;rintro e v1 ⟨rfl,hc1⟩;have BR:=aC.later (aC.new _ _ _) hc1;have bT:=BR.cell;have bS:=BR.free;go_wp2_with fail
   refine (C2.out _).mono ?_;rintro e v2 ⟨rfl,hc2⟩;replace BR:=aC.later (BR) hc2;replace bT:=BR.cell;replace bS:=BR.free;go_wp2_with fail
   refine (P1.out _).mono ?_;rintro e v3 ⟨rfl,hc3⟩;replace BR:=aC.later (BR) hc3;replace bT:=BR.cell;replace bS:=BR.free;go_wp2_with fail
   refine (P2.out _).mono ?_;rintro e v4 ⟨rfl,hc4⟩;replace BR:=aC.later (BR) hc4;replace bT:=BR.cell;replace bS:=BR.free;go_wp2_with fail
   refine (CT.out _).mono ?_;rintro e v5 ⟨rfl,mg⟩;replace BR:=aC.later (BR) mg;replace bT:=BR.cell;replace bS:=BR.free;go_wp2_with fail
   refine (HR.out _).mono ?_;rintro e v6 ⟨rfl,hc6⟩;replace BR:=aC.later (BR) hc6;replace bT:=BR.cell;replace bS:=BR.free;go_wp2_with fail
   refine (G1.out _).mono ?_;rintro e v7 ⟨v,rfl,sG,hv⟩;obtain ⟨MB,XL,Oj,rfl⟩:=hv.slice;have Hg:=zh hv;clear hv;replace BR:=aC.later (BR) sG;replace bT:=BR.cell;replace bS:=BR.free;go_wp2_with fail
   refine (G2.out _).mono ?_;rintro e v8 ⟨v,rfl,hc8,hv⟩;obtain ⟨P8,Zx,QT,rfl⟩:=hv.slice;have Hn:=zh hv;clear hv;replace Hg:=zh (bC.later Hg.out hc8);replace BR:=aC.later (BR) hc8;replace bT:=BR.cell;replace bS:=BR.free;go_wp2_with fail
   refine (SG.out _ _ aR).mono ?_;rintro e v9 ⟨v,rfl,uI,hv⟩;obtain ⟨tC,IL,uz,rfl,Hs⟩:=hv;replace Hs:=zh Hs;replace Hg:=zh (bC.later Hg.out uI);replace BR:=aC.later (BR) uI;replace bT:=BR.cell;replace bS:=BR.free;go_wp2_with fail
   refine ((mU _ _ gs dd _ (dN.dW aR) aR Ws.out KS.out KD.out).mono (by rw [Eq.out];exact fun _ _ h=>h)).mono ?_;rintro e v10 ⟨v,rfl,vX,hv⟩;obtain ⟨qZ,Fe,ru,sW,IK,uw,rfl,Hq,mI⟩:=hv;replace Hq:=zh Hq;replace mI:=zh mI;replace Hg:=zh (bC.later Hg.out vX);replace Hs:=zh (bC.later Hs.out vX);replace BR:=aC.later (BR) vX;replace bT:=BR.cell;replace bS:=BR.free;go_wp2_with fail
   refine ((iG _ q _ (eG.of aR aR) KQ.out (HT.out.later aN)).mono (by rw [Ex.out,jV];exact fun _ _ h=>h)).mono ?_;rintro e v11 ⟨rfl,J2⟩;replace BR:=aC.later (BR) J2;replace bT:=BR.cell;replace bS:=BR.free;go_wp2_with fail
   refine aY rfl rfl bf Tryz.underlying29 rfl zk ?_;exact ⟨rfl,aN⟩
end Go.Proofs.dD
namespace Go.Proofs
open Go Go.RowKit Go.SW Go.Num Go.Mem Go.Proofs Go.gW
theorem Gx {s y y':ByteArray} {k:Int} (hx:dD.JL s=(⟨y,y'⟩,k)) (w:World) (ht:gJ.Pow w) (hd:dD.Yy s=true:=by decide+kernel):Calls Tryz.prog 114 #[.string s] w (fun e w'=>e= .returned (.tuple #[.agg #[.string y,.string y'],.int .i64 k])∧Below w.heap.size w w'):=by
 have h:=dD.OJ s hd w ht;rw [hx] at h;exact h
end Go.Proofs
