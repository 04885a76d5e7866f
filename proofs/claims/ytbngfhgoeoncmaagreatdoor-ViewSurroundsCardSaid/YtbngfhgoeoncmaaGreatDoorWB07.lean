/- Lemmas for the proof. No condition. -/
import Derived.Test.YtbngfhgoeoncmaaGreatDoorWB06
set_option linter.unusedVariables false
set_option linter.unusedSimpArgs false
set_option maxRecDepth 100000
set_option maxHeartbeats 16000000
open Bool renaming and_eq_true → aF
open Go.Ending renaming returned → aj
open Go.IntKind renaming i64 → I
open Go.Value renaming agg → aB, bool → ak, int → Z, pointer → ay, slice → ah, string → O, tuple → aD
open List renaming replicate → bJ, set_cons_succ → aN, set_cons_zero → aM
open Nat renaming le_trans → au, lt_or_ge → aH
namespace Go.Proofs.dZ
open Go Go.RowKit Go.SW Go.Num Go.Mem Go.Proofs Go.Proofs.ko Go.Dec
theorem _root_.Go.ai8 {G:Prop} (h:G:=by
 have hlen:=nD 9 d zo hd;have H:=zh h;have HT:=zh ht;clear h ht;go_enter ak5,ak4
 go_wp2_with (go_at_call 149;refine (QW d hd _ HT.out).mono ?_;rintro e w1 ⟨rfl,hb1⟩)
 have HL:=zh hlen;generalize hL:(Lib.decDigits d).length=L at *;have HLe:=zh hL;clear hL
 go_loopw [13] (fun jv wr=>∃ i:Nat,jv= .int .i64 (i:Int)∧Hid (i=0∨i+L≤wd)∧Hid (P8 B b (Lib.byteCells (l++List.replicate i 48)) wr)∧Below B w wr) (fun jv _=>wd - (intOf jv).toNat)
 case atStart =>
  exact ⟨0,rfl,zh (.inl rfl),zh (by simpa using H.out.later hb1),hb1.mono hB⟩
 case round =>
  obtain ⟨i,rfl,HI,HB,hbr⟩:=hrel
  have hcells:Lib.byteCells (l++List.replicate i 48)++[.int .u8 48]=Lib.byteCells (l++List.replicate (i+1) 48):=by
   rw [List.replicate_succ',← List.append_assoc,Lib.byteCells_append _ [48]];rfl
  by_cases hlt:i+L<wd
  ·go_wp2_with (go_at_call 227;refine (Ji B b _ 48 _ HB.out (by rw [Lib.byteCells_length];simp;omega) (Nat.le_trans hB hbr.size)).mono ?_;rintro e w2 ⟨rfl,h2,hb2⟩;rw [hcells] at h2)
   exact ⟨⟨i+1,by simp,zh (.inr zo),zh (.inr h2),hbr.trans hb2⟩,by simp [intOf];omega⟩
  ·have hi:i=wd - L:=by
    rcases HI.out with h|h
    ·omega
    ·omega
   have hsz:(⟨(Lib.decDigits d).toArray⟩:ByteArray).size=L:=HLe.out;go_wp2_with (go_at_call 228;refine (Dp B b _ _ _ HB.out (by rw [Lib.byteCells_length,hsz];simp;omega) (Nat.le_trans hB hbr.size)).mono ?_;rintro e w2 ⟨rfl,h2,hb2⟩)
   go_end0
   refine ⟨rfl,.inr ?_,hbr.trans hb2⟩;rw [HLe.out,← hi,← List.append_assoc,Lib.byteCells_append];exact h2):G:=h
theorem JE (B b d wd:Nat) (l:List UInt8) (w:World) (h:P8 B b (Lib.byteCells l) w) (hB:B≤w.heap.size) (hw:wd≤9) (hd:d<1000000000) (hl:l.length≤140737488355000) (ht:Pow w) :
  Calls Tryz.prog 226 #[Z .u32 d,Z I wd,ay (some ⟨b,0,none⟩)] w fun e w'=>e= aj (aD #[])∧P8 B b (Lib.byteCells (l++(bJ (wd - (Lib.decDigits d).length) 48++Lib.decDigits d))) w'∧Below B w w':=ai8
def wT (w:World) (n:Nat) (e:Ending) (w':World):Prop:=e= aj (O ⟨(Lib.decDigits n).toArray⟩)∧Bw w w'
theorem _root_.Go.ai7 {G:Prop} (h:G:=by
 have hd:=dw (B:=1000000000) zo a;have htop:=oU (B:=1000000000) zo a;have hva:=bN (B:=1000000000) zo a;unfold sz at ha
 rcases Nat.eq_zero_or_pos a with h0|h0
 ·subst h0;have H:=zh hx;clear hx;go_enter Yw,Yv
  go_wp2_with ((first|go_at_call 138|go_at_call 170|go_at_call 211);refine (iI _ _ _ H.out).mono ?_;rintro e w1 ⟨rfl,rfl⟩)
  go_ret
  exact ⟨by rw [iY zo];rfl,Below.refl _ _⟩
 ·obtain ⟨p,c,rfl,hc1,hc2,hread⟩:=nR.read hx.Cv;generalize hl:d9 1000000000 a=l at *;have hne:l≠[]:=fun e=>by rw [e] at hva;simp [val] at hva;omega
  obtain ⟨n,hn⟩:∃ n,l.length=n+1:=⟨l.length - 1,by have:=List.length_pos_iff.mpr hne;omega⟩;have H:=zh hx;have HR:=zh hread;have HV:=zh hva;have HN:=zh hn;have HL:=zh hl;have HT:=zh ht;rw [hn] at ha hc1 ⊢;have ha0:decide (a=0)=false:=by simp;omega
  clear hx hread hva hl ht hn;obtain ⟨b,off,rfl,hb,hcell⟩:=HR.out n (by have:=HN.out;omega);have hpos:∀ i,i≤n→0<val 1000000000 (l.drop i):=fun i hi=>jA zo (DC htop i) (fun e=>by have:=congrArg List.length e;rw [List.length_drop,HN.out] at this;simp at this;omega)
  have hdl:∀ i,(Lib.decDigits (val 1000000000 (l.drop i))).length≤9*(n+1)+1:=fun i=>by
   have h1:=wN (hd.drop i);rw [List.length_drop,HN.out] at h1;omega
  have HP:=zh hpos;have Ie:=zh hdl;clear hpos hdl
  have hd0:val 1000000000 (l.drop n)=l.getD n 0:=by
   rw [kF (by have:=HN.out;omega),List.drop_eq_nil_of_le (by have:=HN.out;omega)];simp [val]
  have hdb:=hd.getD zo n;generalize hdn:l.getD n 0=dn at *;have HDN:=zh hdn;have HD0:=zh hd0;clear hdn hd0;have hbo:Below w.heap.size w (w.alloc (.cells #[.pointer none,.slice none 0 0] 290 (0,0))):=(Below.refl _ _).alloc (Nat.le_refl _) _;have hcw:(w.alloc (.cells #[.pointer none,.slice none 0 0] 290 (0,0))).cell? ⟨b,off+n,none⟩=some (.int .u32 (dn:Nat)):=(hbo.cell (by exact hb)).trans hcell;have hb0:P8 w.heap.size w.heap.size (Lib.byteCells []) (w.alloc (.cells #[.pointer none,.slice none 0 0] 290 (0,0))):=Lib.fresh_isBuilder _ _ w;have HB0:=zh hb0;clear hb0;go_enter Yw,Yv
  go_wp2_with ((first|go_at_call 138|go_at_call 170|go_at_call 211);refine (iI _ a _ (by rw [← HN.out];exact H.out)).mono ?_;rintro e w1 ⟨rfl,rfl⟩;rw [ha0])
  refine (JE _ _ dn 0 [] _ HB0.out zi zo hdb zi (HT.out.later hbo)).mono ?_;rintro e w2 ⟨rfl,h2,hb2⟩;rw [Nat.zero_sub,List.replicate_zero,List.nil_append,List.nil_append,← HD0.out] at h2;have H2:=zh h2;have hbw2:Bw w w2:=hbo.trans hb2;clear h2;go_wp2_with fail
  go_loopw [6] (fun jv wr=>∃ i:Nat,jv= .int .i64 ((i:Int) - 1)∧i≤n∧Hid (P8 w.heap.size w.heap.size (Lib.byteCells (Lib.decDigits (val 1000000000 (l.drop i)))) wr)∧Bw w wr) (fun jv _=>(intOf jv+1).toNat)
  case atStart=>exact ⟨n,rfl,Nat.le_refl _,H2,hbw2⟩
  case round =>
   obtain ⟨i,rfl,hi,HB,hbr⟩:=hrel
   rcases Nat.eq_zero_or_pos i with h1|h1
   ·subst h1;rw [List.drop_zero,HV.out] at HB;go_wp2_with fail
    refine (Tryz.Builder_String_any _ _ _ _ HB.out hbr.size).mono ?_;rintro e w3 ⟨rfl,hb3⟩;go_wp2_with fail
    go_ret
    exact ⟨rfl,hbr.trans hb3⟩
   ·obtain ⟨j,rfl⟩:∃ j,i=j+1:=⟨i - 1,by omega⟩;have hj:j<l.length:=by have:=HN.out;omega
    obtain ⟨b',off',e1,hb',hcell'⟩:=HR.out j hj;simp only [Option.some.injEq,Addr.mk.injEq,and_true] at e1;obtain ⟨rfl,rfl⟩:=e1;have hcr:=(hbr.cell (p:=⟨b,off+j,none⟩) (by exact hb)).trans hcell';have hjb:=hd.getD zo j;have HG:=zh (I5 hj hd (HP.out (j+1) hi));generalize hdj:l.getD j 0=dj at *;have HDJ:=zh hdj;clear hdj hcell';go_wp2_with fail
    refine (JE _ _ dj 9 _ _ HB.out hbr.size zo hjb (by have:=Ie.out (j+1);omega) (HT.out.later hbr)).mono ?_;rintro e w3 ⟨rfl,h3,hb3⟩;rw [← HG.out] at h3;have H3:=zh h3;clear h3;go_wp2_with fail
    refine ⟨⟨j,rfl,by omega,H3,hbr.trans hb3⟩,?_⟩;simp only [intOf];omega):G:=h
theorem oG (x:Value) (a:Nat) (w:World) (hx:aZ w x a) (ha:sz 1000000000 a≤1099511627776) (ht:Pow w) :
  Calls Tryz.prog 155 #[x] w (wT w a):=ai7
theorem _root_.Go.ai6 {G:Prop} (h:G:=by
 have hd:=dw (B:=1000000000) zo a;have htop:=oU (B:=1000000000) zo a;have hva:=bN (B:=1000000000) zo a;unfold sz at ha
 rcases Nat.eq_zero_or_pos a with h0|h0
 ·subst h0;have H:=zh hx;clear hx;rw [iY zo];go_enter Yu,Yt
  go_wp2_with ((first|go_at_call 138|go_at_call 170|go_at_call 211);refine (iI _ _ _ H.out).mono ?_;rintro e w1 ⟨rfl,rfl⟩)
  go_ret
  exact ⟨rfl,Below.refl _ _⟩
 ·obtain ⟨p,c,rfl,hc1,hc2,hread⟩:=nR.read hx.Cv;generalize hl:d9 1000000000 a=l at *;have hne:l≠[]:=fun e=>by rw [e] at hva;simp [val] at hva;omega
  obtain ⟨n,hn⟩:∃ n,l.length=n+1:=⟨l.length - 1,by have:=List.length_pos_iff.mpr hne;omega⟩;have hlt:=MR hn hd htop;have hdb:=hd.getD zo n;have hl9:=nD 9 _ zo hdb;rw [hva] at hlt;rw [hlt];obtain ⟨b,off,rfl,hb,hcell⟩:=hread n zo;have H:=zh hx;have HN:=zh hn;have HT:=zh ht;rw [hn] at ha hc1 ⊢;have ha0:decide (a=0)=false:=by simp;omega
  generalize hdn:l.getD n 0=dn at *;clear hx hread hva hl ht hn hlt hdn;generalize hL:(Lib.decDigits dn).length=L at *;have HL:Hid ((⟨(Lib.decDigits dn).toArray⟩:ByteArray).size=L):=zh hL;clear hL;go_enter Yu,Yt
  go_wp2_with (first
   | ((first|go_at_call 138|go_at_call 170|go_at_call 211);refine (iI _ a _ (by rw [← HN.out];exact H.out)).mono ?_;rintro e w1 ⟨rfl,rfl⟩;rw [ha0])
   | (go_at_call 149;refine (QW dn hdb _ HT.out).mono ?_;rintro e w1 ⟨rfl,hb1⟩;have hq:=HL.out))
  go_ret
  refine ⟨?_,hb1⟩;have e:(((9*n+L:Nat)):Int)=(n:Int)*9+(L:Int):=by omega
  rw [e];rfl):G:=h
theorem iW (x:Value) (a:Nat) (w:World) (hx:aZ w x a) (ha:sz 1000000000 a≤1099511627776) (ht:Pow w) :
  Calls Tryz.prog 153 #[x] w (fun e w'=>e= aj (Z I ((Lib.decDigits a).length:Nat))∧Bw w w'):=ai6
end Go.Proofs.dZ
namespace Go.Proofs.dZ
open Go Go.RowKit Go.SW Go.Num Go.Mem Go.Proofs Go.Dec
theorem Wd:(Tryz.prog.info? 22).map (fun i=>(i.zero,i.size,i.bytes))=some (some (.int .u32 0),1,4):=by kernel_rfl
theorem tN (s:ByteArray) (hs:s.size≤1099511627776) (hd:rA s.data.toList) (w:World) :
  Calls Tryz.prog 222 #[O s] w (fun e w'=>∃ v,e= aj v∧Bw w w'∧aZ w' v (num s.data.toList)):=zs3
end Go.Proofs.dZ
namespace Go.Proofs.dZ
open Go Go.RowKit Go.SW Go.Num Go.Mem Go.Proofs
theorem _root_.Go.ai5 {G:Prop} (h:G:=by
 obtain ⟨p,c,rfl, -, -, h1⟩:=nR.read h.Cv;obtain ⟨p',c',e, -, -, h2⟩:=nR.read k.Cv;simp only [Value.slice.injEq] at e;obtain ⟨rfl,hl,rfl⟩:=e
 have:d9 1000000000 m=d9 1000000000 n:=by
  refine List.ext_getElem hl fun i hi hi2=>?_;obtain ⟨b,o,e, -, hc⟩:=h1 i hi;obtain ⟨b',o',e', -, hc'⟩:=h2 i hi2;rw [e] at e';simp only [Option.some.injEq,Addr.mk.injEq,and_true] at e';obtain ⟨rfl,rfl⟩:=e';rw [hc] at hc';simp only [Option.some.injEq,Value.int.injEq,true_and] at hc';rw [List.getD_eq_getElem?_getD,List.getD_eq_getElem?_getD,List.getElem?_eq_getElem hi,List.getElem?_eq_getElem hi2] at hc'
  simpa using Int.ofNat_inj.mp hc'
 rw [← bN (B:=1000000000) zo m,this,bN zo]):G:=h
theorem aZ.inj {w:World} {v:Value} {m n:Nat} (h:aZ w v m) (k:aZ w v n):m=n:=ai5
open Classical in
noncomputable def yg (w:World) (v:Value):Nat:=if h:∃ n,aZ w v n then h.choose else 0
theorem tH {w:World} {v:Value} {n:Nat} (h:aZ w v n):yg w v=n:=by
 unfold yg;rw [dif_pos ⟨n,h⟩];exact aZ.inj (Exists.choose_spec (⟨n,h⟩:∃ n,aZ w v n)) h
theorem _root_.Go.aB1 {G:Prop} (h:G:=by
 generalize hG:Nat.gcd a b=G;have HG:=zh hG;have HX:=zh hx;have HY:=zh hy;clear hx hy hG;go_enter aC2,aC1
 go_wp2_with fail
 go_loopw [0,1] (fun vx vy wr=>∃ a b:Nat,Hid (aZ wr vx a)∧Hid (aZ wr vy b)∧Hid (Nat.gcd a b=G)∧Hid (sz 1000000000 a≤549755813888)∧Hid (sz 1000000000 b≤549755813888)∧Bw w wr) (fun _ vy wr=>yg wr vy)
 case atStart=>exact ⟨a,b,HX,HY,HG,zh ha,zh hb,Below.refl _ _⟩
 case round =>
  obtain ⟨a,b,HX,HY,HG,HA,HB,hbr⟩:=hrel;obtain ⟨p,c,rfl,hc1,hc2,hread⟩:=nR.read HX.out.Cv;obtain ⟨p',c',rfl,hc1',hc2',J2⟩:=nR.read HY.out.Cv;clear hread J2
  have HLA:=zh (show ((d9 1000000000 a).length:Int)≤2→a≤18446744073709551615 from fun h=>by
   have h1:=jM (B:=1000000000) zo a;have h2:(1000000000:Nat)^sz 1000000000 a≤1000000000^2:=Nat.pow_le_pow_right zo (by unfold sz;omega);omega)
  have HLB:=zh (show ((d9 1000000000 b).length:Int)≤2→b≤18446744073709551615 from fun h=>by
   have h1:=jM (B:=1000000000) zo b;have h2:(1000000000:Nat)^sz 1000000000 b≤1000000000^2:=Nat.pow_le_pow_right zo (by unfold sz;omega);omega)
  rcases Nat.eq_zero_or_pos b with h0|h0
  ·subst h0;rw [Nat.gcd_zero_right] at HG;go_wp2_with ((first|go_at_call 138|go_at_call 211);refine (iI _ 0 _ HY.out).mono ?_;rintro e w1 ⟨rfl,rfl⟩)
   go_ret
   exact ⟨_,rfl,hbr,by rw [← HG.out];exact HX.out⟩
  ·have hb0:decide (b=0)=false:=by simp;omega
   go_wp2_with ((first|go_at_call 138|go_at_call 211);refine (iI _ b _ HY.out).mono ?_;rintro e w1 ⟨rfl,rfl⟩;rw [hb0])
   ·refine (DL _ a _ HX.out (HLA.out (by assumption))).mono ?_;rintro e w' ⟨rfl,rfl⟩;go_wp2_with fail
    refine (DL _ b _ HY.out (HLB.out (by assumption))).mono ?_;rintro e w' ⟨rfl,rfl⟩;have hla:=HLA.out (by assumption);have hlb:=HLB.out (by assumption);go_wp2_with fail
    go_loopw [5,6] (fun v5 v6 wi=>∃ c d:Nat,v5= .int .u64 (c:Int)∧v6= .int .u64 (d:Int)∧c≤18446744073709551615∧d≤18446744073709551615∧Hid (Nat.gcd c d=G)∧Bw w wi) (fun _ v6 _=>(intOf v6).toNat)
    case atStart=>exact ⟨a,b,rfl,rfl,hla,hlb,HG,hbr⟩
    case round =>
     obtain ⟨c,d,rfl,rfl,hc,hd,HG2,hbi⟩:=hrel
     rcases Nat.eq_zero_or_pos d with h1|h1
     ·subst h1;rw [Nat.gcd_zero_right] at HG2;go_wp2_with fail
      refine (mM c _ hc).mono ?_;rintro e w3 ⟨v3,rfl,hb3,hv3⟩;have HV3:=zh hv3;clear hv3;go_wp2_with fail
      go_ret
      exact ⟨_,rfl,Bt hbi hb3,by rw [← HG2.out];exact HV3.out⟩
     ·have hcd:((c%d:Nat):Int)=(c:Int)%(d:Int):=Int.natCast_emod _ _;have hlt:c%d<d:=Nat.mod_lt _ h1;go_wp2_with fail
      go_quiet (fail)
      go_wp2_with fail
      refine ⟨⟨d,c%d,rfl,by rw [hcd],hd,by omega,zh ?_,below_drewN hbi _⟩,?_⟩
      ·rw [← HG2.out,Nat.gcd_comm d,← Nat.gcd_rec,Nat.gcd_comm]
      ·rw [← hcd];simp only [intOf];omega
   all_goals
    refine (eZ _ _ a b _ HX.out HY.out h0 HA.out).mono ?_;rintro e w2 ⟨vq,vr,rfl,hb2,hq,hr⟩;have HR:=zh hr;clear hq hr;go_wp2_with fail
    refine ⟨⟨b,a%b,zh (HY.out.later hb2),HR,zh ?_,HB,zh (Nat.le_trans (iJ zo (Nat.mod_le _ _)) HA.out),Bt hbr hb2⟩,?_⟩
    ·rw [← HG.out,Nat.gcd_comm b,← Nat.gcd_rec,Nat.gcd_comm]
    ·rw [tH HR.out,tH HY.out];exact Nat.mod_lt _ h0):G:=h
theorem pR (x y:Value) (a b:Nat) (w:World) (hx:aZ w x a) (hy:aZ w y b) (ha:sz 1000000000 a≤549755813888) (hb:sz 1000000000 b≤549755813888) :
  Calls Tryz.prog 91 #[x,y] w (fun e w'=>∃ v,e= aj v∧Bw w w'∧aZ w' v (Nat.gcd a b)):=aB1
end Go.Proofs.dZ
namespace Go.Proofs.dZ
open Go Go.RowKit Go.SW Go.Num Go.Mem Go.Proofs Go.Dec
theorem _root_.Go.ai4 {G:Prop} (h:G:=by
 obtain ⟨IE,lH,I7,rfl⟩:=h.slice;have H:=zh h;clear h;cases b
 all_goals
  go_enter ak3,ak2
  go_wp2_with ((first|go_at_call 138|go_at_call 170|go_at_call 211);refine (iI _ n _ aR).mono ?_;rintro e w1 ⟨rfl,rfl⟩)
  refine gG rfl rfl bq Jh rfl zk ?_;refine ⟨_,rfl,aI,dS.mk aR (jD n _).symm ?_⟩;rw [← Qu];rfl):G:=h
theorem fF (m:Value) (n:Nat) (b:Bool) (w:World) (h:aZ w m n) :
  Calls Tryz.prog 93 #[m,ak b] w (fun e w'=>∃ v,e= aj v∧Bw w w'∧dS w' v (iR n b)):=ai4
theorem _root_.Go.aB0 {G:Prop} (h:G:=by
 have HC:=zh (whole.uS ⟨(Lib.itoa z).toArray⟩);have e1:(⟨(Lib.itoa z).toArray⟩:ByteArray).data.toList=Lib.itoa z:=rfl;rw [e1,MU] at HC;have HG:=zh (fun w=>tN ⟨(Lib.decDigits z.natAbs).toArray⟩ (Nat.le_trans hz zo) (nZ _) w);have e2:(⟨(Lib.decDigits z.natAbs).toArray⟩:ByteArray).data.toList=Lib.decDigits z.natAbs:=rfl;rw [e2,oM] at HG;clear hz;unfold fO;go_enter aC0,aB9
 go_wp2_with (first
  | (go_at_call 221;refine (HC.out _).mono ?_;rintro e w1 ⟨rfl,rfl⟩)
  | ((first|go_at_call 222|go_at_call 265);refine (HG.out _).mono ?_;rintro e w2 ⟨v,rfl,hb2,hv⟩;obtain ⟨LV,lHV,Nh,rfl⟩:=hv.slice;have HV:=zh hv;clear hv;have BR:=aA.later (aA.new _ _ _) hb2;have dL:=BR.cell;have dK:=BR.free))
 refine gG rfl rfl bq Jh rfl zk ?_;exact ⟨_,rfl,aI,dS.dV aR⟩):G:=h
theorem iT (z:Int) (hz:(Lib.decDigits z.natAbs).length≤600) (w:World) :
  Calls Tryz.prog 147 #[fO z] w (fun e w'=>∃ v,e= aj v∧Bw w w'∧dS w' v z):=aB0
theorem BU (v:Value) (z:Int) (w:World) (h:dS w v z) :
  Calls Tryz.prog 152 #[v] w (fun e w'=>∃ v,e= aj v∧Bw w w'∧dS w' v (-z)):=by
 obtain ⟨IE,lH,I7,rfl,H⟩:=h;replace H:=zh H;go_enter Tryz.func152,Tryz.ntmps152
 go_wp2_with (go_at_call 93;refine (fF _ _ _ _ aR).mono ?_;rintro e w1 ⟨v,rfl,hb1,hv⟩;obtain ⟨bg8,lH1,bm3,rfl,H1⟩:=hv;replace H1:=zh H1;have BR:=aA.later (aA.qW _ _ _ _) hb1;have dL:=BR.cell;have dK:=BR.free)
 refine gG rfl rfl bq Tryz.underlying86 rfl zk ?_;exact ⟨_,rfl,aI,(dS.dV aR).cast (Qt z)⟩
theorem _root_.Go.aA9 {G:Prop} (h:G:=by
 obtain ⟨IE,lH,I7,rfl,H⟩:=h;replace H:=zh H;obtain ⟨bg3,lHU,bl8,rfl⟩:=hu.slice;have HU:=zh hu;clear hu;have HN:=zh hn;have HZ:=zh hz;clear hn hz;go_enter aB8,aB7
 go_wp2_with fail
 refine aO [(.pure,0),(.read,1),(.pure,2),(.pure,4),(.read,5),(.ext,3),(.ext,6),(.fin,7)] zk zk zR zP ?_;refine zV ?_;refine aL rfl rfl (fun w1 hb1 J hJ=>?_);go_simp;have BR:=aA.later (aA.drew (aA.qW _ _ _ _)) hb1;have dL:=BR.cell;have dK:=BR.free;refine (jB _ _ _ _ _ aR aR (Nat.le_trans HZ.out zo) (Nat.le_trans HN.out zo)).mono ?_;rintro e w2 ⟨v,rfl,hb2,hv⟩;obtain ⟨LV,lHV,Nh,rfl⟩:=hv.slice;have HV:=zh hv;clear hv;replace BR:=aA.later (BR) hb2;replace dL:=BR.cell;replace dK:=BR.free;refine hJ _ _ hb2 ?_;clear hJ J;refine aL rfl rfl (fun w3 hb3 J hJ=>?_);go_simp;replace BR:=aA.later (BR) hb3;replace dL:=BR.cell;replace dK:=BR.free;refine (fF _ (z.natAbs*n) _ _ aR).mono ?_;rintro e w4 ⟨v,rfl,hb4,hv⟩;obtain ⟨bg6,lH4,bm1,rfl,H4⟩:=hv;replace H4:=zh H4;replace BR:=aA.later (BR) hb4;replace dL:=BR.cell;replace dK:=BR.free
 refine hJ _ _ hb4 ?_;clear hJ J;refine cZ [_] rfl (fun w5 hb5=>?_);replace BR:=aA.later (BR) hb5;replace dL:=BR.cell;replace dK:=BR.free;go_wp2_with fail
 refine gG rfl rfl bq Jh rfl zk ?_;exact ⟨_,rfl,aI,(dS.dV aR).cast (YN z n)⟩):G:=h
theorem oD (v u:Value) (z:Int) (n:Nat) (w:World) (h:dS w v z) (hu:aZ w u n) (hz:sz 1000000000 z.natAbs≤549755813888) (hn:sz 1000000000 n≤549755813888) :
  Calls Tryz.prog 150 #[v,u] w (fun e w'=>∃ v,e= aj v∧Bw w w'∧dS w' v (z*n)):=aA9
theorem _root_.Go.aA8 {G:Prop} (h:G:=by
 have H:=zh h;have H2:=zh h2;have KZ:=zh kz;have KY:=zh ky;have HE:=zh (Qv hz hy);clear h h2 kz ky hz hy;cases b
 all_goals
  go_enter Yr,Yq
  go_wp2_with fail
  refine aO [(.pure,0),(.read,1),(.pure,2),(.read,3),(.pure,5),(.read,6),(.ext,4),(.ext,7),(.fin,8)] zk zk zR zP ?_;refine zV ?_;refine aL rfl rfl (fun w1 hb1 J hJ=>?_);go_simp;have BR:=aA.later (aA.drew (aA.at2 _ _ _ _ _)) hb1;have dL:=BR.cell;have dK:=BR.free;refine (zL _ _ z.natAbs y.natAbs _ aR aR (Nat.le_trans KZ.out zo) (Nat.le_trans KY.out zo)).mono ?_;rintro e v1 ⟨v,rfl,hc1,hv⟩;obtain ⟨ap1,lHS,ay1,rfl⟩:=hv.slice;have HS:=zh hv;clear hv;replace BR:=aA.later (BR) hc1;replace dL:=BR.cell;replace dK:=BR.free;refine hJ _ _ hc1 ?_;clear hJ J;refine aL rfl rfl (fun w2 hb2 J hJ=>?_);go_simp;replace BR:=aA.later (BR) hb2;replace dL:=BR.cell;replace dK:=BR.free;refine (fF _ (z.natAbs+y.natAbs) _ _ aR).mono ?_;rintro e v2 ⟨v,rfl,hc2,hv⟩;obtain ⟨ap0,lHT,ay0,rfl,HT⟩:=hv;replace HT:=zh HT
  replace BR:=aA.later (BR) hc2;replace dL:=BR.cell;replace dK:=BR.free;refine hJ _ _ hc2 ?_;clear hJ J;refine cZ [_] rfl (fun w5 hb5=>?_);replace BR:=aA.later (BR) hb5;replace dL:=BR.cell;replace dK:=BR.free;go_wp2_with fail
  refine gG rfl rfl bq Jh rfl zk ?_;exact ⟨_,rfl,aI,(dS.dV aR).cast HE.out⟩):G:=h
theorem Li (pa pb:Option Addr) (l m ca cb:Nat) (z y:Int) (b:Bool) (w:World) (h:aZ w (ah pa l ca) z.natAbs) (h2:aZ w (ah pb m cb) y.natAbs) (hz:decide (z<0)=b) (hy:decide (y<0)=b) (kz:sz 1000000000 z.natAbs≤549755813888) (ky:sz 1000000000 y.natAbs≤549755813888) :
  Calls Tryz.prog 151 #[aB #[ah pa l ca,ak b],aB #[ah pb m cb,ak b]] w (fun e w'=>∃ v,e= aj v∧Bw w w'∧dS w' v (z+y)):=aA8
theorem _root_.Go.aA7 {G:Prop} (h:G:=by
 have H:=zh h;have H2:=zh h2;have KZ:=zh kz;have KY:=zh ky
 rcases Nat.lt_or_ge z.natAbs y.natAbs with hlt|hge
 ·have HE:Hid (iR (y.natAbs - z.natAbs) (!b)=z+y):=by
   have:=Qs (z:=y) (y:=z) (b:= !b) hy (by rw [hz,Bool.not_not]);rw [if_pos zo] at this;exact this.trans (Int.add_comm _ _)
  have HC:=zh (qH hlt);have HL:=zh hlt;clear h h2 kz ky hz hy hlt;cases b
  all_goals
   go_enter Yr,Yq
   go_wp2_with fail
   refine ((jT _ _ z.natAbs y.natAbs _ aR aR).mono (by rw [HC.out];exact fun _ _ h=>h)).mono ?_;rintro e v1 ⟨rfl,hc1⟩;have BR:=aA.later (aA.at2 _ _ _ _ _) hc1;have dL:=BR.cell;have dK:=BR.free;have B1:=aA.later (aA.alloc (aA.qW _ _ _ _) _) hc1;have cB1:=B1.cell;have ru:=B1.free;have B0:=aA.later (aA.alloc (aA.alloc (aA.new _ _ _) _) _) hc1;have cB0:=B0.cell;have kJ:=B0.free;go_wp2_with fail
   refine aO [(.pure,0),(.read,1),(.pure,2),(.read,3),(.pure,5),(.read,6),(.ext,4),(.ext,7),(.fin,8)] zk zk zR zP ?_;refine zV ?_;refine aL rfl rfl (fun w2 hb2 J hJ=>?_);go_simp;replace BR:=aA.later (aA.drew BR) hb2;replace dL:=BR.cell;replace dK:=BR.free;refine (Fj _ _ y.natAbs z.natAbs _ aR aR (Nat.le_trans KY.out zo) (Nat.le_of_lt HL.out)).mono ?_;rintro e v2 ⟨v,rfl,hc2,hv⟩;obtain ⟨aE6,lHD,aL6,rfl⟩:=hv.slice;have HD:=zh hv;clear hv;replace BR:=aA.later (BR) hc2;replace dL:=BR.cell;replace dK:=BR.free;refine hJ _ _ hc2 ?_;clear hJ J;refine aL rfl rfl (fun w3 hb3 J hJ=>?_);go_simp;replace BR:=aA.later (BR) hb3;replace dL:=BR.cell;replace dK:=BR.free;refine (fF _ (y.natAbs - z.natAbs) _ _ aR).mono ?_;rintro e v3 ⟨v,rfl,hc3,hv⟩;obtain ⟨ap0,lHT,ay0,rfl,HT⟩:=hv;replace HT:=zh HT
   replace BR:=aA.later (BR) hc3;replace dL:=BR.cell;replace dK:=BR.free;refine hJ _ _ hc3 ?_;clear hJ J;refine cZ [_] rfl (fun w5 hb5=>?_);replace BR:=aA.later (BR) hb5;replace dL:=BR.cell;replace dK:=BR.free;go_wp2_with fail
   refine gG rfl rfl bq Jh rfl zk ?_;exact ⟨_,rfl,aI,(dS.dV aR).cast HE.out⟩
 ·have HE:Hid (iR (z.natAbs - y.natAbs) b=z+y):=by
   have:=Qs (z:=z) (y:=y) (b:=b) hz hy;rw [if_pos zo] at this;exact this
  have hs:sQ z.natAbs y.natAbs=0∨sQ z.natAbs y.natAbs=1:=by
   rcases Nat.lt_or_ge y.natAbs z.natAbs with h2|h2
   ·exact .inr (pK h2)
   ·have:z.natAbs=y.natAbs:=by omega
    rw [this];exact .inl (rY _)
  have HL:=zh hge;clear h h2 kz ky hz hy hge
  rcases hs with hs|hs<;>cases b
  all_goals
   have HC:=zh hs;clear hs;go_enter Yr,Yq
   go_wp2_with fail
   refine ((jT _ _ z.natAbs y.natAbs _ aR aR).mono (by rw [HC.out];exact fun _ _ h=>h)).mono ?_;rintro e v1 ⟨rfl,hc1⟩;have BR:=aA.later (aA.at2 _ _ _ _ _) hc1;have dL:=BR.cell;have dK:=BR.free;have B1:=aA.later (aA.alloc (aA.qW _ _ _ _) _) hc1;have cB1:=B1.cell;have ru:=B1.free;have B0:=aA.later (aA.alloc (aA.alloc (aA.new _ _ _) _) _) hc1;have cB0:=B0.cell;have kJ:=B0.free;go_wp2_with fail
   refine aO [(.pure,0),(.read,1),(.pure,2),(.read,3),(.pure,5),(.read,6),(.ext,4),(.ext,7),(.fin,8)] zk zk zR zP ?_;refine zV ?_;refine aL rfl rfl (fun w2 hb2 J hJ=>?_);go_simp;replace BR:=aA.later (aA.drew BR) hb2;replace dL:=BR.cell;replace dK:=BR.free;refine (Fj _ _ z.natAbs y.natAbs _ aR aR (Nat.le_trans KZ.out zo) HL.out).mono ?_;rintro e v2 ⟨v,rfl,hc2,hv⟩;obtain ⟨aE6,lHD,aL6,rfl⟩:=hv.slice;have HD:=zh hv;clear hv;replace BR:=aA.later (BR) hc2;replace dL:=BR.cell;replace dK:=BR.free;refine hJ _ _ hc2 ?_;clear hJ J;refine aL rfl rfl (fun w3 hb3 J hJ=>?_);go_simp;replace BR:=aA.later (BR) hb3;replace dL:=BR.cell;replace dK:=BR.free;refine (fF _ (z.natAbs - y.natAbs) _ _ aR).mono ?_;rintro e v3 ⟨v,rfl,hc3,hv⟩;obtain ⟨ap0,lHT,ay0,rfl,HT⟩:=hv;replace HT:=zh HT
   replace BR:=aA.later (BR) hc3;replace dL:=BR.cell;replace dK:=BR.free;refine hJ _ _ hc3 ?_;clear hJ J;refine cZ [_] rfl (fun w5 hb5=>?_);replace BR:=aA.later (BR) hb5;replace dL:=BR.cell;replace dK:=BR.free;go_wp2_with fail
   refine gG rfl rfl bq Jh rfl zk ?_;exact ⟨_,rfl,aI,(dS.dV aR).cast HE.out⟩):G:=h
theorem Lj (pa pb:Option Addr) (l m ca cb:Nat) (z y:Int) (b:Bool) (w:World) (h:aZ w (ah pa l ca) z.natAbs) (h2:aZ w (ah pb m cb) y.natAbs) (hz:decide (z<0)=b) (hy:decide (y<0)= !b) (kz:sz 1000000000 z.natAbs≤549755813888) (ky:sz 1000000000 y.natAbs≤549755813888) :
  Calls Tryz.prog 151 #[aB #[ah pa l ca,ak b],aB #[ah pb m cb,ak !b]] w (fun e w'=>∃ v,e= aj v∧Bw w w'∧dS w' v (z+y)):=aA7
theorem _root_.Go.aA6 {G:Prop} (h:G:=by
 obtain ⟨pa,l,ca,rfl,hm⟩:=h;obtain ⟨pb,m,cb,rfl,hm2⟩:=h2
 by_cases hb:decide (z<0)=decide (y<0)
 ·rw [hb];exact Li pa pb l m ca cb z y (decide (y<0)) w hm hm2 hb rfl kz ky
 ·have hb2:decide (y<0)= !decide (z<0):=by
   cases h1:decide (z<0)<;>cases h2:decide (y<0)<;>simp_all
  rw [hb2];exact Lj pa pb l m ca cb z y (decide (z<0)) w hm hm2 rfl hb2 kz ky):G:=h
theorem yD (v u:Value) (z y:Int) (w:World) (h:dS w v z) (h2:dS w u y) (kz:sz 1000000000 z.natAbs≤549755813888) (ky:sz 1000000000 y.natAbs≤549755813888) :
  Calls Tryz.prog 151 #[v,u] w (fun e w'=>∃ v,e= aj v∧Bw w w'∧dS w' v (z+y)):=aA6
theorem _root_.Go.aA5 {G:Prop} (h:G:=by
 obtain ⟨pa,l,ca,rfl,hm⟩:=h
 have hlen:((1+(Lib.decDigits z.natAbs).length:Nat):Int)≤9223372036854775807:=by
  have h1:=wN (dw (B:=1000000000) zo z.natAbs);rw [bN zo] at h1;unfold sz at kz;omega
 have af9:¬ 9223372036854775807<1+(Lib.decDigits z.natAbs).length:=by omega
 have H:=zh hm;have KZ:=zh kz;have HT:=zh ht;clear hm kz ht hlen
 by_cases hz:z<0
 ·have e:fO z= .string ⟨(45::Lib.decDigits z.natAbs).toArray⟩:=by unfold fO Lib.itoa;rw [if_pos hz]
  rw [e,decide_eq_true hz];clear e hz;go_enter ak1,ak0
  go_wp2_with fail
  refine (oG _ z.natAbs _ aR KZ.out (HT.out.later aI)).mono ?_;rintro e v1 ⟨rfl,hc1⟩;go_wp2_with fail
  go_ret
  exact ⟨rfl,aI⟩
 ·have e:fO z= .string ⟨(Lib.decDigits z.natAbs).toArray⟩:=by unfold fO Lib.itoa;rw [if_neg hz,show z.toNat=z.natAbs by omega]
  rw [e,decide_eq_false hz];clear e hz;go_enter ak1,ak0
  go_wp2_with fail
  refine (oG _ z.natAbs _ aR KZ.out (HT.out.later aI)).mono ?_;rintro e v1 ⟨rfl,hc1⟩;go_wp2_with fail
  go_ret
  exact ⟨rfl,aI⟩):G:=h
theorem CG (v:Value) (z:Int) (w:World) (h:dS w v z) (kz:sz 1000000000 z.natAbs≤1099511627776) (ht:ko.Pow w) :
  Calls Tryz.prog 154 #[v] w (fun e w'=>e= aj (fO z)∧Bw w w'):=aA5
end Go.Proofs.dZ
namespace Go.Proofs.dZ
open Go Go.RowKit Go.SW Go.Num Go.Mem Go.Proofs Go.Dec Go.fG
theorem zA (v:Value) (z:Int) (w:World) (h:dS w v z) :
  Calls Tryz.prog 137 #[v] w (fun e w'=>e= aj (Z I (xR z))∧Bw w w'):=by
 obtain ⟨IE,lH,I7,rfl,H⟩:=h;replace H:=zh H
 rcases Int.lt_trichotomy z 0 with hz|hz|hz
 ·have e:xR z= -1:=by unfold xR;rw [if_neg zo,if_pos hz]
  rw [e,decide_eq_true hz];have h0:decide (z.natAbs=0)=false:=by simp;omega
  go_enter Tryz.func137,Tryz.ntmps137
  go_wp2_with (go_at_call 138;refine (iI _ z.natAbs _ aR).mono ?_;rintro e w1 ⟨rfl,rfl⟩;rw [h0])
  go_ret
  exact ⟨rfl,aI⟩
 ·subst hz;go_enter Tryz.func137,Tryz.ntmps137
  go_wp2_with (go_at_call 138;refine (iI _ (Int.natAbs 0) _ aR).mono ?_;rintro e w1 ⟨rfl,rfl⟩)
  go_ret
  exact ⟨rfl,aI⟩
 ·have e:xR z=1:=by unfold xR;rw [if_neg zo,if_neg zo]
  rw [e,decide_eq_false (show ¬ z<0 by omega)];have h0:decide (z.natAbs=0)=false:=by simp;omega
  go_enter Tryz.func137,Tryz.ntmps137
  go_wp2_with (go_at_call 138;refine (iI _ z.natAbs _ aR).mono ?_;rintro e w1 ⟨rfl,rfl⟩;rw [h0])
  go_ret
  exact ⟨rfl,aI⟩
theorem vZ (x y:Value) (p q:Rat) (w:World) (hx:gI w x p) (hy:gI w y q) (kp:mQ 1000000 p) (kq:mQ 1000000 q) :
  Calls Tryz.prog 88 #[x,y] w (fun e w'=>e= aj (Z I (gZ p q))∧Bw w w'):=by
 obtain ⟨IE,lH,I7,X7,mH,Yh,rfl,H,Hd⟩:=hx;replace H:=zh H;replace Hd:=zh Hd;obtain ⟨Ya,lG,Yi,pbG,mG,cbG,rfl,G,Gd⟩:=hy;replace G:=zh G;replace Gd:=zh Gd;rw [← DR];have k1:=oC p.num q.den;have k2:=oC q.num p.den;obtain ⟨kp1,kp2⟩:=kp;obtain ⟨kq1,kq2⟩:=kq;obtain ⟨y1,Ey1⟩:∃ y:Int,Hid (p.num*(q.den:Int)=y):=⟨_,zh rfl⟩;obtain ⟨y2,Ey2⟩:∃ y:Int,Hid (q.num*(p.den:Int)=y):=⟨_,zh rfl⟩;obtain ⟨y3,Ey3⟩:∃ y:Int,Hid (-y2=y):=⟨_,zh rfl⟩;obtain ⟨y4,Ey4⟩:∃ y:Int,Hid (y1+y3=y):=⟨_,zh rfl⟩;rw [Ey1.out,Ey2.out,Ey3.out,Ey4.out];rw [Ey1.out] at k1;rw [Ey2.out] at k2;have k3:sz 1000000000 y3.natAbs=sz 1000000000 y2.natAbs:=by rw [← Ey3.out,Int.natAbs_neg]
 have K1:Hid (sz 1000000000 y1.natAbs≤549755813888):=by unfold Hid;omega
 have K3:Hid (sz 1000000000 y3.natAbs≤549755813888):=by unfold Hid;omega
 have KP1:=zh kp1;have KP2:=zh kp2;have KQ1:=zh kq1;have KQ2:=zh kq2;clear kp1 kp2 kq1 kq2 k1 k2 k3;go_enter Tryz.func88,Tryz.ntmps88
 go_wp2_with fail
 refine aO [(.pure,0),(.read,1),(.pure,2),(.read,3),(.pure,5),(.read,6),(.pure,7),(.read,8),(.ext,4),(.ext,9),(.ext,10),(.ext,11),(.ext,12),(.fin,13)] zk zk zR zP ?_;refine zV ?_;refine aL rfl rfl (fun w1 hb1 J hJ=>?_);go_simp;refine ((oD _ _ p.num q.den _ (dS.dV aR) aR (au KP1.out zo) (au KQ2.out zo)).mono (by rw [Ey1.out];exact fun _ _ h=>h)).mono ?_;rintro e v1 ⟨v,rfl,hc1,hv⟩;obtain ⟨bg5,lHA,bm0,rfl,HA⟩:=hv;replace HA:=zh HA;refine hJ _ _ hc1 ?_;clear hJ J;refine aL rfl rfl (fun w2 hb2 J hJ=>?_);go_simp;refine ((oD _ _ q.num p.den _ (dS.dV aR) aR (au KQ1.out zo) (au KP2.out zo)).mono (by rw [Ey2.out];exact fun _ _ h=>h)).mono ?_;rintro e v2 ⟨v,rfl,hc2,hv⟩;obtain ⟨bg4,lHB,bl9,rfl,HB⟩:=hv;replace HB:=zh HB;refine hJ _ _ hc2 ?_;clear hJ J
 refine aL rfl rfl (fun w3 hb3 J hJ=>?_);go_simp;refine ((BU _ y2 _ (dS.dV aR)).mono (by rw [Ey3.out];exact fun _ _ h=>h)).mono ?_;rintro e v3 ⟨v,rfl,hc3,hv⟩;obtain ⟨aS1,lHC,aY4,rfl,HC⟩:=hv;replace HC:=zh HC;refine hJ _ _ hc3 ?_;clear hJ J;refine aL rfl rfl (fun w4 hb4 J hJ=>?_);go_simp;refine ((yD _ _ y1 y3 _ (dS.dV aR) (dS.dV aR) K1.out K3.out).mono (by rw [Ey4.out];exact fun _ _ h=>h)).mono ?_;rintro e v4 ⟨v,rfl,hc4,hv⟩;obtain ⟨aE6,lHD,aL6,rfl,HD⟩:=hv;replace HD:=zh HD;refine hJ _ _ hc4 ?_;clear hJ J;refine aL rfl rfl (fun w5 hb5 J hJ=>?_);go_simp;refine (zA _ y4 _ (dS.dV aR)).mono ?_;rintro e v5 ⟨rfl,nO⟩;refine hJ _ _ nO ?_;clear hJ J;refine cZ [_] rfl (fun w5 hb5=>?_);go_wp2_with fail
 go_ret
 exact ⟨rfl,aI⟩
theorem Ox (x y:Value) (n:Int) (d:Nat) (w:World) (hx:dS w x n) (hy:aZ w y d) (hd:0<d) (kn:sz 1000000000 n.natAbs≤549755813888) (kd:sz 1000000000 d≤549755813888) :
  Calls Tryz.prog 148 #[x,y] w (fun e w'=>∃ v,e= aj v∧Bw w w'∧gI w' v (mkRat n d)):=by
 obtain ⟨IE,lH,I7,rfl,H⟩:=hx;replace H:=zh H;obtain ⟨Ya,lG,Yi,rfl⟩:=hy.slice;have G:=zh hy;clear hy;have HP:=zh (wu n hd);have hg:0<n.natAbs.gcd d:=Nat.gcd_pos_of_pos_right _ hd;obtain ⟨g,Eg⟩:∃ y:Nat,Hid (n.natAbs.gcd d=y):=⟨_,zh rfl⟩;obtain ⟨a,Ea⟩:∃ y:Nat,Hid (n.natAbs / g=y):=⟨_,zh rfl⟩;obtain ⟨b,Eb⟩:∃ y:Nat,Hid (d / g=y):=⟨_,zh rfl⟩;rw [Eg.out] at HP hg;rw [Ea.out,Eb.out] at HP;have KN:=zh kn;have KD:=zh kd;have HG:=zh hg;clear kn kd hg hd;go_enter Tryz.func148,Tryz.ntmps148
 go_wp2_with fail
 refine ((pR _ _ n.natAbs d _ aR aR KN.out KD.out).mono (by rw [Eg.out];exact fun _ _ h=>h)).mono ?_;rintro e v1 ⟨v,rfl,hc1,hv⟩;obtain ⟨Vp,lHg,Xo,rfl⟩:=hv.slice;have Hg:=zh hv;clear hv;have BR:=aA.later (aA.qW _ _ _ _) hc1;have dL:=BR.cell;have dK:=BR.free;have B0:=aA.later (aA.alloc (aA.new _ _ _) _) hc1;have cB0:=B0.cell;have kJ:=B0.free;go_wp2_with fail
 refine ((eZ _ _ n.natAbs g _ aR aR HG.out KN.out).mono (by rw [Ea.out];exact fun _ _ h=>h)).mono ?_;rintro e v2 ⟨v,vr,rfl,hc2,hv,kR⟩;obtain ⟨aE5,lHa,aL5,rfl⟩:=hv.slice;have Ha:=zh hv;clear hv;obtain ⟨bc5,bh8,be0,rfl⟩:=kR.slice;have Har:=zh kR;clear kR;replace BR:=aA.later (BR) hc2;replace dL:=BR.cell;replace dK:=BR.free;replace B0:=aA.later (B0) hc2;replace cB0:=B0.cell;replace kJ:=B0.free;go_wp2_with fail
 refine ((eZ _ _ d g _ aR aR HG.out KD.out).mono (by rw [Eb.out];exact fun _ _ h=>h)).mono ?_;rintro e v3 ⟨v,vr,rfl,hc3,hv,kR⟩;obtain ⟨Y5,lHb,ab4,rfl⟩:=hv.slice;have Hb:=zh hv;clear hv;obtain ⟨Vq,aq9,Xp,rfl⟩:=kR.slice;have Hbr:=zh kR;clear kR;replace BR:=aA.later (BR) hc3;replace dL:=BR.cell;replace dK:=BR.free;replace B0:=aA.later (B0) hc3;replace cB0:=B0.cell;replace kJ:=B0.free;go_wp2_with fail
 refine (fF _ a _ _ aR).mono ?_;rintro e v4 ⟨v,rfl,hc4,hv⟩;obtain ⟨Co,Ua,Cx,rfl,Hs⟩:=hv;replace Hs:=zh Hs;replace BR:=aA.later (BR) hc4;replace dL:=BR.cell;replace dK:=BR.free;replace B0:=aA.later (B0) hc4;replace cB0:=B0.cell;replace kJ:=B0.free;go_wp2_with fail
 refine gG rfl rfl bq Tryz.underlying88 rfl zk ?_;exact ⟨_,rfl,aI,gI.mk (iR a (decide (n<0))).natAbs b aR aR (by rw [HP.out.1]) HP.out.2.symm (by rw [HP.out.1])⟩
theorem kV (v:Value) (q:Rat) (w:World) (h:gI w v q) (k:mQ 1000000 q) (ht:ko.Pow w) :
  Calls Tryz.prog 89 #[v] w (fun e w'=>e= aj (Fr.res (wr q))∧Bw w w'):=by
 obtain ⟨IE,lH,I7,X7,mH,Yh,rfl,H,Hd⟩:=h;replace H:=zh H;replace Hd:=zh Hd;have HT:=zh ht;have K1:=zh k.1;have K2:=zh k.2;clear ht k
 rcases aH 600 (Lib.decDigits q.num.natAbs).length with h1|h1
 ·rw [vJ (by unfold jk;rw [E5 h1];rfl)];go_enter Tryz.func89,Tryz.ntmps89
  go_wp2_with fail
  refine (iW _ q.num.natAbs _ aR (au K1.out zo) (HT.out.later aI)).mono ?_;rintro e v1 ⟨rfl,hc1⟩;have BR:=aA.later (aA.qW _ _ _ _) hc1;have dL:=BR.cell;have dK:=BR.free;have B0:=aA.later (aA.alloc (aA.new _ _ _) _) hc1;have cB0:=B0.cell;have kJ:=B0.free;go_wp2_with fail
  refine bX rfl rfl bq Tryz.underlying38 rfl zk ?_;exact ⟨rfl,aI⟩
 ·rcases aH 600 (Lib.decDigits q.den).length with h2|h2
  ·rw [vJ (by unfold jk;rw [E5 h2,Bool.and_false])];go_enter Tryz.func89,Tryz.ntmps89
   go_wp2_with fail
   refine (iW _ q.num.natAbs _ aR (au K1.out zo) (HT.out.later aI)).mono ?_;rintro e v1 ⟨rfl,hc1⟩;have BR:=aA.later (aA.qW _ _ _ _) hc1;have dL:=BR.cell;have dK:=BR.free;have B0:=aA.later (aA.alloc (aA.new _ _ _) _) hc1;have cB0:=B0.cell;have kJ:=B0.free;go_wp2_with fail
   refine (iW _ q.den _ aR (au K2.out zo) (HT.out.later aI)).mono ?_;rintro e v2 ⟨rfl,hc2⟩;replace BR:=aA.later (BR) hc2;replace dL:=BR.cell;replace dK:=BR.free;replace B0:=aA.later (B0) hc2;replace cB0:=B0.cell;replace kJ:=B0.free;go_wp2_with fail
   refine bX rfl rfl bq Tryz.underlying38 rfl zk ?_;exact ⟨rfl,aI⟩
  ·rw [Uk (by unfold jk;rw [fJ.2 h1,fJ.2 h2];rfl)];go_enter Tryz.func89,Tryz.ntmps89
   go_wp2_with fail
   refine (iW _ q.num.natAbs _ aR (au K1.out zo) (HT.out.later aI)).mono ?_;rintro e v1 ⟨rfl,hc1⟩;have BR:=aA.later (aA.qW _ _ _ _) hc1;have dL:=BR.cell;have dK:=BR.free;have B0:=aA.later (aA.alloc (aA.new _ _ _) _) hc1;have cB0:=B0.cell;have kJ:=B0.free;go_wp2_with fail
   refine (iW _ q.den _ aR (au K2.out zo) (HT.out.later aI)).mono ?_;rintro e v2 ⟨rfl,hc2⟩;replace BR:=aA.later (BR) hc2;replace dL:=BR.cell;replace dK:=BR.free;replace B0:=aA.later (B0) hc2;replace cB0:=B0.cell;replace kJ:=B0.free;go_wp2_with fail
   refine aO [(.pure,0),(.read,1),(.pure,3),(.read,4),(.ext,2),(.ext,5),(.pure,6),(.fin,7),(.fin,8)] zk zk zR zP ?_;refine zV ?_;refine aL rfl rfl (fun w3 hb3 J hJ=>?_);go_simp;replace BR:=aA.later (aA.drew BR) hb3;replace dL:=BR.cell;replace dK:=BR.free;refine ((CG _ q.num _ (dS.dV aR) (au K1.out zo) (HT.out.later aI)).mono (fun _ _ h=>by unfold fO at h;exact h)).mono ?_;rintro e v3 ⟨rfl,hc3⟩;replace BR:=aA.later (BR) hc3;replace dL:=BR.cell;replace dK:=BR.free;refine hJ _ _ hc3 ?_;clear hJ J;refine aL rfl rfl (fun w4 hb4 J hJ=>?_);go_simp;replace BR:=aA.later (BR) hb4;replace dL:=BR.cell;replace dK:=BR.free;refine (oG _ q.den _ aR (au K2.out zo) (HT.out.later aI)).mono ?_;rintro e v4 ⟨rfl,hc4⟩;replace BR:=aA.later (BR) hc4;replace dL:=BR.cell;replace dK:=BR.free;refine hJ _ _ hc4 ?_;clear hJ J
   refine zV ?_;refine cZ [_,_] rfl (fun w5 hb5=>?_);replace BR:=aA.later (BR) hb5;replace dL:=BR.cell;replace dK:=BR.free;go_wp2_with fail
   refine bX rfl rfl bq Tryz.underlying38 rfl zk ?_;exact ⟨rfl,aI⟩
def Nv (w:World) (q:Rat) (e:Ending) (w':World):Prop:=∃ v,e= aj (aD #[v,ak true])∧Bw w w'∧gI w' v q
def tZ (w:World) (e:Ending) (w':World):Prop:=e= aj (aD #[aB #[ah none 0 0,ak false,ah none 0 0],ak false])∧Bw w w'
theorem mO {s:ByteArray} {z:Int} (h:Dec.whole s.data.toList=some z) (w:World):Calls Tryz.prog 146 #[O s] w (fun e w'=>e= aj (Z I 0)∧Bw w w'):=by
 have:=whole.mE s w;rw [h] at this;exact this
theorem F4 {s:ByteArray} (h:Dec.whole s.data.toList=none) (w:World):Calls Tryz.prog 146 #[O s] w (fun e w'=>e= aj (Z I 10)∧Bw w w'):=by
 have:=whole.mE s w;rw [h] at this;exact this
theorem Oy (s t:ByteArray) (h:Dec.whole s.data.toList=none) (w:World) :
  Calls Tryz.prog 90 #[aB #[O s,O t]] w (tZ w):=by
 have HC:=zh (F4 h);clear h;go_enter Tryz.func90,Tryz.ntmps90
 go_wp2_with fail
 refine (HC.out _).mono ?_;rintro e v1 ⟨rfl,hc1⟩;have BR:=aA.later (aA.qW _ _ _ _) hc1;have dL:=BR.cell;have dK:=BR.free;have B0:=aA.later (aA.alloc (aA.new _ _ _) _) hc1;have cB0:=B0.cell;have kJ:=B0.free;go_wp2_with fail
 refine bX rfl rfl bq Tryz.underlying88 rfl zk ?_;exact ⟨rfl,aI⟩
theorem Oz (s t:ByteArray) (n:Int) (hn:Dec.whole s.data.toList=some n) (h:Dec.whole t.data.toList=none) (w:World) :
  Calls Tryz.prog 90 #[aB #[O s,O t]] w (tZ w):=by
 have HC:=zh (mO hn);have HD:=zh (F4 h);clear h hn;go_enter Tryz.func90,Tryz.ntmps90
 go_wp2_with fail
 refine (HC.out _).mono ?_;rintro e v1 ⟨rfl,hc1⟩;have BR:=aA.later (aA.qW _ _ _ _) hc1;have dL:=BR.cell;have dK:=BR.free;have B0:=aA.later (aA.alloc (aA.new _ _ _) _) hc1;have cB0:=B0.cell;have kJ:=B0.free;go_wp2_with fail
 refine (HD.out _).mono ?_;rintro e v2 ⟨rfl,hc2⟩;replace BR:=aA.later (BR) hc2;replace dL:=BR.cell;replace dK:=BR.free;replace B0:=aA.later (B0) hc2;replace cB0:=B0.cell;replace kJ:=B0.free;go_wp2_with fail
 refine bX rfl rfl bq Tryz.underlying88 rfl zk ?_;exact ⟨rfl,aI⟩
theorem Sj (q:Rat) (hq:jk q=true) (w:World) :
  Calls Tryz.prog 90 #[(Fr.of q).v] w (Nv w q):=by
 show Calls _ _ #[aB #[O ⟨(Lib.itoa q.num).toArray⟩,O ⟨(Lib.itoa (q.den:Int)).toArray⟩]] _ _
 have hs:=lg hq
 have hl:(Lib.decDigits q.num.natAbs).length≤600∧(Lib.decDigits ((q.den:Nat):Int).natAbs).length≤600:=by
  unfold jk at hq;rw [aF,fJ,fJ] at hq;exact ⟨hq.1,(Int.natAbs_natCast q.den).symm ▸ hq.2⟩
 obtain ⟨hl1,hl2⟩:=hl;have hd:=q.den_pos;have hr:=q.reduced;have HC:=zh (mO (s:=⟨(Lib.itoa q.num).toArray⟩) (gF hl1));have HD:=zh (mO (s:=⟨(Lib.itoa (q.den:Int)).toArray⟩) (gF hl2));have Yo:=zh hl1;have HL2:=zh hl2;have HR:=zh hr;have S1:=zh hs.1;have S2:=zh hs.2;obtain ⟨d,Ed⟩:∃ y:Int,Hid ((q.den:Int)=y):=⟨_,zh rfl⟩;have hdn:d.natAbs=q.den:=by rw [← Ed.out,Int.natAbs_natCast]
 have hd1:0<d:=by rw [← Ed.out];omega
 have hsg:xR d=1:=by unfold xR;rw [if_neg zo,if_neg zo]
 have hdf:decide (d<0)=false:=by simp;omega
 have HDN:=zh hdn;have RG:=zh hsg;have HDF:=zh hdf;have HR1:Hid (q.num.natAbs.gcd d.natAbs=1):=by unfold Hid;rw [hdn];exact hr
 rw [Ed.out] at HL2 HD ⊢;clear hq hs hl1 hl2 hr hd hdn hd1 hsg hdf;go_enter Tryz.func90,Tryz.ntmps90
 go_wp2_with fail
 refine (HC.out _).mono ?_;rintro e v1 ⟨rfl,hc1⟩;have BR:=aA.later (aA.qW _ _ _ _) hc1;have dL:=BR.cell;have dK:=BR.free;have B0:=aA.later (aA.alloc (aA.new _ _ _) _) hc1;have cB0:=B0.cell;have kJ:=B0.free;go_wp2_with fail
 refine (HD.out _).mono ?_;rintro e v2 ⟨rfl,hc2⟩;replace BR:=aA.later (BR) hc2;replace dL:=BR.cell;replace dK:=BR.free;replace B0:=aA.later (B0) hc2;replace cB0:=B0.cell;replace kJ:=B0.free;go_wp2_with fail
 refine aO [(.pure,0),(.read,1),(.pure,3),(.read,4),(.ext,2),(.ext,5),(.alloc #[ah none 0 0,ak false] 86,6),(.alloc #[ah none 0 0,ak false] 86,7),(.fin,8),(.fin,9)] zk zk zR zP ?_;refine zV ?_;refine aL rfl rfl (fun w3 hb3 J hJ=>?_);go_simp;replace BR:=aA.later (aA.drew BR) hb3;replace dL:=BR.cell;replace dK:=BR.free;replace B0:=aA.later (aA.drew B0) hb3;replace cB0:=B0.cell;replace kJ:=B0.free;refine (iT q.num Yo.out _).mono ?_;rintro e v3 ⟨v,rfl,hc3,hv⟩;obtain ⟨SB,lHN,TD,rfl,HN⟩:=hv;replace HN:=zh HN;replace BR:=aA.later (BR) hc3;replace dL:=BR.cell;replace dK:=BR.free;replace B0:=aA.later (B0) hc3;replace cB0:=B0.cell;replace kJ:=B0.free;refine hJ _ _ hc3 ?_;clear hJ J;refine aL rfl rfl (fun w4 hb4 J hJ=>?_);go_simp;replace BR:=aA.later (BR) hb4;replace dL:=BR.cell;replace dK:=BR.free
 replace B0:=aA.later (B0) hb4;replace cB0:=B0.cell;replace kJ:=B0.free;refine (iT d HL2.out _).mono ?_;rintro e v4 ⟨v,rfl,hc4,hv⟩;obtain ⟨SC,lHM,TF,rfl,HM⟩:=hv;replace HM:=zh HM;replace BR:=aA.later (BR) hc4;replace dL:=BR.cell;replace dK:=BR.free;replace B0:=aA.later (B0) hc4;replace cB0:=B0.cell;replace kJ:=B0.free;refine hJ _ _ hc4 ?_;clear hJ J;refine dU rfl (fun b1 w5 hw5 Pm Wt au5 fH=>?_);go_simp;replace fH:aA _ _ _ _:=fH;have au4:w.heap.size≤b1:=(by first|omega|exact au (Below.size (B:=w.heap.size) aI) Pm);replace BR:=aA.later (BR) hw5;replace dL:=BR.cell;replace dK:=BR.free;refine dU rfl (fun b2 w6 Wm WG af8 WJ jS=>?_);go_simp;replace jS:aA _ _ _ _:=jS;have aJ0:w.heap.size≤b2:=(by first|omega|exact au (Below.size (B:=w.heap.size) aI) WG)
 replace BR:=aA.later (BR) Wm;replace dL:=BR.cell;replace dK:=BR.free;replace fH:=aA.later (fH) Wm;replace qU:=fH.cell;replace qR:=fH.free;refine cZ [_,_] rfl (fun w7 jY=>?_);replace BR:=aA.later (BR) jY;replace dL:=BR.cell;replace dK:=BR.free;replace fH:=aA.later (fH) jY;replace qU:=fH.cell;replace qR:=fH.free;replace jS:=aA.later (jS) jY;replace FY:=jS.cell;replace FR:=jS.free;have n1:b1≠b2:=fun e=>WJ (by simp [e]);have n2:b2≠b1:=fun e=>n1 e.symm;have n3:=BR.ne fH zd;have n4:=BR.ne jS zd;go_wp2_with fail
 refine ((zA _ d _ (dS.dV aR)).mono (by rw [RG.out];exact fun _ _ h=>h)).mono ?_;rintro e v5 ⟨rfl,nO⟩;replace HN:=zh (aZ.carry HN.out aR nO);replace HM:=zh (aZ.carry HM.out aR nO);replace fH:aA _ (b1) _ _:=aA.later bq nO;(try simp only [List.setIfInBounds_toArray,aM,aN] at fH);replace qU:=fH.cell;replace qR:=fH.free;replace jS:aA _ (b2) _ _:=aA.later bq nO;(try simp only [List.setIfInBounds_toArray,aM,aN] at jS);replace FY:=jS.cell;replace FR:=jS.free;replace BR:aA _ (w.heap.size+1) _ _:=aA.later bq nO;(try simp only [List.setIfInBounds_toArray,aM,aN] at BR);replace dL:=BR.cell;replace dK:=BR.free;go_wp2_with fail
 refine ((pR _ _ q.num.natAbs d.natAbs _ aR aR (au S1.out zo) (by rw [HDN.out];exact au S2.out zo)).mono (by rw [HR1.out];exact fun _ _ h=>h)).mono ?_;rintro e v6 ⟨v,rfl,hc6,hv⟩;obtain ⟨aS0,lHG,aY3,rfl⟩:=hv.slice;have HG:=zh hv;clear hv;replace HN:=zh (aZ.later HN.out hc6);replace HM:=zh (aZ.later HM.out hc6);replace fH:=aA.later (fH) hc6;replace qU:=fH.cell;replace qR:=fH.free;replace jS:=aA.later (jS) hc6;replace FY:=jS.cell;replace FR:=jS.free;replace BR:=aA.later (BR) hc6;replace dL:=BR.cell;replace dK:=BR.free;go_wp2_with fail
 refine ((jT _ _ 1 1 _ aR (aZ.lit zo zo)).mono (by rw [rY];exact fun _ _ h=>h)).mono ?_;rintro e v7 ⟨rfl,GI⟩;replace HN:=zh (aZ.carry HN.out aR GI);replace HM:=zh (aZ.carry HM.out aR GI);replace fH:aA _ (b1) _ _:=aA.later bq GI;(try simp only [List.setIfInBounds_toArray,aM,aN] at fH);replace qU:=fH.cell;replace qR:=fH.free;replace jS:aA _ (b2) _ _:=aA.later bq GI;(try simp only [List.setIfInBounds_toArray,aM,aN] at jS);replace FY:=jS.cell;replace FR:=jS.free;replace BR:aA _ (w.heap.size+1) _ _:=aA.later bq GI;(try simp only [List.setIfInBounds_toArray,aM,aN] at BR);replace dL:=BR.cell;replace dK:=BR.free;go_wp2_with fail
 refine bX rfl rfl bq Tryz.underlying88 rfl zk ?_;refine ⟨_,rfl,aI,gI.mk q.num.natAbs d.natAbs aR aR rfl HDN.out rfl⟩
theorem GV (n d:Int) (hl1:(Lib.decDigits n.natAbs).length≤600) (hl2:(Lib.decDigits d.natAbs).length≤600) (hd:d≤0) (w:World) :
  Calls Tryz.prog 90 #[aB #[O ⟨(Lib.itoa n).toArray⟩,O ⟨(Lib.itoa d).toArray⟩]] w (tZ w):=by
 have HC:=zh (mO (s:=⟨(Lib.itoa n).toArray⟩) (gF hl1));have HD:=zh (mO (s:=⟨(Lib.itoa d).toArray⟩) (gF hl2));have Yo:=zh hl1;have HL2:=zh hl2
 have hs:xR d=0∨xR d= -1:=by
  unfold xR
  by_cases h:d=0
  ·rw [if_pos h];exact .inl rfl
  ·rw [if_neg h,if_pos zo];exact .inr rfl
 clear hl1 hl2 hd
 rcases hs with hs|hs
 all_goals
  have RG:=zh hs;clear hs;go_enter Tryz.func90,Tryz.ntmps90
  go_wp2_with fail
  refine (HC.out _).mono ?_;rintro e v1 ⟨rfl,hc1⟩;have BR:=aA.later (aA.qW _ _ _ _) hc1;have dL:=BR.cell;have dK:=BR.free;have B0:=aA.later (aA.alloc (aA.new _ _ _) _) hc1;have cB0:=B0.cell;have kJ:=B0.free;go_wp2_with fail
  refine (HD.out _).mono ?_;rintro e v2 ⟨rfl,hc2⟩;replace BR:=aA.later (BR) hc2;replace dL:=BR.cell;replace dK:=BR.free;replace B0:=aA.later (B0) hc2;replace cB0:=B0.cell;replace kJ:=B0.free;go_wp2_with fail
  refine aO [(.pure,0),(.read,1),(.pure,3),(.read,4),(.ext,2),(.ext,5),(.alloc #[ah none 0 0,ak false] 86,6),(.alloc #[ah none 0 0,ak false] 86,7),(.fin,8),(.fin,9)] zk zk zR zP ?_;refine zV ?_;refine aL rfl rfl (fun w3 hb3 J hJ=>?_);go_simp;replace BR:=aA.later (aA.drew BR) hb3;replace dL:=BR.cell;replace dK:=BR.free;replace B0:=aA.later (aA.drew B0) hb3;replace cB0:=B0.cell;replace kJ:=B0.free;refine (iT n Yo.out _).mono ?_;rintro e v3 ⟨v,rfl,hc3,hv⟩;obtain ⟨SB,lHN,TD,rfl,HN⟩:=hv;replace HN:=zh HN;replace BR:=aA.later (BR) hc3;replace dL:=BR.cell;replace dK:=BR.free;replace B0:=aA.later (B0) hc3;replace cB0:=B0.cell;replace kJ:=B0.free;refine hJ _ _ hc3 ?_;clear hJ J;refine aL rfl rfl (fun w4 hb4 J hJ=>?_);go_simp;replace BR:=aA.later (BR) hb4;replace dL:=BR.cell;replace dK:=BR.free
  replace B0:=aA.later (B0) hb4;replace cB0:=B0.cell;replace kJ:=B0.free;refine (iT d HL2.out _).mono ?_;rintro e v4 ⟨v,rfl,hc4,hv⟩;obtain ⟨SC,lHM,TF,rfl,HM⟩:=hv;replace HM:=zh HM;replace BR:=aA.later (BR) hc4;replace dL:=BR.cell;replace dK:=BR.free;replace B0:=aA.later (B0) hc4;replace cB0:=B0.cell;replace kJ:=B0.free;refine hJ _ _ hc4 ?_;clear hJ J;refine dU rfl (fun b1 w5 hw5 Pm Wt au5 fH=>?_);go_simp;replace fH:aA _ _ _ _:=fH;have au4:w.heap.size≤b1:=(by first|omega|exact au (Below.size (B:=w.heap.size) aI) Pm);replace BR:=aA.later (BR) hw5;replace dL:=BR.cell;replace dK:=BR.free;refine dU rfl (fun b2 w6 Wm WG af8 WJ jS=>?_);go_simp;replace jS:aA _ _ _ _:=jS;have aJ0:w.heap.size≤b2:=(by first|omega|exact au (Below.size (B:=w.heap.size) aI) WG)
  replace BR:=aA.later (BR) Wm;replace dL:=BR.cell;replace dK:=BR.free;replace fH:=aA.later (fH) Wm;replace qU:=fH.cell;replace qR:=fH.free;refine cZ [_,_] rfl (fun w7 jY=>?_);replace BR:=aA.later (BR) jY;replace dL:=BR.cell;replace dK:=BR.free;replace fH:=aA.later (fH) jY;replace qU:=fH.cell;replace qR:=fH.free;replace jS:=aA.later (jS) jY;replace FY:=jS.cell;replace FR:=jS.free;have n1:b1≠b2:=fun e=>WJ (by simp [e]);have n2:b2≠b1:=fun e=>n1 e.symm;have n3:=BR.ne fH zd;have n4:=BR.ne jS zd;go_wp2_with fail
  refine ((zA _ d _ (dS.dV aR)).mono (by rw [RG.out];exact fun _ _ h=>h)).mono ?_;rintro e v5 ⟨rfl,nO⟩;replace BR:aA _ (w.heap.size+1) _ _:=aA.later bq nO;(try simp only [List.setIfInBounds_toArray,aM,aN] at BR);replace dL:=BR.cell;replace dK:=BR.free;go_wp2_with fail
  refine bX rfl rfl bq Tryz.underlying88 rfl zk ?_;exact ⟨rfl,aI⟩
theorem Ot {g:Nat} (h:g≠1):sQ g 1= -1∨sQ g 1=1:=by
 unfold sQ
 by_cases h2:g<1
 ·rw [if_pos h2];exact .inl rfl
 ·rw [if_neg h2,if_pos zo];exact .inr rfl
theorem JC (n d:Int) (hl1:(Lib.decDigits n.natAbs).length≤600) (hl2:(Lib.decDigits d.natAbs).length≤600) (hd:0<d) (hg:n.natAbs.gcd d.natAbs≠1) (w:World) :
  Calls Tryz.prog 90 #[aB #[O ⟨(Lib.itoa n).toArray⟩,O ⟨(Lib.itoa d).toArray⟩]] w (tZ w):=by
 have HC:=zh (mO (s:=⟨(Lib.itoa n).toArray⟩) (gF hl1));have HD:=zh (mO (s:=⟨(Lib.itoa d).toArray⟩) (gF hl2));have Yo:=zh hl1;have HL2:=zh hl2;have S1:=zh (ni (fJ.2 hl1));have S2:=zh (ni (fJ.2 hl2));have hsg:xR d=1:=by unfold xR;rw [if_neg zo,if_neg zo]
 have hdf:decide (d<0)=false:=by simp;omega
 have RG:=zh hsg;have hs:=Ot hg;obtain ⟨g,Eg⟩:∃ y:Nat,Hid (n.natAbs.gcd d.natAbs=y):=⟨_,zh rfl⟩;rw [Eg.out] at hs;clear hl1 hl2 hd hg hsg hdf
 rcases hs with hs|hs
 all_goals
  have HS:=zh hs;clear hs;go_enter Tryz.func90,Tryz.ntmps90
  go_wp2_with fail
  refine (HC.out _).mono ?_;rintro e v1 ⟨rfl,hc1⟩;have BR:=aA.later (aA.qW _ _ _ _) hc1;have dL:=BR.cell;have dK:=BR.free;have B0:=aA.later (aA.alloc (aA.new _ _ _) _) hc1;have cB0:=B0.cell;have kJ:=B0.free;go_wp2_with fail
  refine (HD.out _).mono ?_;rintro e v2 ⟨rfl,hc2⟩;replace BR:=aA.later (BR) hc2;replace dL:=BR.cell;replace dK:=BR.free;replace B0:=aA.later (B0) hc2;replace cB0:=B0.cell;replace kJ:=B0.free;go_wp2_with fail
  refine aO [(.pure,0),(.read,1),(.pure,3),(.read,4),(.ext,2),(.ext,5),(.alloc #[ah none 0 0,ak false] 86,6),(.alloc #[ah none 0 0,ak false] 86,7),(.fin,8),(.fin,9)] zk zk zR zP ?_;refine zV ?_;refine aL rfl rfl (fun w3 hb3 J hJ=>?_);go_simp;replace BR:=aA.later (aA.drew BR) hb3;replace dL:=BR.cell;replace dK:=BR.free;replace B0:=aA.later (aA.drew B0) hb3;replace cB0:=B0.cell;replace kJ:=B0.free;refine (iT n Yo.out _).mono ?_;rintro e v3 ⟨v,rfl,hc3,hv⟩;obtain ⟨SB,lHN,TD,rfl,HN⟩:=hv;replace HN:=zh HN;replace BR:=aA.later (BR) hc3;replace dL:=BR.cell;replace dK:=BR.free;replace B0:=aA.later (B0) hc3;replace cB0:=B0.cell;replace kJ:=B0.free;refine hJ _ _ hc3 ?_;clear hJ J;refine aL rfl rfl (fun w4 hb4 J hJ=>?_);go_simp;replace BR:=aA.later (BR) hb4;replace dL:=BR.cell;replace dK:=BR.free
  replace B0:=aA.later (B0) hb4;replace cB0:=B0.cell;replace kJ:=B0.free;refine (iT d HL2.out _).mono ?_;rintro e v4 ⟨v,rfl,hc4,hv⟩;obtain ⟨SC,lHM,TF,rfl,HM⟩:=hv;replace HM:=zh HM;replace BR:=aA.later (BR) hc4;replace dL:=BR.cell;replace dK:=BR.free;replace B0:=aA.later (B0) hc4;replace cB0:=B0.cell;replace kJ:=B0.free;refine hJ _ _ hc4 ?_;clear hJ J;refine dU rfl (fun b1 w5 hw5 Pm Wt au5 fH=>?_);go_simp;replace fH:aA _ _ _ _:=fH;have au4:w.heap.size≤b1:=(by first|omega|exact au (Below.size (B:=w.heap.size) aI) Pm);replace BR:=aA.later (BR) hw5;replace dL:=BR.cell;replace dK:=BR.free;refine dU rfl (fun b2 w6 Wm WG af8 WJ jS=>?_);go_simp;replace jS:aA _ _ _ _:=jS;have aJ0:w.heap.size≤b2:=(by first|omega|exact au (Below.size (B:=w.heap.size) aI) WG)
  replace BR:=aA.later (BR) Wm;replace dL:=BR.cell;replace dK:=BR.free;replace fH:=aA.later (fH) Wm;replace qU:=fH.cell;replace qR:=fH.free;refine cZ [_,_] rfl (fun w7 jY=>?_);replace BR:=aA.later (BR) jY;replace dL:=BR.cell;replace dK:=BR.free;replace fH:=aA.later (fH) jY;replace qU:=fH.cell;replace qR:=fH.free;replace jS:=aA.later (jS) jY;replace FY:=jS.cell;replace FR:=jS.free;have n1:b1≠b2:=fun e=>WJ (by simp [e]);have n2:b2≠b1:=fun e=>n1 e.symm;have n3:=BR.ne fH zd;have n4:=BR.ne jS zd;go_wp2_with fail
  refine ((zA _ d _ (dS.dV aR)).mono (by rw [RG.out];exact fun _ _ h=>h)).mono ?_;rintro e v5 ⟨rfl,nO⟩;replace HN:=zh (aZ.carry HN.out aR nO);replace HM:=zh (aZ.carry HM.out aR nO);replace fH:aA _ (b1) _ _:=aA.later bq nO;(try simp only [List.setIfInBounds_toArray,aM,aN] at fH);replace qU:=fH.cell;replace qR:=fH.free;replace jS:aA _ (b2) _ _:=aA.later bq nO;(try simp only [List.setIfInBounds_toArray,aM,aN] at jS);replace FY:=jS.cell;replace FR:=jS.free;replace BR:aA _ (w.heap.size+1) _ _:=aA.later bq nO;(try simp only [List.setIfInBounds_toArray,aM,aN] at BR);replace dL:=BR.cell;replace dK:=BR.free;go_wp2_with fail
  refine ((pR _ _ n.natAbs d.natAbs _ aR aR (au S1.out zo) (au S2.out zo)).mono (by rw [Eg.out];exact fun _ _ h=>h)).mono ?_;rintro e v6 ⟨v,rfl,hc6,hv⟩;obtain ⟨aS0,lHG,aY3,rfl⟩:=hv.slice;have HG:=zh hv;clear hv;replace HN:=zh (aZ.later HN.out hc6);replace HM:=zh (aZ.later HM.out hc6);replace fH:=aA.later (fH) hc6;replace qU:=fH.cell;replace qR:=fH.free;replace jS:=aA.later (jS) hc6;replace FY:=jS.cell;replace FR:=jS.free;replace BR:=aA.later (BR) hc6;replace dL:=BR.cell;replace dK:=BR.free;go_wp2_with fail
  refine ((jT _ _ g 1 _ aR (aZ.lit zo zo)).mono (by rw [HS.out];exact fun _ _ h=>h)).mono ?_;rintro e v7 ⟨rfl,GI⟩;replace BR:aA _ (w.heap.size+1) _ _:=aA.later bq GI;(try simp only [List.setIfInBounds_toArray,aM,aN] at BR);replace dL:=BR.cell;replace dK:=BR.free;go_wp2_with fail
  refine bX rfl rfl bq Tryz.underlying88 rfl zk ?_;exact ⟨rfl,aI⟩
theorem Sk (a:Fr) (h:rd a=none) (w:World):Calls Tryz.prog 90 #[a.v] w (tZ w):=by
 obtain ⟨s,t⟩:=a
 show Calls _ _ #[aB #[O s,O t]] _ _
 unfold rd at h;simp only at h;cases e1:Dec.whole s.data.toList with
 | none=>exact Oy s t e1 w
 | some n =>
  cases e2:Dec.whole t.data.toList with
  | none=>exact Oz s t n e1 e2 w
  | some d =>
   rw [e1,e2] at h;simp only at h;obtain ⟨h1,h2⟩:=oz e1;obtain ⟨h3,h4⟩:=oz e2;have hs:s=⟨(Lib.itoa n).toArray⟩:=F6 h1;have ht:t=⟨(Lib.itoa d).toArray⟩:=F6 h3;rw [hs,ht]
   by_cases hd:0<d
   ·refine JC n d h2 h4 hd (fun e=>?_) w;rw [dif_pos ⟨hd,e⟩] at h;cases h
   ·exact GV n d h2 h4 zo w
theorem gY {s t:ByteArray} {q:Rat} (h:rd ⟨s,t⟩=some q) (w:World):Calls Tryz.prog 90 #[aB #[O s,O t]] w (Nv w q):=by
 obtain ⟨e,hq⟩:=ow h;have:=Sj q hq w;rw [← e] at this;exact this
theorem iE {s t:ByteArray} (h:rd ⟨s,t⟩=none) (w:World):Calls Tryz.prog 90 #[aB #[O s,O t]] w (tZ w):=Sk ⟨s,t⟩ h w
theorem mE (a:Fr) (w:World) :
  Calls Tryz.prog 69 #[a.v] w (fun e w'=>e= aj (Z I (Dk a))∧Bw w w'):=by
 obtain ⟨s,t⟩:=a
 show Calls _ _ #[aB #[O s,O t]] _ _
 unfold Dk;cases h:rd ⟨s,t⟩ with
 | none =>
  have HR:=zh (iE h);clear h;go_enter Tryz.func69,Tryz.ntmps69
  go_wp2_with fail
  refine (HR.out _).mono ?_;rintro e v1 ⟨rfl,hc1⟩;go_wp2_with fail
  go_ret
  exact ⟨rfl,aI⟩
 | some q =>
  have HR:=zh (gY h);clear h;go_enter Tryz.func69,Tryz.ntmps69
  go_wp2_with fail
  refine (HR.out _).mono ?_;rintro e v1 ⟨v,rfl,hc1,hv⟩;obtain ⟨Cq,Ub,Cy,GX,Yc,H7,rfl,Hq,vI⟩:=hv;replace Hq:=zh Hq;replace vI:=zh vI;go_wp2_with fail
  go_ret
  exact ⟨rfl,aI⟩
def pair (x:Int × Int):Value:=aD #[Z I x.1,Z I x.2]
theorem qy (a:Fr) (w:World) :
  Calls Tryz.prog 75 #[a.v] w (fun e w'=>e= aj (pair (jQ a))∧Bw w w'):=by
 obtain ⟨s,t⟩:=a
 show Calls _ _ #[aB #[O s,O t]] _ _
 unfold jQ;cases h:rd ⟨s,t⟩ with
 | none =>
  have HR:=zh (iE h);clear h;go_enter Tryz.func75,Tryz.ntmps75
  go_wp2_with fail
  refine (HR.out _).mono ?_;rintro e v1 ⟨rfl,hc1⟩;go_wp2_with fail
  go_ret2
  exact ⟨rfl,aI⟩
 | some q =>
  have HR:=zh (gY h);have e:=Sd q;simp only;rw [← e];clear h e;go_enter Tryz.func75,Tryz.ntmps75
  go_wp2_with fail
  refine (HR.out _).mono ?_;rintro e v1 ⟨v,rfl,hc1,hv⟩;obtain ⟨Cq,Ub,Cy,GX,Yc,H7,rfl,Hq,vI⟩:=hv;replace Hq:=zh Hq;replace vI:=zh vI;go_wp2_with fail
  refine (zA _ q.num _ (dS.dV aR)).mono ?_;rintro e v2 ⟨rfl,hc2⟩;go_wp2_with fail
  go_ret2
  exact ⟨rfl,aI⟩
theorem Nq (s t s' t':ByteArray) (w:World) :
  Calls Tryz.prog 87 #[aB #[O s,O t],aB #[O s',O t'],.func (.func 88) #[] #[]] w (fun e w'=>e= aj (pair (tQ ⟨s,t⟩ ⟨s',t'⟩))∧Bw w w'):=by
 unfold tQ;cases h:rd ⟨s,t⟩ with
 | none =>
  have HR:=zh (iE h);cases k:rd ⟨s',t'⟩ with
  | none =>
   have HS:=zh (iE k);clear h k;go_enter Tryz.func87,Tryz.ntmps87
   go_wp2_with fail
   refine (HR.out _).mono ?_;rintro e v1 ⟨rfl,hc1⟩;have B1:=aA.later (aA.qW _ _ _ _) hc1;have cB1:=B1.cell;have ru:=B1.free;have lB1:=B1.lt;go_wp2_with fail
   refine (HS.out _).mono ?_;rintro e v2 ⟨rfl,hc2⟩;go_wp2_with fail
   go_ret2
   exact ⟨rfl,aI⟩
  | some q =>
   have HS:=zh (gY k);clear h k;go_enter Tryz.func87,Tryz.ntmps87
   go_wp2_with fail
   refine (HR.out _).mono ?_;rintro e v1 ⟨rfl,hc1⟩;have B1:=aA.later (aA.qW _ _ _ _) hc1;have cB1:=B1.cell;have ru:=B1.free;have lB1:=B1.lt;go_wp2_with fail
   refine (HS.out _).mono ?_;rintro e v2 ⟨v,rfl,hc2,hv⟩;obtain ⟨Cq,Ub,Cy,GX,Yc,H7,rfl,Hq,vI⟩:=hv;replace Hq:=zh Hq;replace vI:=zh vI;go_wp2_with fail
   go_ret2
   exact ⟨rfl,aI⟩
 | some p =>
  have HR:=zh (gY h);cases k:rd ⟨s',t'⟩ with
  | none =>
   have HS:=zh (iE k);clear h k;go_enter Tryz.func87,Tryz.ntmps87
   go_wp2_with fail
   refine (HR.out _).mono ?_;rintro e v1 ⟨v,rfl,hc1,hv⟩;obtain ⟨OH,lHp,PK,Sw,mHp,TA,rfl,Hp,yt⟩:=hv;replace Hp:=zh Hp;replace yt:=zh yt;have B1:=aA.later (aA.qW _ _ _ _) hc1;have cB1:=B1.cell;have ru:=B1.free;have lB1:=B1.lt;go_wp2_with fail
   refine (HS.out _).mono ?_;rintro e v2 ⟨rfl,hc2⟩;go_wp2_with fail
   go_ret2
   exact ⟨rfl,aI⟩
  | some q =>
   have HS:=zh (gY k);have KP:=zh ((lg (ow h).2).mono (show 67≤1000000 by omega));have KQ:=zh ((lg (ow k).2).mono (show 67≤1000000 by omega));clear h k;go_enter Tryz.func87,Tryz.ntmps87
   go_wp2_with fail
   refine (HR.out _).mono ?_;rintro e v1 ⟨v,rfl,hc1,hv⟩;obtain ⟨OH,lHp,PK,Sw,mHp,TA,rfl,Hp,yt⟩:=hv;replace Hp:=zh Hp;replace yt:=zh yt;have B1:=aA.later (aA.qW _ _ _ _) hc1;have cB1:=B1.cell;have ru:=B1.free;have lB1:=B1.lt;go_wp2_with fail
   refine (HS.out _).mono ?_;rintro e v2 ⟨v,rfl,hc2,hv⟩;obtain ⟨Cq,Ub,Cy,GX,Yc,H7,rfl,Hq,vI⟩:=hv;replace Hq:=zh Hq;replace vI:=zh vI;replace X1:aA _ (v1.heap.size) _ _:=aA.later bq hc2;(try simp only [List.setIfInBounds_toArray,aM,aN] at X1);replace qx:=X1.cell;replace sS:=X1.free;replace qo:=X1.lt;go_wp2_with fail
   refine (vZ _ _ p q _ (gI.of aR aR) (gI.of aR aR) KP.out KQ.out).mono ?_;rintro e v3 ⟨rfl,hc3⟩;go_wp2_with fail
   go_ret2
   exact ⟨rfl,aI⟩
theorem KX (a b:Fr) (w:World) :
  Calls Tryz.prog 36 #[a.v,b.v] w (fun e w'=>e= aj (pair (tQ a b))∧Bw w w'):=by
 obtain ⟨s,t⟩:=a;obtain ⟨s',t'⟩:=b
 show Calls _ _ #[aB #[O s,O t],aB #[O s',O t']] _ _
 have H:=zh (Nq s t s' t');unfold pair at *;generalize tQ ⟨s,t⟩ ⟨s',t'⟩=c at *;obtain ⟨x,y⟩:=c;go_enter Tryz.func36,Tryz.ntmps36
 go_wp2_with fail
 refine (H.out _).mono ?_;rintro e v1 ⟨rfl,hc1⟩;go_wp2_with fail
 go_ret2
 exact ⟨rfl,aI⟩
theorem ad2 (n d:Int) (hl1:(Lib.decDigits n.natAbs).length≤600) (hl2:(Lib.decDigits d.natAbs).length≤600) (w:World) (ht:ko.Pow w) :
  Calls Tryz.prog 85 #[O ⟨(Lib.itoa n).toArray⟩,O ⟨(Lib.itoa d).toArray⟩] w (fun e w'=>e= aj (Fr.res (lI n d))∧Bw w w'):=by
 have HC:=zh (mO (s:=⟨(Lib.itoa n).toArray⟩) (gF hl1));have HD:=zh (mO (s:=⟨(Lib.itoa d).toArray⟩) (gF hl2));have Yo:=zh hl1;have HL2:=zh hl2;have S1:=ni (fJ.2 hl1);have S2:=ni (fJ.2 hl2);have HT:=zh ht;clear ht hl1 hl2
 by_cases h0:d=0
 ·have e:Fr.res (lI n d)= aD #[aB #[O ⟨#[]⟩,O ⟨#[]⟩],Z I 7]:=by unfold lI;rw [if_pos h0];rfl
  rw [e];have hz:decide (d.natAbs=0)=true:=by simp;omega
  have HZ:=zh hz;clear e h0 hz S1 S2;go_enter Tryz.func85,Tryz.ntmps85
  go_wp2_with fail
  refine (HC.out _).mono ?_;rintro e v1 ⟨rfl,hc1⟩;have BR:=aA.later (aA.new _ _ _) hc1;have dL:=BR.cell;have dK:=BR.free;have iQ:=BR.lt;go_wp2_with fail
  refine (HD.out _).mono ?_;rintro e v2 ⟨rfl,hc2⟩;replace BR:=aA.later (BR) hc2;replace dL:=BR.cell;replace dK:=BR.free;replace iQ:=BR.lt;go_wp2_with fail
  refine (iT n Yo.out _).mono ?_;rintro e v3 ⟨v,rfl,hc3,hv⟩;obtain ⟨SB,lHN,TD,rfl,HN⟩:=hv;replace HN:=zh HN;replace BR:=aA.later (BR) hc3;replace dL:=BR.cell;replace dK:=BR.free;replace iQ:=BR.lt;go_wp2_with fail
  refine (iT d HL2.out _).mono ?_;rintro e v4 ⟨v,rfl,hc4,hv⟩;obtain ⟨SC,lHM,TF,rfl,HM⟩:=hv;replace HM:=zh HM;replace BR:=aA.later (BR) hc4;replace dL:=BR.cell;replace dK:=BR.free;replace iQ:=BR.lt;go_wp2_with fail
  refine (iI _ d.natAbs _ aR).mono ?_;rintro e v5 ⟨rfl,rfl⟩;rw [HZ.out];go_wp2_with fail
  refine bX rfl rfl bq Tryz.underlying38 rfl zk ?_;exact ⟨rfl,aI⟩
 ·have e:lI n d=wr (mkRat (iR n.natAbs (!(decide (n<0) == decide (d<0)))) d.natAbs):=by unfold lI;rw [if_neg h0,QU n d h0]
  rw [e];have hz:decide (d.natAbs=0)=false:=by simp;omega
  have HZ:=zh hz;have hdp:0<d.natAbs:=by omega
  have HDP:=zh hdp;obtain ⟨f,Ef⟩:∃ y:Bool,Hid (Bool.not (decide (n<0) == decide (d<0))=y):=⟨_,zh rfl⟩;obtain ⟨s,Es⟩:∃ y:Int,Hid (iR n.natAbs f=y):=⟨_,zh rfl⟩;rw [Ef.out,Es.out];have hs:sz 1000000000 s.natAbs≤67:=by rw [← Es.out,jD];exact S1
  have KS:=zh (au hs (show 67≤549755813888 by omega));have KD:=zh (au S2 (show 67≤549755813888 by omega))
  have KQ:Hid (mQ 1000000 (mkRat s d.natAbs)):=by
   have hp:=wu s hdp;refine zh ⟨?_,?_⟩
   ·rw [hp.1,jD];exact au jC zo
   ·rw [hp.2];exact au jC zo
  obtain ⟨q,Eq⟩:∃ y:Rat,Hid (mkRat s d.natAbs=y):=⟨_,zh rfl⟩;rw [Eq.out] at KQ ⊢;obtain ⟨x,Ex⟩:∃ y:FrI,Hid (wr q=y):=⟨_,zh rfl⟩;rw [Ex.out];clear e;obtain ⟨⟨s1,t1⟩,e⟩:=x;rw [rZ];clear h0 hz hdp hs S1 S2;go_enter Tryz.func85,Tryz.ntmps85
  go_wp2_with fail
  refine (HC.out _).mono ?_;rintro e v1 ⟨rfl,hc1⟩;have BR:=aA.later (aA.new _ _ _) hc1;have dL:=BR.cell;have dK:=BR.free;have iQ:=BR.lt;go_wp2_with fail
  refine (HD.out _).mono ?_;rintro e v2 ⟨rfl,hc2⟩;replace BR:=aA.later (BR) hc2;replace dL:=BR.cell;replace dK:=BR.free;replace iQ:=BR.lt;go_wp2_with fail
  refine (iT n Yo.out _).mono ?_;rintro e v3 ⟨v,rfl,hc3,hv⟩;obtain ⟨SB,lHN,TD,rfl,HN⟩:=hv;replace HN:=zh HN;replace BR:=aA.later (BR) hc3;replace dL:=BR.cell;replace dK:=BR.free;replace iQ:=BR.lt;go_wp2_with fail
  refine (iT d HL2.out _).mono ?_;rintro e v4 ⟨v,rfl,hc4,hv⟩;obtain ⟨SC,lHM,TF,rfl,HM⟩:=hv;replace HM:=zh HM;replace HN:=zh (aZ.later HN.out hc4);replace BR:=aA.later (BR) hc4;replace dL:=BR.cell;replace dK:=BR.free;replace iQ:=BR.lt;go_wp2_with fail
  refine (iI _ d.natAbs _ aR).mono ?_;rintro e v5 ⟨rfl,rfl⟩;rw [HZ.out];go_wp2_with fail
  refine aO [(.pure,0),(.read,1),(.pure,2),(.read,3),(.pure,4),(.read,5),(.pure,6),(.pure,8),(.read,9),(.ext,7),(.ext,10),(.ext,11),(.pure,12),(.pure,13),(.fin,14),(.fin,15)] zk zk zR zP ?_;refine zV ?_;refine aL rfl rfl (fun w6 hb6 J hJ=>?_);go_simp;replace HM:=zh (aZ.carry HM.out aR hb6);replace BR:aA _ (w.heap.size) _ _:=aA.later bq hb6;(try simp only [List.setIfInBounds_toArray,aM,aN] at BR);replace dL:=BR.cell;replace dK:=BR.free;replace iQ:=BR.lt;refine ((fF _ n.natAbs _ _ aR).mono (by rw [show (Bool.not (decide (n<0) == decide (d<0)))=f from Ef.out,Es.out];exact fun _ _ h=>h)).mono ?_;rintro e v6 ⟨v,rfl,hc6,hv⟩;obtain ⟨Co,Ua,Cx,rfl,Hs⟩:=hv;replace Hs:=zh Hs;replace HM:=zh (aZ.later HM.out hc6);replace BR:=aA.later (BR) hc6;replace dL:=BR.cell;replace dK:=BR.free;replace iQ:=BR.lt;refine hJ _ _ hc6 ?_
  clear hJ J;refine aL rfl rfl (fun w7 jY J hJ=>?_);go_simp;replace HM:=zh (aZ.later HM.out jY);replace Hs:=zh (aZ.later Hs.out jY);replace BR:=aA.later (BR) jY;replace dL:=BR.cell;replace dK:=BR.free;replace iQ:=BR.lt;refine ((Ox _ _ s d.natAbs _ (dS.dV aR) aR HDP.out KS.out KD.out).mono (by rw [Eq.out];exact fun _ _ h=>h)).mono ?_;rintro e v7 ⟨v,rfl,GI,hv⟩;obtain ⟨Cq,Ub,Cy,GX,Yc,H7,rfl,Hq,vI⟩:=hv;replace Hq:=zh Hq;replace vI:=zh vI;replace HM:=zh (aZ.later HM.out GI);replace Hs:=zh (aZ.later Hs.out GI);replace BR:=aA.later (BR) GI;replace dL:=BR.cell;replace dK:=BR.free;replace iQ:=BR.lt;refine hJ _ _ GI ?_;clear hJ J;refine aL rfl rfl (fun w8 o7 J hJ=>?_);go_simp;replace BR:=aA.later (BR) o7;replace dL:=BR.cell;replace dK:=BR.free;replace iQ:=BR.lt
  refine ((kV _ q _ (gI.of aR aR) KQ.out (HT.out.later aI)).mono (by rw [Ex.out,rZ];exact fun _ _ h=>h)).mono ?_;rintro e v8 ⟨rfl,hc8⟩;replace BR:=aA.later (BR) hc8;replace dL:=BR.cell;replace dK:=BR.free;replace iQ:=BR.lt;refine hJ _ _ hc8 ?_;clear hJ J;refine zV ?_;refine cZ [_,_] rfl (fun w9 rJ=>?_);replace BR:=aA.later (BR) rJ;replace dL:=BR.cell;replace dK:=BR.free;replace iQ:=BR.lt;go_wp2_with fail
  refine bX rfl rfl bq Tryz.underlying38 rfl zk ?_;exact ⟨rfl,aI⟩
theorem Rk (z:Int) (h0: -9223372036854775808≤z) (h1:z≤9223372036854775807):(Lib.decDigits z.natAbs).length≤600 :=
 au (nD 19 z.natAbs zo zo) zo
theorem uf (n d:Int) (n0: -9223372036854775808≤n) (n1:n≤9223372036854775807) (d0: -9223372036854775808≤d) (d1:d≤9223372036854775807) (w:World) (ht:ko.Pow w) :
  Calls Tryz.prog 35 #[Z I n,Z I d] w (fun e w'=>e= aj (Fr.res (lI n d))∧Bw w w'):=by
 have H1:=zh (fun w ht=>whole.Vv n n0 n1 w ht);have H2:=zh (fun w ht=>whole.Vv d d0 d1 w ht);have H3:=zh (fun w ht=>ad2 n d (Rk n n0 n1) (Rk d d0 d1) w ht);have HT:=zh ht;clear ht n0 n1 d0 d1;obtain ⟨x,Ex⟩:∃ y:FrI,Hid (lI n d=y):=⟨_,zh rfl⟩;rw [Ex.out];obtain ⟨⟨s1,t1⟩,e⟩:=x;rw [rZ];go_enter Tryz.func35,Tryz.ntmps35
 go_wp2_with fail
 refine ((H1.out _ (HT.out.later aI)).mono (fun _ _ h=>by unfold fO at h;exact h)).mono ?_;rintro e v1 ⟨rfl,hc1⟩;have BR:=aA.later (aA.new _ _ _) hc1;have dL:=BR.cell;have dK:=BR.free;have iQ:=BR.lt;go_wp2_with fail
 refine ((H2.out _ (HT.out.later aI)).mono (fun _ _ h=>by unfold fO at h;exact h)).mono ?_;rintro e v2 ⟨rfl,hc2⟩;replace BR:=aA.later (BR) hc2;replace dL:=BR.cell;replace dK:=BR.free;replace iQ:=BR.lt;go_wp2_with fail
 refine ((H3.out _ (HT.out.later aI)).mono (by rw [Ex.out,rZ];exact fun _ _ h=>h)).mono ?_;rintro e v3 ⟨rfl,hc3⟩;replace BR:=aA.later (BR) hc3;replace dL:=BR.cell;replace dK:=BR.free;replace iQ:=BR.lt;go_wp2_with fail
 refine bX rfl rfl bq Tryz.underlying38 rfl zk ?_;exact ⟨rfl,aI⟩
theorem VH (x y:Value) (p q:Rat) (w:World) (hx:gI w x p) (hy:gI w y q) (kp:mQ 1000000 p) (kq:mQ 1000000 q) :
  Calls Tryz.prog 39 #[x,y] w (fun e w'=>∃ v,e= aj v∧Bw w w'∧gI w' v (p*q)):=by
 obtain ⟨IE,lH,I7,X7,mH,Yh,rfl,H,Hd⟩:=hx;replace H:=zh H;replace Hd:=zh Hd;obtain ⟨Ya,lG,Yi,pbG,mG,cbG,rfl,G,Gd⟩:=hy;replace G:=zh G;replace Gd:=zh Gd;have HP:=zh (OX p q);have hp:=p.den_pos;have hq:=q.den_pos;have hg:0<p.num.natAbs.gcd q.den:=Nat.gcd_pos_of_pos_right _ hq;have hh:0<q.num.natAbs.gcd p.den:=Nat.gcd_pos_of_pos_right _ hp;obtain ⟨kp1,kp2⟩:=kp;obtain ⟨kq1,kq2⟩:=kq;obtain ⟨g,Eg⟩:∃ y:Nat,Hid (p.num.natAbs.gcd q.den=y):=⟨_,zh rfl⟩;rw [Eg.out] at hg HP;obtain ⟨h,Eh⟩:∃ y:Nat,Hid (q.num.natAbs.gcd p.den=y):=⟨_,zh rfl⟩;rw [Eh.out] at hh HP;have k1:= @jC p.num.natAbs g;have k2:= @jC p.den h;have k3:= @jC q.num.natAbs h;have k4:= @jC q.den g;obtain ⟨a,Ea⟩:∃ y:Nat,Hid (p.num.natAbs / g=y):=⟨_,zh rfl⟩;rw [Ea.out] at HP k1;obtain ⟨b,Eb⟩:∃ y:Nat,Hid (p.den / h=y):=⟨_,zh rfl⟩;rw [Eb.out] at HP k2;obtain ⟨c,Ec⟩:∃ y:Nat,Hid (q.num.natAbs / h=y):=⟨_,zh rfl⟩
 rw [Ec.out] at HP k3;obtain ⟨d,Ed⟩:∃ y:Nat,Hid (q.den / g=y):=⟨_,zh rfl⟩;rw [Ed.out] at HP k4;obtain ⟨s,Es⟩:∃ y:Nat,Hid (a*c=y):=⟨_,zh rfl⟩;rw [Es.out] at HP;obtain ⟨t,Et⟩:∃ y:Nat,Hid (b*d=y):=⟨_,zh rfl⟩;rw [Et.out] at HP;have HGp:=zh hg;have HHp:=zh hh;have Kpn:Hid (sz 1000000000 p.num.natAbs≤549755813888):=by unfold Hid;omega
 have Kqn:Hid (sz 1000000000 q.num.natAbs≤549755813888):=by unfold Hid;omega
 have Kpd:Hid (sz 1000000000 p.den≤549755813888):=by unfold Hid;omega
 have Kqd:Hid (sz 1000000000 q.den≤549755813888):=by unfold Hid;omega
 have Ka:Hid (sz 1000000000 a≤1099511627776):=by unfold Hid;omega
 have Kb:Hid (sz 1000000000 b≤1099511627776):=by unfold Hid;omega
 have Kc:Hid (sz 1000000000 c≤1099511627776):=by unfold Hid;omega
 have Kd:Hid (sz 1000000000 d≤1099511627776):=by unfold Hid;omega
 clear k1 k2 k3 k4 kp1 kp2 kq1 kq2 hg hh hp hq;go_enter Tryz.func39,Tryz.ntmps39
 go_wp2_with fail
 refine ((pR _ _ p.num.natAbs q.den _ aR aR Kpn.out Kqd.out).mono (by rw [Eg.out];exact fun _ _ h=>h)).mono ?_;rintro e v1 ⟨v,rfl,hc1,hv⟩;obtain ⟨bf1,lMg,bk6,rfl⟩:=hv.slice;have Mg:=zh hv;clear hv;replace H:=zh (aZ.carry H.out aR hc1);replace Hd:=zh (aZ.carry Hd.out aR hc1);replace G:=zh (aZ.carry G.out aR hc1);replace Gd:=zh (aZ.carry Gd.out aR hc1);have BR:=aA.later (aA.at2 _ _ _ _ _) hc1;have dL:=BR.cell;have dK:=BR.free;have B1:=aA.later (aA.alloc (aA.qW _ _ _ _) _) hc1;have cB1:=B1.cell;have ru:=B1.free;have B0:=aA.later (aA.alloc (aA.alloc (aA.new _ _ _) _) _) hc1;have cB0:=B0.cell;have kJ:=B0.free;go_wp2_with fail
 refine ((pR _ _ q.num.natAbs p.den _ aR aR Kqn.out Kpd.out).mono (by rw [Eh.out];exact fun _ _ h=>h)).mono ?_;rintro e v2 ⟨v,rfl,hc2,hv⟩;obtain ⟨bf0,lMh,bk5,rfl⟩:=hv.slice;have Mh:=zh hv;clear hv;replace H:=zh (aZ.later H.out hc2);replace Hd:=zh (aZ.later Hd.out hc2);replace G:=zh (aZ.later G.out hc2);replace Gd:=zh (aZ.later Gd.out hc2);replace Mg:=zh (aZ.later Mg.out hc2);replace BR:=aA.later (BR) hc2;replace dL:=BR.cell;replace dK:=BR.free;replace B1:=aA.later (B1) hc2;replace cB1:=B1.cell;replace ru:=B1.free;replace B0:=aA.later (B0) hc2;replace cB0:=B0.cell;replace kJ:=B0.free;go_wp2_with fail
 refine ((eZ _ _ p.num.natAbs g _ aR aR HGp.out Kpn.out).mono (by rw [Ea.out];exact fun _ _ h=>h)).mono ?_;rintro e v3 ⟨v,vr,rfl,hc3,hv,kR⟩;obtain ⟨bf5,lMa,bl0,rfl⟩:=hv.slice;have Ma:=zh hv;clear hv;obtain ⟨bb7,bh4,bd6,rfl⟩:=kR.slice;have Mar:=zh kR;clear kR;replace Hd:=zh (aZ.later Hd.out hc3);replace G:=zh (aZ.later G.out hc3);replace Gd:=zh (aZ.later Gd.out hc3);replace Mg:=zh (aZ.later Mg.out hc3);replace Mh:=zh (aZ.later Mh.out hc3);replace BR:=aA.later (BR) hc3;replace dL:=BR.cell;replace dK:=BR.free;replace B1:=aA.later (B1) hc3;replace cB1:=B1.cell;replace ru:=B1.free;replace B0:=aA.later (B0) hc3;replace cB0:=B0.cell;replace kJ:=B0.free;go_wp2_with fail
 clear Mar H;refine ((eZ _ _ p.den h _ aR aR HHp.out Kpd.out).mono (by rw [Eb.out];exact fun _ _ h=>h)).mono ?_;rintro e v4 ⟨v,vr,rfl,hc4,hv,kR⟩;obtain ⟨bf4,lMb,bk9,rfl⟩:=hv.slice;have Mb:=zh hv;clear hv;obtain ⟨bb6,bh3,bd5,rfl⟩:=kR.slice;have Mbr:=zh kR;clear kR;replace G:=zh (aZ.later G.out hc4);replace Gd:=zh (aZ.later Gd.out hc4);replace Mg:=zh (aZ.later Mg.out hc4);replace Mh:=zh (aZ.later Mh.out hc4);replace Ma:=zh (aZ.later Ma.out hc4);replace BR:=aA.later (BR) hc4;replace dL:=BR.cell;replace dK:=BR.free;replace B1:=aA.later (B1) hc4;replace cB1:=B1.cell;replace ru:=B1.free;replace B0:=aA.later (B0) hc4;replace cB0:=B0.cell;replace kJ:=B0.free;go_wp2_with fail
 clear Mbr Hd;refine ((eZ _ _ q.num.natAbs h _ aR aR HHp.out Kqn.out).mono (by rw [Ec.out];exact fun _ _ h=>h)).mono ?_;rintro e v5 ⟨v,vr,rfl,nO,hv,kR⟩;obtain ⟨bf3,lMc,bk8,rfl⟩:=hv.slice;have Mc:=zh hv;clear hv;obtain ⟨bb5,bh2,bd4,rfl⟩:=kR.slice;have Mcr:=zh kR;clear kR;replace Gd:=zh (aZ.later Gd.out nO);replace Mg:=zh (aZ.later Mg.out nO);replace Ma:=zh (aZ.later Ma.out nO);replace Mb:=zh (aZ.later Mb.out nO);replace BR:=aA.later (BR) nO;replace dL:=BR.cell;replace dK:=BR.free;replace B1:=aA.later (B1) nO;replace cB1:=B1.cell;replace ru:=B1.free;replace B0:=aA.later (B0) nO;replace cB0:=B0.cell;replace kJ:=B0.free;go_wp2_with fail
 clear Mcr G;refine ((eZ _ _ q.den g _ aR aR HGp.out Kqd.out).mono (by rw [Ed.out];exact fun _ _ h=>h)).mono ?_;rintro e v6 ⟨v,vr,rfl,hc6,hv,kR⟩;obtain ⟨bf2,lMd,bk7,rfl⟩:=hv.slice;have Md:=zh hv;clear hv;obtain ⟨bb4,bh0,bd3,rfl⟩:=kR.slice;have Mdr:=zh kR;clear kR;replace Ma:=zh (aZ.later Ma.out hc6);replace Mb:=zh (aZ.later Mb.out hc6);replace Mc:=zh (aZ.later Mc.out hc6);replace BR:=aA.later (BR) hc6;replace dL:=BR.cell;replace dK:=BR.free;replace B1:=aA.later (B1) hc6;replace cB1:=B1.cell;replace ru:=B1.free;replace B0:=aA.later (B0) hc6;replace cB0:=B0.cell;replace kJ:=B0.free;go_wp2_with fail
 clear Mdr Gd;refine aO [(.pure,0),(.pure,1),(.pure,3),(.pure,4),(.read,5),(.pure,6),(.pure,7),(.read,8),(.pure,9),(.pure,11),(.pure,12),(.ext,2),(.ext,10),(.ext,13),(.pure,14),(.fin,15)] zk zk zR zP ?_;refine zV ?_;refine aL rfl rfl (fun w7 jY J hJ=>?_);go_simp;replace Ma:=zh (aZ.carry Ma.out aR jY);replace Mb:=zh (aZ.carry Mb.out aR jY);replace Mc:=zh (aZ.carry Mc.out aR jY);replace Md:=zh (aZ.carry Md.out aR jY);replace BR:=aA.later (aA.drew BR) jY;replace dL:=BR.cell;replace dK:=BR.free;refine ((jB _ _ a c _ aR aR Ka.out Kc.out).mono (by rw [Es.out];exact fun _ _ h=>h)).mono ?_;rintro e v7 ⟨v,rfl,GI,hv⟩;obtain ⟨be9,lMs,bk4,rfl⟩:=hv.slice;have Ms:=zh hv;clear hv;replace Ma:=zh (aZ.later Ma.out GI);replace Mb:=zh (aZ.later Mb.out GI);replace Mc:=zh (aZ.later Mc.out GI);replace Md:=zh (aZ.later Md.out GI)
 replace BR:=aA.later (BR) GI;replace dL:=BR.cell;replace dK:=BR.free;refine hJ _ _ GI ?_;clear hJ J;refine aL rfl rfl (fun w8 o7 J hJ=>?_);go_simp;replace Mb:=zh (aZ.later Mb.out o7);replace Md:=zh (aZ.later Md.out o7);replace Ms:=zh (aZ.later Ms.out o7);replace BR:=aA.later (BR) o7;replace dL:=BR.cell;replace dK:=BR.free;refine (fF _ s _ _ aR).mono ?_;rintro e v8 ⟨v,rfl,hc8,hv⟩;obtain ⟨be7,lMv,bk0,rfl,Mv⟩:=hv;replace Mv:=zh Mv;replace Mb:=zh (aZ.later Mb.out hc8);replace Md:=zh (aZ.later Md.out hc8);replace Ms:=zh (aZ.later Ms.out hc8);replace BR:=aA.later (BR) hc8;replace dL:=BR.cell;replace dK:=BR.free;refine hJ _ _ hc8 ?_;clear hJ J;refine aL rfl rfl (fun w9 rJ J hJ=>?_);go_simp;replace Mb:=zh (aZ.later Mb.out rJ);replace Md:=zh (aZ.later Md.out rJ);replace Mv:=zh (aZ.later Mv.out rJ)
 replace BR:=aA.later (BR) rJ;replace dL:=BR.cell;replace dK:=BR.free;refine ((jB _ _ b d _ aR aR Kb.out Kd.out).mono (by rw [Et.out];exact fun _ _ h=>h)).mono ?_;rintro e v9 ⟨v,rfl,Pb,hv⟩;obtain ⟨be8,lMt,bk3,rfl⟩:=hv.slice;have Mt:=zh hv;clear hv;replace Mb:=zh (aZ.later Mb.out Pb);replace Md:=zh (aZ.later Md.out Pb);replace Mv:=zh (aZ.later Mv.out Pb);replace BR:=aA.later (BR) Pb;replace dL:=BR.cell;replace dK:=BR.free;refine hJ _ _ Pb ?_;clear hJ J;refine zV ?_;refine cZ [_] rfl (fun w14 WC=>?_);replace BR:=aA.later (BR) WC;replace dL:=BR.cell;replace dK:=BR.free;go_wp2_with fail
 refine gG rfl rfl bq Tryz.underlying88 rfl zk ?_;exact ⟨_,rfl,aI,gI.mk (iR s (!(decide (p.num<0) == decide (q.num<0)))).natAbs t aR aR (by rw [HP.out.1]) HP.out.2.symm (by rw [HP.out.1])⟩
theorem yK (w:World) :
  Calls Tryz.prog 37 #[aB #[ah none 0 0,ak false,ah none 0 0],Z I 20] w (fun e w'=>e= aj (aD #[aB #[O ⟨#[]⟩,O ⟨#[]⟩],Z I 20])∧Bw w w'):=by
 go_enter Tryz.func37,Tryz.ntmps37
 go_wp2_with fail
 refine bX rfl rfl bq Tryz.underlying38 rfl zk ?_;exact ⟨rfl,aI⟩
theorem Bd (v:Value) (q:Rat) (w:World) (h:gI w v q) (k:mQ 1000000 q) (ht:ko.Pow w) :
  Calls Tryz.prog 37 #[v,Z I 0] w (fun e w'=>e= aj (Fr.res (wr q))∧Bw w w'):=by
 obtain ⟨IE,lH,I7,X7,mH,Yh,rfl,H,Hd⟩:=h;replace H:=zh H;replace Hd:=zh Hd;have HT:=zh ht;have K:=zh k;clear ht k;obtain ⟨x,Ex⟩:∃ y:FrI,Hid (wr q=y):=⟨_,zh rfl⟩;rw [Ex.out];obtain ⟨⟨s,t⟩,e⟩:=x;rw [rZ];go_enter Tryz.func37,Tryz.ntmps37
 go_wp2_with fail
 refine ((kV _ q _ (gI.of aR aR) K.out (HT.out.later aI)).mono (by rw [Ex.out,rZ];exact fun _ _ h=>h)).mono ?_;rintro e v1 ⟨rfl,hc1⟩;have BR:=aA.later (aA.qW _ _ _ _) hc1;have dL:=BR.cell;have dK:=BR.free;have iQ:=BR.lt;go_wp2_with fail
 refine bX rfl rfl bq Tryz.underlying38 rfl zk ?_;exact ⟨rfl,aI⟩
theorem TI (s t s' t':ByteArray) (w:World) (p q:Rat) (h:rd ⟨s,t⟩=some p) (k:rd ⟨s',t'⟩=some q) :
  Calls Tryz.prog 38 #[aB #[O s,O t],aB #[O s',O t'],.func (.func 39) #[] #[]] w (fun e w'=>∃ v,e= aj (aD #[v,Z I 0])∧Bw w w'∧gI w' v (p*q)):=by
 have HR:=zh (gY h);have HS:=zh (gY k);have KP:=zh ((lg (ow h).2).mono (show 67≤1000000 by omega));have KQ:=zh ((lg (ow k).2).mono (show 67≤1000000 by omega));clear h k;obtain ⟨r,Er⟩:∃ y:Rat,Hid (p*q=y):=⟨_,zh rfl⟩;rw [Er.out];go_enter Tryz.func38,Tryz.ntmps38
 go_wp2_with fail
 refine (HR.out _).mono ?_;rintro e v1 ⟨v,rfl,hc1,hv⟩;obtain ⟨OH,lHp,PK,Sw,mHp,TA,rfl,Hp,yt⟩:=hv;replace Hp:=zh Hp;replace yt:=zh yt;have BR:=aA.later (aA.at2 _ _ _ _ _) hc1;have dL:=BR.cell;have dK:=BR.free;have iQ:=BR.lt;have B1:=aA.later (aA.alloc (aA.qW _ _ _ _) _) hc1;have cB1:=B1.cell;have ru:=B1.free;have lB1:=B1.lt;go_wp2_with fail
 refine (HS.out _).mono ?_;rintro e v2 ⟨v,rfl,hc2,hv⟩;obtain ⟨Cq,Ub,Cy,GX,Yc,H7,rfl,Hq,vI⟩:=hv;replace Hq:=zh Hq;replace vI:=zh vI;replace Hp:=zh (aZ.carry Hp.out aR hc2);replace yt:=zh (aZ.carry yt.out aR hc2);replace X1:aA _ (v1.heap.size) _ _:=aA.later bq hc2;(try simp only [List.setIfInBounds_toArray,aM,aN] at X1);replace qx:=X1.cell;replace sS:=X1.free;replace qo:=X1.lt;replace BR:aA _ (w.heap.size+1+1) _ _:=aA.later bq hc2;(try simp only [List.setIfInBounds_toArray,aM,aN] at BR);replace dL:=BR.cell;replace dK:=BR.free;replace iQ:=BR.lt;go_wp2_with fail
 refine ((VH _ _ p q _ (gI.of aR aR) (gI.of aR aR) KP.out KQ.out).mono (by rw [Er.out];exact fun _ _ h=>h)).mono ?_;rintro e v3 ⟨v,rfl,hc3,hv⟩;obtain ⟨Vo,lHr,Xn,ao7,mHr,ax2,rfl,Hr,P9⟩:=hv;replace Hr:=zh Hr;replace P9:=zh P9;replace BR:aA _ (w.heap.size+1+1) _ _:=aA.later bq hc3;(try simp only [List.setIfInBounds_toArray,aM,aN] at BR);replace dL:=BR.cell;replace dK:=BR.free;replace iQ:=BR.lt;go_wp2_with fail
 refine bX rfl rfl bq Tryz.underlying88 rfl zk ?_;exact ⟨_,rfl,aI,gI.of aR aR⟩
theorem H9 (s t s' t':ByteArray) (w:World) (h:rd ⟨s,t⟩=none∨rd ⟨s',t'⟩=none) :
  Calls Tryz.prog 38 #[aB #[O s,O t],aB #[O s',O t'],.func (.func 39) #[] #[]] w (fun e w'=>e= aj (aD #[aB #[ah none 0 0,ak false,ah none 0 0],Z I 20])∧Bw w w'):=by
 cases h1:rd ⟨s,t⟩ with
 | none =>
  have HR:=zh (iE h1);cases k:rd ⟨s',t'⟩ with
  | none =>
   have HS:=zh (iE k);clear h k h1;go_enter Tryz.func38,Tryz.ntmps38
   go_wp2_with fail
   refine (HR.out _).mono ?_;rintro e v1 ⟨rfl,hc1⟩;have BR:=aA.later (aA.at2 _ _ _ _ _) hc1;have dL:=BR.cell;have dK:=BR.free;have iQ:=BR.lt;have B1:=aA.later (aA.alloc (aA.qW _ _ _ _) _) hc1;have cB1:=B1.cell;have ru:=B1.free;have lB1:=B1.lt;go_wp2_with fail
   refine (HS.out _).mono ?_;rintro e v2 ⟨rfl,hc2⟩;replace BR:aA _ (w.heap.size+1+1) _ _:=aA.later bq hc2;replace dL:=BR.cell;replace dK:=BR.free;replace iQ:=BR.lt;have q1:w.heap.size+1<v2.heap.size:=by omega
   go_wp2_with fail
   refine bX rfl rfl bq Tryz.underlying88 rfl zk ?_;exact ⟨rfl,aI⟩
  | some q =>
   have HS:=zh (gY k);clear h k h1;go_enter Tryz.func38,Tryz.ntmps38
   go_wp2_with fail
   refine (HR.out _).mono ?_;rintro e v1 ⟨rfl,hc1⟩;have BR:=aA.later (aA.at2 _ _ _ _ _) hc1;have dL:=BR.cell;have dK:=BR.free;have iQ:=BR.lt;have B1:=aA.later (aA.alloc (aA.qW _ _ _ _) _) hc1;have cB1:=B1.cell;have ru:=B1.free;have lB1:=B1.lt;go_wp2_with fail
   refine (HS.out _).mono ?_;rintro e v2 ⟨v,rfl,hc2,hv⟩;obtain ⟨Cq,Ub,Cy,GX,Yc,H7,rfl,Hq,vI⟩:=hv;replace Hq:=zh Hq;replace vI:=zh vI;replace BR:aA _ (w.heap.size+1+1) _ _:=aA.later bq hc2;replace dL:=BR.cell;replace dK:=BR.free;replace iQ:=BR.lt;have q1:w.heap.size+1<v2.heap.size:=by omega
   go_wp2_with fail
   refine bX rfl rfl bq Tryz.underlying88 rfl zk ?_;exact ⟨rfl,aI⟩
 | some p =>
  have HR:=zh (gY h1);cases k:rd ⟨s',t'⟩ with
  | none =>
   have HS:=zh (iE k);clear h k h1;go_enter Tryz.func38,Tryz.ntmps38
   go_wp2_with fail
   refine (HR.out _).mono ?_;rintro e v1 ⟨v,rfl,hc1,hv⟩;obtain ⟨OH,lHp,PK,Sw,mHp,TA,rfl,Hp,yt⟩:=hv;replace Hp:=zh Hp;replace yt:=zh yt;have BR:=aA.later (aA.at2 _ _ _ _ _) hc1;have dL:=BR.cell;have dK:=BR.free;have iQ:=BR.lt;have B1:=aA.later (aA.alloc (aA.qW _ _ _ _) _) hc1;have cB1:=B1.cell;have ru:=B1.free;have lB1:=B1.lt;go_wp2_with fail
   refine (HS.out _).mono ?_;rintro e v2 ⟨rfl,hc2⟩;replace BR:aA _ (w.heap.size+1+1) _ _:=aA.later bq hc2;replace dL:=BR.cell;replace dK:=BR.free;replace iQ:=BR.lt;have q1:w.heap.size+1<v2.heap.size:=by omega
   go_wp2_with fail
   refine bX rfl rfl bq Tryz.underlying88 rfl zk ?_;exact ⟨rfl,aI⟩
  | some q=>rw [h1,k] at h;simp at h
theorem oK (a b:Fr) (w:World) (ht:ko.Pow w) :
  Calls Tryz.prog 14 #[a.v,b.v] w (fun e w'=>e= aj (Fr.res (pO a b))∧Bw w w'):=by
 obtain ⟨s,t⟩:=a;obtain ⟨s',t'⟩:=b
 show Calls _ _ #[aB #[O s,O t],aB #[O s',O t']] _ _
 unfold pO;have HT:=zh ht;clear ht
 by_cases hbad:rd ⟨s,t⟩=none∨rd ⟨s',t'⟩=none
 ·have e:∀ f,bin f ⟨s,t⟩ ⟨s',t'⟩=(Fr.no,20):=fun f=>by
   rcases hbad with h|h
   ·exact rU h
   ·exact rT h
  rw [e];have HA:=zh (fun w=>H9 s t s' t' w hbad);clear hbad e;go_enter Tryz.func14,Tryz.ntmps14
  go_wp2_with fail
  refine (HA.out _).mono ?_;rintro e v1 ⟨rfl,hc1⟩;have BR:=aA.later (aA.at2 _ _ _ _ _) hc1;have dL:=BR.cell;have dK:=BR.free;have iQ:=BR.lt;go_wp2_with fail
  refine (yK _).mono ?_;rintro e v2 ⟨rfl,hc2⟩;replace BR:=aA.later (BR) hc2;replace dL:=BR.cell;replace dK:=BR.free;replace iQ:=BR.lt;go_wp2_with fail
  refine bX rfl rfl bq Tryz.underlying38 rfl zk ?_;exact ⟨rfl,aI⟩
 ·obtain ⟨p,hp⟩:∃ p,rd ⟨s,t⟩=some p:=Option.ne_none_iff_exists'.1 (fun e=>hbad (.inl e));obtain ⟨q,hq⟩:∃ q,rd ⟨s',t'⟩=some q:=Option.ne_none_iff_exists'.1 (fun e=>hbad (.inr e));rw [kH hp hq];have KP:=zh (lg (ow hp).2);have KQ:=zh (lg (ow hq).2);have HA:=zh (fun w=>TI s t s' t' w p q hp hq);have KR:Hid (mQ 1000000 (p*q)):=zh (mQ.mono (k:=135) ((CK KP.out KQ.out).mono zo) zo);clear hp hq hbad KP KQ;obtain ⟨r,Er⟩:∃ y:Rat,Hid (p*q=y):=⟨_,zh rfl⟩;simp only [Er.out] at KR HA ⊢;obtain ⟨x,Ex⟩:∃ y:FrI,Hid (wr r=y):=⟨_,zh rfl⟩;rw [Ex.out];obtain ⟨⟨s1,t1⟩,e⟩:=x;rw [rZ];go_enter Tryz.func14,Tryz.ntmps14
  go_wp2_with fail
  refine (HA.out _).mono ?_;rintro e v1 ⟨v,rfl,hc1,hv⟩;obtain ⟨Vo,lHr,Xn,ao7,mHr,ax2,rfl,Hr,P9⟩:=hv;replace Hr:=zh Hr;replace P9:=zh P9;have BR:=aA.later (aA.at2 _ _ _ _ _) hc1;have dL:=BR.cell;have dK:=BR.free;have iQ:=BR.lt;go_wp2_with fail
  refine ((Bd _ r _ (gI.of aR aR) KR.out (HT.out.later aI)).mono (by rw [Ex.out,rZ];exact fun _ _ h=>h)).mono ?_;rintro e v2 ⟨rfl,hc2⟩;replace BR:=aA.later (BR) hc2;replace dL:=BR.cell;replace dK:=BR.free;replace iQ:=BR.lt;go_wp2_with fail
  refine bX rfl rfl bq Tryz.underlying38 rfl zk ?_;exact ⟨rfl,aI⟩
theorem Xv (x y:Value) (p q:Rat) (w:World) (hx:gI w x p) (hy:gI w y q) (kp:mQ 1000000 p) (kq:mQ 1000000 q) :
  Calls Tryz.prog 213 #[x,y] w (fun e w'=>∃ v,e= aj v∧Bw w w'∧gI w' v (p+q)):=by
 obtain ⟨IE,lH,I7,X7,mH,Yh,rfl,H,Hd⟩:=hx;replace H:=zh H;replace Hd:=zh Hd;obtain ⟨Ya,lG,Yi,pbG,mG,cbG,rfl,G,Gd⟩:=hy;replace G:=zh G;replace Gd:=zh Gd;have HP:=zh (PX p q);have hp:=p.den_pos;have hq:=q.den_pos;have hg:0<p.den.gcd q.den:=Nat.gcd_pos_of_pos_right _ hq;have k1:= @jC q.den (p.den.gcd q.den);have k2:= @jC p.den (p.den.gcd q.den);have k3:=Ju (a:=p.den) hq;obtain ⟨kp1,kp2⟩:=kp;obtain ⟨kq1,kq2⟩:=kq;obtain ⟨g,Eg⟩:∃ y:Nat,Hid (p.den.gcd q.den=y):=⟨_,zh rfl⟩;rw [Eg.out] at hg HP k1 k2 k3;obtain ⟨l,El⟩:∃ y:Nat,Hid (q.den / g=y):=⟨_,zh rfl⟩;rw [El.out] at HP k1;obtain ⟨r,Er⟩:∃ y:Nat,Hid (p.den / g=y):=⟨_,zh rfl⟩;rw [Er.out] at HP k2;have k4:=oC p.num l;have k5:=oC q.num r;obtain ⟨s,Es⟩:∃ y:Int,Hid (p.num*(l:Int)=y):=⟨_,zh rfl⟩;rw [Es.out] at HP k4;obtain ⟨t,Et⟩:∃ y:Int,Hid (q.num*(r:Int)=y):=⟨_,zh rfl⟩;rw [Et.out] at HP k5
 have k6:=A8 s t;obtain ⟨u,Eu⟩:∃ y:Int,Hid (s+t=y):=⟨_,zh rfl⟩;rw [Eu.out] at HP k6;have hh:0<u.natAbs.gcd g:=Nat.gcd_pos_of_pos_right _ hg;obtain ⟨h,Eh⟩:∃ y:Nat,Hid (u.natAbs.gcd g=y):=⟨_,zh rfl⟩;rw [Eh.out] at HP hh;obtain ⟨m,Em⟩:∃ y:Nat,Hid (u.natAbs / h=y):=⟨_,zh rfl⟩;rw [Em.out] at HP;obtain ⟨c,Ec⟩:∃ y:Nat,Hid (q.den / h=y):=⟨_,zh rfl⟩;rw [Ec.out] at HP;have k7:sz 1000000000 c≤sz 1000000000 q.den:=by rw [← Ec.out];exact jC
 obtain ⟨d,Ed⟩:∃ y:Nat,Hid (r*c=y):=⟨_,zh rfl⟩;rw [Ed.out] at HP;have HG:=zh hg;have HH:=zh hh;have Kpn:Hid (sz 1000000000 p.num.natAbs≤549755813888):=by unfold Hid;omega
 have Kqn:Hid (sz 1000000000 q.num.natAbs≤549755813888):=by unfold Hid;omega
 have Kpd:Hid (sz 1000000000 p.den≤549755813888):=by unfold Hid;omega
 have Kqd:Hid (sz 1000000000 q.den≤549755813888):=by unfold Hid;omega
 have Kg:Hid (sz 1000000000 g≤549755813888):=by unfold Hid;omega
 have Kl:Hid (sz 1000000000 l≤549755813888):=by unfold Hid;omega
 have Kr:Hid (sz 1000000000 r≤549755813888):=by unfold Hid;omega
 have Ks:Hid (sz 1000000000 s.natAbs≤549755813888):=by unfold Hid;omega
 have Kt:Hid (sz 1000000000 t.natAbs≤549755813888):=by unfold Hid;omega
 have Ku:Hid (sz 1000000000 u.natAbs≤549755813888):=by unfold Hid;omega
 have Kc:Hid (sz 1000000000 c≤549755813888):=by unfold Hid;omega
 clear k1 k2 k3 k4 k5 k6 k7 kp1 kp2 kq1 kq2 hg hh hp hq;go_enter Tryz.func213,Tryz.ntmps213
 go_wp2_with fail
 refine ((pR _ _ p.den q.den _ aR aR Kpd.out Kqd.out).mono (by rw [Eg.out];exact fun _ _ h=>h)).mono ?_;rintro e v1 ⟨v,rfl,hc1,hv⟩;obtain ⟨Vp,lHg,Xo,rfl⟩:=hv.slice;have Hg:=zh hv;clear hv;have BR:=aA.later (aA.at2 _ _ _ _ _) hc1;have dL:=BR.cell;have dK:=BR.free;have B1:=aA.later (aA.alloc (aA.qW _ _ _ _) _) hc1;have cB1:=B1.cell;have ru:=B1.free;have B0:=aA.later (aA.alloc (aA.alloc (aA.new _ _ _) _) _) hc1;have cB0:=B0.cell;have kJ:=B0.free;go_wp2_with fail
 refine ((eZ _ _ q.den g _ aR aR HG.out Kqd.out).mono (by rw [El.out];exact fun _ _ h=>h)).mono ?_;rintro e v2 ⟨v,vr,rfl,hc2,hv,kR⟩;obtain ⟨bf9,lHl,bl4,rfl⟩:=hv.slice;have Hl:=zh hv;clear hv;obtain ⟨bc4,bh7,bd9,rfl⟩:=kR.slice;have Hlr:=zh kR;clear kR;replace BR:=aA.later (BR) hc2;replace dL:=BR.cell;replace dK:=BR.free;replace B1:=aA.later (B1) hc2;replace cB1:=B1.cell;replace ru:=B1.free;replace B0:=aA.later (B0) hc2;replace cB0:=B0.cell;replace kJ:=B0.free;go_wp2_with fail
 refine ((eZ _ _ p.den g _ aR aR HG.out Kpd.out).mono (by rw [Er.out];exact fun _ _ h=>h)).mono ?_;rintro e v3 ⟨v,vr,rfl,hc3,hv,kR⟩;obtain ⟨Vo,lHr,Xn,rfl⟩:=hv.slice;have Hr:=zh hv;clear hv;obtain ⟨bb8,bh5,bd7,rfl⟩:=kR.slice;have Hrr:=zh kR;clear kR;replace BR:=aA.later (BR) hc3;replace dL:=BR.cell;replace dK:=BR.free;replace B1:=aA.later (B1) hc3;replace cB1:=B1.cell;replace ru:=B1.free;replace B0:=aA.later (B0) hc3;replace cB0:=B0.cell;replace kJ:=B0.free;go_wp2_with fail
 refine aO [(.pure,0),(.read,1),(.pure,2),(.pure,4),(.read,5),(.pure,6),(.ext,3),(.ext,7),(.ext,8),(.alloc #[ah none 0 0,ak false] 86,9),(.fin,10)] zk zk zR zP ?_;refine zV ?_;refine aL rfl rfl (fun w4 hb4 J hJ=>?_);go_simp;replace BR:=aA.later (aA.drew BR) hb4;replace dL:=BR.cell;replace dK:=BR.free;replace B1:=aA.later (aA.drew B1) hb4;replace cB1:=B1.cell;replace ru:=B1.free;replace B0:=aA.later (aA.drew B0) hb4;replace cB0:=B0.cell;replace kJ:=B0.free;refine ((oD _ _ p.num l _ (dS.dV aR) aR Kpn.out Kl.out).mono (by rw [Es.out];exact fun _ _ h=>h)).mono ?_;rintro e v4 ⟨v,rfl,hc4,hv⟩;obtain ⟨Co,Ua,Cx,rfl,Hs⟩:=hv;replace Hs:=zh Hs;replace BR:=aA.later (BR) hc4;replace dL:=BR.cell;replace dK:=BR.free;replace B1:=aA.later (B1) hc4;replace cB1:=B1.cell;replace ru:=B1.free
 replace B0:=aA.later (B0) hc4;replace cB0:=B0.cell;replace kJ:=B0.free;refine hJ _ _ hc4 ?_;clear hJ J;refine aL rfl rfl (fun w5 hb5 J hJ=>?_);go_simp;replace BR:=aA.later (BR) hb5;replace dL:=BR.cell;replace dK:=BR.free;replace B1:=aA.later (B1) hb5;replace cB1:=B1.cell;replace ru:=B1.free;replace B0:=aA.later (B0) hb5;replace cB0:=B0.cell;replace kJ:=B0.free;refine ((oD _ _ q.num r _ (dS.dV aR) aR Kqn.out Kr.out).mono (by rw [Et.out];exact fun _ _ h=>h)).mono ?_;rintro e v5 ⟨v,rfl,nO,hv⟩;obtain ⟨ao9,lHt,ax9,rfl,Ht⟩:=hv;replace Ht:=zh Ht;replace BR:=aA.later (BR) nO;replace dL:=BR.cell;replace dK:=BR.free;replace B1:=aA.later (B1) nO;replace cB1:=B1.cell;replace ru:=B1.free;replace B0:=aA.later (B0) nO;replace cB0:=B0.cell;replace kJ:=B0.free;refine hJ _ _ nO ?_;clear hJ J;refine aL rfl rfl (fun w6 hb6 J hJ=>?_);go_simp
 replace BR:=aA.later (BR) hb6;replace dL:=BR.cell;replace dK:=BR.free;replace B1:=aA.later (B1) hb6;replace cB1:=B1.cell;replace ru:=B1.free;replace B0:=aA.later (B0) hb6;replace cB0:=B0.cell;replace kJ:=B0.free;refine ((yD _ _ s t _ (dS.dV aR) (dS.dV aR) Ks.out Kt.out).mono (by rw [Eu.out];exact fun _ _ h=>h)).mono ?_;rintro e v6 ⟨v,rfl,hc6,hv⟩;obtain ⟨bf7,lHu,bl2,rfl,Hu⟩:=hv;replace Hu:=zh Hu;replace BR:=aA.later (BR) hc6;replace dL:=BR.cell;replace dK:=BR.free;replace B1:=aA.later (B1) hc6;replace cB1:=B1.cell;replace ru:=B1.free;replace B0:=aA.later (B0) hc6;replace cB0:=B0.cell;replace kJ:=B0.free;refine hJ _ _ hc6 ?_;clear hJ J;refine dU rfl (fun b1 w7 hw7 Pm Wt au5 fH=>?_);go_simp;replace fH:aA _ _ _ _:=fH;have au4:w.heap.size≤b1:=(by first|omega|exact au (Below.size (B:=w.heap.size) aI) Pm)
 replace BR:=aA.later (BR) hw7;replace dL:=BR.cell;replace dK:=BR.free;replace B1:=aA.later (B1) hw7;replace cB1:=B1.cell;replace ru:=B1.free;replace B0:=aA.later (B0) hw7;replace cB0:=B0.cell;replace kJ:=B0.free;refine cZ [_] rfl (fun w8 o7=>?_);replace BR:=aA.later (BR) o7;replace dL:=BR.cell;replace dK:=BR.free;replace B1:=aA.later (B1) o7;replace cB1:=B1.cell;replace ru:=B1.free;replace B0:=aA.later (B0) o7;replace cB0:=B0.cell;replace kJ:=B0.free;replace fH:=aA.later (fH) o7;replace qU:=fH.cell;replace qR:=fH.free;have n0:=B0.ne fH zd;have n1:=B1.ne fH zd;have n2:=BR.ne fH zd;go_wp2_with fail
 refine ((pR _ _ u.natAbs g _ aR aR Ku.out Kg.out).mono (by rw [Eh.out];exact fun _ _ h=>h)).mono ?_;rintro e v9 ⟨v,rfl,Pb,hv⟩;obtain ⟨bg0,lHh,bl5,rfl⟩:=hv.slice;have Hh:=zh hv;clear hv;replace Hu:=zh (aZ.carry Hu.out aR Pb);replace Hg:=zh (aZ.carry Hg.out aR Pb);replace Hr:=zh (aZ.carry Hr.out aR Pb);replace G:=zh (aZ.carry G.out aR Pb);replace Gd:=zh (aZ.carry Gd.out aR Pb);replace fH:aA _ (b1) _ _:=aA.later bq Pb;(try simp only [List.setIfInBounds_toArray,aM,aN] at fH);replace qU:=fH.cell;replace qR:=fH.free;replace BR:aA _ (w.heap.size+1+1) _ _:=aA.later bq Pb;(try simp only [List.setIfInBounds_toArray,aM,aN] at BR);replace dL:=BR.cell;replace dK:=BR.free
 replace B1:aA _ (w.heap.size+1) _ _:=aA.later bq Pb;(try simp only [List.setIfInBounds_toArray,aM,aN] at B1);replace cB1:=B1.cell;replace ru:=B1.free;replace B0:aA _ (w.heap.size) _ _:=aA.later bq Pb;(try simp only [List.setIfInBounds_toArray,aM,aN] at B0);replace cB0:=B0.cell;replace kJ:=B0.free;go_wp2_with fail
 refine ((eZ _ _ u.natAbs h _ aR aR HH.out Ku.out).mono (by rw [Em.out];exact fun _ _ h=>h)).mono ?_;rintro e v10 ⟨v,vr,rfl,ZR,hv,kR⟩;obtain ⟨aR8,lHm,aY1,rfl⟩:=hv.slice;have Hm:=zh hv;clear hv;obtain ⟨bb9,bh6,bd8,rfl⟩:=kR.slice;have Hmr:=zh kR;clear kR;replace fH:=aA.later (fH) ZR;replace qU:=fH.cell;replace qR:=fH.free;replace BR:=aA.later (BR) ZR;replace dL:=BR.cell;replace dK:=BR.free;replace B1:=aA.later (B1) ZR;replace cB1:=B1.cell;replace ru:=B1.free;replace B0:=aA.later (B0) ZR;replace cB0:=B0.cell;replace kJ:=B0.free;go_wp2_with fail
 refine ((eZ _ _ q.den h _ aR aR HH.out Kqd.out).mono (by rw [Ec.out];exact fun _ _ h=>h)).mono ?_;rintro e v11 ⟨v,vr,rfl,MC,hv,kR⟩;obtain ⟨aE4,lHc,aL4,rfl⟩:=hv.slice;have Hc:=zh hv;clear hv;obtain ⟨aE3,aU3,aL3,rfl⟩:=kR.slice;have Hcr:=zh kR;clear kR;replace fH:=aA.later (fH) MC;replace qU:=fH.cell;replace qR:=fH.free;replace BR:=aA.later (BR) MC;replace dL:=BR.cell;replace dK:=BR.free;replace B1:=aA.later (B1) MC;replace cB1:=B1.cell;replace ru:=B1.free;replace B0:=aA.later (B0) MC;replace cB0:=B0.cell;replace kJ:=B0.free;go_wp2_with fail
 refine (fF _ m _ _ aR).mono ?_;rintro e v12 ⟨v,rfl,WA,hv⟩;obtain ⟨aR7,lHv,aY0,rfl,Hv⟩:=hv;replace Hv:=zh Hv;replace fH:=aA.later (fH) WA;replace qU:=fH.cell;replace qR:=fH.free;replace BR:=aA.later (BR) WA;replace dL:=BR.cell;replace dK:=BR.free;go_wp2_with fail
 refine ((jB _ _ r c _ aR aR (au Kr.out zo) (au Kc.out zo)).mono (by rw [Ed.out];exact fun _ _ h=>h)).mono ?_;rintro e v13 ⟨v,rfl,ZQ,hv⟩;obtain ⟨aR9,lHd,aY2,rfl⟩:=hv.slice;have Hd:=zh hv;clear hv;replace BR:=aA.later (BR) ZQ;replace dL:=BR.cell;replace dK:=BR.free;go_wp2_with fail
 refine gG rfl rfl bq Tryz.underlying88 rfl zk ?_;exact ⟨_,rfl,aI,gI.mk (iR m (decide (u<0))).natAbs d aR aR (by rw [HP.out.1]) HP.out.2.symm (by rw [HP.out.1])⟩
theorem OW (v:Value) (q:Rat) (w:World) (h:gI w v q) :
  Calls Tryz.prog 274 #[v] w (fun e w'=>∃ v,e= aj v∧Bw w w'∧gI w' v (-q)):=by
 obtain ⟨IE,lH,I7,X7,mH,Yh,rfl,H,Hd⟩:=h;replace H:=zh H;replace Hd:=zh Hd;go_enter Tryz.func274,Tryz.ntmps274
 go_wp2_with fail
 refine aO [(.pure,0),(.read,1),(.pure,3),(.read,4),(.ext,2),(.pure,5),(.fin,6)] zk zk zR zP ?_;refine zV ?_;refine aL rfl rfl (fun w1 hb1 J hJ=>?_);go_simp;have BR:=aA.later (aA.drew (aA.qW _ _ _ _)) hb1;have dL:=BR.cell;have dK:=BR.free;refine (BU _ q.num _ (dS.dV aR)).mono ?_;rintro e v1 ⟨v,rfl,hc1,hv⟩;obtain ⟨ap1,lHS,ay1,rfl,HS⟩:=hv;replace HS:=zh HS;replace BR:=aA.later (BR) hc1;replace dL:=BR.cell;replace dK:=BR.free;refine hJ _ _ hc1 ?_;clear hJ J;refine zV ?_;refine cZ [_] rfl (fun w5 hb5=>?_);replace BR:=aA.later (BR) hb5;replace dL:=BR.cell;replace dK:=BR.free;go_wp2_with fail
 refine gG rfl rfl bq Tryz.underlying88 rfl zk ?_;exact ⟨_,rfl,aI,gI.mk (-q.num).natAbs q.den aR aR rfl rfl (by simp [Rat.neg_num])⟩
theorem O6 (v:Value) (q:Rat) (w:World) (h:gI w v q) (hq:q≠0) :
  Calls Tryz.prog 139 #[v] w (fun e w'=>∃ v,e= aj v∧Bw w w'∧gI w' v q⁻¹):=by
 obtain ⟨IE,lH,I7,X7,mH,Yh,rfl,H,Hd⟩:=h;replace H:=zh H;replace Hd:=zh Hd;have HE:=zh (SV hq);clear hq;go_enter Tryz.func139,Tryz.ntmps139
 go_wp2_with fail
 refine aO [(.pure,0),(.read,1),(.pure,2),(.pure,3),(.read,4),(.pure,6),(.pure,7),(.read,8),(.ext,5),(.pure,9),(.fin,10)] zk zk zR zP ?_;refine zV ?_;refine aL rfl rfl (fun w1 hb1 J hJ=>?_);go_simp;have BR:=aA.later (aA.drew (aA.qW _ _ _ _)) hb1;have dL:=BR.cell;have dK:=BR.free;refine (fF _ q.den _ _ aR).mono ?_;rintro e v1 ⟨v,rfl,hc1,hv⟩;obtain ⟨ap1,lHS,ay1,rfl,HS⟩:=hv;replace HS:=zh HS;replace BR:=aA.later (BR) hc1;replace dL:=BR.cell;replace dK:=BR.free;refine hJ _ _ hc1 ?_;clear hJ J;refine zV ?_;refine cZ [_] rfl (fun w5 hb5=>?_);replace BR:=aA.later (BR) hb5;replace dL:=BR.cell;replace dK:=BR.free;go_wp2_with fail
 refine gG rfl rfl bq Tryz.underlying88 rfl zk ?_;exact ⟨_,rfl,aI,gI.mk (iR q.den (decide (q.num<0))).natAbs q.num.natAbs aR aR (by rw [HE.out.1]) HE.out.2.symm (by rw [HE.out.1])⟩
theorem an6 (x y:Value) (p q:Rat) (w:World) (hx:gI w x p) (hy:gI w y q) (kp:mQ 1000000 p) (kq:mQ 1000000 q) :
  Calls Tryz.prog 214 #[x,y] w (fun e w'=>∃ v,e= aj v∧Bw w w'∧gI w' v (p - q)):=by
 obtain ⟨IE,lH,I7,X7,mH,Yh,rfl,H,Hd⟩:=hx;replace H:=zh H;replace Hd:=zh Hd;obtain ⟨Ya,lG,Yi,pbG,mG,cbG,rfl,G,Gd⟩:=hy;replace G:=zh G;replace Gd:=zh Gd;rw [Rat.sub_eq_add_neg];have KP:=zh kp;have KQ:=zh (CJ kq);clear kp kq;obtain ⟨r,Er⟩:∃ y:Rat,Hid (-q=y):=⟨_,zh rfl⟩;rw [Er.out] at KQ ⊢;obtain ⟨s,Es⟩:∃ y:Rat,Hid (p+r=y):=⟨_,zh rfl⟩;rw [Es.out];go_enter Tryz.func214,Tryz.ntmps214
 go_wp2_with fail
 refine aO [(.read,0),(.read,1),(.ext,2),(.ext,3),(.fin,4)] zk zk zR zP ?_;refine zV ?_;refine aL rfl rfl (fun w1 hb1 J hJ=>?_);go_simp;have BR:=aA.later (aA.drew (aA.at2 _ _ _ _ _)) hb1;have dL:=BR.cell;have dK:=BR.free;refine ((OW _ q _ (gI.of aR aR)).mono (by rw [Er.out];exact fun _ _ h=>h)).mono ?_;rintro e v1 ⟨v,rfl,hc1,hv⟩;obtain ⟨Vo,lHr,Xn,ao7,mHr,ax2,rfl,Hr,P9⟩:=hv;replace Hr:=zh Hr;replace P9:=zh P9;replace BR:=aA.later (BR) hc1;replace dL:=BR.cell;replace dK:=BR.free;refine hJ _ _ hc1 ?_;clear hJ J;refine aL rfl rfl (fun w2 hb2 J hJ=>?_);go_simp;replace BR:=aA.later (BR) hb2;replace dL:=BR.cell;replace dK:=BR.free;refine ((Xv _ _ p r _ (gI.of aR aR) (gI.of aR aR) KP.out KQ.out).mono (by rw [Es.out];exact fun _ _ h=>h)).mono ?_;rintro e v2 ⟨v,rfl,hc2,hv⟩
 obtain ⟨Co,Ua,Cx,be6,mHs,bj8,rfl,Hs,Hsd⟩:=hv;replace Hs:=zh Hs;replace Hsd:=zh Hsd;replace BR:=aA.later (BR) hc2;replace dL:=BR.cell;replace dK:=BR.free;refine hJ _ _ hc2 ?_;clear hJ J;refine zV ?_;refine cZ [_] rfl (fun w14 WC=>?_);replace BR:=aA.later (BR) WC;replace dL:=BR.cell;replace dK:=BR.free;go_wp2_with fail
 refine gG rfl rfl bq Tryz.underlying88 rfl zk ?_;exact ⟨_,rfl,aI,gI.of aR aR⟩
end Go.Proofs.dZ
