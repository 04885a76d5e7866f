/- Lemmas for the proof. No condition. -/
import Derived.Test.YtneajphgfdlmhaaGreatDoorQB12
set_option linter.unusedVariables false
set_option linter.unusedSimpArgs false
set_option maxRecDepth 100000
set_option maxHeartbeats 16000000
open Bool renaming and_eq_true → aK
open Go.Ending renaming returned → aj
open Go.IntKind renaming i64 → I
open Go.Value renaming agg → au, bool → ak, int → Z, pointer → aB, slice → ah, string → O, tuple → aG
open List renaming replicate → bM, set_cons_succ → aN, set_cons_zero → aM
open Nat renaming eq_zero_or_pos → aV, le_trans → ay, lt_or_ge → aO, mod_lt → fC, pow_le_pow_right → bI
namespace Go.Proofs.fu
open Go Go.RowKit Go.SW Go.Num Go.Mem Go.Proofs Go.Proofs.jH Go.Dec
theorem _root_.Go.ai1 {G:Prop} (h:G:=by
 have hlen:=lS 9 d zo hd;have H:=zh h;have HT:=zh ht;clear h ht;go_enter aj9,aj8
 go_wp2_with (go_at_call 249;refine (OI d hd _ HT.out).mono ?_;rintro e w1 ⟨rfl,hb1⟩)
 have HL:=zh hlen;generalize hL:(Lib.decDigits d).length=L at *;have HLe:=zh hL;clear hL
 go_loopw [13] (fun jv wr=>∃ i:Nat,jv= .int .i64 (i:Int)∧Hid (i=0∨i+L≤wd)∧Hid (Rv B b (Lib.byteCells (l++List.replicate i 48)) wr)∧Below B w wr) (fun jv _=>wd - (intOf jv).toNat)
 case atStart =>
  exact ⟨0,rfl,zh (.inl rfl),zh (by simpa using H.out.later hb1),hb1.mono hB⟩
 case round =>
  obtain ⟨i,rfl,HI,HB,hbr⟩:=hrel
  have hcells:Lib.byteCells (l++List.replicate i 48)++[.int .u8 48]=Lib.byteCells (l++List.replicate (i+1) 48):=by
   rw [List.replicate_succ',← List.append_assoc,Lib.byteCells_append _ [48]];rfl
  by_cases hlt:i+L<wd
  ·go_wp2_with (go_at_call 270;refine (F8 B b _ 48 _ HB.out (by rw [Lib.byteCells_length];simp;omega) (Nat.le_trans hB hbr.size)).mono ?_;rintro e w2 ⟨rfl,h2,hb2⟩;rw [hcells] at h2)
   exact ⟨⟨i+1,by simp,zh (.inr zo),zh (.inr h2),hbr.trans hb2⟩,by simp [intOf];omega⟩
  ·have hi:i=wd - L:=by
    rcases HI.out with h|h
    ·omega
    ·omega
   have hsz:(⟨(Lib.decDigits d).toArray⟩:ByteArray).size=L:=HLe.out;go_wp2_with (go_at_call 271;refine (Bn B b _ _ _ HB.out (by rw [Lib.byteCells_length,hsz];simp;omega) (Nat.le_trans hB hbr.size)).mono ?_;rintro e w2 ⟨rfl,h2,hb2⟩)
   go_end0
   refine ⟨rfl,.inr ?_,hbr.trans hb2⟩;rw [HLe.out,← hi,← List.append_assoc,Lib.byteCells_append];exact h2):G:=h
theorem LA (B b d wd:Nat) (l:List UInt8) (w:World) (h:Rv B b (Lib.byteCells l) w) (hB:B≤w.heap.size) (hw:wd≤9) (hd:d<1000000000) (hl:l.length≤140737488355000) (ht:Pow w) :
  Calls Tryz.prog 269 #[Z .u32 d,Z I wd,aB (some ⟨b,0,none⟩)] w fun e w'=>e= aj (aG #[])∧Rv B b (Lib.byteCells (l++(bM (wd - (Lib.decDigits d).length) 48++Lib.decDigits d))) w'∧Below B w w':=ai1
def Dn (w:World) (n:Nat) (e:Ending) (w':World):Prop:=e= aj (O ⟨(Lib.decDigits n).toArray⟩)∧Below w.heap.size w w'
theorem _root_.Go.ai0 {G:Prop} (h:G:=by
 have hd:=cZ (B:=1000000000) zo a;have htop:=nQ (B:=1000000000) zo a;have hva:=bQ (B:=1000000000) zo a;unfold sz at ha
 rcases Nat.eq_zero_or_pos a with h0|h0
 ·subst h0;have H:=zh hx;clear hx;go_enter Zf,Ze
  go_wp2_with ((first|go_at_call 201|go_at_call 295);refine (iK _ _ _ H.out).mono ?_;rintro e w1 ⟨rfl,rfl⟩)
  go_ret
  exact ⟨by rw [iM zo];rfl,Below.refl _ _⟩
 ·obtain ⟨p,c,rfl,hc1,hc2,hread⟩:=nC.read hx.Da;generalize hl:eF 1000000000 a=l at *;have hne:l≠[]:=fun e=>by rw [e] at hva;simp [val] at hva;omega
  obtain ⟨n,hn⟩:∃ n,l.length=n+1:=⟨l.length - 1,by have:=List.length_pos_iff.mpr hne;omega⟩;have H:=zh hx;have HR:=zh hread;have HV:=zh hva;have HN:=zh hn;have HL:=zh hl;have HT:=zh ht;rw [hn] at ha hc1 ⊢;have ha0:decide (a=0)=false:=by simp;omega
  clear hx hread hva hl ht hn;obtain ⟨b,off,rfl,hb,hcell⟩:=HR.out n (by have:=HN.out;omega);have hpos:∀ i,i≤n→0<val 1000000000 (l.drop i):=fun i hi=>iZ zo (Bw htop i) (fun e=>by have:=congrArg List.length e;rw [List.length_drop,HN.out] at this;simp at this;omega)
  have hdl:∀ i,(Lib.decDigits (val 1000000000 (l.drop i))).length≤9*(n+1)+1:=fun i=>by
   have h1:=uD (hd.drop i);rw [List.length_drop,HN.out] at h1;omega
  have HP:=zh hpos;have EO:=zh hdl;clear hpos hdl
  have hd0:val 1000000000 (l.drop n)=l.getD n 0:=by
   rw [jG (by have:=HN.out;omega),List.drop_eq_nil_of_le (by have:=HN.out;omega)];simp [val]
  have hdb:=hd.getD zo n;generalize hdn:l.getD n 0=dn at *;have HDN:=zh hdn;have HD0:=zh hd0;clear hdn hd0;have Ut:Below w.heap.size w (w.alloc (.cells #[.pointer none,.slice none 0 0] 277 (0,0))):=(Below.refl _ _).alloc (Nat.le_refl _) _;have hcw:(w.alloc (.cells #[.pointer none,.slice none 0 0] 277 (0,0))).cell? ⟨b,off+n,none⟩=some (.int .u32 (dn:Nat)):=(Ut.cell (by exact hb)).trans hcell;have hb0:Rv w.heap.size w.heap.size (Lib.byteCells []) (w.alloc (.cells #[.pointer none,.slice none 0 0] 277 (0,0))):=Lib.fresh_isBuilder _ _ w;have HB0:=zh hb0;clear hb0;go_enter Zf,Ze
  go_wp2_with ((first|go_at_call 201|go_at_call 295);refine (iK _ a _ (by rw [← HN.out];exact H.out)).mono ?_;rintro e w1 ⟨rfl,rfl⟩;rw [ha0])
  refine (LA _ _ dn 0 [] _ HB0.out zi zo hdb zi (HT.out.later Ut)).mono ?_;rintro e w2 ⟨rfl,h2,hb2⟩;rw [Nat.zero_sub,List.replicate_zero,List.nil_append,List.nil_append,← HD0.out] at h2;have H2:=zh h2;have hbw2:Below w.heap.size w w2:=Ut.trans hb2;clear h2;go_wp2_with fail
  go_loopw [6] (fun jv wr=>∃ i:Nat,jv= .int .i64 ((i:Int) - 1)∧i≤n∧Hid (Rv w.heap.size w.heap.size (Lib.byteCells (Lib.decDigits (val 1000000000 (l.drop i)))) wr)∧Below w.heap.size w wr) (fun jv _=>(intOf jv+1).toNat)
  case atStart=>exact ⟨n,rfl,Nat.le_refl _,H2,hbw2⟩
  case round =>
   obtain ⟨i,rfl,hi,HB,hbr⟩:=hrel
   rcases Nat.eq_zero_or_pos i with h1|h1
   ·subst h1;rw [List.drop_zero,HV.out] at HB;go_wp2_with fail
    refine (Tryz.Builder_String_any _ _ _ _ HB.out hbr.size).mono ?_;rintro e w3 ⟨rfl,hb3⟩;go_wp2_with fail
    go_ret
    exact ⟨rfl,hbr.trans hb3⟩
   ·obtain ⟨j,rfl⟩:∃ j,i=j+1:=⟨i - 1,by omega⟩;have hj:j<l.length:=by have:=HN.out;omega
    obtain ⟨b',off',e1,hb',hcell'⟩:=HR.out j hj;simp only [Option.some.injEq,Addr.mk.injEq,and_true] at e1;obtain ⟨rfl,rfl⟩:=e1;have hcr:=(hbr.cell (p:=⟨b,off+j,none⟩) (by exact hb)).trans hcell';have hjb:=hd.getD zo j;have HG:=zh (FB hj hd (HP.out (j+1) hi));generalize hdj:l.getD j 0=dj at *;have HDJ:=zh hdj;clear hdj hcell';go_wp2_with fail
    refine (LA _ _ dj 9 _ _ HB.out hbr.size zo hjb (by have:=EO.out (j+1);omega) (HT.out.later hbr)).mono ?_;rintro e w3 ⟨rfl,h3,hb3⟩;rw [← HG.out] at h3;have H3:=zh h3;clear h3;go_wp2_with fail
    refine ⟨⟨j,rfl,by omega,H3,hbr.trans hb3⟩,?_⟩;simp only [intOf];omega):G:=h
theorem qX (x:Value) (a:Nat) (w:World) (hx:bW w x a) (ha:sz 1000000000 a≤1099511627776) (ht:Pow w) :
  Calls Tryz.prog 220 #[x] w (Dn w a):=ai0
theorem _root_.Go.ah9 {G:Prop} (h:G:=by
 have hd:=cZ (B:=1000000000) zo a;have htop:=nQ (B:=1000000000) zo a;have hva:=bQ (B:=1000000000) zo a;unfold sz at ha
 rcases Nat.eq_zero_or_pos a with h0|h0
 ·subst h0;have H:=zh hx;clear hx;rw [iM zo];go_enter Zd,Zc
  go_wp2_with ((first|go_at_call 201|go_at_call 295);refine (iK _ _ _ H.out).mono ?_;rintro e w1 ⟨rfl,rfl⟩)
  go_ret
  exact ⟨rfl,Below.refl _ _⟩
 ·obtain ⟨p,c,rfl,hc1,hc2,hread⟩:=nC.read hx.Da;generalize hl:eF 1000000000 a=l at *;have hne:l≠[]:=fun e=>by rw [e] at hva;simp [val] at hva;omega
  obtain ⟨n,hn⟩:∃ n,l.length=n+1:=⟨l.length - 1,by have:=List.length_pos_iff.mpr hne;omega⟩;have hlt:=JY hn hd htop;have hdb:=hd.getD zo n;have hl9:=lS 9 _ zo hdb;rw [hva] at hlt;rw [hlt];obtain ⟨b,off,rfl,hb,hcell⟩:=hread n zo;have H:=zh hx;have HN:=zh hn;have HT:=zh ht;rw [hn] at ha hc1 ⊢;have ha0:decide (a=0)=false:=by simp;omega
  generalize hdn:l.getD n 0=dn at *;clear hx hread hva hl ht hn hlt hdn;generalize hL:(Lib.decDigits dn).length=L at *;have HL:Hid ((⟨(Lib.decDigits dn).toArray⟩:ByteArray).size=L):=zh hL;clear hL;go_enter Zd,Zc
  go_wp2_with (first
   | ((first|go_at_call 201|go_at_call 295);refine (iK _ a _ (by rw [← HN.out];exact H.out)).mono ?_;rintro e w1 ⟨rfl,rfl⟩;rw [ha0])
   | (go_at_call 249;refine (OI dn hdb _ HT.out).mono ?_;rintro e w1 ⟨rfl,hb1⟩;have hq:=HL.out))
  go_ret
  refine ⟨?_,hb1⟩;have e:(((9*n+L:Nat)):Int)=(n:Int)*9+(L:Int):=by omega
  rw [e];rfl):G:=h
theorem mo (x:Value) (a:Nat) (w:World) (hx:bW w x a) (ha:sz 1000000000 a≤1099511627776) (ht:Pow w) :
  Calls Tryz.prog 219 #[x] w (fun e w'=>e= aj (Z I ((Lib.decDigits a).length:Nat))∧Below w.heap.size w w'):=ah9
end Go.Proofs.fu
namespace Go.Proofs.fu
open Go Go.RowKit Go.SW Go.Num Go.Mem Go.Proofs Go.Dec
theorem YK:(Tryz.prog.info? 61).map (fun i=>(i.zero,i.size,i.bytes))=some (some (.int .u32 0),1,4):=by kernel_rfl
theorem uV (s:ByteArray) (hs:s.size≤1099511627776) (hd:qL s.data.toList) (w:World) :
  Calls Tryz.prog 274 #[O s] w (fun e w'=>∃ v,e= aj v∧Below w.heap.size w w'∧bW w' v (num s.data.toList)):=zs3
end Go.Proofs.fu
namespace Go.Proofs.fu
open Go Go.RowKit Go.SW Go.Num Go.Mem Go.Proofs
theorem _root_.Go.ah8 {G:Prop} (h:G:=by
 obtain ⟨p,c,rfl, -, -, h1⟩:=nC.read h.Da;obtain ⟨p',c',e, -, -, h2⟩:=nC.read k.Da;simp only [Value.slice.injEq] at e;obtain ⟨rfl,hl,rfl⟩:=e
 have:eF 1000000000 m=eF 1000000000 n:=by
  refine List.ext_getElem hl fun i hi hi2=>?_;obtain ⟨b,o,e, -, hc⟩:=h1 i hi;obtain ⟨b',o',e', -, hc'⟩:=h2 i hi2;rw [e] at e';simp only [Option.some.injEq,Addr.mk.injEq,and_true] at e';obtain ⟨rfl,rfl⟩:=e';rw [hc] at hc';simp only [Option.some.injEq,Value.int.injEq,true_and] at hc';rw [List.getD_eq_getElem?_getD,List.getD_eq_getElem?_getD,List.getElem?_eq_getElem hi,List.getElem?_eq_getElem hi2] at hc'
  simpa using Int.ofNat_inj.mp hc'
 rw [← bQ (B:=1000000000) zo m,this,bQ zo]):G:=h
theorem bW.inj {w:World} {v:Value} {m n:Nat} (h:bW w v m) (k:bW w v n):m=n:=ah8
open Classical in
noncomputable def Cn (w:World) (v:Value):Nat:=if h:∃ n,bW w v n then h.choose else 0
theorem tZ {w:World} {v:Value} {n:Nat} (h:bW w v n):Cn w v=n:=by
 unfold Cn;rw [dif_pos ⟨n,h⟩];exact bW.inj (Exists.choose_spec (⟨n,h⟩:∃ n,bW w v n)) h
theorem wJ (x y:Value) (a b:Nat) (w:World) (hx:bW w x a) (hy:bW w y b) (ha:sz 1000000000 a≤549755813888) (hb:sz 1000000000 b≤549755813888) :
  Calls Tryz.prog 142 #[x,y] w (fun e w'=>∃ v,e= aj v∧Below w.heap.size w w'∧bW w' v (Nat.gcd a b)):=by
 generalize hG:Nat.gcd a b=G;have HG:=zh hG;have HX:=zh hx;have HY:=zh hy;clear hx hy hG;go_enter Tryz.func142,Tryz.ntmps142
 go_wp2_with fail
 go_loopw [0,1] (fun vx vy wr=>∃ a b:Nat,Hid (bW wr vx a)∧Hid (bW wr vy b)∧Hid (Nat.gcd a b=G)∧Hid (sz 1000000000 a≤549755813888)∧Hid (sz 1000000000 b≤549755813888)∧Below w.heap.size w wr) (fun _ vy wr=>Cn wr vy)
 case atStart=>exact ⟨a,b,HX,HY,HG,zh ha,zh hb,Below.refl _ _⟩
 case round =>
  obtain ⟨a,b,HX,HY,HG,HA,HB,hbr⟩:=hrel;obtain ⟨p,c,rfl,hc1,hc2,hread⟩:=nC.read HX.out.Da;obtain ⟨p',c',rfl,hc1',hc2',aa9⟩:=nC.read HY.out.Da;clear hread aa9
  have HLA:=zh (show ((eF 1000000000 a).length:Int)≤2→a≤18446744073709551615 from fun h=>by
   have h1:=jg (B:=1000000000) zo a;have h2:(1000000000:Nat)^sz 1000000000 a≤1000000000^2:=bI zo (by unfold sz;omega);omega)
  have HLB:=zh (show ((eF 1000000000 b).length:Int)≤2→b≤18446744073709551615 from fun h=>by
   have h1:=jg (B:=1000000000) zo b;have h2:(1000000000:Nat)^sz 1000000000 b≤1000000000^2:=bI zo (by unfold sz;omega);omega)
  rcases aV b with h0|h0
  ·subst h0;rw [Nat.gcd_zero_right] at HG;go_wp2_with (go_at_call 201;refine (iK _ 0 _ HY.out).mono ?_;rintro e w1 ⟨rfl,rfl⟩)
   go_ret
   exact ⟨_,rfl,hbr,by rw [← HG.out];exact HX.out⟩
  ·have hb0:decide (b=0)=false:=by simp;omega
   go_wp2_with (go_at_call 201;refine (iK _ b _ HY.out).mono ?_;rintro e w1 ⟨rfl,rfl⟩;rw [hb0])
   ·refine (IX _ a _ HX.out (HLA.out (by assumption))).mono ?_;rintro e w' ⟨rfl,rfl⟩;go_wp2_with fail
    refine (IX _ b _ HY.out (HLB.out (by assumption))).mono ?_;rintro e w' ⟨rfl,rfl⟩;have hla:=HLA.out (by assumption);have hlb:=HLB.out (by assumption);go_wp2_with fail
    go_loopw [5,6] (fun v5 v6 wi=>∃ c d:Nat,v5= Z .u64 (c:Int)∧v6= Z .u64 (d:Int)∧c≤18446744073709551615∧d≤18446744073709551615∧Hid (Nat.gcd c d=G)∧Below w.heap.size w wi) (fun _ v6 _=>(intOf v6).toNat)
    case atStart=>exact ⟨a,b,rfl,rfl,hla,hlb,HG,hbr⟩
    case round =>
     obtain ⟨c,d,rfl,rfl,hc,hd,HG2,hbi⟩:=hrel
     rcases aV d with h1|h1
     ·subst h1;rw [Nat.gcd_zero_right] at HG2;go_wp2_with fail
      refine (mW c _ hc).mono ?_;rintro e w3 ⟨v3,rfl,hb3,hv3⟩;have HV3:=zh hv3;clear hv3;go_wp2_with fail
      go_ret
      exact ⟨_,rfl,Bt hbi hb3,by rw [← HG2.out];exact HV3.out⟩
     ·have hcd:((c%d:Nat):Int)=(c:Int)%(d:Int):=Int.natCast_emod _ _;have hlt:c%d<d:=fC _ h1;go_wp2_with fail
      go_quiet (fail)
      go_wp2_with fail
      refine ⟨⟨d,c%d,rfl,by rw [hcd],hd,by omega,zh ?_,below_drewN hbi _⟩,?_⟩
      ·rw [← HG2.out,Nat.gcd_comm d,← Nat.gcd_rec,Nat.gcd_comm]
      ·rw [← hcd];simp only [intOf];omega
   all_goals
    refine (iw _ _ a b _ HX.out HY.out h0 HA.out).mono ?_;rintro e w2 ⟨vq,vr,rfl,hb2,hq,hr⟩;have HR:=zh hr;clear hq hr;go_wp2_with fail
    refine ⟨⟨b,a%b,zh (HY.out.later hb2),HR,zh ?_,HB,zh (ay (gu zo (Nat.mod_le _ _)) HA.out),Bt hbr hb2⟩,?_⟩
    ·rw [← HG.out,Nat.gcd_comm b,← Nat.gcd_rec,Nat.gcd_comm]
    ·rw [tZ HR.out,tZ HY.out];exact fC _ h0
end Go.Proofs.fu
namespace Go.Proofs.fu
open Go Go.RowKit Go.SW Go.Num Go.Mem Go.Proofs Go.Dec
theorem _root_.Go.ah7 {G:Prop} (h:G:=by
 obtain ⟨Jk,lH,J9,rfl⟩:=h.slice;have H:=zh h;clear h;cases b
 all_goals
  go_enter aj7,aj6
  go_wp2_with ((first|go_at_call 201|go_at_call 295);refine (iK _ n _ aW).mono ?_;rintro e w1 ⟨rfl,rfl⟩)
  refine gF rfl rfl bf R8 rfl zk ?_;refine ⟨_,rfl,aF,fD.mk aW (kG n _).symm ?_⟩;rw [← Om];rfl):G:=h
theorem fO (m:Value) (n:Nat) (b:Bool) (w:World) (h:bW w m n) :
  Calls Tryz.prog 144 #[m,ak b] w (fun e w'=>∃ v,e= aj v∧Below w.heap.size w w'∧fD w' v (iV n b)):=ah7
theorem jU (z:Int) (hz:(Lib.decDigits z.natAbs).length≤600) (w:World) :
  Calls Tryz.prog 222 #[dW z] w (fun e w'=>∃ v,e= aj v∧Below w.heap.size w w'∧fD w' v z):=by
 have HC:=zh (whole.r9 ⟨(Lib.itoa z).toArray⟩);have e1:(⟨(Lib.itoa z).toArray⟩:ByteArray).data.toList=Lib.itoa z:=rfl;rw [e1,J4] at HC;have HG:=zh (fun w=>uV ⟨(Lib.decDigits z.natAbs).toArray⟩ (ay hz zo) (mY _) w);have e2:(⟨(Lib.decDigits z.natAbs).toArray⟩:ByteArray).data.toList=Lib.decDigits z.natAbs:=rfl;rw [e2,nM] at HG;clear hz;unfold dW;go_enter Tryz.func222,Tryz.ntmps222
 go_wp2_with (first
  | (go_at_call 273;refine (HC.out _).mono ?_;rintro e w1 ⟨rfl,rfl⟩)
  | (go_at_call 274;refine (HG.out _).mono ?_;rintro e w2 ⟨v,rfl,hb2,hv⟩;obtain ⟨aw2,lHV,aC0,rfl⟩:=hv.slice;have HV:=zh hv;clear hv;have BR:=aA.later (aA.new _ _ _) hb2;have dV:=BR.cell;have dU:=BR.free))
 refine gF rfl rfl bf Tryz.underlying106 rfl zk ?_;exact ⟨_,rfl,aF,fD.gG aW⟩
theorem zY (v:Value) (z:Int) (w:World) (h:fD w v z) :
  Calls Tryz.prog 148 #[v] w (fun e w'=>∃ v,e= aj v∧Below w.heap.size w w'∧fD w' v (-z)):=by
 obtain ⟨Jk,lH,J9,rfl,H⟩:=h;replace H:=zh H;go_enter Tryz.func148,Tryz.ntmps148
 go_wp2_with (go_at_call 144;refine (fO _ _ _ _ aW).mono ?_;rintro e w1 ⟨v,rfl,hb1,hv⟩;obtain ⟨aM8,lH1,aR6,rfl,H1⟩:=hv;replace H1:=zh H1;have BR:=aA.later (aA.pV _ _ _ _) hb1;have dV:=BR.cell;have dU:=BR.free)
 refine gF rfl rfl bf Tryz.underlying106 rfl zk ?_;exact ⟨_,rfl,aF,(fD.gG aW).cast (Ol z)⟩
theorem qO (v u:Value) (z:Int) (n:Nat) (w:World) (h:fD w v z) (hu:bW w u n) (hz:sz 1000000000 z.natAbs≤549755813888) (hn:sz 1000000000 n≤549755813888) :
  Calls Tryz.prog 146 #[v,u] w (fun e w'=>∃ v,e= aj v∧Below w.heap.size w w'∧fD w' v (z*n)):=by
 obtain ⟨Jk,lH,J9,rfl,H⟩:=h;replace H:=zh H;obtain ⟨aM2,lHU,aR0,rfl⟩:=hu.slice;have HU:=zh hu;clear hu;have HN:=zh hn;have HZ:=zh hz;clear hn hz;go_enter Tryz.func146,Tryz.ntmps146
 go_wp2_with fail
 refine aJ [(.pure,0),(.read,1),(.pure,2),(.pure,4),(.read,5),(.ext,3),(.ext,6),(.fin,7)] zk zk zR zP ?_;refine zV ?_;refine aS rfl rfl (fun w1 hb1 J hJ=>?_);go_simp;have BR:=aA.later (aA.drew (aA.pV _ _ _ _)) hb1;have dV:=BR.cell;have dU:=BR.free;refine (jQ _ _ _ _ _ aW aW (ay HZ.out zo) (ay HN.out zo)).mono ?_;rintro e w2 ⟨v,rfl,hb2,hv⟩;obtain ⟨aw2,lHV,aC0,rfl⟩:=hv.slice;have HV:=zh hv;clear hv;replace BR:=aA.later (BR) hb2;replace dV:=BR.cell;replace dU:=BR.free;refine hJ _ _ hb2 ?_;clear hJ J;refine aS rfl rfl (fun w3 hb3 J hJ=>?_);go_simp;replace BR:=aA.later (BR) hb3;replace dV:=BR.cell;replace dU:=BR.free;refine (fO _ (z.natAbs*n) _ _ aW).mono ?_;rintro e w4 ⟨v,rfl,hb4,hv⟩;obtain ⟨aM6,lH4,aR4,rfl,H4⟩:=hv;replace H4:=zh H4;replace BR:=aA.later (BR) hb4;replace dV:=BR.cell;replace dU:=BR.free
 refine hJ _ _ hb4 ?_;clear hJ J;refine dA [_] rfl (fun w5 hb5=>?_);replace BR:=aA.later (BR) hb5;replace dV:=BR.cell;replace dU:=BR.free;go_wp2_with fail
 refine gF rfl rfl bf Tryz.underlying106 rfl zk ?_;exact ⟨_,rfl,aF,(fD.gG aW).cast (Wv z n)⟩
theorem _root_.Go.ah6 {G:Prop} (h:G:=by
 have H:=zh h;have H2:=zh h2;have KZ:=zh kz;have KY:=zh ky;have HE:=zh (Oo hz hy);clear h h2 kz ky hz hy;cases b
 all_goals
  go_enter V3,VZ
  go_wp2_with fail
  refine aJ [(.pure,0),(.read,1),(.pure,2),(.read,3),(.pure,5),(.read,6),(.ext,4),(.ext,7),(.fin,8)] zk zk zR zP ?_;refine zV ?_;refine aS rfl rfl (fun w1 hb1 J hJ=>?_);go_simp;have BR:=aA.later (aA.drew (aA.at2 _ _ _ _ _)) hb1;have dV:=BR.cell;have dU:=BR.free;refine (AZ _ _ z.natAbs y.natAbs _ aW aW (Nat.le_trans KZ.out zo) (Nat.le_trans KY.out zo)).mono ?_;rintro e v1 ⟨v,rfl,hc1,hv⟩;obtain ⟨ZL,lHS,ae4,rfl⟩:=hv.slice;have HS:=zh hv;clear hv;replace BR:=aA.later (BR) hc1;replace dV:=BR.cell;replace dU:=BR.free;refine hJ _ _ hc1 ?_;clear hJ J;refine aS rfl rfl (fun w2 hb2 J hJ=>?_);go_simp;replace BR:=aA.later (BR) hb2;replace dV:=BR.cell;replace dU:=BR.free;refine (fO _ (z.natAbs+y.natAbs) _ _ aW).mono ?_;rintro e v2 ⟨v,rfl,hc2,hv⟩;obtain ⟨ZK,lHT,ae3,rfl,HT⟩:=hv;replace HT:=zh HT
  replace BR:=aA.later (BR) hc2;replace dV:=BR.cell;replace dU:=BR.free;refine hJ _ _ hc2 ?_;clear hJ J;refine dA [_] rfl (fun w5 hb5=>?_);replace BR:=aA.later (BR) hb5;replace dV:=BR.cell;replace dU:=BR.free;go_wp2_with fail
  refine gF rfl rfl bf R8 rfl zk ?_;exact ⟨_,rfl,aF,(fD.gG aW).cast HE.out⟩):G:=h
theorem IU (pa pb:Option Addr) (l m ca cb:Nat) (z y:Int) (b:Bool) (w:World) (h:bW w (ah pa l ca) z.natAbs) (h2:bW w (ah pb m cb) y.natAbs) (hz:decide (z<0)=b) (hy:decide (y<0)=b) (kz:sz 1000000000 z.natAbs≤549755813888) (ky:sz 1000000000 y.natAbs≤549755813888) :
  Calls Tryz.prog 147 #[au #[ah pa l ca,ak b],au #[ah pb m cb,ak b]] w (fun e w'=>∃ v,e= aj v∧Below w.heap.size w w'∧fD w' v (z+y)):=ah6
theorem _root_.Go.ah5 {G:Prop} (h:G:=by
 have H:=zh h;have H2:=zh h2;have KZ:=zh kz;have KY:=zh ky
 rcases Nat.lt_or_ge z.natAbs y.natAbs with hlt|hge
 ·have HE:Hid (iV (y.natAbs - z.natAbs) (!b)=z+y):=by
   have:=Oj (z:=y) (y:=z) (b:= !b) hy (by rw [hz,Bool.not_not]);rw [if_pos zo] at this;exact this.trans (Int.add_comm _ _)
  have HC:=zh (qx hlt);have HL:=zh hlt;clear h h2 kz ky hz hy hlt;cases b
  all_goals
   go_enter V3,VZ
   go_wp2_with fail
   refine ((jM _ _ z.natAbs y.natAbs _ aW aW).mono (by rw [HC.out];exact fun _ _ h=>h)).mono ?_;rintro e v1 ⟨rfl,hc1⟩;have BR:=aA.later (aA.at2 _ _ _ _ _) hc1;have dV:=BR.cell;have dU:=BR.free;have B1:=aA.later (aA.alloc (aA.pV _ _ _ _) _) hc1;have cB1:=B1.cell;have uZ:=B1.free;have B0:=aA.later (aA.alloc (aA.alloc (aA.new _ _ _) _) _) hc1;have cB0:=B0.cell;have kM:=B0.free;go_wp2_with fail
   refine aJ [(.pure,0),(.read,1),(.pure,2),(.read,3),(.pure,5),(.read,6),(.ext,4),(.ext,7),(.fin,8)] zk zk zR zP ?_;refine zV ?_;refine aS rfl rfl (fun w2 hb2 J hJ=>?_);go_simp;replace BR:=aA.later (aA.drew BR) hb2;replace dV:=BR.cell;replace dU:=BR.free;refine (Ck _ _ y.natAbs z.natAbs _ aW aW (Nat.le_trans KY.out zo) (Nat.le_of_lt HL.out)).mono ?_;rintro e v2 ⟨v,rfl,hc2,hv⟩;obtain ⟨an0,lHD,ar2,rfl⟩:=hv.slice;have HD:=zh hv;clear hv;replace BR:=aA.later (BR) hc2;replace dV:=BR.cell;replace dU:=BR.free;refine hJ _ _ hc2 ?_;clear hJ J;refine aS rfl rfl (fun w3 hb3 J hJ=>?_);go_simp;replace BR:=aA.later (BR) hb3;replace dV:=BR.cell;replace dU:=BR.free;refine (fO _ (y.natAbs - z.natAbs) _ _ aW).mono ?_;rintro e v3 ⟨v,rfl,hc3,hv⟩;obtain ⟨ZK,lHT,ae3,rfl,HT⟩:=hv;replace HT:=zh HT
   replace BR:=aA.later (BR) hc3;replace dV:=BR.cell;replace dU:=BR.free;refine hJ _ _ hc3 ?_;clear hJ J;refine dA [_] rfl (fun w5 hb5=>?_);replace BR:=aA.later (BR) hb5;replace dV:=BR.cell;replace dU:=BR.free;go_wp2_with fail
   refine gF rfl rfl bf R8 rfl zk ?_;exact ⟨_,rfl,aF,(fD.gG aW).cast HE.out⟩
 ·have HE:Hid (iV (z.natAbs - y.natAbs) b=z+y):=by
   have:=Oj (z:=z) (y:=y) (b:=b) hz hy;rw [if_pos zo] at this;exact this
  have hs:vZ z.natAbs y.natAbs=0∨vZ z.natAbs y.natAbs=1:=by
   rcases Nat.lt_or_ge y.natAbs z.natAbs with h2|h2
   ·exact .inr (oW h2)
   ·have:z.natAbs=y.natAbs:=by omega
    rw [this];exact .inl (rQ _)
  have HL:=zh hge;clear h h2 kz ky hz hy hge
  rcases hs with hs|hs<;>cases b
  all_goals
   have HC:=zh hs;clear hs;go_enter V3,VZ
   go_wp2_with fail
   refine ((jM _ _ z.natAbs y.natAbs _ aW aW).mono (by rw [HC.out];exact fun _ _ h=>h)).mono ?_;rintro e v1 ⟨rfl,hc1⟩;have BR:=aA.later (aA.at2 _ _ _ _ _) hc1;have dV:=BR.cell;have dU:=BR.free;have B1:=aA.later (aA.alloc (aA.pV _ _ _ _) _) hc1;have cB1:=B1.cell;have uZ:=B1.free;have B0:=aA.later (aA.alloc (aA.alloc (aA.new _ _ _) _) _) hc1;have cB0:=B0.cell;have kM:=B0.free;go_wp2_with fail
   refine aJ [(.pure,0),(.read,1),(.pure,2),(.read,3),(.pure,5),(.read,6),(.ext,4),(.ext,7),(.fin,8)] zk zk zR zP ?_;refine zV ?_;refine aS rfl rfl (fun w2 hb2 J hJ=>?_);go_simp;replace BR:=aA.later (aA.drew BR) hb2;replace dV:=BR.cell;replace dU:=BR.free;refine (Ck _ _ z.natAbs y.natAbs _ aW aW (Nat.le_trans KZ.out zo) HL.out).mono ?_;rintro e v2 ⟨v,rfl,hc2,hv⟩;obtain ⟨an0,lHD,ar2,rfl⟩:=hv.slice;have HD:=zh hv;clear hv;replace BR:=aA.later (BR) hc2;replace dV:=BR.cell;replace dU:=BR.free;refine hJ _ _ hc2 ?_;clear hJ J;refine aS rfl rfl (fun w3 hb3 J hJ=>?_);go_simp;replace BR:=aA.later (BR) hb3;replace dV:=BR.cell;replace dU:=BR.free;refine (fO _ (z.natAbs - y.natAbs) _ _ aW).mono ?_;rintro e v3 ⟨v,rfl,hc3,hv⟩;obtain ⟨ZK,lHT,ae3,rfl,HT⟩:=hv;replace HT:=zh HT
   replace BR:=aA.later (BR) hc3;replace dV:=BR.cell;replace dU:=BR.free;refine hJ _ _ hc3 ?_;clear hJ J;refine dA [_] rfl (fun w5 hb5=>?_);replace BR:=aA.later (BR) hb5;replace dV:=BR.cell;replace dU:=BR.free;go_wp2_with fail
   refine gF rfl rfl bf R8 rfl zk ?_;exact ⟨_,rfl,aF,(fD.gG aW).cast HE.out⟩):G:=h
theorem IV (pa pb:Option Addr) (l m ca cb:Nat) (z y:Int) (b:Bool) (w:World) (h:bW w (ah pa l ca) z.natAbs) (h2:bW w (ah pb m cb) y.natAbs) (hz:decide (z<0)=b) (hy:decide (y<0)= !b) (kz:sz 1000000000 z.natAbs≤549755813888) (ky:sz 1000000000 y.natAbs≤549755813888) :
  Calls Tryz.prog 147 #[au #[ah pa l ca,ak b],au #[ah pb m cb,ak !b]] w (fun e w'=>∃ v,e= aj v∧Below w.heap.size w w'∧fD w' v (z+y)):=ah5
theorem _root_.Go.ah4 {G:Prop} (h:G:=by
 obtain ⟨pa,l,ca,rfl,hm⟩:=h;obtain ⟨pb,m,cb,rfl,hm2⟩:=h2
 by_cases hb:decide (z<0)=decide (y<0)
 ·rw [hb];exact IU pa pb l m ca cb z y (decide (y<0)) w hm hm2 hb rfl kz ky
 ·have hb2:decide (y<0)= !decide (z<0):=by
   cases h1:decide (z<0)<;>cases h2:decide (y<0)<;>simp_all
  rw [hb2];exact IV pa pb l m ca cb z y (decide (z<0)) w hm hm2 rfl hb2 kz ky):G:=h
theorem vV (v u:Value) (z y:Int) (w:World) (h:fD w v z) (h2:fD w u y) (kz:sz 1000000000 z.natAbs≤549755813888) (ky:sz 1000000000 y.natAbs≤549755813888) :
  Calls Tryz.prog 147 #[v,u] w (fun e w'=>∃ v,e= aj v∧Below w.heap.size w w'∧fD w' v (z+y)):=ah4
theorem Og (v:Value) (z:Int) (w:World) (h:fD w v z) (kz:sz 1000000000 z.natAbs≤1099511627776) (ht:jH.Pow w) :
  Calls Tryz.prog 191 #[v] w (fun e w'=>e= aj (dW z)∧Below w.heap.size w w'):=by
 obtain ⟨pa,l,ca,rfl,hm⟩:=h
 have hlen:((1+(Lib.decDigits z.natAbs).length:Nat):Int)≤9223372036854775807:=by
  have h1:=uD (cZ (B:=1000000000) zo z.natAbs);rw [bQ zo] at h1;unfold sz at kz;omega
 have YP:¬ 9223372036854775807<1+(Lib.decDigits z.natAbs).length:=by omega
 have H:=zh hm;have KZ:=zh kz;have HT:=zh ht;clear hm kz ht hlen
 by_cases hz:z<0
 ·have e:dW z= O ⟨(45::Lib.decDigits z.natAbs).toArray⟩:=by unfold dW Lib.itoa;rw [if_pos hz]
  rw [e,decide_eq_true hz];clear e hz;go_enter Tryz.func191,Tryz.ntmps191
  go_wp2_with fail
  refine (qX _ z.natAbs _ aW KZ.out (HT.out.later aF)).mono ?_;rintro e v1 ⟨rfl,hc1⟩;go_wp2_with fail
  go_ret
  exact ⟨rfl,aF⟩
 ·have e:dW z= O ⟨(Lib.decDigits z.natAbs).toArray⟩:=by unfold dW Lib.itoa;rw [if_neg hz,show z.toNat=z.natAbs by omega]
  rw [e,decide_eq_false hz];clear e hz;go_enter Tryz.func191,Tryz.ntmps191
  go_wp2_with fail
  refine (qX _ z.natAbs _ aW KZ.out (HT.out.later aF)).mono ?_;rintro e v1 ⟨rfl,hc1⟩;go_wp2_with fail
  go_ret
  exact ⟨rfl,aF⟩
end Go.Proofs.fu
namespace Go.Proofs.fu
open Go Go.RowKit Go.SW Go.Num Go.Mem Go.Proofs Go.Dec Go.gD
theorem xC (v:Value) (z:Int) (w:World) (h:fD w v z) :
  Calls Tryz.prog 149 #[v] w (fun e w'=>e= aj (Z I (vE z))∧Below w.heap.size w w'):=by
 obtain ⟨Jk,lH,J9,rfl,H⟩:=h;replace H:=zh H
 rcases Int.lt_trichotomy z 0 with hz|hz|hz
 ·have e:vE z= -1:=by unfold vE;rw [if_neg zo,if_pos hz]
  rw [e,decide_eq_true hz];have h0:decide (z.natAbs=0)=false:=by simp;omega
  go_enter Tryz.func149,Tryz.ntmps149
  go_wp2_with (go_at_call 201;refine (iK _ z.natAbs _ aW).mono ?_;rintro e w1 ⟨rfl,rfl⟩;rw [h0])
  go_ret
  exact ⟨rfl,aF⟩
 ·subst hz;go_enter Tryz.func149,Tryz.ntmps149
  go_wp2_with (go_at_call 201;refine (iK _ (Int.natAbs 0) _ aW).mono ?_;rintro e w1 ⟨rfl,rfl⟩)
  go_ret
  exact ⟨rfl,aF⟩
 ·have e:vE z=1:=by unfold vE;rw [if_neg zo,if_neg zo]
  rw [e,decide_eq_false (show ¬ z<0 by omega)];have h0:decide (z.natAbs=0)=false:=by simp;omega
  go_enter Tryz.func149,Tryz.ntmps149
  go_wp2_with (go_at_call 201;refine (iK _ z.natAbs _ aW).mono ?_;rintro e w1 ⟨rfl,rfl⟩;rw [h0])
  go_ret
  exact ⟨rfl,aF⟩
theorem tX (x y:Value) (p q:Rat) (w:World) (hx:gJ w x p) (hy:gJ w y q) (kp:jw 1000000 p) (kq:jw 1000000 q) :
  Calls Tryz.prog 66 #[x,y] w (fun e w'=>e= aj (Z I (oK p q))∧Below w.heap.size w w'):=by
 obtain ⟨Jk,lH,J9,VN,mH,VR,rfl,H,Hd⟩:=hx;replace H:=zh H;replace Hd:=zh Hd;obtain ⟨ZM,lG,caG,pbG,mG,cbG,rfl,G,Gd⟩:=hy;replace G:=zh G;replace Gd:=zh Gd;rw [← BK];have k1:=oM p.num q.den;have k2:=oM q.num p.den;obtain ⟨kp1,kp2⟩:=kp;obtain ⟨kq1,kq2⟩:=kq;obtain ⟨y1,Ey1⟩:∃ y:Int,Hid (p.num*(q.den:Int)=y):=⟨_,zh rfl⟩;obtain ⟨y2,Ey2⟩:∃ y:Int,Hid (q.num*(p.den:Int)=y):=⟨_,zh rfl⟩;obtain ⟨y3,Ey3⟩:∃ y:Int,Hid (-y2=y):=⟨_,zh rfl⟩;obtain ⟨y4,Ey4⟩:∃ y:Int,Hid (y1+y3=y):=⟨_,zh rfl⟩;rw [Ey1.out,Ey2.out,Ey3.out,Ey4.out];rw [Ey1.out] at k1;rw [Ey2.out] at k2;have k3:sz 1000000000 y3.natAbs=sz 1000000000 y2.natAbs:=by rw [← Ey3.out,Int.natAbs_neg]
 have K1:Hid (sz 1000000000 y1.natAbs≤549755813888):=by unfold Hid;omega
 have K3:Hid (sz 1000000000 y3.natAbs≤549755813888):=by unfold Hid;omega
 have KP1:=zh kp1;have KP2:=zh kp2;have KQ1:=zh kq1;have KQ2:=zh kq2;clear kp1 kp2 kq1 kq2 k1 k2 k3;go_enter Tryz.func66,Tryz.ntmps66
 go_wp2_with fail
 refine aJ [(.pure,0),(.read,1),(.pure,2),(.read,3),(.pure,5),(.read,6),(.pure,7),(.read,8),(.ext,4),(.ext,9),(.ext,10),(.ext,11),(.ext,12),(.fin,13)] zk zk zR zP ?_;refine zV ?_;refine aS rfl rfl (fun w1 hb1 J hJ=>?_);go_simp;refine ((qO _ _ p.num q.den _ (fD.gG aW) aW (ay KP1.out zo) (ay KQ2.out zo)).mono (by rw [Ey1.out];exact fun _ _ h=>h)).mono ?_;rintro e v1 ⟨v,rfl,hc1,hv⟩;obtain ⟨aM5,lHA,aR3,rfl,HA⟩:=hv;replace HA:=zh HA;refine hJ _ _ hc1 ?_;clear hJ J;refine aS rfl rfl (fun w2 hb2 J hJ=>?_);go_simp;refine ((qO _ _ q.num p.den _ (fD.gG aW) aW (ay KQ1.out zo) (ay KP2.out zo)).mono (by rw [Ey2.out];exact fun _ _ h=>h)).mono ?_;rintro e v2 ⟨v,rfl,hc2,hv⟩;obtain ⟨aM4,lHB,aR2,rfl,HB⟩:=hv;replace HB:=zh HB;refine hJ _ _ hc2 ?_;clear hJ J
 refine aS rfl rfl (fun w3 hb3 J hJ=>?_);go_simp;refine ((zY _ y2 _ (fD.gG aW)).mono (by rw [Ey3.out];exact fun _ _ h=>h)).mono ?_;rintro e v3 ⟨v,rfl,hc3,hv⟩;obtain ⟨aM3,lHC,aR1,rfl,HC⟩:=hv;replace HC:=zh HC;refine hJ _ _ hc3 ?_;clear hJ J;refine aS rfl rfl (fun w4 hb4 J hJ=>?_);go_simp;refine ((vV _ _ y1 y3 _ (fD.gG aW) (fD.gG aW) K1.out K3.out).mono (by rw [Ey4.out];exact fun _ _ h=>h)).mono ?_;rintro e v4 ⟨v,rfl,hc4,hv⟩;obtain ⟨an0,lHD,ar2,rfl,HD⟩:=hv;replace HD:=zh HD;refine hJ _ _ hc4 ?_;clear hJ J;refine aS rfl rfl (fun w5 hb5 J hJ=>?_);go_simp;refine (xC _ y4 _ (fD.gG aW)).mono ?_;rintro e v5 ⟨rfl,oH⟩;refine hJ _ _ oH ?_;clear hJ J;refine dA [_] rfl (fun w5 hb5=>?_);go_wp2_with fail
 go_ret
 exact ⟨rfl,aF⟩
theorem Ls (x y:Value) (n:Int) (d:Nat) (w:World) (hx:fD w x n) (hy:bW w y d) (hd:0<d) (kn:sz 1000000000 n.natAbs≤549755813888) (kd:sz 1000000000 d≤549755813888) :
  Calls Tryz.prog 248 #[x,y] w (fun e w'=>∃ v,e= aj v∧Below w.heap.size w w'∧gJ w' v (mkRat n d)):=by
 obtain ⟨Jk,lH,J9,rfl,H⟩:=hx;replace H:=zh H;obtain ⟨ZM,lG,caG,rfl⟩:=hy.slice;have G:=zh hy;clear hy;have HP:=zh (tY n hd);have hg:0<n.natAbs.gcd d:=Nat.gcd_pos_of_pos_right _ hd;obtain ⟨g,Eg⟩:∃ y:Nat,Hid (n.natAbs.gcd d=y):=⟨_,zh rfl⟩;obtain ⟨a,Ea⟩:∃ y:Nat,Hid (n.natAbs / g=y):=⟨_,zh rfl⟩;obtain ⟨b,Eb⟩:∃ y:Nat,Hid (d / g=y):=⟨_,zh rfl⟩;rw [Eg.out] at HP hg;rw [Ea.out,Eb.out] at HP;have KN:=zh kn;have KD:=zh kd;have HG:=zh hg;clear kn kd hg hd;go_enter Tryz.func248,Tryz.ntmps248
 go_wp2_with fail
 refine ((wJ _ _ n.natAbs d _ aW aW KN.out KD.out).mono (by rw [Eg.out];exact fun _ _ h=>h)).mono ?_;rintro e v1 ⟨v,rfl,hc1,hv⟩;obtain ⟨av9,lHg,aB7,rfl⟩:=hv.slice;have Hg:=zh hv;clear hv;have BR:=aA.later (aA.pV _ _ _ _) hc1;have dV:=BR.cell;have dU:=BR.free;have B0:=aA.later (aA.alloc (aA.new _ _ _) _) hc1;have cB0:=B0.cell;have kM:=B0.free;go_wp2_with fail
 refine ((iw _ _ n.natAbs g _ aW aW HG.out KN.out).mono (by rw [Ea.out];exact fun _ _ h=>h)).mono ?_;rintro e v2 ⟨v,vr,rfl,hc2,hv,pF⟩;obtain ⟨am9,lHa,ar1,rfl⟩:=hv.slice;have Ha:=zh hv;clear hv;obtain ⟨aH2,aN9,aI4,rfl⟩:=pF.slice;have Har:=zh pF;clear pF;replace BR:=aA.later (BR) hc2;replace dV:=BR.cell;replace dU:=BR.free;replace B0:=aA.later (B0) hc2;replace cB0:=B0.cell;replace kM:=B0.free;go_wp2_with fail
 refine ((iw _ _ d g _ aW aW HG.out KD.out).mono (by rw [Eb.out];exact fun _ _ h=>h)).mono ?_;rintro e v3 ⟨v,vr,rfl,hc3,hv,pF⟩;obtain ⟨aw1,lHb,aB9,rfl⟩:=hv.slice;have Hb:=zh hv;clear hv;obtain ⟨aH1,aN8,aI3,rfl⟩:=pF.slice;have Hbr:=zh pF;clear pF;replace BR:=aA.later (BR) hc3;replace dV:=BR.cell;replace dU:=BR.free;replace B0:=aA.later (B0) hc3;replace cB0:=B0.cell;replace kM:=B0.free;go_wp2_with fail
 refine (fO _ a _ _ aW).mono ?_;rintro e v4 ⟨v,rfl,hc4,hv⟩;obtain ⟨DW,VP,EF,rfl,Hs⟩:=hv;replace Hs:=zh Hs;replace BR:=aA.later (BR) hc4;replace dV:=BR.cell;replace dU:=BR.free;replace B0:=aA.later (B0) hc4;replace cB0:=B0.cell;replace kM:=B0.free;go_wp2_with fail
 refine gF rfl rfl bf Tryz.underlying108 rfl zk ?_;exact ⟨_,rfl,aF,gJ.mk (iV a (decide (n<0))).natAbs b aW aW (by rw [HP.out.1]) HP.out.2.symm (by rw [HP.out.1])⟩
theorem kT (v:Value) (q:Rat) (w:World) (h:gJ w v q) (k:jw 1000000 q) (ht:jH.Pow w) :
  Calls Tryz.prog 140 #[v] w (fun e w'=>e= aj (Fr.res (wr q))∧Below w.heap.size w w'):=by
 obtain ⟨Jk,lH,J9,VN,mH,VR,rfl,H,Hd⟩:=h;replace H:=zh H;replace Hd:=zh Hd;have HT:=zh ht;have K1:=zh k.1;have K2:=zh k.2;clear ht k
 rcases aO 600 (Lib.decDigits q.num.natAbs).length with h1|h1
 ·rw [F9 (by unfold xO;rw [LP h1];rfl)];go_enter Tryz.func140,Tryz.ntmps140
  go_wp2_with fail
  refine (mo _ q.num.natAbs _ aW (ay K1.out zo) (HT.out.later aF)).mono ?_;rintro e v1 ⟨rfl,hc1⟩;have BR:=aA.later (aA.pV _ _ _ _) hc1;have dV:=BR.cell;have dU:=BR.free;have B0:=aA.later (aA.alloc (aA.new _ _ _) _) hc1;have cB0:=B0.cell;have kM:=B0.free;go_wp2_with fail
  refine bH rfl rfl bf Tryz.underlying32 rfl zk ?_;exact ⟨rfl,aF⟩
 ·rcases aO 600 (Lib.decDigits q.den).length with h2|h2
  ·rw [F9 (by unfold xO;rw [LP h2,Bool.and_false])];go_enter Tryz.func140,Tryz.ntmps140
   go_wp2_with fail
   refine (mo _ q.num.natAbs _ aW (ay K1.out zo) (HT.out.later aF)).mono ?_;rintro e v1 ⟨rfl,hc1⟩;have BR:=aA.later (aA.pV _ _ _ _) hc1;have dV:=BR.cell;have dU:=BR.free;have B0:=aA.later (aA.alloc (aA.new _ _ _) _) hc1;have cB0:=B0.cell;have kM:=B0.free;go_wp2_with fail
   refine (mo _ q.den _ aW (ay K2.out zo) (HT.out.later aF)).mono ?_;rintro e v2 ⟨rfl,hc2⟩;replace BR:=aA.later (BR) hc2;replace dV:=BR.cell;replace dU:=BR.free;replace B0:=aA.later (B0) hc2;replace cB0:=B0.cell;replace kM:=B0.free;go_wp2_with fail
   refine bH rfl rfl bf Tryz.underlying32 rfl zk ?_;exact ⟨rfl,aF⟩
  ·rw [YB (by unfold xO;rw [fK.2 h1,fK.2 h2];rfl)];go_enter Tryz.func140,Tryz.ntmps140
   go_wp2_with fail
   refine (mo _ q.num.natAbs _ aW (ay K1.out zo) (HT.out.later aF)).mono ?_;rintro e v1 ⟨rfl,hc1⟩;have BR:=aA.later (aA.pV _ _ _ _) hc1;have dV:=BR.cell;have dU:=BR.free;have B0:=aA.later (aA.alloc (aA.new _ _ _) _) hc1;have cB0:=B0.cell;have kM:=B0.free;go_wp2_with fail
   refine (mo _ q.den _ aW (ay K2.out zo) (HT.out.later aF)).mono ?_;rintro e v2 ⟨rfl,hc2⟩;replace BR:=aA.later (BR) hc2;replace dV:=BR.cell;replace dU:=BR.free;replace B0:=aA.later (B0) hc2;replace cB0:=B0.cell;replace kM:=B0.free;go_wp2_with fail
   refine aJ [(.pure,0),(.read,1),(.pure,3),(.read,4),(.ext,2),(.ext,5),(.pure,6),(.fin,7),(.fin,8)] zk zk zR zP ?_;refine zV ?_;refine aS rfl rfl (fun w3 hb3 J hJ=>?_);go_simp;replace BR:=aA.later (aA.drew BR) hb3;replace dV:=BR.cell;replace dU:=BR.free;refine ((Og _ q.num _ (fD.gG aW) (ay K1.out zo) (HT.out.later aF)).mono (fun _ _ h=>by unfold dW at h;exact h)).mono ?_;rintro e v3 ⟨rfl,hc3⟩;replace BR:=aA.later (BR) hc3;replace dV:=BR.cell;replace dU:=BR.free;refine hJ _ _ hc3 ?_;clear hJ J;refine aS rfl rfl (fun w4 hb4 J hJ=>?_);go_simp;replace BR:=aA.later (BR) hb4;replace dV:=BR.cell;replace dU:=BR.free;refine (qX _ q.den _ aW (ay K2.out zo) (HT.out.later aF)).mono ?_;rintro e v4 ⟨rfl,hc4⟩;replace BR:=aA.later (BR) hc4;replace dV:=BR.cell;replace dU:=BR.free;refine hJ _ _ hc4 ?_;clear hJ J
   refine zV ?_;refine dA [_,_] rfl (fun w5 hb5=>?_);replace BR:=aA.later (BR) hb5;replace dV:=BR.cell;replace dU:=BR.free;go_wp2_with fail
   refine bH rfl rfl bf Tryz.underlying32 rfl zk ?_;exact ⟨rfl,aF⟩
def Kz (w:World) (q:Rat) (e:Ending) (w':World):Prop:=∃ v,e= aj (aG #[v,ak true])∧Below w.heap.size w w'∧gJ w' v q
def ru (w:World) (e:Ending) (w':World):Prop:=e= aj (aG #[au #[ah none 0 0,ak false,ah none 0 0],ak false])∧Below w.heap.size w w'
theorem kP {s:ByteArray} {z:Int} (h:Dec.whole s.data.toList=some z) (w:World):Calls Tryz.prog 221 #[O s] w (fun e w'=>e= aj (Z I 0)∧Below w.heap.size w w'):=by
 have:=whole.kX s w;rw [h] at this;exact this
theorem Di {s:ByteArray} (h:Dec.whole s.data.toList=none) (w:World):Calls Tryz.prog 221 #[O s] w (fun e w'=>e= aj (Z I 10)∧Below w.heap.size w w'):=by
 have:=whole.kX s w;rw [h] at this;exact this
theorem Lu (s t:ByteArray) (h:Dec.whole s.data.toList=none) (w:World) :
  Calls Tryz.prog 141 #[au #[O s,O t]] w (ru w):=by
 have HC:=zh (Di h);clear h;go_enter Tryz.func141,Tryz.ntmps141
 go_wp2_with fail
 refine (HC.out _).mono ?_;rintro e v1 ⟨rfl,hc1⟩;have BR:=aA.later (aA.pV _ _ _ _) hc1;have dV:=BR.cell;have dU:=BR.free;have B0:=aA.later (aA.alloc (aA.new _ _ _) _) hc1;have cB0:=B0.cell;have kM:=B0.free;go_wp2_with fail
 refine bH rfl rfl bf Tryz.underlying108 rfl zk ?_;exact ⟨rfl,aF⟩
theorem Lv (s t:ByteArray) (n:Int) (hn:Dec.whole s.data.toList=some n) (h:Dec.whole t.data.toList=none) (w:World) :
  Calls Tryz.prog 141 #[au #[O s,O t]] w (ru w):=by
 have HC:=zh (kP hn);have HD:=zh (Di h);clear h hn;go_enter Tryz.func141,Tryz.ntmps141
 go_wp2_with fail
 refine (HC.out _).mono ?_;rintro e v1 ⟨rfl,hc1⟩;have BR:=aA.later (aA.pV _ _ _ _) hc1;have dV:=BR.cell;have dU:=BR.free;have B0:=aA.later (aA.alloc (aA.new _ _ _) _) hc1;have cB0:=B0.cell;have kM:=B0.free;go_wp2_with fail
 refine (HD.out _).mono ?_;rintro e v2 ⟨rfl,hc2⟩;replace BR:=aA.later (BR) hc2;replace dV:=BR.cell;replace dU:=BR.free;replace B0:=aA.later (B0) hc2;replace cB0:=B0.cell;replace kM:=B0.free;go_wp2_with fail
 refine bH rfl rfl bf Tryz.underlying108 rfl zk ?_;exact ⟨rfl,aF⟩
theorem Qd (q:Rat) (hq:xO q=true) (w:World) :
  Calls Tryz.prog 141 #[(Fr.of q).v] w (Kz w q):=by
 show Calls _ _ #[au #[O ⟨(Lib.itoa q.num).toArray⟩,O ⟨(Lib.itoa (q.den:Int)).toArray⟩]] _ _
 have hs:=jJ hq
 have hl:(Lib.decDigits q.num.natAbs).length≤600∧(Lib.decDigits ((q.den:Nat):Int).natAbs).length≤600:=by
  unfold xO at hq;rw [aK,fK,fK] at hq;exact ⟨hq.1,(Int.natAbs_natCast q.den).symm ▸ hq.2⟩
 obtain ⟨hl1,hl2⟩:=hl;have hd:=q.den_pos;have hr:=q.reduced;have HC:=zh (kP (s:=⟨(Lib.itoa q.num).toArray⟩) (fT hl1));have HD:=zh (kP (s:=⟨(Lib.itoa (q.den:Int)).toArray⟩) (fT hl2));have Za:=zh hl1;have HL2:=zh hl2;have HR:=zh hr;have S1:=zh hs.1;have S2:=zh hs.2;obtain ⟨d,Ed⟩:∃ y:Int,Hid ((q.den:Int)=y):=⟨_,zh rfl⟩;have hdn:d.natAbs=q.den:=by rw [← Ed.out,Int.natAbs_natCast]
 have hd1:0<d:=by rw [← Ed.out];omega
 have hsg:vE d=1:=by unfold vE;rw [if_neg zo,if_neg zo]
 have hdf:decide (d<0)=false:=by simp;omega
 have HDN:=zh hdn;have R5:=zh hsg;have HDF:=zh hdf;have HR1:Hid (q.num.natAbs.gcd d.natAbs=1):=by unfold Hid;rw [hdn];exact hr
 rw [Ed.out] at HL2 HD ⊢;clear hq hs hl1 hl2 hr hd hdn hd1 hsg hdf;go_enter Tryz.func141,Tryz.ntmps141
 go_wp2_with fail
 refine (HC.out _).mono ?_;rintro e v1 ⟨rfl,hc1⟩;have BR:=aA.later (aA.pV _ _ _ _) hc1;have dV:=BR.cell;have dU:=BR.free;have B0:=aA.later (aA.alloc (aA.new _ _ _) _) hc1;have cB0:=B0.cell;have kM:=B0.free;go_wp2_with fail
 refine (HD.out _).mono ?_;rintro e v2 ⟨rfl,hc2⟩;replace BR:=aA.later (BR) hc2;replace dV:=BR.cell;replace dU:=BR.free;replace B0:=aA.later (B0) hc2;replace cB0:=B0.cell;replace kM:=B0.free;go_wp2_with fail
 refine aJ [(.pure,0),(.read,1),(.pure,3),(.read,4),(.ext,2),(.ext,5),(.alloc #[ah none 0 0,ak false] 106,6),(.alloc #[ah none 0 0,ak false] 106,7),(.fin,8),(.fin,9)] zk zk zR zP ?_;refine zV ?_;refine aS rfl rfl (fun w3 hb3 J hJ=>?_);go_simp;replace BR:=aA.later (aA.drew BR) hb3;replace dV:=BR.cell;replace dU:=BR.free;replace B0:=aA.later (aA.drew B0) hb3;replace cB0:=B0.cell;replace kM:=B0.free;refine (jU q.num Za.out _).mono ?_;rintro e v3 ⟨v,rfl,hc3,hv⟩;obtain ⟨WL,lHN,XQ,rfl,HN⟩:=hv;replace HN:=zh HN;replace BR:=aA.later (BR) hc3;replace dV:=BR.cell;replace dU:=BR.free;replace B0:=aA.later (B0) hc3;replace cB0:=B0.cell;replace kM:=B0.free;refine hJ _ _ hc3 ?_;clear hJ J;refine aS rfl rfl (fun w4 hb4 J hJ=>?_);go_simp;replace BR:=aA.later (BR) hb4;replace dV:=BR.cell;replace dU:=BR.free
 replace B0:=aA.later (B0) hb4;replace cB0:=B0.cell;replace kM:=B0.free;refine (jU d HL2.out _).mono ?_;rintro e v4 ⟨v,rfl,hc4,hv⟩;obtain ⟨WM,lHM,XR,rfl,HM⟩:=hv;replace HM:=zh HM;replace BR:=aA.later (BR) hc4;replace dV:=BR.cell;replace dU:=BR.free;replace B0:=aA.later (B0) hc4;replace cB0:=B0.cell;replace kM:=B0.free;refine hJ _ _ hc4 ?_;clear hJ J;refine eX rfl (fun b1 w5 hw5 MH Un ac4 fA=>?_);go_simp;replace fA:aA _ _ _ _:=fA;have ac3:w.heap.size≤b1:=(by first|omega|exact ay (Below.size (B:=w.heap.size) aF) MH);replace BR:=aA.later (BR) hw5;replace dV:=BR.cell;replace dU:=BR.free;refine eX rfl (fun b2 w6 YL Uv YO Uw jo=>?_);go_simp;replace jo:aA _ _ _ _:=jo;have aq7:w.heap.size≤b2:=(by first|omega|exact ay (Below.size (B:=w.heap.size) aF) Uv)
 replace BR:=aA.later (BR) YL;replace dV:=BR.cell;replace dU:=BR.free;replace fA:=aA.later (fA) YL;replace pO:=fA.cell;replace pJ:=fA.free;refine dA [_,_] rfl (fun w7 jP=>?_);replace BR:=aA.later (BR) jP;replace dV:=BR.cell;replace dU:=BR.free;replace fA:=aA.later (fA) jP;replace pO:=fA.cell;replace pJ:=fA.free;replace jo:=aA.later (jo) jP;replace Dh:=jo.cell;replace CX:=jo.free;have n1:b1≠b2:=fun e=>Uw (by simp [e]);have n2:b2≠b1:=fun e=>n1 e.symm;have n3:=BR.ne fA zd;have n4:=BR.ne jo zd;go_wp2_with fail
 refine ((xC _ d _ (fD.gG aW)).mono (by rw [R5.out];exact fun _ _ h=>h)).mono ?_;rintro e v5 ⟨rfl,oH⟩;replace HN:=zh (bW.carry HN.out aW oH);replace HM:=zh (bW.carry HM.out aW oH);replace fA:aA _ (b1) _ _:=aA.later bf oH;(try simp only [List.setIfInBounds_toArray,aM,aN] at fA);replace pO:=fA.cell;replace pJ:=fA.free;replace jo:aA _ (b2) _ _:=aA.later bf oH;(try simp only [List.setIfInBounds_toArray,aM,aN] at jo);replace Dh:=jo.cell;replace CX:=jo.free;replace BR:aA _ (w.heap.size+1) _ _:=aA.later bf oH;(try simp only [List.setIfInBounds_toArray,aM,aN] at BR);replace dV:=BR.cell;replace dU:=BR.free;go_wp2_with fail
 refine ((wJ _ _ q.num.natAbs d.natAbs _ aW aW (ay S1.out zo) (by rw [HDN.out];exact ay S2.out zo)).mono (by rw [HR1.out];exact fun _ _ h=>h)).mono ?_;rintro e v6 ⟨v,rfl,hc6,hv⟩;obtain ⟨aw3,lHG,aC1,rfl⟩:=hv.slice;have HG:=zh hv;clear hv;replace HN:=zh (bW.later HN.out hc6);replace HM:=zh (bW.later HM.out hc6);replace fA:=aA.later (fA) hc6;replace pO:=fA.cell;replace pJ:=fA.free;replace jo:=aA.later (jo) hc6;replace Dh:=jo.cell;replace CX:=jo.free;replace BR:=aA.later (BR) hc6;replace dV:=BR.cell;replace dU:=BR.free;go_wp2_with fail
 refine ((jM _ _ 1 1 _ aW (bW.lit zo zo)).mono (by rw [rQ];exact fun _ _ h=>h)).mono ?_;rintro e v7 ⟨rfl,G5⟩;replace HN:=zh (bW.carry HN.out aW G5);replace HM:=zh (bW.carry HM.out aW G5);replace fA:aA _ (b1) _ _:=aA.later bf G5;(try simp only [List.setIfInBounds_toArray,aM,aN] at fA);replace pO:=fA.cell;replace pJ:=fA.free;replace jo:aA _ (b2) _ _:=aA.later bf G5;(try simp only [List.setIfInBounds_toArray,aM,aN] at jo);replace Dh:=jo.cell;replace CX:=jo.free;replace BR:aA _ (w.heap.size+1) _ _:=aA.later bf G5;(try simp only [List.setIfInBounds_toArray,aM,aN] at BR);replace dV:=BR.cell;replace dU:=BR.free;go_wp2_with fail
 refine bH rfl rfl bf Tryz.underlying108 rfl zk ?_;refine ⟨_,rfl,aF,gJ.mk q.num.natAbs d.natAbs aW aW rfl HDN.out rfl⟩
theorem DR (n d:Int) (hl1:(Lib.decDigits n.natAbs).length≤600) (hl2:(Lib.decDigits d.natAbs).length≤600) (hd:d≤0) (w:World) :
  Calls Tryz.prog 141 #[au #[O ⟨(Lib.itoa n).toArray⟩,O ⟨(Lib.itoa d).toArray⟩]] w (ru w):=by
 have HC:=zh (kP (s:=⟨(Lib.itoa n).toArray⟩) (fT hl1));have HD:=zh (kP (s:=⟨(Lib.itoa d).toArray⟩) (fT hl2));have Za:=zh hl1;have HL2:=zh hl2
 have hs:vE d=0∨vE d= -1:=by
  unfold vE
  by_cases h:d=0
  ·rw [if_pos h];exact .inl rfl
  ·rw [if_neg h,if_pos zo];exact .inr rfl
 clear hl1 hl2 hd
 rcases hs with hs|hs
 all_goals
  have R5:=zh hs;clear hs;go_enter Tryz.func141,Tryz.ntmps141
  go_wp2_with fail
  refine (HC.out _).mono ?_;rintro e v1 ⟨rfl,hc1⟩;have BR:=aA.later (aA.pV _ _ _ _) hc1;have dV:=BR.cell;have dU:=BR.free;have B0:=aA.later (aA.alloc (aA.new _ _ _) _) hc1;have cB0:=B0.cell;have kM:=B0.free;go_wp2_with fail
  refine (HD.out _).mono ?_;rintro e v2 ⟨rfl,hc2⟩;replace BR:=aA.later (BR) hc2;replace dV:=BR.cell;replace dU:=BR.free;replace B0:=aA.later (B0) hc2;replace cB0:=B0.cell;replace kM:=B0.free;go_wp2_with fail
  refine aJ [(.pure,0),(.read,1),(.pure,3),(.read,4),(.ext,2),(.ext,5),(.alloc #[ah none 0 0,ak false] 106,6),(.alloc #[ah none 0 0,ak false] 106,7),(.fin,8),(.fin,9)] zk zk zR zP ?_;refine zV ?_;refine aS rfl rfl (fun w3 hb3 J hJ=>?_);go_simp;replace BR:=aA.later (aA.drew BR) hb3;replace dV:=BR.cell;replace dU:=BR.free;replace B0:=aA.later (aA.drew B0) hb3;replace cB0:=B0.cell;replace kM:=B0.free;refine (jU n Za.out _).mono ?_;rintro e v3 ⟨v,rfl,hc3,hv⟩;obtain ⟨WL,lHN,XQ,rfl,HN⟩:=hv;replace HN:=zh HN;replace BR:=aA.later (BR) hc3;replace dV:=BR.cell;replace dU:=BR.free;replace B0:=aA.later (B0) hc3;replace cB0:=B0.cell;replace kM:=B0.free;refine hJ _ _ hc3 ?_;clear hJ J;refine aS rfl rfl (fun w4 hb4 J hJ=>?_);go_simp;replace BR:=aA.later (BR) hb4;replace dV:=BR.cell;replace dU:=BR.free
  replace B0:=aA.later (B0) hb4;replace cB0:=B0.cell;replace kM:=B0.free;refine (jU d HL2.out _).mono ?_;rintro e v4 ⟨v,rfl,hc4,hv⟩;obtain ⟨WM,lHM,XR,rfl,HM⟩:=hv;replace HM:=zh HM;replace BR:=aA.later (BR) hc4;replace dV:=BR.cell;replace dU:=BR.free;replace B0:=aA.later (B0) hc4;replace cB0:=B0.cell;replace kM:=B0.free;refine hJ _ _ hc4 ?_;clear hJ J;refine eX rfl (fun b1 w5 hw5 MH Un ac4 fA=>?_);go_simp;replace fA:aA _ _ _ _:=fA;have ac3:w.heap.size≤b1:=(by first|omega|exact ay (Below.size (B:=w.heap.size) aF) MH);replace BR:=aA.later (BR) hw5;replace dV:=BR.cell;replace dU:=BR.free;refine eX rfl (fun b2 w6 YL Uv YO Uw jo=>?_);go_simp;replace jo:aA _ _ _ _:=jo;have aq7:w.heap.size≤b2:=(by first|omega|exact ay (Below.size (B:=w.heap.size) aF) Uv)
  replace BR:=aA.later (BR) YL;replace dV:=BR.cell;replace dU:=BR.free;replace fA:=aA.later (fA) YL;replace pO:=fA.cell;replace pJ:=fA.free;refine dA [_,_] rfl (fun w7 jP=>?_);replace BR:=aA.later (BR) jP;replace dV:=BR.cell;replace dU:=BR.free;replace fA:=aA.later (fA) jP;replace pO:=fA.cell;replace pJ:=fA.free;replace jo:=aA.later (jo) jP;replace Dh:=jo.cell;replace CX:=jo.free;have n1:b1≠b2:=fun e=>Uw (by simp [e]);have n2:b2≠b1:=fun e=>n1 e.symm;have n3:=BR.ne fA zd;have n4:=BR.ne jo zd;go_wp2_with fail
  refine ((xC _ d _ (fD.gG aW)).mono (by rw [R5.out];exact fun _ _ h=>h)).mono ?_;rintro e v5 ⟨rfl,oH⟩;replace BR:aA _ (w.heap.size+1) _ _:=aA.later bf oH;(try simp only [List.setIfInBounds_toArray,aM,aN] at BR);replace dV:=BR.cell;replace dU:=BR.free;go_wp2_with fail
  refine bH rfl rfl bf Tryz.underlying108 rfl zk ?_;exact ⟨rfl,aF⟩
theorem Lm {g:Nat} (h:g≠1):vZ g 1= -1∨vZ g 1=1:=by
 unfold vZ
 by_cases h2:g<1
 ·rw [if_pos h2];exact .inl rfl
 ·rw [if_neg h2,if_pos zo];exact .inr rfl
theorem Gt (n d:Int) (hl1:(Lib.decDigits n.natAbs).length≤600) (hl2:(Lib.decDigits d.natAbs).length≤600) (hd:0<d) (hg:n.natAbs.gcd d.natAbs≠1) (w:World) :
  Calls Tryz.prog 141 #[au #[O ⟨(Lib.itoa n).toArray⟩,O ⟨(Lib.itoa d).toArray⟩]] w (ru w):=by
 have HC:=zh (kP (s:=⟨(Lib.itoa n).toArray⟩) (fT hl1));have HD:=zh (kP (s:=⟨(Lib.itoa d).toArray⟩) (fT hl2));have Za:=zh hl1;have HL2:=zh hl2;have S1:=zh (kH (fK.2 hl1));have S2:=zh (kH (fK.2 hl2));have hsg:vE d=1:=by unfold vE;rw [if_neg zo,if_neg zo]
 have hdf:decide (d<0)=false:=by simp;omega
 have R5:=zh hsg;have hs:=Lm hg;obtain ⟨g,Eg⟩:∃ y:Nat,Hid (n.natAbs.gcd d.natAbs=y):=⟨_,zh rfl⟩;rw [Eg.out] at hs;clear hl1 hl2 hd hg hsg hdf
 rcases hs with hs|hs
 all_goals
  have HS:=zh hs;clear hs;go_enter Tryz.func141,Tryz.ntmps141
  go_wp2_with fail
  refine (HC.out _).mono ?_;rintro e v1 ⟨rfl,hc1⟩;have BR:=aA.later (aA.pV _ _ _ _) hc1;have dV:=BR.cell;have dU:=BR.free;have B0:=aA.later (aA.alloc (aA.new _ _ _) _) hc1;have cB0:=B0.cell;have kM:=B0.free;go_wp2_with fail
  refine (HD.out _).mono ?_;rintro e v2 ⟨rfl,hc2⟩;replace BR:=aA.later (BR) hc2;replace dV:=BR.cell;replace dU:=BR.free;replace B0:=aA.later (B0) hc2;replace cB0:=B0.cell;replace kM:=B0.free;go_wp2_with fail
  refine aJ [(.pure,0),(.read,1),(.pure,3),(.read,4),(.ext,2),(.ext,5),(.alloc #[ah none 0 0,ak false] 106,6),(.alloc #[ah none 0 0,ak false] 106,7),(.fin,8),(.fin,9)] zk zk zR zP ?_;refine zV ?_;refine aS rfl rfl (fun w3 hb3 J hJ=>?_);go_simp;replace BR:=aA.later (aA.drew BR) hb3;replace dV:=BR.cell;replace dU:=BR.free;replace B0:=aA.later (aA.drew B0) hb3;replace cB0:=B0.cell;replace kM:=B0.free;refine (jU n Za.out _).mono ?_;rintro e v3 ⟨v,rfl,hc3,hv⟩;obtain ⟨WL,lHN,XQ,rfl,HN⟩:=hv;replace HN:=zh HN;replace BR:=aA.later (BR) hc3;replace dV:=BR.cell;replace dU:=BR.free;replace B0:=aA.later (B0) hc3;replace cB0:=B0.cell;replace kM:=B0.free;refine hJ _ _ hc3 ?_;clear hJ J;refine aS rfl rfl (fun w4 hb4 J hJ=>?_);go_simp;replace BR:=aA.later (BR) hb4;replace dV:=BR.cell;replace dU:=BR.free
  replace B0:=aA.later (B0) hb4;replace cB0:=B0.cell;replace kM:=B0.free;refine (jU d HL2.out _).mono ?_;rintro e v4 ⟨v,rfl,hc4,hv⟩;obtain ⟨WM,lHM,XR,rfl,HM⟩:=hv;replace HM:=zh HM;replace BR:=aA.later (BR) hc4;replace dV:=BR.cell;replace dU:=BR.free;replace B0:=aA.later (B0) hc4;replace cB0:=B0.cell;replace kM:=B0.free;refine hJ _ _ hc4 ?_;clear hJ J;refine eX rfl (fun b1 w5 hw5 MH Un ac4 fA=>?_);go_simp;replace fA:aA _ _ _ _:=fA;have ac3:w.heap.size≤b1:=(by first|omega|exact ay (Below.size (B:=w.heap.size) aF) MH);replace BR:=aA.later (BR) hw5;replace dV:=BR.cell;replace dU:=BR.free;refine eX rfl (fun b2 w6 YL Uv YO Uw jo=>?_);go_simp;replace jo:aA _ _ _ _:=jo;have aq7:w.heap.size≤b2:=(by first|omega|exact ay (Below.size (B:=w.heap.size) aF) Uv)
  replace BR:=aA.later (BR) YL;replace dV:=BR.cell;replace dU:=BR.free;replace fA:=aA.later (fA) YL;replace pO:=fA.cell;replace pJ:=fA.free;refine dA [_,_] rfl (fun w7 jP=>?_);replace BR:=aA.later (BR) jP;replace dV:=BR.cell;replace dU:=BR.free;replace fA:=aA.later (fA) jP;replace pO:=fA.cell;replace pJ:=fA.free;replace jo:=aA.later (jo) jP;replace Dh:=jo.cell;replace CX:=jo.free;have n1:b1≠b2:=fun e=>Uw (by simp [e]);have n2:b2≠b1:=fun e=>n1 e.symm;have n3:=BR.ne fA zd;have n4:=BR.ne jo zd;go_wp2_with fail
  refine ((xC _ d _ (fD.gG aW)).mono (by rw [R5.out];exact fun _ _ h=>h)).mono ?_;rintro e v5 ⟨rfl,oH⟩;replace HN:=zh (bW.carry HN.out aW oH);replace HM:=zh (bW.carry HM.out aW oH);replace fA:aA _ (b1) _ _:=aA.later bf oH;(try simp only [List.setIfInBounds_toArray,aM,aN] at fA);replace pO:=fA.cell;replace pJ:=fA.free;replace jo:aA _ (b2) _ _:=aA.later bf oH;(try simp only [List.setIfInBounds_toArray,aM,aN] at jo);replace Dh:=jo.cell;replace CX:=jo.free;replace BR:aA _ (w.heap.size+1) _ _:=aA.later bf oH;(try simp only [List.setIfInBounds_toArray,aM,aN] at BR);replace dV:=BR.cell;replace dU:=BR.free;go_wp2_with fail
  refine ((wJ _ _ n.natAbs d.natAbs _ aW aW (ay S1.out zo) (ay S2.out zo)).mono (by rw [Eg.out];exact fun _ _ h=>h)).mono ?_;rintro e v6 ⟨v,rfl,hc6,hv⟩;obtain ⟨aw3,lHG,aC1,rfl⟩:=hv.slice;have HG:=zh hv;clear hv;replace HN:=zh (bW.later HN.out hc6);replace HM:=zh (bW.later HM.out hc6);replace fA:=aA.later (fA) hc6;replace pO:=fA.cell;replace pJ:=fA.free;replace jo:=aA.later (jo) hc6;replace Dh:=jo.cell;replace CX:=jo.free;replace BR:=aA.later (BR) hc6;replace dV:=BR.cell;replace dU:=BR.free;go_wp2_with fail
  refine ((jM _ _ g 1 _ aW (bW.lit zo zo)).mono (by rw [HS.out];exact fun _ _ h=>h)).mono ?_;rintro e v7 ⟨rfl,G5⟩;replace BR:aA _ (w.heap.size+1) _ _:=aA.later bf G5;(try simp only [List.setIfInBounds_toArray,aM,aN] at BR);replace dV:=BR.cell;replace dU:=BR.free;go_wp2_with fail
  refine bH rfl rfl bf Tryz.underlying108 rfl zk ?_;exact ⟨rfl,aF⟩
theorem Qe (a:Fr) (h:rd a=none) (w:World):Calls Tryz.prog 141 #[a.v] w (ru w):=by
 obtain ⟨s,t⟩:=a
 show Calls _ _ #[au #[O s,O t]] _ _
 unfold rd at h;simp only at h;cases e1:Dec.whole s.data.toList with
 | none=>exact Lu s t e1 w
 | some n =>
  cases e2:Dec.whole t.data.toList with
  | none=>exact Lv s t n e1 e2 w
  | some d =>
   rw [e1,e2] at h;simp only at h;obtain ⟨h1,h2⟩:=nE e1;obtain ⟨h3,h4⟩:=nE e2;have hs:s=⟨(Lib.itoa n).toArray⟩:=Dk h1;have ht:t=⟨(Lib.itoa d).toArray⟩:=Dk h3;rw [hs,ht]
   by_cases hd:0<d
   ·refine Gt n d h2 h4 hd (fun e=>?_) w;rw [dif_pos ⟨hd,e⟩] at h;cases h
   ·exact DR n d h2 h4 zo w
end Go.Proofs.fu
