/- Lemmas for the proof. No condition. -/
import Derived.Test.YtfhappbmgghgdaaGreatDoorWB01
import Derived.Test.YtfhappbmgghgdaaGreatDoorWB02
import Derived.Test.YtfhappbmgghgdaaGreatDoorWB03
import Derived.Test.YtfhappbmgghgdaaGreatDoorWB05
import Derived.WalkMore
import Derived.Lib.ParseIntBTie
set_option linter.unusedVariables false
set_option linter.unusedSimpArgs false
set_option maxRecDepth 100000
set_option maxHeartbeats 16000000
namespace Go.Proofs.eX
open Go Go.RowKit Go.SW Go.Num Go.Mem Go.Proofs Go.Proofs.oO Go.Dec
theorem _root_.Go.ae3 {G:Prop} (h:G:=by
 have hlen:=iM 9 d zo hd;have H:=zh h;have HT:=zh ht;clear h ht;go_enter ah0,ag9
 go_wp2_with (go_at_call 175;refine (LC d hd _ HT.out).mono ?_;rintro e w1 ⟨rfl,hb1⟩)
 have HL:=zh hlen;generalize hL:(Lib.decDigits d).length=L at *;have HLe:=zh hL;clear hL
 go_loopw [13] (fun jv wr=>∃ i:Nat,jv= .int .i64 (i:Int)∧Hid (i=0∨i+L≤wd)∧Hid (OQ B b (Lib.byteCells (l++List.replicate i 48)) wr)∧Below B w wr) (fun jv _=>wd - (intOf jv).toNat)
 case atStart =>
  exact ⟨0,rfl,zh (.inl rfl),zh (by simpa using H.out.later hb1),hb1.mono hB⟩
 case round =>
  obtain ⟨i,rfl,HI,HB,hbr⟩:=hrel
  have hcells:Lib.byteCells (l++List.replicate i 48)++[.int .u8 48]=Lib.byteCells (l++List.replicate (i+1) 48):=by
   rw [List.replicate_succ',← List.append_assoc,Lib.byteCells_append _ [48]];rfl
  by_cases hlt:i+L<wd
  ·go_wp2_with (go_at_call 177;refine (CY B b _ 48 _ HB.out (by rw [Lib.byteCells_length];simp;omega) (Nat.le_trans hB hbr.size)).mono ?_;rintro e w2 ⟨rfl,h2,hb2⟩;rw [hcells] at h2)
   exact ⟨⟨i+1,by simp,zh (.inr zo),zh (.inr h2),hbr.trans hb2⟩,by simp [intOf];omega⟩
  ·have hi:i=wd - L:=by
    rcases HI.out with h|h
    ·omega
    ·omega
   have hsz:(⟨(Lib.decDigits d).toArray⟩:ByteArray).size=L:=HLe.out;go_wp2_with (go_at_call 106;refine (yF B b _ _ _ HB.out (by rw [Lib.byteCells_length,hsz];simp;omega) (Nat.le_trans hB hbr.size)).mono ?_;rintro e w2 ⟨rfl,h2,hb2⟩)
   go_end0
   refine ⟨rfl,.inr ?_,hbr.trans hb2⟩;rw [HLe.out,← hi,← List.append_assoc,Lib.byteCells_append];exact h2):G:=h
theorem Jq (B b d wd:Nat) (l:List UInt8) (w:World) (h:OQ B b (Lib.byteCells l) w) (hB:B≤w.heap.size) (hw:wd≤9) (hd:d<1000000000) (hl:l.length≤140737488355000) (ht:Pow w) :
  Calls Tryz.prog 238 #[.int .u32 d,.int .i64 wd,.pointer (some ⟨b,0,none⟩)] w fun e w'=>e= .returned (.tuple #[])∧OQ B b (Lib.byteCells (l++(List.replicate (wd - (Lib.decDigits d).length) 48++Lib.decDigits d))) w'∧Below B w w':=ae3
def AZ (w:World) (n:Nat) (e:Ending) (w':World):Prop:=e= .returned (.string ⟨(Lib.decDigits n).toArray⟩)∧Below w.heap.size w w'
theorem _root_.Go.ae2 {G:Prop} (h:G:=by
 have hd:=aR (B:=1000000000) zo a;have htop:=kC (B:=1000000000) zo a;have hva:=aM (B:=1000000000) zo a;unfold sz at ha
 rcases Nat.eq_zero_or_pos a with h0|h0
 ·subst h0;have H:=zh hx;clear hx;go_enter YI,YH
  go_wp2_with ((first|go_at_call 207|go_at_call 78);refine (fQ _ _ _ H.out).mono ?_;rintro e w1 ⟨rfl,rfl⟩)
  go_ret
  exact ⟨by rw [fA zo];rfl,Below.refl _ _⟩
 ·obtain ⟨p,c,rfl,hc1,hc2,hread⟩:=jY.read hx.yw;generalize hl:bg 1000000000 a=l at *;have hne:l≠[]:=fun e=>by rw [e] at hva;simp [val] at hva;omega
  obtain ⟨n,hn⟩:∃ n,l.length=n+1:=⟨l.length - 1,by have:=List.length_pos_iff.mpr hne;omega⟩;have H:=zh hx;have HR:=zh hread;have HV:=zh hva;have HN:=zh hn;have HL:=zh hl;have HT:=zh ht;rw [hn] at ha hc1 ⊢;have ha0:decide (a=0)=false:=by simp;omega
  clear hx hread hva hl ht hn;obtain ⟨b,off,rfl,hb,hcell⟩:=HR.out n (by have:=HN.out;omega);have hpos:∀ i,i≤n→0<val 1000000000 (l.drop i):=fun i hi=>fD zo (yP htop i) (fun e=>by have:=congrArg List.length e;rw [List.length_drop,HN.out] at this;simp at this;omega)
  have hdl:∀ i,(Lib.decDigits (val 1000000000 (l.drop i))).length≤9*(n+1)+1:=fun i=>by
   have h1:=xC (hd.drop i);rw [List.length_drop,HN.out] at h1;omega
  have HP:=zh hpos;have Bc:=zh hdl;clear hpos hdl
  have hd0:val 1000000000 (l.drop n)=l.getD n 0:=by
   rw [gJ (by have:=HN.out;omega),List.drop_eq_nil_of_le (by have:=HN.out;omega)];simp [val]
  have hdb:=hd.getD zo n;generalize hdn:l.getD n 0=dn at *;have HDN:=zh hdn;have HD0:=zh hd0;clear hdn hd0;have R4:Below w.heap.size w (w.alloc (.cells #[.pointer none,.slice none 0 0] 174 (0,0))):=(Below.refl _ _).alloc (Nat.le_refl _) _;have hcw:(w.alloc (.cells #[.pointer none,.slice none 0 0] 174 (0,0))).cell? ⟨b,off+n,none⟩=some (.int .u32 (dn:Nat)):=(R4.cell (by exact hb)).trans hcell;have hb0:OQ w.heap.size w.heap.size (Lib.byteCells []) (w.alloc (.cells #[.pointer none,.slice none 0 0] 174 (0,0))):=Lib.fresh_isBuilder _ _ w;have HB0:=zh hb0;clear hb0;go_enter YI,YH
  go_wp2_with ((first|go_at_call 207|go_at_call 78);refine (fQ _ a _ (by rw [← HN.out];exact H.out)).mono ?_;rintro e w1 ⟨rfl,rfl⟩;rw [ha0])
  refine (Jq _ _ dn 0 [] _ HB0.out zi zo hdb zi (HT.out.later R4)).mono ?_;rintro e w2 ⟨rfl,h2,hb2⟩;rw [Nat.zero_sub,List.replicate_zero,List.nil_append,List.nil_append,← HD0.out] at h2;have H2:=zh h2;have hbw2:Below w.heap.size w w2:=R4.trans hb2;clear h2;go_wp2_with fail
  go_loopw [6] (fun jv wr=>∃ i:Nat,jv= .int .i64 ((i:Int) - 1)∧i≤n∧Hid (OQ w.heap.size w.heap.size (Lib.byteCells (Lib.decDigits (val 1000000000 (l.drop i)))) wr)∧Below w.heap.size w wr) (fun jv _=>(intOf jv+1).toNat)
  case atStart=>exact ⟨n,rfl,Nat.le_refl _,H2,hbw2⟩
  case round =>
   obtain ⟨i,rfl,hi,HB,hbr⟩:=hrel
   rcases Nat.eq_zero_or_pos i with h1|h1
   ·subst h1;rw [List.drop_zero,HV.out] at HB;go_wp2_with fail
    refine (Tryz.Builder_String_any _ _ _ _ HB.out hbr.size).mono ?_;rintro e w3 ⟨rfl,hb3⟩;go_wp2_with fail
    go_ret
    exact ⟨rfl,hbr.trans hb3⟩
   ·obtain ⟨j,rfl⟩:∃ j,i=j+1:=⟨i - 1,by omega⟩;have hj:j<l.length:=by have:=HN.out;omega
    obtain ⟨b',off',e1,hb',hcell'⟩:=HR.out j hj;simp only [Option.some.injEq,Addr.mk.injEq,and_true] at e1;obtain ⟨rfl,rfl⟩:=e1;have hcr:=(hbr.cell (p:=⟨b,off+j,none⟩) (by exact hb)).trans hcell';have hjb:=hd.getD zo j;have HG:=zh (Cw hj hd (HP.out (j+1) hi));generalize hdj:l.getD j 0=dj at *;have HDJ:=zh hdj;clear hdj hcell';go_wp2_with fail
    refine (Jq _ _ dj 9 _ _ HB.out hbr.size zo hjb (by have:=Bc.out (j+1);omega) (HT.out.later hbr)).mono ?_;rintro e w3 ⟨rfl,h3,hb3⟩;rw [← HG.out] at h3;have H3:=zh h3;clear h3;go_wp2_with fail
    refine ⟨⟨j,rfl,by omega,H3,hbr.trans hb3⟩,?_⟩;simp only [intOf];omega):G:=h
theorem oJ (x:Value) (a:Nat) (w:World) (hx:aK w x a) (ha:sz 1000000000 a≤1099511627776) (ht:Pow w) :
  Calls Tryz.prog 202 #[x] w (AZ w a):=ae2
theorem _root_.Go.ae1 {G:Prop} (h:G:=by
 have hd:=aR (B:=1000000000) zo a;have htop:=kC (B:=1000000000) zo a;have hva:=aM (B:=1000000000) zo a;unfold sz at ha
 rcases Nat.eq_zero_or_pos a with h0|h0
 ·subst h0;have H:=zh hx;clear hx;rw [fA zo];go_enter YG,YF
  go_wp2_with ((first|go_at_call 207|go_at_call 78);refine (fQ _ _ _ H.out).mono ?_;rintro e w1 ⟨rfl,rfl⟩)
  go_ret
  exact ⟨rfl,Below.refl _ _⟩
 ·obtain ⟨p,c,rfl,hc1,hc2,hread⟩:=jY.read hx.yw;generalize hl:bg 1000000000 a=l at *;have hne:l≠[]:=fun e=>by rw [e] at hva;simp [val] at hva;omega
  obtain ⟨n,hn⟩:∃ n,l.length=n+1:=⟨l.length - 1,by have:=List.length_pos_iff.mpr hne;omega⟩;have hlt:=Ie hn hd htop;have hdb:=hd.getD zo n;have hl9:=iM 9 _ zo hdb;rw [hva] at hlt;rw [hlt];obtain ⟨b,off,rfl,hb,hcell⟩:=hread n zo;have H:=zh hx;have HN:=zh hn;have HT:=zh ht;rw [hn] at ha hc1 ⊢;have ha0:decide (a=0)=false:=by simp;omega
  generalize hdn:l.getD n 0=dn at *;clear hx hread hva hl ht hn hlt hdn;generalize hL:(Lib.decDigits dn).length=L at *;have HL:Hid ((⟨(Lib.decDigits dn).toArray⟩:ByteArray).size=L):=zh hL;clear hL;go_enter YG,YF
  go_wp2_with (first
   | ((first|go_at_call 207|go_at_call 78);refine (fQ _ a _ (by rw [← HN.out];exact H.out)).mono ?_;rintro e w1 ⟨rfl,rfl⟩;rw [ha0])
   | (go_at_call 175;refine (LC dn hdb _ HT.out).mono ?_;rintro e w1 ⟨rfl,hb1⟩;have hq:=HL.out))
  go_ret
  refine ⟨?_,hb1⟩;have e:(((9*n+L:Nat)):Int)=(n:Int)*9+(L:Int):=by omega
  rw [e];rfl):G:=h
theorem gH (x:Value) (a:Nat) (w:World) (hx:aK w x a) (ha:sz 1000000000 a≤1099511627776) (ht:Pow w) :
  Calls Tryz.prog 201 #[x] w (fun e w'=>e= .returned (.int .i64 ((Lib.decDigits a).length:Nat))∧Below w.heap.size w w'):=ae1
end Go.Proofs.eX
namespace Go.Proofs.eX
open Go Go.RowKit Go.SW Go.Num Go.Mem Go.Proofs Go.Dec
theorem Rt:(Tryz.prog.info? 65).map (fun i=>(i.zero,i.size,i.bytes))=some (some (.int .u32 0),1,4):=by kernel_rfl
theorem rJ (s:ByteArray) (hs:s.size≤1099511627776) (hd:nJ s.data.toList) (w:World) :
  Calls Tryz.prog 240 #[.string s] w (fun e w'=>∃ v,e= .returned v∧Below w.heap.size w w'∧aK w' v (num s.data.toList)):=zs3
end Go.Proofs.eX
namespace Go.Proofs.eX
open Go Go.RowKit Go.SW Go.Num Go.Mem Go.Proofs
theorem _root_.Go.ae0 {G:Prop} (h:G:=by
 obtain ⟨p,c,rfl, -, -, h1⟩:=jY.read h.yw;obtain ⟨p',c',e, -, -, h2⟩:=jY.read k.yw;simp only [Value.slice.injEq] at e;obtain ⟨rfl,hl,rfl⟩:=e
 have:bg 1000000000 m=bg 1000000000 n:=by
  refine List.ext_getElem hl fun i hi hi2=>?_;obtain ⟨b,o,e, -, hc⟩:=h1 i hi;obtain ⟨b',o',e', -, hc'⟩:=h2 i hi2;rw [e] at e';simp only [Option.some.injEq,Addr.mk.injEq,and_true] at e';obtain ⟨rfl,rfl⟩:=e';rw [hc] at hc';simp only [Option.some.injEq,Value.int.injEq,true_and] at hc';rw [List.getD_eq_getElem?_getD,List.getD_eq_getElem?_getD,List.getElem?_eq_getElem hi,List.getElem?_eq_getElem hi2] at hc'
  simpa using Int.ofNat_inj.mp hc'
 rw [← aM (B:=1000000000) zo m,this,aM zo]):G:=h
theorem aK.inj {w:World} {v:Value} {m n:Nat} (h:aK w v m) (k:aK w v n):m=n:=ae0
open Classical in
noncomputable def Ck (w:World) (v:Value):Nat:=if h:∃ n,aK w v n then h.choose else 0
theorem zC {w:World} {v:Value} {n:Nat} (h:aK w v n):Ck w v=n:=by
 unfold Ck;rw [dif_pos ⟨n,h⟩];exact aK.inj (Exists.choose_spec (⟨n,h⟩:∃ n,aK w v n)) h
theorem _root_.Go.ad9 {G:Prop} (h:G:=by
 generalize hG:Nat.gcd a b=G;have HG:=zh hG;have HX:=zh hx;have HY:=zh hy;clear hx hy hG;go_enter ag8,ag7
 go_wp2_with fail
 go_loopw [0,1] (fun vx vy wr=>∃ a b:Nat,Hid (aK wr vx a)∧Hid (aK wr vy b)∧Hid (Nat.gcd a b=G)∧Hid (sz 1000000000 a≤549755813888)∧Hid (sz 1000000000 b≤549755813888)∧Below w.heap.size w wr) (fun _ vy wr=>Ck wr vy)
 case atStart=>exact ⟨a,b,HX,HY,HG,zh ha,zh hb,Below.refl _ _⟩
 case round =>
  obtain ⟨a,b,HX,HY,HG,HA,HB,hbr⟩:=hrel;obtain ⟨p,c,rfl,hc1,hc2,hread⟩:=jY.read HX.out.yw;obtain ⟨p',c',rfl,hc1',hc2',wF⟩:=jY.read HY.out.yw;clear hread wF
  have Xe:=zh (show ((bg 1000000000 a).length:Int)≤2→a≤18446744073709551615 from fun h=>by
   have h1:=fO (B:=1000000000) zo a;have h2:(1000000000:Nat)^sz 1000000000 a≤1000000000^2:=Nat.pow_le_pow_right zo (by unfold sz;omega);omega)
  have HLB:=zh (show ((bg 1000000000 b).length:Int)≤2→b≤18446744073709551615 from fun h=>by
   have h1:=fO (B:=1000000000) zo b;have h2:(1000000000:Nat)^sz 1000000000 b≤1000000000^2:=Nat.pow_le_pow_right zo (by unfold sz;omega);omega)
  rcases Nat.eq_zero_or_pos b with h0|h0
  ·subst h0;rw [Nat.gcd_zero_right] at HG;go_wp2_with ((first|go_at_call 207|go_at_call 78);refine (fQ _ 0 _ HY.out).mono ?_;rintro e w1 ⟨rfl,rfl⟩)
   go_ret
   exact ⟨_,rfl,hbr,by rw [← HG.out];exact HX.out⟩
  ·have hb0:decide (b=0)=false:=by simp;omega
   go_wp2_with ((first|go_at_call 207|go_at_call 78);refine (fQ _ b _ HY.out).mono ?_;rintro e w1 ⟨rfl,rfl⟩;rw [hb0])
   ·refine (yU _ a _ HX.out (Xe.out (by assumption))).mono ?_;rintro e w' ⟨rfl,rfl⟩;go_wp2_with fail
    refine (yU _ b _ HY.out (HLB.out (by assumption))).mono ?_;rintro e w' ⟨rfl,rfl⟩;have hla:=Xe.out (by assumption);have hlb:=HLB.out (by assumption);go_wp2_with fail
    go_loopw [5,6] (fun v5 v6 wi=>∃ c d:Nat,v5= .int .u64 (c:Int)∧v6= .int .u64 (d:Int)∧c≤18446744073709551615∧d≤18446744073709551615∧Hid (Nat.gcd c d=G)∧Below w.heap.size w wi) (fun _ v6 _=>(intOf v6).toNat)
    case atStart=>exact ⟨a,b,rfl,rfl,hla,hlb,HG,hbr⟩
    case round =>
     obtain ⟨c,d,rfl,rfl,hc,hd,HG2,hbi⟩:=hrel
     rcases Nat.eq_zero_or_pos d with h1|h1
     ·subst h1;rw [Nat.gcd_zero_right] at HG2;go_wp2_with fail
      refine (lg c _ hc).mono ?_;rintro e w3 ⟨v3,rfl,hb3,hv3⟩;have HV3:=zh hv3;clear hv3;go_wp2_with fail
      go_ret
      exact ⟨_,rfl,Bt hbi hb3,by rw [← HG2.out];exact HV3.out⟩
     ·have hcd:((c%d:Nat):Int)=(c:Int)%(d:Int):=Int.natCast_emod _ _;have hlt:c%d<d:=Nat.mod_lt _ h1;go_wp2_with fail
      go_quiet (fail)
      go_wp2_with fail
      refine ⟨⟨d,c%d,rfl,by rw [hcd],hd,by omega,zh ?_,below_drewN hbi _⟩,?_⟩
      ·rw [← HG2.out,Nat.gcd_comm d,← Nat.gcd_rec,Nat.gcd_comm]
      ·rw [← hcd];simp only [intOf];omega
   all_goals
    refine (dR _ _ a b _ HX.out HY.out h0 HA.out).mono ?_;rintro e w2 ⟨vq,vr,rfl,hb2,hq,hr⟩;have HR:=zh hr;clear hq hr;go_wp2_with fail
    refine ⟨⟨b,a%b,zh (HY.out.later hb2),HR,zh ?_,HB,zh (Nat.le_trans (dM zo (Nat.mod_le _ _)) HA.out),Bt hbr hb2⟩,?_⟩
    ·rw [← HG.out,Nat.gcd_comm b,← Nat.gcd_rec,Nat.gcd_comm]
    ·rw [zC HR.out,zC HY.out];exact Nat.mod_lt _ h0):G:=h
theorem qP (x y:Value) (a b:Nat) (w:World) (hx:aK w x a) (hy:aK w y b) (ha:sz 1000000000 a≤549755813888) (hb:sz 1000000000 b≤549755813888) :
  Calls Tryz.prog 153 #[x,y] w (fun e w'=>∃ v,e= .returned v∧Below w.heap.size w w'∧aK w' v (Nat.gcd a b)):=ad9
end Go.Proofs.eX
namespace Go.Proofs.eX
open Go Go.RowKit Go.SW Go.Num Go.Mem Go.Proofs Go.Dec
theorem _root_.Go.ad8 {G:Prop} (h:G:=by
 obtain ⟨IW,lH,I5,rfl⟩:=h.slice;have H:=zh h;clear h;cases b
 all_goals
  go_enter ag6,ag5
  go_wp2_with ((first|go_at_call 207|go_at_call 78);refine (fQ _ n _ aI).mono ?_;rintro e w1 ⟨rfl,rfl⟩)
  refine dG rfl rfl aT FY rfl zk ?_;refine ⟨_,rfl,ah,aS.mk aI (fF n _).symm ?_⟩;rw [← Ld];rfl):G:=h
theorem dx (m:Value) (n:Nat) (b:Bool) (w:World) (h:aK w m n) :
  Calls Tryz.prog 155 #[m,.bool b] w (fun e w'=>∃ v,e= .returned v∧Below w.heap.size w w'∧aS w' v (gB n b)):=ad8
theorem _root_.Go.ad7 {G:Prop} (h:G:=by
 have HC:=zh (whole.uX ⟨(Lib.itoa z).toArray⟩);have e1:(⟨(Lib.itoa z).toArray⟩:ByteArray).data.toList=Lib.itoa z:=rfl;rw [e1,SG] at HC;have HG:=zh (fun w=>rJ ⟨(Lib.decDigits z.natAbs).toArray⟩ (Nat.le_trans hz zo) (kI _) w);have e2:(⟨(Lib.decDigits z.natAbs).toArray⟩:ByteArray).data.toList=Lib.decDigits z.natAbs:=rfl;rw [e2,kX] at HG;clear hz;unfold mW;go_enter ag4,ag3
 go_wp2_with (first
  | (go_at_call 182;refine (HC.out _).mono ?_;rintro e w1 ⟨rfl,rfl⟩)
  | ((first|go_at_call 240|go_at_call 183);refine (HG.out _).mono ?_;rintro e w2 ⟨v,rfl,hb2,hv⟩;obtain ⟨DC,Vx,Eu,rfl⟩:=hv.slice;have HV:=zh hv;clear hv;have BR:=au.later (au.new _ _ _) hb2;have bK:=BR.cell;have bL:=BR.free))
 refine dG rfl rfl aT FY rfl zk ?_;exact ⟨_,rfl,ah,aS.aO aI⟩):G:=h
theorem d9 (z:Int) (hz:(Lib.decDigits z.natAbs).length≤600) (w:World) :
  Calls Tryz.prog 204 #[mW z] w (fun e w'=>∃ v,e= .returned v∧Below w.heap.size w w'∧aS w' v z):=ad7
theorem _root_.Go.ad6 {G:Prop} (h:G:=by
 obtain ⟨IW,lH,I5,rfl,H⟩:=h;replace H:=zh H;go_enter ag2,ag1
 go_wp2_with ((first|go_at_call 155|go_at_call 66);refine (dx _ _ _ _ aI).mono ?_;rintro e w1 ⟨v,rfl,hb1,hv⟩;obtain ⟨aI8,lH1,aN8,rfl,H1⟩:=hv;replace H1:=zh H1;have BR:=au.later (au.oN _ _ _ _) hb1;have bK:=BR.cell;have bL:=BR.free)
 refine dG rfl rfl aT FY rfl zk ?_;exact ⟨_,rfl,ah,(aS.aO aI).cast (Lc z)⟩):G:=h
theorem nP (v:Value) (z:Int) (w:World) (h:aS w v z) :
  Calls Tryz.prog 214 #[v] w (fun e w'=>∃ v,e= .returned v∧Below w.heap.size w w'∧aS w' v (-z)):=ad6
theorem _root_.Go.ad5 {G:Prop} (h:G:=by
 obtain ⟨IW,lH,I5,rfl,H⟩:=h;replace H:=zh H;obtain ⟨aI2,lHU,aN2,rfl⟩:=hu.slice;have HU:=zh hu;clear hu;have HN:=zh hn;have HZ:=zh hz;clear hn hz;go_enter ag0,af9
 go_wp2_with fail
 refine aD [(.pure,0),(.read,1),(.pure,2),(.pure,4),(.read,5),(.ext,3),(.ext,6),(.fin,7)] zk zk zR zP ?_;refine zV ?_;refine aG rfl rfl (fun w1 hb1 J hJ=>?_);go_simp;have BR:=au.later (au.drew (au.oN _ _ _ _)) hb1;have bK:=BR.cell;have bL:=BR.free;refine (iD _ _ _ _ _ aI aI (Nat.le_trans HZ.out zo) (Nat.le_trans HN.out zo)).mono ?_;rintro e w2 ⟨v,rfl,hb2,hv⟩;obtain ⟨DC,Vx,Eu,rfl⟩:=hv.slice;have HV:=zh hv;clear hv;replace BR:=au.later (BR) hb2;replace bK:=BR.cell;replace bL:=BR.free;refine hJ _ _ hb2 ?_;clear hJ J;refine aG rfl rfl (fun w3 hb3 J hJ=>?_);go_simp;replace BR:=au.later (BR) hb3;replace bK:=BR.cell;replace bL:=BR.free;refine (dx _ (z.natAbs*n) _ _ aI).mono ?_;rintro e w4 ⟨v,rfl,hb4,hv⟩;obtain ⟨aI7,lH4,aN7,rfl,H4⟩:=hv;replace H4:=zh H4;replace BR:=au.later (BR) hb4;replace bK:=BR.cell;replace bL:=BR.free
 refine hJ _ _ hb4 ?_;clear hJ J;refine aL [_] rfl (fun w5 hb5=>?_);replace BR:=au.later (BR) hb5;replace bK:=BR.cell;replace bL:=BR.free;go_wp2_with fail
 refine dG rfl rfl aT FY rfl zk ?_;exact ⟨_,rfl,ah,(aS.aO aI).cast (U3 z n)⟩):G:=h
theorem mo (v u:Value) (z:Int) (n:Nat) (w:World) (h:aS w v z) (hu:aK w u n) (hz:sz 1000000000 z.natAbs≤549755813888) (hn:sz 1000000000 n≤549755813888) :
  Calls Tryz.prog 212 #[v,u] w (fun e w'=>∃ v,e= .returned v∧Below w.heap.size w w'∧aS w' v (z*n)):=ad5
theorem _root_.Go.ad4 {G:Prop} (h:G:=by
 have H:=zh h;have H2:=zh h2;have KZ:=zh kz;have KY:=zh ky;have HE:=zh (Le hz hy);clear h h2 kz ky hz hy;cases b
 all_goals
  go_enter Uy,Ux
  go_wp2_with fail
  refine aD [(.pure,0),(.read,1),(.pure,2),(.read,3),(.pure,5),(.read,6),(.ext,4),(.ext,7),(.fin,8)] zk zk zR zP ?_;refine zV ?_;refine aG rfl rfl (fun w1 hb1 J hJ=>?_);go_simp;have BR:=au.later (au.drew (au.at2 _ _ _ _ _)) hb1;have bK:=BR.cell;have bL:=BR.free;refine (Dz _ _ z.natAbs y.natAbs _ aI aI (Nat.le_trans KZ.out zo) (Nat.le_trans KY.out zo)).mono ?_;rintro e v1 ⟨v,rfl,hc1,hv⟩;obtain ⟨al9,lHS,as9,rfl⟩:=hv.slice;have HS:=zh hv;clear hv;replace BR:=au.later (BR) hc1;replace bK:=BR.cell;replace bL:=BR.free;refine hJ _ _ hc1 ?_;clear hJ J;refine aG rfl rfl (fun w2 hb2 J hJ=>?_);go_simp;replace BR:=au.later (BR) hb2;replace bK:=BR.cell;replace bL:=BR.free;refine (dx _ (z.natAbs+y.natAbs) _ _ aI).mono ?_;rintro e v2 ⟨v,rfl,hc2,hv⟩;obtain ⟨Qu,lHT,Tg,rfl,HT⟩:=hv;replace HT:=zh HT
  replace BR:=au.later (BR) hc2;replace bK:=BR.cell;replace bL:=BR.free;refine hJ _ _ hc2 ?_;clear hJ J;refine aL [_] rfl (fun w5 hb5=>?_);replace BR:=au.later (BR) hb5;replace bK:=BR.cell;replace bL:=BR.free;go_wp2_with fail
  refine dG rfl rfl aT FY rfl zk ?_;exact ⟨_,rfl,ah,(aS.aO aI).cast HE.out⟩):G:=h
theorem Gc (pa pb:Option Addr) (l m ca cb:Nat) (z y:Int) (b:Bool) (w:World) (h:aK w (.slice pa l ca) z.natAbs) (h2:aK w (.slice pb m cb) y.natAbs) (hz:decide (z<0)=b) (hy:decide (y<0)=b) (kz:sz 1000000000 z.natAbs≤549755813888) (ky:sz 1000000000 y.natAbs≤549755813888) :
  Calls Tryz.prog 213 #[.agg #[.slice pa l ca,.bool b],.agg #[.slice pb m cb,.bool b]] w (fun e w'=>∃ v,e= .returned v∧Below w.heap.size w w'∧aS w' v (z+y)):=ad4
theorem _root_.Go.ad3 {G:Prop} (h:G:=by
 have H:=zh h;have H2:=zh h2;have KZ:=zh kz;have KY:=zh ky
 rcases Nat.lt_or_ge z.natAbs y.natAbs with hlt|hge
 ·have HE:Hid (gB (y.natAbs - z.natAbs) (!b)=z+y):=by
   have:=Lb (z:=y) (y:=z) (b:= !b) hy (by rw [hz,Bool.not_not]);rw [if_pos zo] at this;exact this.trans (Int.add_comm _ _)
  have HC:=zh (oZ hlt);have HL:=zh hlt;clear h h2 kz ky hz hy hlt;cases b
  all_goals
   go_enter Uy,Ux
   go_wp2_with fail
   refine ((iN _ _ z.natAbs y.natAbs _ aI aI).mono (by rw [HC.out];exact fun _ _ h=>h)).mono ?_;rintro e v1 ⟨rfl,hc1⟩;have BR:=au.later (au.at2 _ _ _ _ _) hc1;have bK:=BR.cell;have bL:=BR.free;have B1:=au.later (au.alloc (au.oN _ _ _ _) _) hc1;have cB1:=B1.cell;have FQ:=B1.free;have B0:=au.later (au.alloc (au.alloc (au.new _ _ _) _) _) hc1;have cB0:=B0.cell;have jc:=B0.free;go_wp2_with fail
   refine aD [(.pure,0),(.read,1),(.pure,2),(.read,3),(.pure,5),(.read,6),(.ext,4),(.ext,7),(.fin,8)] zk zk zR zP ?_;refine zV ?_;refine aG rfl rfl (fun w2 hb2 J hJ=>?_);go_simp;replace BR:=au.later (au.drew BR) hb2;replace bK:=BR.cell;replace bL:=BR.free;refine (zB _ _ y.natAbs z.natAbs _ aI aI (Nat.le_trans KY.out zo) (Nat.le_of_lt HL.out)).mono ?_;rintro e v2 ⟨v,rfl,hc2,hv⟩;obtain ⟨Nw,lHD,Oy,rfl⟩:=hv.slice;have HD:=zh hv;clear hv;replace BR:=au.later (BR) hc2;replace bK:=BR.cell;replace bL:=BR.free;refine hJ _ _ hc2 ?_;clear hJ J;refine aG rfl rfl (fun w3 hb3 J hJ=>?_);go_simp;replace BR:=au.later (BR) hb3;replace bK:=BR.cell;replace bL:=BR.free;refine (dx _ (y.natAbs - z.natAbs) _ _ aI).mono ?_;rintro e v3 ⟨v,rfl,hc3,hv⟩;obtain ⟨Qu,lHT,Tg,rfl,HT⟩:=hv;replace HT:=zh HT
   replace BR:=au.later (BR) hc3;replace bK:=BR.cell;replace bL:=BR.free;refine hJ _ _ hc3 ?_;clear hJ J;refine aL [_] rfl (fun w5 hb5=>?_);replace BR:=au.later (BR) hb5;replace bK:=BR.cell;replace bL:=BR.free;go_wp2_with fail
   refine dG rfl rfl aT FY rfl zk ?_;exact ⟨_,rfl,ah,(aS.aO aI).cast HE.out⟩
 ·have HE:Hid (gB (z.natAbs - y.natAbs) b=z+y):=by
   have:=Lb (z:=z) (y:=y) (b:=b) hz hy;rw [if_pos zo] at this;exact this
  have hs:tY z.natAbs y.natAbs=0∨tY z.natAbs y.natAbs=1:=by
   rcases Nat.lt_or_ge y.natAbs z.natAbs with h2|h2
   ·exact .inr (nZ h2)
   ·have:z.natAbs=y.natAbs:=by omega
    rw [this];exact .inl (qm _)
  have HL:=zh hge;clear h h2 kz ky hz hy hge
  rcases hs with hs|hs<;>cases b
  all_goals
   have HC:=zh hs;clear hs;go_enter Uy,Ux
   go_wp2_with fail
   refine ((iN _ _ z.natAbs y.natAbs _ aI aI).mono (by rw [HC.out];exact fun _ _ h=>h)).mono ?_;rintro e v1 ⟨rfl,hc1⟩;have BR:=au.later (au.at2 _ _ _ _ _) hc1;have bK:=BR.cell;have bL:=BR.free;have B1:=au.later (au.alloc (au.oN _ _ _ _) _) hc1;have cB1:=B1.cell;have FQ:=B1.free;have B0:=au.later (au.alloc (au.alloc (au.new _ _ _) _) _) hc1;have cB0:=B0.cell;have jc:=B0.free;go_wp2_with fail
   refine aD [(.pure,0),(.read,1),(.pure,2),(.read,3),(.pure,5),(.read,6),(.ext,4),(.ext,7),(.fin,8)] zk zk zR zP ?_;refine zV ?_;refine aG rfl rfl (fun w2 hb2 J hJ=>?_);go_simp;replace BR:=au.later (au.drew BR) hb2;replace bK:=BR.cell;replace bL:=BR.free;refine (zB _ _ z.natAbs y.natAbs _ aI aI (Nat.le_trans KZ.out zo) HL.out).mono ?_;rintro e v2 ⟨v,rfl,hc2,hv⟩;obtain ⟨Nw,lHD,Oy,rfl⟩:=hv.slice;have HD:=zh hv;clear hv;replace BR:=au.later (BR) hc2;replace bK:=BR.cell;replace bL:=BR.free;refine hJ _ _ hc2 ?_;clear hJ J;refine aG rfl rfl (fun w3 hb3 J hJ=>?_);go_simp;replace BR:=au.later (BR) hb3;replace bK:=BR.cell;replace bL:=BR.free;refine (dx _ (z.natAbs - y.natAbs) _ _ aI).mono ?_;rintro e v3 ⟨v,rfl,hc3,hv⟩;obtain ⟨Qu,lHT,Tg,rfl,HT⟩:=hv;replace HT:=zh HT
   replace BR:=au.later (BR) hc3;replace bK:=BR.cell;replace bL:=BR.free;refine hJ _ _ hc3 ?_;clear hJ J;refine aL [_] rfl (fun w5 hb5=>?_);replace BR:=au.later (BR) hb5;replace bK:=BR.cell;replace bL:=BR.free;go_wp2_with fail
   refine dG rfl rfl aT FY rfl zk ?_;exact ⟨_,rfl,ah,(aS.aO aI).cast HE.out⟩):G:=h
theorem Gf (pa pb:Option Addr) (l m ca cb:Nat) (z y:Int) (b:Bool) (w:World) (h:aK w (.slice pa l ca) z.natAbs) (h2:aK w (.slice pb m cb) y.natAbs) (hz:decide (z<0)=b) (hy:decide (y<0)= !b) (kz:sz 1000000000 z.natAbs≤549755813888) (ky:sz 1000000000 y.natAbs≤549755813888) :
  Calls Tryz.prog 213 #[.agg #[.slice pa l ca,.bool b],.agg #[.slice pb m cb,.bool !b]] w (fun e w'=>∃ v,e= .returned v∧Below w.heap.size w w'∧aS w' v (z+y)):=ad3
theorem _root_.Go.ad2 {G:Prop} (h:G:=by
 obtain ⟨pa,l,ca,rfl,hm⟩:=h;obtain ⟨pb,m,cb,rfl,hm2⟩:=h2
 by_cases hb:decide (z<0)=decide (y<0)
 ·rw [hb];exact Gc pa pb l m ca cb z y (decide (y<0)) w hm hm2 hb rfl kz ky
 ·have hb2:decide (y<0)= !decide (z<0):=by
   cases h1:decide (z<0)<;>cases h2:decide (y<0)<;>simp_all
  rw [hb2];exact Gf pa pb l m ca cb z y (decide (z<0)) w hm hm2 rfl hb2 kz ky):G:=h
theorem sQ (v u:Value) (z y:Int) (w:World) (h:aS w v z) (h2:aS w u y) (kz:sz 1000000000 z.natAbs≤549755813888) (ky:sz 1000000000 y.natAbs≤549755813888) :
  Calls Tryz.prog 213 #[v,u] w (fun e w'=>∃ v,e= .returned v∧Below w.heap.size w w'∧aS w' v (z+y)):=ad2
theorem _root_.Go.ad1 {G:Prop} (h:G:=by
 obtain ⟨pa,l,ca,rfl,hm⟩:=h
 have hlen:((1+(Lib.decDigits z.natAbs).length:Nat):Int)≤9223372036854775807:=by
  have h1:=xC (aR (B:=1000000000) zo z.natAbs);rw [aM zo] at h1;unfold sz at kz;omega
 have aF1:¬ 9223372036854775807<1+(Lib.decDigits z.natAbs).length:=by omega
 have H:=zh hm;have KZ:=zh kz;have HT:=zh ht;clear hm kz ht hlen
 by_cases hz:z<0
 ·have e:mW z= .string ⟨(45::Lib.decDigits z.natAbs).toArray⟩:=by unfold mW Lib.itoa;rw [if_pos hz]
  rw [e,decide_eq_true hz];clear e hz;go_enter YE,YD
  go_wp2_with fail
  refine (oJ _ z.natAbs _ aI KZ.out (HT.out.later ah)).mono ?_;rintro e v1 ⟨rfl,hc1⟩;go_wp2_with fail
  go_ret
  exact ⟨rfl,ah⟩
 ·have e:mW z= .string ⟨(Lib.decDigits z.natAbs).toArray⟩:=by unfold mW Lib.itoa;rw [if_neg hz,show z.toNat=z.natAbs by omega]
  rw [e,decide_eq_false hz];clear e hz;go_enter YE,YD
  go_wp2_with fail
  refine (oJ _ z.natAbs _ aI KZ.out (HT.out.later ah)).mono ?_;rintro e v1 ⟨rfl,hc1⟩;go_wp2_with fail
  go_ret
  exact ⟨rfl,ah⟩):G:=h
theorem yg (v:Value) (z:Int) (w:World) (h:aS w v z) (kz:sz 1000000000 z.natAbs≤1099511627776) (ht:oO.Pow w) :
  Calls Tryz.prog 191 #[v] w (fun e w'=>e= .returned (mW z)∧Below w.heap.size w w'):=ad1
end Go.Proofs.eX
namespace Go.Proofs.eX
open Go Go.RowKit Go.SW Go.Num Go.Mem Go.Proofs Go.Dec Go.cK
theorem yh (v:Value) (z:Int) (w:World) (h:aS w v z) :
  Calls Tryz.prog 205 #[v] w (fun e w'=>e= .returned (.int .i64 (sV z))∧Below w.heap.size w w'):=by
 obtain ⟨IW,lH,I5,rfl,H⟩:=h;replace H:=zh H
 rcases Int.lt_trichotomy z 0 with hz|hz|hz
 ·have e:sV z= -1:=by unfold sV;rw [if_neg zo,if_pos hz]
  rw [e,decide_eq_true hz];have h0:decide (z.natAbs=0)=false:=by simp;omega
  go_enter Tryz.func205,Tryz.ntmps205
  go_wp2_with (go_at_call 207;refine (fQ _ z.natAbs _ aI).mono ?_;rintro e w1 ⟨rfl,rfl⟩;rw [h0])
  go_ret
  exact ⟨rfl,ah⟩
 ·subst hz;go_enter Tryz.func205,Tryz.ntmps205
  go_wp2_with (go_at_call 207;refine (fQ _ (Int.natAbs 0) _ aI).mono ?_;rintro e w1 ⟨rfl,rfl⟩)
  go_ret
  exact ⟨rfl,ah⟩
 ·have e:sV z=1:=by unfold sV;rw [if_neg zo,if_neg zo]
  rw [e,decide_eq_false (show ¬ z<0 by omega)];have h0:decide (z.natAbs=0)=false:=by simp;omega
  go_enter Tryz.func205,Tryz.ntmps205
  go_wp2_with (go_at_call 207;refine (fQ _ z.natAbs _ aI).mono ?_;rintro e w1 ⟨rfl,rfl⟩;rw [h0])
  go_ret
  exact ⟨rfl,ah⟩
theorem qB (x y:Value) (p q:Rat) (w:World) (hx:pQ w x p) (hy:pQ w y q) (kp:kL 1000000 p) (kq:kL 1000000 q) :
  Calls Tryz.prog 158 #[x,y] w (fun e w'=>e= .returned (.int .i64 (Aw p q))∧Below w.heap.size w w'):=by
 obtain ⟨IW,lH,I5,pbH,mH,cbH,rfl,H,Hd⟩:=hx;replace H:=zh H;replace Hd:=zh Hd;obtain ⟨Qv,lG,Ti,pbG,mG,cbG,rfl,G,Gd⟩:=hy;replace G:=zh G;replace Gd:=zh Gd;rw [← Gi];have k1:=mh p.num q.den;have k2:=mh q.num p.den;obtain ⟨kp1,kp2⟩:=kp;obtain ⟨kq1,kq2⟩:=kq;obtain ⟨y1,Ey1⟩:∃ y:Int,Hid (p.num*(q.den:Int)=y):=⟨_,zh rfl⟩;obtain ⟨y2,Ey2⟩:∃ y:Int,Hid (q.num*(p.den:Int)=y):=⟨_,zh rfl⟩;obtain ⟨y3,Ey3⟩:∃ y:Int,Hid (-y2=y):=⟨_,zh rfl⟩;obtain ⟨y4,Ey4⟩:∃ y:Int,Hid (y1+y3=y):=⟨_,zh rfl⟩;rw [Ey1.out,Ey2.out,Ey3.out,Ey4.out];rw [Ey1.out] at k1;rw [Ey2.out] at k2;have k3:sz 1000000000 y3.natAbs=sz 1000000000 y2.natAbs:=by rw [← Ey3.out,Int.natAbs_neg]
 have K1:Hid (sz 1000000000 y1.natAbs≤549755813888):=by unfold Hid;omega
 have K3:Hid (sz 1000000000 y3.natAbs≤549755813888):=by unfold Hid;omega
 have KP1:=zh kp1;have KP2:=zh kp2;have KQ1:=zh kq1;have KQ2:=zh kq2;clear kp1 kp2 kq1 kq2 k1 k2 k3;go_enter Tryz.func158,Tryz.ntmps158
 go_wp2_with fail
 refine aD [(.pure,0),(.read,1),(.pure,2),(.read,3),(.pure,5),(.read,6),(.pure,7),(.read,8),(.ext,4),(.ext,9),(.ext,10),(.ext,11),(.ext,12),(.fin,13)] zk zk zR zP ?_;refine zV ?_;refine aG rfl rfl (fun w1 hb1 J hJ=>?_);go_simp;refine ((mo _ _ p.num q.den _ (aS.aO aI) aI (Nat.le_trans KP1.out zo) (Nat.le_trans KQ2.out zo)).mono (by rw [Ey1.out];exact fun _ _ h=>h)).mono ?_;rintro e v1 ⟨v,rfl,hc1,hv⟩;obtain ⟨aI5,lHA,aN5,rfl,HA⟩:=hv;replace HA:=zh HA;refine hJ _ _ hc1 ?_;clear hJ J;refine aG rfl rfl (fun w2 hb2 J hJ=>?_);go_simp;refine ((mo _ _ q.num p.den _ (aS.aO aI) aI (Nat.le_trans KQ1.out zo) (Nat.le_trans KP2.out zo)).mono (by rw [Ey2.out];exact fun _ _ h=>h)).mono ?_;rintro e v2 ⟨v,rfl,hc2,hv⟩;obtain ⟨aI4,lHB,aN4,rfl,HB⟩:=hv;replace HB:=zh HB;refine hJ _ _ hc2 ?_;clear hJ J
 refine aG rfl rfl (fun w3 hb3 J hJ=>?_);go_simp;refine ((nP _ y2 _ (aS.aO aI)).mono (by rw [Ey3.out];exact fun _ _ h=>h)).mono ?_;rintro e v3 ⟨v,rfl,hc3,hv⟩;obtain ⟨ax3,lHC,aC1,rfl,HC⟩:=hv;replace HC:=zh HC;refine hJ _ _ hc3 ?_;clear hJ J;refine aG rfl rfl (fun w4 hb4 J hJ=>?_);go_simp;refine ((sQ _ _ y1 y3 _ (aS.aO aI) (aS.aO aI) K1.out K3.out).mono (by rw [Ey4.out];exact fun _ _ h=>h)).mono ?_;rintro e v4 ⟨v,rfl,hc4,hv⟩;obtain ⟨Nw,lHD,Oy,rfl,HD⟩:=hv;replace HD:=zh HD;refine hJ _ _ hc4 ?_;clear hJ J;refine aG rfl rfl (fun w5 hb5 J hJ=>?_);go_simp;refine (yh _ y4 _ (aS.aO aI)).mono ?_;rintro e v5 ⟨rfl,nT⟩;refine hJ _ _ nT ?_;clear hJ J;refine aL [_] rfl (fun w5 hb5=>?_);go_wp2_with fail
 go_ret
 exact ⟨rfl,ah⟩
theorem Jm (x y:Value) (n:Int) (d:Nat) (w:World) (hx:aS w x n) (hy:aK w y d) (hd:0<d) (kn:sz 1000000000 n.natAbs≤549755813888) (kd:sz 1000000000 d≤549755813888) :
  Calls Tryz.prog 231 #[x,y] w (fun e w'=>∃ v,e= .returned v∧Below w.heap.size w w'∧pQ w' v (mkRat n d)):=by
 obtain ⟨IW,lH,I5,rfl,H⟩:=hx;replace H:=zh H;obtain ⟨Qv,lG,Ti,rfl⟩:=hy.slice;have G:=zh hy;clear hy;have HP:=zh (qI n hd);have hg:0<n.natAbs.gcd d:=Nat.gcd_pos_of_pos_right _ hd;obtain ⟨g,Eg⟩:∃ y:Nat,Hid (n.natAbs.gcd d=y):=⟨_,zh rfl⟩;obtain ⟨a,Ea⟩:∃ y:Nat,Hid (n.natAbs / g=y):=⟨_,zh rfl⟩;obtain ⟨b,Eb⟩:∃ y:Nat,Hid (d / g=y):=⟨_,zh rfl⟩;rw [Eg.out] at HP hg;rw [Ea.out,Eb.out] at HP;have KN:=zh kn;have KD:=zh kd;have HG:=zh hg;clear kn kd hg hd;go_enter Tryz.func231,Tryz.ntmps231
 go_wp2_with fail
 refine ((qP _ _ n.natAbs d _ aI aI KN.out KD.out).mono (by rw [Eg.out];exact fun _ _ h=>h)).mono ?_;rintro e v1 ⟨v,rfl,hc1,hv⟩;obtain ⟨Vb,lHg,Ww,rfl⟩:=hv.slice;have Hg:=zh hv;clear hv;have BR:=au.later (au.oN _ _ _ _) hc1;have bK:=BR.cell;have bL:=BR.free;have B0:=au.later (au.alloc (au.new _ _ _) _) hc1;have cB0:=B0.cell;have jc:=B0.free;go_wp2_with fail
 refine ((dR _ _ n.natAbs g _ aI aI HG.out KN.out).mono (by rw [Ea.out];exact fun _ _ h=>h)).mono ?_;rintro e v2 ⟨v,vr,rfl,hc2,hv,j4⟩;obtain ⟨al8,lHa,as8,rfl⟩:=hv.slice;have Ha:=zh hv;clear hv;obtain ⟨aE6,aJ8,aF6,rfl⟩:=j4.slice;have Har:=zh j4;clear j4;replace BR:=au.later (BR) hc2;replace bK:=BR.cell;replace bL:=BR.free;replace B0:=au.later (B0) hc2;replace cB0:=B0.cell;replace jc:=B0.free;go_wp2_with fail
 refine ((dR _ _ d g _ aI aI HG.out KD.out).mono (by rw [Eb.out];exact fun _ _ h=>h)).mono ?_;rintro e v3 ⟨v,vr,rfl,hc3,hv,j4⟩;obtain ⟨Vd,lHb,Wx,rfl⟩:=hv.slice;have Hb:=zh hv;clear hv;obtain ⟨Qt,Zr,Tf,rfl⟩:=j4.slice;have Hbr:=zh j4;clear j4;replace BR:=au.later (BR) hc3;replace bK:=BR.cell;replace bL:=BR.free;replace B0:=au.later (B0) hc3;replace cB0:=B0.cell;replace jc:=B0.free;go_wp2_with fail
 refine (dx _ a _ _ aI).mono ?_;rintro e v4 ⟨v,rfl,hc4,hv⟩;obtain ⟨vZ,N8,wN,rfl,Hs⟩:=hv;replace Hs:=zh Hs;replace BR:=au.later (BR) hc4;replace bK:=BR.cell;replace bL:=BR.free;replace B0:=au.later (B0) hc4;replace cB0:=B0.cell;replace jc:=B0.free;go_wp2_with fail
 refine dG rfl rfl aT Tryz.underlying153 rfl zk ?_;exact ⟨_,rfl,ah,pQ.mk (gB a (decide (n<0))).natAbs b aI aI (by rw [HP.out.1]) HP.out.2.symm (by rw [HP.out.1])⟩
theorem jm (v:Value) (q:Rat) (w:World) (h:pQ w v q) (k:kL 1000000 q) (ht:oO.Pow w) :
  Calls Tryz.prog 151 #[v] w (fun e w'=>e= .returned (Fr.res (wr q))∧Below w.heap.size w w'):=by
 obtain ⟨IW,lH,I5,pbH,mH,cbH,rfl,H,Hd⟩:=h;replace H:=zh H;replace Hd:=zh Hd;have HT:=zh ht;have K1:=zh k.1;have K2:=zh k.2;clear ht k
 rcases Nat.lt_or_ge 600 (Lib.decDigits q.num.natAbs).length with h1|h1
 ·rw [qb (by unfold iR;rw [DF h1];rfl)];go_enter Tryz.func151,Tryz.ntmps151
  go_wp2_with fail
  refine (gH _ q.num.natAbs _ aI (Nat.le_trans K1.out zo) (HT.out.later ah)).mono ?_;rintro e v1 ⟨rfl,hc1⟩;have BR:=au.later (au.oN _ _ _ _) hc1;have bK:=BR.cell;have bL:=BR.free;have B0:=au.later (au.alloc (au.new _ _ _) _) hc1;have cB0:=B0.cell;have jc:=B0.free;go_wp2_with fail
  refine aP rfl rfl aT Tryz.underlying59 rfl zk ?_;exact ⟨rfl,ah⟩
 ·rcases Nat.lt_or_ge 600 (Lib.decDigits q.den).length with h2|h2
  ·rw [qb (by unfold iR;rw [DF h2,Bool.and_false])];go_enter Tryz.func151,Tryz.ntmps151
   go_wp2_with fail
   refine (gH _ q.num.natAbs _ aI (Nat.le_trans K1.out zo) (HT.out.later ah)).mono ?_;rintro e v1 ⟨rfl,hc1⟩;have BR:=au.later (au.oN _ _ _ _) hc1;have bK:=BR.cell;have bL:=BR.free;have B0:=au.later (au.alloc (au.new _ _ _) _) hc1;have cB0:=B0.cell;have jc:=B0.free;go_wp2_with fail
   refine (gH _ q.den _ aI (Nat.le_trans K2.out zo) (HT.out.later ah)).mono ?_;rintro e v2 ⟨rfl,hc2⟩;replace BR:=au.later (BR) hc2;replace bK:=BR.cell;replace bL:=BR.free;replace B0:=au.later (B0) hc2;replace cB0:=B0.cell;replace jc:=B0.free;go_wp2_with fail
   refine aP rfl rfl aT Tryz.underlying59 rfl zk ?_;exact ⟨rfl,ah⟩
  ·rw [Xq (by unfold iR;rw [dP.2 h1,dP.2 h2];rfl)];go_enter Tryz.func151,Tryz.ntmps151
   go_wp2_with fail
   refine (gH _ q.num.natAbs _ aI (Nat.le_trans K1.out zo) (HT.out.later ah)).mono ?_;rintro e v1 ⟨rfl,hc1⟩;have BR:=au.later (au.oN _ _ _ _) hc1;have bK:=BR.cell;have bL:=BR.free;have B0:=au.later (au.alloc (au.new _ _ _) _) hc1;have cB0:=B0.cell;have jc:=B0.free;go_wp2_with fail
   refine (gH _ q.den _ aI (Nat.le_trans K2.out zo) (HT.out.later ah)).mono ?_;rintro e v2 ⟨rfl,hc2⟩;replace BR:=au.later (BR) hc2;replace bK:=BR.cell;replace bL:=BR.free;replace B0:=au.later (B0) hc2;replace cB0:=B0.cell;replace jc:=B0.free;go_wp2_with fail
   refine aD [(.pure,0),(.read,1),(.pure,3),(.read,4),(.ext,2),(.ext,5),(.pure,6),(.fin,7),(.fin,8)] zk zk zR zP ?_;refine zV ?_;refine aG rfl rfl (fun w3 hb3 J hJ=>?_);go_simp;replace BR:=au.later (au.drew BR) hb3;replace bK:=BR.cell;replace bL:=BR.free;refine ((yg _ q.num _ (aS.aO aI) (Nat.le_trans K1.out zo) (HT.out.later ah)).mono (fun _ _ h=>by unfold mW at h;exact h)).mono ?_;rintro e v3 ⟨rfl,hc3⟩;replace BR:=au.later (BR) hc3;replace bK:=BR.cell;replace bL:=BR.free;refine hJ _ _ hc3 ?_;clear hJ J;refine aG rfl rfl (fun w4 hb4 J hJ=>?_);go_simp;replace BR:=au.later (BR) hb4;replace bK:=BR.cell;replace bL:=BR.free;refine (oJ _ q.den _ aI (Nat.le_trans K2.out zo) (HT.out.later ah)).mono ?_;rintro e v4 ⟨rfl,hc4⟩;replace BR:=au.later (BR) hc4;replace bK:=BR.cell;replace bL:=BR.free;refine hJ _ _ hc4 ?_;clear hJ J
   refine zV ?_;refine aL [_,_] rfl (fun w5 hb5=>?_);replace BR:=au.later (BR) hb5;replace bK:=BR.cell;replace bL:=BR.free;go_wp2_with fail
   refine aP rfl rfl aT Tryz.underlying59 rfl zk ?_;exact ⟨rfl,ah⟩
def IJ (w:World) (q:Rat) (e:Ending) (w':World):Prop:=∃ v,e= .returned (.tuple #[v,.bool true])∧Below w.heap.size w w'∧pQ w' v q
def oM (w:World) (e:Ending) (w':World):Prop:=e= .returned (.tuple #[.agg #[.slice none 0 0,.bool false,.slice none 0 0],.bool false])∧Below w.heap.size w w'
theorem iW {s:ByteArray} {z:Int} (h:Dec.whole s.data.toList=some z) (w:World):Calls Tryz.prog 203 #[.string s] w (fun e w'=>e= .returned (.int .i64 0)∧Below w.heap.size w w'):=by
 have:=whole.qU s w;rw [h] at this;exact this
theorem AJ {s:ByteArray} (h:Dec.whole s.data.toList=none) (w:World):Calls Tryz.prog 203 #[.string s] w (fun e w'=>e= .returned (.int .i64 10)∧Below w.heap.size w w'):=by
 have:=whole.qU s w;rw [h] at this;exact this
theorem Jo (s t:ByteArray) (h:Dec.whole s.data.toList=none) (w:World) :
  Calls Tryz.prog 152 #[.agg #[.string s,.string t]] w (oM w):=by
 have HC:=zh (AJ h);clear h;go_enter Tryz.func152,Tryz.ntmps152
 go_wp2_with fail
 refine (HC.out _).mono ?_;rintro e v1 ⟨rfl,hc1⟩;have BR:=au.later (au.oN _ _ _ _) hc1;have bK:=BR.cell;have bL:=BR.free;have B0:=au.later (au.alloc (au.new _ _ _) _) hc1;have cB0:=B0.cell;have jc:=B0.free;go_wp2_with fail
 refine aP rfl rfl aT Tryz.underlying153 rfl zk ?_;exact ⟨rfl,ah⟩
theorem Jp (s t:ByteArray) (n:Int) (hn:Dec.whole s.data.toList=some n) (h:Dec.whole t.data.toList=none) (w:World) :
  Calls Tryz.prog 152 #[.agg #[.string s,.string t]] w (oM w):=by
 have HC:=zh (iW hn);have HD:=zh (AJ h);clear h hn;go_enter Tryz.func152,Tryz.ntmps152
 go_wp2_with fail
 refine (HC.out _).mono ?_;rintro e v1 ⟨rfl,hc1⟩;have BR:=au.later (au.oN _ _ _ _) hc1;have bK:=BR.cell;have bL:=BR.free;have B0:=au.later (au.alloc (au.new _ _ _) _) hc1;have cB0:=B0.cell;have jc:=B0.free;go_wp2_with fail
 refine (HD.out _).mono ?_;rintro e v2 ⟨rfl,hc2⟩;replace BR:=au.later (BR) hc2;replace bK:=BR.cell;replace bL:=BR.free;replace B0:=au.later (B0) hc2;replace cB0:=B0.cell;replace jc:=B0.free;go_wp2_with fail
 refine aP rfl rfl aT Tryz.underlying153 rfl zk ?_;exact ⟨rfl,ah⟩
theorem Ni (q:Rat) (hq:iR q=true) (w:World) :
  Calls Tryz.prog 152 #[(Fr.of q).v] w (IJ w q):=by
 show Calls _ _ #[.agg #[.string ⟨(Lib.itoa q.num).toArray⟩,.string ⟨(Lib.itoa (q.den:Int)).toArray⟩]] _ _
 have hs:=qC hq
 have hl:(Lib.decDigits q.num.natAbs).length≤600∧(Lib.decDigits ((q.den:Nat):Int).natAbs).length≤600:=by
  unfold iR at hq;rw [Bool.and_eq_true,dP,dP] at hq;exact ⟨hq.1,(Int.natAbs_natCast q.den).symm ▸ hq.2⟩
 obtain ⟨hl1,hl2⟩:=hl;have hd:=q.den_pos;have hr:=q.reduced;have HC:=zh (iW (s:=⟨(Lib.itoa q.num).toArray⟩) (dD hl1));have HD:=zh (iW (s:=⟨(Lib.itoa (q.den:Int)).toArray⟩) (dD hl2));have Px:=zh hl1;have HL2:=zh hl2;have HR:=zh hr;have S1:=zh hs.1;have S2:=zh hs.2;obtain ⟨d,Ed⟩:∃ y:Int,Hid ((q.den:Int)=y):=⟨_,zh rfl⟩;have hdn:d.natAbs=q.den:=by rw [← Ed.out,Int.natAbs_natCast]
 have hd1:0<d:=by rw [← Ed.out];omega
 have hsg:sV d=1:=by unfold sV;rw [if_neg zo,if_neg zo]
 have hdf:decide (d<0)=false:=by simp;omega
 have HDN:=zh hdn;have HSG:=zh hsg;have HDF:=zh hdf;have HR1:Hid (q.num.natAbs.gcd d.natAbs=1):=by unfold Hid;rw [hdn];exact hr
 rw [Ed.out] at HL2 HD ⊢;clear hq hs hl1 hl2 hr hd hdn hd1 hsg hdf;go_enter Tryz.func152,Tryz.ntmps152
 go_wp2_with fail
 refine (HC.out _).mono ?_;rintro e v1 ⟨rfl,hc1⟩;have BR:=au.later (au.oN _ _ _ _) hc1;have bK:=BR.cell;have bL:=BR.free;have B0:=au.later (au.alloc (au.new _ _ _) _) hc1;have cB0:=B0.cell;have jc:=B0.free;go_wp2_with fail
 refine (HD.out _).mono ?_;rintro e v2 ⟨rfl,hc2⟩;replace BR:=au.later (BR) hc2;replace bK:=BR.cell;replace bL:=BR.free;replace B0:=au.later (B0) hc2;replace cB0:=B0.cell;replace jc:=B0.free;go_wp2_with fail
 refine aD [(.pure,0),(.read,1),(.pure,3),(.read,4),(.ext,2),(.ext,5),(.alloc #[.slice none 0 0,.bool false] 151,6),(.alloc #[.slice none 0 0,.bool false] 151,7),(.fin,8),(.fin,9)] zk zk zR zP ?_;refine zV ?_;refine aG rfl rfl (fun w3 hb3 J hJ=>?_);go_simp;replace BR:=au.later (au.drew BR) hb3;replace bK:=BR.cell;replace bL:=BR.free;replace B0:=au.later (au.drew B0) hb3;replace cB0:=B0.cell;replace jc:=B0.free;refine (d9 q.num Px.out _).mono ?_;rintro e v3 ⟨v,rfl,hc3,hv⟩;obtain ⟨Jy,Zt,Kh,rfl,HN⟩:=hv;replace HN:=zh HN;replace BR:=au.later (BR) hc3;replace bK:=BR.cell;replace bL:=BR.free;replace B0:=au.later (B0) hc3;replace cB0:=B0.cell;replace jc:=B0.free;refine hJ _ _ hc3 ?_;clear hJ J;refine aG rfl rfl (fun w4 hb4 J hJ=>?_);go_simp;replace BR:=au.later (BR) hb4;replace bK:=BR.cell;replace bL:=BR.free
 replace B0:=au.later (B0) hb4;replace cB0:=B0.cell;replace jc:=B0.free;refine (d9 d HL2.out _).mono ?_;rintro e v4 ⟨v,rfl,hc4,hv⟩;obtain ⟨Nv,lHM,Ox,rfl,HM⟩:=hv;replace HM:=zh HM;replace BR:=au.later (BR) hc4;replace bK:=BR.cell;replace bL:=BR.free;replace B0:=au.later (B0) hc4;replace cB0:=B0.cell;replace jc:=B0.free;refine hJ _ _ hc4 ?_;clear hJ J;refine aX rfl (fun b1 w5 Rv R7 XP as0 dY=>?_);go_simp;replace dY:au _ _ _ _:=dY;have ar5:w.heap.size≤b1:=(by first|omega|exact Nat.le_trans (Below.size (B:=w.heap.size) ah) R7);replace BR:=au.later (BR) Rv;replace bK:=BR.cell;replace bL:=BR.free;refine aX rfl (fun b2 w6 Uj R6 XO R8 fZ=>?_);go_simp;replace fZ:au _ _ _ _:=fZ;have ar3:w.heap.size≤b2:=(by first|omega|exact Nat.le_trans (Below.size (B:=w.heap.size) ah) R6)
 replace BR:=au.later (BR) Uj;replace bK:=BR.cell;replace bL:=BR.free;replace dY:=au.later (dY) Uj;replace sI:=dY.cell;replace sH:=dY.free;refine aL [_,_] rfl (fun w7 gM=>?_);replace BR:=au.later (BR) gM;replace bK:=BR.cell;replace bL:=BR.free;replace dY:=au.later (dY) gM;replace sI:=dY.cell;replace sH:=dY.free;replace fZ:=au.later (fZ) gM;replace Ay:=fZ.cell;replace Ao:=fZ.free;have n1:b1≠b2:=fun e=>R8 (by simp [e]);have n2:b2≠b1:=fun e=>n1 e.symm;have n3:=BR.ne dY zd;have n4:=BR.ne fZ zd;go_wp2_with fail
 refine ((yh _ d _ (aS.aO aI)).mono (by rw [HSG.out];exact fun _ _ h=>h)).mono ?_;rintro e v5 ⟨rfl,nT⟩;replace HN:=zh (aK.carry HN.out aI nT);replace HM:=zh (aK.carry HM.out aI nT);replace dY:au _ (b1) _ _:=au.later aT nT;(try simp only [List.setIfInBounds_toArray,List.set_cons_zero,List.set_cons_succ] at dY);replace sI:=dY.cell;replace sH:=dY.free;replace fZ:au _ (b2) _ _:=au.later aT nT;(try simp only [List.setIfInBounds_toArray,List.set_cons_zero,List.set_cons_succ] at fZ);replace Ay:=fZ.cell;replace Ao:=fZ.free;replace BR:au _ (w.heap.size+1) _ _:=au.later aT nT;(try simp only [List.setIfInBounds_toArray,List.set_cons_zero,List.set_cons_succ] at BR);replace bK:=BR.cell;replace bL:=BR.free;go_wp2_with fail
 refine ((qP _ _ q.num.natAbs d.natAbs _ aI aI (Nat.le_trans S1.out zo) (by rw [HDN.out];exact Nat.le_trans S2.out zo)).mono (by rw [HR1.out];exact fun _ _ h=>h)).mono ?_;rintro e v6 ⟨v,rfl,hc6,hv⟩;obtain ⟨ax2,lHG,aC0,rfl⟩:=hv.slice;have HG:=zh hv;clear hv;replace HN:=zh (aK.later HN.out hc6);replace HM:=zh (aK.later HM.out hc6);replace dY:=au.later (dY) hc6;replace sI:=dY.cell;replace sH:=dY.free;replace fZ:=au.later (fZ) hc6;replace Ay:=fZ.cell;replace Ao:=fZ.free;replace BR:=au.later (BR) hc6;replace bK:=BR.cell;replace bL:=BR.free;go_wp2_with fail
 refine ((iN _ _ 1 1 _ aI (aK.lit zo zo)).mono (by rw [qm];exact fun _ _ h=>h)).mono ?_;rintro e v7 ⟨rfl,JV⟩;replace HN:=zh (aK.carry HN.out aI JV);replace HM:=zh (aK.carry HM.out aI JV);replace dY:au _ (b1) _ _:=au.later aT JV;(try simp only [List.setIfInBounds_toArray,List.set_cons_zero,List.set_cons_succ] at dY);replace sI:=dY.cell;replace sH:=dY.free;replace fZ:au _ (b2) _ _:=au.later aT JV;(try simp only [List.setIfInBounds_toArray,List.set_cons_zero,List.set_cons_succ] at fZ);replace Ay:=fZ.cell;replace Ao:=fZ.free;replace BR:au _ (w.heap.size+1) _ _:=au.later aT JV;(try simp only [List.setIfInBounds_toArray,List.set_cons_zero,List.set_cons_succ] at BR);replace bK:=BR.cell;replace bL:=BR.free;go_wp2_with fail
 refine aP rfl rfl aT Tryz.underlying153 rfl zk ?_;refine ⟨_,rfl,ah,pQ.mk q.num.natAbs d.natAbs aI aI rfl HDN.out rfl⟩
theorem Bv (n d:Int) (hl1:(Lib.decDigits n.natAbs).length≤600) (hl2:(Lib.decDigits d.natAbs).length≤600) (hd:d≤0) (w:World) :
  Calls Tryz.prog 152 #[.agg #[.string ⟨(Lib.itoa n).toArray⟩,.string ⟨(Lib.itoa d).toArray⟩]] w (oM w):=by
 have HC:=zh (iW (s:=⟨(Lib.itoa n).toArray⟩) (dD hl1));have HD:=zh (iW (s:=⟨(Lib.itoa d).toArray⟩) (dD hl2));have Px:=zh hl1;have HL2:=zh hl2
 have hs:sV d=0∨sV d= -1:=by
  unfold sV
  by_cases h:d=0
  ·rw [if_pos h];exact .inl rfl
  ·rw [if_neg h,if_pos zo];exact .inr rfl
 clear hl1 hl2 hd
 rcases hs with hs|hs
 all_goals
  have HSG:=zh hs;clear hs;go_enter Tryz.func152,Tryz.ntmps152
  go_wp2_with fail
  refine (HC.out _).mono ?_;rintro e v1 ⟨rfl,hc1⟩;have BR:=au.later (au.oN _ _ _ _) hc1;have bK:=BR.cell;have bL:=BR.free;have B0:=au.later (au.alloc (au.new _ _ _) _) hc1;have cB0:=B0.cell;have jc:=B0.free;go_wp2_with fail
  refine (HD.out _).mono ?_;rintro e v2 ⟨rfl,hc2⟩;replace BR:=au.later (BR) hc2;replace bK:=BR.cell;replace bL:=BR.free;replace B0:=au.later (B0) hc2;replace cB0:=B0.cell;replace jc:=B0.free;go_wp2_with fail
  refine aD [(.pure,0),(.read,1),(.pure,3),(.read,4),(.ext,2),(.ext,5),(.alloc #[.slice none 0 0,.bool false] 151,6),(.alloc #[.slice none 0 0,.bool false] 151,7),(.fin,8),(.fin,9)] zk zk zR zP ?_;refine zV ?_;refine aG rfl rfl (fun w3 hb3 J hJ=>?_);go_simp;replace BR:=au.later (au.drew BR) hb3;replace bK:=BR.cell;replace bL:=BR.free;replace B0:=au.later (au.drew B0) hb3;replace cB0:=B0.cell;replace jc:=B0.free;refine (d9 n Px.out _).mono ?_;rintro e v3 ⟨v,rfl,hc3,hv⟩;obtain ⟨Jy,Zt,Kh,rfl,HN⟩:=hv;replace HN:=zh HN;replace BR:=au.later (BR) hc3;replace bK:=BR.cell;replace bL:=BR.free;replace B0:=au.later (B0) hc3;replace cB0:=B0.cell;replace jc:=B0.free;refine hJ _ _ hc3 ?_;clear hJ J;refine aG rfl rfl (fun w4 hb4 J hJ=>?_);go_simp;replace BR:=au.later (BR) hb4;replace bK:=BR.cell;replace bL:=BR.free
  replace B0:=au.later (B0) hb4;replace cB0:=B0.cell;replace jc:=B0.free;refine (d9 d HL2.out _).mono ?_;rintro e v4 ⟨v,rfl,hc4,hv⟩;obtain ⟨Nv,lHM,Ox,rfl,HM⟩:=hv;replace HM:=zh HM;replace BR:=au.later (BR) hc4;replace bK:=BR.cell;replace bL:=BR.free;replace B0:=au.later (B0) hc4;replace cB0:=B0.cell;replace jc:=B0.free;refine hJ _ _ hc4 ?_;clear hJ J;refine aX rfl (fun b1 w5 Rv R7 XP as0 dY=>?_);go_simp;replace dY:au _ _ _ _:=dY;have ar5:w.heap.size≤b1:=(by first|omega|exact Nat.le_trans (Below.size (B:=w.heap.size) ah) R7);replace BR:=au.later (BR) Rv;replace bK:=BR.cell;replace bL:=BR.free;refine aX rfl (fun b2 w6 Uj R6 XO R8 fZ=>?_);go_simp;replace fZ:au _ _ _ _:=fZ;have ar3:w.heap.size≤b2:=(by first|omega|exact Nat.le_trans (Below.size (B:=w.heap.size) ah) R6)
  replace BR:=au.later (BR) Uj;replace bK:=BR.cell;replace bL:=BR.free;replace dY:=au.later (dY) Uj;replace sI:=dY.cell;replace sH:=dY.free;refine aL [_,_] rfl (fun w7 gM=>?_);replace BR:=au.later (BR) gM;replace bK:=BR.cell;replace bL:=BR.free;replace dY:=au.later (dY) gM;replace sI:=dY.cell;replace sH:=dY.free;replace fZ:=au.later (fZ) gM;replace Ay:=fZ.cell;replace Ao:=fZ.free;have n1:b1≠b2:=fun e=>R8 (by simp [e]);have n2:b2≠b1:=fun e=>n1 e.symm;have n3:=BR.ne dY zd;have n4:=BR.ne fZ zd;go_wp2_with fail
  refine ((yh _ d _ (aS.aO aI)).mono (by rw [HSG.out];exact fun _ _ h=>h)).mono ?_;rintro e v5 ⟨rfl,nT⟩;replace BR:au _ (w.heap.size+1) _ _:=au.later aT nT;(try simp only [List.setIfInBounds_toArray,List.set_cons_zero,List.set_cons_succ] at BR);replace bK:=BR.cell;replace bL:=BR.free;go_wp2_with fail
  refine aP rfl rfl aT Tryz.underlying153 rfl zk ?_;exact ⟨rfl,ah⟩
theorem Jj {g:Nat} (h:g≠1):tY g 1= -1∨tY g 1=1:=by
 unfold tY
 by_cases h2:g<1
 ·rw [if_pos h2];exact .inl rfl
 ·rw [if_neg h2,if_pos zo];exact .inr rfl
theorem Dw (n d:Int) (hl1:(Lib.decDigits n.natAbs).length≤600) (hl2:(Lib.decDigits d.natAbs).length≤600) (hd:0<d) (hg:n.natAbs.gcd d.natAbs≠1) (w:World) :
  Calls Tryz.prog 152 #[.agg #[.string ⟨(Lib.itoa n).toArray⟩,.string ⟨(Lib.itoa d).toArray⟩]] w (oM w):=by
 have HC:=zh (iW (s:=⟨(Lib.itoa n).toArray⟩) (dD hl1));have HD:=zh (iW (s:=⟨(Lib.itoa d).toArray⟩) (dD hl2));have Px:=zh hl1;have HL2:=zh hl2;have S1:=zh (tq (dP.2 hl1));have S2:=zh (tq (dP.2 hl2));have hsg:sV d=1:=by unfold sV;rw [if_neg zo,if_neg zo]
 have hdf:decide (d<0)=false:=by simp;omega
 have HSG:=zh hsg;have hs:=Jj hg;obtain ⟨g,Eg⟩:∃ y:Nat,Hid (n.natAbs.gcd d.natAbs=y):=⟨_,zh rfl⟩;rw [Eg.out] at hs;clear hl1 hl2 hd hg hsg hdf
 rcases hs with hs|hs
 all_goals
  have HS:=zh hs;clear hs;go_enter Tryz.func152,Tryz.ntmps152
  go_wp2_with fail
  refine (HC.out _).mono ?_;rintro e v1 ⟨rfl,hc1⟩;have BR:=au.later (au.oN _ _ _ _) hc1;have bK:=BR.cell;have bL:=BR.free;have B0:=au.later (au.alloc (au.new _ _ _) _) hc1;have cB0:=B0.cell;have jc:=B0.free;go_wp2_with fail
  refine (HD.out _).mono ?_;rintro e v2 ⟨rfl,hc2⟩;replace BR:=au.later (BR) hc2;replace bK:=BR.cell;replace bL:=BR.free;replace B0:=au.later (B0) hc2;replace cB0:=B0.cell;replace jc:=B0.free;go_wp2_with fail
  refine aD [(.pure,0),(.read,1),(.pure,3),(.read,4),(.ext,2),(.ext,5),(.alloc #[.slice none 0 0,.bool false] 151,6),(.alloc #[.slice none 0 0,.bool false] 151,7),(.fin,8),(.fin,9)] zk zk zR zP ?_;refine zV ?_;refine aG rfl rfl (fun w3 hb3 J hJ=>?_);go_simp;replace BR:=au.later (au.drew BR) hb3;replace bK:=BR.cell;replace bL:=BR.free;replace B0:=au.later (au.drew B0) hb3;replace cB0:=B0.cell;replace jc:=B0.free;refine (d9 n Px.out _).mono ?_;rintro e v3 ⟨v,rfl,hc3,hv⟩;obtain ⟨Jy,Zt,Kh,rfl,HN⟩:=hv;replace HN:=zh HN;replace BR:=au.later (BR) hc3;replace bK:=BR.cell;replace bL:=BR.free;replace B0:=au.later (B0) hc3;replace cB0:=B0.cell;replace jc:=B0.free;refine hJ _ _ hc3 ?_;clear hJ J;refine aG rfl rfl (fun w4 hb4 J hJ=>?_);go_simp;replace BR:=au.later (BR) hb4;replace bK:=BR.cell;replace bL:=BR.free
  replace B0:=au.later (B0) hb4;replace cB0:=B0.cell;replace jc:=B0.free;refine (d9 d HL2.out _).mono ?_;rintro e v4 ⟨v,rfl,hc4,hv⟩;obtain ⟨Nv,lHM,Ox,rfl,HM⟩:=hv;replace HM:=zh HM;replace BR:=au.later (BR) hc4;replace bK:=BR.cell;replace bL:=BR.free;replace B0:=au.later (B0) hc4;replace cB0:=B0.cell;replace jc:=B0.free;refine hJ _ _ hc4 ?_;clear hJ J;refine aX rfl (fun b1 w5 Rv R7 XP as0 dY=>?_);go_simp;replace dY:au _ _ _ _:=dY;have ar5:w.heap.size≤b1:=(by first|omega|exact Nat.le_trans (Below.size (B:=w.heap.size) ah) R7);replace BR:=au.later (BR) Rv;replace bK:=BR.cell;replace bL:=BR.free;refine aX rfl (fun b2 w6 Uj R6 XO R8 fZ=>?_);go_simp;replace fZ:au _ _ _ _:=fZ;have ar3:w.heap.size≤b2:=(by first|omega|exact Nat.le_trans (Below.size (B:=w.heap.size) ah) R6)
  replace BR:=au.later (BR) Uj;replace bK:=BR.cell;replace bL:=BR.free;replace dY:=au.later (dY) Uj;replace sI:=dY.cell;replace sH:=dY.free;refine aL [_,_] rfl (fun w7 gM=>?_);replace BR:=au.later (BR) gM;replace bK:=BR.cell;replace bL:=BR.free;replace dY:=au.later (dY) gM;replace sI:=dY.cell;replace sH:=dY.free;replace fZ:=au.later (fZ) gM;replace Ay:=fZ.cell;replace Ao:=fZ.free;have n1:b1≠b2:=fun e=>R8 (by simp [e]);have n2:b2≠b1:=fun e=>n1 e.symm;have n3:=BR.ne dY zd;have n4:=BR.ne fZ zd;go_wp2_with fail
  refine ((yh _ d _ (aS.aO aI)).mono (by rw [HSG.out];exact fun _ _ h=>h)).mono ?_;rintro e v5 ⟨rfl,nT⟩;replace HN:=zh (aK.carry HN.out aI nT);replace HM:=zh (aK.carry HM.out aI nT);replace dY:au _ (b1) _ _:=au.later aT nT;(try simp only [List.setIfInBounds_toArray,List.set_cons_zero,List.set_cons_succ] at dY);replace sI:=dY.cell;replace sH:=dY.free;replace fZ:au _ (b2) _ _:=au.later aT nT;(try simp only [List.setIfInBounds_toArray,List.set_cons_zero,List.set_cons_succ] at fZ);replace Ay:=fZ.cell;replace Ao:=fZ.free;replace BR:au _ (w.heap.size+1) _ _:=au.later aT nT;(try simp only [List.setIfInBounds_toArray,List.set_cons_zero,List.set_cons_succ] at BR);replace bK:=BR.cell;replace bL:=BR.free;go_wp2_with fail
  refine ((qP _ _ n.natAbs d.natAbs _ aI aI (Nat.le_trans S1.out zo) (Nat.le_trans S2.out zo)).mono (by rw [Eg.out];exact fun _ _ h=>h)).mono ?_;rintro e v6 ⟨v,rfl,hc6,hv⟩;obtain ⟨ax2,lHG,aC0,rfl⟩:=hv.slice;have HG:=zh hv;clear hv;replace HN:=zh (aK.later HN.out hc6);replace HM:=zh (aK.later HM.out hc6);replace dY:=au.later (dY) hc6;replace sI:=dY.cell;replace sH:=dY.free;replace fZ:=au.later (fZ) hc6;replace Ay:=fZ.cell;replace Ao:=fZ.free;replace BR:=au.later (BR) hc6;replace bK:=BR.cell;replace bL:=BR.free;go_wp2_with fail
  refine ((iN _ _ g 1 _ aI (aK.lit zo zo)).mono (by rw [HS.out];exact fun _ _ h=>h)).mono ?_;rintro e v7 ⟨rfl,JV⟩;replace BR:au _ (w.heap.size+1) _ _:=au.later aT JV;(try simp only [List.setIfInBounds_toArray,List.set_cons_zero,List.set_cons_succ] at BR);replace bK:=BR.cell;replace bL:=BR.free;go_wp2_with fail
  refine aP rfl rfl aT Tryz.underlying153 rfl zk ?_;exact ⟨rfl,ah⟩
theorem Nj (a:Fr) (h:rd a=none) (w:World):Calls Tryz.prog 152 #[a.v] w (oM w):=by
 obtain ⟨s,t⟩:=a
 show Calls _ _ #[.agg #[.string s,.string t]] _ _
 unfold rd at h;simp only at h;cases e1:Dec.whole s.data.toList with
 | none=>exact Jo s t e1 w
 | some n =>
  cases e2:Dec.whole t.data.toList with
  | none=>exact Jp s t n e1 e2 w
  | some d =>
   rw [e1,e2] at h;simp only at h;obtain ⟨h1,h2⟩:=j3 e1;obtain ⟨h3,h4⟩:=j3 e2;have hs:s=⟨(Lib.itoa n).toArray⟩:=AQ h1;have ht:t=⟨(Lib.itoa d).toArray⟩:=AQ h3;rw [hs,ht]
   by_cases hd:0<d
   ·refine Dw n d h2 h4 hd (fun e=>?_) w;rw [dif_pos ⟨hd,e⟩] at h;cases h
   ·exact Bv n d h2 h4 zo w
theorem uz {s t:ByteArray} {q:Rat} (h:rd ⟨s,t⟩=some q) (w:World):Calls Tryz.prog 152 #[.agg #[.string s,.string t]] w (IJ w q):=by
 obtain ⟨e,hq⟩:=Ci h;have:=Ni q hq w;rw [← e] at this;exact this
theorem qy {s t:ByteArray} (h:rd ⟨s,t⟩=none) (w:World):Calls Tryz.prog 152 #[.agg #[.string s,.string t]] w (oM w):=Nj ⟨s,t⟩ h w
theorem qU (a:Fr) (w:World) :
  Calls Tryz.prog 112 #[a.v] w (fun e w'=>e= .returned (.int .i64 (Pn a))∧Below w.heap.size w w'):=by
 obtain ⟨s,t⟩:=a
 show Calls _ _ #[.agg #[.string s,.string t]] _ _
 unfold Pn;cases h:rd ⟨s,t⟩ with
 | none =>
  have HR:=zh (qy h);clear h;go_enter Tryz.func112,Tryz.ntmps112
  go_wp2_with fail
  refine (HR.out _).mono ?_;rintro e v1 ⟨rfl,hc1⟩;go_wp2_with fail
  go_ret
  exact ⟨rfl,ah⟩
 | some q =>
  have HR:=zh (uz h);clear h;go_enter Tryz.func112,Tryz.ntmps112
  go_wp2_with fail
  refine (HR.out _).mono ?_;rintro e v1 ⟨v,rfl,hc1,hv⟩;obtain ⟨Nu,lHq,Ow,U9,mHq,Wu,rfl,Hq,FR⟩:=hv;replace Hq:=zh Hq;replace FR:=zh FR;go_wp2_with fail
  go_ret
  exact ⟨rfl,ah⟩
def pair (x:Int × Int):Value:=.tuple #[.int .i64 x.1,.int .i64 x.2]
theorem IB (s t s' t':ByteArray) (w:World) :
  Calls Tryz.prog 157 #[.agg #[.string s,.string t],.agg #[.string s',.string t'],.func (.func 158) #[] #[]] w (fun e w'=>e= .returned (pair (Ou ⟨s,t⟩ ⟨s',t'⟩))∧Below w.heap.size w w'):=by
 unfold Ou;cases h:rd ⟨s,t⟩ with
 | none =>
  have HR:=zh (qy h);cases k:rd ⟨s',t'⟩ with
  | none =>
   have HS:=zh (qy k);clear h k;go_enter Tryz.func157,Tryz.ntmps157
   go_wp2_with fail
   refine (HR.out _).mono ?_;rintro e v1 ⟨rfl,hc1⟩;have B1:=au.later (au.oN _ _ _ _) hc1;have cB1:=B1.cell;have FQ:=B1.free;have lB1:=B1.lt;go_wp2_with fail
   refine (HS.out _).mono ?_;rintro e v2 ⟨rfl,hc2⟩;go_wp2_with fail
   go_ret2
   exact ⟨rfl,ah⟩
  | some q =>
   have HS:=zh (uz k);clear h k;go_enter Tryz.func157,Tryz.ntmps157
   go_wp2_with fail
   refine (HR.out _).mono ?_;rintro e v1 ⟨rfl,hc1⟩;have B1:=au.later (au.oN _ _ _ _) hc1;have cB1:=B1.cell;have FQ:=B1.free;have lB1:=B1.lt;go_wp2_with fail
   refine (HS.out _).mono ?_;rintro e v2 ⟨v,rfl,hc2,hv⟩;obtain ⟨Nu,lHq,Ow,U9,mHq,Wu,rfl,Hq,FR⟩:=hv;replace Hq:=zh Hq;replace FR:=zh FR;go_wp2_with fail
   go_ret2
   exact ⟨rfl,ah⟩
 | some p =>
  have HR:=zh (uz h);cases k:rd ⟨s',t'⟩ with
  | none =>
   have HS:=zh (qy k);clear h k;go_enter Tryz.func157,Tryz.ntmps157
   go_wp2_with fail
   refine (HR.out _).mono ?_;rintro e v1 ⟨v,rfl,hc1,hv⟩;obtain ⟨al7,lHp,as7,aw9,mHp,aB6,rfl,Hp,Hpd⟩:=hv;replace Hp:=zh Hp;replace Hpd:=zh Hpd;have B1:=au.later (au.oN _ _ _ _) hc1;have cB1:=B1.cell;have FQ:=B1.free;have lB1:=B1.lt;go_wp2_with fail
   refine (HS.out _).mono ?_;rintro e v2 ⟨rfl,hc2⟩;go_wp2_with fail
   go_ret2
   exact ⟨rfl,ah⟩
  | some q =>
   have HS:=zh (uz k);have KP:=zh ((qC (Ci h).2).mono (show 67≤1000000 by omega));have KQ:=zh ((qC (Ci k).2).mono (show 67≤1000000 by omega));clear h k;go_enter Tryz.func157,Tryz.ntmps157
   go_wp2_with fail
   refine (HR.out _).mono ?_;rintro e v1 ⟨v,rfl,hc1,hv⟩;obtain ⟨al7,lHp,as7,aw9,mHp,aB6,rfl,Hp,Hpd⟩:=hv;replace Hp:=zh Hp;replace Hpd:=zh Hpd;have B1:=au.later (au.oN _ _ _ _) hc1;have cB1:=B1.cell;have FQ:=B1.free;have lB1:=B1.lt;go_wp2_with fail
   refine (HS.out _).mono ?_;rintro e v2 ⟨v,rfl,hc2,hv⟩;obtain ⟨Nu,lHq,Ow,U9,mHq,Wu,rfl,Hq,FR⟩:=hv;replace Hq:=zh Hq;replace FR:=zh FR;replace X1:au _ (v1.heap.size) _ _:=au.later aT hc2;(try simp only [List.setIfInBounds_toArray,List.set_cons_zero,List.set_cons_succ] at X1);replace jd:=X1.cell;replace iZ:=X1.free;replace iY:=X1.lt;go_wp2_with fail
   refine (qB _ _ p q _ (pQ.of aI aI) (pQ.of aI aI) KP.out KQ.out).mono ?_;rintro e v3 ⟨rfl,hc3⟩;go_wp2_with fail
   go_ret2
   exact ⟨rfl,ah⟩
theorem ac8 (a b:Fr) (w:World) :
  Calls Tryz.prog 100 #[a.v,b.v] w (fun e w'=>e= .returned (pair (Ou a b))∧Below w.heap.size w w'):=by
 obtain ⟨s,t⟩:=a;obtain ⟨s',t'⟩:=b
 show Calls _ _ #[.agg #[.string s,.string t],.agg #[.string s',.string t']] _ _
 have H:=zh (IB s t s' t');unfold pair at *;generalize Ou ⟨s,t⟩ ⟨s',t'⟩=c at *;obtain ⟨x,y⟩:=c;go_enter Tryz.func100,Tryz.ntmps100
 go_wp2_with fail
 refine (H.out _).mono ?_;rintro e v1 ⟨rfl,hc1⟩;go_wp2_with fail
 go_ret2
 exact ⟨rfl,ah⟩
theorem Cu {z:Int} {d:Nat} (hd:0<d) (h:z<0):z / (d:Int)= -((z.natAbs / d+(if z.natAbs%d=0 then 0 else 1):Nat):Int):=by
 have h1:=dJ.Lr z.natAbs d hd;have e:z= -(z.natAbs:Int):=by omega
 conv=>lhs;rw [e]
 rw [h1];unfold dJ.uF
 by_cases c:z.natAbs%d=0
 ·rw [if_neg zo,if_pos c,Nat.add_zero]
 ·rw [if_pos ⟨by omega,rfl⟩,if_neg c]
theorem Si (v u:Value) (z:Int) (d:Nat) (w:World) (h:aS w v z) (hu:aK w u d) (hd:0<d) (kz:sz 1000000000 z.natAbs≤549755813888) (kd:sz 1000000000 d≤549755813888) :
  Calls Tryz.prog 230 #[v,u] w (fun e w'=>∃ r,e= .returned r∧Below w.heap.size w w'∧aS w' r (z / (d:Int))):=by
 obtain ⟨IW,lH,I5,rfl,H⟩:=h;replace H:=zh H;obtain ⟨Qv,lG,Ti,rfl⟩:=hu.slice;have G:=zh hu;clear hu;have HD:=zh hd;have KZ:=zh kz;have KD:=zh kd;have KQ:Hid (sz 1000000000 (z.natAbs / d)≤549755813888):=zh (Nat.le_trans (dM zo (Nat.div_le_self _ _)) kz);obtain ⟨q,Eq⟩:∃ y:Nat,Hid (z.natAbs / d=y):=⟨_,zh rfl⟩;obtain ⟨r,Er⟩:∃ y:Nat,Hid (z.natAbs%d=y):=⟨_,zh rfl⟩;rw [Eq.out] at KQ;clear hd kz kd
 by_cases hz:z<0
 ·have g1:decide (z<0)=true:=decide_eq_true hz;go_enter Tryz.func230,Tryz.ntmps230
  go_wp2_with fail
  refine ((dR _ _ z.natAbs d _ aI aI HD.out KZ.out).mono (by rw [Eq.out,Er.out];exact fun _ _ h=>h)).mono ?_;rintro e v1 ⟨v,vr,rfl,hc1,hv,j4⟩;obtain ⟨Nu,lHq,Ow,rfl⟩:=hv.slice;have Hq:=zh hv;clear hv;obtain ⟨al6,ay1,as6,rfl⟩:=j4.slice;have Hqr:=zh j4;clear j4;have BR:=au.later (au.oN _ _ _ _) hc1;have bK:=BR.cell;have bL:=BR.free;have eG:=BR.lt;have B0:=au.later (au.alloc (au.new _ _ _) _) hc1;have cB0:=B0.cell;have jc:=B0.free;have lB0:=B0.lt;go_wp2_with fail
  by_cases hr:r=0
  ·have iQ:=zh hr;refine (fQ _ r _ aI).mono ?_;rintro e v5 ⟨rfl,rfl⟩;rw [show decide (r=0)=true from decide_eq_true hr];clear hr;go_wp2_with fail
   refine (dx _ q true _ aI).mono ?_;rintro e v3 ⟨v,rfl,hc3,hv⟩;obtain ⟨vZ,N8,wN,rfl,Hs⟩:=hv;replace Hs:=zh Hs;replace BR:=au.later (BR) hc3;replace bK:=BR.cell;replace bL:=BR.free;replace eG:=BR.lt;replace B0:=au.later (B0) hc3;replace cB0:=B0.cell;replace jc:=B0.free;replace lB0:=B0.lt;go_wp2_with fail
   have HE:Hid (gB q true=z / (d:Int)):=by
    rw [Cu HD.out hz,Er.out,Eq.out,if_pos iQ.out,Nat.add_zero];rfl
   refine dG rfl rfl aT Tryz.underlying151 rfl zk ?_;exact ⟨_,rfl,ah,(aS.aO aI).cast HE.out⟩
  ·have iQ:=zh hr;refine (fQ _ r _ aI).mono ?_;rintro e v5 ⟨rfl,rfl⟩;rw [show decide (r=0)=false from decide_eq_false hr];clear hr;go_wp2_with fail
   refine (Dz _ _ q 1 _ aI (aK.lit zo zo) (Nat.le_trans KQ.out zo) (by have:=aW (B:=1000000000) zo 1 1 zo;omega)).mono ?_;rintro e v2 ⟨v,rfl,hc2,hv⟩;obtain ⟨al7,lHp,as7,rfl⟩:=hv.slice;have Hp:=zh hv;clear hv;replace BR:au _ (w.heap.size+1) _ _:=au.later aT hc2;(try simp only [List.setIfInBounds_toArray,List.set_cons_zero,List.set_cons_succ] at BR);replace bK:=BR.cell;replace bL:=BR.free;replace eG:=BR.lt;replace B0:au _ (w.heap.size) _ _:=au.later aT hc2;(try simp only [List.setIfInBounds_toArray,List.set_cons_zero,List.set_cons_succ] at B0);replace cB0:=B0.cell;replace jc:=B0.free;replace lB0:=B0.lt;go_wp2_with fail
   refine (dx _ (q+1) true _ aI).mono ?_;rintro e v3 ⟨v,rfl,hc3,hv⟩;obtain ⟨vZ,N8,wN,rfl,Hs⟩:=hv;replace Hs:=zh Hs;replace BR:=au.later (BR) hc3;replace bK:=BR.cell;replace bL:=BR.free;replace eG:=BR.lt;replace B0:=au.later (B0) hc3;replace cB0:=B0.cell;replace jc:=B0.free;replace lB0:=B0.lt;go_wp2_with fail
   have HE:Hid (gB (q+1) true=z / (d:Int)):=by
    rw [Cu HD.out hz,Er.out,Eq.out,if_neg iQ.out];rfl
   refine dG rfl rfl aT Tryz.underlying151 rfl zk ?_;exact ⟨_,rfl,ah,(aS.aO aI).cast HE.out⟩
 ·have g1:decide (z<0)=false:=decide_eq_false hz;go_enter Tryz.func230,Tryz.ntmps230
  go_wp2_with fail
  refine ((dR _ _ z.natAbs d _ aI aI HD.out KZ.out).mono (by rw [Eq.out,Er.out];exact fun _ _ h=>h)).mono ?_;rintro e v1 ⟨v,vr,rfl,hc1,hv,j4⟩;obtain ⟨Nu,lHq,Ow,rfl⟩:=hv.slice;have Hq:=zh hv;clear hv;obtain ⟨al6,ay1,as6,rfl⟩:=j4.slice;have Hqr:=zh j4;clear j4;have BR:=au.later (au.oN _ _ _ _) hc1;have bK:=BR.cell;have bL:=BR.free;have eG:=BR.lt;have B0:=au.later (au.alloc (au.new _ _ _) _) hc1;have cB0:=B0.cell;have jc:=B0.free;have lB0:=B0.lt;go_wp2_with fail
  refine (dx _ q false _ aI).mono ?_;rintro e v3 ⟨v,rfl,hc3,hv⟩;obtain ⟨vZ,N8,wN,rfl,Hs⟩:=hv;replace Hs:=zh Hs;replace BR:=au.later (BR) hc3;replace bK:=BR.cell;replace bL:=BR.free;replace eG:=BR.lt;replace B0:=au.later (B0) hc3;replace cB0:=B0.cell;replace jc:=B0.free;replace lB0:=B0.lt;go_wp2_with fail
  have HE:Hid (gB q false=z / (d:Int)):=by
   have h1:=Eq.out;have h2:(z.natAbs:Int)=z:=by omega
   rw [← h2,← h1]
   show ((z.natAbs / d:Nat):Int)=_
   rw [Int.natCast_ediv]
  refine dG rfl rfl aT Tryz.underlying151 rfl zk ?_;exact ⟨_,rfl,ah,(aS.aO aI).cast HE.out⟩
theorem Vn {n m d:Nat} {z:Int} (hn:sz 1000000000 n≤1000000) (hs:sz 1000000000 m≤1000000) (hd:sz 1000000000 d≤1000000) (hz:z.natAbs≤n*(m*2)+d) :
  sz 1000000000 (m*2)≤1000001∧sz 1000000000 (n*(m*2))≤2000001∧sz 1000000000 z.natAbs≤2000002∧sz 1000000000 (d*2)≤1000001:=by
 have h2:=aW (B:=1000000000) zo 1 2 zo;have h3:=jC (B:=1000000000) zo m 2;have h4:=jC (B:=1000000000) zo n (m*2);have h5:=jC (B:=1000000000) zo d 2;have h6:=Dl (B:=1000000000) zo (n*(m*2)) d;have h7:=dM (B:=1000000000) zo hz;refine ⟨by omega,by omega,by omega,by omega⟩
theorem Vo (x y:Value) (q:Rat) (m:Nat) (w:World) (hx:pQ w x q) (hy:aK w y m) (kn:sz 1000000000 q.num.natAbs≤1000000) (kd:sz 1000000000 q.den≤1000000) (km:sz 1000000000 m≤1000000) :
  Calls Tryz.prog 189 #[x,y] w (fun e w'=>∃ r,e= .returned r∧Below w.heap.size w w'∧aS w' r (dJ.gD (q.num*(m:Int)) q.den)):=by
 obtain ⟨IW,lH,I5,pbH,mH,cbH,rfl,H,Hd⟩:=hx;replace H:=zh H;replace Hd:=zh Hd;obtain ⟨Qv,lG,Ti,rfl⟩:=hy.slice;have G:=zh hy;clear hy;have hd:0<q.den:=q.den_pos;have HZ:=zh (Vn (z:=q.num*((m*2:Nat):Int)+(q.den:Int)) kn km kd (by have h1:=Int.natAbs_add_le (q.num*((m*2:Nat):Int)) (q.den:Int);rw [Int.natAbs_mul,Int.natAbs_natCast,Int.natAbs_natCast] at h1;exact h1))
 have HE:Hid ((q.num*((m*2:Nat):Int)+(q.den:Int)) / ((q.den*2:Nat):Int)=dJ.gD (q.num*(m:Int)) q.den):=by
  refine zh ?_;unfold dJ.gD;rw [Int.natCast_mul,Int.natCast_mul,Int.mul_comm 2 (q.num*(m:Int)),Int.mul_assoc,Int.mul_comm 2 (q.den:Int)];rfl
 have KN:=zh kn;have KD:=zh kd;have KM:=zh km;have HD:=zh hd;have KM1:Hid (sz 1000000000 (q.num*((m*2:Nat):Int)).natAbs≤2000001):=zh (by rw [Int.natAbs_mul,Int.natAbs_natCast];exact HZ.out.2.1);have KD1:Hid (sz 1000000000 (gB q.den false).natAbs≤1000000):=zh (by rw [fF];exact kd);have HS:Hid (gB q.den false=(q.den:Int)):=zh rfl;obtain ⟨r,Er⟩:∃ y:Int,Hid (dJ.gD (q.num*(m:Int)) q.den=y):=⟨_,zh rfl⟩;rw [Er.out] at HE ⊢;obtain ⟨n,En⟩:∃ y:Int,Hid (q.num=y):=⟨_,zh rfl⟩;obtain ⟨d,Ed⟩:∃ y:Nat,Hid (q.den=y):=⟨_,zh rfl⟩;rw [En.out] at H HE KN KM1 HZ ⊢;rw [Ed.out] at Hd HE KD KD1 HS HD HZ;obtain ⟨k,Ek⟩:∃ y:Nat,Hid (m*2=y):=⟨_,zh rfl⟩;obtain ⟨e,Ee⟩:∃ y:Nat,Hid (d*2=y):=⟨_,zh rfl⟩;obtain ⟨y,Ey⟩:∃ y:Int,Hid (n*(k:Int)+gB d false=y):=⟨_,zh rfl⟩;rw [Ek.out] at HE KM1 HZ;rw [Ee.out] at HE HZ;rw [← HS.out,Ey.out] at HE HZ;have HD2:Hid (0<e):=zh (by have:=HD.out;have:=Ee.out;omega)
 clear kn kd km hd;go_enter Tryz.func189,Tryz.ntmps189
 go_wp2_with fail
 have HL:Hid _:=zh (aK.lit (w:=(w.alloc (.cells #[.slice IW lH I5,.bool (decide (n<0)),.slice pbH mH cbH] 153)).alloc (.cells #[.slice none 0 0,.bool false] 151)) (d:=2) zo zo);simp at HL
 refine aD [(.pure,0),(.read,1),(.pure,2),(.pure,3),(.pure,6),(.read,7),(.ext,4),(.ext,5),(.ext,8),(.ext,9),(.alloc #[.slice none 0 0,.bool false] 151,10),(.fin,11)] zk zk zR zP ?_;refine zV ?_;refine aG rfl rfl (fun w1 hb1 J hJ=>?_);go_simp;replace H:=zh (aK.carry H.out aI hb1);replace Hd:=zh (aK.carry Hd.out aI hb1);replace HL:=zh (aK.carry HL.out aI hb1);have BR:=au.later (au.drew (au.alloc (au.oN _ _ _ _) _)) hb1;have bK:=BR.cell;have bL:=BR.free;have eG:=BR.lt;have B0:=au.later (au.drew (au.alloc (au.alloc (au.new _ _ _) _) _)) hb1;have cB0:=B0.cell;have jc:=B0.free;have lB0:=B0.lt;refine ((iD _ _ m 2 _ aI aI (Nat.le_trans KM.out zo) (by have:=aW (B:=1000000000) zo 1 2 zo;omega)).mono (by rw [Ek.out];exact fun _ _ h=>h)).mono ?_;rintro e v1 ⟨v,rfl,hc1,hv⟩;obtain ⟨al8,lHa,as8,rfl⟩:=hv.slice;have Ha:=zh hv;clear hv
 replace H:=zh (aK.later H.out hc1);replace Hd:=zh (aK.later Hd.out hc1);replace HL:=zh (aK.later HL.out hc1);replace BR:=au.later (BR) hc1;replace bK:=BR.cell;replace bL:=BR.free;replace eG:=BR.lt;replace B0:=au.later (B0) hc1;replace cB0:=B0.cell;replace jc:=B0.free;replace lB0:=B0.lt;refine hJ _ _ hc1 ?_;clear hJ J;refine aG rfl rfl (fun w2 hb2 J hJ=>?_);go_simp;replace Ha:=zh (aK.later Ha.out hb2);replace H:=zh (aK.later H.out hb2);replace Hd:=zh (aK.later Hd.out hb2);replace HL:=zh (aK.later HL.out hb2);replace BR:=au.later (BR) hb2;replace bK:=BR.cell;replace bL:=BR.free;replace eG:=BR.lt;replace B0:=au.later (B0) hb2;replace cB0:=B0.cell;replace jc:=B0.free;replace lB0:=B0.lt;refine (mo _ _ n k _ (aS.aO aI) aI (Nat.le_trans KN.out zo) (Nat.le_trans HZ.out.1 zo)).mono ?_;rintro e v2 ⟨v,rfl,hc2,hv⟩
 obtain ⟨Vd,lHb,Wx,rfl,Hb⟩:=hv;replace Hb:=zh Hb;replace Ha:=zh (aK.later Ha.out hc2);replace H:=zh (aK.later H.out hc2);replace Hd:=zh (aK.later Hd.out hc2);replace HL:=zh (aK.later HL.out hc2);replace BR:=au.later (BR) hc2;replace bK:=BR.cell;replace bL:=BR.free;replace eG:=BR.lt;replace B0:=au.later (B0) hc2;replace cB0:=B0.cell;replace jc:=B0.free;replace lB0:=B0.lt;refine hJ _ _ hc2 ?_;clear hJ J;refine aG rfl rfl (fun w3 hb3 J hJ=>?_);go_simp;replace Hb:=zh (aK.later Hb.out hb3);replace Hd:=zh (aK.later Hd.out hb3);replace HL:=zh (aK.later HL.out hb3);replace BR:=au.later (BR) hb3;replace bK:=BR.cell;replace bL:=BR.free;replace eG:=BR.lt;replace B0:=au.later (B0) hb3;replace cB0:=B0.cell;replace jc:=B0.free;replace lB0:=B0.lt;refine (dx _ d false _ aI).mono ?_;rintro e v3 ⟨v,rfl,hc3,hv⟩;obtain ⟨ax1,lHc,aB9,rfl,Hc⟩:=hv;replace Hc:=zh Hc
 replace Hb:=zh (aK.later Hb.out hc3);replace Hd:=zh (aK.later Hd.out hc3);replace HL:=zh (aK.later HL.out hc3);replace BR:=au.later (BR) hc3;replace bK:=BR.cell;replace bL:=BR.free;replace eG:=BR.lt;replace B0:=au.later (B0) hc3;replace cB0:=B0.cell;replace jc:=B0.free;replace lB0:=B0.lt;refine hJ _ _ hc3 ?_;clear hJ J;refine aG rfl rfl (fun w4 hb4 J hJ=>?_);go_simp;replace Hd:=zh (aK.later Hd.out hb4);replace HL:=zh (aK.later HL.out hb4);replace Hc:=zh (aK.later Hc.out hb4);replace BR:=au.later (BR) hb4;replace bK:=BR.cell;replace bL:=BR.free;replace eG:=BR.lt;replace B0:=au.later (B0) hb4;replace cB0:=B0.cell;replace jc:=B0.free;replace lB0:=B0.lt;refine ((sQ _ _ (n*(k:Int)) (gB d false) _ (aS.aO aI) (aS.aO aI) (Nat.le_trans KM1.out zo) (Nat.le_trans KD1.out zo)).mono (by rw [Ey.out];exact fun _ _ h=>h)).mono ?_;rintro e v4 ⟨v,rfl,hc4,hv⟩
 obtain ⟨vZ,N8,wN,rfl,Hs⟩:=hv;replace Hs:=zh Hs;replace Hd:=zh (aK.later Hd.out hc4);replace HL:=zh (aK.later HL.out hc4);replace Hc:=zh (aK.later Hc.out hc4);replace BR:=au.later (BR) hc4;replace bK:=BR.cell;replace bL:=BR.free;replace eG:=BR.lt;replace B0:=au.later (B0) hc4;replace cB0:=B0.cell;replace jc:=B0.free;replace lB0:=B0.lt;refine hJ _ _ hc4 ?_;clear hJ J;refine aX rfl (fun b w5 Rv hNb aK7 hAb hxb=>?_);go_simp;replace hxb:au _ _ _ _:=hxb;have hWb:w.heap.size≤b:=(by first|omega|exact Nat.le_trans (Below.size (B:=w.heap.size) ah) hNb);refine aL [_] rfl (fun w6 hb6=>?_);replace hxb:=au.later (hxb) hb6;replace aB5:=hxb.cell;replace aB4:=hxb.free;replace ay0:=hxb.lt;have h46:Below v4.heap.size v4 w6:=ah;replace BR:=au.later (BR) h46;replace bK:=BR.cell;replace bL:=BR.free;replace eG:=BR.lt;replace Hs:=zh (aK.later Hs.out h46)
 replace B0:=au.later (B0) h46;replace cB0:=B0.cell;replace jc:=B0.free;replace lB0:=B0.lt;replace Hd:=zh (aK.later Hd.out h46);replace HL:=zh (aK.later HL.out h46);have hNe:w.heap.size+1+1+1≤b:=hNb;have n0:w.heap.size≠b:=by omega
 have n1:w.heap.size+1≠b:=by omega
 have h6:Below w.heap.size w w6:=ah;go_wp2_with fail
 obtain ⟨w7,E7⟩:∃ x,(w6.setCell ⟨b,0,none⟩ (.slice vZ N8 wN)).setCell ⟨b,1,none⟩ (.bool (decide (y<0)))=x:=⟨_,rfl⟩
 have h7:Below w.heap.size w w7:=by
  rw [← E7];have:w.heap.size≤b:=by omega
  exact (h6.setCell this _).setCell this _
 replace BR:au w7 (w.heap.size+1) #[.slice none 0 0,.bool false] 151:=by rw [← E7];exact (BR.setOther _ n1).setOther _ n1
 replace B0:au w7 w.heap.size #[.slice IW lH I5,.bool (decide (n<0)),.slice pbH mH cbH] 153:=by rw [← E7];exact (B0.setOther _ n0).setOther _ n0
 have U5:∀ {v:Value} {x:Nat},aK w6 v x→aK w7 v x:=fun h=>by rw [← E7];exact (h.setOther hxb zd _ _).setOther (hxb.set 0 _) zd _ _
 replace Hs:=zh (U5 Hs.out);replace Hd:=zh (U5 Hd.out);replace HL:=zh (U5 HL.out);replace hxb:au w7 b #[.slice vZ N8 wN,.bool (decide (y<0))] 151:=by rw [← E7];exact (hxb.set 0 _).set 1 _
 rw [E7];clear E7 U5 h6 h46 hb6 hb1 hc1 hc2 hc3 hc4;have bK:=au.cell BR;have eG:=au.lt BR;have bL:=au.free BR;have cB0:=au.cell B0;have lB0:=au.lt B0;have jc:=au.free B0;have aB5:=au.cell hxb;have ay0:=au.lt hxb;have aB4:=au.free hxb;refine aD [(.read,0),(.pure,1),(.read,2),(.pure,3),(.ext,4),(.ext,5),(.fin,6)] zk zk zR zP ?_;refine zV ?_;refine aG rfl rfl (fun w5 hb5 J hJ=>?_);go_simp;replace Hs:=zh (aK.carry Hs.out aI hb5);replace BR:au _ (w.heap.size+1) _ _:=au.later aT hb5;(try simp only [List.setIfInBounds_toArray,List.set_cons_zero,List.set_cons_succ] at BR);replace bK:=BR.cell;replace bL:=BR.free;replace eG:=BR.lt;refine ((iD _ _ d 2 _ aI aI (Nat.le_trans KD.out zo) (by have:=aW (B:=1000000000) zo 1 2 zo;omega)).mono (by rw [Ee.out];exact fun _ _ h=>h)).mono ?_;rintro e v5 ⟨v,rfl,nT,hv⟩
 obtain ⟨al8,lHa,as8,rfl⟩:=hv.slice;have Ha:=zh hv;clear hv;replace Hs:=zh (aK.later Hs.out nT);replace BR:=au.later (BR) nT;replace bK:=BR.cell;replace bL:=BR.free;replace eG:=BR.lt;refine hJ _ _ nT ?_;clear hJ J;refine aG rfl rfl (fun w6 hb6 J hJ=>?_);go_simp;replace BR:=au.later (BR) hb6;replace bK:=BR.cell;replace bL:=BR.free;replace eG:=BR.lt;refine ((Si _ _ y e _ (aS.aO aI) aI HD2.out (Nat.le_trans HZ.out.2.2.1 zo) (Nat.le_trans HZ.out.2.2.2 zo)).mono (by rw [HE.out];exact fun _ _ h=>h)).mono ?_;rintro e v6 ⟨v,rfl,hc6,hv⟩;obtain ⟨aH7,lHr,aM7,rfl,Hr⟩:=hv;replace Hr:=zh Hr;replace BR:=au.later (BR) hc6;replace bK:=BR.cell;replace bL:=BR.free;replace eG:=BR.lt;refine hJ _ _ hc6 ?_;clear hJ J;refine aL [_] rfl (fun w9 nU=>?_);replace BR:=au.later (BR) nU;replace bK:=BR.cell;replace bL:=BR.free;replace eG:=BR.lt;go_wp2_with fail
 refine dG rfl rfl aT Tryz.underlying151 rfl zk ?_;exact ⟨_,rfl,ah,aS.aO aI⟩
end Go.Proofs.eX
namespace Go.Dec
open Go Go.Lib
theorem o9:∀ (l:List UInt8) (acc:Nat),nJ l→acc≤18446744073709551615→parseUintM 18446744073709551615 acc l=if acc*10^l.length+num l≤18446744073709551615 then .ok (acc*10^l.length+num l) else .range
 | [],acc,_,ha=>by
  simp only [parseUintM,List.length_nil,Nat.pow_zero,Nat.mul_one,DK,Nat.add_zero];rw [if_pos ha]
 | b::l,acc,hd,ha=>by
  have hb:=hd b zi;have hl:nJ l:=fun x hx=>hd x (by simp [hx])
  have hn:num (b::l)=(b.toNat - 48)*10^l.length+num l:=by
   have:=zx [b] l;simp only [List.singleton_append] at this;rw [this];simp [num]
  have hp:0<10^l.length:=Nat.pow_pos zo
  have e:acc*10^(b::l).length+num (b::l)=(acc*10+(b.toNat - 48))*10^l.length+num l:=by
   rw [hn,List.length_cons,Nat.pow_succ,Nat.add_mul,Nat.add_assoc]
   congr 1
   rw [Nat.mul_assoc,Nat.mul_comm 10]
  rw [e];have hge:∀ x,x≤x*10^l.length+num l:=fun x=>Nat.le_trans (Nat.le_mul_of_pos_right x hp) (Nat.le_add_right _ _);unfold parseUintM;rw [if_pos hb]
  by_cases h1:1844674407370955162≤acc
  ·rw [if_pos h1,if_neg];have:=hge (acc*10+(b.toNat - 48));omega
  ·rw [if_neg h1]
   by_cases h2:18446744073709551615<acc*10+(b.toNat - 48)
   ·rw [if_pos h2,if_neg];have:=hge (acc*10+(b.toNat - 48));omega
   ·rw [if_neg h2];exact o9 l _ hl zo
theorem Jv (n:Nat):parseIntB 64 (itoa (n:Int))=if n<9223372036854775808 then .ok (n:Int) else .range:=by
 have hi:itoa (n:Int)=decDigits n:=rfl;rw [hi]
 obtain ⟨c,r,hc⟩:∃ c r,decDigits n=c::r:=by
  cases h:decDigits n with
  | nil=>exact absurd h (qQ n)
  | cons c r=>exact ⟨c,r,rfl⟩
 have hd:=kI n;have hn:=kX n;rw [hc] at hd hn ⊢;have hcd:=hd c zi;rw [parseIntB_plain 64 c r zo zo]
 have hu:parseUintB 64 (c::r)=parseUintM 18446744073709551615 0 (c::r):=by
  unfold parseUintB;rw [if_neg zi]
 rw [hu,o9 _ _ hd zo,hn,Nat.zero_mul,Nat.zero_add];have e:(2:Nat)^(64 - 1)=9223372036854775808:=by decide
 rw [e]
 by_cases h:n≤18446744073709551615
 ·rw [if_pos h];unfold signlessC
  by_cases h2:n<9223372036854775808
  ·simp only;rw [if_neg zo,if_pos h2]
  ·simp only;rw [if_pos zo,if_neg h2]
 ·rw [if_neg h,if_neg zo];rfl
end Go.Dec
namespace Go.Proofs.whole
open Go Go.RowKit Go.SW Go.Num Go.Mem Go.Proofs Go.Dec Go.cK
def Er (w : World) : Prop := ∃ tp p, w.var? Tryz.prog "strconv.ErrRange" = some #[.iface tp p] ∧ (Tryz.prog.globalNamed "strconv.ErrRange").getD 0 < w.heap.size
theorem Er.later {w w':World} (h:Er w) (hb:Below w.heap.size w w'):Er w':=by
 obtain ⟨tp,p,h1,h2⟩:=h
 refine ⟨tp, p, var?_below hb (g := (Tryz.prog.globalNamed "strconv.ErrRange").getD 0) ?_ h2 h1, Nat.lt_of_lt_of_le h2 hb.size⟩
 exact Tryz.laysC174.m16
def JI (n:Nat):Value:=if n<9223372036854775808 then .tuple #[.int .i64 (n:Int),.int .i64 0] else .tuple #[.int .i64 0,.int .i64 6]
end Go.Proofs.whole
namespace Go.Dec
open Go Go.Lib
theorem Jw (n:Nat):parseUintB 64 (decDigits n)=if n≤18446744073709551615 then .ok n else .range:=by
 obtain ⟨c,r,hc⟩:∃ c r,decDigits n=c::r:=by
  cases h:decDigits n with
  | nil=>exact absurd h (qQ n)
  | cons c r=>exact ⟨c,r,rfl⟩
 have hd:=kI n;have hn:=kX n;rw [hc] at hd hn ⊢
 have hu:parseUintB 64 (c::r)=parseUintM 18446744073709551615 0 (c::r):=by
  unfold parseUintB;rw [if_neg zi]
 rw [hu,o9 _ _ hd zo,hn,Nat.zero_mul,Nat.zero_add]
theorem Gw (z:Int):parseIntB 64 (itoa z)=if -9223372036854775808≤z∧z<9223372036854775808 then .ok z else .range:=by
 rcases Int.lt_or_le z 0 with h|h
 ·obtain ⟨n,rfl⟩:∃ n:Nat,z= -(n:Int):=⟨z.natAbs,by omega⟩
  have hi:itoa (-(n:Int))=45::decDigits n:=by
   unfold itoa;rw [if_pos h,Int.natAbs_neg,Int.natAbs_natCast]
  rw [hi,parseIntB_minus,Jw];have e:(2:Nat)^(64 - 1)=9223372036854775808:=by decide
  rw [e]
  by_cases h1:n≤18446744073709551615
  ·rw [if_pos h1];unfold signedC
   by_cases h2:9223372036854775808<n
   ·simp only;rw [if_pos h2,if_neg zo]
   ·simp only;rw [if_neg h2,if_pos zo]
  ·rw [if_neg h1,if_neg zo];rfl
 ·obtain ⟨n,rfl⟩:∃ n:Nat,z=(n:Int):=⟨z.natAbs,by omega⟩;rw [Jv]
  by_cases h2:n<9223372036854775808
  ·rw [if_pos h2,if_pos zo]
  ·rw [if_neg h2,if_neg zo]
end Go.Dec
namespace Go.Proofs.whole
open Go Go.RowKit Go.SW Go.Num Go.Mem Go.Proofs Go.Dec Go.cK
def Zz (z:Int):Value:=if -9223372036854775808≤z∧z<9223372036854775808 then .tuple #[.int .i64 z,.int .i64 0] else .tuple #[.int .i64 0,.int .i64 6]
theorem Ns (z:Int) (hs:(Lib.itoa z).length≤601) (w:World) (he:Er w) :
  Calls Tryz.prog 229 #[mW z,.int .i64 10,.int .i64 64] w (fun e w'=>(if -9223372036854775808≤z∧z<9223372036854775808 then e= .returned (.tuple #[.int .i64 z,.nilIface]) else ∃ T p,e= .returned (.tuple #[.int .i64 (Lib.intSat 64 (Lib.itoa z)),.iface T (.pointer (some p))]))∧Below w.heap.size w w'):=by
 have hz:(⟨(Lib.itoa z).toArray⟩:ByteArray).size≤601:=hs;have hp:=Gw z
 by_cases h: -9223372036854775808≤z∧z<9223372036854775808
 ·rw [if_pos h] at hp;refine (Tryz.strconv_ParseInt_10_at64_ok ⟨(Lib.itoa z).toArray⟩ zo z hp w).mono ?_;rintro e w1 ⟨rfl,hw⟩;refine ⟨by rw [if_pos h],?_⟩
  rcases hw with rfl|⟨t,rfl⟩
  ·exact Below.refl _ _
  ·exact Lib.bytesWorld_below _ _ _
 ·rw [if_neg h] at hp;obtain ⟨tp,p,h1,h2⟩:=he;have hc:=World.var?_cell (P:=Tryz.prog) (w:=w) Tryz.laysC174.m16 h1 0;refine (Tryz.strconv_ParseInt_10_at64_range ⟨(Lib.itoa z).toArray⟩ zo hp (.iface tp p) w hc (Or.inr ⟨tp,p,rfl⟩)).mono ?_;rintro e w1 ⟨N,rfl, -, -, hb⟩;refine ⟨?_,hb⟩;rw [if_neg h];exact ⟨_,_,rfl⟩
theorem WV (z:Int) (hn:DI z.natAbs=true) (w:World) (he:Er w) :
  Calls Tryz.prog 188 #[mW z] w (fun e w'=>e= .returned (Zz z)∧Below w.heap.size w w'):=by
 have hd:(Lib.decDigits z.natAbs).length≤600:=dP.1 hn
 have hi:(Lib.itoa z).length≤601:=by
  unfold Lib.itoa
  by_cases h:z<0
  ·rw [if_pos h,List.length_cons];omega
  ·rw [if_neg h,show z.toNat=z.natAbs by omega];omega
 have hw:(whole (Lib.itoa z)).isSome=true:=by rw [dD hd];rfl
 have HC:Hid (∀ W:World,Calls Tryz.prog 203 #[mW z] W (fun e w'=>e= .returned (.int .i64 0)∧Below W.heap.size W w')):=zh (by
  intro W;have:=qU ⟨(Lib.itoa z).toArray⟩ W;rw [show (⟨(Lib.itoa z).toArray⟩:ByteArray).data.toList=Lib.itoa z from rfl,hw] at this;exact this)
 have HP:=zh (fun W h=>Ns z hi W h);have HE:=zh he;unfold Zz;clear hd hi hw he hn;unfold mW at *;generalize Lib.itoa z=t at *
 by_cases h: -9223372036854775808≤z∧z<9223372036854775808
 ·simp only [if_pos h] at HP ⊢;go_enter Tryz.func188,Tryz.ntmps188
  go_wp2_with fail
  refine (HC.out _).mono ?_;rintro e w1 ⟨rfl,hb1⟩;have HB1:=zh hb1;clear hb1;go_wp2_with fail
  refine (HP.out _ (HE.out.later HB1.out)).mono ?_;rintro e w2 ⟨rfl,hb2⟩;have hw:=Bt HB1.out hb2;clear hb2 HB1;go_wp2_with fail
  go_ret2
  exact ⟨rfl,hw⟩
 ·simp only [if_neg h] at HP ⊢;go_enter Tryz.func188,Tryz.ntmps188
  go_wp2_with fail
  refine (HC.out _).mono ?_;rintro e w1 ⟨rfl,hb1⟩;have HB1:=zh hb1;clear hb1;go_wp2_with fail
  refine (HP.out _ (HE.out.later HB1.out)).mono ?_;rintro e w2 ⟨⟨T,p,rfl⟩,hb2⟩;have hw:=Bt HB1.out hb2;clear hb2 HB1;go_wp2_with fail
  go_ret2
  exact ⟨rfl,hw⟩
end Go.Proofs.whole
namespace Go.Proofs.eX
open Go Go.RowKit Go.SW Go.Num Go.Mem Go.Proofs Go.Dec Go.cK
def DW (z:Int):Bool:=decide (-9223372036854775808≤z∧z<9223372036854775808)
theorem WU (z:Int) (w:World) (he:whole.Er w) :
  Calls Tryz.prog 188 #[mW z] w (fun e w'=>(∃ x k,(k=0↔DW z=true)∧(DW z=true→x=z)∧e= .returned (.tuple #[.int .i64 x,.int .i64 k]))∧Below w.heap.size w w'):=by
 cases h:DI z.natAbs with
 | true =>
  refine (whole.WV z h w he).mono ?_;rintro e w1 ⟨rfl,hb⟩;refine ⟨?_,hb⟩;unfold whole.Zz DW
  by_cases c: -9223372036854775808≤z∧z<9223372036854775808
  ·rw [if_pos c,decide_eq_true c];exact ⟨z,0,by simp,fun _=>rfl,rfl⟩
  ·rw [if_neg c,decide_eq_false c];exact ⟨0,6,by simp,(fun h=>by cases h),rfl⟩
 | false =>
  have hn:whole (Lib.itoa z)=none:=by
   cases e:whole (Lib.itoa z) with
   | none=>rfl
   | some n =>
    obtain ⟨h1,h2⟩:=j3 e;rw [← GR h1,← dP,h] at h2;cases h2
  have hr:DW z=false:=by
   unfold DW;refine decide_eq_false fun c=>?_
   have h3:DI z.natAbs=true:=by
    unfold DI;refine decide_eq_true (Nat.lt_of_lt_of_le (show z.natAbs<9223372036854775809 by omega) ?_)
    decide+kernel
   rw [h] at h3;cases h3
  have HC:=zh (fun W=>AJ (s:=⟨(Lib.itoa z).toArray⟩) hn W);rw [hr];clear hn hr h;unfold mW;generalize Lib.itoa z=t at *;go_enter Tryz.func188,Tryz.ntmps188
  go_wp2_with fail
  refine (HC.out _).mono ?_;rintro e w1 ⟨rfl,hb1⟩;go_wp2_with fail
  go_ret2
  exact ⟨⟨0,10,by simp,(fun h=>by cases h),rfl⟩,hb1⟩
theorem Vq (N:Int) (d:Nat):(dJ.gD N d).natAbs≤2*N.natAbs+d:=by
 unfold dJ.gD;have h1:=Int.natAbs_ediv_le_natAbs (2*N+(d:Int)) (2*(d:Int));have h2:=Int.natAbs_add_le (2*N) (d:Int);rw [Int.natAbs_mul,Int.natAbs_natCast] at h2;omega
theorem OP (s t:ByteArray) (k:Int) (h:rd ⟨s,t⟩=none) (w:World) :
  Calls Tryz.prog 139 #[.agg #[.string s,.string t],.int .i64 k] w (fun e w'=>e= .returned (.tuple #[.int .i64 0,.int .i64 20])∧Below w.heap.size w w'):=by
 have HR:=zh (qy h);clear h;go_enter Tryz.func139,Tryz.ntmps139
 go_wp2_with fail
 refine (HR.out _).mono ?_;rintro e v1 ⟨rfl,hc1⟩;have BR:=au.later (au.new _ _ _) hc1;have bK:=BR.cell;have bL:=BR.free;have eG:=BR.lt;go_wp2_with fail
 go_ret2
 exact ⟨rfl,ah⟩
theorem OO (s t:ByteArray) (k:Nat) (q:Rat) (h:rd ⟨s,t⟩=some q) (k1:1≤k) (k2:(k:Int)≤1000000000000) (w:World) (ht:oO.Pow w) (he:whole.Er w) :
  Calls Tryz.prog 139 #[.agg #[.string s,.string t],.int .i64 (k:Int)] w (fun e w'=>e= .returned (if DW (dJ.gD (q.num*(k:Int)) q.den) then .tuple #[.int .i64 (dJ.gD (q.num*(k:Int)) q.den),.int .i64 0] else .tuple #[.int .i64 0,.int .i64 6])∧Below w.heap.size w w'):=by
 have HR:=zh (uz h);have KP:=qC (Ci h).2;have HK1:Hid (sz 1000000000 k≤1000000):=zh (by have:=aW (B:=1000000000) zo 2 k zo;omega);have HKN:Hid (sz 1000000000 q.num.natAbs≤1000000):=zh (Nat.le_trans KP.1 zo);have HKD:Hid (sz 1000000000 q.den≤1000000):=zh (Nat.le_trans KP.2 zo)
 have HZ:Hid (sz 1000000000 (dJ.gD (q.num*(k:Int)) q.den).natAbs≤1099511627776):=by
  refine zh ?_;have h1:=dM (B:=1000000000) zo (Vq (q.num*(k:Int)) q.den);have h2:=Dl (B:=1000000000) zo (2*(q.num*(k:Int)).natAbs) q.den;have h3:=jC (B:=1000000000) zo 2 (q.num*(k:Int)).natAbs;have h4:=jC (B:=1000000000) zo q.num.natAbs k;have h5:=aW (B:=1000000000) zo 1 2 zo;rw [← Int.natAbs_natCast k,← Int.natAbs_mul,Int.natAbs_natCast k] at h4;have:=HK1.out;have:=HKN.out;have:=HKD.out;omega
 have HT:=zh ht;have HE:=zh he;have g1:decide ((k:Int)<1)=false:=decide_eq_false zo;have g2:decide ((1000000000000:Int)<(k:Int))=false:=decide_eq_false zo
 have g3:IntKind.u64.wrap (k:Int)=(k:Int):=by
  simp [IntKind.wrap,IntKind.bits,IntKind.signed]
  omega
 obtain ⟨z,Ez⟩:∃ y:Int,Hid (dJ.gD (q.num*(k:Int)) q.den=y):=⟨_,zh rfl⟩;rw [Ez.out] at HZ ⊢;obtain ⟨R,ER⟩:∃ y:Value,Hid ((if DW z then .tuple #[.int .i64 z,.int .i64 0] else .tuple #[.int .i64 0,.int .i64 6]:Value)=y):=⟨_,zh rfl⟩;rw [ER.out];have HK2:Hid (k≤18446744073709551615):=zh zo;clear ht he h KP k1 k2;go_enter Tryz.func139,Tryz.ntmps139
 go_wp2_with fail
 refine (HR.out _).mono ?_;rintro e v1 ⟨v,rfl,hc1,hv⟩;obtain ⟨Nu,lHq,Ow,U9,mHq,Wu,rfl,Hq,FR⟩:=hv;replace Hq:=zh Hq;replace FR:=zh FR;have BR:=au.later (au.new _ _ _) hc1;have bK:=BR.cell;have bL:=BR.free;have eG:=BR.lt;go_wp2_with fail
 refine aD [(.read,0),(.pure,1),(.pure,2),(.ext,3),(.ext,4),(.ext,5),(.ext,6),(.pure,7),(.pure,8),(.pure,9),(.fin,10),(.fin,11)] zk zk zR zP ?_;refine zV ?_;refine aG rfl rfl (fun w3 hb3 J hJ=>?_);go_simp;replace Hq:=zh (aK.carry Hq.out aI hb3);replace FR:=zh (aK.carry FR.out aI hb3);refine (lg k _ HK2.out).mono ?_;rintro e v3 ⟨v,rfl,hc3,hv⟩;obtain ⟨vZ,N8,wN,rfl⟩:=hv.slice;have Hs:=zh hv;clear hv;replace Hq:=zh (aK.later Hq.out hc3);replace FR:=zh (aK.later FR.out hc3);refine hJ _ _ hc3 ?_;clear hJ J;refine aG rfl rfl (fun w4 hb4 J hJ=>?_);go_simp;refine ((Vo _ _ q k _ (pQ.of aI aI) aI HKN.out HKD.out HK1.out).mono (by rw [Ez.out];exact fun _ _ h=>h)).mono ?_;rintro e v4 ⟨v,rfl,hc4,hv⟩;obtain ⟨aH8,lHn,aM8,rfl,Hn⟩:=hv;replace Hn:=zh Hn;refine hJ _ _ hc4 ?_;clear hJ J;refine aG rfl rfl (fun w5 hb5 J hJ=>?_);go_simp
 refine (yg _ z _ (aS.aO aI) HZ.out (HT.out.later ah)).mono ?_;rintro e v5 ⟨rfl,nT⟩;refine hJ _ _ nT ?_;clear hJ J;refine aG rfl rfl (fun w6 hb6 J hJ=>?_);go_simp;refine (WU z _ (HE.out.later ah)).mono ?_;rintro e v6 ⟨⟨x,c,h1,h2,rfl⟩,hc6⟩;refine hJ _ _ hc6 ?_;clear hJ J;refine zV ?_;refine aL [_,_] rfl (fun w7 gM=>?_);cases hz:DW z with
 | true =>
  obtain rfl:=h1.2 hz;obtain rfl:=h2 hz;clear h1 h2;have hR: .tuple #[.int .i64 x,.int .i64 0]=R:=by rw [← ER.out,hz];rfl
  go_wp2_with fail
  go_ret2
  exact ⟨congrArg Ending.returned hR,ah⟩
 | false =>
  have hc:decide (c=0)=false:=decide_eq_false fun e=>by rw [h1.1 e] at hz;cases hz
  have hn:¬ c=0:=of_decide_eq_false hc;clear h1 h2;have hR: .tuple #[.int .i64 0,.int .i64 6]=R:=by rw [← ER.out,hz];rfl
  go_wp2_with fail
  all_goals go_ret2
  all_goals exact ⟨congrArg Ending.returned hR,ah⟩
theorem WS (n d:Int) (hl1:(Lib.decDigits n.natAbs).length≤600) (hl2:(Lib.decDigits d.natAbs).length≤600) (w:World) (ht:oO.Pow w) :
  Calls Tryz.prog 192 #[.string ⟨(Lib.itoa n).toArray⟩,.string ⟨(Lib.itoa d).toArray⟩] w (fun e w'=>e= .returned (Fr.res (Vk n d))∧Below w.heap.size w w'):=by
 have HC:=zh (iW (s:=⟨(Lib.itoa n).toArray⟩) (dD hl1));have HD:=zh (iW (s:=⟨(Lib.itoa d).toArray⟩) (dD hl2));have Px:=zh hl1;have HL2:=zh hl2;have S1:=tq (dP.2 hl1);have S2:=tq (dP.2 hl2);have HT:=zh ht;clear ht hl1 hl2
 by_cases h0:d=0
 ·have e:Fr.res (Vk n d)= .tuple #[.agg #[.string ⟨#[]⟩,.string ⟨#[]⟩],.int .i64 7]:=by unfold Vk;rw [if_pos h0];rfl
  rw [e];have hz:decide (d.natAbs=0)=true:=by simp;omega
  have HZ:=zh hz;clear e h0 hz S1 S2;go_enter Tryz.func192,Tryz.ntmps192
  go_wp2_with fail
  refine (HC.out _).mono ?_;rintro e v1 ⟨rfl,hc1⟩;have BR:=au.later (au.new _ _ _) hc1;have bK:=BR.cell;have bL:=BR.free;have eG:=BR.lt;go_wp2_with fail
  refine (HD.out _).mono ?_;rintro e v2 ⟨rfl,hc2⟩;replace BR:=au.later (BR) hc2;replace bK:=BR.cell;replace bL:=BR.free;replace eG:=BR.lt;go_wp2_with fail
  refine (d9 n Px.out _).mono ?_;rintro e v3 ⟨v,rfl,hc3,hv⟩;obtain ⟨Jy,Zt,Kh,rfl,HN⟩:=hv;replace HN:=zh HN;replace BR:=au.later (BR) hc3;replace bK:=BR.cell;replace bL:=BR.free;replace eG:=BR.lt;go_wp2_with fail
  refine (d9 d HL2.out _).mono ?_;rintro e v4 ⟨v,rfl,hc4,hv⟩;obtain ⟨Nv,lHM,Ox,rfl,HM⟩:=hv;replace HM:=zh HM;replace BR:=au.later (BR) hc4;replace bK:=BR.cell;replace bL:=BR.free;replace eG:=BR.lt;go_wp2_with fail
  refine (fQ _ d.natAbs _ aI).mono ?_;rintro e v5 ⟨rfl,rfl⟩;rw [HZ.out];go_wp2_with fail
  refine aP rfl rfl aT Tryz.underlying59 rfl zk ?_;exact ⟨rfl,ah⟩
 ·have e:Vk n d=wr (mkRat (gB n.natAbs (!(decide (n<0) == decide (d<0)))) d.natAbs):=by unfold Vk;rw [if_neg h0,LA n d h0]
  rw [e];have hz:decide (d.natAbs=0)=false:=by simp;omega
  have HZ:=zh hz;have hdp:0<d.natAbs:=by omega
  have HDP:=zh hdp;obtain ⟨f,Ef⟩:∃ y:Bool,Hid (Bool.not (decide (n<0) == decide (d<0))=y):=⟨_,zh rfl⟩;obtain ⟨s,Es⟩:∃ y:Int,Hid (gB n.natAbs f=y):=⟨_,zh rfl⟩;rw [Ef.out,Es.out];have hs:sz 1000000000 s.natAbs≤67:=by rw [← Es.out,fF];exact S1
  have KS:=zh (Nat.le_trans hs (show 67≤549755813888 by omega));have KD:=zh (Nat.le_trans S2 (show 67≤549755813888 by omega))
  have KQ:Hid (kL 1000000 (mkRat s d.natAbs)):=by
   have hp:=qI s hdp;refine zh ⟨?_,?_⟩
   ·rw [hp.1,fF];exact Nat.le_trans iG zo
   ·rw [hp.2];exact Nat.le_trans iG zo
  obtain ⟨q,Eq⟩:∃ y:Rat,Hid (mkRat s d.natAbs=y):=⟨_,zh rfl⟩;rw [Eq.out] at KQ ⊢;obtain ⟨x,Ex⟩:∃ y:FrI,Hid (wr q=y):=⟨_,zh rfl⟩;rw [Ex.out];clear e;obtain ⟨⟨s1,t1⟩,e⟩:=x;rw [Dv];clear h0 hz hdp hs S1 S2;go_enter Tryz.func192,Tryz.ntmps192
  go_wp2_with fail
  refine (HC.out _).mono ?_;rintro e v1 ⟨rfl,hc1⟩;have BR:=au.later (au.new _ _ _) hc1;have bK:=BR.cell;have bL:=BR.free;have eG:=BR.lt;go_wp2_with fail
  refine (HD.out _).mono ?_;rintro e v2 ⟨rfl,hc2⟩;replace BR:=au.later (BR) hc2;replace bK:=BR.cell;replace bL:=BR.free;replace eG:=BR.lt;go_wp2_with fail
  refine (d9 n Px.out _).mono ?_;rintro e v3 ⟨v,rfl,hc3,hv⟩;obtain ⟨Jy,Zt,Kh,rfl,HN⟩:=hv;replace HN:=zh HN;replace BR:=au.later (BR) hc3;replace bK:=BR.cell;replace bL:=BR.free;replace eG:=BR.lt;go_wp2_with fail
  refine (d9 d HL2.out _).mono ?_;rintro e v4 ⟨v,rfl,hc4,hv⟩;obtain ⟨Nv,lHM,Ox,rfl,HM⟩:=hv;replace HM:=zh HM;replace HN:=zh (aK.later HN.out hc4);replace BR:=au.later (BR) hc4;replace bK:=BR.cell;replace bL:=BR.free;replace eG:=BR.lt;go_wp2_with fail
  refine (fQ _ d.natAbs _ aI).mono ?_;rintro e v5 ⟨rfl,rfl⟩;rw [HZ.out];go_wp2_with fail
  refine aD [(.pure,0),(.read,1),(.pure,2),(.read,3),(.pure,4),(.read,5),(.pure,6),(.pure,8),(.read,9),(.ext,7),(.ext,10),(.ext,11),(.pure,12),(.pure,13),(.fin,14),(.fin,15)] zk zk zR zP ?_;refine zV ?_;refine aG rfl rfl (fun w6 hb6 J hJ=>?_);go_simp;replace HM:=zh (aK.carry HM.out aI hb6);replace BR:au _ (w.heap.size) _ _:=au.later aT hb6;(try simp only [List.setIfInBounds_toArray,List.set_cons_zero,List.set_cons_succ] at BR);replace bK:=BR.cell;replace bL:=BR.free;replace eG:=BR.lt;refine ((dx _ n.natAbs _ _ aI).mono (by rw [show (Bool.not (decide (n<0) == decide (d<0)))=f from Ef.out,Es.out];exact fun _ _ h=>h)).mono ?_;rintro e v6 ⟨v,rfl,hc6,hv⟩;obtain ⟨vZ,N8,wN,rfl,Hs⟩:=hv;replace Hs:=zh Hs;replace HM:=zh (aK.later HM.out hc6);replace BR:=au.later (BR) hc6;replace bK:=BR.cell;replace bL:=BR.free;replace eG:=BR.lt;refine hJ _ _ hc6 ?_
  clear hJ J;refine aG rfl rfl (fun w7 gM J hJ=>?_);go_simp;replace HM:=zh (aK.later HM.out gM);replace Hs:=zh (aK.later Hs.out gM);replace BR:=au.later (BR) gM;replace bK:=BR.cell;replace bL:=BR.free;replace eG:=BR.lt;refine ((Jm _ _ s d.natAbs _ (aS.aO aI) aI HDP.out KS.out KD.out).mono (by rw [Eq.out];exact fun _ _ h=>h)).mono ?_;rintro e v7 ⟨v,rfl,JV,hv⟩;obtain ⟨Nu,lHq,Ow,U9,mHq,Wu,rfl,Hq,FR⟩:=hv;replace Hq:=zh Hq;replace FR:=zh FR;replace HM:=zh (aK.later HM.out JV);replace Hs:=zh (aK.later Hs.out JV);replace BR:=au.later (BR) JV;replace bK:=BR.cell;replace bL:=BR.free;replace eG:=BR.lt;refine hJ _ _ JV ?_;clear hJ J;refine aG rfl rfl (fun w8 J3 J hJ=>?_);go_simp;replace BR:=au.later (BR) J3;replace bK:=BR.cell;replace bL:=BR.free;replace eG:=BR.lt
  refine ((jm _ q _ (pQ.of aI aI) KQ.out (HT.out.later ah)).mono (by rw [Ex.out,Dv];exact fun _ _ h=>h)).mono ?_;rintro e v8 ⟨rfl,hc8⟩;replace BR:=au.later (BR) hc8;replace bK:=BR.cell;replace bL:=BR.free;replace eG:=BR.lt;refine hJ _ _ hc8 ?_;clear hJ J;refine zV ?_;refine aL [_,_] rfl (fun w9 nU=>?_);replace BR:=au.later (BR) nU;replace bK:=BR.cell;replace bL:=BR.free;replace eG:=BR.lt;go_wp2_with fail
  refine aP rfl rfl aT Tryz.underlying59 rfl zk ?_;exact ⟨rfl,ah⟩
theorem Ma (z:Int) (h0: -9223372036854775808≤z) (h1:z≤9223372036854775807):(Lib.decDigits z.natAbs).length≤600 :=
 Nat.le_trans (iM 19 z.natAbs zo zo) zo
theorem au2 (n d:Int) (n0: -9223372036854775808≤n) (n1:n≤9223372036854775807) (d0: -9223372036854775808≤d) (d1:d≤9223372036854775807) (w:World) (ht:oO.Pow w) :
  Calls Tryz.prog 140 #[.int .i64 n,.int .i64 d] w (fun e w'=>e= .returned (Fr.res (Vk n d))∧Below w.heap.size w w'):=by
 have H1:=zh (fun w ht=>whole.XB n n0 n1 w ht);have H2:=zh (fun w ht=>whole.XB d d0 d1 w ht);have H3:=zh (fun w ht=>WS n d (Ma n n0 n1) (Ma d d0 d1) w ht);have HT:=zh ht;clear ht n0 n1 d0 d1;obtain ⟨x,Ex⟩:∃ y:FrI,Hid (Vk n d=y):=⟨_,zh rfl⟩;rw [Ex.out];obtain ⟨⟨s1,t1⟩,e⟩:=x;rw [Dv];go_enter Tryz.func140,Tryz.ntmps140
 go_wp2_with fail
 refine ((H1.out _ (HT.out.later ah)).mono (fun _ _ h=>by unfold mW at h;exact h)).mono ?_;rintro e v1 ⟨rfl,hc1⟩;have BR:=au.later (au.new _ _ _) hc1;have bK:=BR.cell;have bL:=BR.free;have eG:=BR.lt;go_wp2_with fail
 refine ((H2.out _ (HT.out.later ah)).mono (fun _ _ h=>by unfold mW at h;exact h)).mono ?_;rintro e v2 ⟨rfl,hc2⟩;replace BR:=au.later (BR) hc2;replace bK:=BR.cell;replace bL:=BR.free;replace eG:=BR.lt;go_wp2_with fail
 refine ((H3.out _ (HT.out.later ah)).mono (by rw [Ex.out,Dv];exact fun _ _ h=>h)).mono ?_;rintro e v3 ⟨rfl,hc3⟩;replace BR:=au.later (BR) hc3;replace bK:=BR.cell;replace bL:=BR.free;replace eG:=BR.lt;go_wp2_with fail
 refine aP rfl rfl aT Tryz.underlying59 rfl zk ?_;exact ⟨rfl,ah⟩
end Go.Proofs.eX
