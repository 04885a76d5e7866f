/- Lemmas for the proof. No condition. -/
import Derived.Test.YtfhappbmgghgdaaGreatDoorWB01
import Derived.Test.YtfhappbmgghgdaaGreatDoorWB02
import Derived.Test.YtfhappbmgghgdaaGreatDoorWB03
import Derived.Shelf.Bits.Mul64
import Derived.WalkMore
import Derived.ControlIn
set_option linter.unusedVariables false
set_option linter.unusedSimpArgs false
set_option maxRecDepth 100000
set_option maxHeartbeats 16000000
namespace Go.Num
structure CX (b Y1 Y0 un d q r:Nat):Prop where
 h1:q*Y1+r=un
 h2:(un*b+d) / (Y1*b+Y0)≤q
theorem CX.start {b Y1 Y0 un d:Nat} (hb:0<b) (hY:0<Y1) (hd:d<b):CX b Y1 Y0 un d (un / Y1) (un - un / Y1*Y1):=by
 have h:=Nat.div_mul_le_self un Y1;refine ⟨by omega,?_⟩
 have e:(un*b+d) / b=un:=by
  rw [Nat.mul_comm,Nat.mul_add_div hb,Nat.div_eq_of_lt hd,Nat.add_zero]
 calc (un*b+d) / (Y1*b+Y0)≤(un*b+d) / (Y1*b):=Nat.div_le_div_left zo (Nat.mul_pos hY hb)
  _=(un*b+d) / b / Y1:=by rw [Nat.div_div_eq_div_mul,Nat.mul_comm Y1 b]
  _=un / Y1:=by rw [e]
theorem CX.step {b Y1 Y0 un d q r:Nat} (h:CX b Y1 Y0 un d q r) (hY:0<Y1) (hd:d<b) (hun:un<Y1*b+Y0) (c:b≤q∨b*r+d<q*Y0):CX b Y1 Y0 un d (q - 1) (r+Y1)∧1≤q:=by
 obtain ⟨h1,h2⟩:=h;have hb:0<b:=by omega
 have VX:0<Y1*b+Y0:=by have:=Nat.mul_pos hY hb;omega
 have key:(un*b+d) / (Y1*b+Y0)<q:=by
  rcases c with c|c
  ·refine Nat.lt_of_lt_of_le ?_ c;rw [Nat.div_lt_iff_lt_mul VX];have:(un+1)*b≤(Y1*b+Y0)*b:=Nat.mul_le_mul_right b hun;rw [Nat.succ_mul] at this;rw [Nat.mul_comm b];omega
  ·rw [Nat.div_lt_iff_lt_mul VX];have e1:un*b=q*Y1*b+b*r:=by rw [← h1,Nat.add_mul,Nat.mul_comm r b]
   rw [Nat.mul_add,← Nat.mul_assoc,e1];omega
 have hq:1≤q:=Nat.lt_of_le_of_lt (Nat.zero_le _) key;refine ⟨⟨?_,Nat.le_sub_one_of_lt key⟩,hq⟩
 have:q*Y1=(q - 1)*Y1+Y1:=by
  conv=>lhs;rw [show q=q - 1+1 by omega,Nat.succ_mul]
 omega
theorem CX.stop {b Y1 Y0 un d q r:Nat} (h:CX b Y1 Y0 un d q r) (hY:0<Y1) (hb:0<b) (c:q*Y0≤b*r+d):q=(un*b+d) / (Y1*b+Y0):=by
 obtain ⟨h1,h2⟩:=h;have VX:0<Y1*b+Y0:=by have:=Nat.mul_pos hY hb;omega
 refine Nat.le_antisymm ?_ h2;rw [Nat.le_div_iff_mul_le VX,Nat.mul_add,← Nat.mul_assoc,← h1,Nat.add_mul,Nat.mul_comm r b];omega
theorem CX.brk {b Y1 Y0 un d q r:Nat} (h:CX b Y1 Y0 un d q r) (hY:0<Y1) (hb:0<b) (hY0:Y0<b) (hun:un<Y1*b+Y0) (c:b≤r):q=(un*b+d) / (Y1*b+Y0):=by
 refine h.stop hY hb ?_
 have hq:q<b:=by
  have h1:=h.h1
  have:q*Y1<b*Y1:=by
   rw [Nat.mul_comm b Y1];omega
  exact Nat.lt_of_mul_lt_mul_right this
 have a1:q*Y0≤b*b:=Nat.mul_le_mul (Nat.le_of_lt hq) (Nat.le_of_lt hY0);have a2:b*b≤b*r:=Nat.mul_le_mul_left b c;omega
theorem Wh {b un d1 d0 Y:Nat} (hY:0<Y):((un*b+d1) / Y)*b+((un*b+d1)%Y*b+d0) / Y=(un*b*b+d1*b+d0) / Y∧((un*b+d1)%Y*b+d0)%Y=(un*b*b+d1*b+d0)%Y:=by
 have h:=Nat.div_add_mod (un*b+d1) Y
 have e:un*b*b+d1*b+d0=Y*((un*b+d1) / Y*b)+((un*b+d1)%Y*b+d0):=by
  have:un*b*b+d1*b=(un*b+d1)*b:=by rw [Nat.add_mul]
  rw [this]
  conv=>lhs;rw [← h,Nat.add_mul]
  rw [← Nat.mul_assoc,Nat.add_assoc]
 rw [e];refine ⟨?_,?_⟩
 ·rw [Nat.mul_add_div hY]
 ·rw [Nat.mul_add_mod]
theorem shifted {hi lo s:Nat} (hs:s≤63) (Vw:lo<18446744073709551616) :
  (hi*2^s+lo / 2^(64 - s))*4294967296*4294967296+lo*2^s%18446744073709551616 / 4294967296*4294967296+lo*2^s%18446744073709551616%4294967296=(hi*18446744073709551616+lo)*2^s∧lo / 2^(64 - s)<2^s:=by
 have e:(18446744073709551616:Nat)=2^(64 - s)*2^s:=by
  rw [← Nat.pow_add,show 64 - s+s=64 by omega]
 have h1:lo*2^s / 18446744073709551616=lo / 2^(64 - s):=by
  conv=>lhs;rw [e]
  exact Nat.mul_div_mul_right _ _ (Nat.pow_pos zo)
 have h2:=Nat.div_add_mod (lo*2^s) 18446744073709551616;have h3:=Nat.div_add_mod (lo*2^s%18446744073709551616) 4294967296;refine ⟨?_,?_⟩
 ·rw [h1] at h2
  have h4:(hi*18446744073709551616+lo)*2^s=hi*2^s*18446744073709551616+lo*2^s:=by
   rw [Nat.add_mul,Nat.mul_right_comm]
  rw [h4];omega
 ·rw [Nat.div_lt_iff_lt_mul (Nat.pow_pos zo),Nat.mul_comm,← e];exact Vw
end Go.Num
namespace Go.Proofs.bits
open Go Go.RowKit Go.SW Go.Num Go.Mem Go.Proofs Go.Shelf
theorem QX {y:Nat} (h0:0<y) (h:y<18446744073709551616):∃ s:Nat,s≤63∧(64:Int) - (Lib.bitLen y:Int)=(s:Int)∧9223372036854775808≤y*2^s∧y*2^s<18446744073709551616:=by
 obtain ⟨h1,h2,h3⟩:=Lib.bitLenAux_bounds 64 y h zo;have h4:=Lib.bitLen_le y 64 zo h;have e:Lib.bitLenAux 64 y=Lib.bitLen y:=rfl;rw [e] at h1 h2 h3;generalize Lib.bitLen y=b at *;refine ⟨64 - b,by omega,by omega,?_,?_⟩
 ·have:2^(b - 1)*2^(64 - b)≤y*2^(64 - b):=Nat.mul_le_mul_right _ h2;rw [← Nat.pow_add,show b - 1+(64 - b)=63 by omega] at this
  simpa using this
 ·have:y*2^(64 - b)<2^b*2^(64 - b):=Nat.mul_lt_mul_of_pos_right h3 (Nat.pow_pos zo);rw [← Nat.pow_add,show b+(64 - b)=64 by omega] at this
  simpa using this
def WI (Y1 Y0 L1 L0:Nat):Prop:=2147483648≤Y1∧Y1<4294967296∧Y0<4294967296∧L1<4294967296∧L0<4294967296
theorem aa2 {Y1 Y0 U d q r:Nat} (h:CX 4294967296 Y1 Y0 U d q r) (h1:2147483648≤Y1) (hU:U<18446744073709551616):q<18446744073709551616:=by
 have e:=h.h1
 rcases Nat.eq_zero_or_pos q with h|h
 ·omega
 ·have:=Nat.le_mul_of_pos_right q (show 0<Y1 by omega);omega
theorem oV {Y1 Y0 L1 L0 U d q r:Nat} (h:CX 4294967296 Y1 Y0 U d q r) (hr:r<4294967296) (hb:WI Y1 Y0 L1 L0) (hU:U<Y1*4294967296+Y0) (hd:d<4294967296) (c:4294967296≤q∨4294967296*r+d<q*Y0) :
  ∃ q' r':Nat,Hid (CX 4294967296 Y1 Y0 U d q' r')∧Hid (q'<q)∧IntKind.u64.wrap ((q:Int) - 1)=(q':Int)∧IntKind.u64.wrap ((r:Int)+(Y1:Int))=(r':Int):=by
 unfold WI at hb;have hq:=aa2 h hb.1 zo;obtain ⟨hd2,hq1⟩:=h.step zo hd hU c;refine ⟨_,_,zh hd2,zh zo,?_,?_⟩
 ·rw [IntKind.wrap_u64];omega
 ·rw [IntKind.wrap_u64];omega
theorem pJ {Y1 Y0 L1 L0 d q r:Nat} (hq:q<4294967296) (hr:r<4294967296) (hb:WI Y1 Y0 L1 L0) (hd:d<4294967296) :
  ∃ T V:Nat,Hid (q*Y0=T)∧Hid (4294967296*r+d=V)∧IntKind.u64.wrap ((q:Int)*(Y0:Int))=(T:Int)∧IntKind.u64.wrap (IntKind.u64.wrap (4294967296*(r:Int))+(d:Int))=(V:Int):=by
 unfold WI at hb;refine ⟨_,_,zh rfl,zh rfl,?_,?_⟩
 ·have:q*Y0≤4294967295*4294967295:=Nat.mul_le_mul zo zo;rw [← Int.natCast_mul,IntKind.wrap_u64];generalize q*Y0=T at *;omega
 ·rw [IntKind.wrap_u64,IntKind.wrap_u64];omega
theorem Cc {U d Y q:Nat} (hY:0<Y) (hq:q=(U*4294967296+d) / Y) (hd:d<4294967296) (VY:Y<18446744073709551616) :
  IntKind.u64.wrap (IntKind.u64.wrap (IntKind.u64.wrap ((U:Int)*4294967296)+(d:Int)) - IntKind.u64.wrap ((q:Int)*(Y:Int)))=(((U*4294967296+d)%Y:Nat):Int):=by
 have h:=Nat.div_add_mod (U*4294967296+d) Y;have hm:=Nat.mod_lt (U*4294967296+d) hY;rw [← hq] at h;have e:(q:Int)*(Y:Int)=((Y*q:Nat):Int):=by rw [Int.natCast_mul,Int.mul_comm]
 rw [e];generalize Y*q=T at *;generalize (U*4294967296+d)%Y=V at *;rw [IntKind.wrap_u64,IntKind.wrap_u64,IntKind.wrap_u64,IntKind.wrap_u64];omega
theorem o7 {U L1 L0 Y Y1 Y0 q:Nat} (hq:q=(U*4294967296+L1) / (Y1*4294967296+Y0)) (hY:Y1*4294967296+Y0=Y) (hb:WI Y1 Y0 L1 L0) (hUY:U<Y) (VY:Y<18446744073709551616) :
  ∃ W q0 r0:Nat,Hid (W=(U*4294967296+L1)%Y)∧Hid (W<Y)∧IntKind.u64.wrap (IntKind.u64.wrap (IntKind.u64.wrap ((U:Int)*4294967296)+(L1:Int)) - IntKind.u64.wrap ((q:Int)*(Y:Int)))=(W:Int)∧IntKind.u64.wrap ((W:Int) / (Y1:Int))=(q0:Int)∧IntKind.u64.wrap ((W:Int) - IntKind.u64.wrap ((q0:Int)*(Y1:Int)))=(r0:Int)∧Hid (r0<4294967296)∧Hid (∀ d,d<4294967296→CX 4294967296 Y1 Y0 W d q0 r0):=by
 unfold WI at hb;rw [hY] at hq;have XT:0<Y:=by omega
 have h1:=Cc XT hq hb.2.2.2.1 VY;have hm:=Nat.mod_lt (U*4294967296+L1) XT;obtain ⟨W,eW⟩:∃ W,(U*4294967296+L1)%Y=W:=⟨_,rfl⟩;rw [eW] at h1 hm;refine ⟨W,W / Y1,W - W / Y1*Y1,zh eW.symm,zh hm,h1,?_,?_,zh ?_,zh fun d hd=>CX.start zo zo hd⟩
 ·rw [← Int.natCast_ediv,IntKind.wrap_u64];have:=Nat.div_le_self W Y1;generalize W / Y1=q at *;omega
 ·have:=Nat.div_mul_le_self W Y1;rw [← Int.natCast_mul,IntKind.wrap_u64,IntKind.wrap_u64];omega
 ·have h2:=Nat.div_add_mod W Y1;have h3:=Nat.mod_lt W (show 0<Y1 by omega);rw [Nat.mul_comm] at h2;omega
theorem gT {U L1 L0 Y Y1 Y0 q q0 W:Nat} (hq:q=(U*4294967296+L1) / (Y1*4294967296+Y0)) (hq0:q0=(W*4294967296+L0) / (Y1*4294967296+Y0)) (hW:W=(U*4294967296+L1)%Y) (hb:WI Y1 Y0 L1 L0) (hY:Y1*4294967296+Y0=Y) (VY:Y<18446744073709551616) (hN:(U*4294967296*4294967296+L1*4294967296+L0) / Y<18446744073709551616) :
  IntKind.u64.wrap (IntKind.u64.wrap ((q:Int)*4294967296)+(q0:Int))=(((U*4294967296*4294967296+L1*4294967296+L0) / Y:Nat):Int)∧IntKind.u64.wrap (IntKind.u64.wrap (IntKind.u64.wrap ((W:Int)*4294967296)+(L0:Int)) - IntKind.u64.wrap ((q0:Int)*(Y:Int)))=(((U*4294967296*4294967296+L1*4294967296+L0)%Y:Nat):Int):=by
 unfold WI at hb;rw [hY] at hq hq0;have XT:0<Y:=by omega
 obtain ⟨h1,h2⟩:=Wh (b:=4294967296) (un:=U) (d1:=L1) (d0:=L0) XT;rw [← hq,← hW,← hq0] at h1;rw [← hW] at h2;refine ⟨?_,?_⟩
 ·rw [← h1] at hN ⊢;rw [IntKind.wrap_u64,IntKind.wrap_u64];omega
 ·rw [Cc XT hq0 hb.2.2.2.2 VY,h2]
theorem Uc (hi lo y:Nat) (hy:hi<y) (y64:y<18446744073709551616) (Vw:lo<18446744073709551616) (w:World) :
  Calls Tryz.prog 197 #[.int .u64 (hi:Int),.int .u64 (lo:Int),.int .u64 (y:Int)] w (fun e w'=>e= .returned (.tuple #[.int .u64 (((hi*18446744073709551616+lo) / y:Nat):Int),.int .u64 (((hi*18446744073709551616+lo)%y:Nat):Int)])∧Below w.heap.size w w'):=by
 have q1:¬ (y:Int)=0:=by omega
 have q2:¬ (y:Int)≤(hi:Int):=by omega
 by_cases h0:hi=0
 ·subst h0;go_enter Tryz.func197,Tryz.ntmps197
  go_wp2_with fail
  refine aD [(.pure,0),(.pure,1),(.pure,2),(.pure,3),(.pure,4),(.pure,5),(.fin,6),(.fin,7)] zk zk zR zP ?_;refine Wk.out ?_
  (iterate 6 refine zU ?_)
  refine mJ [_,_] rfl (fun wf hbf=>?_);go_wp2_with fail
  go_ret2
  have e1:IntKind.u64.wrap ((lo:Int) / (y:Int))=(((0*18446744073709551616+lo) / y:Nat):Int):=by
   rw [Nat.zero_mul,Nat.zero_add,IntKind.wrap_u64];have:=Nat.div_le_self lo y;rw [← Int.natCast_ediv];generalize lo / y=q at *;omega
  have e2:(lo:Int)%(y:Int)=(((0*18446744073709551616+lo)%y:Nat):Int):=by
   rw [Nat.zero_mul,Nat.zero_add];omega
  rw [e1,e2];exact ⟨rfl,((Below.refl _ w).drew.trans (hbf.mono (Nat.le_refl _)))⟩
 ·obtain ⟨s,hs,e1,e2,e3⟩:=QX (y:=y) zo y64;have LZ:=zh (fun W=>(Tryz.bits_LeadingZeros64 (y:Int) W zo zo));rw [Int.toNat_natCast,e1] at LZ;have q3:¬ (hi:Int)=0:=by omega
  obtain ⟨hN,hlt⟩:=shifted (hi:=hi) hs Vw;have hm:min s 64=s:=by omega
  have hp2:0<2^s:=Nat.pow_pos zo;have hw:IntKind.u64.wrap (s:Int)=(s:Int):=by rw [IntKind.wrap_u64];omega
  have hAY:hi*2^s+2^s≤y*2^s:=by
   have:=Nat.mul_le_mul_right (2^s) hy;rw [Nat.succ_mul] at this;exact this
  have cY:(y:Int)*2^s=((y*2^s:Nat):Int):=by simp
  have cA:(hi:Int)*2^s=((hi*2^s:Nat):Int):=by simp
  have cL:(lo:Int)*2^s=((lo*2^s:Nat):Int):=by simp
  have cB:(lo:Int) / 2^(64 - s)=((lo / 2^(64 - s):Nat):Int):=by simp
  have hOr:bits BinOp.or IntKind.u64 ((hi*2^s:Nat):Int) ((lo / 2^(64 - s):Nat):Int)=((hi*2^s+lo / 2^(64 - s):Nat):Int):=by
   rw [bits_or_u64_nat _ _ zo (by have:=Nat.div_le_self lo (2^(64 - s));omega)]
   congr 1
   rw [Nat.mul_comm hi];exact (Nat.two_pow_add_eq_or_of_lt hlt hi).symm
  have hyd:∀ a:Nat,a / y=a*2^s / (y*2^s)∧a%y=a*2^s%(y*2^s) / 2^s:=fun a=>by
   have hp:0<2^s:=Nat.pow_pos zo;refine ⟨(Nat.mul_div_mul_right _ _ hp).symm,?_⟩;rw [Nat.mul_mod_mul_right,Nat.mul_div_cancel _ hp]
  have hNB:(hi*18446744073709551616+lo) / y<18446744073709551616:=by
   rw [Nat.div_lt_iff_lt_mul zo];omega
  rw [(hyd _).1,← hN] at hNB;rw [(hyd _).1,(hyd _).2,← hN];have cS:∀ a:Nat,(a:Int) / 2^s=((a / 2^s:Nat):Int):=fun a=>by simp
  have XT:2^63≤y*2^s:=e2;obtain ⟨Y,eY⟩:∃ Y,y*2^s=Y:=⟨_,rfl⟩;obtain ⟨A,eA⟩:∃ A,hi*2^s=A:=⟨_,rfl⟩;obtain ⟨B,eB⟩:∃ B,lo / 2^(64 - s)=B:=⟨_,rfl⟩;obtain ⟨L,eL⟩:∃ L,lo*2^s=L:=⟨_,rfl⟩;rw [eY,eA] at hAY;rw [eY] at e2 e3 cY XT;rw [eA] at cA;rw [eL] at cL;rw [eB] at cB hlt;rw [eA,eB] at hOr;rw [eY,eA,eB,eL];rw [eY,eA,eB,eL] at hNB;obtain ⟨L',eL'⟩:∃ L',L%18446744073709551616=L':=⟨_,rfl⟩;obtain ⟨U,eU⟩:∃ U,A+B=U:=⟨_,rfl⟩;rw [eU] at hOr;rw [eL',eU];rw [eL',eU] at hNB;have hUY:U<Y:=by omega
  have w1:IntKind.u64.wrap (Y:Int)=(Y:Int):=by rw [IntKind.wrap_u64];omega
  have w2:IntKind.u64.wrap (A:Int)=(A:Int):=by rw [IntKind.wrap_u64];omega
  have w3:IntKind.u64.wrap (L:Int)=(L':Int):=by rw [IntKind.wrap_u64];omega
  have a1:bits BinOp.and IntKind.u64 (Y:Int) 4294967295=((Y%4294967296:Nat):Int):=Mul64.maskN Y zo;have a2:bits BinOp.and IntKind.u64 (L':Int) 4294967295=((L'%4294967296:Nat):Int):=Mul64.maskN L' zo;have d1:(Y:Int) / 4294967296=((Y / 4294967296:Nat):Int):=by omega
  have d2:(L':Int) / 4294967296=((L' / 4294967296:Nat):Int):=by omega
  have VX:Y / 4294967296*4294967296+Y%4294967296=Y:=by rw [Nat.mul_comm];exact Nat.div_add_mod Y 4294967296
  obtain ⟨Y1,eY1⟩:∃ Y1,Y / 4294967296=Y1:=⟨_,rfl⟩;obtain ⟨Y0,eY0⟩:∃ Y0,Y%4294967296=Y0:=⟨_,rfl⟩;obtain ⟨L1,eL1⟩:∃ L1,L' / 4294967296=L1:=⟨_,rfl⟩;obtain ⟨L0,eL0⟩:∃ L0,L'%4294967296=L0:=⟨_,rfl⟩;have b1:2147483648≤Y1∧Y1<4294967296∧Y0<4294967296∧L1<4294967296∧L0<4294967296:=by omega
  rw [eY1] at d1 VX;rw [eY0] at a1 VX;rw [eL1] at d2;rw [eL0] at a2;rw [eL1,eL0];rw [eL1,eL0] at hNB;obtain ⟨hst⟩:Nonempty (CX 4294967296 Y1 Y0 U L1 (U / Y1) (U - U / Y1*Y1)):=⟨CX.start zo zo zo⟩
  have hQ:IntKind.u64.wrap ((U:Int) / (Y1:Int))=((U / Y1:Nat):Int):=by
   rw [← Int.natCast_ediv,IntKind.wrap_u64];have:=Nat.div_le_self U Y1;generalize U / Y1=q at *;omega
  have hr1:=Nat.div_mul_le_self U Y1
  have hr2:U - U / Y1*Y1<Y1:=by
   have:=Nat.div_add_mod U Y1;have:=Nat.mod_lt U (show 0<Y1 by omega);rw [Nat.mul_comm] at hr1 ⊢;omega
  have hR:IntKind.u64.wrap ((U:Int) - IntKind.u64.wrap (((U / Y1:Nat):Int)*(Y1:Int)))=((U - U / Y1*Y1:Nat):Int):=by
   rw [← Int.natCast_mul,IntKind.wrap_u64,IntKind.wrap_u64];omega
  obtain ⟨q,eq⟩:∃ q,U / Y1=q:=⟨_,rfl⟩;obtain ⟨r,er⟩:∃ r,U - U / Y1*Y1=r:=⟨_,rfl⟩;rw [er,eq] at hst hR;rw [eq] at hQ;rw [er] at hr2;have e3':=e3;have HST:=zh hst;have Uq:=zh hNB;have HB1:Hid (WI Y1 Y0 L1 L0):=zh b1;have hz:¬ (Y1:Int)=0:=by omega
  have HUY:=zh hUY;have yC:=zh VX;clear hNB y64 Vw hst hN hlt hAY hyd e1 e2 e3 hr1 er eq b1 hUY VX eY1 eY0 eL1 eL0 eU eL' eY eA eB eL XT;go_enter Tryz.func197,Tryz.ntmps197
  go_wp2_with fail
  refine (LZ.out _).mono ?_;rintro e w' ⟨rfl,rfl⟩;go_wp2_with fail
  have RL1:Hid (r<4294967296):=zh (by have:=HB1.out.2.1;omega);have Pq:=zh e3';have ST1:=HST;have rR:=zh (Below.refl w'.heap.size w');clear hr2 HST
  go_loopw [15,16] (fun qv rv wr=>∃ q r:Nat,qv= .int .u64 (q:Int)∧rv= .int .u64 (r:Int)∧Hid (CX 4294967296 Y1 Y0 U L1 q r)∧Hid (r<4294967296)∧Hid (Below w'.heap.size w' wr)) (fun qv _ _=>(intOf qv).toNat)
  case atStart=>exact ⟨q,r,rfl,rfl,ST1,RL1,rR⟩
  case round =>
   clear ST1 RL1 rR;obtain ⟨q,r,rfl,rfl,HST,TU,rR⟩:=hrel;have HT:=zh (oV HST.out TU.out HB1.out (by rw [yC.out];exact HUY.out) HB1.out.2.2.2.1)
   rcases Nat.lt_or_ge q 4294967296 with h1|h1
   ·have g1:decide ((4294967296:Int)≤(q:Int))=false:=decide_eq_false zo;obtain ⟨T,V,OZ,HE2,m1,m2⟩:=pJ h1 TU.out HB1.out HB1.out.2.2.2.1;clear h1
    rcases Nat.lt_or_ge V T with h2|h2
    ·have g2:(V:Int)<(T:Int):=by omega
     obtain ⟨q',r',HD,HL,w1,w2⟩:=HT.out (.inr (by rw [OZ.out,HE2.out];exact h2));clear h2
     rcases Nat.lt_or_ge r' 4294967296 with h3|h3
     ·have g3:decide ((4294967296:Int)≤(r':Int))=false:=decide_eq_false zo;have KI:=zh h3;clear h3;go_wp2_with fail
      go_roundw
      case rel=>exact ⟨q',r',rfl,rfl,HD,KI,rR⟩
      case measure=>have:=HL.out;simp [intOf];omega
     ·have g3:decide ((4294967296:Int)≤(r':Int))=true:=decide_eq_true zo;have HQ:=zh (HD.out.brk (Nat.lt_of_lt_of_le zo HB1.out.1) zo HB1.out.2.2.1 ((by rw [yC.out];exact HUY.out)) h3);clear h3;obtain ⟨W,q0,r0,HW,TR,x1,x2,x3,Yc,wR⟩:=o7 HQ.out yC.out HB1.out HUY.out Pq.out;have OW:=HQ;have ST2:=zh (wR.out L0 HB1.out.2.2.2.2);clear HQ wR;go_wp2_with fail
      go_loopw [18,16] (fun qv rv wr=>∃ q r:Nat,qv= .int .u64 (q:Int)∧rv= .int .u64 (r:Int)∧Hid (CX 4294967296 Y1 Y0 W L0 q r)∧Hid (r<4294967296)∧Hid (Below w'.heap.size w' wr)) (fun qv _ _=>(intOf qv).toNat)
      case atStart=>exact ⟨q0,r0,rfl,rfl,ST2,Yc,rR⟩
      case round =>
       clear ST2 Yc rR;obtain ⟨q,r,rfl,rfl,HST,TU,rR⟩:=hrel;have HT:=zh (oV HST.out TU.out HB1.out (by rw [yC.out];exact TR.out) HB1.out.2.2.2.2)
       rcases Nat.lt_or_ge q 4294967296 with h1|h1
       ·have g1:decide ((4294967296:Int)≤(q:Int))=false:=decide_eq_false zo;obtain ⟨T,V,OZ,HE2,m1,m2⟩:=pJ h1 TU.out HB1.out HB1.out.2.2.2.2;clear h1
        rcases Nat.lt_or_ge V T with h2|h2
        ·have g2:(V:Int)<(T:Int):=by omega
         obtain ⟨q',r',HD,HL,w1,w2⟩:=HT.out (.inr (by rw [OZ.out,HE2.out];exact h2));clear h2
         rcases Nat.lt_or_ge r' 4294967296 with h3|h3
         ·have g3:decide ((4294967296:Int)≤(r':Int))=false:=decide_eq_false zo;have KI:=zh h3;clear h3;go_wp2_with fail
          go_roundw
          case rel=>exact ⟨q',r',rfl,rfl,HD,KI,rR⟩
          case measure=>have:=HL.out;simp [intOf];omega
         ·have g3:decide ((4294967296:Int)≤(r':Int))=true:=decide_eq_true zo;have HQ:=zh (HD.out.brk (Nat.lt_of_lt_of_le zo HB1.out.1) zo HB1.out.2.2.1 ((by rw [yC.out];exact TR.out)) h3);clear h3;have HE:=zh (gT OW.out HQ.out HW.out HB1.out yC.out Pq.out Uq.out);have e1:=HE.out.1;have e2:=HE.out.2;go_wp2_with fail
          go_ret2
          exact ⟨by simp,rR.out⟩
        ·have g2:¬ (V:Int)<(T:Int):=by omega
         have HQ:=zh (HST.out.stop (Nat.lt_of_lt_of_le zo HB1.out.1) zo (by rw [OZ.out,HE2.out];exact h2));clear h2;have HE:=zh (gT OW.out HQ.out HW.out HB1.out yC.out Pq.out Uq.out);have e1:=HE.out.1;have e2:=HE.out.2;go_wp2_with fail
         go_ret2
         exact ⟨by simp,rR.out⟩
       ·have g1:decide ((4294967296:Int)≤(q:Int))=true:=decide_eq_true zo;obtain ⟨q',r',HD,HL,w1,w2⟩:=HT.out (.inl h1);clear h1
        rcases Nat.lt_or_ge r' 4294967296 with h3|h3
        ·have g3:decide ((4294967296:Int)≤(r':Int))=false:=decide_eq_false zo;have KI:=zh h3;clear h3;go_wp2_with fail
         go_roundw
         case rel=>exact ⟨q',r',rfl,rfl,HD,KI,rR⟩
         case measure=>have:=HL.out;simp [intOf];omega
        ·have g3:decide ((4294967296:Int)≤(r':Int))=true:=decide_eq_true zo;have HQ:=zh (HD.out.brk (Nat.lt_of_lt_of_le zo HB1.out.1) zo HB1.out.2.2.1 ((by rw [yC.out];exact TR.out)) h3);clear h3;have HE:=zh (gT OW.out HQ.out HW.out HB1.out yC.out Pq.out Uq.out);have e1:=HE.out.1;have e2:=HE.out.2;go_wp2_with fail
         go_ret2
         exact ⟨by simp,rR.out⟩
    ·have g2:¬ (V:Int)<(T:Int):=by omega
     have HQ:=zh (HST.out.stop (Nat.lt_of_lt_of_le zo HB1.out.1) zo (by rw [OZ.out,HE2.out];exact h2));clear h2;obtain ⟨W,q0,r0,HW,TR,x1,x2,x3,Yc,wR⟩:=o7 HQ.out yC.out HB1.out HUY.out Pq.out;have OW:=HQ;have ST2:=zh (wR.out L0 HB1.out.2.2.2.2);clear HQ wR;go_wp2_with fail
     go_loopw [18,16] (fun qv rv wr=>∃ q r:Nat,qv= .int .u64 (q:Int)∧rv= .int .u64 (r:Int)∧Hid (CX 4294967296 Y1 Y0 W L0 q r)∧Hid (r<4294967296)∧Hid (Below w'.heap.size w' wr)) (fun qv _ _=>(intOf qv).toNat)
     case atStart=>exact ⟨q0,r0,rfl,rfl,ST2,Yc,rR⟩
     case round =>
      clear ST2 Yc rR;obtain ⟨q,r,rfl,rfl,HST,TU,rR⟩:=hrel;have HT:=zh (oV HST.out TU.out HB1.out (by rw [yC.out];exact TR.out) HB1.out.2.2.2.2)
      rcases Nat.lt_or_ge q 4294967296 with h1|h1
      ·have g1:decide ((4294967296:Int)≤(q:Int))=false:=decide_eq_false zo;obtain ⟨T,V,OZ,HE2,m1,m2⟩:=pJ h1 TU.out HB1.out HB1.out.2.2.2.2;clear h1
       rcases Nat.lt_or_ge V T with h2|h2
       ·have g2:(V:Int)<(T:Int):=by omega
        obtain ⟨q',r',HD,HL,w1,w2⟩:=HT.out (.inr (by rw [OZ.out,HE2.out];exact h2));clear h2
        rcases Nat.lt_or_ge r' 4294967296 with h3|h3
        ·have g3:decide ((4294967296:Int)≤(r':Int))=false:=decide_eq_false zo;have KI:=zh h3;clear h3;go_wp2_with fail
         go_roundw
         case rel=>exact ⟨q',r',rfl,rfl,HD,KI,rR⟩
         case measure=>have:=HL.out;simp [intOf];omega
        ·have g3:decide ((4294967296:Int)≤(r':Int))=true:=decide_eq_true zo;have HQ:=zh (HD.out.brk (Nat.lt_of_lt_of_le zo HB1.out.1) zo HB1.out.2.2.1 ((by rw [yC.out];exact TR.out)) h3);clear h3;have HE:=zh (gT OW.out HQ.out HW.out HB1.out yC.out Pq.out Uq.out);have e1:=HE.out.1;have e2:=HE.out.2;go_wp2_with fail
         go_ret2
         exact ⟨by simp,rR.out⟩
       ·have g2:¬ (V:Int)<(T:Int):=by omega
        have HQ:=zh (HST.out.stop (Nat.lt_of_lt_of_le zo HB1.out.1) zo (by rw [OZ.out,HE2.out];exact h2));clear h2;have HE:=zh (gT OW.out HQ.out HW.out HB1.out yC.out Pq.out Uq.out);have e1:=HE.out.1;have e2:=HE.out.2;go_wp2_with fail
        go_ret2
        exact ⟨by simp,rR.out⟩
      ·have g1:decide ((4294967296:Int)≤(q:Int))=true:=decide_eq_true zo;obtain ⟨q',r',HD,HL,w1,w2⟩:=HT.out (.inl h1);clear h1
       rcases Nat.lt_or_ge r' 4294967296 with h3|h3
       ·have g3:decide ((4294967296:Int)≤(r':Int))=false:=decide_eq_false zo;have KI:=zh h3;clear h3;go_wp2_with fail
        go_roundw
        case rel=>exact ⟨q',r',rfl,rfl,HD,KI,rR⟩
        case measure=>have:=HL.out;simp [intOf];omega
       ·have g3:decide ((4294967296:Int)≤(r':Int))=true:=decide_eq_true zo;have HQ:=zh (HD.out.brk (Nat.lt_of_lt_of_le zo HB1.out.1) zo HB1.out.2.2.1 ((by rw [yC.out];exact TR.out)) h3);clear h3;have HE:=zh (gT OW.out HQ.out HW.out HB1.out yC.out Pq.out Uq.out);have e1:=HE.out.1;have e2:=HE.out.2;go_wp2_with fail
        go_ret2
        exact ⟨by simp,rR.out⟩
   ·have g1:decide ((4294967296:Int)≤(q:Int))=true:=decide_eq_true zo;obtain ⟨q',r',HD,HL,w1,w2⟩:=HT.out (.inl h1);clear h1
    rcases Nat.lt_or_ge r' 4294967296 with h3|h3
    ·have g3:decide ((4294967296:Int)≤(r':Int))=false:=decide_eq_false zo;have KI:=zh h3;clear h3;go_wp2_with fail
     go_roundw
     case rel=>exact ⟨q',r',rfl,rfl,HD,KI,rR⟩
     case measure=>have:=HL.out;simp [intOf];omega
    ·have g3:decide ((4294967296:Int)≤(r':Int))=true:=decide_eq_true zo;have HQ:=zh (HD.out.brk (Nat.lt_of_lt_of_le zo HB1.out.1) zo HB1.out.2.2.1 ((by rw [yC.out];exact HUY.out)) h3);clear h3;obtain ⟨W,q0,r0,HW,TR,x1,x2,x3,Yc,wR⟩:=o7 HQ.out yC.out HB1.out HUY.out Pq.out;have OW:=HQ;have ST2:=zh (wR.out L0 HB1.out.2.2.2.2);clear HQ wR;go_wp2_with fail
     go_loopw [18,16] (fun qv rv wr=>∃ q r:Nat,qv= .int .u64 (q:Int)∧rv= .int .u64 (r:Int)∧Hid (CX 4294967296 Y1 Y0 W L0 q r)∧Hid (r<4294967296)∧Hid (Below w'.heap.size w' wr)) (fun qv _ _=>(intOf qv).toNat)
     case atStart=>exact ⟨q0,r0,rfl,rfl,ST2,Yc,rR⟩
     case round =>
      clear ST2 Yc rR;obtain ⟨q,r,rfl,rfl,HST,TU,rR⟩:=hrel;have HT:=zh (oV HST.out TU.out HB1.out (by rw [yC.out];exact TR.out) HB1.out.2.2.2.2)
      rcases Nat.lt_or_ge q 4294967296 with h1|h1
      ·have g1:decide ((4294967296:Int)≤(q:Int))=false:=decide_eq_false zo;obtain ⟨T,V,OZ,HE2,m1,m2⟩:=pJ h1 TU.out HB1.out HB1.out.2.2.2.2;clear h1
       rcases Nat.lt_or_ge V T with h2|h2
       ·have g2:(V:Int)<(T:Int):=by omega
        obtain ⟨q',r',HD,HL,w1,w2⟩:=HT.out (.inr (by rw [OZ.out,HE2.out];exact h2));clear h2
        rcases Nat.lt_or_ge r' 4294967296 with h3|h3
        ·have g3:decide ((4294967296:Int)≤(r':Int))=false:=decide_eq_false zo;have KI:=zh h3;clear h3;go_wp2_with fail
         go_roundw
         case rel=>exact ⟨q',r',rfl,rfl,HD,KI,rR⟩
         case measure=>have:=HL.out;simp [intOf];omega
        ·have g3:decide ((4294967296:Int)≤(r':Int))=true:=decide_eq_true zo;have HQ:=zh (HD.out.brk (Nat.lt_of_lt_of_le zo HB1.out.1) zo HB1.out.2.2.1 ((by rw [yC.out];exact TR.out)) h3);clear h3;have HE:=zh (gT OW.out HQ.out HW.out HB1.out yC.out Pq.out Uq.out);have e1:=HE.out.1;have e2:=HE.out.2;go_wp2_with fail
         go_ret2
         exact ⟨by simp,rR.out⟩
       ·have g2:¬ (V:Int)<(T:Int):=by omega
        have HQ:=zh (HST.out.stop (Nat.lt_of_lt_of_le zo HB1.out.1) zo (by rw [OZ.out,HE2.out];exact h2));clear h2;have HE:=zh (gT OW.out HQ.out HW.out HB1.out yC.out Pq.out Uq.out);have e1:=HE.out.1;have e2:=HE.out.2;go_wp2_with fail
        go_ret2
        exact ⟨by simp,rR.out⟩
      ·have g1:decide ((4294967296:Int)≤(q:Int))=true:=decide_eq_true zo;obtain ⟨q',r',HD,HL,w1,w2⟩:=HT.out (.inl h1);clear h1
       rcases Nat.lt_or_ge r' 4294967296 with h3|h3
       ·have g3:decide ((4294967296:Int)≤(r':Int))=false:=decide_eq_false zo;have KI:=zh h3;clear h3;go_wp2_with fail
        go_roundw
        case rel=>exact ⟨q',r',rfl,rfl,HD,KI,rR⟩
        case measure=>have:=HL.out;simp [intOf];omega
       ·have g3:decide ((4294967296:Int)≤(r':Int))=true:=decide_eq_true zo;have HQ:=zh (HD.out.brk (Nat.lt_of_lt_of_le zo HB1.out.1) zo HB1.out.2.2.1 ((by rw [yC.out];exact TR.out)) h3);clear h3;have HE:=zh (gT OW.out HQ.out HW.out HB1.out yC.out Pq.out Uq.out);have e1:=HE.out.1;have e2:=HE.out.2;go_wp2_with fail
        go_ret2
        exact ⟨by simp,rR.out⟩
end Go.Proofs.bits
namespace Go
end Go
namespace Go.Proofs.dJ
open Go Go.RowKit Go.SW Go.Num Go.Mem Go.Proofs Go.cK
theorem ac0 (b c:Nat) (zs:List Int) (z0:Int) (h0:zs[0]? =some z0) (arr:Array Value) (T:TypeId) (w:World) (hx:au w b arr T) (hc:∀ j (h:j<zs.length),arr[j]? =some (.int .i64 zs[j])) (hl:zs.length≤9223372036854775807) :
  Calls Tryz.prog 232 #[.slice (some ⟨b,0,none⟩) zs.length c] w (fun e w'=>e= .returned (.int .i64 (zs.foldl min z0))∧Below w.heap.size w w'):=by
 have hn:0<zs.length:=by
  rcases Nat.eq_zero_or_pos zs.length with h|h
  ·rw [List.getElem?_eq_none zo] at h0;cases h0
  ·exact h
 have hz0:zs[0]=z0:=by
  rw [List.getElem?_eq_getElem hn] at h0;exact Option.some.inj h0
 have h00:w.cell? ⟨b,0,none⟩=some (.int .i64 z0):=by
  rw [hx.cell,hc 0 hn,hz0]
 have lb:=hx.lt;have g1:decide ((zs.length:Int)<1)=false:=by simp;omega
 have HX:=zh hx;have HC:=zh hc;clear hx hc;go_enter Tryz.func232,Tryz.ntmps232
 go_wp2_with fail
 go_loopw [3,4] (fun m i wr=>∃ k:Nat,0<k∧k≤zs.length∧i= .int .i64 (k:Int)∧m= .int .i64 ((zs.take k).foldl min z0)∧Below w.heap.size w wr) (fun _ i _=>zs.length - (intOf i).toNat)
 case atStart =>
  refine ⟨1,by omega,hn,rfl,?_,Below.refl _ _⟩;cases zs with
  | nil=>simp at hn
  | cons x t =>
   simp only [List.getElem_cons_zero] at hz0;subst hz0;simp
 case round =>
  obtain ⟨k,hk0,hk,rfl,rfl,hb⟩:=hrel
  by_cases hlt:k<zs.length
  ·have hcell:=((HX.out.later hb).cell k).trans (HC.out k hlt)
   have hstep:(zs.take (k+1)).foldl min z0=min ((zs.take k).foldl min z0) zs[k]:=by
    rw [List.take_succ_eq_append_getElem hlt,List.foldl_append];rfl
   have HS:=zh hstep;clear hstep;generalize zs[k]=zk at *;generalize (zs.take k).foldl min z0=mk at *;go_wp2_with fail
   go_roundw
   case rel=>exact ⟨k+1,by omega,by omega,by go_num,by rw [HS.out]<;>go_num,hb⟩
   case measure=>exact zM
  ·obtain rfl:k=zs.length:=by omega
   rw [List.take_length];go_wp2_with fail
   go_ret
   exact ⟨rfl,hb⟩
theorem Rm (b c:Nat) (zs:List Int) (z0:Int) (h0:zs[0]? =some z0) (arr:Array Value) (T:TypeId) (w:World) (hx:au w b arr T) (hc:∀ j (h:j<zs.length),arr[j]? =some (.int .i64 zs[j])) (hl:zs.length≤9223372036854775807) :
  Calls Tryz.prog 194 #[.slice (some ⟨b,0,none⟩) zs.length c] w (fun e w'=>e= .returned (.int .i64 (zs.foldl min z0))∧Below w.heap.size w w'):=by
 have H:=zh (ac0 b c zs z0 h0 arr T w hx hc hl);clear h0 hx hc hl;generalize zs.length=n at *;generalize zs.foldl min z0=z at *;go_enter Tryz.func194,Tryz.ntmps194
 go_wp2_with fail
 refine H.out.mono ?_;rintro e w1 ⟨rfl,hb1⟩;go_wp2_with fail
 go_ret
 exact ⟨rfl,hb1⟩
theorem Dn (x:Int) (h1: -9223372036854775808<x) (h2:x<9223372036854775808) (w:World):Calls Tryz.prog 196 #[.int .i64 x] w (fun e w'=>e= .returned (.int .u64 (x.natAbs:Int))∧Below w.heap.size w w'):=by
 by_cases h:x<0
 ·have e:IntKind.u64.wrap (IntKind.i64.wrap (-x))=(x.natAbs:Int):=by rw [IntKind.wrap_i64,IntKind.wrap_u64];omega
  go_enter Tryz.func196,Tryz.ntmps196
  go_wp2_with fail
  go_ret
  refine ⟨?_,Below.refl _ _⟩
  show Ending.returned (.int .u64 (-x))=_
  rw [show -x=(x.natAbs:Int) by omega]
 ·have e:IntKind.u64.wrap x=(x.natAbs:Int):=by rw [IntKind.wrap_u64];omega
  go_enter Tryz.func196,Tryz.ntmps196
  go_wp2_with fail
  go_ret
  exact ⟨rfl,Below.refl _ _⟩
def uD (P d:Nat) (b neg:Bool):Int × Bool:=if uF P d b≤1000000000000000000 then (gB (uF P d b) neg,true) else (0,false)
theorem Qp {P d:Nat} {b neg:Bool} (h:1000000000000000000<P / d):uD P d b neg=(0,false):=by
 unfold uD uF;generalize P / d=q at *;rw [if_neg];split<;>omega
theorem Nn {P d:Nat} {neg:Bool} (hr:0<P%d) (h:1000000000000000000<P / d+1):uD P d true neg=(0,false):=by
 unfold uD uF;rw [if_pos (⟨hr,rfl⟩:0<P%d∧true=true),if_neg (by generalize P / d=q at*; omega)]
theorem U6 {P d:Nat} {neg:Bool} (hr:0<P%d) (h:P / d+1≤1000000000000000000):uD P d true neg=(gB (P / d+1) neg,true):=by
 unfold uD uF;rw [if_pos (⟨hr,rfl⟩:0<P%d∧true=true),if_pos h]
theorem U7 {P d:Nat} {b neg:Bool} (hr:P%d=0∨b=false) (h:P / d≤1000000000000000000):uD P d b neg=(gB (P / d) neg,true):=by
 have hn:¬ (0<P%d∧b=true):=by
  rintro ⟨h1,h2⟩
  rcases hr with h3|h3
  ·omega
  ·rw [h3] at h2;cases h2
 have e:uF P d b=P / d:=if_neg hn;unfold uD;rw [e,if_pos h]
theorem wY (x y:Int) (d:Nat) (up:Bool) (hx:x.natAbs≤1000000000000000000) (hy:y.natAbs≤1000000000000000000) (hd:0<d) (hd2:d≤1000000000000000000) (w:World) :
  Calls Tryz.prog 146 #[.int .i64 x,.int .i64 y,.int .i64 (d:Int),.bool up] w (fun e w'=>e= .returned (.tuple #[.int .i64 (jD x y d up).1,.bool (jD x y d up).2])∧Below w.heap.size w w'):=by
 have S1:=zh (fun W=>Dn x zo zo W);have S2:=zh (fun W=>Dn y zo zo W)
 have S3:Hid (∀ W,Calls Tryz.prog 196 #[.int .i64 (d:Int)] W (fun e w'=>e= .returned (.int .u64 (d:Int))∧Below W.heap.size W w')):=zh fun W=>by
  have:=Dn (d:Int) zo zo W;rw [Int.natAbs_natCast] at this;exact this
 obtain ⟨nx,ex⟩:∃ b,decide (x<0)=b:=⟨_,rfl⟩;obtain ⟨ny,ey⟩:∃ b,decide (y<0)=b:=⟨_,rfl⟩
 have hq:jD x y d up=uD (x.natAbs*y.natAbs) d (up != (nx != ny)) (nx != ny):=by
  rw [← ex,← ey];exact Qo x y hd up
 obtain ⟨P,eP⟩:∃ P,x.natAbs*y.natAbs=P:=⟨_,rfl⟩;rw [eP] at hq
 have hP:P<18446744073709551616*18446744073709551616:=by
  rw [← eP]
  calc x.natAbs*y.natAbs≤1000000000000000000*1000000000000000000:=Nat.mul_le_mul hx hy
   _<_:=by decide
 rw [hq]
 have M1:Hid (∀ W,Calls Tryz.prog 161 #[.int .u64 (x.natAbs:Int),.int .u64 (y.natAbs:Int)] W (fun e w'=>e= .returned (.tuple #[.int .u64 ((P / 18446744073709551616:Nat):Int),.int .u64 ((P%18446744073709551616:Nat):Int)])∧Below W.heap.size W w')):=zh fun W=>by
  refine (Tryz.bits_Mul64 x.natAbs y.natAbs zo zo W).mono ?_;rintro e w' ⟨rfl,rfl⟩;rw [eP];exact ⟨rfl,Below.refl _ _⟩
 have hlo:=Nat.mod_lt P (show 0<18446744073709551616 by omega);have JU:=Nat.div_add_mod P 18446744073709551616;have ed:¬ (d:Int)<0:=by omega
 have D1:Hid (P / 18446744073709551616<d→∀ W,Calls Tryz.prog 197 #[.int .u64 ((P / 18446744073709551616:Nat):Int),.int .u64 ((P%18446744073709551616:Nat):Int),.int .u64 (d:Int)] W (fun e w'=>e= .returned (.tuple #[.int .u64 ((P / d:Nat):Int),.int .u64 ((P%d:Nat):Int)])∧Below W.heap.size W w')):=zh fun hlt W=>by
  have:=bits.Uc (P / 18446744073709551616) (P%18446744073709551616) d hlt zo hlo W;rw [show P / 18446744073709551616*18446744073709551616+P%18446744073709551616=P by rw [Nat.mul_comm];exact JU] at this;exact this
 have hbig:d≤P / 18446744073709551616→18446744073709551616≤P / d:=fun h=>by
  rw [Nat.le_div_iff_mul_le hd];have:=Nat.mul_le_mul_left 18446744073709551616 h;omega
 obtain ⟨hi,ehi⟩:∃ a,P / 18446744073709551616=a:=⟨_,rfl⟩;obtain ⟨lo,elo⟩:∃ a,P%18446744073709551616=a:=⟨_,rfl⟩;rw [ehi,elo] at M1 D1;rw [ehi] at hbig;have HX:=zh (And.intro ex ey);have I9:=zh hbig;clear hx hy hd hd2 hq eP hP hlo JU ehi elo hbig;obtain ⟨q,eq⟩:∃ a,P / d=a:=⟨_,rfl⟩;obtain ⟨r,er⟩:∃ a,P%d=a:=⟨_,rfl⟩;rw [eq,er] at D1;rw [eq] at I9;have Q1:Hid (∀ b neg,1000000000000000000<q→uD P d b neg=(0,false)):=zh fun b neg h=>Qp (by rw [eq];exact h);have Q2:Hid (∀ neg,0<r→1000000000000000000<q+1→uD P d true neg=(0,false)):=zh fun neg h1 h2=>Nn (by rw [er];exact h1) (by rw [eq];exact h2);have Q3:Hid (∀ neg,0<r→q+1≤1000000000000000000→uD P d true neg=(gB (q+1) neg,true)):=zh fun neg h1 h2=>by rw [U6 (by rw [er];exact h1) (by rw [eq];exact h2),eq]
 have Q4:Hid (∀ b neg,(r=0∨b=false)→q≤1000000000000000000→uD P d b neg=(gB q neg,true)):=zh fun b neg h1 h2=>by rw [U7 (by rw [er];exact h1) (by rw [eq];exact h2),eq]
 clear eq er;generalize uD P d=QR at *;cases nx<;>cases ny<;>cases up
 ·show Calls _ _ _ _ (fun e w'=>e= .returned (.tuple #[.int .i64 (QR false false).1,.bool (QR false false).2])∧Below w.heap.size w w')
  obtain ⟨⟨z1,z2⟩,hz⟩:∃ z,QR false false=z:=⟨_,rfl⟩;rw [hz];have HZ:=zh hz;clear hz;simp only;have ex:=HX.out.1;have ey:=HX.out.2;go_enter Tryz.func146,Tryz.ntmps146
  go_wp2_with fail
  refine (S1.out _).mono ?_;rintro e w1 ⟨rfl,hb⟩;have HB:=zh hb;clear hb ex ey;go_wp2_with fail
  refine (S2.out _).mono ?_;rintro e w2 ⟨rfl,hb⟩;replace HB:=zh (Bt HB.out hb);clear hb;go_wp2_with fail
  refine (M1.out _).mono ?_;rintro e w3 ⟨rfl,hb⟩;replace HB:=zh (Bt HB.out hb);clear hb;go_wp2_with fail
  refine (S3.out _).mono ?_;rintro e w4 ⟨rfl,hb⟩;replace HB:=zh (Bt HB.out hb);clear hb
  rcases Nat.lt_or_ge hi d with c1|c1
  ·have g1:decide (d≤hi)=false:=decide_eq_false zo;have g1':¬ d≤hi:=by omega
   have D2:=zh (D1.out c1);clear c1;go_wp2_with fail
   refine (S3.out _).mono ?_;rintro e w5 ⟨rfl,hb⟩;replace HB:=zh (Bt HB.out hb);clear hb;go_wp2_with fail
   refine (D2.out _).mono ?_;rintro e w6 ⟨rfl,hb⟩;replace HB:=zh (Bt HB.out hb);clear hb g1 g1' D1 D2
   rcases Nat.lt_or_ge 1000000000000000000 q with c2|c2
   ·have g2:decide ((1000000000000000000:Int)<(q:Int))=true:=decide_eq_true zo;obtain ⟨rfl,rfl⟩:z1=0∧z2=false:=by have h:=HZ.out;rw [Q1.out _ _ c2] at h;cases h;exact ⟨rfl,rfl⟩
    have C2:=zh c2;clear c2 Q1 Q2 Q3 Q4;go_wp2_with fail
    go_ret2
    exact ⟨rfl,HB.out⟩
   ·have g2:decide ((1000000000000000000:Int)<(q:Int))=false:=decide_eq_false zo;have w1:IntKind.i64.wrap (q:Int)=(q:Int):=by rw [IntKind.wrap_i64];omega
    have w2:IntKind.i64.wrap (-(q:Int))= -(q:Int):=by rw [IntKind.wrap_i64];omega
    have w3:IntKind.u64.wrap ((q:Int)+1)=((q+1:Nat):Int):=by rw [IntKind.wrap_u64];omega
    rcases Nat.eq_zero_or_pos r with c3|c3
    ·subst c3;obtain ⟨rfl,rfl⟩:z1=(q:Int)∧z2=true:=by have h:=HZ.out;rw [Q4.out _ _ (.inl rfl) c2] at h;cases h;exact ⟨rfl,rfl⟩
     have C2:=zh c2;clear c2 Q1 Q2 Q3 Q4 w3;go_wp2_with fail
     go_ret2
     exact ⟨rfl,HB.out⟩
    ·have g3:(0:Int)<(r:Int):=by omega
     obtain ⟨rfl,rfl⟩:z1=(q:Int)∧z2=true:=by have h:=HZ.out;rw [Q4.out _ _ (.inr rfl) c2] at h;cases h;exact ⟨rfl,rfl⟩
     have C2:=zh (And.intro c2 c3);clear c2 c3 Q1 Q2 Q3 Q4 w3;go_wp2_with fail
     go_ret2
     exact ⟨rfl,HB.out⟩
  ·have g1:decide (d≤hi)=true:=decide_eq_true zo;have g1':d≤hi:=c1;obtain ⟨rfl,rfl⟩:z1=0∧z2=false:=by have h:=HZ.out;rw [Q1.out _ _ (by have:=I9.out c1;omega)] at h;cases h;exact ⟨rfl,rfl⟩
   clear c1 Q1 Q2 Q3 Q4;go_wp2_with fail
   go_ret2
   exact ⟨rfl,HB.out⟩
 ·show Calls _ _ _ _ (fun e w'=>e= .returned (.tuple #[.int .i64 (QR true false).1,.bool (QR true false).2])∧Below w.heap.size w w')
  obtain ⟨⟨z1,z2⟩,hz⟩:∃ z,QR true false=z:=⟨_,rfl⟩;rw [hz];have HZ:=zh hz;clear hz;simp only;have ex:=HX.out.1;have ey:=HX.out.2;go_enter Tryz.func146,Tryz.ntmps146
  go_wp2_with fail
  refine (S1.out _).mono ?_;rintro e w1 ⟨rfl,hb⟩;have HB:=zh hb;clear hb ex ey;go_wp2_with fail
  refine (S2.out _).mono ?_;rintro e w2 ⟨rfl,hb⟩;replace HB:=zh (Bt HB.out hb);clear hb;go_wp2_with fail
  refine (M1.out _).mono ?_;rintro e w3 ⟨rfl,hb⟩;replace HB:=zh (Bt HB.out hb);clear hb;go_wp2_with fail
  refine (S3.out _).mono ?_;rintro e w4 ⟨rfl,hb⟩;replace HB:=zh (Bt HB.out hb);clear hb
  rcases Nat.lt_or_ge hi d with c1|c1
  ·have g1:decide (d≤hi)=false:=decide_eq_false zo;have g1':¬ d≤hi:=by omega
   have D2:=zh (D1.out c1);clear c1;go_wp2_with fail
   refine (S3.out _).mono ?_;rintro e w5 ⟨rfl,hb⟩;replace HB:=zh (Bt HB.out hb);clear hb;go_wp2_with fail
   refine (D2.out _).mono ?_;rintro e w6 ⟨rfl,hb⟩;replace HB:=zh (Bt HB.out hb);clear hb g1 g1' D1 D2
   rcases Nat.lt_or_ge 1000000000000000000 q with c2|c2
   ·have g2:decide ((1000000000000000000:Int)<(q:Int))=true:=decide_eq_true zo;obtain ⟨rfl,rfl⟩:z1=0∧z2=false:=by have h:=HZ.out;rw [Q1.out _ _ c2] at h;cases h;exact ⟨rfl,rfl⟩
    have C2:=zh c2;clear c2 Q1 Q2 Q3 Q4;go_wp2_with fail
    go_ret2
    exact ⟨rfl,HB.out⟩
   ·have g2:decide ((1000000000000000000:Int)<(q:Int))=false:=decide_eq_false zo;have w1:IntKind.i64.wrap (q:Int)=(q:Int):=by rw [IntKind.wrap_i64];omega
    have w2:IntKind.i64.wrap (-(q:Int))= -(q:Int):=by rw [IntKind.wrap_i64];omega
    have w3:IntKind.u64.wrap ((q:Int)+1)=((q+1:Nat):Int):=by rw [IntKind.wrap_u64];omega
    rcases Nat.eq_zero_or_pos r with c3|c3
    ·subst c3;obtain ⟨rfl,rfl⟩:z1=(q:Int)∧z2=true:=by have h:=HZ.out;rw [Q4.out _ _ (.inl rfl) c2] at h;cases h;exact ⟨rfl,rfl⟩
     have C2:=zh c2;clear c2 Q1 Q2 Q3 Q4 w3;go_wp2_with fail
     go_ret2
     exact ⟨rfl,HB.out⟩
    ·have g3:(0:Int)<(r:Int):=by omega
     obtain ⟨q',eq'⟩:∃ a,q+1=a:=⟨_,rfl⟩;rw [eq'] at w3 Q2 Q3
     rcases Nat.lt_or_ge 1000000000000000000 q' with c4|c4
     ·have g4:decide ((1000000000000000000:Int)<(q':Int))=true:=decide_eq_true zo;obtain ⟨rfl,rfl⟩:z1=0∧z2=false:=by have h:=HZ.out;rw [Q2.out _ c3 c4] at h;cases h;exact ⟨rfl,rfl⟩
      have C2:=zh (And.intro c2 (And.intro c3 (And.intro c4 eq')));clear c2 c3 c4 eq' Q1 Q2 Q3 Q4 w1 w2;go_wp2_with fail
      go_ret2
      exact ⟨rfl,HB.out⟩
     ·have g4:decide ((1000000000000000000:Int)<(q':Int))=false:=decide_eq_false zo;have w1':IntKind.i64.wrap (q':Int)=(q':Int):=by rw [IntKind.wrap_i64];omega
      have w2':IntKind.i64.wrap (-(q':Int))= -(q':Int):=by rw [IntKind.wrap_i64];omega
      obtain ⟨rfl,rfl⟩:z1=(q':Int)∧z2=true:=by have h:=HZ.out;rw [Q3.out _ c3 c4] at h;cases h;exact ⟨rfl,rfl⟩
      have C2:=zh (And.intro c2 (And.intro c3 (And.intro c4 eq')));clear c2 c3 c4 eq' Q1 Q2 Q3 Q4 w1 w2;go_wp2_with fail
      go_ret2
      exact ⟨rfl,HB.out⟩
  ·have g1:decide (d≤hi)=true:=decide_eq_true zo;have g1':d≤hi:=c1;obtain ⟨rfl,rfl⟩:z1=0∧z2=false:=by have h:=HZ.out;rw [Q1.out _ _ (by have:=I9.out c1;omega)] at h;cases h;exact ⟨rfl,rfl⟩
   clear c1 Q1 Q2 Q3 Q4;go_wp2_with fail
   go_ret2
   exact ⟨rfl,HB.out⟩
 ·show Calls _ _ _ _ (fun e w'=>e= .returned (.tuple #[.int .i64 (QR true true).1,.bool (QR true true).2])∧Below w.heap.size w w')
  obtain ⟨⟨z1,z2⟩,hz⟩:∃ z,QR true true=z:=⟨_,rfl⟩;rw [hz];have HZ:=zh hz;clear hz;simp only;have ex:=HX.out.1;have ey:=HX.out.2;go_enter Tryz.func146,Tryz.ntmps146
  go_wp2_with fail
  refine (S1.out _).mono ?_;rintro e w1 ⟨rfl,hb⟩;have HB:=zh hb;clear hb ex ey;go_wp2_with fail
  refine (S2.out _).mono ?_;rintro e w2 ⟨rfl,hb⟩;replace HB:=zh (Bt HB.out hb);clear hb;go_wp2_with fail
  refine (M1.out _).mono ?_;rintro e w3 ⟨rfl,hb⟩;replace HB:=zh (Bt HB.out hb);clear hb;go_wp2_with fail
  refine (S3.out _).mono ?_;rintro e w4 ⟨rfl,hb⟩;replace HB:=zh (Bt HB.out hb);clear hb
  rcases Nat.lt_or_ge hi d with c1|c1
  ·have g1:decide (d≤hi)=false:=decide_eq_false zo;have g1':¬ d≤hi:=by omega
   have D2:=zh (D1.out c1);clear c1;go_wp2_with fail
   refine (S3.out _).mono ?_;rintro e w5 ⟨rfl,hb⟩;replace HB:=zh (Bt HB.out hb);clear hb;go_wp2_with fail
   refine (D2.out _).mono ?_;rintro e w6 ⟨rfl,hb⟩;replace HB:=zh (Bt HB.out hb);clear hb g1 g1' D1 D2
   rcases Nat.lt_or_ge 1000000000000000000 q with c2|c2
   ·have g2:decide ((1000000000000000000:Int)<(q:Int))=true:=decide_eq_true zo;obtain ⟨rfl,rfl⟩:z1=0∧z2=false:=by have h:=HZ.out;rw [Q1.out _ _ c2] at h;cases h;exact ⟨rfl,rfl⟩
    have C2:=zh c2;clear c2 Q1 Q2 Q3 Q4;go_wp2_with fail
    go_ret2
    exact ⟨rfl,HB.out⟩
   ·have g2:decide ((1000000000000000000:Int)<(q:Int))=false:=decide_eq_false zo;have w1:IntKind.i64.wrap (q:Int)=(q:Int):=by rw [IntKind.wrap_i64];omega
    have w2:IntKind.i64.wrap (-(q:Int))= -(q:Int):=by rw [IntKind.wrap_i64];omega
    have w3:IntKind.u64.wrap ((q:Int)+1)=((q+1:Nat):Int):=by rw [IntKind.wrap_u64];omega
    rcases Nat.eq_zero_or_pos r with c3|c3
    ·subst c3;obtain ⟨rfl,rfl⟩:z1= -(q:Int)∧z2=true:=by have h:=HZ.out;rw [Q4.out _ _ (.inl rfl) c2] at h;cases h;exact ⟨rfl,rfl⟩
     have C2:=zh c2;clear c2 Q1 Q2 Q3 Q4 w3;go_wp2_with fail
     go_ret2
     exact ⟨rfl,HB.out⟩
    ·have g3:(0:Int)<(r:Int):=by omega
     obtain ⟨q',eq'⟩:∃ a,q+1=a:=⟨_,rfl⟩;rw [eq'] at w3 Q2 Q3
     rcases Nat.lt_or_ge 1000000000000000000 q' with c4|c4
     ·have g4:decide ((1000000000000000000:Int)<(q':Int))=true:=decide_eq_true zo;obtain ⟨rfl,rfl⟩:z1=0∧z2=false:=by have h:=HZ.out;rw [Q2.out _ c3 c4] at h;cases h;exact ⟨rfl,rfl⟩
      have C2:=zh (And.intro c2 (And.intro c3 (And.intro c4 eq')));clear c2 c3 c4 eq' Q1 Q2 Q3 Q4 w1 w2;go_wp2_with fail
      go_ret2
      exact ⟨rfl,HB.out⟩
     ·have g4:decide ((1000000000000000000:Int)<(q':Int))=false:=decide_eq_false zo;have w1':IntKind.i64.wrap (q':Int)=(q':Int):=by rw [IntKind.wrap_i64];omega
      have w2':IntKind.i64.wrap (-(q':Int))= -(q':Int):=by rw [IntKind.wrap_i64];omega
      obtain ⟨rfl,rfl⟩:z1= -(q':Int)∧z2=true:=by have h:=HZ.out;rw [Q3.out _ c3 c4] at h;cases h;exact ⟨rfl,rfl⟩
      have C2:=zh (And.intro c2 (And.intro c3 (And.intro c4 eq')));clear c2 c3 c4 eq' Q1 Q2 Q3 Q4 w1 w2;go_wp2_with fail
      go_ret2
      exact ⟨rfl,HB.out⟩
  ·have g1:decide (d≤hi)=true:=decide_eq_true zo;have g1':d≤hi:=c1;obtain ⟨rfl,rfl⟩:z1=0∧z2=false:=by have h:=HZ.out;rw [Q1.out _ _ (by have:=I9.out c1;omega)] at h;cases h;exact ⟨rfl,rfl⟩
   clear c1 Q1 Q2 Q3 Q4;go_wp2_with fail
   go_ret2
   exact ⟨rfl,HB.out⟩
 ·show Calls _ _ _ _ (fun e w'=>e= .returned (.tuple #[.int .i64 (QR false true).1,.bool (QR false true).2])∧Below w.heap.size w w')
  obtain ⟨⟨z1,z2⟩,hz⟩:∃ z,QR false true=z:=⟨_,rfl⟩;rw [hz];have HZ:=zh hz;clear hz;simp only;have ex:=HX.out.1;have ey:=HX.out.2;go_enter Tryz.func146,Tryz.ntmps146
  go_wp2_with fail
  refine (S1.out _).mono ?_;rintro e w1 ⟨rfl,hb⟩;have HB:=zh hb;clear hb ex ey;go_wp2_with fail
  refine (S2.out _).mono ?_;rintro e w2 ⟨rfl,hb⟩;replace HB:=zh (Bt HB.out hb);clear hb;go_wp2_with fail
  refine (M1.out _).mono ?_;rintro e w3 ⟨rfl,hb⟩;replace HB:=zh (Bt HB.out hb);clear hb;go_wp2_with fail
  refine (S3.out _).mono ?_;rintro e w4 ⟨rfl,hb⟩;replace HB:=zh (Bt HB.out hb);clear hb
  rcases Nat.lt_or_ge hi d with c1|c1
  ·have g1:decide (d≤hi)=false:=decide_eq_false zo;have g1':¬ d≤hi:=by omega
   have D2:=zh (D1.out c1);clear c1;go_wp2_with fail
   refine (S3.out _).mono ?_;rintro e w5 ⟨rfl,hb⟩;replace HB:=zh (Bt HB.out hb);clear hb;go_wp2_with fail
   refine (D2.out _).mono ?_;rintro e w6 ⟨rfl,hb⟩;replace HB:=zh (Bt HB.out hb);clear hb g1 g1' D1 D2
   rcases Nat.lt_or_ge 1000000000000000000 q with c2|c2
   ·have g2:decide ((1000000000000000000:Int)<(q:Int))=true:=decide_eq_true zo;obtain ⟨rfl,rfl⟩:z1=0∧z2=false:=by have h:=HZ.out;rw [Q1.out _ _ c2] at h;cases h;exact ⟨rfl,rfl⟩
    have C2:=zh c2;clear c2 Q1 Q2 Q3 Q4;go_wp2_with fail
    go_ret2
    exact ⟨rfl,HB.out⟩
   ·have g2:decide ((1000000000000000000:Int)<(q:Int))=false:=decide_eq_false zo;have w1:IntKind.i64.wrap (q:Int)=(q:Int):=by rw [IntKind.wrap_i64];omega
    have w2:IntKind.i64.wrap (-(q:Int))= -(q:Int):=by rw [IntKind.wrap_i64];omega
    have w3:IntKind.u64.wrap ((q:Int)+1)=((q+1:Nat):Int):=by rw [IntKind.wrap_u64];omega
    rcases Nat.eq_zero_or_pos r with c3|c3
    ·subst c3;obtain ⟨rfl,rfl⟩:z1= -(q:Int)∧z2=true:=by have h:=HZ.out;rw [Q4.out _ _ (.inl rfl) c2] at h;cases h;exact ⟨rfl,rfl⟩
     have C2:=zh c2;clear c2 Q1 Q2 Q3 Q4 w3;go_wp2_with fail
     go_ret2
     exact ⟨rfl,HB.out⟩
    ·have g3:(0:Int)<(r:Int):=by omega
     obtain ⟨rfl,rfl⟩:z1= -(q:Int)∧z2=true:=by have h:=HZ.out;rw [Q4.out _ _ (.inr rfl) c2] at h;cases h;exact ⟨rfl,rfl⟩
     have C2:=zh (And.intro c2 c3);clear c2 c3 Q1 Q2 Q3 Q4 w3;go_wp2_with fail
     go_ret2
     exact ⟨rfl,HB.out⟩
  ·have g1:decide (d≤hi)=true:=decide_eq_true zo;have g1':d≤hi:=c1;obtain ⟨rfl,rfl⟩:z1=0∧z2=false:=by have h:=HZ.out;rw [Q1.out _ _ (by have:=I9.out c1;omega)] at h;cases h;exact ⟨rfl,rfl⟩
   clear c1 Q1 Q2 Q3 Q4;go_wp2_with fail
   go_ret2
   exact ⟨rfl,HB.out⟩
 ·show Calls _ _ _ _ (fun e w'=>e= .returned (.tuple #[.int .i64 (QR true true).1,.bool (QR true true).2])∧Below w.heap.size w w')
  obtain ⟨⟨z1,z2⟩,hz⟩:∃ z,QR true true=z:=⟨_,rfl⟩;rw [hz];have HZ:=zh hz;clear hz;simp only;have ex:=HX.out.1;have ey:=HX.out.2;go_enter Tryz.func146,Tryz.ntmps146
  go_wp2_with fail
  refine (S1.out _).mono ?_;rintro e w1 ⟨rfl,hb⟩;have HB:=zh hb;clear hb ex ey;go_wp2_with fail
  refine (S2.out _).mono ?_;rintro e w2 ⟨rfl,hb⟩;replace HB:=zh (Bt HB.out hb);clear hb;go_wp2_with fail
  refine (M1.out _).mono ?_;rintro e w3 ⟨rfl,hb⟩;replace HB:=zh (Bt HB.out hb);clear hb;go_wp2_with fail
  refine (S3.out _).mono ?_;rintro e w4 ⟨rfl,hb⟩;replace HB:=zh (Bt HB.out hb);clear hb
  rcases Nat.lt_or_ge hi d with c1|c1
  ·have g1:decide (d≤hi)=false:=decide_eq_false zo;have g1':¬ d≤hi:=by omega
   have D2:=zh (D1.out c1);clear c1;go_wp2_with fail
   refine (S3.out _).mono ?_;rintro e w5 ⟨rfl,hb⟩;replace HB:=zh (Bt HB.out hb);clear hb;go_wp2_with fail
   refine (D2.out _).mono ?_;rintro e w6 ⟨rfl,hb⟩;replace HB:=zh (Bt HB.out hb);clear hb g1 g1' D1 D2
   rcases Nat.lt_or_ge 1000000000000000000 q with c2|c2
   ·have g2:decide ((1000000000000000000:Int)<(q:Int))=true:=decide_eq_true zo;obtain ⟨rfl,rfl⟩:z1=0∧z2=false:=by have h:=HZ.out;rw [Q1.out _ _ c2] at h;cases h;exact ⟨rfl,rfl⟩
    have C2:=zh c2;clear c2 Q1 Q2 Q3 Q4;go_wp2_with fail
    go_ret2
    exact ⟨rfl,HB.out⟩
   ·have g2:decide ((1000000000000000000:Int)<(q:Int))=false:=decide_eq_false zo;have w1:IntKind.i64.wrap (q:Int)=(q:Int):=by rw [IntKind.wrap_i64];omega
    have w2:IntKind.i64.wrap (-(q:Int))= -(q:Int):=by rw [IntKind.wrap_i64];omega
    have w3:IntKind.u64.wrap ((q:Int)+1)=((q+1:Nat):Int):=by rw [IntKind.wrap_u64];omega
    rcases Nat.eq_zero_or_pos r with c3|c3
    ·subst c3;obtain ⟨rfl,rfl⟩:z1= -(q:Int)∧z2=true:=by have h:=HZ.out;rw [Q4.out _ _ (.inl rfl) c2] at h;cases h;exact ⟨rfl,rfl⟩
     have C2:=zh c2;clear c2 Q1 Q2 Q3 Q4 w3;go_wp2_with fail
     go_ret2
     exact ⟨rfl,HB.out⟩
    ·have g3:(0:Int)<(r:Int):=by omega
     obtain ⟨q',eq'⟩:∃ a,q+1=a:=⟨_,rfl⟩;rw [eq'] at w3 Q2 Q3
     rcases Nat.lt_or_ge 1000000000000000000 q' with c4|c4
     ·have g4:decide ((1000000000000000000:Int)<(q':Int))=true:=decide_eq_true zo;obtain ⟨rfl,rfl⟩:z1=0∧z2=false:=by have h:=HZ.out;rw [Q2.out _ c3 c4] at h;cases h;exact ⟨rfl,rfl⟩
      have C2:=zh (And.intro c2 (And.intro c3 (And.intro c4 eq')));clear c2 c3 c4 eq' Q1 Q2 Q3 Q4 w1 w2;go_wp2_with fail
      go_ret2
      exact ⟨rfl,HB.out⟩
     ·have g4:decide ((1000000000000000000:Int)<(q':Int))=false:=decide_eq_false zo;have w1':IntKind.i64.wrap (q':Int)=(q':Int):=by rw [IntKind.wrap_i64];omega
      have w2':IntKind.i64.wrap (-(q':Int))= -(q':Int):=by rw [IntKind.wrap_i64];omega
      obtain ⟨rfl,rfl⟩:z1= -(q':Int)∧z2=true:=by have h:=HZ.out;rw [Q3.out _ c3 c4] at h;cases h;exact ⟨rfl,rfl⟩
      have C2:=zh (And.intro c2 (And.intro c3 (And.intro c4 eq')));clear c2 c3 c4 eq' Q1 Q2 Q3 Q4 w1 w2;go_wp2_with fail
      go_ret2
      exact ⟨rfl,HB.out⟩
  ·have g1:decide (d≤hi)=true:=decide_eq_true zo;have g1':d≤hi:=c1;obtain ⟨rfl,rfl⟩:z1=0∧z2=false:=by have h:=HZ.out;rw [Q1.out _ _ (by have:=I9.out c1;omega)] at h;cases h;exact ⟨rfl,rfl⟩
   clear c1 Q1 Q2 Q3 Q4;go_wp2_with fail
   go_ret2
   exact ⟨rfl,HB.out⟩
 ·show Calls _ _ _ _ (fun e w'=>e= .returned (.tuple #[.int .i64 (QR false true).1,.bool (QR false true).2])∧Below w.heap.size w w')
  obtain ⟨⟨z1,z2⟩,hz⟩:∃ z,QR false true=z:=⟨_,rfl⟩;rw [hz];have HZ:=zh hz;clear hz;simp only;have ex:=HX.out.1;have ey:=HX.out.2;go_enter Tryz.func146,Tryz.ntmps146
  go_wp2_with fail
  refine (S1.out _).mono ?_;rintro e w1 ⟨rfl,hb⟩;have HB:=zh hb;clear hb ex ey;go_wp2_with fail
  refine (S2.out _).mono ?_;rintro e w2 ⟨rfl,hb⟩;replace HB:=zh (Bt HB.out hb);clear hb;go_wp2_with fail
  refine (M1.out _).mono ?_;rintro e w3 ⟨rfl,hb⟩;replace HB:=zh (Bt HB.out hb);clear hb;go_wp2_with fail
  refine (S3.out _).mono ?_;rintro e w4 ⟨rfl,hb⟩;replace HB:=zh (Bt HB.out hb);clear hb
  rcases Nat.lt_or_ge hi d with c1|c1
  ·have g1:decide (d≤hi)=false:=decide_eq_false zo;have g1':¬ d≤hi:=by omega
   have D2:=zh (D1.out c1);clear c1;go_wp2_with fail
   refine (S3.out _).mono ?_;rintro e w5 ⟨rfl,hb⟩;replace HB:=zh (Bt HB.out hb);clear hb;go_wp2_with fail
   refine (D2.out _).mono ?_;rintro e w6 ⟨rfl,hb⟩;replace HB:=zh (Bt HB.out hb);clear hb g1 g1' D1 D2
   rcases Nat.lt_or_ge 1000000000000000000 q with c2|c2
   ·have g2:decide ((1000000000000000000:Int)<(q:Int))=true:=decide_eq_true zo;obtain ⟨rfl,rfl⟩:z1=0∧z2=false:=by have h:=HZ.out;rw [Q1.out _ _ c2] at h;cases h;exact ⟨rfl,rfl⟩
    have C2:=zh c2;clear c2 Q1 Q2 Q3 Q4;go_wp2_with fail
    go_ret2
    exact ⟨rfl,HB.out⟩
   ·have g2:decide ((1000000000000000000:Int)<(q:Int))=false:=decide_eq_false zo;have w1:IntKind.i64.wrap (q:Int)=(q:Int):=by rw [IntKind.wrap_i64];omega
    have w2:IntKind.i64.wrap (-(q:Int))= -(q:Int):=by rw [IntKind.wrap_i64];omega
    have w3:IntKind.u64.wrap ((q:Int)+1)=((q+1:Nat):Int):=by rw [IntKind.wrap_u64];omega
    rcases Nat.eq_zero_or_pos r with c3|c3
    ·subst c3;obtain ⟨rfl,rfl⟩:z1= -(q:Int)∧z2=true:=by have h:=HZ.out;rw [Q4.out _ _ (.inl rfl) c2] at h;cases h;exact ⟨rfl,rfl⟩
     have C2:=zh c2;clear c2 Q1 Q2 Q3 Q4 w3;go_wp2_with fail
     go_ret2
     exact ⟨rfl,HB.out⟩
    ·have g3:(0:Int)<(r:Int):=by omega
     obtain ⟨rfl,rfl⟩:z1= -(q:Int)∧z2=true:=by have h:=HZ.out;rw [Q4.out _ _ (.inr rfl) c2] at h;cases h;exact ⟨rfl,rfl⟩
     have C2:=zh (And.intro c2 c3);clear c2 c3 Q1 Q2 Q3 Q4 w3;go_wp2_with fail
     go_ret2
     exact ⟨rfl,HB.out⟩
  ·have g1:decide (d≤hi)=true:=decide_eq_true zo;have g1':d≤hi:=c1;obtain ⟨rfl,rfl⟩:z1=0∧z2=false:=by have h:=HZ.out;rw [Q1.out _ _ (by have:=I9.out c1;omega)] at h;cases h;exact ⟨rfl,rfl⟩
   clear c1 Q1 Q2 Q3 Q4;go_wp2_with fail
   go_ret2
   exact ⟨rfl,HB.out⟩
 ·show Calls _ _ _ _ (fun e w'=>e= .returned (.tuple #[.int .i64 (QR false false).1,.bool (QR false false).2])∧Below w.heap.size w w')
  obtain ⟨⟨z1,z2⟩,hz⟩:∃ z,QR false false=z:=⟨_,rfl⟩;rw [hz];have HZ:=zh hz;clear hz;simp only;have ex:=HX.out.1;have ey:=HX.out.2;go_enter Tryz.func146,Tryz.ntmps146
  go_wp2_with fail
  refine (S1.out _).mono ?_;rintro e w1 ⟨rfl,hb⟩;have HB:=zh hb;clear hb ex ey;go_wp2_with fail
  refine (S2.out _).mono ?_;rintro e w2 ⟨rfl,hb⟩;replace HB:=zh (Bt HB.out hb);clear hb;go_wp2_with fail
  refine (M1.out _).mono ?_;rintro e w3 ⟨rfl,hb⟩;replace HB:=zh (Bt HB.out hb);clear hb;go_wp2_with fail
  refine (S3.out _).mono ?_;rintro e w4 ⟨rfl,hb⟩;replace HB:=zh (Bt HB.out hb);clear hb
  rcases Nat.lt_or_ge hi d with c1|c1
  ·have g1:decide (d≤hi)=false:=decide_eq_false zo;have g1':¬ d≤hi:=by omega
   have D2:=zh (D1.out c1);clear c1;go_wp2_with fail
   refine (S3.out _).mono ?_;rintro e w5 ⟨rfl,hb⟩;replace HB:=zh (Bt HB.out hb);clear hb;go_wp2_with fail
   refine (D2.out _).mono ?_;rintro e w6 ⟨rfl,hb⟩;replace HB:=zh (Bt HB.out hb);clear hb g1 g1' D1 D2
   rcases Nat.lt_or_ge 1000000000000000000 q with c2|c2
   ·have g2:decide ((1000000000000000000:Int)<(q:Int))=true:=decide_eq_true zo;obtain ⟨rfl,rfl⟩:z1=0∧z2=false:=by have h:=HZ.out;rw [Q1.out _ _ c2] at h;cases h;exact ⟨rfl,rfl⟩
    have C2:=zh c2;clear c2 Q1 Q2 Q3 Q4;go_wp2_with fail
    go_ret2
    exact ⟨rfl,HB.out⟩
   ·have g2:decide ((1000000000000000000:Int)<(q:Int))=false:=decide_eq_false zo;have w1:IntKind.i64.wrap (q:Int)=(q:Int):=by rw [IntKind.wrap_i64];omega
    have w2:IntKind.i64.wrap (-(q:Int))= -(q:Int):=by rw [IntKind.wrap_i64];omega
    have w3:IntKind.u64.wrap ((q:Int)+1)=((q+1:Nat):Int):=by rw [IntKind.wrap_u64];omega
    rcases Nat.eq_zero_or_pos r with c3|c3
    ·subst c3;obtain ⟨rfl,rfl⟩:z1=(q:Int)∧z2=true:=by have h:=HZ.out;rw [Q4.out _ _ (.inl rfl) c2] at h;cases h;exact ⟨rfl,rfl⟩
     have C2:=zh c2;clear c2 Q1 Q2 Q3 Q4 w3;go_wp2_with fail
     go_ret2
     exact ⟨rfl,HB.out⟩
    ·have g3:(0:Int)<(r:Int):=by omega
     obtain ⟨rfl,rfl⟩:z1=(q:Int)∧z2=true:=by have h:=HZ.out;rw [Q4.out _ _ (.inr rfl) c2] at h;cases h;exact ⟨rfl,rfl⟩
     have C2:=zh (And.intro c2 c3);clear c2 c3 Q1 Q2 Q3 Q4 w3;go_wp2_with fail
     go_ret2
     exact ⟨rfl,HB.out⟩
  ·have g1:decide (d≤hi)=true:=decide_eq_true zo;have g1':d≤hi:=c1;obtain ⟨rfl,rfl⟩:z1=0∧z2=false:=by have h:=HZ.out;rw [Q1.out _ _ (by have:=I9.out c1;omega)] at h;cases h;exact ⟨rfl,rfl⟩
   clear c1 Q1 Q2 Q3 Q4;go_wp2_with fail
   go_ret2
   exact ⟨rfl,HB.out⟩
 ·show Calls _ _ _ _ (fun e w'=>e= .returned (.tuple #[.int .i64 (QR true false).1,.bool (QR true false).2])∧Below w.heap.size w w')
  obtain ⟨⟨z1,z2⟩,hz⟩:∃ z,QR true false=z:=⟨_,rfl⟩;rw [hz];have HZ:=zh hz;clear hz;simp only;have ex:=HX.out.1;have ey:=HX.out.2;go_enter Tryz.func146,Tryz.ntmps146
  go_wp2_with fail
  refine (S1.out _).mono ?_;rintro e w1 ⟨rfl,hb⟩;have HB:=zh hb;clear hb ex ey;go_wp2_with fail
  refine (S2.out _).mono ?_;rintro e w2 ⟨rfl,hb⟩;replace HB:=zh (Bt HB.out hb);clear hb;go_wp2_with fail
  refine (M1.out _).mono ?_;rintro e w3 ⟨rfl,hb⟩;replace HB:=zh (Bt HB.out hb);clear hb;go_wp2_with fail
  refine (S3.out _).mono ?_;rintro e w4 ⟨rfl,hb⟩;replace HB:=zh (Bt HB.out hb);clear hb
  rcases Nat.lt_or_ge hi d with c1|c1
  ·have g1:decide (d≤hi)=false:=decide_eq_false zo;have g1':¬ d≤hi:=by omega
   have D2:=zh (D1.out c1);clear c1;go_wp2_with fail
   refine (S3.out _).mono ?_;rintro e w5 ⟨rfl,hb⟩;replace HB:=zh (Bt HB.out hb);clear hb;go_wp2_with fail
   refine (D2.out _).mono ?_;rintro e w6 ⟨rfl,hb⟩;replace HB:=zh (Bt HB.out hb);clear hb g1 g1' D1 D2
   rcases Nat.lt_or_ge 1000000000000000000 q with c2|c2
   ·have g2:decide ((1000000000000000000:Int)<(q:Int))=true:=decide_eq_true zo;obtain ⟨rfl,rfl⟩:z1=0∧z2=false:=by have h:=HZ.out;rw [Q1.out _ _ c2] at h;cases h;exact ⟨rfl,rfl⟩
    have C2:=zh c2;clear c2 Q1 Q2 Q3 Q4;go_wp2_with fail
    go_ret2
    exact ⟨rfl,HB.out⟩
   ·have g2:decide ((1000000000000000000:Int)<(q:Int))=false:=decide_eq_false zo;have w1:IntKind.i64.wrap (q:Int)=(q:Int):=by rw [IntKind.wrap_i64];omega
    have w2:IntKind.i64.wrap (-(q:Int))= -(q:Int):=by rw [IntKind.wrap_i64];omega
    have w3:IntKind.u64.wrap ((q:Int)+1)=((q+1:Nat):Int):=by rw [IntKind.wrap_u64];omega
    rcases Nat.eq_zero_or_pos r with c3|c3
    ·subst c3;obtain ⟨rfl,rfl⟩:z1=(q:Int)∧z2=true:=by have h:=HZ.out;rw [Q4.out _ _ (.inl rfl) c2] at h;cases h;exact ⟨rfl,rfl⟩
     have C2:=zh c2;clear c2 Q1 Q2 Q3 Q4 w3;go_wp2_with fail
     go_ret2
     exact ⟨rfl,HB.out⟩
    ·have g3:(0:Int)<(r:Int):=by omega
     obtain ⟨q',eq'⟩:∃ a,q+1=a:=⟨_,rfl⟩;rw [eq'] at w3 Q2 Q3
     rcases Nat.lt_or_ge 1000000000000000000 q' with c4|c4
     ·have g4:decide ((1000000000000000000:Int)<(q':Int))=true:=decide_eq_true zo;obtain ⟨rfl,rfl⟩:z1=0∧z2=false:=by have h:=HZ.out;rw [Q2.out _ c3 c4] at h;cases h;exact ⟨rfl,rfl⟩
      have C2:=zh (And.intro c2 (And.intro c3 (And.intro c4 eq')));clear c2 c3 c4 eq' Q1 Q2 Q3 Q4 w1 w2;go_wp2_with fail
      go_ret2
      exact ⟨rfl,HB.out⟩
     ·have g4:decide ((1000000000000000000:Int)<(q':Int))=false:=decide_eq_false zo;have w1':IntKind.i64.wrap (q':Int)=(q':Int):=by rw [IntKind.wrap_i64];omega
      have w2':IntKind.i64.wrap (-(q':Int))= -(q':Int):=by rw [IntKind.wrap_i64];omega
      obtain ⟨rfl,rfl⟩:z1=(q':Int)∧z2=true:=by have h:=HZ.out;rw [Q3.out _ c3 c4] at h;cases h;exact ⟨rfl,rfl⟩
      have C2:=zh (And.intro c2 (And.intro c3 (And.intro c4 eq')));clear c2 c3 c4 eq' Q1 Q2 Q3 Q4 w1 w2;go_wp2_with fail
      go_ret2
      exact ⟨rfl,HB.out⟩
  ·have g1:decide (d≤hi)=true:=decide_eq_true zo;have g1':d≤hi:=c1;obtain ⟨rfl,rfl⟩:z1=0∧z2=false:=by have h:=HZ.out;rw [Q1.out _ _ (by have:=I9.out c1;omega)] at h;cases h;exact ⟨rfl,rfl⟩
   clear c1 Q1 Q2 Q3 Q4;go_wp2_with fail
   go_ret2
   exact ⟨rfl,HB.out⟩
theorem Mw (x y:Int) (up:Bool) (hx:x.natAbs≤1000000000000000000) (hy:y.natAbs≤1000000000000000000) (w:World) :
  Calls Tryz.prog 145 #[.int .i64 x,.int .i64 y,.bool up] w (fun e w'=>e= .returned (.tuple #[.int .i64 (jD x y 1000000000000 up).1,.bool (jD x y 1000000000000 up).2])∧Below w.heap.size w w'):=by
 have H:=zh (fun W=>wY x y 1000000000000 up hx hy zo zo W);generalize jD x y 1000000000000 up=z at *;obtain ⟨z1,z2⟩:=z;simp only at *;go_enter Tryz.func145,Tryz.ntmps145
 go_wp2_with fail
 refine (H.out _).mono ?_;rintro e w1 ⟨rfl,hb⟩;go_wp2_with fail
 go_ret2
 exact ⟨rfl,hb⟩
def Xx (a:Int × Int) (k:Nat):Int:=if k / 2=0 then a.1 else a.2
def Xw (b:Int × Int) (k:Nat):Int:=if k%2=0 then b.1 else b.2
def pV (a b:Int × Int) (k:Nat):Int × Bool:=jD (Xx a k) (Xw b k) 1000000000000 false
def jl (a b:Int × Int) (k:Nat):Int × Bool:=jD (Xx a k) (Xw b k) 1000000000000 true
def Sk (a b:Int × Int):Bool:=(List.range 4).all fun k=>(pV a b k).2&&(jl a b k).2
def uq (a b:Int × Int):(Int × Int) × Int:=if Sk a b then gF ([(pV a b 0).1,(pV a b 1).1,(pV a b 2).1,(pV a b 3).1].foldl min (pV a b 0).1) ([(jl a b 0).1,(jl a b 1).1,(jl a b 2).1,(jl a b 3).1].foldl max (jl a b 0).1) else ((0,0),6)
def qH (a b:Int × Int):(Int × Int) × Int:=if okB [a,b] then uq a b else ((0,0),30)
def Oj (f:Nat→Int × Bool) (k q:Nat):Int:=if q<k then (f q).1 else 0
def wO (f:Nat→Int × Bool) (k:Nat):Array Value:=#[.int .i64 (Oj f k 0),.int .i64 (Oj f k 1),.int .i64 (Oj f k 2),.int .i64 (Oj f k 3)]
theorem au.ax5 (w:World) (o o2 o3 o4:Obj) (cs:Array Value) (T:TypeId):au (((((w.alloc o).alloc o2).alloc o3).alloc o4).alloc (.cells cs T (0,0))) (w.heap.size+1+1+1+1) cs T:=au.qE zi
theorem aC8 (w:World) (c0:Array Value) (T0:TypeId) (c1:Array Value) (T1:TypeId) (c2:Array Value) (T2:TypeId) (c3:Array Value) (T3:TypeId) (c4:Array Value) (T4:TypeId):∃ y,((((w.alloc (.cells c0 T0 (0,0))).alloc (.cells c1 T1 (0,0))).alloc (.cells c2 T2 (0,0))).alloc (.cells c3 T3 (0,0))).alloc (.cells c4 T4 (0,0))=y∧Below w.heap.size w y∧Hid (au y (w.heap.size) c0 T0)∧Hid (au y (w.heap.size+1) c1 T1)∧Hid (au y (w.heap.size+1+1) c2 T2)∧Hid (au y (w.heap.size+1+1+1) c3 T3)∧Hid (au y (w.heap.size+1+1+1+1) c4 T4):=⟨_,rfl,aJ (aJ (aJ (aJ (aJ (Below.refl _ _) _) _) _) _) _,zh (au.alloc (au.alloc (au.alloc (au.alloc (au.new _ _ _) _) _) _) _),zh (au.alloc (au.alloc (au.alloc (au.oN _ _ _ _) _) _) _),zh (au.alloc (au.alloc (au.at2 _ _ _ _ _) _) _),zh (au.alloc (au.at3 _ _ _ _ _ _) _),zh (au.ax5 _ _ _ _ _ _ _)⟩
structure II (w0:World) (a b:Int × Int) (wr:World) (k:Nat):Prop where
 ba:au wr w0.heap.size #[.int .i64 a.1,.int .i64 a.2] 69
 bb:au wr (w0.heap.size+1) #[.int .i64 b.1,.int .i64 b.2] 69
 br:au wr (w0.heap.size+1+1) #[.int .i64 0,.int .i64 0] 69
 bl:au wr (w0.heap.size+1+1+1) (wO (pV a b) k) 261
 bh:au wr (w0.heap.size+1+1+1+1) (wO (jl a b) k) 261
 bw:Below w0.heap.size w0 wr
 ok:∀ q,q<k→(pV a b q).2=true∧(jl a b q).2=true
theorem II.later {w0 wr w':World} {a b:Int × Int} {k:Nat} (h:II w0 a b wr k) (hb:Below wr.heap.size wr w'):II w0 a b w' k :=
 ⟨h.ba.later hb,h.bb.later hb,h.br.later hb,h.bl.later hb,h.bh.later hb,Bt h.bw hb,h.ok⟩
theorem Iy (f:Nat→Int × Bool) {k:Nat} (hk:k<4):(wO f k).setIfInBounds k (.int .i64 (f k).1)=wO f (k+1):=by
 have:k=0∨k=1∨k=2∨k=3:=by omega
 rcases this with rfl|rfl|rfl|rfl<;>simp [wO,Oj]
theorem II.step {w0 wr:World} {a b:Int × Int} {k:Nat} (h:II w0 a b wr k) (hk:k<4) (h1:(pV a b k).2=true) (h2:(jl a b k).2=true) :
  II w0 a b ((wr.setCell ⟨w0.heap.size+1+1+1,k,none⟩ (.int .i64 (pV a b k).1)).setCell ⟨w0.heap.size+1+1+1+1,k,none⟩ (.int .i64 (jl a b k).1)) (k+1) where
 ba:=au.setOther (au.setOther h.ba _ (by first|(simp;done)|(simp;omega))) _ (by first|(simp;done)|(simp;omega))
 bb:=au.setOther (au.setOther h.bb _ (by first|(simp;done)|(simp;omega))) _ (by first|(simp;done)|(simp;omega))
 br:=au.setOther (au.setOther h.br _ zi) _ (by first|(simp;done)|(simp;omega))
 bl:=by
  have:=au.setOther (h.bl.set k (.int .i64 (pV a b k).1)) (a:=⟨w0.heap.size+1+1+1+1,k,none⟩) (.int .i64 (jl a b k).1) zi
  rwa [Iy _ hk] at this
 bh:=by
  have:=(au.setOther h.bh (a:=⟨w0.heap.size+1+1+1,k,none⟩) (.int .i64 (pV a b k).1) zi).set k (.int .i64 (jl a b k).1)
  rwa [Iy _ hk] at this
 bw:=(h.bw.setCell (p:=⟨w0.heap.size+1+1+1,k,none⟩) (by simp;omega) _).setCell (p:=⟨w0.heap.size+1+1+1+1,k,none⟩) (by simp;omega) _
 ok:=fun q hq=>by
  rcases Nat.lt_or_ge q k with h'|h'
  ·exact h.ok q h'
  ·obtain rfl:q=k:=by omega
   exact ⟨h1,h2⟩
theorem LV (f:Nat→Int × Bool) (j:Nat) (h:j<[(f 0).1,(f 1).1,(f 2).1,(f 3).1].length):(wO f 4)[j]? =some (.int .i64 [(f 0).1,(f 1).1,(f 2).1,(f 3).1][j]):=by
 have:j=0∨j=1∨j=2∨j=3:=by have:j<4:=h;omega
 rcases this with rfl|rfl|rfl|rfl<;>simp [wO,Oj]
theorem YX {a b:Int × Int} {k:Nat} (hk:k<4) (h:(pV a b k).2=false∨(jl a b k).2=false):uq a b=((0,0),6):=by
 unfold uq;rw [if_neg];intro hf;unfold Sk at hf;have:=List.all_eq_true.1 hf k (by simp [hk])
 rcases h with h|h<;>simp [h] at this
theorem Ng (x y z t:Int) (hx:x.natAbs≤1000000000000000000) (hy:y.natAbs≤1000000000000000000) (hz:z.natAbs≤1000000000000000000) (ht:t.natAbs≤1000000000000000000) (w:World) :
  Calls Tryz.prog 144 #[.agg #[.int .i64 x,.int .i64 y],.agg #[.int .i64 z,.int .i64 t],.func (.func 145) #[] #[]] w (fun e w'=>e= .returned (dV (uq (x,y) (z,t)))∧Below w.heap.size w w'):=by
 have hpx:∀ k,(Xx (x,y) k).natAbs≤1000000000000000000:=fun k=>by unfold Xx;split<;>assumption
 have hpy:∀ k,(Xw (z,t) k).natAbs≤1000000000000000000:=fun k=>by unfold Xw;split<;>assumption
 have HL:Hid (∀ k W,Calls Tryz.prog 145 #[.int .i64 (Xx (x,y) k),.int .i64 (Xw (z,t) k),.bool false] W (fun e w'=>e= .returned (.tuple #[.int .i64 (pV (x,y) (z,t) k).1,.bool (pV (x,y) (z,t) k).2])∧Below W.heap.size W w')):=zh (fun k W=>Mw (Xx (x,y) k) (Xw (z,t) k) false (hpx k) (hpy k) W);have HH:Hid (∀ k W,Calls Tryz.prog 145 #[.int .i64 (Xx (x,y) k),.int .i64 (Xw (z,t) k),.bool true] W (fun e w'=>e= .returned (.tuple #[.int .i64 (jl (x,y) (z,t) k).1,.bool (jl (x,y) (z,t) k).2])∧Below W.heap.size W w')):=zh (fun k W=>Mw (Xx (x,y) k) (Xw (z,t) k) true (hpx k) (hpy k) W);have HN:=zh (fun k (hk:k<4) h=>YX (a:=(x,y)) (b:=(z,t)) (k:=k) hk h);have HY:Hid (II w (x,y) (z,t) w 4→True):=zh fun _=>trivial;obtain ⟨⟨⟨s1,s2⟩,s3⟩,es⟩:∃ s,uq (x,y) (z,t)=s:=⟨_,rfl⟩;rw [es];have HS:=zh es;unfold dV;clear hx hy hz ht hpx hpy es HY;go_enter Tryz.func144,Tryz.ntmps144
 go_wp2_with fail
 go_step3
 go_wp2_with fail
 go_step3
 go_wp2_with fail
 obtain ⟨w0,EW,hb,X3,X4,X6,X8,X9⟩:=aC8 w #[.int .i64 x,.int .i64 y] 69 #[.int .i64 z,.int .i64 t] 69 #[.int .i64 0,.int .i64 0] 69 #[.int .i64 0,.int .i64 0,.int .i64 0,.int .i64 0] 261 #[.int .i64 0,.int .i64 0,.int .i64 0,.int .i64 0] 261;rw [EW];clear EW;have Yg:Hid (II w (x,y) (z,t) w0 0):=zh ⟨X3.out,X4.out,X6.out,X8.out,X9.out,hb,fun q h=>absurd h zo⟩;clear X3 X4 X6 X8 X9 hb
 go_loopw [10,24] (fun fv iv wr=>∃ i:Int,fv= .bool true∧iv= .int .i64 i∧Hid ((i=0∧II w (x,y) (z,t) wr 0)∨(i=1∧II w (x,y) (z,t) wr 2)∨(i=2∧II w (x,y) (z,t) wr 4))) (fun _ iv _=>2 - (intOf iv).toNat)
 case atStart=>exact ⟨0,rfl,rfl,zh (.inl ⟨rfl,Yg.out⟩)⟩
 case round =>
  clear Yg;obtain ⟨i,rfl,rfl,HI⟩:=hrel
  rcases HI.out with ⟨rfl,hS⟩|⟨rfl,hS⟩|⟨rfl,hS⟩
  ·clear HI;have hix:∀ W,(Instr.index 32 (.agg #[.int .i64 x,.int .i64 y]) (.int .i64 0)).run Tryz.prog W= .ok (.int .i64 x) W:=fun W=>by kernel_rfl
   obtain ⟨c4,l4⟩:=(zh hS.bb).cl;have Yg:=zh hS;clear hS;go_wp2_with fail
   clear hix c4 l4
   go_loopw [10,33] (fun fv jv wr=>∃ j:Int,fv= .bool true∧jv= .int .i64 j∧Hid ((j=0∧II w (x,y) (z,t) wr 0)∨(j=1∧II w (x,y) (z,t) wr 1)∨(j=2∧II w (x,y) (z,t) wr 2))) (fun _ jv _=>2 - (intOf jv).toNat)
   case atStart=>exact ⟨0,rfl,rfl,zh (.inl ⟨rfl,Yg.out⟩)⟩
   case round =>
    clear Yg;obtain ⟨j,rfl,rfl,HJ⟩:=hrel
    rcases HJ.out with ⟨rfl,hS⟩|⟨rfl,hS⟩|⟨rfl,hS⟩
    ·clear HJ;obtain ⟨⟨l1,l2⟩,el⟩:∃ v,pV (x,y) (z,t) 0=v:=⟨_,rfl⟩;obtain ⟨⟨h1,h2⟩,eh⟩:∃ v,jl (x,y) (z,t) 0=v:=⟨_,rfl⟩;have KF:=zh (HL.out 0);have KH:=zh (HH.out 0);rw [el] at KF;rw [eh] at KH;have EL:=zh (And.intro el eh);have CV:=zh hS;clear el eh hS;have JN:∀ W,(Instr.index 32 (.agg #[.int .i64 z,.int .i64 t]) (.int .i64 0)).run Tryz.prog W= .ok (.int .i64 z) W:=fun W=>by kernel_rfl
     go_wp2_with fail
     refine (KF.out _).mono ?_;rintro e w1 ⟨rfl,hb⟩;have IL:=zh (CV.out.later hb);clear hb JN KF CV;go_wp2_with fail
     refine (KH.out _).mono ?_;rintro e w2 ⟨rfl,hb⟩;have kJ:=zh (IL.out.later hb);clear hb KH IL;cases l2
     ·obtain ⟨rfl,rfl,rfl⟩:s1=0∧s2=0∧s3=6:=by have h:=HS.out;rw [HN.out 0 zo (by rw [EL.out.1];exact .inl rfl)] at h;cases h;exact ⟨rfl,rfl,rfl⟩
      obtain ⟨c6,l6,f6⟩:=(zh kJ.out.br).clf;go_wp2_with fail
      rw [Exit.noGoto_ret];exact bodyPost_ret (v:=.tuple #[.agg #[.int .i64 0,.int .i64 0],.int .i64 6]) (by have h6:=((kJ.out.br.set 0 (.int .i64 0)).set 1 (.int .i64 0)).cell;have Hl:=h6 0;have Hf:=h6 1;simp [results,Tryz.results144,go_sem,Hl,Hf]) rfl ⟨rfl,(kJ.out.bw.setCell (p:=⟨w.heap.size+1+1,0,none⟩) (by simp;omega) _).setCell (p:=⟨w.heap.size+1+1,1,none⟩) (by simp;omega) _⟩
     ·cases h2
      ·obtain ⟨rfl,rfl,rfl⟩:s1=0∧s2=0∧s3=6:=by have h:=HS.out;rw [HN.out 0 zo (by rw [EL.out.2];exact .inr rfl)] at h;cases h;exact ⟨rfl,rfl,rfl⟩
       obtain ⟨c6,l6,f6⟩:=(zh kJ.out.br).clf;go_wp2_with fail
       rw [Exit.noGoto_ret];exact bodyPost_ret (v:=.tuple #[.agg #[.int .i64 0,.int .i64 0],.int .i64 6]) (by have h6:=((kJ.out.br.set 0 (.int .i64 0)).set 1 (.int .i64 0)).cell;have Hl:=h6 0;have Hf:=h6 1;simp [results,Tryz.results144,go_sem,Hl,Hf]) rfl ⟨rfl,(kJ.out.bw.setCell (p:=⟨w.heap.size+1+1,0,none⟩) (by simp;omega) _).setCell (p:=⟨w.heap.size+1+1,1,none⟩) (by simp;omega) _⟩
      ·obtain ⟨c8,l8,f8⟩:=(zh kJ.out.bl).clf;obtain ⟨c9,l9,f9⟩:=(zh kJ.out.bh).clf;unfold wO at c8 c9;have Kz:=zh (kJ.out.step (k:=0) zo (by rw [EL.out.1]) (by rw [EL.out.2]));rw [EL.out.1,EL.out.2] at Kz;clear kJ;go_wp2_with fail
       go_roundw
       case rel=>exact ⟨1,rfl,rfl,zh (.inr<| .inl ⟨rfl,Kz.out⟩)⟩
       case measure=>simp [intOf]
    ·clear HJ;obtain ⟨⟨l1,l2⟩,el⟩:∃ v,pV (x,y) (z,t) 1=v:=⟨_,rfl⟩;obtain ⟨⟨h1,h2⟩,eh⟩:∃ v,jl (x,y) (z,t) 1=v:=⟨_,rfl⟩;have KF:=zh (HL.out 1);have KH:=zh (HH.out 1);rw [el] at KF;rw [eh] at KH;have EL:=zh (And.intro el eh);have CV:=zh hS;clear el eh hS;have JN:∀ W,(Instr.index 32 (.agg #[.int .i64 z,.int .i64 t]) (.int .i64 1)).run Tryz.prog W= .ok (.int .i64 t) W:=fun W=>by kernel_rfl
     go_wp2_with fail
     refine (KF.out _).mono ?_;rintro e w1 ⟨rfl,hb⟩;have IL:=zh (CV.out.later hb);clear hb JN KF CV;go_wp2_with fail
     refine (KH.out _).mono ?_;rintro e w2 ⟨rfl,hb⟩;have kJ:=zh (IL.out.later hb);clear hb KH IL;cases l2
     ·obtain ⟨rfl,rfl,rfl⟩:s1=0∧s2=0∧s3=6:=by have h:=HS.out;rw [HN.out 1 zo (by rw [EL.out.1];exact .inl rfl)] at h;cases h;exact ⟨rfl,rfl,rfl⟩
      obtain ⟨c6,l6,f6⟩:=(zh kJ.out.br).clf;go_wp2_with fail
      rw [Exit.noGoto_ret];exact bodyPost_ret (v:=.tuple #[.agg #[.int .i64 0,.int .i64 0],.int .i64 6]) (by have h6:=((kJ.out.br.set 0 (.int .i64 0)).set 1 (.int .i64 0)).cell;have Hl:=h6 0;have Hf:=h6 1;simp [results,Tryz.results144,go_sem,Hl,Hf]) rfl ⟨rfl,(kJ.out.bw.setCell (p:=⟨w.heap.size+1+1,0,none⟩) (by simp;omega) _).setCell (p:=⟨w.heap.size+1+1,1,none⟩) (by simp;omega) _⟩
     ·cases h2
      ·obtain ⟨rfl,rfl,rfl⟩:s1=0∧s2=0∧s3=6:=by have h:=HS.out;rw [HN.out 1 zo (by rw [EL.out.2];exact .inr rfl)] at h;cases h;exact ⟨rfl,rfl,rfl⟩
       obtain ⟨c6,l6,f6⟩:=(zh kJ.out.br).clf;go_wp2_with fail
       rw [Exit.noGoto_ret];exact bodyPost_ret (v:=.tuple #[.agg #[.int .i64 0,.int .i64 0],.int .i64 6]) (by have h6:=((kJ.out.br.set 0 (.int .i64 0)).set 1 (.int .i64 0)).cell;have Hl:=h6 0;have Hf:=h6 1;simp [results,Tryz.results144,go_sem,Hl,Hf]) rfl ⟨rfl,(kJ.out.bw.setCell (p:=⟨w.heap.size+1+1,0,none⟩) (by simp;omega) _).setCell (p:=⟨w.heap.size+1+1,1,none⟩) (by simp;omega) _⟩
      ·obtain ⟨c8,l8,f8⟩:=(zh kJ.out.bl).clf;obtain ⟨c9,l9,f9⟩:=(zh kJ.out.bh).clf;unfold wO at c8 c9;have Kz:=zh (kJ.out.step (k:=1) zo (by rw [EL.out.1]) (by rw [EL.out.2]));rw [EL.out.1,EL.out.2] at Kz;clear kJ;go_wp2_with fail
       go_roundw
       case rel=>exact ⟨2,rfl,rfl,zh (.inr<| .inr ⟨rfl,Kz.out⟩)⟩
       case measure=>simp [intOf]
    ·have Kz:=zh hS;clear hS HJ;go_wp2_with fail
     go_roundw
     case rel=>exact ⟨1,rfl,rfl,zh (.inr<| .inl ⟨rfl,Kz.out⟩)⟩
     case measure=>simp [intOf]
  ·clear HI;have hix:∀ W,(Instr.index 32 (.agg #[.int .i64 x,.int .i64 y]) (.int .i64 1)).run Tryz.prog W= .ok (.int .i64 y) W:=fun W=>by kernel_rfl
   obtain ⟨c4,l4⟩:=(zh hS.bb).cl;have Yg:=zh hS;clear hS;go_wp2_with fail
   clear hix c4 l4
   go_loopw [10,33] (fun fv jv wr=>∃ j:Int,fv= .bool true∧jv= .int .i64 j∧Hid ((j=0∧II w (x,y) (z,t) wr 2)∨(j=1∧II w (x,y) (z,t) wr 3)∨(j=2∧II w (x,y) (z,t) wr 4))) (fun _ jv _=>2 - (intOf jv).toNat)
   case atStart=>exact ⟨0,rfl,rfl,zh (.inl ⟨rfl,Yg.out⟩)⟩
   case round =>
    clear Yg;obtain ⟨j,rfl,rfl,HJ⟩:=hrel
    rcases HJ.out with ⟨rfl,hS⟩|⟨rfl,hS⟩|⟨rfl,hS⟩
    ·clear HJ;obtain ⟨⟨l1,l2⟩,el⟩:∃ v,pV (x,y) (z,t) 2=v:=⟨_,rfl⟩;obtain ⟨⟨h1,h2⟩,eh⟩:∃ v,jl (x,y) (z,t) 2=v:=⟨_,rfl⟩;have KF:=zh (HL.out 2);have KH:=zh (HH.out 2);rw [el] at KF;rw [eh] at KH;have EL:=zh (And.intro el eh);have CV:=zh hS;clear el eh hS;have JN:∀ W,(Instr.index 32 (.agg #[.int .i64 z,.int .i64 t]) (.int .i64 0)).run Tryz.prog W= .ok (.int .i64 z) W:=fun W=>by kernel_rfl
     go_wp2_with fail
     refine (KF.out _).mono ?_;rintro e w1 ⟨rfl,hb⟩;have IL:=zh (CV.out.later hb);clear hb JN KF CV;go_wp2_with fail
     refine (KH.out _).mono ?_;rintro e w2 ⟨rfl,hb⟩;have kJ:=zh (IL.out.later hb);clear hb KH IL;cases l2
     ·obtain ⟨rfl,rfl,rfl⟩:s1=0∧s2=0∧s3=6:=by have h:=HS.out;rw [HN.out 2 zo (by rw [EL.out.1];exact .inl rfl)] at h;cases h;exact ⟨rfl,rfl,rfl⟩
      obtain ⟨c6,l6,f6⟩:=(zh kJ.out.br).clf;go_wp2_with fail
      rw [Exit.noGoto_ret];exact bodyPost_ret (v:=.tuple #[.agg #[.int .i64 0,.int .i64 0],.int .i64 6]) (by have h6:=((kJ.out.br.set 0 (.int .i64 0)).set 1 (.int .i64 0)).cell;have Hl:=h6 0;have Hf:=h6 1;simp [results,Tryz.results144,go_sem,Hl,Hf]) rfl ⟨rfl,(kJ.out.bw.setCell (p:=⟨w.heap.size+1+1,0,none⟩) (by simp;omega) _).setCell (p:=⟨w.heap.size+1+1,1,none⟩) (by simp;omega) _⟩
     ·cases h2
      ·obtain ⟨rfl,rfl,rfl⟩:s1=0∧s2=0∧s3=6:=by have h:=HS.out;rw [HN.out 2 zo (by rw [EL.out.2];exact .inr rfl)] at h;cases h;exact ⟨rfl,rfl,rfl⟩
       obtain ⟨c6,l6,f6⟩:=(zh kJ.out.br).clf;go_wp2_with fail
       rw [Exit.noGoto_ret];exact bodyPost_ret (v:=.tuple #[.agg #[.int .i64 0,.int .i64 0],.int .i64 6]) (by have h6:=((kJ.out.br.set 0 (.int .i64 0)).set 1 (.int .i64 0)).cell;have Hl:=h6 0;have Hf:=h6 1;simp [results,Tryz.results144,go_sem,Hl,Hf]) rfl ⟨rfl,(kJ.out.bw.setCell (p:=⟨w.heap.size+1+1,0,none⟩) (by simp;omega) _).setCell (p:=⟨w.heap.size+1+1,1,none⟩) (by simp;omega) _⟩
      ·obtain ⟨c8,l8,f8⟩:=(zh kJ.out.bl).clf;obtain ⟨c9,l9,f9⟩:=(zh kJ.out.bh).clf;unfold wO at c8 c9;have Kz:=zh (kJ.out.step (k:=2) zo (by rw [EL.out.1]) (by rw [EL.out.2]));rw [EL.out.1,EL.out.2] at Kz;clear kJ;go_wp2_with fail
       go_roundw
       case rel=>exact ⟨1,rfl,rfl,zh (.inr<| .inl ⟨rfl,Kz.out⟩)⟩
       case measure=>simp [intOf]
    ·clear HJ;obtain ⟨⟨l1,l2⟩,el⟩:∃ v,pV (x,y) (z,t) 3=v:=⟨_,rfl⟩;obtain ⟨⟨h1,h2⟩,eh⟩:∃ v,jl (x,y) (z,t) 3=v:=⟨_,rfl⟩;have KF:=zh (HL.out 3);have KH:=zh (HH.out 3);rw [el] at KF;rw [eh] at KH;have EL:=zh (And.intro el eh);have CV:=zh hS;clear el eh hS;have JN:∀ W,(Instr.index 32 (.agg #[.int .i64 z,.int .i64 t]) (.int .i64 1)).run Tryz.prog W= .ok (.int .i64 t) W:=fun W=>by kernel_rfl
     go_wp2_with fail
     refine (KF.out _).mono ?_;rintro e w1 ⟨rfl,hb⟩;have IL:=zh (CV.out.later hb);clear hb JN KF CV;go_wp2_with fail
     refine (KH.out _).mono ?_;rintro e w2 ⟨rfl,hb⟩;have kJ:=zh (IL.out.later hb);clear hb KH IL;cases l2
     ·obtain ⟨rfl,rfl,rfl⟩:s1=0∧s2=0∧s3=6:=by have h:=HS.out;rw [HN.out 3 zo (by rw [EL.out.1];exact .inl rfl)] at h;cases h;exact ⟨rfl,rfl,rfl⟩
      obtain ⟨c6,l6,f6⟩:=(zh kJ.out.br).clf;go_wp2_with fail
      rw [Exit.noGoto_ret];exact bodyPost_ret (v:=.tuple #[.agg #[.int .i64 0,.int .i64 0],.int .i64 6]) (by have h6:=((kJ.out.br.set 0 (.int .i64 0)).set 1 (.int .i64 0)).cell;have Hl:=h6 0;have Hf:=h6 1;simp [results,Tryz.results144,go_sem,Hl,Hf]) rfl ⟨rfl,(kJ.out.bw.setCell (p:=⟨w.heap.size+1+1,0,none⟩) (by simp;omega) _).setCell (p:=⟨w.heap.size+1+1,1,none⟩) (by simp;omega) _⟩
     ·cases h2
      ·obtain ⟨rfl,rfl,rfl⟩:s1=0∧s2=0∧s3=6:=by have h:=HS.out;rw [HN.out 3 zo (by rw [EL.out.2];exact .inr rfl)] at h;cases h;exact ⟨rfl,rfl,rfl⟩
       obtain ⟨c6,l6,f6⟩:=(zh kJ.out.br).clf;go_wp2_with fail
       rw [Exit.noGoto_ret];exact bodyPost_ret (v:=.tuple #[.agg #[.int .i64 0,.int .i64 0],.int .i64 6]) (by have h6:=((kJ.out.br.set 0 (.int .i64 0)).set 1 (.int .i64 0)).cell;have Hl:=h6 0;have Hf:=h6 1;simp [results,Tryz.results144,go_sem,Hl,Hf]) rfl ⟨rfl,(kJ.out.bw.setCell (p:=⟨w.heap.size+1+1,0,none⟩) (by simp;omega) _).setCell (p:=⟨w.heap.size+1+1,1,none⟩) (by simp;omega) _⟩
      ·obtain ⟨c8,l8,f8⟩:=(zh kJ.out.bl).clf;obtain ⟨c9,l9,f9⟩:=(zh kJ.out.bh).clf;unfold wO at c8 c9;have Kz:=zh (kJ.out.step (k:=3) zo (by rw [EL.out.1]) (by rw [EL.out.2]));rw [EL.out.1,EL.out.2] at Kz;clear kJ;go_wp2_with fail
       go_roundw
       case rel=>exact ⟨2,rfl,rfl,zh (.inr<| .inr ⟨rfl,Kz.out⟩)⟩
       case measure=>simp [intOf]
    ·have Kz:=zh hS;clear hS HJ;go_wp2_with fail
     go_roundw
     case rel=>exact ⟨2,rfl,rfl,zh (.inr<| .inr ⟨rfl,Kz.out⟩)⟩
     case measure=>simp [intOf]
  ·clear HI;have HP:=zh hS;clear hS;have HMn:=zh (fun W h=>Rm (w.heap.size+1+1+1) 4 [(pV (x,y) (z,t) 0).1,(pV (x,y) (z,t) 1).1,(pV (x,y) (z,t) 2).1,(pV (x,y) (z,t) 3).1] _ rfl (wO (pV (x,y) (z,t)) 4) 261 W h (LV _) zi);have HMx:=zh (fun W h=>Hw (w.heap.size+1+1+1+1) 4 [(jl (x,y) (z,t) 0).1,(jl (x,y) (z,t) 1).1,(jl (x,y) (z,t) 2).1,(jl (x,y) (z,t) 3).1] _ rfl (wO (jl (x,y) (z,t)) 4) 261 W h (LV _) zi);have HMd:=zh (fun lo hi W=>kr lo hi W);obtain ⟨mn,emn⟩:∃ v,[(pV (x,y) (z,t) 0).1,(pV (x,y) (z,t) 1).1,(pV (x,y) (z,t) 2).1,(pV (x,y) (z,t) 3).1].foldl min (pV (x,y) (z,t) 0).1=v:=⟨_,rfl⟩;obtain ⟨mx,emx⟩:∃ v,[(jl (x,y) (z,t) 0).1,(jl (x,y) (z,t) 1).1,(jl (x,y) (z,t) 2).1,(jl (x,y) (z,t) 3).1].foldl max (jl (x,y) (z,t) 0).1=v:=⟨_,rfl⟩
   have hsp:gF mn mx=((s1,s2),s3):=by
    rw [← HS.out,← emn,← emx];unfold uq;rw [if_pos];unfold Sk;rw [List.all_eq_true];intro q hq;have hq4:q<4:=by simpa using hq
    have:=HP.out.ok q hq4;simp [this.1,this.2]
   rw [emn] at HMn;rw [emx] at HMx;replace HMd:=zh (fun W=>HMd.out mn mx W);rw [hsp] at HMd;unfold dV at HMd;clear emn emx hsp HL HH HN HS;go_wp2_with fail
   refine aD [(.pure,0),(.pure,2),(.ext,1),(.ext,3),(.ext,4),(.pure,5),(.pure,6),(.fin,7),(.fin,8)] zk zk zR zP ?_;refine Wk.out ?_
   (iterate 2 refine zU ?_)
   refine bW rfl rfl (fun wa hba J hJ=>?_);go_simp;have za:Below wr.heap.size wr wa:=ah;refine (HMn.out _ (HP.out.bl.later za)).mono ?_;rintro e wb ⟨rfl,hb⟩;have zb:=Bt za hb;refine hJ _ _ hb ?_;clear hJ J hb hba za HMn;refine bW rfl rfl (fun wc hbc J hJ=>?_);go_simp;have zc:=Bt zb hbc;refine (HMx.out _ (HP.out.bh.later zc)).mono ?_;rintro e wd ⟨rfl,hb⟩;have zd:=Bt zc hb;refine hJ _ _ hb ?_;clear hJ J hb hbc zb zc HMx;refine bW rfl rfl (fun we hbe J hJ=>?_);go_simp;have ze:=Bt zd hbe;refine (HMd.out _).mono ?_;rintro e wf ⟨rfl,hb⟩;have zf:=Bt ze hb;refine hJ _ _ hb ?_;clear hJ J hb hbe zd ze HMd
   (iterate 2 refine zU ?_)
   refine mJ [_,_] rfl (fun wg hbg=>?_);have kJ:=zh (HP.out.later (Bt zf hbg));clear zf hbg HP;obtain ⟨c6,l6,f6⟩:=(zh kJ.out.br).clf;go_wp2_with fail
   rw [Exit.noGoto_ret];exact bodyPost_ret (v:=.tuple #[.agg #[.int .i64 s1,.int .i64 s2],.int .i64 s3]) (by have h6:=((kJ.out.br.set 0 (.int .i64 s1)).set 1 (.int .i64 s2)).cell;have Hl:=h6 0;have Hf:=h6 1;simp [results,Tryz.results144,go_sem,Hl,Hf]) rfl ⟨rfl,(kJ.out.bw.setCell (p:=⟨w.heap.size+1+1,0,none⟩) (by simp;omega) _).setCell (p:=⟨w.heap.size+1+1,1,none⟩) (by simp;omega) _⟩
theorem WQ (x y z t:Int) (h0:okB [(x,y),(z,t)]=true) (b c:Nat) (w:World) (h:au w b #[.int .i64 x,.int .i64 y] 69) (k:au w c #[.int .i64 z,.int .i64 t] 69) :
  Calls Tryz.prog 143 #[.pointer (some ⟨b,0,none⟩),.pointer (some ⟨c,0,none⟩)] w (fun e w'=>e= .returned (dV (uq (x,y) (z,t)))∧Below w.heap.size w w'):=by
 have h0':gV x y=true∧gV z t=true:=by simpa [okB] using h0
 obtain ⟨hk1,hk2,hk3⟩: -1000000000000000000≤x∧x≤y∧y≤1000000000000000000:=by simpa [gV] using h0'.1
 obtain ⟨hk4,hk5,hk6⟩: -1000000000000000000≤z∧z≤t∧t≤1000000000000000000:=by simpa [gV] using h0'.2
 have H:=zh (fun W=>Ng x y z t zo zo zo zo W);generalize uq (x,y) (z,t)=m at *;obtain ⟨⟨m1,m2⟩,m3⟩:=m;unfold dV at *;simp only at *;have cb:=h.cell;have lb:=h.lt;have cc:=k.cell;have lc:=k.lt;clear h k h0 h0' hk1 hk2 hk3 hk4 hk5 hk6;go_enter Tryz.func143,Tryz.ntmps143
 go_wp2_with fail
 refine (H.out _).mono ?_;rintro e w1 ⟨rfl,hb1⟩;have hx:=au.later (au.new w #[.int .i64 0,.int .i64 0] 69) hb1;have cx:=hx.cell;have fx:=hx.free;have lx:=hx.lt;have hw:=Bt (show Below w.heap.size w (w.alloc (.cells #[.int .i64 0,.int .i64 0] 69)) from ah) hb1;go_wp2_with fail
 refine aP rfl rfl aT Tryz.underlying69 rfl zk ?_;exact ⟨rfl,ah⟩
theorem Kr (x y z t:Int) (w:World):Calls Tryz.prog 87 #[.agg #[.int .i64 x,.int .i64 y],.agg #[.int .i64 z,.int .i64 t]] w (fun e w'=>e= .returned (dV (qH (x,y) (z,t)))∧Below w.heap.size w w'):=by
 have H:Hid (∀ W b c d,au W b #[.int .i64 x,.int .i64 y] 69→au W c #[.int .i64 z,.int .i64 t] 69→au W d #[.int .i64 x,.int .i64 y,.int .i64 z,.int .i64 t] 69→Calls Tryz.prog 142 #[.func (.func 143) #[] #[.pointer (some ⟨b,0,none⟩),.pointer (some ⟨c,0,none⟩)],.slice (some ⟨d,0,none⟩) 2 2] W (fun e w'=>e= .returned (dV (qH (x,y) (z,t)))∧Below W.heap.size W w')):=zh fun W b c d h1 h2 h3 =>
  AB 143 #[.pointer (some ⟨b,0,none⟩),.pointer (some ⟨c,0,none⟩)] _ _ _ _ W (jZ.two h3) (fun h W' hW'=>WQ x y z t h b c W' (h1.later hW') (h2.later hW')) (fun args W=>by rfl)
 generalize qH (x,y) (z,t)=m at *;obtain ⟨⟨m1,m2⟩,m3⟩:=m;unfold dV at *;simp only at *;go_enter Tryz.func87,Tryz.ntmps87
 go_wp2_with fail
 obtain ⟨wx,EW,hz,X,Y,R,Z⟩:=al4 w #[.int .i64 x,.int .i64 y] 69 #[.int .i64 z,.int .i64 t] 69 #[.int .i64 0,.int .i64 0] 69 #[.int .i64 x,.int .i64 y,.int .i64 z,.int .i64 t] 69;rw [EW];clear EW;have HB:=zh hz;clear hz;refine (H.out _ _ _ _ X.out Y.out Z.out).mono ?_;rintro e w1 ⟨rfl,hb1⟩;replace R:=R.bl hb1;replace HB:=zh (Bt HB.out hb1);clear hb1 H;have hx:=R.out;have cx:=hx.cell;have fx:=hx.free;have lx:=hx.lt;have hw:=HB.out;go_wp2_with fail
 refine aP rfl rfl aT Tryz.underlying69 rfl zk ?_;exact ⟨rfl,ah⟩
end Go.Proofs.dJ
namespace Go.cK
open Go Go.Num
def Sh (rs:IM) (a b c:Nat→Int):Prop:=rs.length=3∧(∀ i,i<3→(rs.getD i []).length=6)∧∀ j,j<6→rs.at 0 j=a j∧rs.at 1 j=b j∧rs.at 2 j=c j
theorem Sh.congr {rs:IM} {a b c a' b' c':Nat→Int} (h:Sh rs a b c) (k:∀ j,j<6→a j=a' j∧b j=b' j∧c j=c' j):Sh rs a' b' c' :=
 ⟨h.1,h.2.1,fun j hj=>by obtain ⟨x,y,z⟩:=h.2.2 j hj;obtain ⟨x',y',z'⟩:=k j hj;exact ⟨x.trans x',y.trans y',z.trans z'⟩⟩
theorem Sh.swap {rs:IM} {a b c:Nat→Int} (h:Sh rs a b c) {i k:Nat} (hi:i<3) (hk:k<3) (j:Nat) (hj:j<3):(mO rs i k).getD j []=rs.getD (if j=k then i else if j=i then k else j) []:=oU h.1 hi hk hj
def ShN (N:Nat) (rs:IM) (n:Nat) (F:Nat→Nat→Int):Prop:=rs.length=n∧(∀ i,i<n→(rs.getD i []).length=N)∧∀ i,i<n→∀ j,j<N→rs.at i j=F i j
def MZ (a b i:Nat):Nat:=if i=b then a else if i=a then b else i
def clr (F:Nat→Nat→Int) (k:Nat) (p:Int) (i j:Nat):Int:=if i=k then F k j else quo (F k k*F i j+ -(F i k*F k j)) p
theorem ShN.congr {N n:Nat} {rs:IM} {F G:Nat→Nat→Int} (h:ShN N rs n F) (k:∀ i,i<n→∀ j,j<N→F i j=G i j):ShN N rs n G :=
 ⟨h.1,h.2.1,fun i hi j hj=>(h.2.2 i hi j hj).trans (k i hi j hj)⟩
theorem ShN.clear {N n:Nat} {rs:IM} {F:Nat→Nat→Int} (h:ShN N rs n F) {k:Nat} (hk:k<n) (hkN:k<N) (p:Int):ShN N (iO rs k p) n (clr F k p):=by
 obtain ⟨h1,h2,h3⟩:=h;refine ⟨by rw [kR,h1],fun i hi=>?_,fun i hi j hj=>?_⟩
 ·rw [jw zo];unfold gY;split
  ·exact h2 i hi
  ·rw [qR];exact h2 i hi
 ·unfold IM.at;rw [jw zo];unfold gY clr
  by_cases e:i=k
  ·subst e;rw [if_pos rfl,if_pos rfl];exact h3 i hi j hj
  ·rw [if_neg e,if_neg e,Cy (by rw [h2 i hi];exact hj)];unfold Cz;have a:=h3 i hi j hj;have b:=h3 i hi k hkN;have c:=h3 k hk k hkN;have d:=h3 k hk j hj;unfold IM.at at a b c d;rw [a,b,c,d]
theorem ShN.swap {N n:Nat} {rs:IM} {F:Nat→Nat→Int} (h:ShN N rs n F) {i k:Nat} (hi:i<n) (hk:k<n):ShN N (mO rs i k) n (fun r j=>F (MZ i k r) j):=by
 obtain ⟨h1,h2,h3⟩:=h;have key:=fun j hj=>oU (j:=j) h1 hi hk hj;have ht:∀ r,r<n→MZ i k r<n:=fun r hr=>by unfold MZ;split<;>(try split)<;>omega
 refine ⟨by simp [mO,h1],fun j hj=>?_,fun r hr j hj=>?_⟩
 ·rw [key j hj];exact h2 _ (ht j hj)
 ·unfold IM.at;rw [key r hr];exact h3 _ (ht r hr) j hj
def D2 (U:Nat→Nat→Int) (r s a b:Nat):Int:=U r a*U s b - U s a*U r b
def D3 (U:Nat→Nat→Int) (r s q a b c:Nat):Int:=U r a*(U s b*U q c - U q b*U s c) - U r b*(U s a*U q c - U q a*U s c)+U r c*(U s a*U q b - U q a*U s b)
def D4 (U:Nat→Nat→Int) (a b c d:Nat):Int:=U 0 a*D3 U 1 2 3 b c d - U 0 b*D3 U 1 2 3 a c d+U 0 c*D3 U 1 2 3 a b d - U 0 d*D3 U 1 2 3 a b c
def dtn (n:Nat) (U:Nat→Nat→Int):Int:=if n=1 then U 0 0 else if n=2 then D2 U 0 1 0 1 else if n=3 then D3 U 0 1 2 0 1 2 else D4 U 0 1 2 3
def sm4 (n:Nat) (f:Nat→Int):Int:=if n=1 then f 0 else if n=2 then f 0+f 1 else if n=3 then f 0+f 1+f 2 else f 0+f 1+f 2+f 3
def ac5 (N n:Nat) (U:Nat→Nat→Int) (t:Bool) (R:Int × Bool × IM):Prop :=
 (if R.2.1=t then R.1 else -R.1)=dtn n U∧(R.1≠0→∀ i,i<n→∀ j,j<N→sm4 n (fun k=>U i k*R.2.2.at k j)=R.1*U i j)
theorem V8 {n:Nat} (hn:1≤n∧n≤4) {a b:Nat} (hab:b<a) (ha:a<n) (U:Nat→Nat→Int):dtn n (fun r j=>U (MZ a b r) j)= -dtn n U:=by
 have hc:(n=2∧a=1∧b=0)∨(n=3∧((a=1∧b=0)∨(a=2∧b=0)∨(a=2∧b=1)))∨(n=4∧((a=1∧b=0)∨(a=2∧b=0)∨(a=2∧b=1)∨(a=3∧b=0)∨(a=3∧b=1)∨(a=3∧b=2))):=by omega
 rcases hc with ⟨rfl,rfl,rfl⟩|⟨rfl,⟨rfl,rfl⟩|⟨rfl,rfl⟩|⟨rfl,rfl⟩⟩|⟨rfl,⟨rfl,rfl⟩|⟨rfl,rfl⟩|⟨rfl,rfl⟩|⟨rfl,rfl⟩|⟨rfl,rfl⟩|⟨rfl,rfl⟩⟩ <;>
  (simp [dtn,D2,D3,D4,MZ];try grind)
theorem ac5.swap {N n:Nat} (hn:1≤n∧n≤4) {U:Nat→Nat→Int} {t:Bool} {R:Int × Bool × IM} {a b:Nat} (hab:b≤a) (ha:a<n) (h:ac5 N n (fun r j=>U (MZ a b r) j) (if a=b then t else !t) R):ac5 N n U t R:=by
 by_cases e:a=b
 ·subst e;rw [if_pos rfl] at h
  have:(fun r j=>U (MZ a a r) j)=U:=by
   funext r j
   unfold MZ;split<;>(try split)<;>simp_all
  rw [this] at h;exact h
 ·rw [if_neg e] at h;obtain ⟨h1,h2⟩:=h;rw [V8 hn zo ha] at h1;refine ⟨?_,fun h0 i hi j hj=>?_⟩
  ·cases hr:R.2.1<;>cases t<;>simp [hr] at h1 ⊢<;>omega
  ·have ht:MZ a b (MZ a b i)=i:=by unfold MZ;split<;>(try split)<;>(try split)<;>omega
   have:=h2 h0 (MZ a b i) (by unfold MZ;split<;>(try split)<;>omega) j hj;simp only [ht] at this;exact this
def R2 (U:Nat→Nat→Rat) (r s a b:Nat):Rat:=U r a*U s b - U s a*U r b
end Go.cK
namespace Go.SW
open Go Go.RowKit
variable {P:Program} {ops:Array Oper} {Q:Exit→Act→World→Prop}
theorem CP {x y i:Nat} {o:Oper} (h:ops[i]? =some o):∃ o',(iC x y ops)[i]? =some o'∧o'.dst=o.dst∧o'.op=o.op∧o'.guard=o.guard∧(∀ (a:Act) (w:World) K R,o.wp P a w K R→o'.wp P a w K R)∧(∀ f,Region.wanted o' f=Region.wanted o f)∧(∀ ρ,execOp ρ o'=execOp ρ o)∧∀ (a:Act) (w:World),Oper.asks P o a w→Oper.asks P o' a w:=by
 refine ⟨_,by rw [oL,h];rfl,?_,?_,?_,?_,?_,?_,?_⟩
 all_goals split<;>first|rfl|exact fun _ _ _ _ h=>h|exact fun _=>rfl|exact fun _ _ h=>h
theorem xI (x y:Nat):∀ (l:List Nat) (a:Act) (w:World),wpOps P ops Q l a w→wpOps P (iC x y ops) Q l a w
 | [],_,_,h=>h
 | i::l,a,w,h=>by
  have ih:=xI x y l;unfold wpOps at h ⊢;have hy:yielded (iC x y ops) a.tmps=yielded ops a.tmps:=funext fun g=>pK x y _ g;rw [hy];cases ho:ops[i]? with
  | none =>
   rw [oL,ho,Option.map_none];simp only [ho] at h ⊢;exact ih _ _ h
  | some o =>
   obtain ⟨o',h1,h2,h3,h4,h5,h6,h7,h8⟩:=CP (P:=P) (x:=x) (y:=y) ho;rw [h1];simp only [ho,h6,h2] at h ⊢;split at h
   ·rename_i hw;rw [if_pos hw]
    rcases h with h|h
    ·exact .inl (h5 _ _ _ _ (Oper.wp_mono ih h))
    ·exact .inr ⟨h8 _ _ h.1,h.2⟩
   ·rename_i hw;rw [if_neg hw];exact ih _ _ h
theorem oD (x y N:Nat):∀ (is:List (K × Nat)) (A:List Nat) (a:Act) (w:World),walk P ops Q N is A a w→walk P (iC x y ops) Q N is A a w
 | [],_,_,_,h=>h
 | (k,i)::is,A,a,w,h=>by
  have ih:=oD x y N is;unfold walk at h ⊢;have hy:yielded (iC x y ops) a.tmps=yielded ops a.tmps:=funext fun g=>pK x y _ g;rw [hy];cases ho:ops[i]? with
  | none=>rw [ho] at h;exact h.elim
  | some o =>
   obtain ⟨o',h1,h2,h3,h4,h5,h6,h7,h8⟩:=CP (P:=P) (x:=x) (y:=y) ho;rw [ho] at h;rw [h1];cases k with
   | pure =>
    simp only [h6,h7,h2] at h ⊢;split at h
    ·rename_i hw;rw [if_pos hw];obtain ⟨v,k1,k2⟩:=h;exact ⟨v,k1,ih _ _ _ k2⟩
    ·rename_i hw;rw [if_neg hw];exact ih _ _ _ h
   | read =>
    simp only [h6,h7,h2] at h ⊢;split at h
    ·rename_i hw;rw [if_pos hw];obtain ⟨v,k1,k2⟩:=h;exact ⟨v,k1,ih _ _ _ k2⟩
    ·rename_i hw;rw [if_neg hw];exact ih _ _ _ h
   | alloc cs T =>
    simp only [h2] at h ⊢;exact fun b w' k1 k2 k3 k4 k5=>ih _ _ _ (h b w' k1 k2 k3 k4 k5)
   | ext =>
    simp only [h6,h2] at h ⊢;split at h
    ·rename_i hw;rw [if_pos hw];exact fun w' k1=>h5 _ _ _ _ (Oper.wp_mono (fun a' w'' k=>⟨k.1,ih _ _ _ k.2⟩) (h w' k1))
    ·rename_i hw;rw [if_neg hw];exact ih _ _ _ h
   | fin =>
    exact fun w' k1=>xI x y _ _ _ (h w' k1)
inductive St|one (k:K) (i:Nat)|two (i j:Nat)
variable {o:Oper} {i:Nat} {is:List St} {a:Act} {w:World} {N:Nat} {A:List Nat}
end Go.SW
namespace Go.Proofs.verdigrislaw05
open Go Go.RowKit Go.SW Go.Num Go.Mem Go.Proofs Go.Proofs.dJ
theorem wT {z:Int} {m:Nat} (hm:0<m): -(m:Int)<Int.tmod z m∧Int.tmod z m<m:=by
 have h1:=Int.natAbs_tmod z m;have h2:=Nat.mod_lt z.natAbs hm;simp only [Int.natAbs_natCast] at h1;omega
theorem vF (at' wide:Int) (w0:0≤wide) (w1:wide≤4294967295) (w:World) :
  Calls Tryz.prog 40 #[.agg #[.int .i64 at',.int .u32 wide]] w (fun e w'=>(∃ lo hi:Int,e= .returned (.agg #[.int .i64 lo,.int .i64 hi])∧ -19000000000000<lo∧lo≤hi∧hi≤19000001000000)∧Below w.heap.size w w'):=by
 obtain ⟨b1,b2⟩:=wT (z:=at') (m:=19000000000000) zo;generalize hm:Int.tmod at' 19000000000000=m at *;go_enter Tryz.func40,Tryz.ntmps40
 go_wp2_with fail
 all_goals
  refine dG rfl rfl aT Tryz.underlying69 rfl zk ?_;exact ⟨⟨_,_,rfl,by omega,by omega,by omega⟩,ah⟩
theorem Xn (at' wide:Int) (w0:0≤wide) (w1:wide≤4294967295) (w:World) :
  Calls Tryz.prog 39 #[.agg #[.int .i64 at',.int .u32 wide]] w (fun e w'=>(∃ lo hi:Int,e= .returned (.agg #[.int .i64 lo,.int .i64 hi])∧ -1000000000000000000≤lo∧lo≤hi∧hi≤1000000000000000000)∧Below w.heap.size w w'):=by
 obtain ⟨b1,b2⟩:=wT (z:=at') (m:=1000000000000000001) zo;generalize hm:Int.tmod at' 1000000000000000001=m at *;go_enter Tryz.func39,Tryz.ntmps39
 go_wp2_with fail
 all_goals
  refine dG rfl rfl aT Tryz.underlying69 rfl zk ?_;exact ⟨⟨_,_,rfl,by omega,by omega,by omega⟩,ah⟩
end Go.Proofs.verdigrislaw05
