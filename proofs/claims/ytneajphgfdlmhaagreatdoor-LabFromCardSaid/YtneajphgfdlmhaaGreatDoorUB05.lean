/- Lemmas for the proof. No condition. -/
import Derived.Test.YtneajphgfdlmhaaGreatDoorUB04
import Derived.Shelf.Small.Bits
import Derived.Shelf.Strconv.Itoa0
import Derived.Shelf.Strconv.ParseUint10
import Derived.Shelf.Strconv.ParseUint10Any
import Derived.Shelf.Strconv.ParseInt10
import Derived.Shelf.Strconv.ParseUint10b64
import Derived.Shelf.Strconv.ParseUint10At
import Derived.Shelf.Strconv.ParseInt10At64
import Derived.Shelf.Strconv.ParseInt10All
import Derived.Shelf.Strconv.ParseIntPublic10
import Derived.KernelRfl
set_option linter.unusedVariables false
set_option linter.unusedSimpArgs false
set_option maxRecDepth 100000
set_option maxHeartbeats 16000000
open Array renaming getD_eq_getD_getElem? → jf
open Go.Ending renaming returned → ah
open Go.IntKind renaming i64 → I
open Go.Value renaming agg → au, bool → ak, int → Z, pointer → aA, string → O, tuple → aD
open Nat renaming le_refl → aC
namespace Go.gB
open Go Go.Num Go.Dec Lib
abbrev FrI:=Fr × Int
def A8 (a:Fr):Int:=if (rd a).isSome then 0 else 20
def iK (a:Fr):Int × Int:=match rd a with
 | some q=>(qL q 0,0)
 | none=>(0,20)
def rE (a b:Fr):Int × Int:=match rd a,rd b with
 | some p,some q=>(qL p q,0)
 | _,_=>(0,20)
def bin (f:Rat→Rat→Fr × Int) (a b:Fr):Fr × Int:=match rd a,rd b with
 | some p,some q=>f p q
 | _,_=>(Fr.no,20)
def tY (a b:Fr):Fr × Int:=bin (fun p q=>wr (p+q)) a b
def rT (a b:Fr):Fr × Int:=bin (fun p q=>wr (p - q)) a b
def kM (a b:Fr):Fr × Int:=bin (fun p q=>wr (p*q)) a b
def oN (a b:Fr):Fr × Int:=bin (fun p q=>if q=0 then (Fr.no,7) else wr (p / q)) a b
def nk (n d:Int):Fr × Int:=if d=0 then (Fr.no,7) else wr (n / d)
theorem lM {f:Rat→Rat→Fr × Int} {a b:Fr} {p q:Rat} (h:rd a=some p) (k:rd b=some q):bin f a b=f p q:=by unfold bin;rw [h,k]
theorem pY {f:Rat→Rat→Fr × Int} {a b:Fr} (h:rd a=none):bin f a b=(Fr.no,20):=by unfold bin;rw [h]
theorem qW {f:Rat→Rat→Fr × Int} {a b:Fr} (k:rd b=none):bin f a b=(Fr.no,20):=by
 unfold bin;cases rd a with
 | none=>rfl
 | some p=>simp [k]
theorem YW (n d:Int) (h:d≠0):mkRat (Mem.jh n.natAbs (!(decide (n<0) == decide (d<0)))) d.natAbs=(n:Rat) / (d:Rat):=by
 rw [← Rat.divInt_eq_div]
 rcases Int.lt_trichotomy d 0 with hd|hd|hd
 ·rw [← Rat.neg_divInt_neg];obtain ⟨k,rfl⟩:∃ k:Nat,d= -(k:Int):=⟨d.natAbs,by omega⟩;rw [Int.neg_neg,Rat.divInt_ofNat,Int.natAbs_neg,Int.natAbs_natCast]
  congr 1
  unfold Mem.jh
  by_cases hn:n<0
  ·simp [hn,hd];omega
  ·simp [hn,hd];omega
 ·exact absurd hd h
 ·obtain ⟨k,rfl⟩:∃ k:Nat,d=(k:Int):=⟨d.natAbs,by omega⟩;rw [Rat.divInt_ofNat,Int.natAbs_natCast]
  congr 1
  have hd2:¬ (k:Int)<0:=by omega
  unfold Mem.jh
  by_cases hn:n<0
  ·simp [hn,hd2];omega
  ·simp [hn,hd2];omega
theorem q8 (s t:ByteArray) (e:Int):Fr.res (⟨s,t⟩,e)= aD #[au #[O s,O t],Z I e]:=rfl
end Go.gB
namespace Go.Proofs
open Go.Shelf
def Tryz.lays134_ren:Go.Shelf.Ren:=⟨fun|134=>242|129=>282|n=>n,fun|53=>193|3=>3|4=>4|46=>240|5=>5|9=>9|n=>n,fun|n=>n⟩
theorem Tryz.lays134:Go.Proofs.Lays.n134 Tryz.prog Tryz.lays134_ren:={
 mixed:=by kernel_rfl
 f129:=Tryz.func282.trans (congrArg some zk)
 f134:=Tryz.func242.trans (congrArg some zk)
 t3:=Tryz.underlying3
 a3:=Tryz.isAgg3
 z3:=Tryz.sizeOf3
 v3:=Tryz.zeroValue3
 t4:=Tryz.underlying4
 a4:=Tryz.isAgg4
 z4:=Tryz.sizeOf4
 v4:=Tryz.zeroValue4
 t5:=Tryz.underlying5
 a5:=Tryz.isAgg5
 z5:=Tryz.sizeOf5
 v5:=Tryz.zeroValue5
 t9:=Tryz.underlying9
 a9:=Tryz.isAgg9
 z9:=Tryz.sizeOf9
 v9:=Tryz.zeroValue9
 t46:=Tryz.underlying240
 a46:=Tryz.isAgg240
 z46:=Tryz.sizeOf240
 v46:=Tryz.zeroValue240
 t53:=Tryz.underlying193
 a53:=Tryz.isAgg193
 z53:=Tryz.sizeOf193
 v53:=Tryz.zeroValue193 }
theorem Tryz.bits_LeadingZeros64 (x:Int) (w:World) (h0:0≤x) (h1:x≤18446744073709551615) :
  Calls Tryz.prog 242 #[Z .u64 x] w fun e w'=>e= ah (Z I (64 - (Lib.bitLen x.toNat:Int)))∧w'=w:=Any.bits_LeadingZeros64 Tryz.lays134 x w h0 h1
def Tryz.laysC174_ren:Go.Shelf.Ren:=⟨fun|174=>246|247=>286|245=>287|287=>319|279=>320|280=>321|281=>322|282=>323|321=>334|322=>335|316=>336|171=>249|205=>337|243=>288|246=>324|283=>338|284=>339|285=>340|286=>341|129=>282|317=>347|318=>348|319=>349|320=>350|337=>353|338=>354|n=>n,fun|9=>9|3=>3|2=>2|75=>242|85=>244|4=>4|167=>315|5=>5|53=>193|175=>316|46=>240|168=>318|37=>275|0=>0|210=>333|21=>21|127=>299|145=>344|143=>342|171=>335|173=>337|212=>347|51=>61|20=>20|213=>348|232=>354|233=>355|80=>227|n=>n,fun|15=>2|16=>3|17=>4|18=>5|19=>6|n=>n⟩
theorem Tryz.laysC174:Go.Proofs.LaysC.n174 Tryz.prog Tryz.laysC174_ren:={
 mixed:=by kernel_rfl
 f129:=Tryz.func282.trans (congrArg some zk)
 f171:=Tryz.func249.trans (congrArg some zk)
 f174:=Tryz.func246.trans (congrArg some zk)
 f205:=Tryz.func337.trans (congrArg some zk)
 f243:=Tryz.func288.trans (congrArg some zk)
 f245:=Tryz.func287.trans (congrArg some zk)
 f246:=Tryz.func324.trans (congrArg some zk)
 f247:=Tryz.func286.trans (congrArg some zk)
 f279:=Tryz.func320.trans (congrArg some zk)
 f280:=Tryz.func321.trans (congrArg some zk)
 f281:=Tryz.func322.trans (congrArg some zk)
 f282:=Tryz.func323.trans (congrArg some zk)
 f283:=Tryz.func338.trans (congrArg some zk)
 f284:=Tryz.func339.trans (congrArg some zk)
 f285:=Tryz.func340.trans (congrArg some zk)
 f286:=Tryz.func341.trans (congrArg some zk)
 f287:=Tryz.func319.trans (congrArg some zk)
 f316:=Tryz.func336.trans (congrArg some zk)
 f317:=Tryz.func347.trans (congrArg some zk)
 f318:=Tryz.func348.trans (congrArg some zk)
 f319:=Tryz.func349.trans (congrArg some zk)
 f320:=Tryz.func350.trans (congrArg some zk)
 f321:=Tryz.func334.trans (congrArg some zk)
 f322:=Tryz.func335.trans (congrArg some zk)
 f337:=Tryz.func353.trans (congrArg some zk)
 f338:=Tryz.func354.trans (congrArg some zk)
 t0:=Tryz.underlying0
 a0:=Tryz.isAgg0
 z0:=Tryz.sizeOf0
 v0:=Tryz.zeroValue0
 t2:=Tryz.underlying2
 a2:=Tryz.isAgg2
 z2:=Tryz.sizeOf2
 v2:=Tryz.zeroValue2
 t3:=Tryz.underlying3
 a3:=Tryz.isAgg3
 z3:=Tryz.sizeOf3
 v3:=Tryz.zeroValue3
 t4:=Tryz.underlying4
 a4:=Tryz.isAgg4
 z4:=Tryz.sizeOf4
 v4:=Tryz.zeroValue4
 t5:=Tryz.underlying5
 a5:=Tryz.isAgg5
 z5:=Tryz.sizeOf5
 v5:=Tryz.zeroValue5
 t9:=Tryz.underlying9
 a9:=Tryz.isAgg9
 z9:=Tryz.sizeOf9
 v9:=Tryz.zeroValue9
 t20:=Tryz.underlying20
 a20:=Tryz.isAgg20
 z20:=Tryz.sizeOf20
 v20:=Tryz.zeroValue20
 t21:=Tryz.underlying21
 a21:=Tryz.isAgg21
 z21:=Tryz.sizeOf21
 v21:=Tryz.zeroValue21
 t37:=Tryz.underlying275
 a37:=Tryz.isAgg275
 z37:=Tryz.sizeOf275
 v37:=Tryz.zeroValue275
 t46:=Tryz.underlying240
 a46:=Tryz.isAgg240
 z46:=Tryz.sizeOf240
 v46:=Tryz.zeroValue240
 t51:=Tryz.underlying61
 a51:=Tryz.isAgg61
 z51:=Tryz.sizeOf61
 v51:=Tryz.zeroValue61
 t53:=Tryz.underlying193
 a53:=Tryz.isAgg193
 z53:=Tryz.sizeOf193
 v53:=Tryz.zeroValue193
 t75:=Tryz.underlying242
 a75:=Tryz.isAgg242
 z75:=Tryz.sizeOf242
 v75:=Tryz.zeroValue242
 t85:=Tryz.underlying244
 a85:=Tryz.isAgg244
 z85:=Tryz.sizeOf244
 v85:=Tryz.zeroValue244
 t127:=Tryz.underlying299
 a127:=Tryz.isAgg299
 z127:=Tryz.sizeOf299
 v127:=Tryz.zeroValue299
 t143:=Tryz.underlying342
 a143:=Tryz.isAgg342
 z143:=Tryz.sizeOf342
 v143:=Tryz.zeroValue342
 t145:=Tryz.underlying344
 a145:=Tryz.isAgg344
 z145:=Tryz.sizeOf344
 v145:=Tryz.zeroValue344
 t167:=Tryz.underlying315
 a167:=Tryz.isAgg315
 z167:=Tryz.sizeOf315
 v167:=Tryz.zeroValue315
 t168:=Tryz.underlying318
 a168:=Tryz.isAgg318
 z168:=Tryz.sizeOf318
 v168:=Tryz.zeroValue318
 t171:=Tryz.underlying335
 a171:=Tryz.isAgg335
 z171:=Tryz.sizeOf335
 v171:=Tryz.zeroValue335
 t173:=Tryz.underlying337
 a173:=Tryz.isAgg337
 z173:=Tryz.sizeOf337
 v173:=Tryz.zeroValue337
 t175:=Tryz.underlying316
 a175:=Tryz.isAgg316
 z175:=Tryz.sizeOf316
 v175:=Tryz.zeroValue316
 t210:=Tryz.underlying333
 a210:=Tryz.isAgg333
 z210:=Tryz.sizeOf333
 v210:=Tryz.zeroValue333
 t212:=Tryz.underlying347
 a212:=Tryz.isAgg347
 z212:=Tryz.sizeOf347
 v212:=Tryz.zeroValue347
 t213:=Tryz.underlying348
 a213:=Tryz.isAgg348
 z213:=Tryz.sizeOf348
 t232:=Tryz.underlying354
 a232:=Tryz.isAgg354
 z232:=Tryz.sizeOf354
 v232:=Tryz.zeroValue354
 t233:=Tryz.underlying355
 a233:=Tryz.isAgg355
 z233:=Tryz.sizeOf355
 v233:=Tryz.zeroValue355
 g15:=by kernel_rfl
 g16:=by kernel_rfl
 g17:=by kernel_rfl
 g18:=by kernel_rfl
 g19:=by kernel_rfl
 t80:=Tryz.underlying227
 a80:=Tryz.isAgg227
 z80:=Tryz.sizeOf227
 v80:=Tryz.zeroValue227
 i0:=by kernel_rfl
 i2:=by kernel_rfl
 i3:=by kernel_rfl
 i4:=by kernel_rfl
 i5:=by kernel_rfl
 i9:=by kernel_rfl
 i20:=by kernel_rfl
 i21:=by kernel_rfl
 i37:=by kernel_rfl
 i46:=by kernel_rfl
 i51:=by kernel_rfl
 i53:=by kernel_rfl
 i75:=by kernel_rfl
 i80:=by kernel_rfl
 i85:=by kernel_rfl
 i127:=by kernel_rfl
 i143:=by kernel_rfl
 i145:=by kernel_rfl
 i167:=by kernel_rfl
 i168:=by kernel_rfl
 i171:=by kernel_rfl
 i173:=by kernel_rfl
 i175:=by kernel_rfl
 i210:=by kernel_rfl
 i212:=by kernel_rfl
 i232:=by kernel_rfl
 i233:=by kernel_rfl
 m15:=by kernel_rfl
 m16:=by kernel_rfl
 m17:=by kernel_rfl
 m18:=by kernel_rfl
 m19:=by kernel_rfl
 c0:=by kernel_rfl
 c2:=by kernel_rfl
 c3:=by kernel_rfl
 c4:=by kernel_rfl
 c5:=by kernel_rfl
 c9:=by kernel_rfl
 c20:=by kernel_rfl
 c21:=by kernel_rfl
 c37:=by kernel_rfl
 c46:=by kernel_rfl
 c51:=by kernel_rfl
 c53:=by kernel_rfl
 c75:=by kernel_rfl
 c80:=by kernel_rfl
 c85:=by kernel_rfl
 c127:=by kernel_rfl
 c143:=by kernel_rfl
 c145:=by kernel_rfl
 c167:=by kernel_rfl
 c168:=by kernel_rfl
 c171:=by kernel_rfl
 c173:=by kernel_rfl
 c175:=by kernel_rfl
 c210:=by kernel_rfl
 c212:=by kernel_rfl
 c213:=by kernel_rfl
 c232:=by kernel_rfl
 c233:=by kernel_rfl }
open Go.RowKit in
theorem Tryz.strconv_ParseInt_10_at64_ok (s:ByteArray) (hmax:s.size≤9223372036854775806) (v:Int) (h:Lib.parseIntB 64 s.data.toList= .ok v) (w:World) :
  Calls Tryz.prog 246 #[O s,Z I 10,Z I 64] w fun e w'=>e= ah (aD #[Z I v,.nilIface])∧(w'=w∨∃ t,w'=Lib.bytesWorld w 5 t):=Any.strconv_ParseInt_10_at64_ok Tryz.laysC174 s hmax v h w
open Go.RowKit in
theorem Tryz.strconv_ParseInt_10_at64_range (s:ByteArray) (hlim:s.size≤281474976710656) (h:Lib.parseIntB 64 s.data.toList= .range) (ev:Value) (w:World) (hv:w.cell? ⟨3,0,none⟩=some ev) (hev:ev= .nilIface∨∃ te pe,ev= .iface te pe) :
  Calls Tryz.prog 246 #[O s,Z I 10,Z I 64] w fun e w'=>∃ N,e= ah (aD #[Z I (Lib.intSat 64 s.data.toList),.iface 318 (aA (some ⟨N,0,none⟩))])∧w.heap.size≤N∧w'.heap[N]? =some (.cells #[O ⟨#[80,97,114,115,101,73,110,116]⟩,O s,ev] 333 (0,0))∧Below w.heap.size w w':=Any.strconv_ParseInt_10_at64_range Tryz.laysC174 s hlim h ev w hv hev
def Tryz.lays264_ren:Go.Shelf.Ren:=⟨fun|264=>176|n=>n,fun|53=>193|46=>240|n=>n,fun|n=>n⟩
theorem Tryz.lays264:Go.Proofs.Lays.n264 Tryz.prog Tryz.lays264_ren:={
 mixed:=by kernel_rfl
 f264:=Tryz.func176.trans (congrArg some zk)
 t46:=Tryz.underlying240
 a46:=Tryz.isAgg240
 z46:=Tryz.sizeOf240
 v46:=Tryz.zeroValue240
 t53:=Tryz.underlying193
 a53:=Tryz.isAgg193
 z53:=Tryz.sizeOf193
 v53:=Tryz.zeroValue193 }
open Go.RowKit Go.Lib in
theorem Tryz.bits_Mul64 (x y:Nat) (hx:x<18446744073709551616) (hy:y<18446744073709551616) (w:World) :
  Calls Tryz.prog 176 #[Z .u64 x,Z .u64 y] w fun e w'=>e= ah (aD #[Z .u64 ((x*y / 18446744073709551616:Nat):Int),Z .u64 ((x*y%18446744073709551616:Nat):Int)])∧w'=w:=Any.bits_Mul64 Tryz.lays264 x y hx hy w
def Tryz.lays105_ren:Go.Shelf.Ren:=⟨fun|105=>325|212=>342|99=>343|165=>344|166=>271|170=>345|169=>272|263=>351|264=>176|206=>330|240=>303|241=>352|276=>329|277=>355|n=>n,fun|9=>9|3=>3|4=>4|20=>20|0=>0|46=>240|109=>339|5=>5|72=>277|76=>279|51=>61|146=>350|53=>193|148=>194|70=>274|37=>275|75=>242|127=>299|164=>324|80=>227|n=>n,fun|n=>n⟩
theorem Tryz.lays105:Go.Proofs.Lays.n105 Tryz.prog Tryz.lays105_ren:={
 mixed:=by kernel_rfl
 f99:=Tryz.func343.trans (congrArg some zk)
 f105:=Tryz.func325.trans (congrArg some zk)
 f165:=Tryz.func344.trans (congrArg some zk)
 f166:=Tryz.func271.trans (congrArg some zk)
 f169:=Tryz.func272.trans (congrArg some zk)
 f170:=Tryz.func345.trans (congrArg some zk)
 f206:=Tryz.func330.trans (congrArg some zk)
 f212:=Tryz.func342.trans (congrArg some zk)
 f240:=Tryz.func303.trans (congrArg some zk)
 f241:=Tryz.func352.trans (congrArg some zk)
 f263:=Tryz.func351.trans (congrArg some zk)
 f264:=Tryz.func176.trans (congrArg some zk)
 f276:=Tryz.func329.trans (congrArg some zk)
 f277:=Tryz.func355.trans (congrArg some zk)
 t0:=Tryz.underlying0
 a0:=Tryz.isAgg0
 z0:=Tryz.sizeOf0
 v0:=Tryz.zeroValue0
 t3:=Tryz.underlying3
 a3:=Tryz.isAgg3
 z3:=Tryz.sizeOf3
 v3:=Tryz.zeroValue3
 t4:=Tryz.underlying4
 a4:=Tryz.isAgg4
 z4:=Tryz.sizeOf4
 v4:=Tryz.zeroValue4
 t5:=Tryz.underlying5
 a5:=Tryz.isAgg5
 z5:=Tryz.sizeOf5
 v5:=Tryz.zeroValue5
 t9:=Tryz.underlying9
 a9:=Tryz.isAgg9
 z9:=Tryz.sizeOf9
 v9:=Tryz.zeroValue9
 t20:=Tryz.underlying20
 a20:=Tryz.isAgg20
 z20:=Tryz.sizeOf20
 v20:=Tryz.zeroValue20
 t37:=Tryz.underlying275
 a37:=Tryz.isAgg275
 z37:=Tryz.sizeOf275
 v37:=Tryz.zeroValue275
 t46:=Tryz.underlying240
 a46:=Tryz.isAgg240
 z46:=Tryz.sizeOf240
 v46:=Tryz.zeroValue240
 t51:=Tryz.underlying61
 a51:=Tryz.isAgg61
 z51:=Tryz.sizeOf61
 v51:=Tryz.zeroValue61
 t53:=Tryz.underlying193
 a53:=Tryz.isAgg193
 z53:=Tryz.sizeOf193
 v53:=Tryz.zeroValue193
 t70:=Tryz.underlying274
 a70:=Tryz.isAgg274
 z70:=Tryz.sizeOf274
 v70:=Tryz.zeroValue274
 t72:=Tryz.underlying277
 a72:=Tryz.isAgg277
 z72:=Tryz.sizeOf277
 v72:=Tryz.zeroValue277
 t75:=Tryz.underlying242
 a75:=Tryz.isAgg242
 z75:=Tryz.sizeOf242
 v75:=Tryz.zeroValue242
 t76:=Tryz.underlying279
 a76:=Tryz.isAgg279
 z76:=Tryz.sizeOf279
 v76:=Tryz.zeroValue279
 t109:=Tryz.underlying339
 a109:=Tryz.isAgg339
 z109:=Tryz.sizeOf339
 v109:=Tryz.zeroValue339
 t127:=Tryz.underlying299
 a127:=Tryz.isAgg299
 z127:=Tryz.sizeOf299
 v127:=Tryz.zeroValue299
 t146:=Tryz.underlying350
 a146:=Tryz.isAgg350
 z146:=Tryz.sizeOf350
 v146:=Tryz.zeroValue350
 t148:=Tryz.underlying194
 a148:=Tryz.isAgg194
 z148:=Tryz.sizeOf194
 v148:=Tryz.zeroValue194
 t164:=Tryz.underlying324
 a164:=Tryz.isAgg324
 z164:=Tryz.sizeOf324
 v164:=Tryz.zeroValue324 }
theorem Tryz.Builder_Extra_105:Builder.Extra Tryz.prog Tryz.lays105_ren:={
 sizeBuilder:=by kernel_rfl
 liesBuilder:=by kernel_rfl
 t5:=Tryz.underlying5
 a5:=Tryz.isAgg5
 z5:=Tryz.sizeOf5
 v5:=Tryz.zeroValue5
 infoByte:=by kernel_rfl
 cellsByte:=by kernel_rfl
 sizeByte:=by kernel_rfl
 neB5:=by decide }
open Go.RowKit Go.Lib in
theorem Tryz.strings_Repeat (s:ByteArray) (c:Nat) (w:World) (hc:c≤9223372036854775807) (hlen:s.size*c≤140737488355328) :
  Calls Tryz.prog 325 #[O s,Z I c] w fun e w'=>e= ah (O ⟨(Lib.repeatL s.data.toList c).toArray⟩)∧Below w.heap.size w w':=Any.strings_Repeat Tryz.lays105 Tryz.Builder_Extra_105 s c w hc hlen
end Go.Proofs
namespace Go.Fx
open Go Go.RowKit Go.SW Go.Mem
abbrev Sl:=List (Nat × Value)
def look:Sl→Nat→Option Value
 | [],_=>none
 | p::S,j=>bif Nat.beq j p.1 then some p.2 else look S j
theorem rY (p:Nat × Value) (S:Sl) (j:Nat):look (p::S) j=bif Nat.beq j p.1 then some p.2 else look S j:=rfl
def ev (S:Sl):Operand→Value
 | .tmp t=>(look S t).getD undef
 | .const v=>v
 | .global g=>aA (some ⟨g,0,none⟩)
 | .func f=>.func (.func f) #[] #[]
def known (S:Sl):Operand→Bool
 | .tmp t=>(look S t).isSome
 | _=>true
structure xQ (n:Nat) (S:Sl) (a:Act):Prop where
 size:a.tmps.size=n
 get:∀ i v,look S i=some v→a.tmps.getD i undef=v
 defers:a.defers=[]
theorem xQ.eval {n:Nat} {S:Sl} {a:Act} (h:xQ n S a) {x:Operand} (hx:known S x=true):a.eval x=ev S x:=by
 cases x with
 | tmp t =>
  obtain ⟨v,hv⟩:=Option.isSome_iff_exists.1 hx;exact (h.get t v hv).trans (by simp [ev,hv])
 | const v=>rfl
 | global g=>rfl
 | func f=>rfl
theorem xQ.of {n:Nat} {S S':Sl} {a:Act} (h:xQ n S a) (hs:∀ i v,look S' i=some v→look S i=some v):xQ n S' a:=⟨h.size,fun i v hv=>h.get i v (hs i v hv),h.defers⟩
theorem xQ.put {n:Nat} {S:Sl} {a:Act} (h:xQ n S a) {d:Nat} (hd:d<n) (v:Value):xQ n ((d,v)::S) (a.put (some d) v):=by
 refine ⟨by simpa [Act.put] using h.size,fun i u hu=>?_,h.defers⟩;rw [rY] at hu
 show (a.tmps.setIfInBounds d v).getD i undef=u
 have hs:=h.size;cases hi:Nat.beq i d with
 | true =>
  obtain rfl:=Nat.eq_of_beq_eq_true hi;simp only [hi,cond_true,Option.some.injEq] at hu;subst hu;simp [Array.getD,hs,hd]
 | false =>
  have hne:d≠i:=fun e=>by subst e;simp at hi
  simp only [hi,cond_false] at hu;rw [← h.get i u hu];simp [jf, hne]
def pK (n:Nat) (S:Sl) (d:Option Nat) (v:Value):Option Sl:=match d with
 | some d=>bif Nat.blt d n then some ((d,v)::S) else none
 | none=>some S
theorem xQ.pK {n:Nat} {S S':Sl} {a:Act} (h:xQ n S a) {d:Option Nat} {v:Value} (hs:Fx.pK n S d v=some S'):xQ n S' (a.put d v):=by
 cases d with
 | none=>cases hs;exact h
 | some d =>
  unfold Fx.pK at hs;cases hb:Nat.blt d n with
  | true=>simp only [hb,cond_true,Option.some.injEq] at hs;subst hs;exact h.put (Nat.le_of_ble_eq_true hb) v
  | false=>simp only [hb,cond_false] at hs;cases hs
def yl (ops:Array Oper) (S:Sl) (j:Nat):Option Bool:=match (ops[j]?).bind (·.dst) with
 | some d=>(match look S d with|some (.bool b)=>some b| _=>none)
 | none=>none
def gk (ops:Array Oper) (S:Sl) (o:Oper):Bool:=match o.guard with
 | none=>true
 | some (g,_)=>(match (ops[g]?).bind (·.dst) with|some d=>(look S d).isSome|none=>true)
theorem xQ.wanted {n:Nat} {S:Sl} {a:Act} (h:xQ n S a) {ops:Array Oper} {o:Oper} (hg:gk ops S o=true):Region.wanted o (yielded ops a.tmps)=Region.wanted o (yl ops S):=by
 unfold Region.wanted;unfold gk at hg;cases ho:o.guard with
 | none=>rfl
 | some gw =>
  obtain ⟨g,w⟩:=gw;simp only [ho] at hg ⊢
  congr 1
  unfold yielded Fx.yl;cases hd:(ops[g]?).bind (·.dst) with
  | none=>rfl
  | some d =>
   simp only [hd] at hg;obtain ⟨v,hv⟩:=Option.isSome_iff_exists.1 hg;have hgt:=h.get d v hv;simp only [Option.bind_some,hv];rw [jf] at hgt;cases ht:a.tmps[d]? with
   | none=>rw [ht] at hgt;rw [← hgt];rfl
   | some v'=>rw [ht] at hgt;rw [← hgt];cases v'<;>rfl
/-! ### What stands behind -/
inductive Kt|seq (c:Code)|block (id:Nat)|again (c:Code) (m:Nat)
abbrev Post:=Exit→Sl→World→Prop
def lift (n:Nat) (Q:Post):Exit→Act→World→Prop
 | .panic c,a,w=>a.defers=[]∧∃ S,Q (.panic c) S w
 | e,a,w=>∃ S,xQ n S a∧Q e S w
theorem vT {n:Nat} {Q:Post} {e:Exit} {a:Act} {w:World} {S:Sl} (h:xQ n S a) (hq:Q e S w):lift n Q e a w:=by
 cases e with
 | panic c=>exact ⟨h.defers,S,hq⟩
 | _=>exact ⟨S,h,hq⟩
theorem Nc {n:Nat} {Q:Post} (c:List PanicEntry) (a s:Act) (w:World) (hs:s.defers=a.defers) (h:lift n Q (.panic c) a w):lift n Q (.panic c) s w:=⟨hs.trans h.1,h.2⟩
section
variable (P:Program) (n:Nat)
def rounds (c:Code) (Q:Post):Nat→Sl→World→Prop
 | 0,_,_=>False
 | m+1,S,w=>∀ a,xQ n S a→c.wp P (lift n (fun e S w=>match e with| .normal=>rounds c Q m S w|e=>Q e S w)) a w
def Cont (R:Post):List Kt→Post
 | [],e,S,w=>R e S w
 | .seq c::k,.normal,S,w=>∀ a,xQ n S a→c.wp P (lift n (Cont R k)) a w
 | .seq _::k,e,S,w=>Cont R k e S w
 | .block id::k,.exit id',S,w=>if id'=id then Cont R k .normal S w else Cont R k (.exit id') S w
 | .block _::k,e,S,w=>Cont R k e S w
 | .again c m::k,.normal,S,w=>rounds P n c (Cont R k) m S w
 | .again _ _::k,e,S,w=>Cont R k e S w
structure Wc (R:Post) (c:Code) (k:List Kt) (S:Sl) (w:World):Prop where
 out:∀ a,xQ n S a→c.wp P (lift n (Cont P n R k)) a w
structure Nx (R:Post) (e:Exit) (k:List Kt) (S:Sl) (w:World):Prop where
 out:Cont P n R k e S w
end
section
variable {P:Program} {n:Nat} {R:Post} {k:List Kt} {S:Sl} {w:World} {c c1 c2:Code} {e:Exit}
theorem seq (h:Wc P n R c1 (.seq c2::k) S w):Wc P n R (.seq c1 c2) k S w:=⟨fun a ha=>wp_seq (wp_mono (h.out a ha) fun e a w hq=>by
 cases e with
 | normal=>obtain ⟨S,hs,hq⟩:=hq;exact hq a hs
 | exit id=>obtain ⟨S,hs,hq⟩:=hq;exact ⟨S,hs,hq⟩
 | goto id=>obtain ⟨S,hs,hq⟩:=hq;exact ⟨S,hs,hq⟩
 | ret=>obtain ⟨S,hs,hq⟩:=hq;exact ⟨S,hs,hq⟩
 | panic ch=>obtain ⟨hd,S,hq⟩:=hq;exact ⟨hd,S,hq⟩
 | outgrown=>obtain ⟨S,hs,hq⟩:=hq;exact ⟨S,hs,hq⟩)⟩
theorem block {id:Nat} (h:Wc P n R c (.block id::k) S w):Wc P n R (.block id c) k S w:=⟨fun a ha=>wp_block (wp_mono (h.out a ha) fun e a w hq=>by
 cases e with
 | normal=>obtain ⟨S,hs,hq⟩:=hq;exact ⟨S,hs,hq⟩
 | exit id' =>
  obtain ⟨S,hs,hq⟩:=hq;simp only [Cont] at hq;simp only [Exit.inBlock];split at hq
  ·rename_i h;rw [if_pos h];exact ⟨S,hs,hq⟩
  ·rename_i h;rw [if_neg h];exact ⟨S,hs,hq⟩
 | goto id=>obtain ⟨S,hs,hq⟩:=hq;exact ⟨S,hs,hq⟩
 | ret=>obtain ⟨S,hs,hq⟩:=hq;exact ⟨S,hs,hq⟩
 | panic ch=>obtain ⟨hd,S,hq⟩:=hq;exact ⟨hd,S,hq⟩
 | outgrown=>obtain ⟨S,hs,hq⟩:=hq;exact ⟨S,hs,hq⟩)⟩
theorem skip (h:Nx P n R .normal k S w):Wc P n R .skip k S w:=⟨fun _ ha=>wp_skip (vT ha h.out)⟩
theorem exit {id:Nat} (h:Nx P n R (.exit id) k S w):Wc P n R (.exit id) k S w:=⟨fun _ ha=>wp_exit (vT ha h.out)⟩
theorem ret (h:Nx P n R .ret k S w):Wc P n R .ret k S w:=⟨fun _ ha=>wp_ret (vT ha h.out)⟩
theorem cond {x:Operand} {b:Bool} (hk:known S x=true) (hx:ev S x= ak b) (h:Wc P n R (if b then c1 else c2) k S w):Wc P n R (.cond x c1 c2) k S w:=by
 cases b with
 | true=>exact ⟨fun a ha=>wp_cond_true (by rw [ha.eval hk,hx]) (h.out a ha)⟩
 | false=>exact ⟨fun a ha=>wp_cond_false (by rw [ha.eval hk,hx]) (h.out a ha)⟩
theorem JC (m:Nat) {Q:Post} {a:Act} (h:rounds P n c Q m S w) (ha:xQ n S a):Code.rounds P c (lift n Q) m a w:=by
 induction m generalizing S a w with
 | zero=>exact h.elim
 | succ m ih =>
  refine wp_mono (h a ha) fun e a w hq=>?_;cases e with
  | normal=>obtain ⟨S,hs,hq⟩:=hq;exact ih hq hs
  | exit id=>obtain ⟨S,hs,hq⟩:=hq;exact ⟨S,hs,hq⟩
  | goto id=>obtain ⟨S,hs,hq⟩:=hq;exact ⟨S,hs,hq⟩
  | ret=>obtain ⟨S,hs,hq⟩:=hq;exact ⟨S,hs,hq⟩
  | panic ch=>obtain ⟨hd,S,hq⟩:=hq;exact ⟨hd,S,hq⟩
  | outgrown=>obtain ⟨S,hs,hq⟩:=hq;exact ⟨S,hs,hq⟩
theorem again {m:Nat} (h:Wc P n R c (.again c m::k) S w):Nx P n R .normal (.again c (m+1)::k) S w:=⟨fun a ha=>wp_mono (h.out a ha) fun e a w hq=>by
 cases e with
 | normal=>obtain ⟨S,hs,hq⟩:=hq;exact ⟨S,hs,hq⟩
 | exit id=>obtain ⟨S,hs,hq⟩:=hq;exact ⟨S,hs,hq⟩
 | goto id=>obtain ⟨S,hs,hq⟩:=hq;exact ⟨S,hs,hq⟩
 | ret=>obtain ⟨S,hs,hq⟩:=hq;exact ⟨S,hs,hq⟩
 | panic ch=>obtain ⟨hd,S,hq⟩:=hq;exact ⟨hd,S,hq⟩
 | outgrown=>obtain ⟨S,hs,hq⟩:=hq;exact ⟨S,hs,hq⟩⟩
theorem loop (m:Nat) (h:Wc P n R c (.again c m::k) S w):Wc P n R (.loop c) k S w :=
 ⟨fun _ ha=>wp_loop_rounds (m+1) (JC (m+1) (again h).out ha)⟩
theorem ah4 (h:Wc P n R c k S w):Nx P n R .normal (.seq c::k) S w:=⟨h.out⟩
theorem YK {id:Nat} (h:Nx P n R (.exit id) k S w):Nx P n R (.exit id) (.seq c::k) S w:=⟨h.out⟩
theorem VB {id:Nat} (h:Nx P n R .normal k S w):Nx P n R .normal (.block id::k) S w:=⟨h.out⟩
theorem YM {id:Nat} (h:Nx P n R .normal k S w):Nx P n R (.exit id) (.block id::k) S w:=⟨by unfold Cont;rw [if_pos rfl];exact h.out⟩
theorem YL {id id':Nat} (hne:id'≠id) (h:Nx P n R (.exit id') k S w):Nx P n R (.exit id') (.block id::k) S w:=⟨by unfold Cont;rw [if_neg hne];exact h.out⟩
theorem RY {id m:Nat} (h:Nx P n R (.exit id) k S w):Nx P n R (.exit id) (.again c m::k) S w:=⟨h.out⟩
end
/-! ### Entry and end -/
def Ends (P:Program) (n:Nat) (fn:Func) (E:Ending→World→Prop):Post
 | .normal,S,w=>∀ a,xQ n S a→∃ v,(results fn a.tmps).run P w= .ok v w∧E (ah v) w
 | .ret,S,w=>∀ a,xQ n S a→∃ v,(results fn a.tmps).run P w= .ok v w∧E (ah v) w
 | .panic c,_,w=>E (.panicked c) w
 | _,_,_=>False
def start:List Value→Nat→Sl
 | [],_=>[]
 | v::l,i=>(i,v)::start l (i+1)
theorem Nb (l:List Value):∀ i j v,look (start l i) j=some v→i≤j∧l[j - i]? =some v:=by
 induction l with
 | nil=>intro i j v h;cases h
 | cons v l ih =>
  intro i j u h;simp only [start,rY] at h;cases hb:Nat.beq j i with
  | true=>obtain rfl:=Nat.eq_of_beq_eq_true hb;simp only [hb,cond_true] at h;exact ⟨aC _,by simpa using h⟩
  | false =>
   simp only [hb,cond_false] at h;obtain ⟨h1,h2⟩:=ih (i+1) j u h;exact ⟨by omega,by rw [show j - i=(j - (i+1))+1 by omega];simpa using h2⟩
theorem enter {P:Program} {f:FuncId} {fn:Func} {c:Code} {l:List Value} {w:World} {E:Ending→World→Prop} {n:Nat} (hf:P.funcs[f]? =some fn) (hb:fn.body=some c) (hn:fn.ntmps=n) (hl':Nat.ble l.length n=true)
  (h:Wc P n (Ends P n fn E) c [] (start l 0) w):Calls P f l.toArray w E:=by
 have hl:l.length≤n:=Nat.le_of_ble_eq_true hl';refine calls_of_wp hf hb (wp_mono (h.out _ ⟨?_,fun i v hv=>?_,rfl⟩) fun e a w hq=>?_)
 ·simp [hn];omega
 ·have:=(Nb l 0 i v hv).2;simp only [Nat.sub_zero] at this;rw [jf, Array.getElem?_append];have hi:=(List.getElem?_eq_some_iff.1 this).1;simp [hi]
  have:=(List.getElem?_eq_some_iff.1 this).2
  simpa using this
 ·cases e with
  | normal=>obtain ⟨S,hs,hq⟩:=hq;obtain ⟨v,h1,h2⟩:=hq a hs;exact ⟨hs.defers,v,h1,h2⟩
  | ret=>obtain ⟨S,hs,hq⟩:=hq;obtain ⟨v,h1,h2⟩:=hq a hs;exact ⟨hs.defers,v,h1,h2⟩
  | panic ch=>obtain ⟨hd,S,hq⟩:=hq;exact ⟨hd,hq⟩
  | exit id=>obtain ⟨S,hs,hq⟩:=hq;exact hq.elim
  | goto id=>obtain ⟨S,hs,hq⟩:=hq;exact hq.elim
  | outgrown=>obtain ⟨S,hs,hq⟩:=hq;exact hq.elim
end Go.Fx
