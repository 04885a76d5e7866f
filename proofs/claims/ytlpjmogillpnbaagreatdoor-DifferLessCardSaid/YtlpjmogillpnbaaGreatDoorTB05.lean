/- Lemmas for the proof. No condition. -/
import Derived.Test.YtlpjmogillpnbaaGreatDoorTB04
import Derived.Shelf.Small.Utf8
import Derived.Shelf.Small.Bits
import Derived.Shelf.Small.Strs
import Derived.Shelf.Strconv.Itoa0
import Derived.Shelf.Strconv.ParseUint10
import Derived.Shelf.Strconv.ParseUint10Any
import Derived.Shelf.Strconv.ParseInt10
import Derived.Shelf.Strconv.ParseUint10b64
import Derived.Shelf.Strconv.ParseUint10At
import Derived.Shelf.Strconv.ParseInt10At64
import Derived.Shelf.Strconv.ParseInt10All
import Derived.Shelf.Strconv.ParseIntPublic10
set_option linter.unusedVariables false
set_option linter.unusedSimpArgs false
set_option maxRecDepth 100000
set_option maxHeartbeats 16000000
open Go.Ending renaming returned → ah
open Go.IntKind renaming i64 → I
open Go.Value renaming agg → au, int → Z, pointer → aA, string → O, tuple → aD
namespace Go.gW
open Go Go.Num Go.Dec Lib
abbrev Wx:=Fr × Int
def q9 (a:Fr):Int:=if (rd a).isSome then 0 else 20
def rT (a:Fr):Int × Int:=match rd a with
 | some q=>(oo q 0,0)
 | none=>(0,20)
def wh (a b:Fr):Int × Int:=match rd a,rd b with
 | some p,some q=>(oo p q,0)
 | _,_=>(0,20)
def bin (f:Rat→Rat→Fr × Int) (a b:Fr):Fr × Int:=match rd a,rd b with
 | some p,some q=>f p q
 | _,_=>(Fr.no,20)
def Q9 (a b:Fr):Fr × Int:=bin (fun p q=>wr (p+q)) a b
def Jt (a b:Fr):Fr × Int:=bin (fun p q=>wr (p - q)) a b
def MR (a b:Fr):Fr × Int:=bin (fun p q=>wr (p*q)) a b
def QH (a b:Fr):Fr × Int:=bin (fun p q=>if q=0 then (Fr.no,7) else wr (p / q)) a b
def tH (n d:Int):Fr × Int:=if d=0 then (Fr.no,7) else wr (n / d)
theorem uD {f:Rat→Rat→Fr × Int} {a b:Fr} {p q:Rat} (h:rd a=some p) (k:rd b=some q):bin f a b=f p q:=by unfold bin;rw [h,k]
theorem wQ {f:Rat→Rat→Fr × Int} {a b:Fr} (h:rd a=none):bin f a b=(Fr.no,20):=by unfold bin;rw [h]
theorem wP {f:Rat→Rat→Fr × Int} {a b:Fr} (k:rd b=none):bin f a b=(Fr.no,20):=by
 unfold bin;cases rd a with
 | none=>rfl
 | some p=>simp [k]
theorem Qq (n d:Int) (h:d≠0):mkRat (Mem.iM n.natAbs (!(decide (n<0) == decide (d<0)))) d.natAbs=(n:Rat) / (d:Rat):=by
 rw [← Rat.divInt_eq_div]
 rcases Int.lt_trichotomy d 0 with hd|hd|hd
 ·rw [← Rat.neg_divInt_neg];obtain ⟨k,rfl⟩:∃ k:Nat,d= -(k:Int):=⟨d.natAbs,by omega⟩;rw [Int.neg_neg,Rat.divInt_ofNat,Int.natAbs_neg,Int.natAbs_natCast]
  congr 1
  unfold Mem.iM
  by_cases hn:n<0
  ·simp [hn,hd];omega
  ·simp [hn,hd];omega
 ·exact absurd hd h
 ·obtain ⟨k,rfl⟩:∃ k:Nat,d=(k:Int):=⟨d.natAbs,by omega⟩;rw [Rat.divInt_ofNat,Int.natAbs_natCast]
  congr 1
  have hd2:¬ (k:Int)<0:=by omega
  unfold Mem.iM
  by_cases hn:n<0
  ·simp [hn,hd2];omega
  ·simp [hn,hd2];omega
theorem jV (s t:ByteArray) (e:Int):Fr.res (⟨s,t⟩,e)= aD #[au #[O s,O t],Z I e]:=rfl
end Go.gW
namespace Go.Proofs
open Go.Shelf
def Tryz.lays160_ren:Go.Shelf.Ren:=⟨fun|160=>157|232=>199|231=>198|227=>200|234=>202|233=>201|236=>204|235=>203|228=>259|271=>262|151=>261|197=>260|120=>293|152=>292|260=>291|137=>300|119=>301|224=>289|225=>288|217=>287|266=>298|n=>n,fun|9=>9|4=>4|3=>3|5=>5|117=>247|116=>246|0=>0|124=>250|21=>21|105=>303|46=>251|119=>334|139=>337|138=>336|n=>n,fun|3=>6|4=>7|n=>n⟩
theorem Tryz.lays160:Go.Proofs.Lays.n160 Tryz.prog Tryz.lays160_ren:={
 mixed:=by kernel_rfl
 f119:=Tryz.func301.trans (congrArg some zk)
 f120:=Tryz.func293.trans (congrArg some zk)
 f137:=Tryz.func300.trans (congrArg some zk)
 f151:=Tryz.func261.trans (congrArg some zk)
 f152:=Tryz.func292.trans (congrArg some zk)
 f160:=Tryz.func157.trans (congrArg some zk)
 f197:=Tryz.func260.trans (congrArg some zk)
 f217:=Tryz.func287.trans (congrArg some zk)
 f224:=Tryz.func289.trans (congrArg some zk)
 f225:=Tryz.func288.trans (congrArg some zk)
 f227:=Tryz.func200.trans (congrArg some zk)
 f228:=Tryz.func259.trans (congrArg some zk)
 f231:=Tryz.func198.trans (congrArg some zk)
 f232:=Tryz.func199.trans (congrArg some zk)
 f233:=Tryz.func201.trans (congrArg some zk)
 f234:=Tryz.func202.trans (congrArg some zk)
 f235:=Tryz.func203.trans (congrArg some zk)
 f236:=Tryz.func204.trans (congrArg some zk)
 f260:=Tryz.func291.trans (congrArg some zk)
 f266:=Tryz.func298.trans (congrArg some zk)
 f271:=Tryz.func262.trans (congrArg some zk)
 t0:=Tryz.underlying0
 a0:=Tryz.isAgg0
 z0:=Tryz.sizeOf0
 v0:=Tryz.zeroValue0
 t3:=Tryz.underlying3
 a3:=Tryz.isAgg3
 z3:=Tryz.sizeOf3
 v3:=Tryz.zeroValue3
 t4:=Tryz.underlying4
 a4:=Tryz.isAgg4
 z4:=Tryz.sizeOf4
 v4:=Tryz.zeroValue4
 t5:=Tryz.underlying5
 a5:=Tryz.isAgg5
 z5:=Tryz.sizeOf5
 v5:=Tryz.zeroValue5
 t9:=Tryz.underlying9
 a9:=Tryz.isAgg9
 z9:=Tryz.sizeOf9
 v9:=Tryz.zeroValue9
 t21:=Tryz.underlying21
 a21:=Tryz.isAgg21
 z21:=Tryz.sizeOf21
 v21:=Tryz.zeroValue21
 t46:=Tryz.underlying251
 a46:=Tryz.isAgg251
 z46:=Tryz.sizeOf251
 v46:=Tryz.zeroValue251
 t105:=Tryz.underlying303
 a105:=Tryz.isAgg303
 z105:=Tryz.sizeOf303
 v105:=Tryz.zeroValue303
 t116:=Tryz.underlying246
 a116:=Tryz.isAgg246
 z116:=Tryz.sizeOf246
 t117:=Tryz.underlying247
 a117:=Tryz.isAgg247
 z117:=Tryz.sizeOf247
 v117:=Tryz.zeroValue247
 t119:=Tryz.underlying334
 a119:=Tryz.isAgg334
 z119:=Tryz.sizeOf334
 t124:=Tryz.underlying250
 a124:=Tryz.isAgg250
 z124:=Tryz.sizeOf250
 v124:=Tryz.zeroValue250
 t138:=Tryz.underlying336
 a138:=Tryz.isAgg336
 z138:=Tryz.sizeOf336
 v138:=Tryz.zeroValue336
 t139:=Tryz.underlying337
 a139:=Tryz.isAgg337
 z139:=Tryz.sizeOf337
 v139:=Tryz.zeroValue337
 g3:=by kernel_rfl
 g4:=by kernel_rfl }
open Go.RowKit in
theorem Tryz.strings_Trim_one (s:ByteArray) (c:UInt8) (hc:c.toNat<128) (w:World) (hs:s.size≤9223372036854775807) :
  Calls Tryz.prog 157 #[O s,O ⟨#[c]⟩] w fun e w'=>e= ah (O ⟨(Lib.trimB s.data.toList c).toArray⟩)∧(w'=w∨w'=w.drew):=Any.strings_Trim_one Tryz.lays160 s c hc w hs
def Tryz.lays134_ren:Go.Shelf.Ren:=⟨fun|134=>267|129=>274|n=>n,fun|53=>138|3=>3|4=>4|46=>251|5=>5|9=>9|n=>n,fun|n=>n⟩
theorem Tryz.lays134:Go.Proofs.Lays.n134 Tryz.prog Tryz.lays134_ren:={
 mixed:=by kernel_rfl
 f129:=Tryz.func274.trans (congrArg some zk)
 f134:=Tryz.func267.trans (congrArg some zk)
 t3:=Tryz.underlying3
 a3:=Tryz.isAgg3
 z3:=Tryz.sizeOf3
 v3:=Tryz.zeroValue3
 t4:=Tryz.underlying4
 a4:=Tryz.isAgg4
 z4:=Tryz.sizeOf4
 v4:=Tryz.zeroValue4
 t5:=Tryz.underlying5
 a5:=Tryz.isAgg5
 z5:=Tryz.sizeOf5
 v5:=Tryz.zeroValue5
 t9:=Tryz.underlying9
 a9:=Tryz.isAgg9
 z9:=Tryz.sizeOf9
 v9:=Tryz.zeroValue9
 t46:=Tryz.underlying251
 a46:=Tryz.isAgg251
 z46:=Tryz.sizeOf251
 v46:=Tryz.zeroValue251
 t53:=Tryz.underlying138
 a53:=Tryz.isAgg138
 z53:=Tryz.sizeOf138
 v53:=Tryz.zeroValue138 }
theorem Tryz.bits_LeadingZeros64 (x:Int) (w:World) (h0:0≤x) (h1:x≤18446744073709551615) :
  Calls Tryz.prog 267 #[Z .u64 x] w fun e w'=>e= ah (Z I (64 - (Lib.bitLen x.toNat:Int)))∧w'=w:=Any.bits_LeadingZeros64 Tryz.lays134 x w h0 h1
def Tryz.laysC174_ren:Go.Shelf.Ren:=⟨fun|174=>143|247=>183|245=>184|287=>229|279=>230|280=>231|281=>232|282=>233|321=>269|322=>270|316=>271|171=>99|205=>272|243=>145|246=>185|283=>234|284=>235|285=>236|286=>237|129=>274|317=>273|318=>275|319=>276|320=>277|337=>295|338=>296|n=>n,fun|9=>9|3=>3|2=>2|75=>190|85=>195|4=>4|167=>273|5=>5|53=>138|175=>274|46=>251|168=>276|37=>186|0=>0|210=>313|21=>21|127=>231|145=>331|143=>329|171=>279|173=>282|212=>317|51=>133|20=>20|213=>318|232=>339|233=>340|80=>135|n=>n,fun|15=>2|16=>3|17=>4|18=>8|19=>9|n=>n⟩
theorem Tryz.laysC174:Go.Proofs.LaysC.n174 Tryz.prog Tryz.laysC174_ren:={
 mixed:=by kernel_rfl
 f129:=Tryz.func274.trans (congrArg some zk)
 f171:=Tryz.func99.trans (congrArg some zk)
 f174:=Tryz.func143.trans (congrArg some zk)
 f205:=Tryz.func272.trans (congrArg some zk)
 f243:=Tryz.func145.trans (congrArg some zk)
 f245:=Tryz.func184.trans (congrArg some zk)
 f246:=Tryz.func185.trans (congrArg some zk)
 f247:=Tryz.func183.trans (congrArg some zk)
 f279:=Tryz.func230.trans (congrArg some zk)
 f280:=Tryz.func231.trans (congrArg some zk)
 f281:=Tryz.func232.trans (congrArg some zk)
 f282:=Tryz.func233.trans (congrArg some zk)
 f283:=Tryz.func234.trans (congrArg some zk)
 f284:=Tryz.func235.trans (congrArg some zk)
 f285:=Tryz.func236.trans (congrArg some zk)
 f286:=Tryz.func237.trans (congrArg some zk)
 f287:=Tryz.func229.trans (congrArg some zk)
 f316:=Tryz.func271.trans (congrArg some zk)
 f317:=Tryz.func273.trans (congrArg some zk)
 f318:=Tryz.func275.trans (congrArg some zk)
 f319:=Tryz.func276.trans (congrArg some zk)
 f320:=Tryz.func277.trans (congrArg some zk)
 f321:=Tryz.func269.trans (congrArg some zk)
 f322:=Tryz.func270.trans (congrArg some zk)
 f337:=Tryz.func295.trans (congrArg some zk)
 f338:=Tryz.func296.trans (congrArg some zk)
 t0:=Tryz.underlying0
 a0:=Tryz.isAgg0
 z0:=Tryz.sizeOf0
 v0:=Tryz.zeroValue0
 t2:=Tryz.underlying2
 a2:=Tryz.isAgg2
 z2:=Tryz.sizeOf2
 v2:=Tryz.zeroValue2
 t3:=Tryz.underlying3
 a3:=Tryz.isAgg3
 z3:=Tryz.sizeOf3
 v3:=Tryz.zeroValue3
 t4:=Tryz.underlying4
 a4:=Tryz.isAgg4
 z4:=Tryz.sizeOf4
 v4:=Tryz.zeroValue4
 t5:=Tryz.underlying5
 a5:=Tryz.isAgg5
 z5:=Tryz.sizeOf5
 v5:=Tryz.zeroValue5
 t9:=Tryz.underlying9
 a9:=Tryz.isAgg9
 z9:=Tryz.sizeOf9
 v9:=Tryz.zeroValue9
 t20:=Tryz.underlying20
 a20:=Tryz.isAgg20
 z20:=Tryz.sizeOf20
 v20:=Tryz.zeroValue20
 t21:=Tryz.underlying21
 a21:=Tryz.isAgg21
 z21:=Tryz.sizeOf21
 v21:=Tryz.zeroValue21
 t37:=Tryz.underlying186
 a37:=Tryz.isAgg186
 z37:=Tryz.sizeOf186
 v37:=Tryz.zeroValue186
 t46:=Tryz.underlying251
 a46:=Tryz.isAgg251
 z46:=Tryz.sizeOf251
 v46:=Tryz.zeroValue251
 t51:=Tryz.underlying133
 a51:=Tryz.isAgg133
 z51:=Tryz.sizeOf133
 v51:=Tryz.zeroValue133
 t53:=Tryz.underlying138
 a53:=Tryz.isAgg138
 z53:=Tryz.sizeOf138
 v53:=Tryz.zeroValue138
 t75:=Tryz.underlying190
 a75:=Tryz.isAgg190
 z75:=Tryz.sizeOf190
 v75:=Tryz.zeroValue190
 t85:=Tryz.underlying195
 a85:=Tryz.isAgg195
 z85:=Tryz.sizeOf195
 v85:=Tryz.zeroValue195
 t127:=Tryz.underlying231
 a127:=Tryz.isAgg231
 z127:=Tryz.sizeOf231
 v127:=Tryz.zeroValue231
 t143:=Tryz.underlying329
 a143:=Tryz.isAgg329
 z143:=Tryz.sizeOf329
 v143:=Tryz.zeroValue329
 t145:=Tryz.underlying331
 a145:=Tryz.isAgg331
 z145:=Tryz.sizeOf331
 v145:=Tryz.zeroValue331
 t167:=Tryz.underlying273
 a167:=Tryz.isAgg273
 z167:=Tryz.sizeOf273
 v167:=Tryz.zeroValue273
 t168:=Tryz.underlying276
 a168:=Tryz.isAgg276
 z168:=Tryz.sizeOf276
 v168:=Tryz.zeroValue276
 t171:=Tryz.underlying279
 a171:=Tryz.isAgg279
 z171:=Tryz.sizeOf279
 v171:=Tryz.zeroValue279
 t173:=Tryz.underlying282
 a173:=Tryz.isAgg282
 z173:=Tryz.sizeOf282
 v173:=Tryz.zeroValue282
 t175:=Tryz.underlying274
 a175:=Tryz.isAgg274
 z175:=Tryz.sizeOf274
 v175:=Tryz.zeroValue274
 t210:=Tryz.underlying313
 a210:=Tryz.isAgg313
 z210:=Tryz.sizeOf313
 v210:=Tryz.zeroValue313
 t212:=Tryz.underlying317
 a212:=Tryz.isAgg317
 z212:=Tryz.sizeOf317
 v212:=Tryz.zeroValue317
 t213:=Tryz.underlying318
 a213:=Tryz.isAgg318
 z213:=Tryz.sizeOf318
 t232:=Tryz.underlying339
 a232:=Tryz.isAgg339
 z232:=Tryz.sizeOf339
 v232:=Tryz.zeroValue339
 t233:=Tryz.underlying340
 a233:=Tryz.isAgg340
 z233:=Tryz.sizeOf340
 v233:=Tryz.zeroValue340
 g15:=by kernel_rfl
 g16:=by kernel_rfl
 g17:=by kernel_rfl
 g18:=by kernel_rfl
 g19:=by kernel_rfl
 t80:=Tryz.underlying135
 a80:=Tryz.isAgg135
 z80:=Tryz.sizeOf135
 v80:=Tryz.zeroValue135
 i0:=by kernel_rfl
 i2:=by kernel_rfl
 i3:=by kernel_rfl
 i4:=by kernel_rfl
 i5:=by kernel_rfl
 i9:=by kernel_rfl
 i20:=by kernel_rfl
 i21:=by kernel_rfl
 i37:=by kernel_rfl
 i46:=by kernel_rfl
 i51:=by kernel_rfl
 i53:=by kernel_rfl
 i75:=by kernel_rfl
 i80:=by kernel_rfl
 i85:=by kernel_rfl
 i127:=by kernel_rfl
 i143:=by kernel_rfl
 i145:=by kernel_rfl
 i167:=by kernel_rfl
 i168:=by kernel_rfl
 i171:=by kernel_rfl
 i173:=by kernel_rfl
 i175:=by kernel_rfl
 i210:=by kernel_rfl
 i212:=by kernel_rfl
 i232:=by kernel_rfl
 i233:=by kernel_rfl
 m15:=by kernel_rfl
 m16:=by kernel_rfl
 m17:=by kernel_rfl
 m18:=by kernel_rfl
 m19:=by kernel_rfl
 c0:=by kernel_rfl
 c2:=by kernel_rfl
 c3:=by kernel_rfl
 c4:=by kernel_rfl
 c5:=by kernel_rfl
 c9:=by kernel_rfl
 c20:=by kernel_rfl
 c21:=by kernel_rfl
 c37:=by kernel_rfl
 c46:=by kernel_rfl
 c51:=by kernel_rfl
 c53:=by kernel_rfl
 c75:=by kernel_rfl
 c80:=by kernel_rfl
 c85:=by kernel_rfl
 c127:=by kernel_rfl
 c143:=by kernel_rfl
 c145:=by kernel_rfl
 c167:=by kernel_rfl
 c168:=by kernel_rfl
 c171:=by kernel_rfl
 c173:=by kernel_rfl
 c175:=by kernel_rfl
 c210:=by kernel_rfl
 c212:=by kernel_rfl
 c213:=by kernel_rfl
 c232:=by kernel_rfl
 c233:=by kernel_rfl }
open Go.RowKit in
theorem Tryz.strconv_ParseInt_10_at64_ok (s:ByteArray) (hmax:s.size≤9223372036854775806) (v:Int) (h:Lib.parseIntB 64 s.data.toList= .ok v) (w:World) :
  Calls Tryz.prog 143 #[O s,Z I 10,Z I 64] w fun e w'=>e= ah (aD #[Z I v,.nilIface])∧(w'=w∨∃ t,w'=Lib.bytesWorld w 5 t):=Any.strconv_ParseInt_10_at64_ok Tryz.laysC174 s hmax v h w
open Go.RowKit in
theorem Tryz.strconv_ParseInt_10_at64_range (s:ByteArray) (hlim:s.size≤281474976710656) (h:Lib.parseIntB 64 s.data.toList= .range) (ev:Value) (w:World) (hv:w.cell? ⟨3,0,none⟩=some ev) (hev:ev= .nilIface∨∃ te pe,ev= .iface te pe) :
  Calls Tryz.prog 143 #[O s,Z I 10,Z I 64] w fun e w'=>∃ N,e= ah (aD #[Z I (Lib.intSat 64 s.data.toList),.iface 276 (aA (some ⟨N,0,none⟩))])∧w.heap.size≤N∧w'.heap[N]? =some (.cells #[O ⟨#[80,97,114,115,101,73,110,116]⟩,O s,ev] 313 (0,0))∧Below w.heap.size w w':=Any.strconv_ParseInt_10_at64_range Tryz.laysC174 s hlim h ev w hv hev
def Tryz.lays217_ren:Go.Shelf.Ren:=⟨fun|217=>287|266=>298|n=>n,fun|9=>9|5=>5|3=>3|n=>n,fun|n=>n⟩
theorem Tryz.lays217:Go.Proofs.Lays.n217 Tryz.prog Tryz.lays217_ren:={
 mixed:=by kernel_rfl
 f217:=Tryz.func287.trans (congrArg some zk)
 f266:=Tryz.func298.trans (congrArg some zk)
 t3:=Tryz.underlying3
 a3:=Tryz.isAgg3
 z3:=Tryz.sizeOf3
 v3:=Tryz.zeroValue3
 t5:=Tryz.underlying5
 a5:=Tryz.isAgg5
 z5:=Tryz.sizeOf5
 v5:=Tryz.zeroValue5
 t9:=Tryz.underlying9
 a9:=Tryz.isAgg9
 z9:=Tryz.sizeOf9
 v9:=Tryz.zeroValue9 }
open Go.RowKit Go.Lib in
theorem Tryz.stringslite_IndexByte (s:ByteArray) (c:Int) (w:World) :
  Calls Tryz.prog 287 #[O s,Z .u8 c] w fun e w'=>e= ah (Z I (Lib.indexByte s.data.toList c.toNat.toUInt8))∧w'=w:=Any.stringslite_IndexByte Tryz.lays217 s c w
def Tryz.lays264_ren:Go.Shelf.Ren:=⟨fun|264=>218|n=>n,fun|53=>138|46=>251|n=>n,fun|n=>n⟩
theorem Tryz.lays264:Go.Proofs.Lays.n264 Tryz.prog Tryz.lays264_ren:={
 mixed:=by kernel_rfl
 f264:=Tryz.func218.trans (congrArg some zk)
 t46:=Tryz.underlying251
 a46:=Tryz.isAgg251
 z46:=Tryz.sizeOf251
 v46:=Tryz.zeroValue251
 t53:=Tryz.underlying138
 a53:=Tryz.isAgg138
 z53:=Tryz.sizeOf138
 v53:=Tryz.zeroValue138 }
open Go.RowKit Go.Lib in
theorem Tryz.bits_Mul64 (x y:Nat) (hx:x<18446744073709551616) (hy:y<18446744073709551616) (w:World) :
  Calls Tryz.prog 218 #[Z .u64 x,Z .u64 y] w fun e w'=>e= ah (aD #[Z .u64 ((x*y / 18446744073709551616:Nat):Int),Z .u64 ((x*y%18446744073709551616:Nat):Int)])∧w'=w:=Any.bits_Mul64 Tryz.lays264 x y hx hy w
def Tryz.lays105_ren:Go.Shelf.Ren:=⟨fun|105=>158|212=>205|99=>206|165=>207|166=>141|170=>208|169=>142|263=>263|264=>218|206=>227|240=>182|241=>264|276=>228|277=>294|n=>n,fun|9=>9|3=>3|4=>4|20=>20|0=>0|46=>251|109=>252|5=>5|72=>188|76=>192|51=>133|146=>306|53=>138|148=>262|70=>185|37=>186|75=>190|127=>231|164=>271|80=>135|n=>n,fun|n=>n⟩
theorem Tryz.lays105:Go.Proofs.Lays.n105 Tryz.prog Tryz.lays105_ren:={
 mixed:=by kernel_rfl
 f99:=Tryz.func206.trans (congrArg some zk)
 f105:=Tryz.func158.trans (congrArg some zk)
 f165:=Tryz.func207.trans (congrArg some zk)
 f166:=Tryz.func141.trans (congrArg some zk)
 f169:=Tryz.func142.trans (congrArg some zk)
 f170:=Tryz.func208.trans (congrArg some zk)
 f206:=Tryz.func227.trans (congrArg some zk)
 f212:=Tryz.func205.trans (congrArg some zk)
 f240:=Tryz.func182.trans (congrArg some zk)
 f241:=Tryz.func264.trans (congrArg some zk)
 f263:=Tryz.func263.trans (congrArg some zk)
 f264:=Tryz.func218.trans (congrArg some zk)
 f276:=Tryz.func228.trans (congrArg some zk)
 f277:=Tryz.func294.trans (congrArg some zk)
 t0:=Tryz.underlying0
 a0:=Tryz.isAgg0
 z0:=Tryz.sizeOf0
 v0:=Tryz.zeroValue0
 t3:=Tryz.underlying3
 a3:=Tryz.isAgg3
 z3:=Tryz.sizeOf3
 v3:=Tryz.zeroValue3
 t4:=Tryz.underlying4
 a4:=Tryz.isAgg4
 z4:=Tryz.sizeOf4
 v4:=Tryz.zeroValue4
 t5:=Tryz.underlying5
 a5:=Tryz.isAgg5
 z5:=Tryz.sizeOf5
 v5:=Tryz.zeroValue5
 t9:=Tryz.underlying9
 a9:=Tryz.isAgg9
 z9:=Tryz.sizeOf9
 v9:=Tryz.zeroValue9
 t20:=Tryz.underlying20
 a20:=Tryz.isAgg20
 z20:=Tryz.sizeOf20
 v20:=Tryz.zeroValue20
 t37:=Tryz.underlying186
 a37:=Tryz.isAgg186
 z37:=Tryz.sizeOf186
 v37:=Tryz.zeroValue186
 t46:=Tryz.underlying251
 a46:=Tryz.isAgg251
 z46:=Tryz.sizeOf251
 v46:=Tryz.zeroValue251
 t51:=Tryz.underlying133
 a51:=Tryz.isAgg133
 z51:=Tryz.sizeOf133
 v51:=Tryz.zeroValue133
 t53:=Tryz.underlying138
 a53:=Tryz.isAgg138
 z53:=Tryz.sizeOf138
 v53:=Tryz.zeroValue138
 t70:=Tryz.underlying185
 a70:=Tryz.isAgg185
 z70:=Tryz.sizeOf185
 v70:=Tryz.zeroValue185
 t72:=Tryz.underlying188
 a72:=Tryz.isAgg188
 z72:=Tryz.sizeOf188
 v72:=Tryz.zeroValue188
 t75:=Tryz.underlying190
 a75:=Tryz.isAgg190
 z75:=Tryz.sizeOf190
 v75:=Tryz.zeroValue190
 t76:=Tryz.underlying192
 a76:=Tryz.isAgg192
 z76:=Tryz.sizeOf192
 v76:=Tryz.zeroValue192
 t109:=Tryz.underlying252
 a109:=Tryz.isAgg252
 z109:=Tryz.sizeOf252
 v109:=Tryz.zeroValue252
 t127:=Tryz.underlying231
 a127:=Tryz.isAgg231
 z127:=Tryz.sizeOf231
 v127:=Tryz.zeroValue231
 t146:=Tryz.underlying306
 a146:=Tryz.isAgg306
 z146:=Tryz.sizeOf306
 v146:=Tryz.zeroValue306
 t148:=Tryz.underlying262
 a148:=Tryz.isAgg262
 z148:=Tryz.sizeOf262
 v148:=Tryz.zeroValue262
 t164:=Tryz.underlying271
 a164:=Tryz.isAgg271
 z164:=Tryz.sizeOf271
 v164:=Tryz.zeroValue271 }
theorem Tryz.Builder_Extra_105:Builder.Extra Tryz.prog Tryz.lays105_ren:={
 sizeBuilder:=by kernel_rfl
 liesBuilder:=by kernel_rfl
 t5:=Tryz.underlying5
 a5:=Tryz.isAgg5
 z5:=Tryz.sizeOf5
 v5:=Tryz.zeroValue5
 infoByte:=by kernel_rfl
 cellsByte:=by kernel_rfl
 sizeByte:=by kernel_rfl
 neB5:=by decide }
open Go.RowKit Go.Lib in
theorem Tryz.strings_Repeat (s:ByteArray) (c:Nat) (w:World) (hc:c≤9223372036854775807) (hlen:s.size*c≤140737488355328) :
  Calls Tryz.prog 158 #[O s,Z I c] w fun e w'=>e= ah (O ⟨(Lib.repeatL s.data.toList c).toArray⟩)∧Below w.heap.size w w':=Any.strings_Repeat Tryz.lays105 Tryz.Builder_Extra_105 s c w hc hlen
end Go.Proofs
namespace Go.Proofs
open Go Go.RowKit Go.SW Go.Num Go.Mem Go.gW
def aP {α β:Type} (z:β) (x:α × Int) (f:α→β × Int):β × Int:=if x.2=0 then f x.1 else (z,x.2)
def lC {α:Type} (x:α):α × Int:=(x,0)
def sM (k:Int):Unit × Int:=((),k)
def bI {α:Type} (x:α × Int) (v:α) (k:Int):Prop:=x.2=k∧(k=0→x.1=v)
theorem bI.of {α:Type} {x:α × Int} {v:α} {k:Int} (h:x=(v,k)):bI x v k:=by subst h;exact ⟨rfl,fun _=>rfl⟩
theorem bI.cond_true {α:Type} {a b:α × Int} {v:α} {k:Int} (h:bI (cond true a b) v k):bI a v k:=h
theorem bI.cond_false {α:Type} {a b:α × Int} {v:α} {k:Int} (h:bI (cond false a b) v k):bI b v k:=h
theorem bI.pos {α:Type} {a b:α × Int} {v:α} {k:Int} {p:Prop} [Decidable p] (h:bI (if p then a else b) v k) (hp:p):bI a v k:=by rwa [if_pos hp] at h
theorem bI.neg {α:Type} {a b:α × Int} {v:α} {k:Int} {p:Prop} [Decidable p] (h:bI (if p then a else b) v k) (hp:¬ p):bI b v k:=by rwa [if_neg hp] at h
theorem jJ {α β:Type} {z:β} {x:α × Int} {f:α→β × Int} {y:α} (h:x=(y,0)):aP z x f=f y:=by subst h;rfl
theorem wO {α β:Type} {z:β} {x:α × Int} {f:α→β × Int} (h:x.2≠0):aP z x f=(z,x.2):=if_neg h
theorem ak {α β:Type} {z:β} {x:α × Int} {f:α→β × Int} {r:β} {k:Int} (h:bI (aP z x f) r k):∃ y k1,x=(y,k1)∧((k1=0∧bI (f y) r k)∨(k1≠0∧k=k1)):=by
 obtain ⟨y,k1⟩:=x;refine ⟨y,k1,rfl,?_⟩
 by_cases h0:k1=0
 ·subst h0;exact .inl ⟨rfl,h⟩
 ·rw [wO (x:=(y,k1)) h0] at h;exact .inr ⟨h0,h.1.symm⟩
theorem iI {α:Type} {x:α × Int} {r:α} {k:Int} (h:bI x r k):∃ y k1,x=(y,k1)∧((k1=0∧bI (lC y) r k)∨(k1≠0∧k=k1)):=by
 obtain ⟨y,k1⟩:=x;refine ⟨y,k1,rfl,?_⟩
 by_cases h0:k1=0
 ·subst h0;exact .inl ⟨rfl,h⟩
 ·exact .inr ⟨h0,h.1.symm⟩
def yR (T:Int→Ending) (w:World) (v:Value) (k:Int) (e:Ending) (w':World):Prop:=Below w.heap.size w w'∧((k=0∧e= ah v)∨(k≠0∧e=T k))
def G8 (w:World) (v z:Value) (k:Int) (e:Ending) (w':World):Prop:=Below w.heap.size w w'∧((k=0∧e= ah (aD #[v,Z I 0]))∨(k≠0∧e= ah (aD #[z,Z I k])))
end Go.Proofs
