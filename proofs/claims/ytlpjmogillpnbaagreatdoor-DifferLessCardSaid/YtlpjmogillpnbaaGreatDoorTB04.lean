/- Lemmas for the proof. No condition. -/
import Derived.Test.YtlpjmogillpnbaaGreatDoorTB03
import Derived.Test.YtlpjmogillpnbaaGreatDoorProg
import Derived.Shelf.Strings.Builder1
import Derived.Shelf.Strings.Trim
import Derived.Shelf.LaysM
import Derived.Shelf.Strconv.Itoa3
import Derived.Shelf.Strconv.Clone
import Derived.Shelf.Strconv.SyntaxError
import Derived.Shelf.LaysC
import Derived.Shelf.Strconv.ToError
import Derived.Shelf.Strconv.Lower
import Derived.Shelf.Strconv.RangeError
import Derived.Shelf.Strconv.ToErrorRange
import Derived.Shelf.Strings.Search1
import Derived.Shelf.Strings.Search2
import Derived.Shelf.Strings.Cut
import Derived.Shelf.Strings.Shaped
import Derived.Shelf.Strings.Runes
import Derived.Shelf.Strings.AsciiSet
import Derived.Shelf.Bits.Mul64
import Derived.Shelf.Strings.Repeat
import Derived.Lib.AppendStr
import Derived.Lib.Builder
import Derived.Lib.AppendIntMem
set_option linter.unusedVariables false
set_option linter.unusedSimpArgs false
set_option maxRecDepth 100000
set_option maxHeartbeats 16000000
open Array renaming getElem?_eq_none → bG
open Bool renaming and_eq_true → aF, eq_iff_iff → gN
open Go.Ending renaming returned → ah
open Go.IntKind renaming i64 → I
open Go.Value renaming agg → au, bool → ay, int → Z, pointer → aA, slice → aj, string → O, tuple → aD
open Nat renaming le_refl → aI, le_trans → aB, lt_of_lt_of_le → aL, lt_or_ge → aO, one_mul → fP, pow_le_pow_right → bE
namespace Go.Mem
open Go Go.RowKit Go.SW Go.Num Go.Dec
theorem aC.Bg {w:World} {b:Nat} {cs:Array Value} {T:TypeId} (h:b=w.heap.size):aC (w.alloc (.cells cs T (0,0))) b cs T:=h ▸ aC.new w cs T
theorem aC.nS (w:World) (o:Obj) (cs:Array Value) (T:TypeId):aC ((w.alloc o).alloc (.cells cs T (0,0))) (w.heap.size+1) cs T:=aC.Bg zi
theorem aC.at2 (w:World) (o o2:Obj) (cs:Array Value) (T:TypeId):aC (((w.alloc o).alloc o2).alloc (.cells cs T (0,0))) (w.heap.size+1+1) cs T:=aC.Bg zi
theorem aC.at3 (w:World) (o o2 o3:Obj) (cs:Array Value) (T:TypeId):aC ((((w.alloc o).alloc o2).alloc o3).alloc (.cells cs T (0,0))) (w.heap.size+1+1+1) cs T:=aC.Bg zi
theorem bC.alloc {w:World} {v:Value} {n:Nat} (h:bC w v n) (o:Obj):bC (w.alloc o) v n:=h.later ((Below.refl _ _).alloc (aI _) _)
theorem bC.drew {w:World} {v:Value} {n:Nat} (h:bC w v n):bC w.drew v n:=h.later (Below.drew (Below.refl _ _))
theorem cO {w W:World} (h:Below w.heap.size w W) (o:Obj):Below w.heap.size w (W.alloc o):=h.alloc h.size o
theorem aN {B:Nat} {w w':World} (h:Below B w w':=by repeat (first|(with_reducible exact Below.refl _ _)|(with_reducible assumption)|(with_reducible refine cO ?_ _)|((with_reducible refine Below.setCell ?_ ?_ _);rotate_left;focus (first|(simp;done)|(simp;omega)|assumption|(simp only [];omega)))|(with_reducible refine Below.drew ?_)|((with_reducible refine Bt (w1:=?_) ?_ ?_);rotate_right;with_reducible assumption))):Below B w w':=h
theorem bf {w:World} {b:Nat} {cs:Array Value} {T:TypeId} (h:aC w b cs T:=by repeat (first|(with_reducible assumption)|(with_reducible apply aC.set)|(with_reducible exact aC.new _ _ _)|(with_reducible exact aC.nS _ _ _ _)|(with_reducible exact aC.at2 _ _ _ _ _)|(with_reducible apply aC.alloc)|(with_reducible apply aC.drew)|((with_reducible refine aC.later (w:=?_) ?_ ?_);rotate_right;with_reducible assumption)|((with_reducible apply aC.setOther);(case hne=>(first|assumption|(simp;done)|(simp;omega)))))):aC w b cs T:=h
theorem EP (w:World) (c0:Array Value) (T0:TypeId):∃ y,w.alloc (.cells c0 T0 (0,0))=y∧Below w.heap.size w y∧Hid (aC y (w.heap.size) c0 T0):=⟨_,rfl,cO (Below.refl _ _) _,zh (aC.new _ _ _)⟩
theorem Sz (w:World) (c0:Array Value) (T0:TypeId) (c1:Array Value) (T1:TypeId):∃ y,(w.alloc (.cells c0 T0 (0,0))).alloc (.cells c1 T1 (0,0))=y∧Below w.heap.size w y∧Hid (aC y (w.heap.size) c0 T0)∧Hid (aC y (w.heap.size+1) c1 T1):=⟨_,rfl,cO (cO (Below.refl _ _) _) _,zh (aC.alloc (aC.new _ _ _) _),zh (aC.nS _ _ _ _)⟩
theorem Pf (w:World) (c0:Array Value) (T0:TypeId) (c1:Array Value) (T1:TypeId) (c2:Array Value) (T2:TypeId):∃ y,((w.alloc (.cells c0 T0 (0,0))).alloc (.cells c1 T1 (0,0))).alloc (.cells c2 T2 (0,0))=y∧Below w.heap.size w y∧Hid (aC y (w.heap.size) c0 T0)∧Hid (aC y (w.heap.size+1) c1 T1)∧Hid (aC y (w.heap.size+1+1) c2 T2):=⟨_,rfl,cO (cO (cO (Below.refl _ _) _) _) _,zh (aC.alloc (aC.alloc (aC.new _ _ _) _) _),zh (aC.alloc (aC.nS _ _ _ _) _),zh (aC.at2 _ _ _ _ _)⟩
theorem YQ (w:World) (c0:Array Value) (T0:TypeId) (c1:Array Value) (T1:TypeId) (c2:Array Value) (T2:TypeId) (c3:Array Value) (T3:TypeId):∃ y,(((w.alloc (.cells c0 T0 (0,0))).alloc (.cells c1 T1 (0,0))).alloc (.cells c2 T2 (0,0))).alloc (.cells c3 T3 (0,0))=y∧Below w.heap.size w y∧Hid (aC y (w.heap.size) c0 T0)∧Hid (aC y (w.heap.size+1) c1 T1)∧Hid (aC y (w.heap.size+1+1) c2 T2)∧Hid (aC y (w.heap.size+1+1+1) c3 T3):=⟨_,rfl,cO (cO (cO (cO (Below.refl _ _) _) _) _) _,zh (aC.alloc (aC.alloc (aC.alloc (aC.new _ _ _) _) _) _),zh (aC.alloc (aC.alloc (aC.nS _ _ _ _) _) _),zh (aC.alloc (aC.at2 _ _ _ _ _) _),zh (aC.at3 _ _ _ _ _ _)⟩
theorem _root_.Go.RowKit.Hid.bl {w w':World} {b:Nat} {cs:Array Value} {T:TypeId} (h:Hid (aC w b cs T)) (hb:Below w.heap.size w w'):Hid (aC w' b cs T):=zh (h.out.later hb)
theorem _root_.Go.RowKit.Hid.cl {w:World} {b:Nat} {cs:Array Value} {T:TypeId} (h:Hid (aC w b cs T)):(∀ o,w.cell? ⟨b,o,none⟩=cs[o]?)∧b<w.heap.size:=⟨h.out.cell,h.out.lt⟩
theorem _root_.Go.RowKit.Hid.clf {w:World} {b:Nat} {cs:Array Value} {T:TypeId} (h:Hid (aC w b cs T)):(∀ o,w.cell? ⟨b,o,none⟩=cs[o]?)∧b<w.heap.size∧∀ o,w.frozen? ⟨b,o,none⟩=false:=⟨h.out.cell,h.out.lt,h.out.free⟩
theorem bC.slice {w:World} {v:Value} {n:Nat} (h:bC w v n):∃ pa l ca,v= aj pa l ca:=by
 obtain ⟨a,cap,h1, -⟩:=h;exact ⟨_,_,_,h1⟩
def dN (w:World) (v:Value) (z:Int):Prop:=∃ pa l ca,v= au #[aj pa l ca,ay (decide (z<0))]∧bC w (aj pa l ca) z.natAbs
theorem dN.later {w w':World} {v:Value} {z:Int} (h:dN w v z) (hb:Below w.heap.size w w'):dN w' v z:=by
 obtain ⟨pa,l,ca,h1,h2⟩:=h;exact ⟨pa,l,ca,h1,h2.later hb⟩
theorem dN.mk {w:World} {m:Value} {z:Int} {b:Bool} {n:Nat} (h:bC w m n) (hn:n=z.natAbs) (hb:b=decide (z<0)):dN w (au #[m,ay b]) z:=by
 obtain ⟨pa,l,ca,rfl⟩:=h.slice;exact ⟨pa,l,ca,by rw [hb],hn ▸ h⟩
def dA (z:Int):Value:=O ⟨(Lib.itoa z).toArray⟩
def iM (n:Nat) (b:Bool):Int:=if b then -(n:Int) else n
theorem iJ (n:Nat) (b:Bool):(iM n b).natAbs=n:=by unfold iM;split<;>omega
theorem Ii (n:Nat) (b:Bool):(b&& !decide (n=0))=decide (iM n b<0):=by
 unfold iM;cases b
 ·simp
 ·simp only [Bool.true_and,if_true];rw [gN];simp
  omega
theorem dN.dW {w:World} {pa:Option Addr} {l ca:Nat} {z:Int} (h:bC w (aj pa l ca) z.natAbs):dN w (au #[aj pa l ca,ay (decide (z<0))]) z:=⟨pa,l,ca,rfl,h⟩
theorem dN.cast {w:World} {v:Value} {y z:Int} (h:dN w v y) (e:y=z):dN w v z:=e ▸ h
theorem Ih (z:Int):iM z.natAbs (!decide (z<0))= -z:=by
 unfold iM
 by_cases h:z<0
 ·simp [h];omega
 ·simp [h];omega
theorem PK (z:Int) (n:Nat):iM (z.natAbs*n) (decide (z<0))=z*n:=by
 unfold iM
 by_cases h:z<0
 ·simp only [h,decide_true,if_true];have:z= -(z.natAbs:Int):=by omega
  rw [this,Int.natAbs_neg,Int.natAbs_natCast,Int.natCast_mul,Int.neg_mul]
 ·simp only [h,decide_false];have:z=(z.natAbs:Int):=by omega
  rw [this,Int.natAbs_natCast,Int.natCast_mul];rfl
end Go.Mem
namespace Go.Proofs
open Go.Shelf
def Tryz.lays169_ren:Go.Shelf.Ren:=⟨fun|169=>142|n=>n,fun|70=>185|9=>9|0=>0|72=>188|37=>186|127=>231|3=>3|5=>5|n=>n,fun|n=>n⟩
theorem Tryz.lays169:Go.Proofs.Lays.n169 Tryz.prog Tryz.lays169_ren:={
 mixed:=by kernel_rfl
 f169:=Tryz.func142.trans (congrArg some zk)
 t0:=Tryz.underlying0
 a0:=Tryz.isAgg0
 z0:=Tryz.sizeOf0
 v0:=Tryz.zeroValue0
 t3:=Tryz.underlying3
 a3:=Tryz.isAgg3
 z3:=Tryz.sizeOf3
 v3:=Tryz.zeroValue3
 t9:=Tryz.underlying9
 a9:=Tryz.isAgg9
 z9:=Tryz.sizeOf9
 v9:=Tryz.zeroValue9
 t37:=Tryz.underlying186
 a37:=Tryz.isAgg186
 z37:=Tryz.sizeOf186
 v37:=Tryz.zeroValue186
 t70:=Tryz.underlying185
 a70:=Tryz.isAgg185
 z70:=Tryz.sizeOf185
 v70:=Tryz.zeroValue185
 t72:=Tryz.underlying188
 a72:=Tryz.isAgg188
 z72:=Tryz.sizeOf188
 v72:=Tryz.zeroValue188
 t127:=Tryz.underlying231
 a127:=Tryz.isAgg231
 z127:=Tryz.sizeOf231
 v127:=Tryz.zeroValue231 }
theorem Tryz.Builder_Extra_169:Builder.Extra Tryz.prog Tryz.lays169_ren:={
 sizeBuilder:=by kernel_rfl
 liesBuilder:=by kernel_rfl
 t5:=Tryz.underlying5
 a5:=Tryz.isAgg5
 z5:=Tryz.sizeOf5
 v5:=Tryz.zeroValue5
 infoByte:=by kernel_rfl
 cellsByte:=by kernel_rfl
 sizeByte:=by kernel_rfl
 neB5:=by decide }
open Go.RowKit in
theorem Tryz.Builder_String_any (B b:Nat) (l:List UInt8) (w:World) (h:Lib.IsBuilder 188 5 B b (Lib.byteCells l) w) (hBw:B≤w.heap.size) :
  Calls Tryz.prog 142 #[aA (some ⟨b,0,none⟩)] w fun e w'=>e= ah (O ⟨l.toArray⟩)∧Below B w w':=Any.Builder_String_any Tryz.lays169 Tryz.Builder_Extra_169 B b l w h hBw
def Tryz.laysM171_ren:Go.Shelf.Ren:=⟨fun|171=>99|243=>145|246=>185|283=>234|284=>235|285=>236|286=>237|129=>274|317=>273|318=>275|319=>276|320=>277|337=>295|338=>296|n=>n,fun|3=>3|9=>9|2=>2|4=>4|171=>279|0=>0|53=>138|37=>186|5=>5|173=>282|212=>317|51=>133|20=>20|213=>318|46=>251|232=>339|233=>340|n=>n,fun|17=>4|18=>8|19=>9|n=>n⟩
theorem Tryz.laysM171:Go.Proofs.LaysM.n171 Tryz.prog Tryz.laysM171_ren:={
 mixed:=by kernel_rfl
 f129:=Tryz.func274.trans (congrArg some zk)
 f171:=Tryz.func99.trans (congrArg some zk)
 f243:=Tryz.func145.trans (congrArg some zk)
 f246:=Tryz.func185.trans (congrArg some zk)
 f283:=Tryz.func234.trans (congrArg some zk)
 f284:=Tryz.func235.trans (congrArg some zk)
 f285:=Tryz.func236.trans (congrArg some zk)
 f286:=Tryz.func237.trans (congrArg some zk)
 f317:=Tryz.func273.trans (congrArg some zk)
 f318:=Tryz.func275.trans (congrArg some zk)
 f319:=Tryz.func276.trans (congrArg some zk)
 f320:=Tryz.func277.trans (congrArg some zk)
 f337:=Tryz.func295.trans (congrArg some zk)
 f338:=Tryz.func296.trans (congrArg some zk)
 t0:=Tryz.underlying0
 a0:=Tryz.isAgg0
 z0:=Tryz.sizeOf0
 v0:=Tryz.zeroValue0
 t2:=Tryz.underlying2
 a2:=Tryz.isAgg2
 z2:=Tryz.sizeOf2
 v2:=Tryz.zeroValue2
 t3:=Tryz.underlying3
 a3:=Tryz.isAgg3
 z3:=Tryz.sizeOf3
 v3:=Tryz.zeroValue3
 t4:=Tryz.underlying4
 a4:=Tryz.isAgg4
 z4:=Tryz.sizeOf4
 v4:=Tryz.zeroValue4
 t5:=Tryz.underlying5
 a5:=Tryz.isAgg5
 z5:=Tryz.sizeOf5
 v5:=Tryz.zeroValue5
 t9:=Tryz.underlying9
 a9:=Tryz.isAgg9
 z9:=Tryz.sizeOf9
 v9:=Tryz.zeroValue9
 t20:=Tryz.underlying20
 a20:=Tryz.isAgg20
 z20:=Tryz.sizeOf20
 v20:=Tryz.zeroValue20
 t37:=Tryz.underlying186
 a37:=Tryz.isAgg186
 z37:=Tryz.sizeOf186
 v37:=Tryz.zeroValue186
 t46:=Tryz.underlying251
 a46:=Tryz.isAgg251
 z46:=Tryz.sizeOf251
 v46:=Tryz.zeroValue251
 t51:=Tryz.underlying133
 a51:=Tryz.isAgg133
 z51:=Tryz.sizeOf133
 v51:=Tryz.zeroValue133
 t53:=Tryz.underlying138
 a53:=Tryz.isAgg138
 z53:=Tryz.sizeOf138
 v53:=Tryz.zeroValue138
 t171:=Tryz.underlying279
 a171:=Tryz.isAgg279
 z171:=Tryz.sizeOf279
 v171:=Tryz.zeroValue279
 t173:=Tryz.underlying282
 a173:=Tryz.isAgg282
 z173:=Tryz.sizeOf282
 v173:=Tryz.zeroValue282
 t212:=Tryz.underlying317
 a212:=Tryz.isAgg317
 z212:=Tryz.sizeOf317
 v212:=Tryz.zeroValue317
 t213:=Tryz.underlying318
 a213:=Tryz.isAgg318
 z213:=Tryz.sizeOf318
 t232:=Tryz.underlying339
 a232:=Tryz.isAgg339
 z232:=Tryz.sizeOf339
 v232:=Tryz.zeroValue339
 t233:=Tryz.underlying340
 a233:=Tryz.isAgg340
 z233:=Tryz.sizeOf340
 v233:=Tryz.zeroValue340
 g17:=by kernel_rfl
 g18:=by kernel_rfl
 g19:=by kernel_rfl
 i0:=by kernel_rfl
 i2:=by kernel_rfl
 i3:=by kernel_rfl
 i4:=by kernel_rfl
 i5:=by kernel_rfl
 i9:=by kernel_rfl
 i20:=by kernel_rfl
 i37:=by kernel_rfl
 i46:=by kernel_rfl
 i51:=by kernel_rfl
 i53:=by kernel_rfl
 i171:=by kernel_rfl
 i173:=by kernel_rfl
 i212:=by kernel_rfl
 i232:=by kernel_rfl
 i233:=by kernel_rfl
 m17:=by kernel_rfl
 m18:=by kernel_rfl
 m19:=by kernel_rfl }
open Go.RowKit Go.Sort Go.Lib in
theorem Tryz.strconv_Itoa (n : Int) (h0 : -9223372036854775808 ≤ n) (h1 : n ≤ 9223372036854775807) (w : World) (htab : Lib.TabIs Tryz.prog w "internal/strconv.uint64pow10" .u64 Lib.pow10Tab) :
  Calls Tryz.prog 99 #[Z I n] w fun e w'=>e= ah (O ⟨(Lib.itoa n).toArray⟩)∧∃ k os,w'=grow (w.drewN k) os:=Any.strconv_Itoa Tryz.laysM171 n h0 h1 w htab
end Go.Proofs
namespace Go.Proofs.gJ
open Go Go.RowKit Go.SW Go.Num Go.Mem Go.Proofs
def Pow (w : World) : Prop := Lib.TabIs Tryz.prog w "internal/strconv.uint64pow10" .u64 Lib.pow10Tab
theorem Pow.later {w w':World} (h:Pow w) (hb:Below w.heap.size w w'):Pow w':=Lib.tabBelow_of_tabIs h w' hb
theorem below_grow (w:World) (k:Nat) (os:Array Obj):Below w.heap.size w (Go.Sort.grow (w.drewN k) os):=by
 unfold Go.Sort.grow;refine ⟨rfl,rfl,rfl,?_,fun i hi=>?_⟩
 ·simp
 ·simp only [World.drewN];rw [Array.getElem?_append_left hi]
theorem infoByte:(Tryz.prog.info? 5).map (fun i=>(i.zero,i.size,i.bytes))=some (some (.int .u8 0),1,1):=by kernel_rfl
theorem IV:(Tryz.prog.info? 188).map (·.size)=some 2:=by kernel_rfl
abbrev KH (B b:Nat) (bs:List Value) (w:World):Prop:=Lib.IsBuilder 188 5 B b bs w
abbrev AtB (B b:Nat) (bs:List Value) (w:World):Prop:=Lib.BuilderAt 188 5 B b (aA (some ⟨b,0,none⟩)) bs w
theorem zI {w w':World} (h:Below w.heap.size w w'):w.grownBy w' none:=⟨h.os,h.tape,h.output,h.size,fun i hi _=>h.block i hi⟩
theorem Ar {p:Value} {B b:Nat} {bs:List Value} {w w':World} (h:Lib.BuilderAt 188 5 B b p bs w) (hb:Below w.heap.size w w'):Lib.BuilderAt 188 5 B b p bs w':=by
 have hl:=h.lt;obtain ⟨hB,v,hbk,hown,hne⟩:=h;refine ⟨hB,v,(hb.block _ hl).trans hbk,hown.kept (zI hb) ?_,hne⟩;cases h:v.ownBlock with
 | none=>exact .inl rfl
 | some k=>exact .inr zi
theorem KH.later {B b:Nat} {bs:List Value} {w w':World} (h:KH B b bs w) (hb:Below w.heap.size w w'):KH B b bs w':=by
 rcases h with h|h
 ·exact .inl (Ar h hb)
 ·exact .inr (Ar h hb)
theorem Dn (n:Nat):Lib.itoa (n:Int)=Lib.decDigits n:=by
 unfold Lib.itoa;rw [if_neg zo,Int.toNat_natCast]
theorem IQ (n:Nat) (h:n<1000000000) (w:World) (ht:Pow w) :
  Calls Tryz.prog 99 #[Z I n] w fun e w'=>e= ah (O ⟨(Lib.decDigits n).toArray⟩)∧Below w.heap.size w w':=by
 refine (Tryz.strconv_Itoa n zo zo w ht).mono ?_;rintro e w' ⟨rfl,k,os,rfl⟩;rw [Dn];exact ⟨rfl,below_grow _ _ _⟩
theorem yL (b:Nat) (w:World) (h0:w.cell? ⟨b,0,none⟩=some (.pointer (some ⟨b,0,none⟩))) :
  Calls Tryz.prog 182 #[aA (some ⟨b,0,none⟩)] w fun e w'=>e= ah (aD #[])∧w'=w:=by
 obtain ⟨j,hj,_⟩:=Option.map_eq_some_iff.1 IV;go_enter Tryz.func182,Tryz.ntmps182
 go_wp2
 rw [Lib.run_neq_ptr_same w _ Tryz.underlying185 hj]
 go_wp2
 go_end0
 exact ⟨rfl,rfl⟩
theorem vZ (b:Nat) (w:World) (h0:w.cell? ⟨b,0,none⟩=some (.pointer none)) (hsh:w.shape? b=some (188,2)) (hfz:w.frozen? ⟨b,0,none⟩=false) :
  Calls Tryz.prog 182 #[aA (some ⟨b,0,none⟩)] w fun e w'=>e= ah (aD #[])∧w'=w.setCell ⟨b,0,none⟩ (aA (some ⟨b,0,none⟩)):=by
 obtain ⟨j,hj,hjs⟩:=Option.map_eq_some_iff.1 IV;go_enter Tryz.func182,Tryz.ntmps182
 go_wp2
 rw [Lib.run_to_unsafe w ⟨b,0,none⟩ Tryz.underlying185 Tryz.underlying271 hj (by rw [hjs];decide) hsh (Nat.zero_lt_succ 1)];simp only [Result.andThen];rw [Oper.upon_value]
 go_wp2
 rw [run_callFunc_extern Tryz.func228 zk zk zk (e:=Extern.AbiNoEscape.same) zk];rw [Lib.run_noEscape];simp only [Result.andThen];rw [Oper.upon_value]
 go_wp2
 rw [Lib.run_from_unsafe w ⟨b,0,none⟩ Tryz.underlying271 Tryz.underlying185 hj hsh zk];simp only [Result.andThen];rw [Oper.upon_value]
 go_wp2
 go_end0
 exact ⟨rfl,rfl⟩
theorem uj (B b:Nat) (bs:List Value) (w:World) (h:KH B b bs w) :
  Calls Tryz.prog 182 #[aA (some ⟨b,0,none⟩)] w fun e w'=>e= ah (aD #[])∧(AtB B b bs w'∧Below B w w'):=by
 rcases h with h|h
 ·refine (vZ b w h.cell0 h.shape h.frozen0).mono ?_;rintro e w' ⟨rfl,rfl⟩;exact ⟨rfl,h.used _,(Below.refl B w).setCell (p:=⟨b,0,none⟩) h.1 _⟩
 ·refine (yL b w h.cell0).mono ?_;rintro e w' ⟨rfl,rfl⟩;exact ⟨rfl,h,Below.refl B _⟩
theorem AB (B b:Nat) (bs:List Value) (c:Int) (w:World) (h:KH B b bs w) (hlen:bs.length+1≤140737488355328) (hBw:B≤w.heap.size) :
  Calls Tryz.prog 140 #[aA (some ⟨b,0,none⟩),Z .u8 c] w fun e w'=>e= ah .nilIface∧(AtB B b (bs++[Z .u8 c]) w'∧Below B w w'):=by
 obtain ⟨i0,hi,hz0,hz1,hz2⟩:=info_parts infoByte;go_enter Tryz.func140,Tryz.ntmps140
 go_wp2_with (go_at_call 182;refine (uj B b bs _ h).mono ?_;rintro e w1 ⟨rfl,h1,hb1⟩;refine Hid.out ?_)
 obtain ⟨hB,v,hbk,hown,hne⟩:=h1;have c0:w1.cell? ⟨b,0,none⟩=some (.pointer (some ⟨b,0,none⟩)):=by rw [Lib.cell_of_heap hbk];rfl
 have c1:w1.cell? ⟨b,1,none⟩=some v:=by rw [Lib.cell_of_heap hbk];rfl
 refine zh ?_;go_wp2_with (at_builtin;refine wpList_append_own _ rfl _ _ 186 rfl B 5 i0 (Z .u8 0) 1 1 Tryz.underlying186 hi hz0 hz1 hz2 rfl zd _ _ _ rfl (hown.alloc _) ⟨w1.heap.size,0,none⟩ 1 1 [Z .u8 c] rfl rfl ?c1 ?c2 ?c3 ?c4 ?c5 ?_)
 case c1 =>
  intro j u hj
  match j,hj with
  | 0,hj=>simp at hj;subst hj;simp [Addr.add]
 case c2=>intro u hu;simp at hu;subst hu;rfl
 case c3=>unfold maxLen;omega
 case c4=>omega
 case c5=>have:=hb1.size;simp;omega
 intro v' w2 hown' hgrow _
 have hlt:b<w1.heap.size:=by
  rcases aO b w1.heap.size with h'|h'
  ·exact h'
  ·simp [bG h'] at hbk
 have hb2:w2.heap[b]? =some (.cells #[aA (some ⟨b,0,none⟩),v] 188 (0,0)):=by
  rw [hgrow.block b (by simp;omega) (fun e=>hne e.symm),Lib.alloc_old w1 _ b hlt];exact hbk
 have d0:w2.cell? ⟨b,0,none⟩=some (.pointer (some ⟨b,0,none⟩)):=by rw [Lib.cell_of_heap hb2];rfl
 have d1:w2.cell? ⟨b,1,none⟩=some v:=by rw [Lib.cell_of_heap hb2];rfl
 have f1:w2.frozen? ⟨b,1,none⟩=false:=Lib.frozen_of_heap hb2 1
 obtain ⟨g,cap,rfl⟩:∃ g cap,v'= aj (some ⟨g,0,none⟩) (bs.length+1) cap:=by
  rcases hown'.2 with ⟨_,h0⟩|⟨g,cap,cur,hv,_⟩
  ·omega
  ·exact ⟨g,cap,hv⟩
 go_wp2
 go_ret
 refine ⟨rfl,?_,?_⟩
 ·exact Lib.BuilderAt.put (T:=188) (e:=5) hB hb2 (bs':=bs++[Z .u8 c]) (by simpa using hown') zd
 ·exact ((hb1.alloc (by have:=hb1.size;omega) _).grown hgrow (by have:=hb1.size;simp;omega) (fun k hk=>(hown.lt k hk).1)).setCell (p:=⟨b,1,none⟩) hB _
theorem wT (B b:Nat) (bs:List Value) (s:ByteArray) (w:World) (h:KH B b bs w) (hlen:bs.length+s.size≤140737488355328) (hBw:B≤w.heap.size) :
  Calls Tryz.prog 141 #[aA (some ⟨b,0,none⟩),O s] w fun e w'=>e= ah (aD #[Z I s.size,.nilIface])∧(AtB B b (bs++Lib.strCells s) w'∧Below B w w'):=by
 obtain ⟨i0,hi,hz0,hz1,hz2⟩:=info_parts infoByte;go_enter Tryz.func141,Tryz.ntmps141
 go_wp2_with (go_at_call 182;refine (uj B b bs _ h).mono ?_;rintro e w1 ⟨rfl,h1,hb1⟩;refine Hid.out ?_)
 obtain ⟨hB,v,hbk,hown,hne⟩:=h1;have c0:w1.cell? ⟨b,0,none⟩=some (.pointer (some ⟨b,0,none⟩)):=by rw [Lib.cell_of_heap hbk];rfl
 have c1:w1.cell? ⟨b,1,none⟩=some v:=by rw [Lib.cell_of_heap hbk];rfl
 refine zh ?_;go_wp2_with (at_builtin;refine Lib.wpList_append_own_string _ rfl _ _ 186 9 rfl B 5 i0 Tryz.underlying186 Tryz.underlying9 hi hz0 hz1 hz2 _ _ _ rfl hown s rfl ?c3 ?c4 ?c5 ?_)
 case c3=>unfold maxLen;omega
 case c4=>omega
 case c5=>have:=hb1.size;omega
 intro v' w2 hown' hgrow _
 have hlt:b<w1.heap.size:=by
  rcases aO b w1.heap.size with h'|h'
  ·exact h'
  ·simp [bG h'] at hbk
 have hb2:w2.heap[b]? =some (.cells #[aA (some ⟨b,0,none⟩),v] 188 (0,0)):=by
  rw [hgrow.block b hlt (fun e=>hne e.symm)];exact hbk
 have d0:w2.cell? ⟨b,0,none⟩=some (.pointer (some ⟨b,0,none⟩)):=by rw [Lib.cell_of_heap hb2];rfl
 have d1:w2.cell? ⟨b,1,none⟩=some v:=by rw [Lib.cell_of_heap hb2];rfl
 have f1:w2.frozen? ⟨b,1,none⟩=false:=Lib.frozen_of_heap hb2 1
 obtain ⟨ao,n',cap,rfl⟩:∃ ao n' cap,v'= aj ao n' cap:=by
  rcases hown'.2 with ⟨hv,_⟩|⟨g,cap,cur,hv,_⟩
  ·exact ⟨_,_,_,hv⟩
  ·exact ⟨_,_,_,hv⟩
 go_wp2
 go_ret2
 refine ⟨rfl,?_,?_⟩
 ·exact Lib.BuilderAt.put (T:=188) (e:=5) hB hb2 (bs':=bs++Lib.strCells s) (by simpa [Lib.strCells_length] using hown') zd
 ·exact (hb1.grown hgrow (by have:=hb1.size;omega) (fun k hk=>(hown.lt k hk).1)).setCell (p:=⟨b,1,none⟩) hB _
end Go.Proofs.gJ
namespace Go.Mem
open Go Go.RowKit Go.SW Go.Num Go.Dec
def Aa (w:World) (b:Nat) (T:TypeId):Prop:=∃ cs,aC w b cs T
theorem aC.isT {w:World} {b:Nat} {cs:Array Value} {T:TypeId} (h:aC w b cs T):Aa w b T:=⟨cs,h⟩
theorem Aa.setCell {w:World} {b:Nat} {T:TypeId} {a:Addr} {u:Value} (h:Aa w b T):Aa (w.setCell a u) b T:=by
 obtain ⟨cs,h⟩:=h;obtain ⟨c,o,sp⟩:=a
 by_cases hb:b=c
 ·subst hb;have hl:=h.lt;unfold aC at h;have e:w.heap[b]= .cells cs T (0,0):=by simpa [hl] using h
  cases sp with
  | none =>
   refine ⟨cs.setIfInBounds o u,?_⟩;unfold aC;simp [World.setCell,hl,Array.getElem_modify,e]
  | some s =>
   refine ⟨cs,?_⟩;unfold aC;simp [World.setCell,hl,Array.getElem_modify,e]
 ·exact ⟨cs,h.setOther u hb⟩
theorem Aa.later {w w':World} {b:Nat} {T:TypeId} (h:Aa w b T) (hb:Below w.heap.size w w'):Aa w' b T:=by
 obtain ⟨cs,h⟩:=h;exact ⟨cs,h.later hb⟩
theorem Aa.alloc {w:World} {b:Nat} {T:TypeId} {o:Obj} (h:Aa w b T):Aa (w.alloc o) b T:=h.later ((Below.refl _ _).alloc (aI _) _)
theorem Aa.drew {w:World} {b:Nat} {T:TypeId} (h:Aa w b T):Aa w.drew b T:=h.later (Below.drew (Below.refl _ _))
theorem Aa.new (w:World) (cs:Array Value) (T:TypeId):Aa (w.alloc (.cells cs T (0,0))) w.heap.size T:=⟨cs,aC.new _ _ _⟩
theorem bC.aa3 {w:World} {v:Value} {n:Nat} {b o:Nat} {T':TypeId} {u:Value} (h:bC w v n) (hx:Aa w b T') (hT:133≠T'):bC (w.setCell ⟨b,o,none⟩ u) v n:=by
 obtain ⟨cs,hx⟩:=hx;exact h.setOther hx hT o u
theorem PN {z y:Int} {b:Bool} (h:decide (z<0)=b) (k:decide (y<0)=b):iM (z.natAbs+y.natAbs) b=z+y:=by
 unfold iM;cases b
 ·simp at h k ⊢;omega
 ·simp at h k ⊢;omega
theorem Ig {z y:Int} {b:Bool} (h:decide (z<0)=b) (k:decide (y<0)= !b):iM (z.natAbs - y.natAbs) b=if y.natAbs≤z.natAbs then z+y else iM (z.natAbs - y.natAbs) b:=by
 split
 ·unfold iM;cases b
  ·simp at h k ⊢;omega
  ·simp at h k ⊢;omega
 ·rfl
theorem xE (z y:Int):iM (z.natAbs*y.natAbs) (decide (z<0) != decide (y<0))=z*y:=by
 unfold iM
 by_cases h:z<0<;>by_cases k:y<0
 ·simp only [h,k,decide_true,decide_false,bne_self_eq_false,Bool.true_bne,Bool.false_bne,Bool.not_false,Bool.not_true,if_true,if_false];obtain ⟨a,rfl⟩:∃ a:Nat,z= -(a:Int):=⟨z.natAbs,by omega⟩;obtain ⟨b,rfl⟩:∃ b:Nat,y= -(b:Int):=⟨y.natAbs,by omega⟩;simp
  try grind
 ·simp only [h,k,decide_true,decide_false,bne_self_eq_false,Bool.true_bne,Bool.false_bne,Bool.not_false,Bool.not_true,if_true,if_false];obtain ⟨a,rfl⟩:∃ a:Nat,z= -(a:Int):=⟨z.natAbs,by omega⟩;obtain ⟨b,rfl⟩:∃ b:Nat,y=(b:Int):=⟨y.natAbs,by omega⟩;simp
  try grind
 ·simp only [h,k,decide_true,decide_false,bne_self_eq_false,Bool.true_bne,Bool.false_bne,Bool.not_false,Bool.not_true,if_true,if_false];obtain ⟨a,rfl⟩:∃ a:Nat,z=(a:Int):=⟨z.natAbs,by omega⟩;obtain ⟨b,rfl⟩:∃ b:Nat,y= -(b:Int):=⟨y.natAbs,by omega⟩;simp
  try grind
 ·simp only [h,k,decide_true,decide_false,bne_self_eq_false,Bool.true_bne,Bool.false_bne,Bool.not_false,Bool.not_true,if_true,if_false];obtain ⟨a,rfl⟩:∃ a:Nat,z=(a:Int):=⟨z.natAbs,by omega⟩;obtain ⟨b,rfl⟩:∃ b:Nat,y=(b:Int):=⟨y.natAbs,by omega⟩;simp
theorem Cy {z y:Int} (h:y ∣ z):iM (z.natAbs / y.natAbs) (decide (z<0) != decide (y<0))=z / y:=by
 obtain ⟨c,rfl⟩:=h
 rcases Int.lt_trichotomy y 0 with hy|hy|hy
 ·rw [Int.natAbs_mul,Nat.mul_div_cancel_left _ zo,Int.mul_ediv_cancel_left _ zo];unfold iM
  rcases Int.lt_trichotomy c 0 with hc|hc|hc
  ·have:¬ y*c<0:=by have:=Int.mul_pos_of_neg_of_neg hy hc;omega
   simp [this,hy];omega
  ·subst hc;simp
  ·have:y*c<0:=Int.mul_neg_of_neg_of_pos hy hc;simp [this,hy];omega
 ·subst hy;simp [iM]
 ·rw [Int.natAbs_mul,Nat.mul_div_cancel_left _ zo,Int.mul_ediv_cancel_left _ zo];unfold iM;have hy2:¬ y<0:=by omega
  rcases Int.lt_trichotomy c 0 with hc|hc|hc
  ·have:y*c<0:=Int.mul_neg_of_pos_of_neg hy hc;simp [this,hy2];omega
  ·subst hc;simp
  ·have:¬ y*c<0:=by have:=Int.mul_pos hy hc;omega
   simp [this,hy2];omega
theorem aR {w:World} {v:Value} {n:Nat} (h:bC w v n:=by repeat (first|(with_reducible exact Hid.out (by with_reducible assumption))|((with_reducible apply bC.aa3);rotate_left;(focus (repeat (first|(with_reducible exact aC.isT (by with_reducible assumption))|(with_reducible apply Aa.setCell)|(with_reducible exact Aa.new _ _ _)|(with_reducible apply Aa.alloc)|(with_reducible apply Aa.drew)|((with_reducible refine Aa.later (w:=?_) ?_ ?_);rotate_right;with_reducible assumption))));(focus decide))|(with_reducible apply bC.alloc)|(with_reducible apply bC.drew)|((with_reducible refine bC.later (w:=?_) ?_ ?_);rotate_right;with_reducible assumption))):bC w v n:=h
end Go.Mem
namespace Go.gW
open Go Go.Num Go.Dec Lib
theorem Au (p q:Rat):let g:=p.den.gcd q.den
  let top:=p.num*((q.den / g:Nat):Int)+q.num*((p.den / g:Nat):Int)
  let h:=top.natAbs.gcd g
  (p+q).num=top / h∧(p+q).den=p.den / g*(q.den / h):=by
 intro g top h;have e:p+q=Rat.add p q:=rfl;rw [e];unfold Rat.add;simp only;have hgd:g ∣ q.den:=Nat.gcd_dvd_right _ _;have hhg:h ∣ g:=Nat.gcd_dvd_right _ _;have hh:(p.den / g*q.den) / h=p.den / g*(q.den / h):=Nat.mul_div_assoc _ (Nat.dvd_trans hhg hgd);split
 ·rename_i hg;have hg':g=1:=hg;have h1:h=1:=Nat.dvd_one.1 (hg' ▸ hhg);simp only [hg',h1,Nat.div_one,top,Int.natCast_one,Int.ediv_one,and_self]
 ·rw [Rat.maybeNormalize_eq];simp only;exact ⟨rfl,hh⟩
theorem Aj (p q:Rat):let g:=p.num.natAbs.gcd q.den
  let h:=q.num.natAbs.gcd p.den
  (p*q).num=(p.num / g)*(q.num / h)∧(p*q).den=(p.den / h)*(q.den / g):=by
 intro g h;have e:p*q=Rat.mul p q:=rfl;rw [e];unfold Rat.mul;simp only [Int.divExact_eq_ediv,Nat.divExact_eq_div];exact ⟨rfl,rfl⟩
structure Fr where
 n:ByteArray
 d:ByteArray
deriving DecidableEq
def Fr.v (a:Fr):Value:=au #[O a.n,O a.d]
def Fr.of (q:Rat):Fr:=⟨⟨(Lib.itoa q.num).toArray⟩,⟨(Lib.itoa q.den).toArray⟩⟩
def Fr.no:Fr:=⟨⟨#[]⟩,⟨#[]⟩⟩
def jN (k:Nat):Nat:=10^k
def kg (n:Nat):Bool:=decide (n<jN 600)
def zF (q:Rat):Bool:=kg q.num.natAbs&&kg q.den
theorem Jq {n k:Nat} (hk:0<k):n<jN k↔(decDigits n).length≤k :=
 ⟨fun h=>jh k n hk h,fun h=>aL (yK n) (bE zo h)⟩
theorem dZ {n:Nat}:kg n=true↔(decDigits n).length≤600:=by
 unfold kg;rw [decide_eq_true_iff];exact Jq zo
def rd (a:Fr):Option Rat :=
 match whole a.n.data.toList,whole a.d.data.toList with
 | some n,some d=>if h:0<d∧n.natAbs.Coprime d.natAbs then some ⟨n,d.natAbs,by omega,h.2⟩ else none
 | _,_=>none
theorem BA {a b:ByteArray} (h:a.data.toList=b.data.toList):a=b:=by
 cases a;cases b
 simp only [ByteArray.mk.injEq];exact Array.toList_inj.1 h
theorem xM {q:Rat} (h:zF q=true):rd (Fr.of q)=some q:=by
 unfold zF at h;rw [aF,dZ,dZ] at h;have e1:whole (Fr.of q).n.data.toList=some q.num:=eF h.1;have h2:(decDigits ((q.den:Nat):Int).natAbs).length≤600:=(Int.natAbs_natCast q.den).symm ▸ h.2;have e2:whole (Fr.of q).d.data.toList=some ((q.den:Nat):Int):=eF (z:=((q.den:Nat):Int)) h2;unfold rd;rw [e1,e2];have hd:=q.den_pos;simp only [Int.natAbs_natCast];rw [dif_pos ⟨by omega,q.reduced⟩]
theorem nI {a:Fr} {q:Rat} (h:rd a=some q):a=Fr.of q∧zF q=true:=by
 unfold rd at h;split at h
 ·rename_i n d e1 e2;split at h
  ·rename_i hk;simp only [Option.some.injEq] at h;subst h;obtain ⟨h1,h2⟩:=mK e1;obtain ⟨h3,h4⟩:=mK e2;refine ⟨?_,?_⟩
   ·cases a
    unfold Fr.of;simp only [Fr.mk.injEq] at *;refine ⟨BA h1,BA ?_⟩;rw [h3,show ((d.natAbs:Nat):Int)=d by omega]
   ·unfold zF;rw [aF,dZ,dZ];exact ⟨h2,h4⟩
  ·cases h
 ·cases h
theorem JX {q:Rat} (h:q≠0):q⁻¹.num=Mem.iM q.den (decide (q.num<0))∧q⁻¹.den=q.num.natAbs:=by
 have hn:q.num≠0:=fun e=>h (Rat.num_eq_zero.1 e);rw [Rat.num_inv,Rat.den_inv,if_neg hn];refine ⟨?_,rfl⟩;unfold Mem.iM
 rcases Int.lt_trichotomy q.num 0 with h1|h1|h1
 ·rw [Int.sign_eq_neg_one_of_neg h1];simp [h1]
 ·exact absurd h1 hn
 ·rw [Int.sign_eq_one_of_pos h1];have:¬ q.num<0:=by omega
  simp [this]
theorem xG {n:Int} {g:Nat} (h:g ∣ n.natAbs):Mem.iM (n.natAbs / g) (decide (n<0))=n / (g:Int):=by
 have h2:((g:Nat):Int) ∣ n:=by rwa [← Int.dvd_natAbs,Int.ofNat_dvd]
 have:=Mem.Cy h2;rw [Int.natAbs_natCast,decide_eq_false (show ¬ ((g:Nat):Int)<0 by omega),Bool.bne_false] at this;exact this
theorem GJ (p q:Rat):(p+q).num=Mem.iM ((p.num*((q.den / p.den.gcd q.den:Nat):Int)+q.num*((p.den / p.den.gcd q.den:Nat):Int)).natAbs / (p.num*((q.den / p.den.gcd q.den:Nat):Int)+q.num*((p.den / p.den.gcd q.den:Nat):Int)).natAbs.gcd (p.den.gcd q.den)) (decide ((p.num*((q.den / p.den.gcd q.den:Nat):Int)+q.num*((p.den / p.den.gcd q.den:Nat):Int))<0))∧(p+q).den=p.den / p.den.gcd q.den*(q.den / (p.num*((q.den / p.den.gcd q.den:Nat):Int)+q.num*((p.den / p.den.gcd q.den:Nat):Int)).natAbs.gcd (p.den.gcd q.den)):=by
 obtain ⟨h1,h2⟩:=Au p q;refine ⟨?_,h2⟩;rw [h1];exact (xG (Nat.gcd_dvd_left _ _)).symm
theorem Ga (p q:Rat):(p*q).num=Mem.iM (p.num.natAbs / p.num.natAbs.gcd q.den*(q.num.natAbs / q.num.natAbs.gcd p.den)) (decide (p.num<0) != decide (q.num<0))∧(p*q).den=p.den / q.num.natAbs.gcd p.den*(q.den / p.num.natAbs.gcd q.den):=by
 obtain ⟨h1,h2⟩:=Aj p q;refine ⟨?_,h2⟩;rw [h1];have d1:((p.num.natAbs.gcd q.den:Nat):Int) ∣ p.num:=by rw [← Int.dvd_natAbs,Int.ofNat_dvd];exact Nat.gcd_dvd_left _ _
 have d2:((q.num.natAbs.gcd p.den:Nat):Int) ∣ q.num:=by rw [← Int.dvd_natAbs,Int.ofNat_dvd];exact Nat.gcd_dvd_left _ _
 have hg:0<p.num.natAbs.gcd q.den:=Nat.gcd_pos_of_pos_right _ q.den_pos;have hh:0<q.num.natAbs.gcd p.den:=Nat.gcd_pos_of_pos_right _ p.den_pos
 have key:∀ (z:Int) (g:Nat),0<g→((g:Nat):Int) ∣ z→(z / (g:Int)).natAbs=z.natAbs / g∧(z≠0→decide (z / (g:Int)<0)=decide (z<0)):=fun z g hg hd=>by
  obtain ⟨c,rfl⟩:=hd;rw [Int.mul_ediv_cancel_left _ zo,Int.natAbs_mul,Int.natAbs_natCast,Nat.mul_div_cancel_left _ hg];refine ⟨rfl,fun _=>?_⟩;rw [gN,decide_eq_true_iff,decide_eq_true_iff]
  constructor
  ·exact fun h=>Int.mul_neg_of_pos_of_neg zo h
  ·intro h
   rcases Int.lt_trichotomy c 0 with h1|h1|h1
   ·exact h1
   ·subst h1;simp at h
   ·have:=Int.mul_pos (show (0:Int)<(g:Int) by omega) h1;omega
 obtain ⟨a1,a2⟩:=key p.num _ hg d1;obtain ⟨b1,b2⟩:=key q.num _ hh d2;rw [← Mem.xE (p.num / ((p.num.natAbs.gcd q.den:Nat):Int)),a1,b1]
 by_cases hp:p.num=0
 ·simp [hp,Mem.iM]
 ·by_cases hq:q.num=0
  ·simp [hq,Mem.iM]
  ·rw [a2 hp,b2 hq]
theorem F9 (p q:Rat):(p*q).num=Mem.iM (p.num.natAbs / p.num.natAbs.gcd q.den*(q.num.natAbs / q.num.natAbs.gcd p.den)) (!(decide (p.num<0) == decide (q.num<0)))∧(p*q).den=p.den / q.num.natAbs.gcd p.den*(q.den / p.num.natAbs.gcd q.den):=Ga p q
theorem qo (n:Int) {d:Nat} (hd:0<d):(mkRat n d).num=Mem.iM (n.natAbs / n.natAbs.gcd d) (decide (n<0))∧(mkRat n d).den=d / n.natAbs.gcd d:=by
 rw [Rat.num_mkRat,Rat.den_mkRat,if_neg zo,if_neg zo,Nat.gcd_comm d];exact ⟨(xG (Nat.gcd_dvd_left _ _)).symm,rfl⟩
theorem FZ {n:Nat} (h:600<(decDigits n).length):kg n=false:=by
 cases hk:kg n with
 | false=>rfl
 | true=>have:=dZ.1 hk;omega
def wr (q:Rat):Fr × Int:=if zF q then (Fr.of q,0) else (Fr.no,6)
def Fr.res (x:Fr × Int):Value:=aD #[x.1.v,Z I x.2]
theorem Lv {q:Rat} (h:zF q=false):Fr.res (wr q)= aD #[au #[O ⟨#[]⟩,O ⟨#[]⟩],Z I 6]:=by unfold wr;rw [if_neg (by simp [h])];rfl
theorem Xv {q:Rat} (h:zF q=true):Fr.res (wr q)= aD #[au #[Mem.dA q.num,Mem.dA q.den],Z I 0]:=by unfold wr;rw [if_pos h];rfl
def oo (p q:Rat):Int:=if p<q then -1 else if q<p then 1 else 0
def rR (z:Int):Int:=if z=0 then 0 else if z<0 then -1 else 1
theorem Cx (p q:Rat):rR (p.num*(q.den:Int)+ -(q.num*(p.den:Int)))=oo p q:=by
 unfold rR oo
 by_cases h1:p<q
 ·rw [if_pos h1];have:=(Rat.lt_iff p q).1 h1;rw [if_neg zo,if_pos zo]
 ·rw [if_neg h1];rw [Rat.lt_iff] at h1
  by_cases h2:q<p
  ·rw [if_pos h2];have:=(Rat.lt_iff q p).1 h2;rw [if_neg zo,if_neg zo]
  ·rw [if_neg h2];rw [Rat.lt_iff] at h2;rw [if_pos zo]
theorem JA (q:Rat):rR q.num=oo q 0:=by
 have:=Cx q 0
 simpa using this
def eG (w:World) (v:Value) (q:Rat):Prop:=∃ pa l ca pb m cb,v= au #[aj pa l ca,ay (decide (q.num<0)),aj pb m cb]∧Mem.bC w (aj pa l ca) q.num.natAbs∧Mem.bC w (aj pb m cb) q.den
open RowKit Mem in
theorem eG.later {w w':World} {v:Value} {q:Rat} (h:eG w v q) (hb:Below w.heap.size w w'):eG w' v q:=by
 obtain ⟨pa,l,ca,pb,m,cb,h1,h2,h3⟩:=h;exact ⟨pa,l,ca,pb,m,cb,h1,h2.later hb,h3.later hb⟩
open Mem in
theorem eG.mk (n d:Nat) {w:World} {pa pb:Option Addr} {l ca m cb:Nat} {b:Bool} {q:Rat} (h:bC w (aj pa l ca) n) (k:bC w (aj pb m cb) d) (hn:n=q.num.natAbs) (hd:d=q.den) (hb:b=decide (q.num<0)):eG w (au #[aj pa l ca,ay b,aj pb m cb]) q:=by
 subst hn hd hb;exact ⟨pa,l,ca,pb,m,cb,rfl,h,k⟩
open RowKit Mem in
theorem _root_.Go.Mem.bC.carry {w0 w w':World} {v:Value} {n:Nat} (_:bC w0 v n) (k:bC w v n) (hb:Below w.heap.size w w'):bC w' v n:=k.later hb
theorem eG.of {w:World} {pa pb:Option Addr} {l ca m cb:Nat} {q:Rat} (h:Mem.bC w (aj pa l ca) q.num.natAbs) (k:Mem.bC w (aj pb m cb) q.den):eG w (au #[aj pa l ca,ay (decide (q.num<0)),aj pb m cb]) q:=⟨pa,l,ca,pb,m,cb,rfl,h,k⟩
def qc (k:Nat) (q:Rat):Prop:=sz 1000000000 q.num.natAbs≤k∧sz 1000000000 q.den≤k
theorem UO:jN 600≤1000000000^67:=by decide+kernel
theorem jB {n:Nat} (h:kg n=true):sz 1000000000 n≤67:=by
 unfold kg at h;rw [decide_eq_true_iff] at h;exact bY zo 67 n (aL h UO)
theorem kG {q:Rat} (h:zF q=true):qc 67 q:=by
 unfold zF at h;rw [aF] at h;exact ⟨jB h.1,jB h.2⟩
theorem qc.mono {k m:Nat} {q:Rat} (h:qc k q) (hk:k≤m):qc m q:=⟨aB h.1 hk,aB h.2 hk⟩
theorem jf {a b:Nat}:sz 1000000000 (a / b)≤sz 1000000000 a:=gZ zo (Nat.div_le_self a b)
theorem AV {a b:Nat} (hb:0<b):sz 1000000000 (a.gcd b)≤sz 1000000000 b:=gZ zo (Nat.le_of_dvd hb (Nat.gcd_dvd_right _ _))
theorem mD (z:Int) (n:Nat):sz 1000000000 (z*n).natAbs≤sz 1000000000 z.natAbs+sz 1000000000 n:=by
 rw [Int.natAbs_mul,Int.natAbs_natCast];exact kC zo _ _
theorem Fy (z y:Int):sz 1000000000 (z*y).natAbs≤sz 1000000000 z.natAbs+sz 1000000000 y.natAbs:=by
 rw [Int.natAbs_mul];exact kC zo _ _
theorem Ad (z y:Int):sz 1000000000 (z+y).natAbs≤max (sz 1000000000 z.natAbs) (sz 1000000000 y.natAbs)+1 :=
 aB (gZ zo (Int.natAbs_add_le z y)) (uK zo _ _)
theorem Ic {k:Nat} {p q:Rat} (h:qc k p) (i:qc k q):qc (2*k+1) (p+q):=by
 obtain ⟨h1,h2⟩:=Au p q;have hp:=p.den_pos;have hq:=q.den_pos;have a1:=mD p.num (q.den / p.den.gcd q.den);have a2:=mD q.num (p.den / p.den.gcd q.den);have a3:=Ad (p.num*((q.den / p.den.gcd q.den:Nat):Int)) (q.num*((p.den / p.den.gcd q.den:Nat):Int));have b1:= @jf q.den (p.den.gcd q.den);have b2:= @jf p.den (p.den.gcd q.den);obtain ⟨i1,i2⟩:=i;obtain ⟨j1,j2⟩:=h
 constructor
 ·rw [h1,Int.natAbs_ediv_of_dvd (by rw [← Int.dvd_natAbs,Int.ofNat_dvd];exact Nat.gcd_dvd_left _ _),Int.natAbs_natCast];refine aB jf ?_;omega
 ·rw [h2];refine aB (kC zo _ _) ?_;have b3:= @jf q.den ((p.num*((q.den / p.den.gcd q.den:Nat):Int)+q.num*((p.den / p.den.gcd q.den:Nat):Int)).natAbs.gcd (p.den.gcd q.den));omega
theorem Ib {k:Nat} {p q:Rat} (h:qc k p) (i:qc k q):qc (2*k) (p*q):=by
 obtain ⟨h1,h2⟩:=Aj p q;obtain ⟨i1,i2⟩:=i;obtain ⟨j1,j2⟩:=h
 constructor
 ·rw [h1];refine aB (Fy _ _) ?_;rw [Int.natAbs_ediv_of_dvd (by rw [← Int.dvd_natAbs,Int.ofNat_dvd];exact Nat.gcd_dvd_left _ _),Int.natAbs_ediv_of_dvd (by rw [← Int.dvd_natAbs,Int.ofNat_dvd];exact Nat.gcd_dvd_left _ _),Int.natAbs_natCast,Int.natAbs_natCast];have:= @jf p.num.natAbs (p.num.natAbs.gcd q.den);have:= @jf q.num.natAbs (q.num.natAbs.gcd p.den);omega
 ·rw [h2];refine aB (kC zo _ _) ?_;have:= @jf p.den (q.num.natAbs.gcd p.den);have:= @jf q.den (p.num.natAbs.gcd q.den);omega
theorem Ia {k:Nat} {q:Rat} (h:qc k q):qc k (-q):=by
 unfold qc at *;rw [Rat.neg_num,Rat.neg_den,Int.natAbs_neg];exact h
theorem PD {k:Nat} {q:Rat} (h:qc k q) (h0:q≠0):qc k q⁻¹:=by
 have hn:q.num≠0:=fun e=>h0 (Rat.num_eq_zero.1 e);unfold qc at *;rw [Rat.num_inv,Rat.den_inv,if_neg hn,Int.natAbs_mul,Int.natAbs_natCast,Int.natAbs_sign_of_ne_zero hn,fP];exact ⟨h.2,h.1⟩
end Go.gW
