/- Lemmas for the proof. No condition. -/
import Derived.Test.YtneajphgfdlmhaaGreatDoorRB01
import Derived.Test.YtneajphgfdlmhaaGreatDoorProg
import Derived.Shelf.Strings.Builder1
import Derived.Shelf.LaysM
import Derived.Shelf.Strconv.Itoa3
import Derived.Shelf.Strconv.Clone
import Derived.Shelf.Strconv.SyntaxError
import Derived.Shelf.LaysC
import Derived.Shelf.Strconv.ToError
import Derived.Shelf.Strconv.Lower
import Derived.Shelf.Strconv.RangeError
import Derived.Shelf.Strconv.ToErrorRange
import Derived.Shelf.Bits.Mul64
import Derived.Shelf.Strings.Repeat
import Derived.Lib.AppendStr
import Derived.Lib.Builder
import Derived.Lib.AppendIntMem
import Derived.Shelf.Small.Bits
import Derived.Shelf.Strconv.Itoa0
import Derived.Shelf.Strconv.ParseUint10
import Derived.Shelf.Strconv.ParseUint10Any
import Derived.Shelf.Strconv.ParseInt10
import Derived.Shelf.Strconv.ParseUint10b64
import Derived.Shelf.Strconv.ParseUint10At
import Derived.Shelf.Strconv.ParseInt10At64
import Derived.Shelf.Strconv.ParseInt10All
import Derived.Shelf.Strconv.ParseIntPublic10
set_option linter.unusedVariables false
set_option linter.unusedSimpArgs false
set_option maxRecDepth 100000
set_option maxHeartbeats 16000000
namespace Go.Mem
open Go Go.RowKit Go.SW Go.Num Go.Dec
theorem ah.Ng {w:World} {b:Nat} {cs:Array Value} {T:TypeId} (h:b=w.heap.size):ah (w.alloc (.cells cs T (0,0))) b cs T:=h ▸ ah.new w cs T
theorem ah.qN (w:World) (o:Obj) (cs:Array Value) (T:TypeId):ah ((w.alloc o).alloc (.cells cs T (0,0))) (w.heap.size+1) cs T:=ah.Ng zi
theorem ah.at2 (w:World) (o o2:Obj) (cs:Array Value) (T:TypeId):ah (((w.alloc o).alloc o2).alloc (.cells cs T (0,0))) (w.heap.size+1+1) cs T:=ah.Ng zi
theorem ah.at3 (w:World) (o o2 o3:Obj) (cs:Array Value) (T:TypeId):ah ((((w.alloc o).alloc o2).alloc o3).alloc (.cells cs T (0,0))) (w.heap.size+1+1+1) cs T:=ah.Ng zi
theorem aT.alloc {w:World} {v:Value} {n:Nat} (h:aT w v n) (o:Obj):aT (w.alloc o) v n:=h.later ((Below.refl _ _).alloc (Nat.le_refl _) _)
theorem aT.drew {w:World} {v:Value} {n:Nat} (h:aT w v n):aT w.drew v n:=h.later (Below.drew (Below.refl _ _))
theorem dA {w W:World} (h:Below w.heap.size w W) (o:Obj):Below w.heap.size w (W.alloc o):=h.alloc h.size o
theorem au {B:Nat} {w w':World} (h:Below B w w':=by repeat (first|(with_reducible exact Below.refl _ _)|(with_reducible assumption)|(with_reducible refine dA ?_ _)|((with_reducible refine Below.setCell ?_ ?_ _);rotate_left;focus (first|(simp;done)|(simp;omega)|assumption|(simp only [];omega)))|(with_reducible refine Below.drew ?_)|((with_reducible refine Bt (w1:=?_) ?_ ?_);rotate_right;with_reducible assumption))):Below B w w':=h
theorem aH {w:World} {b:Nat} {cs:Array Value} {T:TypeId} (h:ah w b cs T:=by repeat (first|(with_reducible assumption)|(with_reducible apply ah.set)|(with_reducible exact ah.new _ _ _)|(with_reducible exact ah.qN _ _ _ _)|(with_reducible exact ah.at2 _ _ _ _ _)|(with_reducible apply ah.alloc)|(with_reducible apply ah.drew)|((with_reducible refine ah.later (w:=?_) ?_ ?_);rotate_right;with_reducible assumption)|((with_reducible apply ah.setOther);(case hne=>(first|assumption|(simp;done)|(simp;omega)))))):ah w b cs T:=h
theorem pJ (w:World) (c0:Array Value) (T0:TypeId):∃ y,w.alloc (.cells c0 T0 (0,0))=y∧Below w.heap.size w y∧Hid (ah y (w.heap.size) c0 T0):=⟨_,rfl,dA (Below.refl _ _) _,zh (ah.new _ _ _)⟩
theorem uH (w:World) (c0:Array Value) (T0:TypeId) (c1:Array Value) (T1:TypeId):∃ y,(w.alloc (.cells c0 T0 (0,0))).alloc (.cells c1 T1 (0,0))=y∧Below w.heap.size w y∧Hid (ah y (w.heap.size) c0 T0)∧Hid (ah y (w.heap.size+1) c1 T1):=⟨_,rfl,dA (dA (Below.refl _ _) _) _,zh (ah.alloc (ah.new _ _ _) _),zh (ah.qN _ _ _ _)⟩
theorem Jy (w:World) (c0:Array Value) (T0:TypeId) (c1:Array Value) (T1:TypeId) (c2:Array Value) (T2:TypeId):∃ y,((w.alloc (.cells c0 T0 (0,0))).alloc (.cells c1 T1 (0,0))).alloc (.cells c2 T2 (0,0))=y∧Below w.heap.size w y∧Hid (ah y (w.heap.size) c0 T0)∧Hid (ah y (w.heap.size+1) c1 T1)∧Hid (ah y (w.heap.size+1+1) c2 T2):=⟨_,rfl,dA (dA (dA (Below.refl _ _) _) _) _,zh (ah.alloc (ah.alloc (ah.new _ _ _) _) _),zh (ah.alloc (ah.qN _ _ _ _) _),zh (ah.at2 _ _ _ _ _)⟩
theorem al4 (w:World) (c0:Array Value) (T0:TypeId) (c1:Array Value) (T1:TypeId) (c2:Array Value) (T2:TypeId) (c3:Array Value) (T3:TypeId):∃ y,(((w.alloc (.cells c0 T0 (0,0))).alloc (.cells c1 T1 (0,0))).alloc (.cells c2 T2 (0,0))).alloc (.cells c3 T3 (0,0))=y∧Below w.heap.size w y∧Hid (ah y (w.heap.size) c0 T0)∧Hid (ah y (w.heap.size+1) c1 T1)∧Hid (ah y (w.heap.size+1+1) c2 T2)∧Hid (ah y (w.heap.size+1+1+1) c3 T3):=⟨_,rfl,dA (dA (dA (dA (Below.refl _ _) _) _) _) _,zh (ah.alloc (ah.alloc (ah.alloc (ah.new _ _ _) _) _) _),zh (ah.alloc (ah.alloc (ah.qN _ _ _ _) _) _),zh (ah.alloc (ah.at2 _ _ _ _ _) _),zh (ah.at3 _ _ _ _ _ _)⟩
theorem _root_.Go.RowKit.Hid.bl {w w':World} {b:Nat} {cs:Array Value} {T:TypeId} (h:Hid (ah w b cs T)) (hb:Below w.heap.size w w'):Hid (ah w' b cs T):=zh (h.out.later hb)
theorem _root_.Go.RowKit.Hid.cl {w:World} {b:Nat} {cs:Array Value} {T:TypeId} (h:Hid (ah w b cs T)):(∀ o,w.cell? ⟨b,o,none⟩=cs[o]?)∧b<w.heap.size:=⟨h.out.cell,h.out.lt⟩
theorem _root_.Go.RowKit.Hid.clf {w:World} {b:Nat} {cs:Array Value} {T:TypeId} (h:Hid (ah w b cs T)):(∀ o,w.cell? ⟨b,o,none⟩=cs[o]?)∧b<w.heap.size∧∀ o,w.frozen? ⟨b,o,none⟩=false:=⟨h.out.cell,h.out.lt,h.out.free⟩
theorem aT.slice {w:World} {v:Value} {n:Nat} (h:aT w v n):∃ pa l ca,v= .slice pa l ca:=by
 obtain ⟨a,cap,h1, -⟩:=h;exact ⟨_,_,_,h1⟩
def gN (w:World) (v:Value) (z:Int):Prop:=∃ pa l ca,v= .agg #[.slice pa l ca,.bool (decide (z<0))]∧aT w (.slice pa l ca) z.natAbs
theorem gN.later {w w':World} {v:Value} {z:Int} (h:gN w v z) (hb:Below w.heap.size w w'):gN w' v z:=by
 obtain ⟨pa,l,ca,h1,h2⟩:=h;exact ⟨pa,l,ca,h1,h2.later hb⟩
theorem gN.mk {w:World} {m:Value} {z:Int} {b:Bool} {n:Nat} (h:aT w m n) (hn:n=z.natAbs) (hb:b=decide (z<0)):gN w (.agg #[m,.bool b]) z:=by
 obtain ⟨pa,l,ca,rfl⟩:=h.slice;exact ⟨pa,l,ca,by rw [hb],hn ▸ h⟩
def dP (z:Int):Value:=.string ⟨(Lib.itoa z).toArray⟩
def kM (n:Nat) (b:Bool):Int:=if b then -(n:Int) else n
theorem nu (n:Nat) (b:Bool):(kM n b).natAbs=n:=by unfold kM;split<;>omega
theorem Vh (n:Nat) (b:Bool):(b&& !decide (n=0))=decide (kM n b<0):=by
 unfold kM;cases b
 ·simp
 ·simp only [Bool.true_and,if_true];rw [Bool.eq_iff_iff];simp
  omega
theorem gN.iL {w:World} {pa:Option Addr} {l ca:Nat} {z:Int} (h:aT w (.slice pa l ca) z.natAbs):gN w (.agg #[.slice pa l ca,.bool (decide (z<0))]) z:=⟨pa,l,ca,rfl,h⟩
theorem gN.cast {w:World} {v:Value} {y z:Int} (h:gN w v y) (e:y=z):gN w v z:=e ▸ h
theorem Vg (z:Int):kM z.natAbs (!decide (z<0))= -z:=by
 unfold kM
 by_cases h:z<0
 ·simp [h];omega
 ·simp [h];omega
theorem ak4 (z:Int) (n:Nat):kM (z.natAbs*n) (decide (z<0))=z*n:=by
 unfold kM
 by_cases h:z<0
 ·simp only [h,decide_true,if_true];have:z= -(z.natAbs:Int):=by omega
  rw [this,Int.natAbs_neg,Int.natAbs_natCast,Int.natCast_mul,Int.neg_mul]
 ·simp only [h,decide_false];have:z=(z.natAbs:Int):=by omega
  rw [this,Int.natAbs_natCast,Int.natCast_mul];rfl
end Go.Mem
namespace Go.Proofs
open Go.Shelf
def Tryz.lays169_ren:Go.Shelf.Ren:=⟨fun|169=>272|n=>n,fun|70=>274|9=>9|0=>0|72=>277|37=>275|127=>299|3=>3|5=>5|n=>n,fun|n=>n⟩
theorem Tryz.lays169:Go.Proofs.Lays.n169 Tryz.prog Tryz.lays169_ren:={
 mixed:=by kernel_rfl
 f169:=Tryz.func272.trans (congrArg some zk)
 t0:=Tryz.underlying0
 a0:=Tryz.isAgg0
 z0:=Tryz.sizeOf0
 v0:=Tryz.zeroValue0
 t3:=Tryz.underlying3
 a3:=Tryz.isAgg3
 z3:=Tryz.sizeOf3
 v3:=Tryz.zeroValue3
 t9:=Tryz.underlying9
 a9:=Tryz.isAgg9
 z9:=Tryz.sizeOf9
 v9:=Tryz.zeroValue9
 t37:=Tryz.underlying275
 a37:=Tryz.isAgg275
 z37:=Tryz.sizeOf275
 v37:=Tryz.zeroValue275
 t70:=Tryz.underlying274
 a70:=Tryz.isAgg274
 z70:=Tryz.sizeOf274
 v70:=Tryz.zeroValue274
 t72:=Tryz.underlying277
 a72:=Tryz.isAgg277
 z72:=Tryz.sizeOf277
 v72:=Tryz.zeroValue277
 t127:=Tryz.underlying299
 a127:=Tryz.isAgg299
 z127:=Tryz.sizeOf299
 v127:=Tryz.zeroValue299 }
theorem Tryz.Builder_Extra_169:Builder.Extra Tryz.prog Tryz.lays169_ren:={
 sizeBuilder:=by kernel_rfl
 liesBuilder:=by kernel_rfl
 t5:=Tryz.underlying5
 a5:=Tryz.isAgg5
 z5:=Tryz.sizeOf5
 v5:=Tryz.zeroValue5
 infoByte:=by kernel_rfl
 cellsByte:=by kernel_rfl
 sizeByte:=by kernel_rfl
 neB5:=by decide }
open Go.RowKit in
theorem Tryz.Builder_String_any (B b:Nat) (l:List UInt8) (w:World) (h:Lib.IsBuilder 277 5 B b (Lib.byteCells l) w) (hBw:B≤w.heap.size) :
  Calls Tryz.prog 272 #[.pointer (some ⟨b,0,none⟩)] w fun e w'=>e= .returned (.string ⟨l.toArray⟩)∧Below B w w':=Any.Builder_String_any Tryz.lays169 Tryz.Builder_Extra_169 B b l w h hBw
def Tryz.laysM171_ren:Go.Shelf.Ren:=⟨fun|171=>249|243=>288|246=>324|283=>338|284=>339|285=>340|286=>341|129=>282|317=>347|318=>348|319=>349|320=>350|337=>353|338=>354|n=>n,fun|3=>3|9=>9|2=>2|4=>4|171=>335|0=>0|53=>193|37=>275|5=>5|173=>337|212=>347|51=>61|20=>20|213=>348|46=>240|232=>354|233=>355|n=>n,fun|17=>4|18=>5|19=>6|n=>n⟩
theorem Tryz.laysM171:Go.Proofs.LaysM.n171 Tryz.prog Tryz.laysM171_ren:={
 mixed:=by kernel_rfl
 f129:=Tryz.func282.trans (congrArg some zk)
 f171:=Tryz.func249.trans (congrArg some zk)
 f243:=Tryz.func288.trans (congrArg some zk)
 f246:=Tryz.func324.trans (congrArg some zk)
 f283:=Tryz.func338.trans (congrArg some zk)
 f284:=Tryz.func339.trans (congrArg some zk)
 f285:=Tryz.func340.trans (congrArg some zk)
 f286:=Tryz.func341.trans (congrArg some zk)
 f317:=Tryz.func347.trans (congrArg some zk)
 f318:=Tryz.func348.trans (congrArg some zk)
 f319:=Tryz.func349.trans (congrArg some zk)
 f320:=Tryz.func350.trans (congrArg some zk)
 f337:=Tryz.func353.trans (congrArg some zk)
 f338:=Tryz.func354.trans (congrArg some zk)
 t0:=Tryz.underlying0
 a0:=Tryz.isAgg0
 z0:=Tryz.sizeOf0
 v0:=Tryz.zeroValue0
 t2:=Tryz.underlying2
 a2:=Tryz.isAgg2
 z2:=Tryz.sizeOf2
 v2:=Tryz.zeroValue2
 t3:=Tryz.underlying3
 a3:=Tryz.isAgg3
 z3:=Tryz.sizeOf3
 v3:=Tryz.zeroValue3
 t4:=Tryz.underlying4
 a4:=Tryz.isAgg4
 z4:=Tryz.sizeOf4
 v4:=Tryz.zeroValue4
 t5:=Tryz.underlying5
 a5:=Tryz.isAgg5
 z5:=Tryz.sizeOf5
 v5:=Tryz.zeroValue5
 t9:=Tryz.underlying9
 a9:=Tryz.isAgg9
 z9:=Tryz.sizeOf9
 v9:=Tryz.zeroValue9
 t20:=Tryz.underlying20
 a20:=Tryz.isAgg20
 z20:=Tryz.sizeOf20
 v20:=Tryz.zeroValue20
 t37:=Tryz.underlying275
 a37:=Tryz.isAgg275
 z37:=Tryz.sizeOf275
 v37:=Tryz.zeroValue275
 t46:=Tryz.underlying240
 a46:=Tryz.isAgg240
 z46:=Tryz.sizeOf240
 v46:=Tryz.zeroValue240
 t51:=Tryz.underlying61
 a51:=Tryz.isAgg61
 z51:=Tryz.sizeOf61
 v51:=Tryz.zeroValue61
 t53:=Tryz.underlying193
 a53:=Tryz.isAgg193
 z53:=Tryz.sizeOf193
 v53:=Tryz.zeroValue193
 t171:=Tryz.underlying335
 a171:=Tryz.isAgg335
 z171:=Tryz.sizeOf335
 v171:=Tryz.zeroValue335
 t173:=Tryz.underlying337
 a173:=Tryz.isAgg337
 z173:=Tryz.sizeOf337
 v173:=Tryz.zeroValue337
 t212:=Tryz.underlying347
 a212:=Tryz.isAgg347
 z212:=Tryz.sizeOf347
 v212:=Tryz.zeroValue347
 t213:=Tryz.underlying348
 a213:=Tryz.isAgg348
 z213:=Tryz.sizeOf348
 t232:=Tryz.underlying354
 a232:=Tryz.isAgg354
 z232:=Tryz.sizeOf354
 v232:=Tryz.zeroValue354
 t233:=Tryz.underlying355
 a233:=Tryz.isAgg355
 z233:=Tryz.sizeOf355
 v233:=Tryz.zeroValue355
 g17:=by kernel_rfl
 g18:=by kernel_rfl
 g19:=by kernel_rfl
 i0:=by kernel_rfl
 i2:=by kernel_rfl
 i3:=by kernel_rfl
 i4:=by kernel_rfl
 i5:=by kernel_rfl
 i9:=by kernel_rfl
 i20:=by kernel_rfl
 i37:=by kernel_rfl
 i46:=by kernel_rfl
 i51:=by kernel_rfl
 i53:=by kernel_rfl
 i171:=by kernel_rfl
 i173:=by kernel_rfl
 i212:=by kernel_rfl
 i232:=by kernel_rfl
 i233:=by kernel_rfl
 m17:=by kernel_rfl
 m18:=by kernel_rfl
 m19:=by kernel_rfl }
open Go.RowKit Go.Sort Go.Lib in
theorem Tryz.strconv_Itoa (n : Int) (h0 : -9223372036854775808 ≤ n) (h1 : n ≤ 9223372036854775807) (w : World) (htab : Lib.TabIs Tryz.prog w "internal/strconv.uint64pow10" .u64 Lib.pow10Tab) :
  Calls Tryz.prog 249 #[.int .i64 n] w fun e w'=>e= .returned (.string ⟨(Lib.itoa n).toArray⟩)∧∃ k os,w'=grow (w.drewN k) os:=Any.strconv_Itoa Tryz.laysM171 n h0 h1 w htab
end Go.Proofs
namespace Go.Proofs.jw
open Go Go.RowKit Go.SW Go.Num Go.Mem Go.Proofs
def Pow (w : World) : Prop := Lib.TabIs Tryz.prog w "internal/strconv.uint64pow10" .u64 Lib.pow10Tab
theorem Pow.later {w w':World} (h:Pow w) (hb:Below w.heap.size w w'):Pow w':=Lib.tabBelow_of_tabIs h w' hb
theorem below_grow (w:World) (k:Nat) (os:Array Obj):Below w.heap.size w (Go.Sort.grow (w.drewN k) os):=by
 unfold Go.Sort.grow;refine ⟨rfl,rfl,rfl,?_,fun i hi=>?_⟩
 ·simp
 ·simp only [World.drewN];rw [Array.getElem?_append_left hi]
theorem infoByte:(Tryz.prog.info? 5).map (fun i=>(i.zero,i.size,i.bytes))=some (some (.int .u8 0),1,1):=by kernel_rfl
theorem Vz:(Tryz.prog.info? 277).map (·.size)=some 2:=by kernel_rfl
abbrev Yl (B b:Nat) (bs:List Value) (w:World):Prop:=Lib.IsBuilder 277 5 B b bs w
abbrev AtB (B b:Nat) (bs:List Value) (w:World):Prop:=Lib.BuilderAt 277 5 B b (.pointer (some ⟨b,0,none⟩)) bs w
theorem JM {w w':World} (h:Below w.heap.size w w'):w.grownBy w' none:=⟨h.os,h.tape,h.output,h.size,fun i hi _=>h.block i hi⟩
theorem Lu {p:Value} {B b:Nat} {bs:List Value} {w w':World} (h:Lib.BuilderAt 277 5 B b p bs w) (hb:Below w.heap.size w w'):Lib.BuilderAt 277 5 B b p bs w':=by
 have hl:=h.lt;obtain ⟨hB,v,hbk,hown,hne⟩:=h;refine ⟨hB,v,(hb.block _ hl).trans hbk,hown.kept (JM hb) ?_,hne⟩;cases h:v.ownBlock with
 | none=>exact .inl rfl
 | some k=>exact .inr zi
theorem Yl.later {B b:Nat} {bs:List Value} {w w':World} (h:Yl B b bs w) (hb:Below w.heap.size w w'):Yl B b bs w':=by
 rcases h with h|h
 ·exact .inl (Lu h hb)
 ·exact .inr (Lu h hb)
theorem ab1 (n:Nat):Lib.itoa (n:Int)=Lib.decDigits n:=by
 unfold Lib.itoa;rw [if_neg zo,Int.toNat_natCast]
theorem Vx (n:Nat) (h:n<1000000000) (w:World) (ht:Pow w) :
  Calls Tryz.prog 249 #[.int .i64 n] w fun e w'=>e= .returned (.string ⟨(Lib.decDigits n).toArray⟩)∧Below w.heap.size w w':=by
 refine (Tryz.strconv_Itoa n zo zo w ht).mono ?_;rintro e w' ⟨rfl,k,os,rfl⟩;rw [ab1];exact ⟨rfl,below_grow _ _ _⟩
theorem IX (b:Nat) (w:World) (h0:w.cell? ⟨b,0,none⟩=some (.pointer (some ⟨b,0,none⟩))) :
  Calls Tryz.prog 303 #[.pointer (some ⟨b,0,none⟩)] w fun e w'=>e= .returned (.tuple #[])∧w'=w:=by
 obtain ⟨j,hj,_⟩:=Option.map_eq_some_iff.1 Vz;go_enter Tryz.func303,Tryz.ntmps303
 go_wp2
 rw [Lib.run_neq_ptr_same w _ Tryz.underlying274 hj]
 go_wp2
 go_end0
 exact ⟨rfl,rfl⟩
theorem Du (b:Nat) (w:World) (h0:w.cell? ⟨b,0,none⟩=some (.pointer none)) (hsh:w.shape? b=some (277,2)) (hfz:w.frozen? ⟨b,0,none⟩=false) :
  Calls Tryz.prog 303 #[.pointer (some ⟨b,0,none⟩)] w fun e w'=>e= .returned (.tuple #[])∧w'=w.setCell ⟨b,0,none⟩ (.pointer (some ⟨b,0,none⟩)):=by
 obtain ⟨j,hj,hjs⟩:=Option.map_eq_some_iff.1 Vz;go_enter Tryz.func303,Tryz.ntmps303
 go_wp2
 rw [Lib.run_to_unsafe w ⟨b,0,none⟩ Tryz.underlying274 Tryz.underlying324 hj (by rw [hjs];decide) hsh (Nat.zero_lt_succ 1)];simp only [Result.andThen];rw [Oper.upon_value]
 go_wp2
 rw [run_callFunc_extern Tryz.func329 zk zk zk (e:=Extern.AbiNoEscape.same) zk];rw [Lib.run_noEscape];simp only [Result.andThen];rw [Oper.upon_value]
 go_wp2
 rw [Lib.run_from_unsafe w ⟨b,0,none⟩ Tryz.underlying324 Tryz.underlying274 hj hsh zk];simp only [Result.andThen];rw [Oper.upon_value]
 go_wp2
 go_end0
 exact ⟨rfl,rfl⟩
theorem Ai (B b:Nat) (bs:List Value) (w:World) (h:Yl B b bs w) :
  Calls Tryz.prog 303 #[.pointer (some ⟨b,0,none⟩)] w fun e w'=>e= .returned (.tuple #[])∧(AtB B b bs w'∧Below B w w'):=by
 rcases h with h|h
 ·refine (Du b w h.cell0 h.shape h.frozen0).mono ?_;rintro e w' ⟨rfl,rfl⟩;exact ⟨rfl,h.used _,(Below.refl B w).setCell (p:=⟨b,0,none⟩) h.1 _⟩
 ·refine (IX b w h.cell0).mono ?_;rintro e w' ⟨rfl,rfl⟩;exact ⟨rfl,h,Below.refl B _⟩
theorem LH (B b:Nat) (bs:List Value) (c:Int) (w:World) (h:Yl B b bs w) (hlen:bs.length+1≤140737488355328) (hBw:B≤w.heap.size) :
  Calls Tryz.prog 270 #[.pointer (some ⟨b,0,none⟩),.int .u8 c] w fun e w'=>e= .returned .nilIface∧(AtB B b (bs++[.int .u8 c]) w'∧Below B w w'):=by
 obtain ⟨i0,hi,hz0,hz1,hz2⟩:=info_parts infoByte;go_enter Tryz.func270,Tryz.ntmps270
 go_wp2_with (go_at_call 303;refine (Ai B b bs _ h).mono ?_;rintro e w1 ⟨rfl,h1,hb1⟩;refine Hid.out ?_)
 obtain ⟨hB,v,hbk,hown,hne⟩:=h1;have c0:w1.cell? ⟨b,0,none⟩=some (.pointer (some ⟨b,0,none⟩)):=by rw [Lib.cell_of_heap hbk];rfl
 have c1:w1.cell? ⟨b,1,none⟩=some v:=by rw [Lib.cell_of_heap hbk];rfl
 refine zh ?_;go_wp2_with (at_builtin;refine wpList_append_own _ rfl _ _ 275 rfl B 5 i0 (.int .u8 0) 1 1 Tryz.underlying275 hi hz0 hz1 hz2 rfl zd _ _ _ rfl (hown.alloc _) ⟨w1.heap.size,0,none⟩ 1 1 [.int .u8 c] rfl rfl ?c1 ?c2 ?c3 ?c4 ?c5 ?_)
 case c1 =>
  intro j u hj
  match j,hj with
  | 0,hj=>simp at hj;subst hj;simp [Addr.add]
 case c2=>intro u hu;simp at hu;subst hu;rfl
 case c3=>unfold maxLen;omega
 case c4=>omega
 case c5=>have:=hb1.size;simp;omega
 intro v' w2 hown' hgrow _
 have hlt:b<w1.heap.size:=by
  rcases Nat.lt_or_ge b w1.heap.size with h'|h'
  ·exact h'
  ·simp [Array.getElem?_eq_none h'] at hbk
 have hb2:w2.heap[b]? =some (.cells #[.pointer (some ⟨b,0,none⟩),v] 277 (0,0)):=by
  rw [hgrow.block b (by simp;omega) (fun e=>hne e.symm),Lib.alloc_old w1 _ b hlt];exact hbk
 have d0:w2.cell? ⟨b,0,none⟩=some (.pointer (some ⟨b,0,none⟩)):=by rw [Lib.cell_of_heap hb2];rfl
 have d1:w2.cell? ⟨b,1,none⟩=some v:=by rw [Lib.cell_of_heap hb2];rfl
 have f1:w2.frozen? ⟨b,1,none⟩=false:=Lib.frozen_of_heap hb2 1
 obtain ⟨g,cap,rfl⟩:∃ g cap,v'= .slice (some ⟨g,0,none⟩) (bs.length+1) cap:=by
  rcases hown'.2 with ⟨_,h0⟩|⟨g,cap,cur,hv,_⟩
  ·omega
  ·exact ⟨g,cap,hv⟩
 go_wp2
 go_ret
 refine ⟨rfl,?_,?_⟩
 ·exact Lib.BuilderAt.put (T:=277) (e:=5) hB hb2 (bs':=bs++[.int .u8 c]) (by simpa using hown') zd
 ·exact ((hb1.alloc (by have:=hb1.size;omega) _).grown hgrow (by have:=hb1.size;simp;omega) (fun k hk=>(hown.lt k hk).1)).setCell (p:=⟨b,1,none⟩) hB _
theorem Fh (B b:Nat) (bs:List Value) (s:ByteArray) (w:World) (h:Yl B b bs w) (hlen:bs.length+s.size≤140737488355328) (hBw:B≤w.heap.size) :
  Calls Tryz.prog 271 #[.pointer (some ⟨b,0,none⟩),.string s] w fun e w'=>e= .returned (.tuple #[.int .i64 s.size,.nilIface])∧(AtB B b (bs++Lib.strCells s) w'∧Below B w w'):=by
 obtain ⟨i0,hi,hz0,hz1,hz2⟩:=info_parts infoByte;go_enter Tryz.func271,Tryz.ntmps271
 go_wp2_with (go_at_call 303;refine (Ai B b bs _ h).mono ?_;rintro e w1 ⟨rfl,h1,hb1⟩;refine Hid.out ?_)
 obtain ⟨hB,v,hbk,hown,hne⟩:=h1;have c0:w1.cell? ⟨b,0,none⟩=some (.pointer (some ⟨b,0,none⟩)):=by rw [Lib.cell_of_heap hbk];rfl
 have c1:w1.cell? ⟨b,1,none⟩=some v:=by rw [Lib.cell_of_heap hbk];rfl
 refine zh ?_;go_wp2_with (at_builtin;refine Lib.wpList_append_own_string _ rfl _ _ 275 9 rfl B 5 i0 Tryz.underlying275 Tryz.underlying9 hi hz0 hz1 hz2 _ _ _ rfl hown s rfl ?c3 ?c4 ?c5 ?_)
 case c3=>unfold maxLen;omega
 case c4=>omega
 case c5=>have:=hb1.size;omega
 intro v' w2 hown' hgrow _
 have hlt:b<w1.heap.size:=by
  rcases Nat.lt_or_ge b w1.heap.size with h'|h'
  ·exact h'
  ·simp [Array.getElem?_eq_none h'] at hbk
 have hb2:w2.heap[b]? =some (.cells #[.pointer (some ⟨b,0,none⟩),v] 277 (0,0)):=by
  rw [hgrow.block b hlt (fun e=>hne e.symm)];exact hbk
 have d0:w2.cell? ⟨b,0,none⟩=some (.pointer (some ⟨b,0,none⟩)):=by rw [Lib.cell_of_heap hb2];rfl
 have d1:w2.cell? ⟨b,1,none⟩=some v:=by rw [Lib.cell_of_heap hb2];rfl
 have f1:w2.frozen? ⟨b,1,none⟩=false:=Lib.frozen_of_heap hb2 1
 obtain ⟨ao,n',cap,rfl⟩:∃ ao n' cap,v'= .slice ao n' cap:=by
  rcases hown'.2 with ⟨hv,_⟩|⟨g,cap,cur,hv,_⟩
  ·exact ⟨_,_,_,hv⟩
  ·exact ⟨_,_,_,hv⟩
 go_wp2
 go_ret2
 refine ⟨rfl,?_,?_⟩
 ·exact Lib.BuilderAt.put (T:=277) (e:=5) hB hb2 (bs':=bs++Lib.strCells s) (by simpa [Lib.strCells_length] using hown') zd
 ·exact (hb1.grown hgrow (by have:=hb1.size;omega) (fun k hk=>(hown.lt k hk).1)).setCell (p:=⟨b,1,none⟩) hB _
end Go.Proofs.jw
namespace Go.Mem
open Go Go.RowKit Go.SW Go.Num Go.Dec
def Ky (w:World) (b:Nat) (T:TypeId):Prop:=∃ cs,ah w b cs T
theorem ah.isT {w:World} {b:Nat} {cs:Array Value} {T:TypeId} (h:ah w b cs T):Ky w b T:=⟨cs,h⟩
theorem Ky.setCell {w:World} {b:Nat} {T:TypeId} {a:Addr} {u:Value} (h:Ky w b T):Ky (w.setCell a u) b T:=by
 obtain ⟨cs,h⟩:=h;obtain ⟨c,o,sp⟩:=a
 by_cases hb:b=c
 ·subst hb;have hl:=h.lt;unfold ah at h;have e:w.heap[b]= .cells cs T (0,0):=by simpa [hl] using h
  cases sp with
  | none =>
   refine ⟨cs.setIfInBounds o u,?_⟩;unfold ah;simp [World.setCell,hl,Array.getElem_modify,e]
  | some s =>
   refine ⟨cs,?_⟩;unfold ah;simp [World.setCell,hl,Array.getElem_modify,e]
 ·exact ⟨cs,h.setOther u hb⟩
theorem Ky.later {w w':World} {b:Nat} {T:TypeId} (h:Ky w b T) (hb:Below w.heap.size w w'):Ky w' b T:=by
 obtain ⟨cs,h⟩:=h;exact ⟨cs,h.later hb⟩
theorem Ky.alloc {w:World} {b:Nat} {T:TypeId} {o:Obj} (h:Ky w b T):Ky (w.alloc o) b T:=h.later ((Below.refl _ _).alloc (Nat.le_refl _) _)
theorem Ky.drew {w:World} {b:Nat} {T:TypeId} (h:Ky w b T):Ky w.drew b T:=h.later (Below.drew (Below.refl _ _))
theorem Ky.new (w:World) (cs:Array Value) (T:TypeId):Ky (w.alloc (.cells cs T (0,0))) w.heap.size T:=⟨cs,ah.new _ _ _⟩
theorem aT.bo3 {w:World} {v:Value} {n:Nat} {b o:Nat} {T':TypeId} {u:Value} (h:aT w v n) (hx:Ky w b T') (hT:61≠T'):aT (w.setCell ⟨b,o,none⟩ u) v n:=by
 obtain ⟨cs,hx⟩:=hx;exact h.setOther hx hT o u
theorem ak6 {z y:Int} {b:Bool} (h:decide (z<0)=b) (k:decide (y<0)=b):kM (z.natAbs+y.natAbs) b=z+y:=by
 unfold kM;cases b
 ·simp at h k ⊢;omega
 ·simp at h k ⊢;omega
theorem Vf {z y:Int} {b:Bool} (h:decide (z<0)=b) (k:decide (y<0)= !b):kM (z.natAbs - y.natAbs) b=if y.natAbs≤z.natAbs then z+y else kM (z.natAbs - y.natAbs) b:=by
 split
 ·unfold kM;cases b
  ·simp at h k ⊢;omega
  ·simp at h k ⊢;omega
 ·rfl
theorem Gl (z y:Int):kM (z.natAbs*y.natAbs) (decide (z<0) != decide (y<0))=z*y:=by
 unfold kM
 by_cases h:z<0<;>by_cases k:y<0
 ·simp only [h,k,decide_true,decide_false,bne_self_eq_false,Bool.true_bne,Bool.false_bne,Bool.not_false,Bool.not_true,if_true,if_false];obtain ⟨a,rfl⟩:∃ a:Nat,z= -(a:Int):=⟨z.natAbs,by omega⟩;obtain ⟨b,rfl⟩:∃ b:Nat,y= -(b:Int):=⟨y.natAbs,by omega⟩;simp
  try grind
 ·simp only [h,k,decide_true,decide_false,bne_self_eq_false,Bool.true_bne,Bool.false_bne,Bool.not_false,Bool.not_true,if_true,if_false];obtain ⟨a,rfl⟩:∃ a:Nat,z= -(a:Int):=⟨z.natAbs,by omega⟩;obtain ⟨b,rfl⟩:∃ b:Nat,y=(b:Int):=⟨y.natAbs,by omega⟩;simp
  try grind
 ·simp only [h,k,decide_true,decide_false,bne_self_eq_false,Bool.true_bne,Bool.false_bne,Bool.not_false,Bool.not_true,if_true,if_false];obtain ⟨a,rfl⟩:∃ a:Nat,z=(a:Int):=⟨z.natAbs,by omega⟩;obtain ⟨b,rfl⟩:∃ b:Nat,y= -(b:Int):=⟨y.natAbs,by omega⟩;simp
  try grind
 ·simp only [h,k,decide_true,decide_false,bne_self_eq_false,Bool.true_bne,Bool.false_bne,Bool.not_false,Bool.not_true,if_true,if_false];obtain ⟨a,rfl⟩:∃ a:Nat,z=(a:Int):=⟨z.natAbs,by omega⟩;obtain ⟨b,rfl⟩:∃ b:Nat,y=(b:Int):=⟨y.natAbs,by omega⟩;simp
theorem OM {z y:Int} (h:y ∣ z):kM (z.natAbs / y.natAbs) (decide (z<0) != decide (y<0))=z / y:=by
 obtain ⟨c,rfl⟩:=h
 rcases Int.lt_trichotomy y 0 with hy|hy|hy
 ·rw [Int.natAbs_mul,Nat.mul_div_cancel_left _ zo,Int.mul_ediv_cancel_left _ zo];unfold kM
  rcases Int.lt_trichotomy c 0 with hc|hc|hc
  ·have:¬ y*c<0:=by have:=Int.mul_pos_of_neg_of_neg hy hc;omega
   simp [this,hy];omega
  ·subst hc;simp
  ·have:y*c<0:=Int.mul_neg_of_neg_of_pos hy hc;simp [this,hy];omega
 ·subst hy;simp [kM]
 ·rw [Int.natAbs_mul,Nat.mul_div_cancel_left _ zo,Int.mul_ediv_cancel_left _ zo];unfold kM;have hy2:¬ y<0:=by omega
  rcases Int.lt_trichotomy c 0 with hc|hc|hc
  ·have:y*c<0:=Int.mul_neg_of_pos_of_neg hy hc;simp [this,hy2];omega
  ·subst hc;simp
  ·have:¬ y*c<0:=by have:=Int.mul_pos hy hc;omega
   simp [this,hy2];omega
theorem gN.flag {w:World} {pa:Option Addr} {l ca:Nat} {y z:Int} {b:Bool} (h:aT w (.slice pa l ca) y.natAbs) (e:y=z) (hb:b=decide (y<0)):gN w (.agg #[.slice pa l ca,.bool b]) z:=by
 subst e hb;exact ⟨pa,l,ca,rfl,h⟩
theorem aI {w:World} {v:Value} {n:Nat} (h:aT w v n:=by repeat (first|(with_reducible exact Hid.out (by with_reducible assumption))|((with_reducible apply aT.bo3);rotate_left;(focus (repeat (first|(with_reducible exact ah.isT (by with_reducible assumption))|(with_reducible apply Ky.setCell)|(with_reducible exact Ky.new _ _ _)|(with_reducible apply Ky.alloc)|(with_reducible apply Ky.drew)|((with_reducible refine Ky.later (w:=?_) ?_ ?_);rotate_right;with_reducible assumption))));(focus decide))|(with_reducible apply aT.alloc)|(with_reducible apply aT.drew)|((with_reducible refine aT.later (w:=?_) ?_ ?_);rotate_right;with_reducible assumption))):aT w v n:=h
end Go.Mem
namespace Go.jQ
open Go Go.Num Go.Dec Lib
theorem Lx (p q:Rat):let g:=p.den.gcd q.den
  let top:=p.num*((q.den / g:Nat):Int)+q.num*((p.den / g:Nat):Int)
  let h:=top.natAbs.gcd g
  (p+q).num=top / h∧(p+q).den=p.den / g*(q.den / h):=by
 intro g top h;have e:p+q=Rat.add p q:=rfl;rw [e];unfold Rat.add;simp only;have hgd:g ∣ q.den:=Nat.gcd_dvd_right _ _;have hhg:h ∣ g:=Nat.gcd_dvd_right _ _;have hh:(p.den / g*q.den) / h=p.den / g*(q.den / h):=Nat.mul_div_assoc _ (Nat.dvd_trans hhg hgd);split
 ·rename_i hg;have hg':g=1:=hg;have h1:h=1:=Nat.dvd_one.1 (hg' ▸ hhg);simp only [hg',h1,Nat.div_one,top,Int.natCast_one,Int.ediv_one,and_self]
 ·rw [Rat.maybeNormalize_eq];simp only;exact ⟨rfl,hh⟩
theorem Lb (p q:Rat):let g:=p.num.natAbs.gcd q.den
  let h:=q.num.natAbs.gcd p.den
  (p*q).num=(p.num / g)*(q.num / h)∧(p*q).den=(p.den / h)*(q.den / g):=by
 intro g h;have e:p*q=Rat.mul p q:=rfl;rw [e];unfold Rat.mul;simp only [Int.divExact_eq_ediv,Nat.divExact_eq_div];exact ⟨rfl,rfl⟩
structure Fr where
 n:ByteArray
 d:ByteArray
deriving DecidableEq
def Fr.v (a:Fr):Value:=.agg #[.string a.n,.string a.d]
def Fr.of (q:Rat):Fr:=⟨⟨(Lib.itoa q.num).toArray⟩,⟨(Lib.itoa q.den).toArray⟩⟩
def Fr.no:Fr:=⟨⟨#[]⟩,⟨#[]⟩⟩
def kL (k:Nat):Nat:=10^k
def nC (n:Nat):Bool:=decide (n<kL 600)
def wD (q:Rat):Bool:=nC q.num.natAbs&&nC q.den
theorem WM {n k:Nat} (hk:0<k):n<kL k↔(decDigits n).length≤k :=
 ⟨fun h=>nZ k n hk h,fun h=>Nat.lt_of_lt_of_le (IQ n) (Nat.pow_le_pow_right zo h)⟩
theorem iN {n:Nat}:nC n=true↔(decDigits n).length≤600:=by
 unfold nC;rw [decide_eq_true_iff];exact WM zo
def rd (a:Fr):Option Rat :=
 match whole a.n.data.toList,whole a.d.data.toList with
 | some n,some d=>if h:0<d∧n.natAbs.Coprime d.natAbs then some ⟨n,d.natAbs,by omega,h.2⟩ else none
 | _,_=>none
theorem NK {a b:ByteArray} (h:a.data.toList=b.data.toList):a=b:=by
 cases a;cases b
 simp only [ByteArray.mk.injEq];exact Array.toList_inj.1 h
theorem oQ {q:Rat} (h:wD q=true):rd (Fr.of q)=some q:=by
 unfold wD at h;rw [Bool.and_eq_true,iN,iN] at h;have e1:whole (Fr.of q).n.data.toList=some q.num:=iF h.1;have h2:(decDigits ((q.den:Nat):Int).natAbs).length≤600:=(Int.natAbs_natCast q.den).symm ▸ h.2;have e2:whole (Fr.of q).d.data.toList=some ((q.den:Nat):Int):=iF (z:=((q.den:Nat):Int)) h2;unfold rd;rw [e1,e2];have hd:=q.den_pos;simp only [Int.natAbs_natCast];rw [dif_pos ⟨by omega,q.reduced⟩]
theorem oZ {a:Fr} {q:Rat} (h:rd a=some q):a=Fr.of q∧wD q=true:=by
 unfold rd at h;split at h
 ·rename_i n d e1 e2;split at h
  ·rename_i hk;simp only [Option.some.injEq] at h;subst h;obtain ⟨h1,h2⟩:=rP e1;obtain ⟨h3,h4⟩:=rP e2;refine ⟨?_,?_⟩
   ·cases a
    unfold Fr.of;simp only [Fr.mk.injEq] at *;refine ⟨NK h1,NK ?_⟩;rw [h3,show ((d.natAbs:Nat):Int)=d by omega]
   ·unfold wD;rw [Bool.and_eq_true,iN,iN];exact ⟨h2,h4⟩
  ·cases h
 ·cases h
theorem Xt {q:Rat} (h:q≠0):q⁻¹.num=Mem.kM q.den (decide (q.num<0))∧q⁻¹.den=q.num.natAbs:=by
 have hn:q.num≠0:=fun e=>h (Rat.num_eq_zero.1 e);rw [Rat.num_inv,Rat.den_inv,if_neg hn];refine ⟨?_,rfl⟩;unfold Mem.kM
 rcases Int.lt_trichotomy q.num 0 with h1|h1|h1
 ·rw [Int.sign_eq_neg_one_of_neg h1];simp [h1]
 ·exact absurd h1 hn
 ·rw [Int.sign_eq_one_of_pos h1];have:¬ q.num<0:=by omega
  simp [this]
theorem Gm {n:Int} {g:Nat} (h:g ∣ n.natAbs):Mem.kM (n.natAbs / g) (decide (n<0))=n / (g:Int):=by
 have h2:((g:Nat):Int) ∣ n:=by rwa [← Int.dvd_natAbs,Int.ofNat_dvd]
 have:=Mem.OM h2;rw [Int.natAbs_natCast,decide_eq_false (show ¬ ((g:Nat):Int)<0 by omega),Bool.bne_false] at this;exact this
theorem Ul (p q:Rat):(p+q).num=Mem.kM ((p.num*((q.den / p.den.gcd q.den:Nat):Int)+q.num*((p.den / p.den.gcd q.den:Nat):Int)).natAbs / (p.num*((q.den / p.den.gcd q.den:Nat):Int)+q.num*((p.den / p.den.gcd q.den:Nat):Int)).natAbs.gcd (p.den.gcd q.den)) (decide ((p.num*((q.den / p.den.gcd q.den:Nat):Int)+q.num*((p.den / p.den.gcd q.den:Nat):Int))<0))∧(p+q).den=p.den / p.den.gcd q.den*(q.den / (p.num*((q.den / p.den.gcd q.den:Nat):Int)+q.num*((p.den / p.den.gcd q.den:Nat):Int)).natAbs.gcd (p.den.gcd q.den)):=by
 obtain ⟨h1,h2⟩:=Lx p q;refine ⟨?_,h2⟩;rw [h1];exact (Gm (Nat.gcd_dvd_left _ _)).symm
theorem Ta (p q:Rat):(p*q).num=Mem.kM (p.num.natAbs / p.num.natAbs.gcd q.den*(q.num.natAbs / q.num.natAbs.gcd p.den)) (decide (p.num<0) != decide (q.num<0))∧(p*q).den=p.den / q.num.natAbs.gcd p.den*(q.den / p.num.natAbs.gcd q.den):=by
 obtain ⟨h1,h2⟩:=Lb p q;refine ⟨?_,h2⟩;rw [h1];have d1:((p.num.natAbs.gcd q.den:Nat):Int) ∣ p.num:=by rw [← Int.dvd_natAbs,Int.ofNat_dvd];exact Nat.gcd_dvd_left _ _
 have d2:((q.num.natAbs.gcd p.den:Nat):Int) ∣ q.num:=by rw [← Int.dvd_natAbs,Int.ofNat_dvd];exact Nat.gcd_dvd_left _ _
 have hg:0<p.num.natAbs.gcd q.den:=Nat.gcd_pos_of_pos_right _ q.den_pos;have hh:0<q.num.natAbs.gcd p.den:=Nat.gcd_pos_of_pos_right _ p.den_pos
 have key:∀ (z:Int) (g:Nat),0<g→((g:Nat):Int) ∣ z→(z / (g:Int)).natAbs=z.natAbs / g∧(z≠0→decide (z / (g:Int)<0)=decide (z<0)):=fun z g hg hd=>by
  obtain ⟨c,rfl⟩:=hd;rw [Int.mul_ediv_cancel_left _ zo,Int.natAbs_mul,Int.natAbs_natCast,Nat.mul_div_cancel_left _ hg];refine ⟨rfl,fun _=>?_⟩;rw [Bool.eq_iff_iff,decide_eq_true_iff,decide_eq_true_iff]
  constructor
  ·exact fun h=>Int.mul_neg_of_pos_of_neg zo h
  ·intro h
   rcases Int.lt_trichotomy c 0 with h1|h1|h1
   ·exact h1
   ·subst h1;simp at h
   ·have:=Int.mul_pos (show (0:Int)<(g:Int) by omega) h1;omega
 obtain ⟨a1,a2⟩:=key p.num _ hg d1;obtain ⟨b1,b2⟩:=key q.num _ hh d2;rw [← Mem.Gl (p.num / ((p.num.natAbs.gcd q.den:Nat):Int)),a1,b1]
 by_cases hp:p.num=0
 ·simp [hp,Mem.kM]
 ·by_cases hq:q.num=0
  ·simp [hq,Mem.kM]
  ·rw [a2 hp,b2 hq]
theorem SV (p q:Rat):(p*q).num=Mem.kM (p.num.natAbs / p.num.natAbs.gcd q.den*(q.num.natAbs / q.num.natAbs.gcd p.den)) (!(decide (p.num<0) == decide (q.num<0)))∧(p*q).den=p.den / q.num.natAbs.gcd p.den*(q.den / p.num.natAbs.gcd q.den):=Ta p q
theorem zX (n:Int) {d:Nat} (hd:0<d):(mkRat n d).num=Mem.kM (n.natAbs / n.natAbs.gcd d) (decide (n<0))∧(mkRat n d).den=d / n.natAbs.gcd d:=by
 rw [Rat.num_mkRat,Rat.den_mkRat,if_neg zo,if_neg zo,Nat.gcd_comm d];exact ⟨(Gm (Nat.gcd_dvd_left _ _)).symm,rfl⟩
theorem Sz {n:Nat} (h:600<(decDigits n).length):nC n=false:=by
 cases hk:nC n with
 | false=>rfl
 | true=>have:=iN.1 hk;omega
def wr (q:Rat):Fr × Int:=if wD q then (Fr.of q,0) else (Fr.no,6)
def Fr.res (x:Fr × Int):Value:=.tuple #[x.1.v,.int .i64 x.2]
theorem LJ {q:Rat} (h:wD q=false):Fr.res (wr q)= .tuple #[.agg #[.string ⟨#[]⟩,.string ⟨#[]⟩],.int .i64 6]:=by unfold wr;rw [if_neg (by simp [h])];rfl
theorem aw5 {q:Rat} (h:wD q=true):Fr.res (wr q)= .tuple #[.agg #[Mem.dP q.num,Mem.dP q.den],.int .i64 0]:=by unfold wr;rw [if_pos h];rfl
def og (p q:Rat):Int:=if p<q then -1 else if q<p then 1 else 0
def yE (z:Int):Int:=if z=0 then 0 else if z<0 then -1 else 1
theorem OL (p q:Rat):yE (p.num*(q.den:Int)+ -(q.num*(p.den:Int)))=og p q:=by
 unfold yE og
 by_cases h1:p<q
 ·rw [if_pos h1];have:=(Rat.lt_iff p q).1 h1;rw [if_neg zo,if_pos zo]
 ·rw [if_neg h1];rw [Rat.lt_iff] at h1
  by_cases h2:q<p
  ·rw [if_pos h2];have:=(Rat.lt_iff q p).1 h2;rw [if_neg zo,if_neg zo]
  ·rw [if_neg h2];rw [Rat.lt_iff] at h2;rw [if_pos zo]
theorem Xa (q:Rat):yE q.num=og q 0:=by
 have:=OL q 0
 simpa using this
def jc (w:World) (v:Value) (q:Rat):Prop:=∃ pa l ca pb m cb,v= .agg #[.slice pa l ca,.bool (decide (q.num<0)),.slice pb m cb]∧Mem.aT w (.slice pa l ca) q.num.natAbs∧Mem.aT w (.slice pb m cb) q.den
open RowKit Mem in
theorem jc.later {w w':World} {v:Value} {q:Rat} (h:jc w v q) (hb:Below w.heap.size w w'):jc w' v q:=by
 obtain ⟨pa,l,ca,pb,m,cb,h1,h2,h3⟩:=h;exact ⟨pa,l,ca,pb,m,cb,h1,h2.later hb,h3.later hb⟩
open Mem in
theorem jc.mk (n d:Nat) {w:World} {pa pb:Option Addr} {l ca m cb:Nat} {b:Bool} {q:Rat} (h:aT w (.slice pa l ca) n) (k:aT w (.slice pb m cb) d) (hn:n=q.num.natAbs) (hd:d=q.den) (hb:b=decide (q.num<0)):jc w (.agg #[.slice pa l ca,.bool b,.slice pb m cb]) q:=by
 subst hn hd hb;exact ⟨pa,l,ca,pb,m,cb,rfl,h,k⟩
open RowKit Mem in
theorem _root_.Go.Mem.aT.carry {w0 w w':World} {v:Value} {n:Nat} (_:aT w0 v n) (k:aT w v n) (hb:Below w.heap.size w w'):aT w' v n:=k.later hb
theorem jc.of {w:World} {pa pb:Option Addr} {l ca m cb:Nat} {q:Rat} (h:Mem.aT w (.slice pa l ca) q.num.natAbs) (k:Mem.aT w (.slice pb m cb) q.den):jc w (.agg #[.slice pa l ca,.bool (decide (q.num<0)),.slice pb m cb]) q:=⟨pa,l,ca,pb,m,cb,rfl,h,k⟩
def wG (k:Nat) (q:Rat):Prop:=sz 1000000000 q.num.natAbs≤k∧sz 1000000000 q.den≤k
theorem aI3:kL 600≤1000000000^67:=by decide+kernel
theorem nN {n:Nat} (h:nC n=true):sz 1000000000 n≤67:=by
 unfold nC at h;rw [decide_eq_true_iff] at h;exact bH zo 67 n (Nat.lt_of_lt_of_le h aI3)
theorem mJ {q:Rat} (h:wD q=true):wG 67 q:=by
 unfold wD at h;rw [Bool.and_eq_true] at h;exact ⟨nN h.1,nN h.2⟩
theorem wG.mono {k m:Nat} {q:Rat} (h:wG k q) (hk:k≤m):wG m q:=⟨Nat.le_trans h.1 hk,Nat.le_trans h.2 hk⟩
theorem mZ {a b:Nat}:sz 1000000000 (a / b)≤sz 1000000000 a:=jO zo (Nat.div_le_self a b)
theorem Mw {a b:Nat} (hb:0<b):sz 1000000000 (a.gcd b)≤sz 1000000000 b:=jO zo (Nat.le_of_dvd hb (Nat.gcd_dvd_right _ _))
theorem rJ (z:Int) (n:Nat):sz 1000000000 (z*n).natAbs≤sz 1000000000 z.natAbs+sz 1000000000 n:=by
 rw [Int.natAbs_mul,Int.natAbs_natCast];exact oM zo _ _
theorem RP (z y:Int):sz 1000000000 (z*y).natAbs≤sz 1000000000 z.natAbs+sz 1000000000 y.natAbs:=by
 rw [Int.natAbs_mul];exact oM zo _ _
theorem KJ (z y:Int):sz 1000000000 (z+y).natAbs≤max (sz 1000000000 z.natAbs) (sz 1000000000 y.natAbs)+1 :=
 Nat.le_trans (jO zo (Int.natAbs_add_le z y)) (Bh zo _ _)
theorem Vd {k:Nat} {p q:Rat} (h:wG k p) (i:wG k q):wG (2*k+1) (p+q):=by
 obtain ⟨h1,h2⟩:=Lx p q;have hp:=p.den_pos;have hq:=q.den_pos;have a1:=rJ p.num (q.den / p.den.gcd q.den);have a2:=rJ q.num (p.den / p.den.gcd q.den);have a3:=KJ (p.num*((q.den / p.den.gcd q.den:Nat):Int)) (q.num*((p.den / p.den.gcd q.den:Nat):Int));have b1:= @mZ q.den (p.den.gcd q.den);have b2:= @mZ p.den (p.den.gcd q.den);obtain ⟨i1,i2⟩:=i;obtain ⟨j1,j2⟩:=h
 constructor
 ·rw [h1,Int.natAbs_ediv_of_dvd (by rw [← Int.dvd_natAbs,Int.ofNat_dvd];exact Nat.gcd_dvd_left _ _),Int.natAbs_natCast];refine Nat.le_trans mZ ?_;omega
 ·rw [h2];refine Nat.le_trans (oM zo _ _) ?_;have b3:= @mZ q.den ((p.num*((q.den / p.den.gcd q.den:Nat):Int)+q.num*((p.den / p.den.gcd q.den:Nat):Int)).natAbs.gcd (p.den.gcd q.den));omega
theorem Vb {k:Nat} {p q:Rat} (h:wG k p) (i:wG k q):wG (2*k) (p*q):=by
 obtain ⟨h1,h2⟩:=Lb p q;obtain ⟨i1,i2⟩:=i;obtain ⟨j1,j2⟩:=h
 constructor
 ·rw [h1];refine Nat.le_trans (RP _ _) ?_;rw [Int.natAbs_ediv_of_dvd (by rw [← Int.dvd_natAbs,Int.ofNat_dvd];exact Nat.gcd_dvd_left _ _),Int.natAbs_ediv_of_dvd (by rw [← Int.dvd_natAbs,Int.ofNat_dvd];exact Nat.gcd_dvd_left _ _),Int.natAbs_natCast,Int.natAbs_natCast];have:= @mZ p.num.natAbs (p.num.natAbs.gcd q.den);have:= @mZ q.num.natAbs (q.num.natAbs.gcd p.den);omega
 ·rw [h2];refine Nat.le_trans (oM zo _ _) ?_;have:= @mZ p.den (q.num.natAbs.gcd p.den);have:= @mZ q.den (p.num.natAbs.gcd q.den);omega
theorem Va {k:Nat} {q:Rat} (h:wG k q):wG k (-q):=by
 unfold wG at *;rw [Rat.neg_num,Rat.neg_den,Int.natAbs_neg];exact h
theorem aj6 {k:Nat} {q:Rat} (h:wG k q) (h0:q≠0):wG k q⁻¹:=by
 have hn:q.num≠0:=fun e=>h0 (Rat.num_eq_zero.1 e);unfold wG at *;rw [Rat.num_inv,Rat.den_inv,if_neg hn,Int.natAbs_mul,Int.natAbs_natCast,Int.natAbs_sign_of_ne_zero hn,Nat.one_mul];exact ⟨h.2,h.1⟩
end Go.jQ
namespace Go.jQ
open Go Go.Num Go.Dec Lib
abbrev FrI:=Fr × Int
def BS (a:Fr):Int:=if (rd a).isSome then 0 else 20
def uK (a:Fr):Int × Int:=match rd a with
 | some q=>(og q 0,0)
 | none=>(0,20)
def Ak (a b:Fr):Int × Int:=match rd a,rd b with
 | some p,some q=>(og p q,0)
 | _,_=>(0,20)
def bin (f:Rat→Rat→Fr × Int) (a b:Fr):Fr × Int:=match rd a,rd b with
 | some p,some q=>f p q
 | _,_=>(Fr.no,20)
def Kk (a b:Fr):Fr × Int:=bin (fun p q=>wr (p+q)) a b
def RQ (a b:Fr):Fr × Int:=bin (fun p q=>wr (p - q)) a b
def yL (a b:Fr):Fr × Int:=bin (fun p q=>wr (p*q)) a b
def Dq (a b:Fr):Fr × Int:=bin (fun p q=>if q=0 then (Fr.no,7) else wr (p / q)) a b
def qE (n d:Int):Fr × Int:=if d=0 then (Fr.no,7) else wr (n / d)
theorem Ap {f:Rat→Rat→Fr × Int} {a b:Fr} {p q:Rat} (h:rd a=some p) (k:rd b=some q):bin f a b=f p q:=by unfold bin;rw [h,k]
theorem EO {f:Rat→Rat→Fr × Int} {a b:Fr} (h:rd a=none):bin f a b=(Fr.no,20):=by unfold bin;rw [h]
theorem EH {f:Rat→Rat→Fr × Int} {a b:Fr} (k:rd b=none):bin f a b=(Fr.no,20):=by
 unfold bin;cases rd a with
 | none=>rfl
 | some p=>simp [k]
theorem an7 (n d:Int) (h:d≠0):mkRat (Mem.kM n.natAbs (!(decide (n<0) == decide (d<0)))) d.natAbs=(n:Rat) / (d:Rat):=by
 rw [← Rat.divInt_eq_div]
 rcases Int.lt_trichotomy d 0 with hd|hd|hd
 ·rw [← Rat.neg_divInt_neg];obtain ⟨k,rfl⟩:∃ k:Nat,d= -(k:Int):=⟨d.natAbs,by omega⟩;rw [Int.neg_neg,Rat.divInt_ofNat,Int.natAbs_neg,Int.natAbs_natCast]
  congr 1
  unfold Mem.kM
  by_cases hn:n<0
  ·simp [hn,hd];omega
  ·simp [hn,hd];omega
 ·exact absurd hd h
 ·obtain ⟨k,rfl⟩:∃ k:Nat,d=(k:Int):=⟨d.natAbs,by omega⟩;rw [Rat.divInt_ofNat,Int.natAbs_natCast]
  congr 1
  have hd2:¬ (k:Int)<0:=by omega
  unfold Mem.kM
  by_cases hn:n<0
  ·simp [hn,hd2];omega
  ·simp [hn,hd2];omega
theorem oP (s t:ByteArray) (e:Int):Fr.res (⟨s,t⟩,e)= .tuple #[.agg #[.string s,.string t],.int .i64 e]:=rfl
end Go.jQ
namespace Go.Proofs
open Go.Shelf
def Tryz.lays134_ren:Go.Shelf.Ren:=⟨fun|134=>242|129=>282|n=>n,fun|53=>193|3=>3|4=>4|46=>240|5=>5|9=>9|n=>n,fun|n=>n⟩
theorem Tryz.lays134:Go.Proofs.Lays.n134 Tryz.prog Tryz.lays134_ren:={
 mixed:=by kernel_rfl
 f129:=Tryz.func282.trans (congrArg some zk)
 f134:=Tryz.func242.trans (congrArg some zk)
 t3:=Tryz.underlying3
 a3:=Tryz.isAgg3
 z3:=Tryz.sizeOf3
 v3:=Tryz.zeroValue3
 t4:=Tryz.underlying4
 a4:=Tryz.isAgg4
 z4:=Tryz.sizeOf4
 v4:=Tryz.zeroValue4
 t5:=Tryz.underlying5
 a5:=Tryz.isAgg5
 z5:=Tryz.sizeOf5
 v5:=Tryz.zeroValue5
 t9:=Tryz.underlying9
 a9:=Tryz.isAgg9
 z9:=Tryz.sizeOf9
 v9:=Tryz.zeroValue9
 t46:=Tryz.underlying240
 a46:=Tryz.isAgg240
 z46:=Tryz.sizeOf240
 v46:=Tryz.zeroValue240
 t53:=Tryz.underlying193
 a53:=Tryz.isAgg193
 z53:=Tryz.sizeOf193
 v53:=Tryz.zeroValue193 }
theorem Tryz.bits_LeadingZeros64 (x:Int) (w:World) (h0:0≤x) (h1:x≤18446744073709551615) :
  Calls Tryz.prog 242 #[.int .u64 x] w fun e w'=>e= .returned (.int .i64 (64 - (Lib.bitLen x.toNat:Int)))∧w'=w:=Any.bits_LeadingZeros64 Tryz.lays134 x w h0 h1
def Tryz.laysC174_ren:Go.Shelf.Ren:=⟨fun|174=>246|247=>286|245=>287|287=>319|279=>320|280=>321|281=>322|282=>323|321=>334|322=>335|316=>336|171=>249|205=>337|243=>288|246=>324|283=>338|284=>339|285=>340|286=>341|129=>282|317=>347|318=>348|319=>349|320=>350|337=>353|338=>354|n=>n,fun|9=>9|3=>3|2=>2|75=>242|85=>244|4=>4|167=>315|5=>5|53=>193|175=>316|46=>240|168=>318|37=>275|0=>0|210=>333|21=>21|127=>299|145=>344|143=>342|171=>335|173=>337|212=>347|51=>61|20=>20|213=>348|232=>354|233=>355|80=>227|n=>n,fun|15=>2|16=>3|17=>4|18=>5|19=>6|n=>n⟩
theorem Tryz.laysC174:Go.Proofs.LaysC.n174 Tryz.prog Tryz.laysC174_ren:={
 mixed:=by kernel_rfl
 f129:=Tryz.func282.trans (congrArg some zk)
 f171:=Tryz.func249.trans (congrArg some zk)
 f174:=Tryz.func246.trans (congrArg some zk)
 f205:=Tryz.func337.trans (congrArg some zk)
 f243:=Tryz.func288.trans (congrArg some zk)
 f245:=Tryz.func287.trans (congrArg some zk)
 f246:=Tryz.func324.trans (congrArg some zk)
 f247:=Tryz.func286.trans (congrArg some zk)
 f279:=Tryz.func320.trans (congrArg some zk)
 f280:=Tryz.func321.trans (congrArg some zk)
 f281:=Tryz.func322.trans (congrArg some zk)
 f282:=Tryz.func323.trans (congrArg some zk)
 f283:=Tryz.func338.trans (congrArg some zk)
 f284:=Tryz.func339.trans (congrArg some zk)
 f285:=Tryz.func340.trans (congrArg some zk)
 f286:=Tryz.func341.trans (congrArg some zk)
 f287:=Tryz.func319.trans (congrArg some zk)
 f316:=Tryz.func336.trans (congrArg some zk)
 f317:=Tryz.func347.trans (congrArg some zk)
 f318:=Tryz.func348.trans (congrArg some zk)
 f319:=Tryz.func349.trans (congrArg some zk)
 f320:=Tryz.func350.trans (congrArg some zk)
 f321:=Tryz.func334.trans (congrArg some zk)
 f322:=Tryz.func335.trans (congrArg some zk)
 f337:=Tryz.func353.trans (congrArg some zk)
 f338:=Tryz.func354.trans (congrArg some zk)
 t0:=Tryz.underlying0
 a0:=Tryz.isAgg0
 z0:=Tryz.sizeOf0
 v0:=Tryz.zeroValue0
 t2:=Tryz.underlying2
 a2:=Tryz.isAgg2
 z2:=Tryz.sizeOf2
 v2:=Tryz.zeroValue2
 t3:=Tryz.underlying3
 a3:=Tryz.isAgg3
 z3:=Tryz.sizeOf3
 v3:=Tryz.zeroValue3
 t4:=Tryz.underlying4
 a4:=Tryz.isAgg4
 z4:=Tryz.sizeOf4
 v4:=Tryz.zeroValue4
 t5:=Tryz.underlying5
 a5:=Tryz.isAgg5
 z5:=Tryz.sizeOf5
 v5:=Tryz.zeroValue5
 t9:=Tryz.underlying9
 a9:=Tryz.isAgg9
 z9:=Tryz.sizeOf9
 v9:=Tryz.zeroValue9
 t20:=Tryz.underlying20
 a20:=Tryz.isAgg20
 z20:=Tryz.sizeOf20
 v20:=Tryz.zeroValue20
 t21:=Tryz.underlying21
 a21:=Tryz.isAgg21
 z21:=Tryz.sizeOf21
 v21:=Tryz.zeroValue21
 t37:=Tryz.underlying275
 a37:=Tryz.isAgg275
 z37:=Tryz.sizeOf275
 v37:=Tryz.zeroValue275
 t46:=Tryz.underlying240
 a46:=Tryz.isAgg240
 z46:=Tryz.sizeOf240
 v46:=Tryz.zeroValue240
 t51:=Tryz.underlying61
 a51:=Tryz.isAgg61
 z51:=Tryz.sizeOf61
 v51:=Tryz.zeroValue61
 t53:=Tryz.underlying193
 a53:=Tryz.isAgg193
 z53:=Tryz.sizeOf193
 v53:=Tryz.zeroValue193
 t75:=Tryz.underlying242
 a75:=Tryz.isAgg242
 z75:=Tryz.sizeOf242
 v75:=Tryz.zeroValue242
 t85:=Tryz.underlying244
 a85:=Tryz.isAgg244
 z85:=Tryz.sizeOf244
 v85:=Tryz.zeroValue244
 t127:=Tryz.underlying299
 a127:=Tryz.isAgg299
 z127:=Tryz.sizeOf299
 v127:=Tryz.zeroValue299
 t143:=Tryz.underlying342
 a143:=Tryz.isAgg342
 z143:=Tryz.sizeOf342
 v143:=Tryz.zeroValue342
 t145:=Tryz.underlying344
 a145:=Tryz.isAgg344
 z145:=Tryz.sizeOf344
 v145:=Tryz.zeroValue344
 t167:=Tryz.underlying315
 a167:=Tryz.isAgg315
 z167:=Tryz.sizeOf315
 v167:=Tryz.zeroValue315
 t168:=Tryz.underlying318
 a168:=Tryz.isAgg318
 z168:=Tryz.sizeOf318
 v168:=Tryz.zeroValue318
 t171:=Tryz.underlying335
 a171:=Tryz.isAgg335
 z171:=Tryz.sizeOf335
 v171:=Tryz.zeroValue335
 t173:=Tryz.underlying337
 a173:=Tryz.isAgg337
 z173:=Tryz.sizeOf337
 v173:=Tryz.zeroValue337
 t175:=Tryz.underlying316
 a175:=Tryz.isAgg316
 z175:=Tryz.sizeOf316
 v175:=Tryz.zeroValue316
 t210:=Tryz.underlying333
 a210:=Tryz.isAgg333
 z210:=Tryz.sizeOf333
 v210:=Tryz.zeroValue333
 t212:=Tryz.underlying347
 a212:=Tryz.isAgg347
 z212:=Tryz.sizeOf347
 v212:=Tryz.zeroValue347
 t213:=Tryz.underlying348
 a213:=Tryz.isAgg348
 z213:=Tryz.sizeOf348
 t232:=Tryz.underlying354
 a232:=Tryz.isAgg354
 z232:=Tryz.sizeOf354
 v232:=Tryz.zeroValue354
 t233:=Tryz.underlying355
 a233:=Tryz.isAgg355
 z233:=Tryz.sizeOf355
 v233:=Tryz.zeroValue355
 g15:=by kernel_rfl
 g16:=by kernel_rfl
 g17:=by kernel_rfl
 g18:=by kernel_rfl
 g19:=by kernel_rfl
 t80:=Tryz.underlying227
 a80:=Tryz.isAgg227
 z80:=Tryz.sizeOf227
 v80:=Tryz.zeroValue227
 i0:=by kernel_rfl
 i2:=by kernel_rfl
 i3:=by kernel_rfl
 i4:=by kernel_rfl
 i5:=by kernel_rfl
 i9:=by kernel_rfl
 i20:=by kernel_rfl
 i21:=by kernel_rfl
 i37:=by kernel_rfl
 i46:=by kernel_rfl
 i51:=by kernel_rfl
 i53:=by kernel_rfl
 i75:=by kernel_rfl
 i80:=by kernel_rfl
 i85:=by kernel_rfl
 i127:=by kernel_rfl
 i143:=by kernel_rfl
 i145:=by kernel_rfl
 i167:=by kernel_rfl
 i168:=by kernel_rfl
 i171:=by kernel_rfl
 i173:=by kernel_rfl
 i175:=by kernel_rfl
 i210:=by kernel_rfl
 i212:=by kernel_rfl
 i232:=by kernel_rfl
 i233:=by kernel_rfl
 m15:=by kernel_rfl
 m16:=by kernel_rfl
 m17:=by kernel_rfl
 m18:=by kernel_rfl
 m19:=by kernel_rfl
 c0:=by kernel_rfl
 c2:=by kernel_rfl
 c3:=by kernel_rfl
 c4:=by kernel_rfl
 c5:=by kernel_rfl
 c9:=by kernel_rfl
 c20:=by kernel_rfl
 c21:=by kernel_rfl
 c37:=by kernel_rfl
 c46:=by kernel_rfl
 c51:=by kernel_rfl
 c53:=by kernel_rfl
 c75:=by kernel_rfl
 c80:=by kernel_rfl
 c85:=by kernel_rfl
 c127:=by kernel_rfl
 c143:=by kernel_rfl
 c145:=by kernel_rfl
 c167:=by kernel_rfl
 c168:=by kernel_rfl
 c171:=by kernel_rfl
 c173:=by kernel_rfl
 c175:=by kernel_rfl
 c210:=by kernel_rfl
 c212:=by kernel_rfl
 c213:=by kernel_rfl
 c232:=by kernel_rfl
 c233:=by kernel_rfl }
open Go.RowKit in
theorem Tryz.strconv_ParseInt_10_at64_ok (s:ByteArray) (hmax:s.size≤9223372036854775806) (v:Int) (h:Lib.parseIntB 64 s.data.toList= .ok v) (w:World) :
  Calls Tryz.prog 246 #[.string s,.int .i64 10,.int .i64 64] w fun e w'=>e= .returned (.tuple #[.int .i64 v,.nilIface])∧(w'=w∨∃ t,w'=Lib.bytesWorld w 5 t):=Any.strconv_ParseInt_10_at64_ok Tryz.laysC174 s hmax v h w
open Go.RowKit in
theorem Tryz.strconv_ParseInt_10_at64_range (s:ByteArray) (hlim:s.size≤281474976710656) (h:Lib.parseIntB 64 s.data.toList= .range) (ev:Value) (w:World) (hv:w.cell? ⟨3,0,none⟩=some ev) (hev:ev= .nilIface∨∃ te pe,ev= .iface te pe) :
  Calls Tryz.prog 246 #[.string s,.int .i64 10,.int .i64 64] w fun e w'=>∃ N,e= .returned (.tuple #[.int .i64 (Lib.intSat 64 s.data.toList),.iface 318 (.pointer (some ⟨N,0,none⟩))])∧w.heap.size≤N∧w'.heap[N]? =some (.cells #[.string ⟨#[80,97,114,115,101,73,110,116]⟩,.string s,ev] 333 (0,0))∧Below w.heap.size w w':=Any.strconv_ParseInt_10_at64_range Tryz.laysC174 s hlim h ev w hv hev
def Tryz.lays264_ren:Go.Shelf.Ren:=⟨fun|264=>176|n=>n,fun|53=>193|46=>240|n=>n,fun|n=>n⟩
theorem Tryz.lays264:Go.Proofs.Lays.n264 Tryz.prog Tryz.lays264_ren:={
 mixed:=by kernel_rfl
 f264:=Tryz.func176.trans (congrArg some zk)
 t46:=Tryz.underlying240
 a46:=Tryz.isAgg240
 z46:=Tryz.sizeOf240
 v46:=Tryz.zeroValue240
 t53:=Tryz.underlying193
 a53:=Tryz.isAgg193
 z53:=Tryz.sizeOf193
 v53:=Tryz.zeroValue193 }
open Go.RowKit Go.Lib in
theorem Tryz.bits_Mul64 (x y:Nat) (hx:x<18446744073709551616) (hy:y<18446744073709551616) (w:World) :
  Calls Tryz.prog 176 #[.int .u64 x,.int .u64 y] w fun e w'=>e= .returned (.tuple #[.int .u64 ((x*y / 18446744073709551616:Nat):Int),.int .u64 ((x*y%18446744073709551616:Nat):Int)])∧w'=w:=Any.bits_Mul64 Tryz.lays264 x y hx hy w
def Tryz.lays105_ren:Go.Shelf.Ren:=⟨fun|105=>325|212=>342|99=>343|165=>344|166=>271|170=>345|169=>272|263=>351|264=>176|206=>330|240=>303|241=>352|276=>329|277=>355|n=>n,fun|9=>9|3=>3|4=>4|20=>20|0=>0|46=>240|109=>339|5=>5|72=>277|76=>279|51=>61|146=>350|53=>193|148=>194|70=>274|37=>275|75=>242|127=>299|164=>324|80=>227|n=>n,fun|n=>n⟩
theorem Tryz.lays105:Go.Proofs.Lays.n105 Tryz.prog Tryz.lays105_ren:={
 mixed:=by kernel_rfl
 f99:=Tryz.func343.trans (congrArg some zk)
 f105:=Tryz.func325.trans (congrArg some zk)
 f165:=Tryz.func344.trans (congrArg some zk)
 f166:=Tryz.func271.trans (congrArg some zk)
 f169:=Tryz.func272.trans (congrArg some zk)
 f170:=Tryz.func345.trans (congrArg some zk)
 f206:=Tryz.func330.trans (congrArg some zk)
 f212:=Tryz.func342.trans (congrArg some zk)
 f240:=Tryz.func303.trans (congrArg some zk)
 f241:=Tryz.func352.trans (congrArg some zk)
 f263:=Tryz.func351.trans (congrArg some zk)
 f264:=Tryz.func176.trans (congrArg some zk)
 f276:=Tryz.func329.trans (congrArg some zk)
 f277:=Tryz.func355.trans (congrArg some zk)
 t0:=Tryz.underlying0
 a0:=Tryz.isAgg0
 z0:=Tryz.sizeOf0
 v0:=Tryz.zeroValue0
 t3:=Tryz.underlying3
 a3:=Tryz.isAgg3
 z3:=Tryz.sizeOf3
 v3:=Tryz.zeroValue3
 t4:=Tryz.underlying4
 a4:=Tryz.isAgg4
 z4:=Tryz.sizeOf4
 v4:=Tryz.zeroValue4
 t5:=Tryz.underlying5
 a5:=Tryz.isAgg5
 z5:=Tryz.sizeOf5
 v5:=Tryz.zeroValue5
 t9:=Tryz.underlying9
 a9:=Tryz.isAgg9
 z9:=Tryz.sizeOf9
 v9:=Tryz.zeroValue9
 t20:=Tryz.underlying20
 a20:=Tryz.isAgg20
 z20:=Tryz.sizeOf20
 v20:=Tryz.zeroValue20
 t37:=Tryz.underlying275
 a37:=Tryz.isAgg275
 z37:=Tryz.sizeOf275
 v37:=Tryz.zeroValue275
 t46:=Tryz.underlying240
 a46:=Tryz.isAgg240
 z46:=Tryz.sizeOf240
 v46:=Tryz.zeroValue240
 t51:=Tryz.underlying61
 a51:=Tryz.isAgg61
 z51:=Tryz.sizeOf61
 v51:=Tryz.zeroValue61
 t53:=Tryz.underlying193
 a53:=Tryz.isAgg193
 z53:=Tryz.sizeOf193
 v53:=Tryz.zeroValue193
 t70:=Tryz.underlying274
 a70:=Tryz.isAgg274
 z70:=Tryz.sizeOf274
 v70:=Tryz.zeroValue274
 t72:=Tryz.underlying277
 a72:=Tryz.isAgg277
 z72:=Tryz.sizeOf277
 v72:=Tryz.zeroValue277
 t75:=Tryz.underlying242
 a75:=Tryz.isAgg242
 z75:=Tryz.sizeOf242
 v75:=Tryz.zeroValue242
 t76:=Tryz.underlying279
 a76:=Tryz.isAgg279
 z76:=Tryz.sizeOf279
 v76:=Tryz.zeroValue279
 t109:=Tryz.underlying339
 a109:=Tryz.isAgg339
 z109:=Tryz.sizeOf339
 v109:=Tryz.zeroValue339
 t127:=Tryz.underlying299
 a127:=Tryz.isAgg299
 z127:=Tryz.sizeOf299
 v127:=Tryz.zeroValue299
 t146:=Tryz.underlying350
 a146:=Tryz.isAgg350
 z146:=Tryz.sizeOf350
 v146:=Tryz.zeroValue350
 t148:=Tryz.underlying194
 a148:=Tryz.isAgg194
 z148:=Tryz.sizeOf194
 v148:=Tryz.zeroValue194
 t164:=Tryz.underlying324
 a164:=Tryz.isAgg324
 z164:=Tryz.sizeOf324
 v164:=Tryz.zeroValue324 }
theorem Tryz.Builder_Extra_105:Builder.Extra Tryz.prog Tryz.lays105_ren:={
 sizeBuilder:=by kernel_rfl
 liesBuilder:=by kernel_rfl
 t5:=Tryz.underlying5
 a5:=Tryz.isAgg5
 z5:=Tryz.sizeOf5
 v5:=Tryz.zeroValue5
 infoByte:=by kernel_rfl
 cellsByte:=by kernel_rfl
 sizeByte:=by kernel_rfl
 neB5:=by decide }
open Go.RowKit Go.Lib in
theorem Tryz.strings_Repeat (s:ByteArray) (c:Nat) (w:World) (hc:c≤9223372036854775807) (hlen:s.size*c≤140737488355328) :
  Calls Tryz.prog 325 #[.string s,.int .i64 c] w fun e w'=>e= .returned (.string ⟨(Lib.repeatL s.data.toList c).toArray⟩)∧Below w.heap.size w w':=Any.strings_Repeat Tryz.lays105 Tryz.Builder_Extra_105 s c w hc hlen
end Go.Proofs
