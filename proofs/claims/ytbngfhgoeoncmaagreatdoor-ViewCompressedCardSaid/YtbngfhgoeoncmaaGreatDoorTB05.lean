/- Lemmas for the proof. No condition. -/
import Derived.Test.YtbngfhgoeoncmaaGreatDoorTB04
import Derived.Lib.AppendStr
import Derived.Lib.Builder
import Derived.Lib.AppendIntMem
set_option linter.unusedVariables false
set_option linter.unusedSimpArgs false
set_option maxRecDepth 100000
set_option maxHeartbeats 16000000
open Array renaming getElem?_eq_none → bq
open Go.Ending renaming returned → ah
open Go.IntKind renaming i64 → I
open Go.Value renaming int → Z, pointer → au, slice → aj, string → O, tuple → aF
open Nat renaming lt_or_ge → aH
namespace Go.Proofs.iA
open Go Go.RowKit Go.SW Go.Num Go.Mem Go.Proofs
def Pow (w : World) : Prop := Lib.TabIs Tryz.prog w "internal/strconv.uint64pow10" .u64 Lib.pow10Tab
theorem Pow.later {w w':World} (h:Pow w) (hb:Below w.heap.size w w'):Pow w':=Lib.tabBelow_of_tabIs h w' hb
theorem below_grow (w:World) (k:Nat) (os:Array Obj):Below w.heap.size w (Go.Sort.grow (w.drewN k) os):=by
 unfold Go.Sort.grow;refine ⟨rfl,rfl,rfl,?_,fun i hi=>?_⟩
 ·simp
 ·simp only [World.drewN];rw [Array.getElem?_append_left hi]
theorem infoByte:(Tryz.prog.info? 5).map (fun i=>(i.zero,i.size,i.bytes))=some (some (.int .u8 0),1,1):=by kernel_rfl
theorem Kq:(Tryz.prog.info? 290).map (·.size)=some 2:=by kernel_rfl
abbrev Ju (B b:Nat) (bs:List Value) (w:World):Prop:=Lib.IsBuilder 290 5 B b bs w
abbrev AtB (B b:Nat) (bs:List Value) (w:World):Prop:=Lib.BuilderAt 290 5 B b (au (some ⟨b,0,none⟩)) bs w
theorem Bh {w w':World} (h:Below w.heap.size w w'):w.grownBy w' none:=⟨h.os,h.tape,h.output,h.size,fun i hi _=>h.block i hi⟩
theorem Cg {p:Value} {B b:Nat} {bs:List Value} {w w':World} (h:Lib.BuilderAt 290 5 B b p bs w) (hb:Below w.heap.size w w'):Lib.BuilderAt 290 5 B b p bs w':=by
 have hl:=h.lt;obtain ⟨hB,v,hbk,hown,hne⟩:=h;refine ⟨hB,v,(hb.block _ hl).trans hbk,hown.kept (Bh hb) ?_,hne⟩;cases h:v.ownBlock with
 | none=>exact .inl rfl
 | some k=>exact .inr zi
theorem Ju.later {B b:Nat} {bs:List Value} {w w':World} (h:Ju B b bs w) (hb:Below w.heap.size w w'):Ju B b bs w':=by
 rcases h with h|h
 ·exact .inl (Cg h hb)
 ·exact .inr (Cg h hb)
theorem Pv (n:Nat):Lib.itoa (n:Int)=Lib.decDigits n:=by
 unfold Lib.itoa;rw [if_neg zo,Int.toNat_natCast]
theorem Km (n:Nat) (h:n<1000000000) (w:World) (ht:Pow w) :
  Calls Tryz.prog 149 #[Z I n] w fun e w'=>e= ah (O ⟨(Lib.decDigits n).toArray⟩)∧Below w.heap.size w w':=by
 refine (Tryz.strconv_Itoa n zo zo w ht).mono ?_;rintro e w' ⟨rfl,k,os,rfl⟩;rw [Pv];exact ⟨rfl,below_grow _ _ _⟩
theorem Am (b:Nat) (w:World) (h0:w.cell? ⟨b,0,none⟩=some (.pointer (some ⟨b,0,none⟩))) :
  Calls Tryz.prog 278 #[au (some ⟨b,0,none⟩)] w fun e w'=>e= ah (aF #[])∧w'=w:=by
 obtain ⟨j,hj,_⟩:=Option.map_eq_some_iff.1 Kq;go_enter Tryz.func278,Tryz.ntmps278
 go_wp2
 rw [Lib.run_neq_ptr_same w _ Tryz.underlying287 hj]
 go_wp2
 go_end0
 exact ⟨rfl,rfl⟩
theorem xO (b:Nat) (w:World) (h0:w.cell? ⟨b,0,none⟩=some (.pointer none)) (hsh:w.shape? b=some (290,2)) (hfz:w.frozen? ⟨b,0,none⟩=false) :
  Calls Tryz.prog 278 #[au (some ⟨b,0,none⟩)] w fun e w'=>e= ah (aF #[])∧w'=w.setCell ⟨b,0,none⟩ (au (some ⟨b,0,none⟩)):=by
 obtain ⟨j,hj,hjs⟩:=Option.map_eq_some_iff.1 Kq;go_enter Tryz.func278,Tryz.ntmps278
 go_wp2
 rw [Lib.run_to_unsafe w ⟨b,0,none⟩ Tryz.underlying287 Tryz.underlying349 hj (by rw [hjs];decide) hsh (Nat.zero_lt_succ 1)];simp only [Result.andThen];rw [Oper.upon_value]
 go_wp2
 rw [run_callFunc_extern Tryz.func303 zk zk zk (e:=Extern.AbiNoEscape.same) zk];rw [Lib.run_noEscape];simp only [Result.andThen];rw [Oper.upon_value]
 go_wp2
 rw [Lib.run_from_unsafe w ⟨b,0,none⟩ Tryz.underlying349 Tryz.underlying287 hj hsh zk];simp only [Result.andThen];rw [Oper.upon_value]
 go_wp2
 go_end0
 exact ⟨rfl,rfl⟩
theorem uY (B b:Nat) (bs:List Value) (w:World) (h:Ju B b bs w) :
  Calls Tryz.prog 278 #[au (some ⟨b,0,none⟩)] w fun e w'=>e= ah (aF #[])∧(AtB B b bs w'∧Below B w w'):=by
 rcases h with h|h
 ·refine (xO b w h.cell0 h.shape h.frozen0).mono ?_;rintro e w' ⟨rfl,rfl⟩;exact ⟨rfl,h.used _,(Below.refl B w).setCell (p:=⟨b,0,none⟩) h.1 _⟩
 ·refine (Am b w h.cell0).mono ?_;rintro e w' ⟨rfl,rfl⟩;exact ⟨rfl,h,Below.refl B _⟩
theorem Cq (B b:Nat) (bs:List Value) (c:Int) (w:World) (h:Ju B b bs w) (hlen:bs.length+1≤140737488355328) (hBw:B≤w.heap.size) :
  Calls Tryz.prog 227 #[au (some ⟨b,0,none⟩),Z .u8 c] w fun e w'=>e= ah .nilIface∧(AtB B b (bs++[Z .u8 c]) w'∧Below B w w'):=by
 obtain ⟨i0,hi,hz0,hz1,hz2⟩:=info_parts infoByte;go_enter Tryz.func227,Tryz.ntmps227
 go_wp2_with (go_at_call 278;refine (uY B b bs _ h).mono ?_;rintro e w1 ⟨rfl,h1,hb1⟩;refine Hid.out ?_)
 obtain ⟨hB,v,hbk,hown,hne⟩:=h1;have c0:w1.cell? ⟨b,0,none⟩=some (.pointer (some ⟨b,0,none⟩)):=by rw [Lib.cell_of_heap hbk];rfl
 have c1:w1.cell? ⟨b,1,none⟩=some v:=by rw [Lib.cell_of_heap hbk];rfl
 refine zh ?_;go_wp2_with (at_builtin;refine wpList_append_own _ rfl _ _ 288 rfl B 5 i0 (Z .u8 0) 1 1 Tryz.underlying288 hi hz0 hz1 hz2 rfl zd _ _ _ rfl (hown.alloc _) ⟨w1.heap.size,0,none⟩ 1 1 [Z .u8 c] rfl rfl ?c1 ?c2 ?c3 ?c4 ?c5 ?_)
 case c1 =>
  intro j u hj
  match j,hj with
  | 0,hj=>simp at hj;subst hj;simp [Addr.add]
 case c2=>intro u hu;simp at hu;subst hu;rfl
 case c3=>unfold maxLen;omega
 case c4=>omega
 case c5=>have:=hb1.size;simp;omega
 intro v' w2 hown' hgrow _
 have hlt:b<w1.heap.size:=by
  rcases aH b w1.heap.size with h'|h'
  ·exact h'
  ·simp [bq h'] at hbk
 have hb2:w2.heap[b]? =some (.cells #[au (some ⟨b,0,none⟩),v] 290 (0,0)):=by
  rw [hgrow.block b (by simp;omega) (fun e=>hne e.symm),Lib.alloc_old w1 _ b hlt];exact hbk
 have d0:w2.cell? ⟨b,0,none⟩=some (.pointer (some ⟨b,0,none⟩)):=by rw [Lib.cell_of_heap hb2];rfl
 have d1:w2.cell? ⟨b,1,none⟩=some v:=by rw [Lib.cell_of_heap hb2];rfl
 have f1:w2.frozen? ⟨b,1,none⟩=false:=Lib.frozen_of_heap hb2 1
 obtain ⟨g,cap,rfl⟩:∃ g cap,v'= aj (some ⟨g,0,none⟩) (bs.length+1) cap:=by
  rcases hown'.2 with ⟨_,h0⟩|⟨g,cap,cur,hv,_⟩
  ·omega
  ·exact ⟨g,cap,hv⟩
 go_wp2
 go_ret
 refine ⟨rfl,?_,?_⟩
 ·exact Lib.BuilderAt.put (T:=290) (e:=5) hB hb2 (bs':=bs++[Z .u8 c]) (by simpa using hown') zd
 ·exact ((hb1.alloc (by have:=hb1.size;omega) _).grown hgrow (by have:=hb1.size;simp;omega) (fun k hk=>(hown.lt k hk).1)).setCell (p:=⟨b,1,none⟩) hB _
theorem yC (B b:Nat) (bs:List Value) (s:ByteArray) (w:World) (h:Ju B b bs w) (hlen:bs.length+s.size≤140737488355328) (hBw:B≤w.heap.size) :
  Calls Tryz.prog 228 #[au (some ⟨b,0,none⟩),O s] w fun e w'=>e= ah (aF #[Z I s.size,.nilIface])∧(AtB B b (bs++Lib.strCells s) w'∧Below B w w'):=by
 obtain ⟨i0,hi,hz0,hz1,hz2⟩:=info_parts infoByte;go_enter Tryz.func228,Tryz.ntmps228
 go_wp2_with (go_at_call 278;refine (uY B b bs _ h).mono ?_;rintro e w1 ⟨rfl,h1,hb1⟩;refine Hid.out ?_)
 obtain ⟨hB,v,hbk,hown,hne⟩:=h1;have c0:w1.cell? ⟨b,0,none⟩=some (.pointer (some ⟨b,0,none⟩)):=by rw [Lib.cell_of_heap hbk];rfl
 have c1:w1.cell? ⟨b,1,none⟩=some v:=by rw [Lib.cell_of_heap hbk];rfl
 refine zh ?_;go_wp2_with (at_builtin;refine Lib.wpList_append_own_string _ rfl _ _ 288 9 rfl B 5 i0 Tryz.underlying288 Tryz.underlying9 hi hz0 hz1 hz2 _ _ _ rfl hown s rfl ?c3 ?c4 ?c5 ?_)
 case c3=>unfold maxLen;omega
 case c4=>omega
 case c5=>have:=hb1.size;omega
 intro v' w2 hown' hgrow _
 have hlt:b<w1.heap.size:=by
  rcases aH b w1.heap.size with h'|h'
  ·exact h'
  ·simp [bq h'] at hbk
 have hb2:w2.heap[b]? =some (.cells #[au (some ⟨b,0,none⟩),v] 290 (0,0)):=by
  rw [hgrow.block b hlt (fun e=>hne e.symm)];exact hbk
 have d0:w2.cell? ⟨b,0,none⟩=some (.pointer (some ⟨b,0,none⟩)):=by rw [Lib.cell_of_heap hb2];rfl
 have d1:w2.cell? ⟨b,1,none⟩=some v:=by rw [Lib.cell_of_heap hb2];rfl
 have f1:w2.frozen? ⟨b,1,none⟩=false:=Lib.frozen_of_heap hb2 1
 obtain ⟨ao,n',cap,rfl⟩:∃ ao n' cap,v'= aj ao n' cap:=by
  rcases hown'.2 with ⟨hv,_⟩|⟨g,cap,cur,hv,_⟩
  ·exact ⟨_,_,_,hv⟩
  ·exact ⟨_,_,_,hv⟩
 go_wp2
 go_ret2
 refine ⟨rfl,?_,?_⟩
 ·exact Lib.BuilderAt.put (T:=290) (e:=5) hB hb2 (bs':=bs++Lib.strCells s) (by simpa [Lib.strCells_length] using hown') zd
 ·exact (hb1.grown hgrow (by have:=hb1.size;omega) (fun k hk=>(hown.lt k hk).1)).setCell (p:=⟨b,1,none⟩) hB _
end Go.Proofs.iA
