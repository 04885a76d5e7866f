/- Lemmas for the proof. No condition. -/
import Derived.Test.YtfhappbmgghgdaaGreatDoorIB01
import Derived.Test.YtfhappbmgghgdaaGreatDoorIB02
import Derived.Test.YtfhappbmgghgdaaGreatDoorProg
import Derived.Lib.AppendStr
import Derived.Lib.Builder
import Derived.Lib.AppendIntMem
import Derived.RangeFuncCalls
import Derived.OrdersIn
import Derived.KernelRfl
import Derived.WalkMore
set_option linter.unusedVariables false
set_option linter.unusedSimpArgs false
set_option maxRecDepth 100000
set_option maxHeartbeats 16000000
namespace Go.Proofs.qP
open Go Go.RowKit Go.SW Go.Num Go.Mem Go.Proofs
def Pow (w : World) : Prop := Lib.TabIs Tryz.prog w "internal/strconv.uint64pow10" .u64 Lib.pow10Tab
theorem Pow.later {w w':World} (h:Pow w) (hb:Below w.heap.size w w'):Pow w':=Lib.tabBelow_of_tabIs h w' hb
theorem below_grow (w:World) (k:Nat) (os:Array Obj):Below w.heap.size w (Go.Sort.grow (w.drewN k) os):=by
 unfold Go.Sort.grow
 refine ⟨rfl,rfl,rfl,?_,fun i hi=>?_⟩
 ·simp
 ·simp only [World.drewN]
  rw [Array.getElem?_append_left hi]
theorem infoByte:(Tryz.prog.info? 5).map (fun i=>(i.zero,i.size,i.bytes))=some (some (.int .u8 0),1,1):=by kernel_rfl
theorem Lv:(Tryz.prog.info? 174).map (·.size)=some 2:=by kernel_rfl
abbrev Pj (B b:Nat) (bs:List Value) (w:World):Prop:=Lib.IsBuilder 174 5 B b bs w
abbrev AtB (B b:Nat) (bs:List Value) (w:World):Prop:=Lib.BuilderAt 174 5 B b (.pointer (some ⟨b,0,none⟩)) bs w
theorem AA {w w':World} (h:Below w.heap.size w w'):w.grownBy w' none:=⟨h.os,h.tape,h.output,h.size,fun i hi _=>h.block i hi⟩
theorem BL {p:Value} {B b:Nat} {bs:List Value} {w w':World} (h:Lib.BuilderAt 174 5 B b p bs w) (hb:Below w.heap.size w w'):Lib.BuilderAt 174 5 B b p bs w':=by
 have hl:=h.lt
 obtain ⟨hB,v,hbk,hown,hne⟩:=h
 refine ⟨hB,v,(hb.block _ hl).trans hbk,hown.kept (AA hb) ?_,hne⟩
 cases h:v.ownBlock with
 | none=>exact .inl rfl
 | some k=>exact .inr zi
theorem Pj.later {B b:Nat} {bs:List Value} {w w':World} (h:Pj B b bs w) (hb:Below w.heap.size w w'):Pj B b bs w':=by
 rcases h with h|h
 ·exact .inl (BL h hb)
 ·exact .inr (BL h hb)
theorem Sw (n:Nat):Lib.itoa (n:Int)=Lib.decDigits n:=by
 unfold Lib.itoa
 rw [if_neg zo,Int.toNat_natCast]
theorem Lp (n:Nat) (h:n<1000000000) (w:World) (ht:Pow w) :
  Calls Tryz.prog 175 #[.int .i64 n] w fun e w'=>e= .returned (.string ⟨(Lib.decDigits n).toArray⟩)∧Below w.heap.size w w':=by
 refine (Tryz.strconv_Itoa n zo zo w ht).mono ?_
 rintro e w' ⟨rfl,k,os,rfl⟩
 rw [Sw]
 exact ⟨rfl,below_grow _ _ _⟩
theorem zS (b:Nat) (w:World) (h0:w.cell? ⟨b,0,none⟩=some (.pointer (some ⟨b,0,none⟩))) :
  Calls Tryz.prog 163 #[.pointer (some ⟨b,0,none⟩)] w fun e w'=>e= .returned (.tuple #[])∧w'=w:=by
 obtain ⟨j,hj,_⟩:=Option.map_eq_some_iff.1 Lv
 go_enter Tryz.func163,Tryz.ntmps163
 go_wp2
 rw [Lib.run_neq_ptr_same w _ Tryz.underlying171 hj]
 go_wp2
 go_end0
 exact ⟨rfl,rfl⟩
theorem xG (b:Nat) (w:World) (h0:w.cell? ⟨b,0,none⟩=some (.pointer none)) (hsh:w.shape? b=some (174,2)) (hfz:w.frozen? ⟨b,0,none⟩=false) :
  Calls Tryz.prog 163 #[.pointer (some ⟨b,0,none⟩)] w fun e w'=>e= .returned (.tuple #[])∧w'=w.setCell ⟨b,0,none⟩ (.pointer (some ⟨b,0,none⟩)):=by
 obtain ⟨j,hj,hjs⟩:=Option.map_eq_some_iff.1 Lv
 go_enter Tryz.func163,Tryz.ntmps163
 go_wp2
 rw [Lib.run_to_unsafe w ⟨b,0,none⟩ Tryz.underlying171 Tryz.underlying278 hj (by rw [hjs];decide) hsh (Nat.zero_lt_succ 1)]
 simp only [Result.andThen]
 rw [Oper.upon_value]
 go_wp2
 rw [run_callFunc_extern Tryz.func216 zk zk zk (e:=Extern.AbiNoEscape.same) zk]
 rw [Lib.run_noEscape]
 simp only [Result.andThen]
 rw [Oper.upon_value]
 go_wp2
 rw [Lib.run_from_unsafe w ⟨b,0,none⟩ Tryz.underlying278 Tryz.underlying171 hj hsh zk]
 simp only [Result.andThen]
 rw [Oper.upon_value]
 go_wp2
 go_end0
 exact ⟨rfl,rfl⟩
theorem uO (B b:Nat) (bs:List Value) (w:World) (h:Pj B b bs w) :
  Calls Tryz.prog 163 #[.pointer (some ⟨b,0,none⟩)] w fun e w'=>e= .returned (.tuple #[])∧(AtB B b bs w'∧Below B w w'):=by
 rcases h with h|h
 ·refine (xG b w h.cell0 h.shape h.frozen0).mono ?_
  rintro e w' ⟨rfl,rfl⟩
  exact ⟨rfl,h.used _,(Below.refl B w).setCell (p:=⟨b,0,none⟩) h.1 _⟩
 ·refine (zS b w h.cell0).mono ?_
  rintro e w' ⟨rfl,rfl⟩
  exact ⟨rfl,h,Below.refl B _⟩
theorem Cc (B b:Nat) (bs:List Value) (c:Int) (w:World) (h:Pj B b bs w) (hlen:bs.length+1≤140737488355328) (hBw:B≤w.heap.size) :
  Calls Tryz.prog 177 #[.pointer (some ⟨b,0,none⟩),.int .u8 c] w fun e w'=>e= .returned .nilIface∧(AtB B b (bs++[.int .u8 c]) w'∧Below B w w'):=by
 obtain ⟨i0,hi,hz0,hz1,hz2⟩:=info_parts infoByte
 go_enter Tryz.func177,Tryz.ntmps177
 go_wp2_with (go_at_call 163;refine (uO B b bs _ h).mono ?_;rintro e w1 ⟨rfl,h1,hb1⟩;refine Hid.out ?_)
 obtain ⟨hB,v,hbk,hown,hne⟩:=h1
 have c0:w1.cell? ⟨b,0,none⟩=some (.pointer (some ⟨b,0,none⟩)):=by rw [Lib.cell_of_heap hbk];rfl
 have c1:w1.cell? ⟨b,1,none⟩=some v:=by rw [Lib.cell_of_heap hbk];rfl
 refine zh ?_
 go_wp2_with (at_builtin;refine wpList_append_own _ rfl _ _ 172 rfl B 5 i0 (.int .u8 0) 1 1 Tryz.underlying172 hi hz0 hz1 hz2 rfl zd _ _ _ rfl (hown.alloc _) ⟨w1.heap.size,0,none⟩ 1 1 [.int .u8 c] rfl rfl ?c1 ?c2 ?c3 ?c4 ?c5 ?_)
 case c1 =>
  intro j u hj
  match j,hj with
  | 0,hj=>simp at hj;subst hj;simp [Addr.add]
 case c2=>intro u hu;simp at hu;subst hu;rfl
 case c3=>unfold maxLen;omega
 case c4=>omega
 case c5=>have:=hb1.size;simp;omega
 intro v' w2 hown' hgrow _
 have hlt:b<w1.heap.size:=by
  rcases Nat.lt_or_ge b w1.heap.size with h'|h'
  ·exact h'
  ·simp [Array.getElem?_eq_none h'] at hbk
 have hb2:w2.heap[b]? =some (.cells #[.pointer (some ⟨b,0,none⟩),v] 174 (0,0)):=by
  rw [hgrow.block b (by simp;omega) (fun e=>hne e.symm),Lib.alloc_old w1 _ b hlt]
  exact hbk
 have d0:w2.cell? ⟨b,0,none⟩=some (.pointer (some ⟨b,0,none⟩)):=by rw [Lib.cell_of_heap hb2];rfl
 have d1:w2.cell? ⟨b,1,none⟩=some v:=by rw [Lib.cell_of_heap hb2];rfl
 have f1:w2.frozen? ⟨b,1,none⟩=false:=Lib.frozen_of_heap hb2 1
 obtain ⟨g,cap,rfl⟩:∃ g cap,v'= .slice (some ⟨g,0,none⟩) (bs.length+1) cap:=by
  rcases hown'.2 with ⟨_,h0⟩|⟨g,cap,cur,hv,_⟩
  ·omega
  ·exact ⟨g,cap,hv⟩
 go_wp2
 go_ret
 refine ⟨rfl,?_,?_⟩
 ·exact Lib.BuilderAt.put (T:=174) (e:=5) hB hb2 (bs':=bs++[.int .u8 c]) (by simpa using hown') zd
 ·exact ((hb1.alloc (by have:=hb1.size;omega) _).grown hgrow (by have:=hb1.size;simp;omega) (fun k hk=>(hown.lt k hk).1)).setCell (p:=⟨b,1,none⟩) hB _
theorem yc (B b:Nat) (bs:List Value) (s:ByteArray) (w:World) (h:Pj B b bs w) (hlen:bs.length+s.size≤140737488355328) (hBw:B≤w.heap.size) :
  Calls Tryz.prog 106 #[.pointer (some ⟨b,0,none⟩),.string s] w fun e w'=>e= .returned (.tuple #[.int .i64 s.size,.nilIface])∧(AtB B b (bs++Lib.strCells s) w'∧Below B w w'):=by
 obtain ⟨i0,hi,hz0,hz1,hz2⟩:=info_parts infoByte
 go_enter Tryz.func106,Tryz.ntmps106
 go_wp2_with (go_at_call 163;refine (uO B b bs _ h).mono ?_;rintro e w1 ⟨rfl,h1,hb1⟩;refine Hid.out ?_)
 obtain ⟨hB,v,hbk,hown,hne⟩:=h1
 have c0:w1.cell? ⟨b,0,none⟩=some (.pointer (some ⟨b,0,none⟩)):=by rw [Lib.cell_of_heap hbk];rfl
 have c1:w1.cell? ⟨b,1,none⟩=some v:=by rw [Lib.cell_of_heap hbk];rfl
 refine zh ?_
 go_wp2_with (at_builtin;refine Lib.wpList_append_own_string _ rfl _ _ 172 9 rfl B 5 i0 Tryz.underlying172 Tryz.underlying9 hi hz0 hz1 hz2 _ _ _ rfl hown s rfl ?c3 ?c4 ?c5 ?_)
 case c3=>unfold maxLen;omega
 case c4=>omega
 case c5=>have:=hb1.size;omega
 intro v' w2 hown' hgrow _
 have hlt:b<w1.heap.size:=by
  rcases Nat.lt_or_ge b w1.heap.size with h'|h'
  ·exact h'
  ·simp [Array.getElem?_eq_none h'] at hbk
 have hb2:w2.heap[b]? =some (.cells #[.pointer (some ⟨b,0,none⟩),v] 174 (0,0)):=by
  rw [hgrow.block b hlt (fun e=>hne e.symm)]
  exact hbk
 have d0:w2.cell? ⟨b,0,none⟩=some (.pointer (some ⟨b,0,none⟩)):=by rw [Lib.cell_of_heap hb2];rfl
 have d1:w2.cell? ⟨b,1,none⟩=some v:=by rw [Lib.cell_of_heap hb2];rfl
 have f1:w2.frozen? ⟨b,1,none⟩=false:=Lib.frozen_of_heap hb2 1
 obtain ⟨ao,n',cap,rfl⟩:∃ ao n' cap,v'= .slice ao n' cap:=by
  rcases hown'.2 with ⟨hv,_⟩|⟨g,cap,cur,hv,_⟩
  ·exact ⟨_,_,_,hv⟩
  ·exact ⟨_,_,_,hv⟩
 go_wp2
 go_ret2
 refine ⟨rfl,?_,?_⟩
 ·exact Lib.BuilderAt.put (T:=174) (e:=5) hB hb2 (bs':=bs++Lib.strCells s) (by simpa [Lib.strCells_length] using hown') zd
 ·exact (hb1.grown hgrow (by have:=hb1.size;omega) (fun k hk=>(hown.lt k hk).1)).setCell (p:=⟨b,1,none⟩) hB _
end Go.Proofs.qP
namespace Go.Num
theorem lg {B:Nat} {v:List Nat} {k:Nat} (hv:v.length=k+2):val B v=val B (v.take k)+B^k*(v.getD k 0+B*v.getD (k+1) 0):=by
 have h1:=aZ B (l:=v) (k:=k) zo
 have h2:=aZ B (l:=v) (k:=k+1) zo
 rw [show k+1+1=v.length by omega,List.take_length] at h2
 rw [h2,h1,Nat.mul_add,Nat.pow_succ,Nat.mul_assoc,Nat.add_assoc]
theorem sD {B:Nat} {u:List Nat} {k:Nat} (hu:u.length=k+3):val B u=val B (u.take k)+B^k*(u.getD k 0+B*(u.getD (k+1) 0+B*u.getD (k+2) 0)):=by
 have h1:=aZ B (l:=u) (k:=k) zo
 have h2:=aZ B (l:=u) (k:=k+1) zo
 have h3:=aZ B (l:=u) (k:=k+2) zo
 rw [show k+2+1=u.length by omega,List.take_length] at h3
 rw [h3,h2,h1]
 simp only [Nat.mul_add,Nat.pow_succ,Nat.mul_assoc]
 omega
structure Ir (B U V top head q r:Nat):Prop where
 split:q*top+r=head
 high:U / V≤q
 bound:q≤B+1
section
variable {B:Nat} {u v:List Nat} {k:Nat}
theorem Gx (hB:1<B) (hu:u.length=k+3) (hv:v.length=k+2) (du:dB B u) (ht:B≤2*v.getD (k+1) 0) (hlt:val B u<val B v*B) (dv:dB B v) :
  Ir B (val B u) (val B v) (v.getD (k+1) 0) (u.getD (k+2) 0*B+u.getD (k+1) 0) ((u.getD (k+2) 0*B+u.getD (k+1) 0) / v.getD (k+1) 0) ((u.getD (k+2) 0*B+u.getD (k+1) 0)%v.getD (k+1) 0):=by
 have eu:=sD (B:=B) hu
 have ev:=lg (B:=B) hv
 have lu:=eF zo (du.take k)
 have lv:=eF zo (dv.take k)
 rw [show (u.take k).length=k by simp;omega] at lu
 rw [show (v.take k).length=k by simp;omega] at lv
 have d0:=du.getD zo k
 have d1:=du.getD zo (k+1)
 have f0:=dv.getD zo k
 generalize u.getD k 0=u2 at *
 generalize u.getD (k+1) 0=u1 at *
 generalize u.getD (k+2) 0=un at *
 generalize v.getD k 0=v2 at *
 generalize v.getD (k+1) 0=top at *
 generalize val B (u.take k)=a at *
 generalize val B (v.take k)=b at *
 have hp:0<B^k:=Nat.pow_pos zo
 generalize B^k=p at *
 have htop:0<top:=by omega
 have hV:0<val B v:=by
  rw [ev]
  have:0<p*(v2+B*top):=Nat.mul_pos hp (by have:=Nat.mul_pos (by omega:0<B) htop;omega)
  omega
 have Oo:=Nat.div_add_mod (un*B+u1) top
 have hml:=Nat.mod_lt (un*B+u1) htop
 refine ⟨by rw [Nat.mul_comm];exact Oo,?_,?_⟩
 ·rw [← Nat.lt_succ_iff,Nat.div_lt_iff_lt_mul hV,eu,ev]
  generalize (un*B+u1) / top=q at *
  have h1:un*B+u1+1≤(q+1)*top:=by rw [Nat.add_mul,Nat.one_mul,Nat.mul_comm q];omega
  have h2:p*(B*(un*B+u1+1))≤p*(B*((q+1)*top)):=Nat.mul_le_mul_left _ (Nat.mul_le_mul_left _ h1)
  have h3:a+p*(u2+B*(u1+B*un))<p*(B*(un*B+u1+1)):=by
   have:p*(u2+B*(u1+B*un)+1)≤p*(B*(un*B+u1+1)):=Nat.mul_le_mul_left _ (by rw [Nat.mul_add B (un*B+u1),Nat.mul_one,Nat.add_comm u1,Nat.mul_comm B un];omega)
   rw [Nat.mul_add,Nat.mul_one] at this
   omega
  have h4:p*(B*((q+1)*top))≤Nat.succ q*(b+p*(v2+B*top)):=by
   rw [Nat.succ_eq_add_one,show p*(B*((q+1)*top))=(q+1)*(p*(B*top)) by rw [Nat.mul_left_comm B,Nat.mul_left_comm p]]
   refine Nat.mul_le_mul_left _ ?_
   rw [Nat.mul_add p];omega
  omega
 ·-- the highest digit of u is at most that of v
  have h1:un≤top:=by
   rcases Nat.lt_or_ge top un with h|h
   ·exfalso
    rw [eu,ev] at hlt
    have h2:p*(B*(B*(top+1)))≤p*(B*(B*un)):=Nat.mul_le_mul_left _ (Nat.mul_le_mul_left _ (Nat.mul_le_mul_left _ h))
    have h3:(b+p*(v2+B*top))*B≤p*(B*(B*(top+1))):=by
     have:b+p*(v2+B*top)≤p*(B*(top+1)):=by
      have h5:p*(v2+1+B*top)≤p*(B*(top+1)):=Nat.mul_le_mul_left _ (by rw [Nat.mul_add B top,Nat.mul_one];omega)
      simp only [Nat.mul_add,Nat.mul_one] at h5 ⊢
      omega
     calc (b+p*(v2+B*top))*B≤p*(B*(top+1))*B:=Nat.mul_le_mul_right _ this
      _=p*(B*(B*(top+1))):=by rw [Nat.mul_assoc,Nat.mul_comm (B*(top+1)) B]
    have h4:p*(B*(B*un))≤a+p*(u2+B*(u1+B*un)):=by simp only [Nat.mul_add];omega
    omega
   ·exact h
  have h2:(un*B+u1) / top<B+2:=by
   rw [Nat.div_lt_iff_lt_mul htop]
   have h3:un*B≤top*B:=Nat.mul_le_mul_right _ h1
   rw [Nat.add_mul,Nat.mul_comm B top]
   omega
  omega
theorem JJ (hB:1<B) (hu:u.length=k+3) (hv:v.length=k+2) (du:dB B u) {q r:Nat} (ht:0<v.getD (k+1) 0) (hlt:val B u<val B v*B)
  (g:Ir B (val B u) (val B v) (v.getD (k+1) 0) (u.getD (k+2) 0*B+u.getD (k+1) 0) q r) (hc:B≤q∨r*B+u.getD k 0<q*v.getD k 0) :
  1≤q∧Ir B (val B u) (val B v) (v.getD (k+1) 0) (u.getD (k+2) 0*B+u.getD (k+1) 0) (q - 1) (r+v.getD (k+1) 0):=by
 have eu:=sD (B:=B) hu
 have ev:=lg (B:=B) hv
 have lu:=eF zo (du.take k)
 rw [show (u.take k).length=k by simp;omega] at lu
 obtain ⟨g1,g2,g3⟩:=g
 generalize u.getD k 0=u2 at *
 generalize u.getD (k+1) 0=u1 at *
 generalize u.getD (k+2) 0=un at *
 generalize v.getD k 0=v2 at *
 generalize v.getD (k+1) 0=top at *
 generalize val B (u.take k)=a at *
 generalize val B (v.take k)=b at *
 have hp:0<B^k:=Nat.pow_pos zo
 generalize B^k=p at *
 have hV:0<val B v:=by
  rw [ev]
  have:0<p*(v2+B*top):=Nat.mul_pos hp (by have:=Nat.mul_pos (by omega:0<B) ht;omega)
  omega
 have hq:val B u / val B v<q:=by
  rcases hc with hc|hc
  ·have:val B u / val B v<B:=by rw [Nat.div_lt_iff_lt_mul hV,Nat.mul_comm];exact hlt
   omega
  ·rw [Nat.div_lt_iff_lt_mul hV,eu,ev]
   have h1:u2+B*(u1+B*un)+1≤q*(v2+B*top):=by
    have:B*(q*top+r)=B*(un*B+u1):=by rw [g1]
    rw [Nat.mul_add B (q*top)] at this
    rw [Nat.mul_add q,Nat.mul_left_comm q B top]
    rw [Nat.mul_add B u1,← Nat.mul_comm un B]
    rw [Nat.mul_add B (un*B)] at this
    rw [Nat.mul_comm r B] at hc
    omega
   have h2:=Nat.mul_le_mul_left p h1
   rw [Nat.mul_add p,Nat.mul_one] at h2
   have h3:p*(q*(v2+B*top))≤q*(b+p*(v2+B*top)):=by
    rw [Nat.mul_left_comm]
    exact Nat.mul_le_mul_left _ zo
   omega
 have hq0:=Nat.zero_le (val B u / val B v)
 obtain ⟨q,rfl⟩:∃ q',q=q'+1:=⟨q - 1,by omega⟩
 refine ⟨by omega,?_,by simp only [Nat.add_sub_cancel];omega,by omega⟩
 rw [Nat.add_mul,Nat.one_mul] at g1
 simp only [Nat.add_sub_cancel]
 omega
theorem Ow (hB:1<B) (hu:u.length=k+3) (hv:v.length=k+2) (dv:dB B v) {q r:Nat} (ht:0<v.getD (k+1) 0)
  (g:Ir B (val B u) (val B v) (v.getD (k+1) 0) (u.getD (k+2) 0*B+u.getD (k+1) 0) q r) (hc:q≤B) (hc2:q*v.getD k 0≤r*B+u.getD k 0):q≤val B u / val B v+1:=by
 have eu:=sD (B:=B) hu
 have ev:=lg (B:=B) hv
 have lv:=eF zo (dv.take k)
 rw [show (v.take k).length=k by simp;omega] at lv
 obtain ⟨g1,g2,g3⟩:=g
 generalize u.getD k 0=u2 at *
 generalize u.getD (k+1) 0=u1 at *
 generalize u.getD (k+2) 0=un at *
 generalize v.getD k 0=v2 at *
 generalize v.getD (k+1) 0=top at *
 generalize val B (u.take k)=a at *
 generalize val B (v.take k)=b at *
 have hp:0<B^k:=Nat.pow_pos zo
 generalize B^k=p at *
 have hV:0<val B v:=by
  rw [ev]
  have:0<p*(v2+B*top):=Nat.mul_pos hp (by have:=Nat.mul_pos (by omega:0<B) ht;omega)
  omega
 have hq0:=Nat.zero_le (val B u / val B v)
 rcases Nat.eq_zero_or_pos q with h0|h0
 ·omega
 obtain ⟨q',rfl⟩:∃ q',q=q'+1:=⟨q - 1,by omega⟩
 rw [Nat.add_le_add_iff_right,Nat.le_div_iff_mul_le hV]
 have h1:(q'+1)*(v2+B*top)≤u2+B*(u1+B*un):=by
  have:B*((q'+1)*top+r)=B*(un*B+u1):=by rw [g1]
  rw [Nat.mul_add B ((q'+1)*top)] at this
  rw [Nat.mul_add (q'+1),Nat.mul_left_comm (q'+1) B top]
  rw [Nat.mul_add B u1,← Nat.mul_comm un B]
  rw [Nat.mul_add B (un*B)] at this
  rw [Nat.mul_comm r B] at hc2
  omega
 have h2:=Nat.mul_le_mul_left p h1
 have h3:(q'+1)*b≤B*p:=Nat.mul_le_mul hc zo
 have h4:B*p≤p*(v2+B*top):=by
  rw [Nat.mul_comm B p]
  refine Nat.mul_le_mul_left _ ?_
  have:B*1≤B*top:=Nat.mul_le_mul_left _ ht
  omega
 have h5:(q'+1)*val B v≤val B u+val B v:=by
  rw [eu,ev,Nat.mul_add,Nat.mul_left_comm (q'+1) p]
  omega
 rw [Nat.add_mul,Nat.one_mul] at h5
 omega
end
theorem Qx {B:Nat} {u v s:List Nat} {i q c b d c' b':Nat} (hiu:i<u.length) (hiv:i<v.length) (hs:s.length=i)
  (he:val B s+q*val B (v.take i)=val B (u.take i)+(b+c)*B^i) (h:d+b+(c+q*v.getD i 0)%B=u.getD i 0+b'*B) (hc:c'=(c+q*v.getD i 0) / B) :
  val B (s++[d])+q*val B (v.take (i+1))=val B (u.take (i+1))+(b'+c')*B^(i+1):=by
 rw [gy,aZ B hiu,aZ B hiv,hs,Nat.pow_succ]
 have h1:B*c'+(c+q*v.getD i 0)%B=c+q*v.getD i 0:=by rw [hc];exact Nat.div_add_mod _ _
 generalize (c+q*v.getD i 0)%B=m at *
 have h2:d+b+(c+q*v.getD i 0)=u.getD i 0+(b'+c')*B:=by rw [Nat.add_mul,Nat.mul_comm c' B];omega
 have h3:=congrArg (B^i* ·) h2
 simp only [Nat.mul_add] at h3 he ⊢
 rw [show (b'+c')*(B^i*B)=B^i*((b'+c')*B) by rw [Nat.mul_left_comm]]
 rw [show q*(B^i*v.getD i 0)=B^i*(q*v.getD i 0) by rw [Nat.mul_left_comm]]
 rw [Nat.mul_comm (b+c),Nat.mul_add] at he
 omega
theorem Qz {B:Nat} {u v s:List Nat} {n q b c un:Nat} (hB:1<B) (hv:v.length=n) (dv:dB B v) (hV:0<val B v)
  (he:val B s+q*val B v=val B (u.take n)+(b+c)*B^n) (hu:val B u=val B (u.take n)+B^n*un) (hc:b+c≤un) (hq1:val B u / val B v≤q) :
  q=val B u / val B v∧val B s=val B u%val B v:=by
 have h1:val B u=q*val B v+(val B s+B^n*(un - (b+c))):=by
  obtain ⟨t,rfl⟩:=Nat.le.dest hc
  rw [hu,Nat.add_sub_cancel_left,Nat.mul_add,Nat.mul_comm (B^n) (b+c)]
  omega
 have h2:q*val B v≤val B u:=by omega
 have h3:q≤val B u / val B v:=(Nat.le_div_iff_mul_le hV).2 h2
 have hq:q=val B u / val B v:=by omega
 refine ⟨hq,?_⟩
 have h4:=Nat.div_add_mod (val B u) (val B v)
 rw [← hq,Nat.mul_comm] at h4
 have h5:val B s+B^n*(un - (b+c))=val B u%val B v:=by omega
 have h6:=Nat.mod_lt (val B u) hV
 have h7:=eF zo dv
 rw [hv] at h7
 rcases Nat.eq_zero_or_pos (un - (b+c)) with h8|h8
 ·rw [h8] at h5;omega
 ·have:B^n*1≤B^n*(un - (b+c)):=Nat.mul_le_mul_left _ h8
  omega
theorem Qy {B:Nat} {u v s:List Nat} {n q b c un:Nat} (hB:1<B) (hs:s.length=n) (ds:dB B s) (hv:v.length=n) (dv:dB B v) (hV:0<val B v)
  (he:val B s+q*val B v=val B (u.take n)+(b+c)*B^n) (hu:val B u=val B (u.take n)+B^n*un) (hc:un<b+c) (hq2:q≤val B u / val B v+1) :
  q=val B u / val B v+1∧val B s+val B v=val B u%val B v+B^n:=by
 have hp:0<B^n:=Nat.pow_pos zo
 have h7:=eF zo dv
 rw [hv] at h7
 have h8:=eF zo ds
 rw [hs] at h8
 have h4:=Nat.div_add_mod (val B u) (val B v)
 have h6:=Nat.mod_lt (val B u) hV
 obtain ⟨t,ht⟩:=Nat.le.dest hc
 have h1:val B u+B^n*(t+1)=q*val B v+val B s:=by
  rw [hu,Nat.add_assoc,← Nat.mul_add,show un+(t+1)=b+c by omega,Nat.mul_comm (B^n)]
  omega
 have hpt:B^n*(t+1)=B^n*t+B^n:=by rw [Nat.mul_add,Nat.mul_one]
 have hq3:val B u / val B v+1≤q:=by
  rcases Nat.lt_or_ge (val B u / val B v) q with h|h
  ·exact h
  ·exfalso
   have:q*val B v≤val B u / val B v*val B v:=Nat.mul_le_mul_right _ h
   rw [Nat.mul_comm (val B u / val B v)] at this
   omega
 have hq:q=val B u / val B v+1:=by omega
 refine ⟨hq,?_⟩
 rw [hq,Nat.add_mul,Nat.one_mul,Nat.mul_comm (val B u / val B v)] at h1
 have h9:val B u%val B v+B^n*(t+1)=val B v+val B s:=by omega
 rcases Nat.eq_zero_or_pos t with h|h
 ·rw [h,Nat.zero_add,Nat.mul_one] at h9;omega
 ·have:B^n*1≤B^n*t:=Nat.mul_le_mul_left _ h
  omega
theorem Fu {B t:Nat} (hB:B=1000000000) (ht:0<t) (htB:t<B):B≤2*(t*(B / (t+1))):=by
 have hd:=Nat.div_add_mod B (t+1)
 have hm:=Nat.mod_lt B (Nat.succ_pos t)
 have hs:0<B / (t+1):=Nat.div_pos zo zo
 generalize B / (t+1)=s at *
 generalize B%(t+1)=m at *
 obtain ⟨s',rfl⟩:∃ s',s=s'+1:=⟨s - 1,by omega⟩
 rw [Nat.add_mul t 1,Nat.one_mul] at hd
 have h1:t*(s'+1)=t*s'+t:=by rw [Nat.mul_add,Nat.mul_one]
 have h2:m≤t:=by omega
 rcases Nat.eq_zero_or_pos s' with h|h
 ·subst h;omega
 ·obtain ⟨t',rfl⟩:∃ t',t=t'+1:=⟨t - 1,by omega⟩
  obtain ⟨r,rfl⟩:∃ r,s'=r+1:=⟨s' - 1,by omega⟩
  have h3:(t'+1)*(r+1+1)=t'*r+2*t'+r+2:=by simp only [Nat.add_mul,Nat.mul_add];omega
  have h4:0≤t'*r:=Nat.zero_le _
  rw [h3] at hd ⊢
  rcases Nat.eq_zero_or_pos t' with h5|h5
  ·subst h5;omega
  ·have h6:r≤t'*r:=by have:=Nat.mul_le_mul_right r h5;omega
   omega
theorem Av (B:Nat) {l:List Nat} {t:Nat} (ht:t≤l.length):val B l=val B (l.take t)+B^t*val B (l.drop t):=by
 conv=>lhs;rw [← List.take_append_drop t l,val_append]
 rw [List.length_take,Nat.min_eq_left ht]
theorem Fv {b k:Nat} (hs:sz 1000000000 b=k+2) :
  let t:=(bK 1000000000 b).getD (k+1) 0
  let s:=1000000000 / (t+1)
  0<t∧t<1000000000∧0<s∧s≤500000000∧sz 1000000000 (b*s)=k+2∧1000000000≤2*(bK 1000000000 (b*s)).getD (k+1) 0:=by
 intro t s
 have hB:1<1000000000:=by omega
 have hl:(bK 1000000000 b).length=k+2:=hs
 have ht0:0<t:=Nat.pos_of_ne_zero (jP hB b (k+1) hl)
 have htB:t<1000000000:=(aR hB b).getD zo (k+1)
 have hs0:0<s:=Nat.div_pos zo zo
 have hs5:s≤500000000:=by
  have:s≤1000000000 / 2:=Nat.div_le_div_left zo zo
  omega
 have hsd:s*(t+1)≤1000000000:=Nat.div_mul_le_self _ _
 have hp:0<1000000000^(k+1):=Nat.pow_pos zo
 have hb:b=val 1000000000 ((bK 1000000000 b).take (k+1))+1000000000^(k+1)*t:=by
  have h1:=aZ 1000000000 (l:=bK 1000000000 b) (k:=k+1) zo
  rw [show k+1+1=(bK 1000000000 b).length by omega,List.take_length,aM hB] at h1
  exact h1
 have hlow:val 1000000000 ((bK 1000000000 b).take (k+1))<1000000000^(k+1):=by
  have:=eF zo ((aR hB b).take (k+1))
  rwa [show ((bK 1000000000 b).take (k+1)).length=k+1 by simp;omega] at this
 have h1:b*s<1000000000^(k+2):=by
  have h2:b<1000000000^(k+1)*(t+1):=by rw [Nat.mul_add,Nat.mul_one];omega
  have h3:b*s<1000000000^(k+1)*(t+1)*s:=Nat.mul_lt_mul_of_pos_right h2 hs0
  have h4:1000000000^(k+1)*((t+1)*s)≤1000000000^(k+1)*1000000000:=Nat.mul_le_mul_left _ (by rw [Nat.mul_comm];exact hsd)
  rw [Nat.mul_assoc] at h3
  rw [Nat.pow_succ 1000000000 (k+1)]
  omega
 have h2:sz 1000000000 (b*s)=k+2:=by
  have h3:=aY hB _ _ h1
  have h4:sz 1000000000 b≤sz 1000000000 (b*s):=fJ hB (Nat.le_mul_of_pos_right _ hs0)
  omega
 refine ⟨ht0,htB,hs0,hs5,h2,?_⟩
 have hl2:(bK 1000000000 (b*s)).length=k+2:=h2
 have hb2:b*s=val 1000000000 ((bK 1000000000 (b*s)).take (k+1))+1000000000^(k+1)*(bK 1000000000 (b*s)).getD (k+1) 0:=by
  have h1:=aZ 1000000000 (l:=bK 1000000000 (b*s)) (k:=k+1) zo
  rw [show k+1+1=(bK 1000000000 (b*s)).length by omega,List.take_length,aM hB] at h1
  exact h1
 have aJ8:val 1000000000 ((bK 1000000000 (b*s)).take (k+1))<1000000000^(k+1):=by
  have:=eF zo ((aR hB (b*s)).take (k+1))
  rwa [show ((bK 1000000000 (b*s)).take (k+1)).length=k+1 by simp;omega] at this
 have hge:=Fu (B:=1000000000) rfl ht0 htB
 generalize (bK 1000000000 (b*s)).getD (k+1) 0=t2 at *
 have h5:t*s≤t2:=by
  rcases Nat.lt_or_ge t2 (t*s) with h|h
  ·exfalso
   have h6:1000000000^(k+1)*(t2+1)≤1000000000^(k+1)*(t*s):=Nat.mul_le_mul_left _ h
   rw [Nat.mul_add,Nat.mul_one,← Nat.mul_assoc] at h6
   have h7:1000000000^(k+1)*t*s≤b*s:=Nat.mul_le_mul_right _ zo
   omega
  ·exact h
 have h8:1000000000≤2*(t*s):=hge
 omega
theorem dividend {a b s k:Nat} (hs0:0<s) (hs1:s<1000000000) (hb:sz 1000000000 b=k+2) (hab:k+2≤sz 1000000000 a) :
  let us:=bK 1000000000 (a*s)++List.replicate (sz 1000000000 a+1 - sz 1000000000 (a*s)) 0
  sz 1000000000 (a*s)≤sz 1000000000 a+1∧us.length=sz 1000000000 a+1∧dB 1000000000 us∧val 1000000000 us=a*s∧val 1000000000 (us.drop (sz 1000000000 a - (k+2)+1))<b*s:=by
 intro us
 have hB:1<1000000000:=by omega
 have h1:sz 1000000000 (a*s)≤sz 1000000000 a+1:=by
  have:=jg hB a s
  have h2:=aY hB 1 s zo
  omega
 have h2:us.length=sz 1000000000 a+1:=by simp only [us,List.length_append,List.length_replicate];unfold sz at*; omega
 have h3:val 1000000000 us=a*s:=by simp only [us];rw [val_append,vF,aM hB];simp
 refine ⟨h1,h2,(aR hB _).append fun x hx=>by rw [List.eq_of_mem_replicate hx];omega,h3,?_⟩
 have h4:=Av 1000000000 (l:=us) (t:=sz 1000000000 a - (k+2)+1) zo
 rw [h3] at h4
 have h5:=Cz hB (n:=b) (k:=k+1) zo
 have h6:=fV hB a
 have h7:1000000000^sz 1000000000 a=1000000000^(k+1)*1000000000^(sz 1000000000 a - (k+2)+1):=by rw [← Nat.pow_add];congr 1;omega
 generalize 1000000000^(sz 1000000000 a - (k+2)+1)=p at *
 have h8:a<b*p:=by
  have:1000000000^(k+1)*p≤b*p:=Nat.mul_le_mul_right _ h5
  omega
 rcases Nat.lt_or_ge (val 1000000000 (us.drop (sz 1000000000 a - (k+2)+1))) (b*s) with h|h
 ·exact h
 ·exfalso
  have h9:p*(b*s)≤a*s:=by have:=Nat.mul_le_mul_left p h;omega
  have h10:a*s<b*p*s:=Nat.mul_lt_mul_of_pos_right h8 hs0
  rw [show p*(b*s)=b*p*s by rw [← Nat.mul_assoc,Nat.mul_comm p b]] at h9
  omega
theorem Og {B:Nat} {us s s' qs:List Nat} {j V q:Nat} (hj:j<us.length) (he:val B (us.drop (j+1))=V*val B qs+val B s)
  (hq:q=val B (us.getD j 0::s) / V) (hs:val B s'=val B (us.getD j 0::s)%V):val B (us.drop j)=V*val B (q::qs)+val B s':=by
 rw [gL hj]
 have h:=Nat.div_add_mod (val B (us.getD j 0::s)) V
 rw [← hq,← hs] at h
 simp only [val] at h ⊢
 rw [he,Nat.mul_add V,Nat.mul_add B,Nat.mul_left_comm V B]
 omega
theorem MS {B x V:Nat} {s:List Nat} (hx:x<B) (hs:val B s<V):val B (x::s)<V*B:=by
 have h:B*(val B s+1)≤B*V:=Nat.mul_le_mul_left _ hs
 rw [Nat.mul_add,Nat.mul_one,Nat.mul_comm B V] at h
 simp only [val]
 omega
theorem Si {a b s q r:Nat} (hs:0<s) (he:a*s=b*s*q+r) (hr:r<b*s):q=a / b∧r / s=a%b:=by
 have h1:a*s / (b*s)=a / b:=Nat.mul_div_mul_right _ _ hs
 have h2:a*s%(b*s)=a%b*s:=Nat.mul_mod_mul_right _ _ _
 have hp:0<b*s:=by omega
 rw [he,Nat.mul_add_div hp,Nat.div_eq_of_lt hr,Nat.add_zero] at h1
 rw [he,Nat.mul_add_mod,Nat.mod_eq_of_lt hr] at h2
 exact ⟨h1,by rw [h2,Nat.mul_div_cancel _ hs]⟩
end Go.Num
namespace Go.Mem
open Go Go.RowKit Go.SW Go.Num
def Nm (w:World) (v:Value) (n:Nat):Prop:=Row w 3 v (ints (bK 10000 n))
theorem Nm.later {w w':World} {v:Value} {n:Nat} (h:Nm w v n) (hb:Below w.heap.size w w'):Nm w' v n:=Row.later h hb
theorem Nm.setOther {w:World} {v:Value} {n:Nat} (h:Nm w v n) {b:Nat} {cs:Array Value} {T':TypeId} (hx:ah w b cs T') (hT:3≠T') (o:Nat) (u:Value):Nm (w.setCell ⟨b,o,none⟩ u) v n:=Row.setOther h hx hT o u
def Gs (w:World) (v:Value) (l:List Nat):Prop:=Row w 3 v (ints l)
theorem Gs.later {w w':World} {v:Value} {l:List Nat} (h:Gs w v l) (hb:Below w.heap.size w w'):Gs w' v l:=Row.later h hb
theorem Gs.cases {w:World} {v:Value} {l:List Nat} (h:Gs w v l) :
  (v= .slice none 0 0∧l=[])∨∃ b off cap,v= .slice (some ⟨b,off,none⟩) l.length cap∧l.length≤cap∧cap≤9223372036854775807∧b<w.heap.size∧(∃ arr,ah w b arr 3)∧∀ i,i<l.length→w.cell? ⟨b,off+i,none⟩=some (.int .i64 (l.getD i 0:Nat)):=by
 rcases Row.cases h with ⟨h1,h2⟩|⟨b,off,cap,arr,h1,h2,h3,h4,h5⟩
 ·refine .inl ⟨h1,?_⟩
  unfold ints at h2
  simpa using h2
 ·refine .inr ⟨b,off,cap,by rw [h1,aU],by rwa [aU] at h2,h3,h4.lt,⟨arr,h4⟩,fun i hi=>?_⟩
  rw [h4.cell,h5 i (by rw [aU];exact hi)]
  simp [ints,hi]
theorem Gs.read {w:World} {v:Value} {l:List Nat} (h:Gs w v l) :
  ∃ a cap,v= .slice a l.length cap∧l.length≤cap∧cap≤9223372036854775807∧∀ k,k<l.length→∃ b off,a=some ⟨b,off,none⟩∧b<w.heap.size∧w.cell? ⟨b,off+k,none⟩=some (.int .i64 (l.getD k 0:Nat)):=by
 rcases Gs.cases h with ⟨rfl,rfl⟩|⟨b,off,cap,rfl,h1,h2,h3,_,h5⟩
 ·exact ⟨none,0,rfl,by simp,by simp,fun k hk=>by cases hk⟩
 ·exact ⟨some ⟨b,off,none⟩,cap,rfl,h1,h2,fun k hk=>⟨b,off,rfl,h3,h5 k hk⟩⟩
theorem Nm.Ru {w:World} {v:Value} {l:List Nat} (h:Gs w v l) (hd:dB 10000 l) (ht:Top l):Nm w v (val 10000 l):=by
 unfold Nm;rw [zQ zo hd ht];exact h
theorem Nm.gs {w:World} {v:Value} {n:Nat} (h:Nm w v n):Gs w v (bK 10000 n):=h
theorem Gs.dM {w:World} {base k:Nat} {v:Value} {s:List Nat} (h:w.ownsRow base 3 1 v k (ints s)):Gs w v s:=Row.dM h
theorem nX (n:Nat):(madeCells #[Value.int .i64 0] n).toList=ints (List.replicate n 0):=by
 rw [toList_madeCells_one];simp [ints]
theorem ints_set (l:List Nat) (k d:Nat):(ints l).set k (.int .i64 (d:Int))=ints (l.set k d):=by simp [ints,List.map_set]
theorem nY {l:List Nat} {k:Nat} (h:k<l.length):(ints l)[k]? =some (.int .i64 (l.getD k 0:Nat)):=by simp [ints,h]
theorem Gs.qy {w:World} {g n m:Nat} {l post:List Nat} (h:ah w g (ints (l++post)).toArray 3) (hl:l.length=n) (hm:n≤m) (hm2:m≤9223372036854775807):Gs w (.slice (some ⟨g,0,none⟩) n m) l:=by
 refine Row.mk (by rw [aU];omega) (by rw [aU];omega) hm2 h fun i hi=>?_
 rw [aU] at hi
 rw [Nat.zero_add,List.getElem?_toArray]
 simp [ints,hi,List.getElem?_append_left]
theorem Nm.lit {w:World} {d:Nat} (h0:0<d) (h1:d<10000):Nm (w.alloc (.cells #[.int .i64 d] 3 (0,0))) (.slice (some ⟨w.heap.size,0,none⟩) 1 1) d:=by
 have e:bK 10000 d=[d]:=by rw [iJ zo h0,Nat.mod_eq_of_lt h1,Nat.div_eq_of_lt h1,dV]
 unfold Nm
 rw [e]
 refine Row.mk rfl (by simp [ints]) zo (ah.new _ _ _) fun i hi=>?_
 match i,hi with
 | 0,_=>rfl
theorem Nm.zero (w:World):Nm w (.slice none 0 0) 0:=by unfold Nm;rw [dV];exact Row.nil _ _
theorem ints_oneCell (l:List Nat):∀ v∈ints l,v.oneCell'=true:=fun v hv=>by
 obtain ⟨d,_,rfl⟩:=List.mem_map.1 hv;rfl
theorem Gs.src {w:World} {a:Option Addr} {l:List Nat} (h:∀ k,k<l.length→∃ b off,a=some ⟨b,off,none⟩∧b<w.heap.size∧w.cell? ⟨b,off+k,none⟩=some (.int .i64 (l.getD k 0:Nat))) (hl:0<(ints l).length) :
  ∃ ad,a=some ad∧∀ j v,(ints l)[j]? =some v→w.cell? (ad.add j)=some v:=by
 rw [aU] at hl
 obtain ⟨b,off,rfl,_,_⟩:=h 0 hl
 refine ⟨_,rfl,fun j v hv=>?_⟩
 have hj:j<l.length:=by
  have:=(List.getElem?_eq_some_iff.1 hv).1;rwa [aU] at this
 obtain ⟨b',off',h1,_,h3⟩:=h j hj
 simp only [Option.some.injEq,Addr.mk.injEq,and_true] at h1
 obtain ⟨rfl,rfl⟩:=h1
 rw [nY hj] at hv
 rw [Addr.add_lit,h3,← hv]
theorem Nm.slice {w:World} {v:Value} {n:Nat} (h:Nm w v n):∃ pa l ca,v= .slice pa l ca:=by
 obtain ⟨a,cap,h1, -⟩:=h
 exact ⟨_,_,_,h1⟩
def Pl (w:World) (v:Value) (z:Int):Prop:=∃ pa l ca,v= .agg #[.bool (decide (z<0)),.slice pa l ca]∧Nm w (.slice pa l ca) z.natAbs
theorem Pl.later {w w':World} {v:Value} {z:Int} (h:Pl w v z) (hb:Below w.heap.size w w'):Pl w' v z:=by
 obtain ⟨pa,l,ca,h1,h2⟩:=h
 exact ⟨pa,l,ca,h1,h2.later hb⟩
theorem Pl.mk {w:World} {m:Value} {z:Int} {b:Bool} {n:Nat} (h:Nm w m n) (hn:n=z.natAbs) (hb:b=decide (z<0)):Pl w (.agg #[.bool b,m]) z:=by
 obtain ⟨pa,l,ca,rfl⟩:=h.slice
 exact ⟨pa,l,ca,by rw [hb],hn ▸ h⟩
theorem Pl.cast {w:World} {v:Value} {y z:Int} (h:Pl w v y) (e:y=z):Pl w v z:=e ▸ h
theorem Nm.alloc {w:World} {v:Value} {n:Nat} (h:Nm w v n) (o:Obj):Nm (w.alloc o) v n:=h.later ((Below.refl _ _).alloc (Nat.le_refl _) _)
theorem Gs.alloc {w:World} {v:Value} {n:List Nat} (h:Gs w v n) (o:Obj):Gs (w.alloc o) v n:=h.later ((Below.refl _ _).alloc (Nat.le_refl _) _)
theorem Pl.agg {w:World} {v:Value} {z:Int} (h:Pl w v z):∃ b pa l ca,v= .agg #[.bool b,.slice pa l ca]:=by
 obtain ⟨pa,l,ca,h1, -⟩:=h
 exact ⟨_,_,_,_,h1⟩
theorem Pl.setOther {w:World} {v:Value} {z:Int} (h:Pl w v z) {b:Nat} {cs:Array Value} {T':TypeId} (hx:ah w b cs T') (hT:3≠T') (o:Nat) (u:Value):Pl (w.setCell ⟨b,o,none⟩ u) v z:=by
 obtain ⟨pa,l,ca,h1,h2⟩:=h
 exact ⟨pa,l,ca,h1,h2.setOther hx hT o u⟩
theorem Pl.set2 {w:World} {v:Value} {z:Int} (h:Pl w v z) {b:Nat} {cs:Array Value} {T':TypeId} (hx:ah w b cs T') (hT:3≠T') (o1 o2:Nat) (u1 u2:Value):Pl ((w.setCell ⟨b,o1,none⟩ u1).setCell ⟨b,o2,none⟩ u2) v z :=
 (h.setOther hx hT o1 u1).setOther (hx.set o1 u1) hT o2 u2
theorem Pl.nm {w:World} {b:Bool} {pa:Option Addr} {l ca:Nat} {z:Int} (h:Pl w (.agg #[.bool b,.slice pa l ca]) z):Nm w (.slice pa l ca) z.natAbs∧b=decide (z<0):=by
 obtain ⟨pa',l',ca',e,h2⟩:=h
 simp only [Value.agg.injEq,Array.mk.injEq,List.cons.injEq,Value.bool.injEq,and_true] at e
 obtain ⟨e1,e2⟩:=e
 rw [e2]
 exact ⟨h2,e1⟩
theorem QF (z:Int):gM z.natAbs (!decide (z<0))= -z:=La z
theorem QG (z:Int):gM z.natAbs (decide (z<0))=z:=by
 unfold gM
 by_cases h:z<0<;>simp [h]<;>omega
theorem QH (n:Nat) (b:Bool):(b&&decide (0<n))=decide (gM n b<0):=by
 rw [← Lb,Bool.eq_iff_iff]
 simp
 omega
theorem Nm.read {w:World} {v:Value} {n:Nat} (h:Nm w v n):∃ a cap,v= .slice a (sz 10000 n) cap∧sz 10000 n≤cap∧cap≤9223372036854775807∧∀ k,k<sz 10000 n→∃ b off,a=some ⟨b,off,none⟩∧b<w.heap.size∧w.cell? ⟨b,off+k,none⟩=some (.int .i64 ((bK 10000 n).getD k 0:Nat)):=Gs.read h.gs
theorem Nm.as2 {w:World} {pa:Option Addr} {l c n:Nat} (h:Nm w (.slice pa l c) n) (hn:0<n):0<l:=by
 obtain ⟨a,cap,e, -⟩:=h.read
 simp only [Value.slice.injEq] at e
 rw [e.2.1]
 unfold sz
 rw [List.length_pos_iff,Ne,jU zo]
 omega
theorem Nm.as3 {w:World} {pa:Option Addr} {l c n:Nat} (h:Nm w (.slice pa l c) n) (hn:n=0):l=0:=by
 obtain ⟨a,cap,e, -⟩:=h.read
 simp only [Value.slice.injEq] at e
 rw [e.2.1,hn,iy]
end Go.Mem
namespace Go.dF
open Go Go.Num
def bO (qs:List Rat):Nat:=qs.foldl (fun a q=>a*(q.den / a.gcd q.den)) 1
def iW (D:Nat) (q:Rat):Int:=q.num*((D / q.den:Nat):Int)
theorem vX (qs:List Rat) (q:Rat):bO (qs++[q])=bO qs*(q.den / (bO qs).gcd q.den):=by simp [bO]
theorem OH {qs:List Rat} {k:Nat} (h:k<qs.length):bO (qs.take (k+1))=bO (qs.take k)*(qs[k].den / (bO (qs.take k)).gcd qs[k].den):=by
 rw [List.take_succ_eq_append_getElem h,vX]
theorem pX {α:Type} {Q:List α→Prop} (h0:Q []) (h1:∀ l a,Q l→Q (l++[a])) (l:List α):Q l:=by
 have:∀ n (l:List α),l.length=n→Q l:=by
  intro n
  induction n with
  | zero=>intro l hl;rw [List.length_eq_zero_iff] at hl;subst hl;exact h0
  | succ n ih =>
   intro l hl
   have hne:l≠[]:=fun e=>by subst e;simp at hl
   rw [← List.dropLast_concat_getLast hne]
   exact h1 _ _ (ih _ (by simp [hl]))
 exact this _ l rfl
theorem gV (qs:List Rat):0<bO qs∧(∀ q∈qs,q.den ∣ bO qs):=by
 induction qs using pX with
 | h0=>exact ⟨by simp [bO],fun q h=>by cases h⟩
 | h1 l a ih =>
  obtain ⟨h1,h2⟩:=ih
  rw [vX]
  have hg:(bO l).gcd a.den ∣ a.den:=Nat.gcd_dvd_right _ _
  refine ⟨Nat.mul_pos h1 (Nat.div_pos (Nat.le_of_dvd a.den_pos hg) (Nat.gcd_pos_of_pos_right _ a.den_pos)),fun q hq=>?_⟩
  rcases List.mem_append.1 hq with h|h
  ·exact Nat.dvd_trans (h2 q h) (Nat.dvd_mul_right _ _)
  ·rw [List.mem_singleton] at h
   subst h
   obtain ⟨c,hc⟩:=Nat.gcd_dvd_left (bO l) q.den
   rw [← Nat.mul_div_assoc _ hg,Nat.mul_div_right_comm (Nat.gcd_dvd_left _ _)]
   exact Nat.dvd_mul_left _ _
theorem kP (qs:List Rat) (h:∀ q∈qs,iU q=true):sz 1000000000 (bO qs)≤67*qs.length+1:=by
 induction qs using pX with
 | h0=>exact aY zo 1 _ (by simp [bO])
 | h1 l a ih =>
  rw [vX,List.length_append,List.length_singleton]
  have h1:=ih (fun q hq=>h q (by simp [hq]))
  have h2:=(sN (h a zi)).2
  have h3:=jg (B:=1000000000) zo (bO l) (a.den / (bO l).gcd a.den)
  have h4:= @iE a.den ((bO l).gcd a.den)
  omega
theorem LQ {D:Nat} {q:Rat} (hD:0<D) (h:q.den ∣ D):((iW D q:Int):Rat) / ((D:Nat):Rat)=q:=by
 obtain ⟨c,rfl⟩:=h
 have hc:0<c:=by rcases Nat.eq_zero_or_pos c with e|e;subst e;simp at hD;exact e
 unfold iW
 rw [Nat.mul_div_cancel_left _ q.den_pos]
 have e:q=(q.num:Rat) / ((q.den:Nat):Rat):=by
  rw [← Rat.mkRat_eq_div,Rat.mkRat_self]
 have h1:((q.den:Nat):Rat)≠0:=by
  rw [Ne,Rat.natCast_eq_zero_iff]
  exact q.den_nz
 have h2:((c:Nat):Rat)≠0:=by
  rw [Ne,Rat.natCast_eq_zero_iff]
  omega
 rw [Rat.intCast_mul,Rat.natCast_mul,Rat.intCast_natCast]
 generalize hn:(q.num:Rat)=n at *
 generalize hd:((q.den:Nat):Rat)=d at *
 generalize hcc:((c:Nat):Rat)=c' at *
 rw [e]
 grind
end Go.dF
namespace Go.SW
open Go Go.RowKit
section
variable {P:Program} {ops:Array Oper} {Q:Exit→Act→World→Prop}
theorem Ii {a:Act} {w:World} (is:List (K × Nat)) (hc:check ops is=true) (hal:kZ P ops is)
  (hQ:∀ c (a s:Act) w,s.defers=a.defers→Q (.panic c) a w→Q (.panic c) s w)
  (h:walk P ops Q w.heap.size is [] a w.drew):wpAny P .any ops Q ops.size (Array.replicate ops.size false) a w.drew:=by
 unfold check at hc
 simp only [Bool.and_eq_true,decide_eq_true_eq] at hc
 obtain ⟨⟨⟨⟨⟨h1,h2⟩,h3⟩,h4⟩,h5⟩,h6⟩:=hc
 refine sK h1 (Sq h2) hQ w.heap.size ops.size is [] [] [] _ a a w.drew ?_ ?_ h3 h4 zi zi hal ?_ h
 ·rw [ig];exact h5
 ·refine ⟨by simp,fun i hi=>?_,fun j o hj hl=>?_,rfl,rfl,fun t _ _=>rfl,by simp,by simp,by simp,by simp⟩
  ·have hmem:i∈is.map (·.2):=by simpa using List.all_eq_true.1 h6 i (List.mem_range.2 hi)
   simp [hi] 
   simpa using hmem
  ·have hj':=(Array.getElem?_eq_some_iff.1 hj).1
   simp [hj'] at hl
 ·exact ⟨by simp,by simp,by simp,by simp,Nat.le_refl _⟩
end
theorem Fw {n l:Nat} {P:Program} {row:String} {args:Array Value} {w:World} {R:Value→World→Prop} (h:Rows P row args w R):RowsIn (Fence.wide.inRound l) n P row args w R :=
 fun c cs _=>let ⟨v,w',r,s⟩:=h c cs;⟨v,w',r,stepsIn_wide.2 s⟩
theorem yt {P:Program} {n l:Nat} {o:Oper} {a:Act} {K:Act→World→Prop} {Q:Exit→Act→World→Prop} {r:Result Next} (h:o.upon P a K Q r):o.uponIn (Fence.wide.inRound l) n P a K Q r:=by
 cases r with
 | ok x w' =>
  cases x<;>simp only [Oper.upon,Oper.uponIn] at h ⊢<;>first|exact h|exact ⟨fun e=>(by cases e),CallsIn.inRound l (callsIn_wide.2 h)⟩|exact ⟨fun e=>(by cases e),Fw h⟩|exact h.elim
 | halt x w'=>cases x<;>simp only [Oper.upon,Oper.uponIn] at h ⊢<;>first|exact h|exact h.elim
theorem IJ {P:Program} {n l:Nat} {o:Oper} {a:Act} {w:World} {K:Act→World→Prop} {Q:Exit→Act→World→Prop} (hd:∀ c,o.op≠ .defer c) (h:o.wp P a w K Q):o.wpIn (Fence.wide.inRound l) n P a w K Q:=by
 refine ⟨fun _ _=>trivial,?_⟩
 have e:o.semAt (Fence.wide.inRound l).round a.eval=execOp a.eval o:=Oper.semAt_eq _ _ _ hd
 rw [e]
 exact yt h
theorem yg {P:Program} {n l:Nat} {ops:Array Oper} {i:Nat} {a:Act} {w:World} {K:Act→World→Prop} {Q:Exit→Act→World→Prop} (hd:∀ (i:Nat) o,ops[i]? =some o→∀ c,o.op≠ .defer c) (hQ:¬ LetsOut Q) (h:wpOp P ops Q i K a w):wpOpIn (Fence.wide.inRound l) n P ops Q i K a w:=by
 unfold wpOp at h
 unfold wpOpIn
 split
 ·rename_i e;simpa [e] using h
 ·rename_i o e
  simp only [e] at h
  split
  ·rename_i hw
   simp only [hw,if_true] at h
   rcases h with h|h
   ·exact IJ (hd i o e) h
   ·exact absurd h.2 hQ
  ·rename_i hw
   simp only [hw] at h
   exact ⟨fun _ _=>trivial,h⟩
theorem nS {P:Program} {n l:Nat} {ops:Array Oper} {md:Region.Mode} {Q:Exit→Act→World→Prop} (hd:∀ (i:Nat) o,ops[i]? =some o→∀ c,o.op≠ .defer c) (hQ:¬ LetsOut Q):∀ (fuel:Nat) (listed:Array Bool) (a:Act) (w:World),wpAny P md ops Q fuel listed a w→wpAnyIn (Fence.wide.inRound l) n P md ops Q fuel listed a w
 | 0,_,_,_,h=>h
 | fuel+1,_,_,_,h=>⟨h.1,fun i hi=>wpOpIn_mono (fun a w h=>nS hd hQ fuel _ a w h) (yg hd hQ (h.2 i hi))⟩
def Lh (ops:Array Oper):Bool:=ops.all fun o=>match o.op with| .defer _=>false| _=>true
theorem CW {ops:Array Oper} (h:Lh ops=true):∀ (i:Nat) o,ops[i]? =some o→∀ c,o.op≠ .defer c:=fun i o e c hc=>by
 have h2:=Array.getElem?_eq_some_iff.1 e
 obtain ⟨hi,rfl⟩:=h2
 have:=Array.all_eq_true.1 h i hi
 rw [hc] at this
 cases this
theorem vD {P:Program} {n l id:Nat} {ops:Array Oper} {Q:Exit→Act→World→Prop} {a:Act} {w:World} (is:List (K × Nat)) (hm:P.follows .mixedOrders=true) (hd:Lh ops=true) (hc:check ops is=true) (hal:kZ P ops is) (hQ0:¬ LetsOut Q)
  (hQ:∀ c (a s:Act) w,s.defers=a.defers→Q (.panic c) a w→Q (.panic c) s w)
  (h:walk P ops Q w.heap.size is [] a w.drew):(Code.region id ops true).wpIn (Fence.wide.inRound l) n P Q a w :=
 wpIn_region_any hm (nS (CW hd) hQ0 _ _ _ _ (Ii is hc hal hQ h))
end Go.SW
namespace Go.dF
open Go Go.Num
def iV (r s:List Rat):Rat:=(List.zipWith (· * ·) r s).foldl (· + ·) 0
def uh (f:Nat→Int):Nat→Int
 | 0=>0
 | k+1=>uh f k+f k
def qw (f:Nat→Rat):Nat→Rat
 | 0=>0
 | k+1=>qw f k+f k
theorem mX {f g:Nat→Rat}:∀ {n:Nat},(∀ i,i<n→f i=g i)→qw f n=qw g n
 | 0,_=>rfl
 | n+1,h=>by simp only [qw];rw [mX (fun i hi=>h i zo),h n zo]
theorem Bf (f:Nat→Int) (d:Rat):∀ n,((uh f n:Int):Rat) / d=qw (fun i=>((f i:Int):Rat) / d) n
 | 0=>by simp [uh,qw,Rat.div_def]
 | n+1=>by
  simp only [uh,qw]
  rw [← Bf f d n,Rat.intCast_add,Rat.div_def,Rat.div_def,Rat.div_def,Rat.add_mul]
theorem GI (xs:List Rat):xs.foldl (· + ·) 0=qw (fun i=>xs.getD i 0) xs.length:=by
 induction xs using pX with
 | h0=>rfl
 | h1 l a ih =>
  rw [List.foldl_append,ih,List.length_append,List.length_singleton]
  simp only [List.foldl_cons,List.foldl_nil,qw]
  congr 1
  ·exact mX fun i hi=>by simp [hi,List.getElem?_append_left]
  ·simp
theorem OA {r s:List Rat} (h:s.length=r.length):iV r s=qw (fun i=>r.getD i 0*s.getD i 0) r.length:=by
 unfold iV
 rw [GI,List.length_zipWith,h,Nat.min_self]
 exact mX fun i hi=>by
  have hs:i<s.length:=by omega
  simp [hi,hs,List.getElem?_zipWith]
theorem Uk {r s:List Rat} (h:s.length=r.length) :
  ((uh (fun i=>(r.map (iW (bO r))).getD i 0*(s.map (iW (bO s))).getD i 0) r.length:Int):Rat) / ((bO r*bO s:Nat):Rat)=iV r s:=by
 rw [OA h,Bf]
 refine mX fun i hi=>?_
 have hs:i<s.length:=by omega
 obtain ⟨hr1,hr2⟩:=gV r
 obtain ⟨hs1,hs2⟩:=gV s
 have e1:=LQ hr1 (hr2 r[i] (List.getElem_mem hi))
 have e2:=LQ hs1 (hs2 s[i] (List.getElem_mem hs))
 have g1:(r.map (iW (bO r))).getD i 0=iW (bO r) r[i]:=by simp [hi]
 have g2:(s.map (iW (bO s))).getD i 0=iW (bO s) s[i]:=by simp [hs]
 have g3:r.getD i 0=r[i]:=by simp [hi]
 have g4:s.getD i 0=s[i]:=by simp [hs]
 rw [g1,g2,g3,g4,Rat.intCast_mul,Rat.natCast_mul]
 have n1:((bO r:Nat):Rat)≠0:=by rw [Ne,Rat.natCast_eq_zero_iff];omega
 have n2:((bO s:Nat):Rat)≠0:=by rw [Ne,Rat.natCast_eq_zero_iff];omega
 generalize ((iW (bO r) r[i]:Int):Rat)=a at *
 generalize ((iW (bO s) s[i]:Int):Rat)=b at *
 generalize ((bO r:Nat):Rat)=c at *
 generalize ((bO s:Nat):Rat)=d at *
 rw [← e1,← e2]
 grind
theorem kN {qs:List Rat} (h:∀ q∈qs,iU q=true) (hl:qs.length≤4) (i:Nat):sz 1000000000 ((qs.map (iW (bO qs))).getD i 0).natAbs≤1000:=by
 by_cases hi:i<qs.length
 ·have g1:(qs.map (iW (bO qs))).getD i 0=iW (bO qs) qs[i]:=by simp [hi]
  rw [g1]
  unfold iW
  have h1:=kU qs[i].num (bO qs / qs[i].den)
  have h2:=(sN (h _ (List.getElem_mem hi))).1
  have h3:= @iE (bO qs) qs[i].den
  have h4:=kP qs h
  omega
 ·have g1:(qs.map (iW (bO qs))).getD i 0=0:=by
   rw [List.getD_eq_getElem?_getD,List.getElem?_eq_none (by rw [List.length_map];omega)]
   rfl
  rw [g1]
  simp [iy]
end Go.dF
namespace Go.SW
open Go Go.RowKit
variable {P:Program} {ops:Array Oper} {Q:Exit→Act→World→Prop}
def Ik (x y:Nat):Nat→List Oper→List Oper
 | _,[]=>[]
 | k,o::l=>(match k.beq y with
  | true=>⟨o.dst,o.op,o.type,o.pos,o.after.push ⟨x,.chain⟩,o.guard⟩
  | false=>o)::Ik x y (k+1) l
def ku (x y:Nat) (ops:Array Oper):Array Oper:=(Ik x y 0 ops.toList).toArray
def wait (x:Nat) (o:Oper):Oper:=⟨o.dst,o.op,o.type,o.pos,o.after.push ⟨x,.chain⟩,o.guard⟩
theorem Ij (x y:Nat):∀ (l:List Oper) (k i:Nat),(Ik x y k l)[i]? =(l[i]?).map fun o=>if k+i=y then wait x o else o
 | [],_,_=>by simp [Ik]
 | o::l,k,0=>by
  unfold Ik
  rw [List.getElem?_cons_zero,List.getElem?_cons_zero]
  cases h:k.beq y with
  | true=>rw [Nat.eq_of_beq_eq_true h];simp [wait]
  | false =>
   have:=Nat.ne_of_beq_eq_false h
   simp [this]
 | o::l,k,i+1=>by
  unfold Ik
  rw [List.getElem?_cons_succ,List.getElem?_cons_succ,Ij x y l (k+1) i]
  have:k+1+i=k+(i+1):=by omega
  rw [this]
theorem uS (x y i:Nat) (ops:Array Oper):(ku x y ops)[i]? =(ops[i]?).map fun o=>if i=y then wait x o else o:=by
 unfold ku
 rw [List.getElem?_toArray,Ij,Nat.zero_add,Array.getElem?_toList]
theorem wY (x y:Nat):∀ (l:List Oper) (k:Nat),(Ik x y k l).length=l.length
 | [],_=>rfl
 | o::l,k=>by unfold Ik;rw [List.length_cons,List.length_cons,wY x y l]
theorem BQ (x y:Nat) (ops:Array Oper):(ku x y ops).size=ops.size:=by
 unfold ku
 rw [List.size_toArray,wY,Array.length_toList]
theorem Dr (x y:Nat) (tmps:Array Value) (g:Nat):yielded (ku x y ops) tmps g=yielded ops tmps g:=by
 unfold yielded
 rw [uS]
 cases ops[g]? with
 | none=>rfl
 | some o =>
  have e:(if g=y then wait x o else o).dst=o.dst:=by split<;>rfl
  simp only [Option.map_some,Option.bind_some,e]
theorem sU (x y:Nat):∀ (l:List Nat) (a:Act) (w:World),wpOps P (ku x y ops) Q l a w→wpOps P ops Q l a w
 | [],_,_,h=>h
 | i::l,a,w,h=>by
  have ih:=sU x y l
  unfold wpOps at h ⊢
  rw [uS] at h
  have hy:yielded (ku x y ops) a.tmps=yielded ops a.tmps:=funext fun g=>Dr x y _ g
  rw [hy] at h
  cases ho:ops[i]? with
  | none =>
   simp only [ho,Option.map_none] at h ⊢
   exact ih _ _ h
  | some o =>
   simp only [ho,Option.map_some] at h ⊢
   by_cases hi:i=y
   ·simp only [hi,if_true] at h
    have e1:Region.wanted (wait x o) (yielded ops a.tmps)=Region.wanted o (yielded ops a.tmps):=rfl
    rw [e1] at h
    split
    ·rename_i hw
     simp only [hw,if_true] at h
     rcases h with h|h
     ·exact .inl (Oper.wp_mono ih h)
     ·exact .inr h
    ·rename_i hw
     simp only [hw,if_false,Bool.false_eq_true] at h
     exact ih _ _ h
   ·simp only [hi,if_false] at h
    split
    ·rename_i hw
     simp only [hw,if_true] at h
     rcases h with h|h
     ·exact .inl (Oper.wp_mono ih h)
     ·exact .inr h
    ·rename_i hw
     simp only [hw,if_false,Bool.false_eq_true] at h
     exact ih _ _ h
theorem qo {x y i:Nat} {listed:Array Bool} (h:i∈Region.ready .any ops listed) (hy:i=y→listed.getD x false=true):i∈Region.ready .any (ku x y ops) listed:=by
 obtain ⟨h1,o,h2,h3⟩:=mem_ready.1 h
 refine mem_ready.2 ⟨h1,_,by rw [uS,h2];rfl,fun e he hb=>?_⟩
 split at he
 ·rename_i hi
  rcases Array.mem_push.1 he with he|he
  ·exact h3 e he hb
  ·rw [he]
   exact hy hi
 ·exact h3 e he hb
theorem Fx {x y i:Nat} {listed:Array Bool} (h:i∈Region.ready .any (ku x y ops) listed):i∈Region.ready .any ops listed:=by
 obtain ⟨h1,o',h2,h3⟩:=mem_ready.1 h
 rw [uS] at h2
 cases ho:ops[i]? with
 | none=>rw [ho] at h2;cases h2
 | some o =>
  rw [ho,Option.map_some,Option.some.injEq] at h2
  refine mem_ready.2 ⟨h1,o,ho,fun e he hb=>h3 e ?_ hb⟩
  rw [← h2]
  split
  ·exact Array.mem_push.2 (.inl he)
  ·exact he
theorem uI {i fuel:Nat} {listed:Array Bool} (h:i∈Region.ready .any ops listed) (t:Nat) :
  ∃ t',Region.linearise.go .any ops (fuel+1) t' listed []=i::Region.linearise.go .any ops fuel t (listed.setIfInBounds i true) []:=by
 obtain ⟨k,hk,hi⟩:=List.getElem_of_mem h
 refine ⟨k+(Region.ready .any ops listed).length*t,?_⟩
 simp only [Region.linearise.go]
 change (match (Region.ready .any ops listed)[(k+(Region.ready .any ops listed).length*t)%(Region.ready .any ops listed).length]? with
   | some i=>Region.linearise.go .any ops fuel ((k+(Region.ready .any ops listed).length*t) / (Region.ready .any ops listed).length) (listed.setIfInBounds i true) [i]
   | none=>[].reverse)=_
 have e1:(k+(Region.ready .any ops listed).length*t)%(Region.ready .any ops listed).length=k:=by
  rw [Nat.add_mul_mod_self_left,Nat.mod_eq_of_lt hk]
 have e2:(k+(Region.ready .any ops listed).length*t) / (Region.ready .any ops listed).length=t:=by
  rw [Nat.add_mul_div_left _ _ (Nat.lt_of_le_of_lt (Nat.zero_le _) hk),Nat.div_eq_of_lt hk,Nat.zero_add]
 rw [e1,e2,List.getElem?_eq_getElem hk,hi]
 simp only []
 rw [linearise_go_acc,List.reverse_singleton,List.singleton_append]
theorem go_step (fuel t:Nat) (listed:Array Bool) :
  (Region.ready .any ops listed=[]∧Region.linearise.go .any ops (fuel+1) t listed []=[]) ∨
  ∃ i∈Region.ready .any ops listed,∃ t',Region.linearise.go .any ops (fuel+1) t listed []=i::Region.linearise.go .any ops fuel t' (listed.setIfInBounds i true) []:=by
 simp only [Region.linearise.go]
 change (_∧(match (Region.ready .any ops listed)[t%(Region.ready .any ops listed).length]? with
   | some i=>Region.linearise.go .any ops fuel (t / (Region.ready .any ops listed).length) (listed.setIfInBounds i true) [i]
   | none=>[].reverse)=[])∨∃ i∈Region.ready .any ops listed,∃ t',(match (Region.ready .any ops listed)[t%(Region.ready .any ops listed).length]? with
   | some i=>Region.linearise.go .any ops fuel (t / (Region.ready .any ops listed).length) (listed.setIfInBounds i true) [i]
   | none=>[].reverse)=_
 cases hi:(Region.ready .any ops listed)[t%(Region.ready .any ops listed).length]? with
 | none =>
  left
  refine ⟨?_,rfl⟩
  cases hr:Region.ready .any ops listed with
  | nil=>rfl
  | cons x xs =>
   rw [hr] at hi
   have hlt:t%(x::xs).length<(x::xs).length:=Nat.mod_lt _ zi
   simp at hi
   simp at hlt
   omega
 | some i =>
  right
  refine ⟨i,List.mem_of_getElem? hi,t / (Region.ready .any ops listed).length,?_⟩
  simp only []
  rw [linearise_go_acc,List.reverse_singleton,List.singleton_append]
theorem GD {fuel t:Nat} {listed:Array Bool} (h:Region.ready .any ops listed=[]):Region.linearise.go .any ops (fuel+1) t listed []=[]:=by
 rcases go_step (ops:=ops) fuel t listed with ⟨-, h2⟩|⟨i,hi, -⟩
 ·exact h2
 ·rw [h] at hi
  cases hi
theorem vR {x y:Nat}:∀ (fuel t:Nat) (listed:Array Bool),listed.getD x false=true→∃ t',Region.linearise.go .any ops fuel t listed []=Region.linearise.go .any (ku x y ops) fuel t' listed []
 | 0,t,listed,_=>⟨t,rfl⟩
 | fuel+1,t,listed,hx=>by
  rcases go_step (ops:=ops) fuel t listed with ⟨h1,h2⟩|⟨i,hi,t',h⟩
  ·refine ⟨0,?_⟩
   rw [h2,GD]
   cases hr:Region.ready .any (ku x y ops) listed with
   | nil=>rfl
   | cons i l =>
    have:=Fx (x:=x) (y:=y) (i:=i) (by rw [hr];exact List.mem_cons_self)
    rw [h1] at this
    cases this
  ·obtain ⟨t2,h2⟩:=vR fuel t' (listed.setIfInBounds i true) (getD_set_true hx)
   obtain ⟨t3,h3⟩:=uI (fuel:=fuel) (qo (y:=y) hi fun _=>hx) t2
   exact ⟨t3,by rw [h,h2,h3]⟩
theorem TU {x y:Nat} (hxy:x≠y):∀ (fuel t:Nat) (listed:Array Bool),
  (∃ t',Region.linearise.go .any ops fuel t listed []=Region.linearise.go .any (ku x y ops) fuel t' listed []) ∨
  (∃ t',Region.linearise.go .any ops fuel t listed []=Region.linearise.go .any (ku y x ops) fuel t' listed [])
 | 0,t,listed=>.inl ⟨t,rfl⟩
 | fuel+1,t,listed=>by
  rcases go_step (ops:=ops) fuel t listed with ⟨h1,h2⟩|⟨i,hi,t',h⟩
  ·refine .inl ⟨0,?_⟩
   rw [h2,GD]
   cases hr:Region.ready .any (ku x y ops) listed with
   | nil=>rfl
   | cons i l =>
    have:=Fx (x:=x) (y:=y) (i:=i) (by rw [hr];exact List.mem_cons_self)
    rw [h1] at this
    cases this
  ·have hset:∀ j,i=j→(listed.setIfInBounds i true).getD j false=true:=fun j hj=>by
    subst hj
    have:=(mem_ready.1 hi).1
    rcases Nat.lt_or_ge i listed.size with h'|h'
    ·simp [h']
    ·simp [Array.getElem?_eq_none h'] at this
   by_cases hix:i=x
   ·obtain ⟨t2,h2⟩:=vR (ops:=ops) (x:=x) (y:=y) fuel t' _ (hset x hix)
    obtain ⟨t3,h3⟩:=uI (fuel:=fuel) (qo (x:=x) (y:=y) hi fun e=>absurd (hix.symm.trans e) hxy) t2
    exact .inl ⟨t3,by rw [h,h2,h3]⟩
   ·by_cases hiy:i=y
    ·obtain ⟨t2,h2⟩:=vR (ops:=ops) (x:=y) (y:=x) fuel t' _ (hset y hiy)
     obtain ⟨t3,h3⟩:=uI (fuel:=fuel) (qo (x:=y) (y:=x) hi fun e=>absurd e hix) t2
     exact .inr ⟨t3,by rw [h,h2,h3]⟩
    ·rcases TU hxy fuel t' (listed.setIfInBounds i true) with ⟨t2,h2⟩|⟨t2,h2⟩
     ·obtain ⟨t3,h3⟩:=uI (fuel:=fuel) (qo (x:=x) (y:=y) hi fun e=>absurd e hiy) t2
      exact .inl ⟨t3,by rw [h,h2,h3]⟩
     ·obtain ⟨t3,h3⟩:=uI (fuel:=fuel) (qo (x:=y) (y:=x) hi fun e=>absurd e hix) t2
      exact .inr ⟨t3,by rw [h,h2,h3]⟩
structure Reg (P:Program) (ops:Array Oper) (Q:Exit→Act→World→Prop) (a:Act) (w:World):Prop where
 out:∀ t,wpOps P ops Q (Region.linearise .any ops t) a w
theorem reg_in {id:Nat} {a:Act} {w:World} (hm:P.follows .mixedOrders=true) (h:Reg P ops Q a w.drew):(Code.region id ops true).wp P Q a w :=
 wp_region_draw fun t=>by
  simp only [Region.schedule,hm,Bool.true_or,if_true]
  exact h.out t
theorem reg_two {a:Act} {w:World} (x y:Nat) (hxy:x≠y) (h1:Reg P (ku x y ops) Q a w) (h2:Reg P (ku y x ops) Q a w):Reg P ops Q a w:=⟨fun t=>by
 unfold Region.linearise
 rcases TU (ops:=ops) hxy ops.size t (Array.replicate ops.size false) with ⟨t',h⟩|⟨t',h⟩
 ·rw [h]
  have:=h1.out t'
  unfold Region.linearise at this
  rw [BQ] at this
  exact sU x y _ _ _ this
 ·rw [h]
  have:=h2.out t'
  unfold Region.linearise at this
  rw [BQ] at this
  exact sU y x _ _ _ this⟩
def rz (l:List Nat) (ops:Array Oper):Bool:=(List.range ops.size).all fun i=>match ops[i]? with
 | some o=>o.after.all (fun e=> !Region.binds .any e || (decide (l.idxOf e.on<l.idxOf i)&&decide (e.on<ops.size)))
 | none=>true
theorem Sr {l:List Nat} (ho:rz l ops=true):Led ops:=fun listed hsz hr i hi=>by
 have key:∀ n i,l.idxOf i=n→i<ops.size→listed.getD i true=true:=by
  intro n
  induction n using Nat.strongRecOn with
  | _ n ih =>
   intro i hn hi
   cases hl:listed.getD i true with
   | true=>rfl
   | false =>
    exfalso
    have ho':ops[i]? =some ops[i]:=by simp [hi]
    have hmem:i∈Region.ready .any ops listed:=mem_ready.2 ⟨hl,ops[i],ho',fun e he hb=>by
     unfold rz at ho
     have h1:=List.all_eq_true.1 ho i (List.mem_range.2 hi)
     simp only [ho'] at h1
     have h2:=Array.all_eq_true_iff_forall_mem.1 h1 e he
     simp only [hb,Bool.not_true,Bool.false_or,Bool.and_eq_true,decide_eq_true_eq] at h2
     have h3:=ih _ zo e.on rfl h2.2
     have:e.on<listed.size:=by omega
     simpa [this] using h3⟩
    rw [hr] at hmem
    cases hmem
 exact key _ i rfl hi
def UA (ops:Array Oper) (is:List (K × Nat)):Bool :=
 Region.noSelect ops&&rz (is.map (·.2)) ops&&dG ops is&&decide (is.map (·.2)).Nodup&&decide (is.length≤ops.size)&&(List.range ops.size).all (fun i=>(is.map (·.2)).contains i)
theorem reg_walk {a:Act} {w:World} (is:List (K × Nat)) (hc:UA ops is=true) (hal:kZ P ops is)
  (hQ:∀ c (a s:Act) w,s.defers=a.defers→Q (.panic c) a w→Q (.panic c) s w)
  (h:walk P ops Q w.heap.size is [] a w):Reg P ops Q a w:=⟨fun t=>by
 unfold UA at hc
 simp only [Bool.and_eq_true,decide_eq_true_eq] at hc
 obtain ⟨⟨⟨⟨⟨h1,h2⟩,h3⟩,h4⟩,h5⟩,h6⟩:=hc
 unfold Region.linearise
 refine wpAny_sound _ _ _ _ _ ?_
 refine sK h1 (Sr h2) hQ w.heap.size ops.size is [] [] [] _ a a w ?_ ?_ h3 h4 zi zi hal ?_ h
 ·rw [ig];exact h5
 ·refine ⟨by simp,fun i hi=>?_,fun j o hj hl=>?_,rfl,rfl,fun t _ _=>rfl,by simp,by simp,by simp,by simp⟩
  ·have hmem:i∈is.map (·.2):=by simpa using List.all_eq_true.1 h6 i (List.mem_range.2 hi)
   simp [hi]
   simpa using hmem
  ·have hj':=(Array.getElem?_eq_some_iff.1 hj).1
   simp [hj'] at hl
 ·exact ⟨by simp,by simp,by simp,by simp,Nat.le_refl _⟩⟩
end Go.SW
namespace Go.SW
open Go Go.RowKit
variable {P:Program} {ops:Array Oper} {Q:Exit→Act→World→Prop}
def Ag (P:Program) (ops:Array Oper) (mk:Nat→Nat→Value) (is:List (K × Nat)):Prop :=
 ∀ cs T j,(K.alloc cs T,j)∈is→∀ o,ops[j]? =some o→∀ (a:Act) w,(execOp a.eval o).run P w= .ok (.value (mk j w.heap.size)) (w.alloc (.cells cs T (0,0)))
def Vm (ops:Array Oper) (is:List (K × Nat)):Prop:=∀ x∈is,∀ y∈is,x.1.cK=true→y.1.cK=true→∀ d o,iY ops x.2=some d→ops[y.2]? =some o→d∉o.looksAt ops
def JU (ops:Array Oper) (is:List (K × Nat)):Bool:=is.all fun x=> !x.1.cK || is.all fun y=> !y.1.cK || (match iY ops x.2,ops[y.2]? with|some d,some o=> !(o.looksAt ops).contains d| _,_=>true)
theorem UK {is:List (K × Nat)} (h:JU ops is=true):Vm ops is:=fun x hx y hy h1 h2 d o hd ho hm=>by
 unfold JU at h
 have k1:=List.all_eq_true.1 h x hx
 rw [h1,Bool.not_true,Bool.false_or] at k1
 have k2:=List.all_eq_true.1 k1 y hy
 rw [h2,hd,ho,Bool.not_true,Bool.false_or] at k2
 simp at k2
 exact k2 hm
def xJ (ops:Array Oper) (a:Act) (i:Nat):Bool:=match ops[i]? with|some o=>Region.wanted o (yielded ops a.tmps)|none=>false
theorem vE {a:Act} {i:Nat} {o:Oper} (h:ops[i]? =some o):xJ ops a i=Region.wanted o (yielded ops a.tmps):=by unfold xJ;rw [h]
theorem KE {a:Act} {i:Nat} {o:Oper} {x:Option Tmp} {v:Value} (h:ops[i]? =some o) (hx:∀ d,x=some d→d∉o.looksAt ops):xJ ops (a.put x v) i=xJ ops a i:=by
 rw [vE h,vE h]
 exact gQ fun t ht=>eO _ _ fun e=>hx t e ht
def gF (P:Program) (ops:Array Oper) (Q:Exit→Act→World→Prop) (mk:Nat→Nat→Value) (N:Nat):List (K × Nat)→List Nat→Act→World→Prop
 | [],_,a,w=>∀ w',Below w.heap.size w w'→Q .normal a w'
 | (k,i)::is,A,a,w =>
  match ops[i]? with
  | none=>False
  | some o =>
   match k with
   | .pure=>if Region.wanted o (yielded ops a.tmps) then ∃ v,(∀ w',(execOp a.eval o).run P w'= .ok (.value v) w')∧gF P ops Q mk N is A (a.put o.dst v) w else gF P ops Q mk N is A (a.put o.dst undef) w
   | .read=>if Region.wanted o (yielded ops a.tmps) then ∃ v,(∀ w',Below w.heap.size w w'→(execOp a.eval o).run P w'= .ok (.value v) w')∧gF P ops Q mk N is A (a.put o.dst v) w else gF P ops Q mk N is A (a.put o.dst undef) w
   | .alloc cs T=>if Region.wanted o (yielded ops a.tmps) then ∀ b w',Below w.heap.size w w'→N≤b→b<w'.heap.size→b∉A→w'.heap[b]? =some (.cells cs T (0,0))→gF P ops Q mk N is (b::A) (a.put o.dst (mk i b)) w' else gF P ops Q mk N is A (a.put o.dst undef) w
   | .ext=>if Region.wanted o (yielded ops a.tmps) then ∀ w',Below w.heap.size w w'→o.wp P a w' (fun a' w''=>Below w'.heap.size w' w''∧gF P ops Q mk N is A a' w'') Q else gF P ops Q mk N is A (a.put o.dst undef) w
   | .fin=>∀ w',Below w.heap.size w w'→wpOps P ops Q (i::is.map (·.2)) a w'
theorem je {mk:Nat→Nat→Value} {N:Nat}:∀ (is:List (K × Nat)) (A:List Nat) (a:Act) (w w1:World),Below w.heap.size w w1→gF P ops Q mk N is A a w→gF P ops Q mk N is A a w1
 | [],_,_,_,_,hb,h=>fun w' hw'=>h w' (dL hb hw')
 | (k,i)::is,A,a,w,w1,hb,h=>by
  unfold gF at h ⊢
  cases ho:ops[i]? with
  | none=>simp only [ho] at h
  | some o =>
   simp only [ho] at h ⊢
   cases k with
   | pure =>
    simp only at h ⊢
    split at h
    ·rename_i hw
     obtain ⟨v,h1,h2⟩:=h
     simp only [hw,if_true]
     exact ⟨v,h1,je is _ _ _ _ hb h2⟩
    ·rename_i hw
     simp only [hw,if_false,Bool.false_eq_true]
     exact je is _ _ _ _ hb h
   | read =>
    simp only at h ⊢
    split at h
    ·rename_i hw
     obtain ⟨v,h1,h2⟩:=h
     simp only [hw,if_true]
     exact ⟨v,fun w' hw'=>h1 w' (dL hb hw'),je is _ _ _ _ hb h2⟩
    ·rename_i hw
     simp only [hw,if_false,Bool.false_eq_true]
     exact je is _ _ _ _ hb h
   | alloc cs T =>
    simp only at h ⊢
    split at h
    ·rename_i hw
     simp only [hw,if_true]
     exact fun b w' hw'=>h b w' (dL hb hw')
    ·rename_i hw
     simp only [hw,if_false,Bool.false_eq_true]
     exact je is _ _ _ _ hb h
   | ext =>
    simp only at h ⊢
    split at h
    ·rename_i hw
     simp only [hw,if_true]
     exact fun w' hw'=>h w' (dL hb hw')
    ·rename_i hw
     simp only [hw,if_false,Bool.false_eq_true]
     exact je is _ _ _ _ hb h
   | fin=>exact fun w' hw'=>h w' (dL hb hw')
structure ai3 (ops:Array Oper) (mk:Nat→Nat→Value) (N:Nat) (is:List (K × Nat)) (A:List Nat) (E:List (Nat × Nat)) (s a:Act) (w:World):Prop where
 good:∀ p∈E,∃ cs T,(K.alloc cs T,p.1)∈is∧(xJ ops a p.1=true→w.heap[p.2]? =some (.cells cs T (0,0))∧N≤p.2∧p.2<w.heap.size∧p.2∉A)
 dist:∀ p∈E,∀ q∈E,p.1≠q.1→xJ ops a p.1=true→xJ ops a q.1=true→p.2≠q.2
 slot:∀ p∈E,∀ d,iY ops p.1=some d→d<a.tmps.size→s.tmps[d]? =some (if xJ ops a p.1 then mk p.1 p.2 else undef)
 old:∀ x∈A,x<w.heap.size
 base:N≤w.heap.size
theorem Fz {mk:Nat→Nat→Value} (hs:Region.noSelect ops=true) (Dg:Led ops)
  (hQ:∀ c (a s:Act) w,s.defers=a.defers→Q (.panic c) a w→Q (.panic c) s w) (N:Nat) :
  ∀ (fuel:Nat) (is:List (K × Nat)) (A:List Nat) (U:List (Bool × Nat)) (E:List (Nat × Nat)) (listed:Array Bool) (s a:Act) (w:World),
   aQ is E+U.length≤fuel→Inv P ops (is.map (·.2)) U E listed s a w→dG ops is=true→(is.map (·.2)).Nodup →
   (∀ u∈U,u.2∉is.map (·.2))→(∀ u∈U,∀ q∈is,fI ops (if u.1 then .pure else .read,u.2) q=true) →
   Ag P ops mk is→Vm ops is→ai3 ops mk N is A E s a w →
   gF P ops Q mk N is A a w→wpAny P .any ops Q fuel listed s w:=by
 intro fuel
 induction fuel using Nat.strongRecOn with
 | _ fuel ihf =>
 intro is
 induction is with
 | nil =>
  intro A U E listed s a w hm I hok hnd jH hpr hal hbd he h
  have hE:E=[]:=by
   cases E with
   | nil=>rfl
   | cons p ps=>obtain ⟨cs,T,hmem,_⟩:=he.good p zi;cases hmem
  subst hE
  exact ru hs Dg hQ fuel [] U listed s a w (by simp [aQ] at hm;simpa using hm) I rfl rfl zi zi zi (by simp only [List.map_nil,wpOps];exact h w (Below.refl _ _))
 | cons x xs ihl =>
  intro A U E listed s a w hm I hok hnd jH hpr hal hbd he h
  obtain ⟨k,i⟩:=x
  have hrest:dG ops xs=true:=by unfold dG at hok;simp only [Bool.and_eq_true] at hok;exact hok.2
  obtain ⟨o,ho⟩:∃ o,ops[i]? =some o:=by
   unfold dG at hok
   simp only [Bool.and_eq_true] at hok
   exact Option.isSome_iff_exists.1 hok.1.2
  have hilt:i<ops.size:=(Array.getElem?_eq_some_iff.1 ho).1
  have nN:i∉xs.map (·.2)∧(xs.map (·.2)).Nodup:=by simpa only [List.map_cons,List.nodup_cons] using hnd
  have hpx:k.isFin=false→∀ q∈xs,fI ops (k,i) q=true:=fun hk=>by
   unfold dG at hok
   cases k<;>simp [K.isFin] at hk<;>simp only [Bool.and_eq_true] at hok
   ·exact fun q hq=>List.all_eq_true.1 hok.1.1.2 q hq
   ·exact fun q hq=>List.all_eq_true.1 hok.1.1.2 q hq
   ·exact fun q hq=>List.all_eq_true.1 hok.1.1.1 q hq
   ·exact fun q hq=>List.all_eq_true.1 hok.1.1.1 q hq
  have af2:Vm ops xs:=fun x hx y hy=>hbd x (by simp [hx]) y (by simp [hy])
  have Xm:∀ p∈E,listed.getD p.1 true=true:=fun p hp=>by
   obtain ⟨cs,T,hmem,_⟩:=he.good p hp
   have hml:p.1∈((k,i)::xs).map (·.2):=List.mem_map.2 ⟨_,hmem,rfl⟩
   have hlt:p.1<ops.size:=by
    have key:∀ (l:List (K × Nat)),dG ops l=true→∀ q∈l,q.2<ops.size:=by
     intro l
     induction l with
     | nil=>intro _ q hq;cases hq
     | cons c l ihh =>
      intro hk q hq
      unfold dG at hk
      simp only [Bool.and_eq_true] at hk
      rcases List.mem_cons.1 hq with hq|hq
      ·subst hq
       obtain ⟨y,hy⟩:=Option.isSome_iff_exists.1 hk.1.2
       exact (Array.getElem?_eq_some_iff.1 hy).1
      ·exact ihh hk.2 q hq
    exact key _ hok _ hmem
   cases hl:listed.getD p.1 true with
   | true=>rfl
   | false =>
    exfalso
    rcases (I.tF p.1 hlt).1 hl with ⟨_,h2⟩|h2
    ·exact h2 (List.mem_map.2 ⟨p,hp,rfl⟩)
    ·obtain ⟨u,hu,e⟩:=List.mem_map.1 h2
     exact jH u hu (e ▸ hml)
  have YW:i∉E.map (·.1)→k.isFin=false→k.cK=false→∀ p∈E,∀ v,xJ ops (a.put o.dst v) p.1=xJ ops a p.1:=fun jG LA hka p hp v=>by
   obtain ⟨cs,T,hmem,_⟩:=he.good p hp
   have hmx:(K.alloc cs T,p.1)∈xs:=by
    rcases List.mem_cons.1 hmem with hmem|hmem
    ·cases hmem;simp [K.cK] at hka
    ·exact hmem
   have hf:=hpx LA _ hmx
   unfold fI at hf
   simp only [K.isFin,Bool.false_eq_true,if_false] at hf
   cases hy:ops[p.1]? with
   | none=>unfold xJ;rw [hy]
   | some y =>
    refine KE hy fun d hd hm=>?_
    have he1:=(eH ho hy hf).2 d hd hm
    obtain ⟨e,k1,k2,k3⟩:=kY hy he1
    have hl:=Xm p hp
    have hl2:listed.getD p.1 false=true:=by
     have hlt:=(Array.getElem?_eq_some_iff.1 hy).1
     have:p.1<listed.size:=by rw [I.size];exact hlt
     simpa [this] using hl
    have hcl:=I.closed p.1 y hy hl2 e k1 k2
    rw [k3] at hcl
    have hun:listed.getD i true=false:=(I.tF i hilt).2 (.inl ⟨by simp,jG⟩)
    rw [getD_both hun] at hcl
    cases hcl
  have Ov:k.isFin=false→∀ u∈U,fwd ops u.2 i=true:=fun hk u hu=>by
   have:=hpr u hu (k,i) zi
   unfold fI at this
   simpa [hk] using this
  have advance:∀ (b:Bool) (v:Value),k.isFin=false→k.cK=false→k.isPure=b→lS ops i=true→i∉E.map (·.1) →
    ((Region.wanted o (yielded ops a.tmps)=true∧∀ w',(b=false→Below w.heap.size w w')→(execOp a.eval o).run P w'= .ok (.value v) w')∨(Region.wanted o (yielded ops a.tmps)=false∧v=undef)) →
    (k= .pure∨k= .read)→gF P ops Q mk N xs A (a.put o.dst v) w→wpAny P .any ops Q fuel listed s w:=fun b v LA hka hkb hself jG hrun hkk hw=>by
   have hxl:∀ d,o.dst=some d→d∉o.looksAt ops:=fun d hd hm=>by unfold lS at hself;simp only [ho,hd] at hself;simp [hm] at hself
   have hl:∀ t,t∈o.looksAt ops→(a.put o.dst v).tmps[t]? =a.tmps[t]? :=fun t ht=>eO a v fun e=>hxl t e ht
   refine ihl A ((b,i)::U) E listed s (a.put o.dst v) w ?_ ?_ hrest nN.2 ?_ ?_ (fun cs T j hj=>hal cs T j (by simp [hj])) af2 ?_ hw
   ·have:aQ ((k,i)::xs) E=aQ xs E+1:=by
     unfold aQ
     rw [List.filter_cons_of_pos (by simpa using jG)]
     rfl
    simp only [List.length_cons];omega
   ·refine ⟨I.size,fun j hj=>?_,I.closed,by rw [eZ];exact I.defers,by rw [bI];exact I.Ao,fun t h1 h2=>?_,fun u hu=>?_,fun u hu=>?_,fun u hu v' hv hne=>?_,fun u hu p hp=>?_⟩
    ·rw [I.tF j hj]
     simp only [List.map_cons,List.mem_cons]
     constructor
     ·rintro (⟨h|h,h2⟩|h)
      ·exact .inr (.inl h)
      ·exact .inl ⟨h,h2⟩
      ·exact .inr (.inr h)
     ·rintro (⟨h,h2⟩|h|h)
      ·exact .inl ⟨.inr h,h2⟩
      ·exact .inl ⟨.inl h,by rw [h];exact jG⟩
      ·exact .inr h
    ·have hd:o.dst≠some t:=by have:=h1 (b,i) zi;rwa [bJ ho] at this
     rw [eO _ _ hd]
     exact I.agree t (fun u hu=>h1 u (by simp [hu])) h2
    ·rcases List.mem_cons.1 hu with hu|hu
     ·subst hu
      refine ⟨o,ho,v,fun d hd hlt=>?_,?_⟩
      ·rw [hd];exact put_eq _ _ (by rwa [bI] at hlt)
      ·rw [gQ hl,mF (fun cs b=>Region.noSelect_spec hs i o cs b ho) hl]
       exact hrun
     ·exact (I.pend u hu).put hs v fun o' ho' d hd=>(eH ho' ho (Ov LA u hu)).1 d hd
    ·rcases List.mem_cons.1 hu with hu|hu
     ·subst hu;exact hself
     ·exact I.pV u hu
    ·rcases List.mem_cons.1 hu with hu|hu<;>rcases List.mem_cons.1 hv with hv|hv
     ·subst hu hv;exact absurd rfl hne
     ·subst hu;exact (dN (Ov LA v' hv)).2
     ·subst hv;exact (dN (Ov LA u hu)).1
     ·exact I.uu u hu v' hv hne
    ·rcases List.mem_cons.1 hu with hu|hu
     ·subst hu
      obtain ⟨cs,T,hmem,_⟩:=he.good p hp
      rcases List.mem_cons.1 hmem with hmem|hmem
      ·cases hmem;simp [K.cK] at hka
      ·have:=hpx LA _ hmem
       unfold fI at this
       simpa [K.isFin] using this
     ·exact I.ue u hu p hp
   ·intro u hu
    rcases List.mem_cons.1 hu with hu|hu
    ·subst hu;exact nN.1
    ·intro hm;exact jH u hu (by simp only [List.map_cons,List.mem_cons];exact .inr hm)
   ·intro u hu q hq
    rcases List.mem_cons.1 hu with hu|hu
    ·subst hu
     have:=hpx LA q hq
     rcases hkk with rfl|rfl<;>simp [K.isPure] at hkb<;>subst hkb<;>simpa using this
    ·exact hpr u hu q (by simp [hq])
   ·have hst:=YW jG LA hka
    refine ⟨fun p hp=>?_,fun p hp q hq h1 h2 h3=>he.dist p hp q hq h1 (by rw [← hst p hp v];exact h2) (by rw [← hst q hq v];exact h3),fun p hp d hd hlt=>by rw [hst p hp v];exact he.slot p hp d hd (by rwa [bI] at hlt),he.old,he.base⟩
    obtain ⟨cs,T,hmem,hg⟩:=he.good p hp
    refine ⟨cs,T,?_,fun hw=>hg (by rw [← hst p hp v];exact hw)⟩
    rcases List.mem_cons.1 hmem with hmem|hmem
    ·cases hmem;simp [K.cK] at hka
    ·exact hmem
  have early:∀ (cs:Array Value) (T:TypeId) (r:Nat),(K.alloc cs T,r)∈(k,i)::xs→r∈Region.ready .any ops listed→r∉E.map (·.1)→∀ f,f<fuel→aQ ((k,i)::xs) E+U.length≤f+1 →
    wpOp P ops Q r (wpAny P .any ops Q f (listed.setIfInBounds r true)) s w:=fun cs T r hmem hr Xj f hf hmf=>by
   obtain ⟨y,hy,Ju,qG⟩:=dw hr
   have hrun:=hal cs T r hmem y hy
   have aE1:=nW hr
   have hb:Below w.heap.size w (w.alloc (.cells cs T (0,0))):=(Below.refl _ _).alloc (Nat.le_refl _) _
   have hsz:(w.alloc (.cells cs T (0,0))).heap.size=w.heap.size+1:=by simp
   have Tc:r∈((k,i)::xs).map (·.2):=List.mem_map.2 ⟨_,hmem,rfl⟩
   have rU:∀ t,t∈y.looksAt ops→s.tmps[t]? =a.tmps[t]? :=fun t ht=>by
    refine I.agree t (fun u hu hd=>?_) (fun p hp hd=>?_)
    ·have hp0:=hpr u hu _ hmem
     unfold fI at hp0
     simp only [K.isFin,Bool.false_eq_true,if_false] at hp0
     cases hx:ops[u.2]? with
     | none=>simp [iY,hx] at hd
     | some z =>
      have he':=(eH hx hy hp0).2 t (by rw [bJ hx] at hd;exact hd) ht
      exact bQ hr he' ((I.tF u.2 (Array.getElem?_eq_some_iff.1 hx).1).2 (.inr (List.mem_map.2 ⟨u,hu,rfl⟩)))
    ·obtain ⟨cs',T',hm',_⟩:=he.good p hp
     exact hbd _ hm' _ hmem rfl rfl t y hd hy ht
   have hwt:=gQ (ops:=ops) rU
   have key:∀ (v:Value) (w1:World) (b:Nat),Below w.heap.size w w1→v=(if xJ ops a r then mk r b else undef)→(xJ ops a r=true→w1.heap[b]? =some (.cells cs T (0,0))∧b=w.heap.size∧b<w1.heap.size) →
     wpAny P .any ops Q f (listed.setIfInBounds r true) (s.put y.dst v) w1:=fun v w1 b hb hv hw1=>by
    refine ihf f hf ((k,i)::xs) A U ((r,b)::E) _ _ a _ ?_ ?_ hok hnd jH hpr hal hbd ?_ (je _ _ _ _ _ hb h)
    ·have hlt:aQ ((k,i)::xs) ((r,b)::E)<aQ ((k,i)::xs) E:=by
      unfold aQ
      have e:((k,i)::xs).filter (fun x=> !(((r,b)::E).map (·.1)).contains x.2)=(((k,i)::xs).filter (fun x=> !(E.map (·.1)).contains x.2)).filter (fun x=>x.2 != r):=by
       rw [List.filter_filter]
       congr 1
       funext x
       simp only [List.map_cons,List.contains_cons,Bool.not_or]
       rfl
      rw [e]
      exact List.length_filter_lt_length_iff_exists.2 ⟨_,List.mem_filter.2 ⟨hmem,by simpa using Xj⟩,by simp⟩
     omega
    ·refine ⟨by simpa using I.size,fun j hj=>?_,jL I.closed hy qG,by rw [eZ];exact I.defers,by rw [bI];exact I.Ao,fun t h1 h2=>?_,fun u hu=>(I.pend u hu).later fun _=>hb,I.pV,I.uu,fun u hu p hp=>?_⟩
     ·rw [iN (by rw [I.size];exact hj),I.tF j hj]
      simp only [List.map_cons,List.mem_cons,not_or]
      constructor
      ·rintro ⟨⟨h,h2⟩|h,hne⟩
       ·exact .inl ⟨h,hne,h2⟩
       ·exact .inr h
      ·rintro (⟨h,hne,h2⟩|h)
       ·exact ⟨.inl ⟨h,h2⟩,hne⟩
       ·obtain ⟨u,hu,rfl⟩:=List.mem_map.1 h
        exact ⟨.inr h,fun e=>jH u hu (e ▸ Tc)⟩
     ·have hd:y.dst≠some t:=by have:=h2 (r,b) zi;rwa [bJ hy] at this
      rw [eO _ _ hd]
      exact I.agree t h1 fun p hp=>h2 p (by simp [hp])
     ·rcases List.mem_cons.1 hp with hp|hp
      ·subst hp
       have:=hpr u hu _ hmem
       unfold fI at this
       simpa [K.isFin] using this
      ·exact I.ue u hu p hp
    ·refine ⟨fun p hp=>?_,fun p hp q hq hne g1 g2=>?_,fun p hp d hd hlt=>?_,fun x hx=>Nat.lt_of_lt_of_le (he.old x hx) hb.size,Nat.le_trans he.base hb.size⟩
     ·rcases List.mem_cons.1 hp with hp|hp
      ·subst hp
       refine ⟨cs,T,hmem,fun hw=>?_⟩
       obtain ⟨k1,k2,k3⟩:=hw1 hw
       exact ⟨k1,by rw [k2];exact he.base,k3,fun hA=>by have:=he.old _ hA;simp only at this;omega⟩
      ·obtain ⟨cs',T',hm',hg⟩:=he.good p hp
       refine ⟨cs',T',hm',fun hw=>?_⟩
       obtain ⟨hh,h1,h2,h3⟩:=hg hw
       exact ⟨by rw [hb.block _ h2];exact hh,h1,Nat.lt_of_lt_of_le h2 hb.size,h3⟩
     ·rcases List.mem_cons.1 hp with hp|hp<;>rcases List.mem_cons.1 hq with hq|hq
      ·subst hp hq;exact absurd rfl hne
      ·subst hp
       obtain ⟨_,_,_,hg⟩:=he.good q hq
       obtain ⟨_,_,h2,_⟩:=hg g2
       obtain ⟨_,k2,_⟩:=hw1 g1
       exact fun e=>by simp only at e;omega
      ·subst hq
       obtain ⟨_,_,_,hg⟩:=he.good p hp
       obtain ⟨_,_,h2,_⟩:=hg g1
       obtain ⟨_,k2,_⟩:=hw1 g2
       exact fun e=>by simp only at e;omega
      ·exact he.dist p hp q hq hne g1 g2
     ·rcases List.mem_cons.1 hp with hp|hp
      ·subst hp
       rw [bJ hy] at hd
       rw [hd,put_eq _ _ (by exact Nat.lt_of_lt_of_eq hlt I.Ao.symm),hv]
      ·obtain ⟨cs',T',hm',_⟩:=he.good p hp
       have hne:p.1≠r:=fun e=>Xj (e ▸ List.mem_map.2 ⟨p,hp,rfl⟩)
       have hc:=nK _ hok _ hm' _ hmem rfl rfl hne
       rw [eO _ _ (fun e=>hc.1 d hd (by rw [bJ hy];exact e))]
       exact he.slot p hp d hd hlt
   unfold wpOp
   simp only [hy]
   rw [hwt]
   cases hw:Region.wanted y (yielded ops a.tmps) with
   | true =>
    simp only [if_true]
    refine .inl ?_
    unfold Oper.wp
    rw [hrun]
    exact key _ _ w.heap.size hb (by rw [vE hy,hw];rfl) fun _=>⟨by show (w.heap.push _)[w.heap.size]? =_;simp,rfl,by rw [hsz];exact Nat.lt_succ_self _⟩
   | false =>
    simp only [Bool.false_eq_true,if_false]
    exact key _ _ 0 (Below.refl _ _) (by rw [vE hy,hw];rfl) fun h=>by rw [vE hy,hw] at h;cases h
  have hcount:i∉E.map (·.1)→1≤fuel:=fun jG=>by
   have:aQ ((k,i)::xs) E=aQ xs E+1:=by
    unfold aQ
    rw [List.filter_cons_of_pos (by simpa using jG)]
    rfl
   omega
  have hinj:∀ (l:List (K × Nat)),(l.map (·.2)).Nodup→∀ x∈l,∀ y∈l,x.2=y.2→x=y:=by
   intro l
   induction l with
   | nil=>intro _ x hx;cases hx
   | cons c l ihh =>
    intro hn x hx0 y hy0 hxy
    rw [List.map_cons,List.nodup_cons] at hn
    rcases List.mem_cons.1 hx0 with hx|hx<;>rcases List.mem_cons.1 hy0 with hy|hy
    ·rw [hx,hy]
    ·exact absurd (List.mem_map.2 ⟨y,hy,by rw [← hxy,hx]⟩) hn.1
    ·exact absurd (List.mem_map.2 ⟨x,hx,by rw [hxy,hy]⟩) hn.1
    ·exact ihh hn.2 x hx y hy hxy
  have actual:(k= .ext∨k.cK=true)→i∉E.map (·.1)→xs.all (blocked ops i xs)=true →
    (∀ f,fuel=f+1→i∈Region.ready .any ops listed→wpOp P ops Q i (wpAny P .any ops Q f (listed.setIfInBounds i true)) s w)→wpAny P .any ops Q fuel listed s w:=fun hk jG hbl hhead=>by
   obtain ⟨f,rfl⟩:∃ f,fuel=f+1:=⟨fuel - 1,by have:=hcount jG;omega⟩
   have SV:listed.getD i true=false:=(I.tF i hilt).2 (.inl ⟨by simp,jG⟩)
   refine ⟨fun hr=>?_,fun r hr=>?_⟩
   ·exfalso
    have:=Dg _ I.size hr i hilt
    rw [SV] at this;cases this
   ·obtain ⟨y,hy,Ju,qG⟩:=dw hr
    rcases (I.tF r (nW hr)).1 Ju with ⟨hL,Xj⟩|hU
    ·simp only [List.map_cons,List.mem_cons] at hL
     rcases hL with hL|hL
     ·subst hL;exact hhead f rfl hr
     ·obtain ⟨q,hq,rfl⟩:=List.mem_map.1 hL
      have hb:=List.all_eq_true.1 hbl q hq
      unfold blocked at hb
      simp only [Bool.or_eq_true] at hb
      rcases hb with (hb|hb)|hb
      ·obtain ⟨kq,jq⟩:=q
       cases kq with
       | alloc cs T=>exact early cs T jq (by simp [hq]) hr Xj f (Nat.lt_succ_self _) zo
       | _=>simp [K.cK] at hb
      ·exact (bQ hr hb SV).elim
      ·obtain ⟨z,hz,hz2⟩:=List.any_eq_true.1 hb
       simp only [Bool.and_eq_true,Bool.not_eq_true'] at hz2
       obtain ⟨e,he1,he2,he3⟩:=kY hy hz2.2
       by_cases hlt:z.2<ops.size
       ·refine (bQ hr hz2.2 ((I.tF z.2 hlt).2 (.inl ⟨by simp;exact .inr ⟨z.1,hz⟩,fun hzE=>?_⟩))).elim
        obtain ⟨p,hp,hpe⟩:=List.mem_map.1 hzE
        obtain ⟨cs,T,hmem,_⟩:=he.good p hp
        have hmem':(K.alloc cs T,z.2)∈(k,i)::xs:=by rw [← hpe];exact hmem
        rcases List.mem_cons.1 hmem' with h3|h3
        ·have:z.2=i:=by cases h3;rfl
         exact nN.1 (this ▸ List.mem_map.2 ⟨z,hz,rfl⟩)
        ·have:z=(K.alloc cs T,z.2):=by
          exact hinj xs nN.2 z hz _ h3 rfl
         rw [this] at hz2
         simp [K.cK] at hz2
       ·have:=qG e he1 he2
        rw [he3] at this
        simp [I.size,Nat.le_of_not_lt hlt] at this
    ·obtain ⟨u,hu,rfl⟩:=List.mem_map.1 hU
     refine qj hs I hr hU (.inl (jH u hu)) fun v' I'=>?_
     refine ihf f (Nat.lt_succ_self _) ((k,i)::xs) A _ E _ _ a w ?_ I' hok hnd (fun x hx=>jH x (List.mem_filter.1 hx).1) (fun x hx=>hpr x (List.mem_filter.1 hx).1) hal hbd ?_ h
     ·have:(U.filter (fun x=>x.2 != u.2)).length<U.length:=List.length_filter_lt_length_iff_exists.2 ⟨u,hu,by simp⟩
      omega
     ·refine ⟨he.good,he.dist,fun p hp d hd hlt=>?_,he.old,he.base⟩
      have hc:=(dN (I.ue u hu p hp)).2
      rw [eO _ _ (fun e=>hc.1 d hd e)]
      exact he.slot p hp d hd hlt
  have jy:k.cK=false→i∉E.map (·.1):=fun hk hm=>by
   obtain ⟨p,hp,hpe⟩:=List.mem_map.1 hm
   obtain ⟨cs,T,hmem,_⟩:=he.good p hp
   have:=hinj _ hnd _ hmem (k,i) zi hpe
   cases this
   simp [K.cK] at hk
  have Db:∀ p∈E,p.1≠i→∃ cs T,(K.alloc cs T,p.1)∈xs∧(xJ ops a p.1=true→w.heap[p.2]? =some (.cells cs T (0,0))∧N≤p.2∧p.2<w.heap.size∧p.2∉A):=fun p hp hne=>by
   obtain ⟨cs,T,hmem,hg⟩:=he.good p hp
   refine ⟨cs,T,?_,hg⟩
   rcases List.mem_cons.1 hmem with hmem|hmem
   ·cases hmem;exact absurd rfl hne
   ·exact hmem
  unfold gF at h
  simp only [ho] at h
  cases k with
  | pure =>
   simp only at h
   have hself:lS ops i=true:=by unfold dG at hok;simp only [Bool.and_eq_true] at hok;exact hok.1.1.1
   split at h
   ·rename_i hw
    obtain ⟨v,h1,h2⟩:=h
    exact advance true v rfl rfl rfl hself (jy rfl) (.inl ⟨hw,fun w' _=>h1 w'⟩) (.inl rfl) h2
   ·rename_i hw
    exact advance true undef rfl rfl rfl hself (jy rfl) (.inr ⟨by simpa using hw,rfl⟩) (.inl rfl) h
  | read =>
   simp only at h
   have hself:lS ops i=true:=by unfold dG at hok;simp only [Bool.and_eq_true] at hok;exact hok.1.1.1
   split at h
   ·rename_i hw
    obtain ⟨v,h1,h2⟩:=h
    exact advance false v rfl rfl rfl hself (jy rfl) (.inl ⟨hw,fun w' hb=>h1 w' (hb rfl)⟩) (.inr rfl) h2
   ·rename_i hw
    exact advance false undef rfl rfl rfl hself (jy rfl) (.inr ⟨by simpa using hw,rfl⟩) (.inr rfl) h
  | fin =>
   have hfin:xs.all (·.1.isFin)=true:=by unfold dG at hok;simp only [Bool.and_eq_true] at hok;exact hok.1.1.1
   have hE:E=[]:=by
    cases E with
    | nil=>rfl
    | cons p ps =>
     obtain ⟨cs,T,hmem,_⟩:=he.good p zi
     rcases List.mem_cons.1 hmem with hmem|hmem
     ·cases hmem
     ·have:=List.all_eq_true.1 hfin _ hmem
      simp [K.isFin] at this
   subst hE
   exact ru hs Dg hQ fuel ((.fin,i)::xs) U listed s a w (by rw [ig] at hm;exact hm) I hok (by rw [List.all_cons,hfin];rfl) hnd jH hpr (h w (Below.refl _ _))
  | ext =>
   have hbl:xs.all (blocked ops i xs)=true:=by unfold dG at hok;simp only [Bool.and_eq_true] at hok;exact hok.1.1.2
   refine actual (.inl rfl) (jy rfl) hbl fun f hf hr=>?_
   obtain ⟨y,hy,Ju,qG⟩:=dw hr
   rw [ho] at hy;cases hy
   have rU:∀ t,t∈o.looksAt ops→s.tmps[t]? =a.tmps[t]? :=fun t ht=>by
    refine I.agree t (fun u hu hd=>?_) (fun p hp hd=>?_)
    ·have hf:=Ov rfl u hu
     cases hx:ops[u.2]? with
     | none=>simp [iY,hx] at hd
     | some y =>
      have he':=(eH hx ho hf).2 t (by rw [bJ hx] at hd;exact hd) ht
      exact bQ hr he' ((I.tF u.2 (Array.getElem?_eq_some_iff.1 hx).1).2 (.inr (List.mem_map.2 ⟨u,hu,rfl⟩)))
    ·obtain ⟨cs,T,hmem,_⟩:=Db p hp fun e=>jy rfl (e ▸ List.mem_map.2 ⟨p,hp,rfl⟩)
     have hf:=hpx rfl _ hmem
     unfold fI at hf
     simp only [K.isFin,Bool.false_eq_true,if_false] at hf
     cases hx:ops[p.1]? with
     | none=>simp [iY,hx] at hd
     | some y=>exact ((eH ho hx hf).1 t (by rw [bJ hx] at hd;exact hd)).1 ht
   have h':wpOp P ops Q i (fun a' w''=>Below w.heap.size w w''∧gF P ops Q mk N xs A a' w'') a w:=by
    unfold wpOp
    simp only [ho]
    simp only at h
    split at h
    ·rename_i hw;simp only [hw,if_true];exact .inl (h w (Below.refl _ _))
    ·rename_i hw;simp only [hw,Bool.false_eq_true,if_false];exact ⟨Below.refl _ _,h⟩
   refine su ho (fun cs b=>Region.noSelect_spec hs i o cs b ho) rU I.defers hQ (fun ds v w' hk=>?_) h'
   obtain ⟨hb,hk⟩:=hk
   have aF8:aQ ((.ext,i)::xs) E=aQ xs E+1:=by
    unfold aQ
    rw [List.filter_cons_of_pos (by simpa using jy rfl)]
    rfl
   have hst:∀ p∈E,xJ ops ({ a with defers:=ds }.put o.dst v) p.1=xJ ops a p.1:=fun p hp=>by
    rw [← YW (jy rfl) rfl rfl p hp v]
    unfold xJ
    cases o.dst<;>rfl
   refine ihf f zo xs A U E _ _ ({ a with defers:=ds }.put o.dst v) w' zo ?_ hrest nN.2 (fun u hu hm=>jH u hu (by simp only [List.map_cons,List.mem_cons];exact .inr hm)) (fun u hu q hq=>hpr u hu q (by simp [hq]))
    (fun cs T j hj=>hal cs T j (by simp [hj])) af2 ?_ hk
   ·refine ⟨by simpa using I.size,fun j hj=>?_,jL I.closed ho qG,by simp [eZ],by rw [bI,bI];exact I.Ao,fun t h1 h2=>?_,fun u hu=>?_,I.pV,I.uu,I.ue⟩
    ·rw [iN (by rw [I.size];exact hj),I.tF j hj]
     simp only [List.map_cons,List.mem_cons]
     constructor
     ·rintro ⟨⟨h|h,h2⟩|h,hne⟩
      ·exact absurd h hne
      ·exact .inl ⟨h,h2⟩
      ·exact .inr h
     ·rintro (⟨h,h2⟩|h)
      ·exact ⟨.inl ⟨.inr h,h2⟩,fun e=>nN.1 (e ▸ h)⟩
      ·obtain ⟨u,hu,rfl⟩:=List.mem_map.1 h
       exact ⟨.inr h,fun e=>jH u hu (by simp [e])⟩
    ·by_cases hd:o.dst=some t
     ·by_cases hlt:t<a.tmps.size
      ·rw [hd,put_eq _ _ (by exact Nat.lt_of_lt_of_eq hlt I.Ao.symm),put_eq _ _ (by exact hlt)]
      ·rw [Array.getElem?_eq_none (by rw [bI];exact I.Ao ▸ Nat.le_of_not_lt hlt),Array.getElem?_eq_none (by rw [bI];exact Nat.le_of_not_lt hlt)]
     ·rw [eO _ _ hd,eO _ _ hd]
      exact I.agree t h1 h2
    ·have h3:AZ P ops u { a with defers:=ds } w:=I.pend u hu
     exact (h3.put hs v fun o' ho' d hd=>(eH ho' ho (Ov rfl u hu)).1 d hd).later fun _=>hb
   ·refine ⟨fun p hp=>?_,fun p hp q hq h1 h2 h3=>he.dist p hp q hq h1 (by rw [← hst p hp];exact h2) (by rw [← hst q hq];exact h3),fun p hp d hd hlt=>?_,fun x hx=>Nat.lt_of_lt_of_le (he.old x hx) hb.size,Nat.le_trans he.base hb.size⟩
    ·obtain ⟨cs,T,hmem,hg⟩:=Db p hp fun e=>jy rfl (e ▸ List.mem_map.2 ⟨p,hp,rfl⟩)
     refine ⟨cs,T,hmem,fun hw=>?_⟩
     obtain ⟨hh,h1,h2,h3⟩:=hg (by rw [← hst p hp];exact hw)
     exact ⟨by rw [hb.block _ h2];exact hh,h1,Nat.lt_of_lt_of_le h2 hb.size,h3⟩
    ·obtain ⟨cs,T,hmem,_⟩:=Db p hp fun e=>jy rfl (e ▸ List.mem_map.2 ⟨p,hp,rfl⟩)
     have hf:=hpx rfl _ hmem
     unfold fI at hf
     simp only [K.isFin,Bool.false_eq_true,if_false] at hf
     have hc:=(dN hf).2
     rw [eO _ _ (fun e=>hc.1 d hd (by rw [bJ ho];exact e)),hst p hp]
     exact he.slot p hp d hd (by rwa [bI] at hlt)
  | alloc cs T =>
   have hbl:xs.all (blocked ops i xs)=true:=by unfold dG at hok;simp only [Bool.and_eq_true] at hok;exact hok.1.1.2
   by_cases jG:i∈E.map (·.1)
   ·obtain ⟨p,hp,hpi⟩:=List.mem_map.1 jG
    obtain ⟨cs',T',hmem,hg⟩:=he.good p hp
    have hsame:=hinj _ hnd _ hmem (.alloc cs T,i) zi hpi
    have e1:cs'=cs:=by injection hsame with a b;injection a
    have e2:T'=T:=by injection hsame with a b;injection a
    subst e1 e2
    have hwi:xJ ops a p.1=Region.wanted o (yielded ops a.tmps):=by rw [hpi];exact vE ho
    have Ta:∀ d,o.dst=some d→d<a.tmps.size→s.tmps[d]? =some (if xJ ops a p.1 then mk p.1 p.2 else undef):=fun d hd hlt=>he.slot p hp d (by rw [hpi,bJ ho];exact hd) hlt
    have hst:∀ v,∀ q∈E,q.1≠i→xJ ops (a.put o.dst v) q.1=xJ ops a q.1:=fun v q hq hqi=>by
     obtain ⟨cs2,T2,zq,_⟩:=he.good q hq
     cases hy:ops[q.1]? with
     | none=>unfold xJ;rw [hy]
     | some y=>exact KE hy fun d hd hm=>hbd _ hmem _ zq rfl rfl d y (by show iY ops p.1=some d;rw [hpi,bJ ho];exact hd) hy hm
    have fin:∀ (v:Value) (A':List Nat),v=(if xJ ops a p.1 then mk p.1 p.2 else undef)→(∀ x∈A',x<w.heap.size)→(∀ q∈E,q.1≠i→xJ ops a q.1=true→q.2∉A')→gF P ops Q mk N xs A' (a.put o.dst v) w→wpAny P .any ops Q fuel listed s w:=fun v A' hv hA1 hA2 hk=>by
     refine ihl A' U (E.filter (fun x=>x.1 != i)) listed s (a.put o.dst v) w ?_ ?_ hrest nN.2 (fun u hu hm=>jH u hu (by simp only [List.map_cons,List.mem_cons];exact .inr hm)) (fun u hu q hq=>hpr u hu q (by simp [hq]))
      (fun cs T j hj=>hal cs T j (by simp [hj])) af2 ?_ hk
     ·have:aQ xs (E.filter (fun x=>x.1 != i))=aQ ((.alloc cs' T',i)::xs) E:=by
       unfold aQ
       rw [List.filter_cons_of_neg (by simpa using jG)]
       congr 1
       refine List.filter_congr fun x hx=>?_
       have hxi:x.2≠i:=fun e=>nN.1 (e ▸ List.mem_map.2 ⟨x,hx,rfl⟩)
       congr 1
       rw [Bool.eq_iff_iff]
       simp only [List.contains_iff_mem,List.mem_map,List.mem_filter,bne_iff_ne,ne_eq]
       constructor
       ·rintro ⟨y,⟨hy,_⟩,e⟩;exact ⟨y,hy,e⟩
       ·rintro ⟨y,hy,e⟩;exact ⟨y,⟨hy,fun e2=>hxi (e ▸ e2)⟩,e⟩
      omega
     ·refine ⟨I.size,fun j hj=>?_,I.closed,by rw [eZ];exact I.defers,by rw [bI];exact I.Ao,fun t h1 h2=>?_,fun u hu=>(I.pend u hu).put hs _ fun o' ho' d hd=>(eH ho' ho (Ov rfl u hu)).1 d hd,I.pV,I.uu,fun u hu q hq=>I.ue u hu q (List.mem_filter.1 hq).1⟩
      ·rw [I.tF j hj]
       simp only [List.map_cons,List.mem_cons,List.mem_map,List.mem_filter,bne_iff_ne,ne_eq]
       constructor
       ·rintro (⟨h|h,h2⟩|h)
        ·subst h;exact absurd ⟨p,hp,hpi⟩ h2
        ·exact .inl ⟨h,fun ⟨y,⟨hy,_⟩,e⟩=>h2 ⟨y,hy,e⟩⟩
        ·exact .inr h
       ·rintro (⟨h,h2⟩|h)
        ·refine .inl ⟨.inr h,fun ⟨y,hy,e⟩=>h2 ⟨y,⟨hy,fun e2=>?_⟩,e⟩⟩
         obtain ⟨z,hz,hz2⟩:=h
         exact nN.1 (List.mem_map.2 ⟨z,hz,by rw [hz2,← e,e2]⟩)
        ·exact .inr h
      ·by_cases hd:o.dst=some t
       ·by_cases hlt:t<a.tmps.size
        ·rw [hd,put_eq _ _ hlt,Ta t hd hlt,hv]
        ·rw [Array.getElem?_eq_none (by rw [I.Ao];exact Nat.le_of_not_lt hlt),Array.getElem?_eq_none (by rw [bI];exact Nat.le_of_not_lt hlt)]
       ·rw [eO _ _ hd]
        refine I.agree t h1 fun q hq wQ=>?_
        by_cases hqi:q.1=i
        ·rw [hqi,bJ ho] at wQ;exact hd wQ
        ·exact h2 q (List.mem_filter.2 ⟨hq,by simpa using hqi⟩) wQ
     ·refine ⟨fun q hq=>?_,fun q hq r hr hne g1 g2=>?_,fun q hq d hd hlt=>?_,hA1,he.base⟩
      ·obtain ⟨hq1,hq2⟩:=List.mem_filter.1 hq
       have hqi:q.1≠i:=by simpa using hq2
       obtain ⟨cs2,T2,zq,hg2⟩:=Db q hq1 hqi
       refine ⟨cs2,T2,zq,fun hw=>?_⟩
       rw [hst v q hq1 hqi] at hw
       obtain ⟨hh2,g1,g2,g3⟩:=hg2 hw
       exact ⟨hh2,g1,g2,hA2 q hq1 hqi hw⟩
      ·obtain ⟨hq1,hq2⟩:=List.mem_filter.1 hq
       obtain ⟨hr1,hr2⟩:=List.mem_filter.1 hr
       rw [hst v q hq1 (by simpa using hq2)] at g1
       rw [hst v r hr1 (by simpa using hr2)] at g2
       exact he.dist q hq1 r hr1 hne g1 g2
      ·obtain ⟨hq1,hq2⟩:=List.mem_filter.1 hq
       rw [hst v q hq1 (by simpa using hq2)]
       exact he.slot q hq1 d hd (by rwa [bI] at hlt)
    simp only at h
    cases hw:Region.wanted o (yielded ops a.tmps) with
    | true =>
     rw [hw,if_pos rfl] at h
     rw [hw] at hwi
     obtain ⟨hh,h1,h2,h3⟩:=hg hwi
     have hk:=h p.2 w (Below.refl _ _) h1 h2 h3 hh
     refine fin _ (p.2::A) (by rw [hwi,if_pos rfl,hpi]) (fun x hx=>?_) (fun q hq hqi hwq=>?_) hk
     ·rcases List.mem_cons.1 hx with hx|hx
      ·rw [hx];exact h2
      ·exact he.old x hx
     ·obtain ⟨cs2,T2,zq,hg2⟩:=he.good q hq
      simp only [List.mem_cons,not_or]
      exact ⟨he.dist q hq p hp (by rw [hpi];exact hqi) hwq hwi,(hg2 hwq).2.2.2⟩
    | false =>
     rw [hw,if_neg zi] at h
     rw [hw] at hwi
     refine fin _ A (by rw [hwi,if_neg zi]) he.old (fun q hq hqi hwq=>?_) h
     obtain ⟨cs2,T2,zq,hg2⟩:=he.good q hq
     exact (hg2 hwq).2.2.2
   ·exact actual (.inr rfl) jG hbl fun f hf hr=>early cs T i zi hr jG f zo zo
def Uz (ops:Array Oper) (is:List (K × Nat)):Bool :=
 Region.noSelect ops&&rz (is.map (·.2)) ops&&dG ops is&&decide (is.map (·.2)).Nodup&&decide (is.length≤ops.size)&&(List.range ops.size).all (fun i=>(is.map (·.2)).contains i)&&JU ops is
theorem xu {mk:Nat→Nat→Value} {id:Nat} {a:Act} {w:World} (is:List (K × Nat)) (hm:P.follows .mixedOrders=true) (hc:Uz ops is=true) (hal:Ag P ops mk is)
  (hQ:∀ c (a s:Act) w,s.defers=a.defers→Q (.panic c) a w→Q (.panic c) s w)
  (h:gF P ops Q mk w.drew.heap.size is [] a w.drew):(Code.region id ops true).wp P Q a w:=by
 unfold Uz at hc
 simp only [Bool.and_eq_true,decide_eq_true_eq] at hc
 obtain ⟨⟨⟨⟨⟨⟨h1,h2⟩,h3⟩,h4⟩,h5⟩,h6⟩,h7⟩:=hc
 refine wp_region_any hm ?_
 refine Fz h1 (Sr h2) hQ w.heap.size ops.size is [] [] [] _ a a w.drew ?_ ?_ h3 h4 zi zi hal (UK h7) ?_ h
 ·rw [ig];exact h5
 ·refine ⟨by simp,fun i hi=>?_,fun j o hj hl=>?_,rfl,rfl,fun t _ _=>rfl,by simp,by simp,by simp,by simp⟩
  ·have hmem:i∈is.map (·.2):=by simpa using List.all_eq_true.1 h6 i (List.mem_range.2 hi)
   simp [hi]
   simpa using hmem
  ·have hj':=(Array.getElem?_eq_some_iff.1 hj).1
   simp [hj'] at hl
 ·exact ⟨by simp,by simp,by simp,by simp,Nat.le_refl _⟩
structure Wm (P:Program) (ops:Array Oper) (Q:Exit→Act→World→Prop) (mk:Nat→Nat→Value) (N:Nat) (is:List (K × Nat)) (A:List Nat) (a:Act) (w:World):Prop where
 out:gF P ops Q mk N is A a w
variable {mk:Nat→Nat→Value} {o:Oper} {i:Nat} {is:List (K × Nat)} {a:Act} {w:World} {N:Nat} {A:List Nat}
theorem aV {k:K} (hk:k.isFin=false) (ho:ops[i]? =some o) (hw:Region.wanted o (yielded ops a.tmps)=false) (h:∀ J:Act→Prop,(∀ a,Wm P ops Q mk N is A a w→J a)→J (a.put o.dst undef)):Wm P ops Q mk N ((k,i)::is) A a w:=by
 have h':=h (fun a=>gF P ops Q mk N is A a w) fun a ha=>ha.out
 refine ⟨?_⟩
 unfold gF
 cases k<;>simp only [ho,hw,Bool.false_eq_true,if_false]<;>first|exact h'|simp [K.isFin] at hk
theorem aW (ho:ops[i]? =some o) (hw:Region.wanted o (yielded ops a.tmps)=true) (h:∀ J:Act→Prop,(∀ a,Wm P ops Q mk N is A a w→J a)→∃ v,(∀ w',(execOp a.eval o).run P w'= .ok (.value v) w')∧J (a.put o.dst v)):Wm P ops Q mk N ((.pure,i)::is) A a w:=by
 have h':=h (fun a=>gF P ops Q mk N is A a w) fun a ha=>ha.out
 refine ⟨?_⟩
 unfold gF
 simp only [ho,hw,if_true]
 exact h'
theorem aX {T:TypeId} {x:Operand} {p:Addr} (ho:ops[i]? =some o) (hw:Region.wanted o (yielded ops a.tmps)=true) (hop:o.op= .load T x) (hx:a.eval x= .pointer (some p))
  (h:∀ J:Value→Prop,(∀ v,Wm P ops Q mk N is A (a.put o.dst v) w→J v)→(w.cell? p).isSome=true∧∃ v,(loadVar T p).run P w= .ok v w∧J v):Wm P ops Q mk N ((.read,i)::is) A a w:=by
 obtain ⟨h1,v,h2,h3⟩:=h (fun v=>gF P ops Q mk N is A (a.put o.dst v) w) fun a ha=>ha.out
 refine ⟨?_⟩
 unfold gF
 simp only [ho,hw,if_true]
 refine ⟨v,fun w' hb=>?_,h3⟩
 simp only [execOp,hop,hx,Instr.loadAt,Instr.sureAddr,Sem.run_bind,Sem.run_pure,Result.andThen_ok,nL hb h1 h2]
theorem dD (ho:ops[i]? =some o) (hw:Region.wanted o (yielded ops a.tmps)=true) (h:∀ w',Below w.heap.size w w'→∀ J:Act→World→Prop,(∀ a' w'',Below w'.heap.size w' w''→Wm P ops Q mk N is A a' w''→J a' w'')→o.wp P a w' J Q):Wm P ops Q mk N ((.ext,i)::is) A a w:=by
 refine ⟨?_⟩
 unfold gF
 simp only [ho,hw,if_true]
 exact fun w' hb=>h w' hb _ fun a' w'' h1 h2=>⟨h1,h2.out⟩
theorem iM {cs:Array Value} {T:TypeId} (ho:ops[i]? =some o) (hw:Region.wanted o (yielded ops a.tmps)=true) (h:∀ b w',Below w.heap.size w w'→N≤b→b<w'.heap.size→b∉A→w'.heap[b]? =some (.cells cs T (0,0))→∀ J:Act→World→Prop,(∀ a' w'',w''=w'→Wm P ops Q mk N is (b::A) a' w''→J a' w'')→J (a.put o.dst (mk i b)) w'):Wm P ops Q mk N ((.alloc cs T,i)::is) A a w:=by
 refine ⟨?_⟩
 unfold gF
 simp only [ho,hw,if_true]
 exact fun b w' h1 h2 h3 h4 h5=>h b w' h1 h2 h3 h4 h5 (fun a' w''=>w''=w'→gF P ops Q mk N is (b::A) a' w'') (fun a' w'' e h _=>h.out) rfl
theorem aa0 (l:List Oper) (hl:(i::is.map (·.2)).map (ops[·]?)=l.map some) (h:∀ w',Below w.heap.size w w'→wpList P ops Q l a w'):Wm P ops Q mk N ((.fin,i)::is) A a w:=by
 have hi:∃ o,ops[i]? =some o:=by
  cases l with
  | nil=>cases hl
  | cons x xs=>simp only [List.map_cons,List.cons.injEq] at hl;exact ⟨x,hl.1⟩
 obtain ⟨o,ho⟩:=hi
 refine ⟨?_⟩
 unfold gF
 simp only [ho]
 exact fun w' hb=>jN _ l a w' hl (h w' hb)
end Go.SW
namespace Go.Proofs.fM
open Go Go.RowKit Go.SW Go.Num Go.Mem Go.Proofs
def iw (x:(Int × Int) × Int):Value:=.tuple #[.agg #[.int .i64 x.1.1,.int .i64 x.1.2],.int .i64 x.2]
def mM (lo hi:Int):Bool:=decide (-1000000000000000000≤lo)&&(decide (lo≤hi)&&decide (hi≤1000000000000000000))
theorem tK (lo hi:Int) (w:World):Calls Tryz.prog 138 #[.int .i64 lo,.int .i64 hi] w (fun e w'=>e= .returned (.bool (mM lo hi))∧Below w.heap.size w w'):=by
 unfold mM
 cases h1:decide (-1000000000000000000≤lo)<;>cases h2:decide (lo≤hi)<;>cases h3:decide (hi≤1000000000000000000)
 all_goals
  go_enter Tryz.func138,Tryz.ntmps138
  go_wp2_with fail
  go_ret
  exact ⟨rfl,Below.refl _ _⟩
theorem Check_ok (lo hi:Int) (w:World):Calls Tryz.prog 83 #[.agg #[.int .i64 lo,.int .i64 hi]] w (fun e w'=>e= .returned (.int .i64 (if mM lo hi then 0 else 30))∧Below w.heap.size w w'):=by
 have H:=zh (fun W=>tK lo hi W)
 generalize mM lo hi=b at *
 cases b
 all_goals
  go_enter Tryz.func83,Tryz.ntmps83
  go_wp2_with fail
  refine (H.out _).mono ?_
  rintro e w1 ⟨rfl,hb1⟩
  have hw:=Bt (show Below w.heap.size w (w.alloc (.cells #[.int .i64 lo,.int .i64 hi] 69)) from belA) hb1
  go_wp2_with fail
  go_ret
  exact ⟨rfl,hw⟩
end Go.Proofs.fM
