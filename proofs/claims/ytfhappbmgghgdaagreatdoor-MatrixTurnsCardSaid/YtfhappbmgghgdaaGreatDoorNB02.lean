/- Lemmas for the proof. No condition. -/
import Derived.Test.YtfhappbmgghgdaaGreatDoorNB01
import Derived.Test.YtfhappbmgghgdaaGreatDoorProg
import Derived.Lib.ItoaNum
import Derived.Laws.ResultCell
import Derived.Laws.Rows
import Derived.Shelf.Strings.Builder1
import Derived.Shelf.LaysM
import Derived.Shelf.Strconv.Itoa3
import Derived.Shelf.Strconv.Clone
import Derived.Shelf.Strconv.SyntaxError
import Derived.Shelf.LaysC
import Derived.Shelf.Strconv.ToError
import Derived.Shelf.Strconv.Lower
import Derived.Shelf.Strconv.RangeError
import Derived.Shelf.Strconv.ToErrorRange
import Derived.Shelf.Strings.Search1
import Derived.Shelf.Strings.Search2
import Derived.Shelf.Strings.Cut
import Derived.Shelf.Strings.Shaped
import Derived.Shelf.Bits.Mul64
import Derived.Shelf.Strings.Repeat
import Derived.Lib.AppendStr
import Derived.Lib.Builder
import Derived.Lib.AppendIntMem
import Derived.Shelf.Small.Bits
import Derived.Shelf.Strconv.Itoa0
import Derived.Shelf.Strconv.ParseUint10
import Derived.Shelf.Strconv.ParseUint10Any
import Derived.Shelf.Strconv.ParseInt10
import Derived.Shelf.Strconv.ParseUint10b64
import Derived.Shelf.Strconv.ParseUint10At
import Derived.Shelf.Strconv.ParseInt10At64
import Derived.Shelf.Strconv.ParseInt10All
import Derived.Shelf.Strconv.ParseIntPublic10
import Derived.Laws.MakeOwn
import Derived.RangeFuncBox
set_option linter.unusedVariables false
set_option linter.unusedSimpArgs false
set_option maxRecDepth 100000
set_option maxHeartbeats 16000000
namespace Go.Dec
open Go.Num Go.Lib
theorem dec_small {u:Nat} (h:u<10):decDigits u=[UInt8.ofNat (48+u)]:=by rw [decDigits,dif_pos h]
theorem dec_big {u:Nat} (h:¬ u<10):decDigits u=decDigits (u / 10)++[UInt8.ofNat (48+u%10)]:=by rw [decDigits,dif_neg h]
theorem dec_ne (u:Nat):decDigits u≠[]:=by
 by_cases h:u<10
 ·rw [dec_small h];simp
 ·rw [dec_big h];simp
theorem dec_len_pos (u:Nat):1≤(decDigits u).length:=List.length_pos_iff.mpr (dec_ne u)
def pad:Nat→Nat→List UInt8
 | 0,_=>[]
 | k+1,r=>pad k (r / 10)++[UInt8.ofNat (48+r%10)]
theorem pad_length:∀ k r,(pad k r).length=k
 | 0,_=>rfl
 | k+1,r=>by simp [pad,pad_length k]
theorem pad_zero:∀ k,pad k 0=List.replicate k 48
 | 0=>rfl
 | k+1=>by
  rw [pad,Nat.zero_div,pad_zero k,List.replicate_succ']
  rfl
theorem dec_pad:∀ (k q r:Nat),0<q→r<10^k→decDigits (q*10^k+r)=decDigits q++pad k r
 | 0,q,r,hq,hr=>by
  have:r=0:=by simpa using hr
  subst this
  simp [pad]
 | k+1,q,r,hq,hr=>by
  have hp:0<10^k:=Nat.pow_pos zd
  have e:q*10^(k+1)+r=10*(q*10^k)+r:=by rw [Nat.pow_succ,Nat.mul_comm 10,Nat.mul_assoc]
  have h1:0<q*10^k:=Nat.mul_pos hq hp
  rw [dec_big zo,e,show (10*(q*10^k)+r) / 10=q*10^k+r / 10 by omega,show (10*(q*10^k)+r)%10=r%10 by omega,
   dec_pad k q (r / 10) hq (by rw [Nat.pow_succ] at hr;omega),pad,List.append_assoc]
theorem dec_fill:∀ (k r:Nat),0<k→r<10^k→List.replicate (k - (decDigits r).length) 48++decDigits r=pad k r
 | 0,_,h,_=>by omega
 | k+1,r,_,hr=>by
  by_cases h:r<10
  ·rw [dec_small h,pad,Nat.div_eq_of_lt h,Nat.mod_eq_of_lt h,pad_zero]
   simp
  ·have hk:0<k:=by
    rcases Nat.eq_zero_or_pos k with h0|h0
    ·subst h0;simp at hr;omega
    ·exact h0
   rw [dec_big h,pad,← dec_fill k (r / 10) hk (by rw [Nat.pow_succ] at hr;omega)]
   simp
theorem dec_len_le:∀ (k r:Nat),0<k→r<10^k→(decDigits r).length≤k:=fun k r hk hr=>by
 by_cases h:(decDigits r).length≤k
 ·exact h
 ·have h1:=congrArg List.length (dec_fill k r hk hr)
  rw [List.length_append,List.length_replicate,pad_length] at h1
  omega
theorem dec_len_lt (n:Nat):n<10^(decDigits n).length:=by
 induction n using Nat.strongRecOn with
 | _ n ih =>
  by_cases h:n<10
  ·rw [dec_small h];simpa using h
  ·rw [dec_big h,List.length_append,List.length_singleton,Nat.pow_succ]
   have:=ih (n / 10) zo
   omega
def num (l:List UInt8):Nat:=l.foldl (fun v b=>v*10+(b.toNat - 48)) 0
def DigS (l:List UInt8):Prop:=∀ b∈l,48≤b.toNat∧b.toNat≤57
theorem num_snoc (l:List UInt8) (b:UInt8):num (l++[b])=num l*10+(b.toNat - 48):=by simp [num]
theorem num_nil:num []=0:=rfl
theorem foldl_num:∀ (m:List UInt8) (v:Nat),m.foldl (fun v b=>v*10+(b.toNat - 48)) v=v*10^m.length+num m
 | [],v=>by simp [num]
 | b::m,v=>by
  have h1:=foldl_num m (v*10+(b.toNat - 48))
  have h2:=foldl_num m (0*10+(b.toNat - 48))
  rw [List.foldl_cons,h1]
  have e:num (b::m)=m.foldl (fun v b=>v*10+(b.toNat - 48)) (0*10+(b.toNat - 48)):=rfl
  rw [e,h2,List.length_cons,Nat.pow_succ,Nat.add_mul,Nat.add_mul,Nat.mul_assoc,Nat.mul_comm (10^m.length) 10]
  omega
theorem num_append (l m:List UInt8):num (l++m)=num l*10^m.length+num m:=by
 unfold num
 rw [List.foldl_append,foldl_num]
 rfl
theorem snoc_ind {α:Type} {Q:List α→Prop} (h0:Q []) (h1:∀ l a,Q l→Q (l++[a])) (l:List α):Q l:=by
 have h:∀ m:List α,Q m.reverse:=fun m=>by
  induction m with
  | nil=>exact h0
  | cons a m ih=>rw [List.reverse_cons];exact h1 _ _ ih
 have:=h l.reverse
 rwa [List.reverse_reverse] at this
theorem num_lt (l:List UInt8):DigS l→num l<10^l.length :=
 snoc_ind (Q:=fun l=>DigS l→num l<10^l.length) (fun _=>by simp [num]) (fun l b ih h=>by
  rw [num_snoc,List.length_append,List.length_singleton,Nat.pow_succ]
  have h1:=ih fun x hx=>h x (by simp [hx])
  have h2:=h b zi
  omega) l
theorem digS_append {l m:List UInt8} (h:DigS l) (k:DigS m):DigS (l++m):=fun b hb=>by
 rcases List.mem_append.mp hb with hb|hb
 ·exact h b hb
 ·exact k b hb
theorem byte_digit {d:Nat} (h:d<10):(UInt8.ofNat (48+d)).toNat=48+d:=by
 rw [UInt8.toNat_ofNat']
 omega
theorem digS_dec (n:Nat):DigS (decDigits n):=by
 induction n using Nat.strongRecOn with
 | _ n ih =>
  by_cases h:n<10
  ·rw [dec_small h]
   intro b hb
   rw [List.mem_singleton] at hb
   subst hb
   rw [byte_digit h]
   omega
  ·rw [dec_big h]
   refine digS_append (ih _ zo) fun b hb=>?_
   rw [List.mem_singleton] at hb
   subst hb
   rw [byte_digit zo]
   omega
theorem num_dec (n:Nat):num (decDigits n)=n:=by
 induction n using Nat.strongRecOn with
 | _ n ih =>
  by_cases h:n<10
  ·rw [dec_small h,← List.nil_append [UInt8.ofNat (48+n)],num_snoc,num_nil,byte_digit h]
   omega
  ·rw [dec_big h,num_snoc,ih _ zo,byte_digit zo]
   omega
theorem dec_num (l:List UInt8):DigS l→l≠[]→(l.head? =some 48→l.length=1)→decDigits (num l)=l :=
 snoc_ind (Q:=fun l=>DigS l→l≠[]→(l.head? =some 48→l.length=1)→decDigits (num l)=l) (fun _ h=>absurd rfl h) (fun l b ih hd _ h0=>by
  have hb:=hd b zi
  have hbe:UInt8.ofNat (48+(b.toNat - 48))=b:=by
   rw [show 48+(b.toNat - 48)=b.toNat by omega]
   exact UInt8.ofNat_toNat
  by_cases hl:l=[]
  ·subst hl
   rw [num_snoc,num_nil,List.nil_append,dec_small zo,Nat.zero_mul,Nat.zero_add,hbe]
  ·have hdl:DigS l:=fun x hx=>hd x (by simp [hx])
   have hh:l.head? ≠some 48:=fun e=>by
    have e2:(l++[b]).head? =some 48:=by rw [List.head?_append,e];rfl
    have:=h0 e2
    rw [List.length_append,List.length_singleton] at this
    have:=List.length_pos_iff.mpr hl
    omega
   have ih2:=ih hdl hl (fun e=>absurd e hh)
   have hpos:0<num l:=by
    rcases Nat.eq_zero_or_pos (num l) with e|e
    ·rw [e,dec_small zo] at ih2
     rw [← ih2] at hh
     exact absurd rfl hh
    ·exact e
   rw [num_snoc,dec_big zo,show (num l*10+(b.toNat - 48)) / 10=num l by omega,show (num l*10+(b.toNat - 48))%10=b.toNat - 48 by omega,ih2,hbe]) l
theorem dec_head {n:Nat} (h:(decDigits n).head? =some 48):n=0:=by
 induction n using Nat.strongRecOn with
 | _ n ih =>
  by_cases hn:n<10
  ·rw [dec_small hn] at h
   simp only [List.head?_cons,Option.some.injEq] at h
   have:=congrArg UInt8.toNat h
   rw [byte_digit hn] at this
   simp at this
   omega
  ·rw [dec_big hn] at h
   have h2:(decDigits (n / 10)).head? =some 48:=by
    cases hq:decDigits (n / 10) with
    | nil=>exact absurd hq (dec_ne _)
    | cons x t=>rw [hq] at h;simpa using h
   have:=ih _ zo h2
   omega
def okDigs (d:List UInt8) (neg:Bool):Bool :=
 d≠[]&&d.length≤600&&d.all (fun b=>48≤b.toNat&&b.toNat≤57)&& !(d.head? == some 48&&(neg || 1<d.length))
def cut (s:List UInt8):List UInt8 × Bool:=if s.head? =some 45 then (s.tail,true) else (s,false)
def mk (n:Nat) (neg:Bool):Int:=if neg then -(n:Int) else n
def whole (s:List UInt8):Option Int:=if okDigs (cut s).1 (cut s).2 then some (mk (num (cut s).1) (cut s).2) else none
theorem okDigs_digS {d:List UInt8} {neg:Bool} (h:okDigs d neg=true):DigS d:=by
 intro b hb
 unfold okDigs at h
 simp only [Bool.and_eq_true] at h
 have:=List.all_eq_true.mp h.1.2 b hb
 simpa using this
theorem whole_itoa {s:List UInt8} {z:Int} (h:whole s=some z):s=itoa z∧(decDigits z.natAbs).length≤600:=by
 unfold whole at h
 split at h
 ·rename_i hok
  have hd:=okDigs_digS hok
  unfold okDigs at hok
  simp only [Bool.and_eq_true,Bool.not_eq_true',decide_eq_true_eq] at hok
  obtain ⟨⟨⟨h1,h2⟩, -⟩,h4⟩:=hok
  have hlen:(cut s).1.head? =some 48→(cut s).1.length=1:=fun e=>by
   have:=List.length_pos_iff.mpr h1
   rw [e] at h4
   simp at h4
   omega
  have hdn:=dec_num _ hd h1 hlen
  simp only [Option.some.injEq] at h
  unfold cut at *
  by_cases hs:s.head? =some 45
  ·rw [if_pos hs] at *
   simp only at *
   have hz:0<num s.tail:=by
    rcases Nat.eq_zero_or_pos (num s.tail) with e|e
    ·rw [e,dec_small zo] at hdn
     rw [← hdn] at h4
     simp at h4
    ·exact e
   subst h
   have e1:mk (num s.tail) true= -((num s.tail:Nat):Int):=rfl
   have e2:(-((num s.tail:Nat):Int)).natAbs=num s.tail:=by omega
   rw [e1,e2,hdn]
   refine ⟨?_,h2⟩
   unfold itoa
   rw [if_pos zo,e2,hdn]
   cases s with
   | nil=>simp at hs
   | cons x t=>simp only [List.head?_cons,Option.some.injEq] at hs;subst hs;rfl
  ·rw [if_neg hs] at *
   simp only at *
   subst h
   have e1:mk (num s) false=((num s:Nat):Int):=rfl
   rw [e1,Int.natAbs_natCast,hdn]
   refine ⟨?_,h2⟩
   unfold itoa
   rw [if_neg zo,Int.toNat_natCast,hdn]
 ·simp at h
theorem whole_of_itoa {z:Int} (h:(decDigits z.natAbs).length≤600):whole (itoa z)=some z:=by
 unfold whole
 by_cases hz:z<0
 ·have e:itoa z=45::decDigits z.natAbs:=by unfold itoa;rw [if_pos hz]
  have ec:cut (itoa z)=(decDigits z.natAbs,true):=by rw [e];rfl
  rw [ec]
  have hh:(decDigits z.natAbs).head? ≠some 48:=fun e=>by have:=dec_head e;omega
  rw [if_pos,num_dec]
  ·have:mk z.natAbs true=z:=by unfold mk;rw [if_pos rfl];omega
   rw [this]
  ·unfold okDigs
   have hd:=digS_dec z.natAbs
   simp only [Bool.and_eq_true,decide_eq_true_eq,List.all_eq_true,Bool.not_eq_true',Bool.and_eq_false_iff]
   exact ⟨⟨⟨dec_ne _,h⟩,hd⟩,.inl (by simpa using hh)⟩
 ·have e:itoa z=decDigits z.natAbs:=by unfold itoa;rw [if_neg hz,show z.toNat=z.natAbs by omega]
  have hnm:(itoa z).head? ≠some 45:=by
   rw [e]
   intro h1
   have hd:=digS_dec z.natAbs
   cases hq:decDigits z.natAbs with
   | nil=>exact dec_ne _ hq
   | cons x t =>
    rw [hq] at h1 hd
    simp only [List.head?_cons,Option.some.injEq] at h1
    have:=hd x zi
    subst h1
    simp at this
  have ec:cut (itoa z)=(decDigits z.natAbs,false):=by unfold cut;rw [if_neg hnm,e]
  rw [ec,if_pos,num_dec]
  ·have:mk z.natAbs false=z:=by unfold mk;simp;omega
   rw [this]
  ·unfold okDigs
   have hd:=digS_dec z.natAbs
   simp only [Bool.and_eq_true,decide_eq_true_eq,List.all_eq_true,Bool.not_eq_true',Bool.and_eq_false_iff]
   refine ⟨⟨⟨dec_ne _,h⟩,hd⟩,?_⟩
   by_cases hh:(decDigits z.natAbs).head? =some 48
   ·have:=dec_head hh
    right
    rw [this,dec_small zo]
    rfl
   ·exact .inl (by simpa using hh)
theorem cut_itoa (z:Int):cut (itoa z)=(decDigits z.natAbs,decide (z<0)):=by
 by_cases hz:z<0
 ·have e:itoa z=45::decDigits z.natAbs:=by unfold itoa;rw [if_pos hz]
  rw [e,decide_eq_true hz]
  rfl
 ·have e:itoa z=decDigits z.natAbs:=by unfold itoa;rw [if_neg hz,show z.toNat=z.natAbs by omega]
  have hnm:(itoa z).head? ≠some 45:=by
   rw [e]
   intro h1
   have hd:=digS_dec z.natAbs
   cases hq:decDigits z.natAbs with
   | nil=>exact dec_ne _ hq
   | cons x t =>
    rw [hq] at h1 hd
    simp only [List.head?_cons,Option.some.injEq] at h1
    have:=hd x zi
    subst h1
    simp at this
  unfold cut
  rw [if_neg hnm,e,decide_eq_false hz]
theorem itoa_inj {a b:Int} (h:itoa a=itoa b):a=b:=by
 unfold itoa at h
 have key:∀ (n m:Nat),45::decDigits n≠decDigits m:=fun n m e=>by
  have:=digS_dec m 45 (by rw [← e];simp)
  simp at this
 by_cases ha:a<0<;>by_cases hb:b<0
 ·rw [if_pos ha,if_pos hb] at h
  have:=congrArg num (List.cons.inj h).2
  rw [num_dec,num_dec] at this
  omega
 ·rw [if_pos ha,if_neg hb] at h;exact absurd h (key _ _)
 ·rw [if_neg ha,if_pos hb] at h;exact absurd h.symm (key _ _)
 ·rw [if_neg ha,if_neg hb] at h
  have:=congrArg num h
  rw [num_dec,num_dec] at this
  omega
theorem dec_group {l:List Nat} {i:Nat} (hi:i<l.length) (hd:Dig 1000000000 l) (hp:0<val 1000000000 (l.drop (i+1))) :
  decDigits (val 1000000000 (l.drop i))=decDigits (val 1000000000 (l.drop (i+1)))++(List.replicate (9 - (decDigits (l.getD i 0)).length) 48++decDigits (l.getD i 0)):=by
 have hx:l.getD i 0<10^9:=hd.getD zo i
 rw [dec_fill 9 _ zo hx,small_step hi,← dec_pad 9 _ _ hp hx]
theorem top_drop {l:List Nat} (h:Top l) (i:Nat):Top (l.drop i):=fun k hk=>by
 rw [List.length_drop] at hk
 have:=h (i+k) zo
 rw [List.getD_eq_getElem?_getD,List.getElem?_drop]
 rwa [List.getD_eq_getElem?_getD] at this
theorem dec_len_val {l:List Nat} (h:Dig 1000000000 l):(decDigits (val 1000000000 l)).length≤9*l.length+1:=by
 refine dec_len_le _ _ zo (Nat.lt_of_lt_of_le (val_lt zo h) ?_)
 rw [show (1000000000:Nat)=10^9 by rfl,← Nat.pow_mul]
 exact Nat.pow_le_pow_right zo zo
theorem pos_drop {l:List Nat} {n i:Nat} (hn:l.length=n+1) (ht:Top l) (hi:i≤n):0<val 1000000000 (l.drop i) :=
 val_pos_of_top zo (top_drop ht i) (fun e=>by have:=congrArg List.length e;rw [List.length_drop,hn] at this;simp at this;omega)
theorem val_drop_last {l:List Nat} {n:Nat} (hn:l.length=n+1):val 1000000000 (l.drop n)=l.getD n 0:=by
 rw [drop_getD zo,List.drop_eq_nil_of_le zo]
 simp [val]
theorem dec_len_top {l:List Nat} {n:Nat} (hn:l.length=n+1) (hd:Dig 1000000000 l) (ht:Top l):(decDigits (val 1000000000 l)).length=9*n+(decDigits (l.getD n 0)).length:=by
 have key:∀ j,j≤n→(decDigits (val 1000000000 (l.drop (n - j)))).length=9*j+(decDigits (l.getD n 0)).length:=fun j=>by
  induction j with
  | zero=>intro _;rw [Nat.sub_zero,val_drop_last hn];omega
  | succ j ih =>
   intro hj
   have h1:=dec_group (l:=l) (i:=n - (j+1)) zo hd (pos_drop hn ht zo)
   rw [show n - (j+1)+1=n - j by omega] at h1
   have h2:(decDigits (l.getD (n - (j+1)) 0)).length≤9:=dec_len_le 9 _ zo (hd.getD zo _)
   rw [h1,List.length_append,ih zo,List.length_append,List.length_replicate]
   omega
 have:=key n (Nat.le_refl _)
 rwa [Nat.sub_self,List.drop_zero] at this
theorem num_group {bs:List UInt8} {s e:Nat} (h:s≤e) (he:e≤bs.length):num (bs.drop s)=num ((bs.take e).drop s)*10^(bs.length - e)+num (bs.drop e):=by
 have e1:bs.drop s=(bs.take e).drop s++bs.drop e:=by
  conv=>lhs;rw [← List.take_append_drop e bs]
  rw [List.drop_append_of_le_length (by rw [List.length_take];omega)]
 rw [e1,num_append,List.length_drop]
theorem take_drop_snoc {bs:List UInt8} {st i:Nat} {x:UInt8} (hst:st≤i) (hx:bs[i]? =some x):(bs.take (i+1)).drop st=(bs.take i).drop st++[x]:=by
 have hi:i<bs.length:=by
  rcases Nat.lt_or_ge i bs.length with h|h
  ·exact h
  ·rw [List.getElem?_eq_none h] at hx;simp at hx
 rw [List.take_add_one,hx,Option.toList_some,List.drop_append_of_le_length (by rw [List.length_take];omega)]
theorem group_lt {bs:List UInt8} (hd:DigS bs) {st i:Nat} (h9:i - st≤9):num ((bs.take i).drop st)<1000000000:=by
 have h1:=num_lt ((bs.take i).drop st) (fun b hb=>hd b (List.mem_of_mem_take (List.mem_of_mem_drop hb)))
 have h2:(10:Nat)^((bs.take i).drop st).length≤10^9:=Nat.pow_le_pow_right zo (by rw [List.length_drop,List.length_take];omega)
 omega
theorem gather_step {bs:List UInt8} (hd:DigS bs) {st i:Nat} {x:UInt8} (hst:st≤i) (h9:i - st<9) (hx:bs[i]? =some x) :
  (((num ((bs.take i).drop st):Nat):Int)*10%4294967296+((x.toNat:Int) - 48)%256)%4294967296=(num ((bs.take (i+1)).drop st):Nat):=by
 have hb:=hd x (List.mem_of_getElem? hx)
 have h2:=group_lt hd (i:=i+1) (st:=st) zo
 rw [take_drop_snoc hst hx,num_snoc] at h2 ⊢
 omega
end Go.Dec
namespace Go.Mem
open Go Go.RowKit
variable {P:Program} {fn:Func} {R:Ending→World→Prop} {w:World} {tmps:Array Value}
theorem run_results_cell_tmp {p u:Tmp} {ty t:TypeId} {g:Nat} {cs:Array Value} {d:TypeDesc} (h:fn.results=#[.cell p ty,.tmp u])
  (hp:tmps.getD p undef= .pointer (some ⟨g,0,none⟩)) (hg:Box w g cs t) (hu:P.underlying ty=some d)
  (hd:(match d with| .struct _| .array _ _=>true| _=>false)=true) (hi:(P.info? ty).map (·.size)=some cs.size) :
  (results fn tmps).run P w= .ok (.tuple #[.agg cs,tmps.getD u undef]) w:=by
 rw [results_cell_tmp h,hp]
 simp only [asAddr,Sem.run_pure,Result.andThen_ok]
 rw [run_loadVar_row w g t ty cs (0,0) d hg hu hd hi]
 rfl
theorem ret_ct {p u:Tmp} {ty t:TypeId} {g:Nat} {cs:Array Value} {d:TypeDesc} (h:fn.results=#[.cell p ty,.tmp u])
  (hp:tmps.getD p undef= .pointer (some ⟨g,0,none⟩)) (hg:Box w g cs t) (hu:P.underlying ty=some d)
  (hd:(match d with| .struct _| .array _ _=>true| _=>false)=true) (hi:(P.info? ty).map (·.size)=some cs.size)
  (k:R (.returned (.tuple #[.agg cs,tmps.getD u undef])) w):bodyPost P fn R .ret { tmps:=tmps,defers:=[] } w :=
 bodyPost_ret (run_results_cell_tmp h hp hg hu hd hi) rfl k
theorem ret_c {p:Tmp} {ty t:TypeId} {g:Nat} {cs:Array Value} {d:TypeDesc} (h:fn.results=#[.cell p ty])
  (hp:tmps.getD p undef= .pointer (some ⟨g,0,none⟩)) (hg:Box w g cs t) (hu:P.underlying ty=some d)
  (hd:(match d with| .struct _| .array _ _=>true| _=>false)=true) (hi:(P.info? ty).map (·.size)=some cs.size)
  (k:R (.returned (.agg cs)) w):bodyPost P fn R .ret { tmps:=tmps,defers:=[] } w :=
 bodyPost_ret (results_cell_row h tmps w g t cs (0,0) d hp hg hu hd hi) rfl k
end Go.Mem
namespace Go.Mem
open Go Go.RowKit Go.SW Go.Num Go.Dec
theorem Box.new_at {w:World} {b:Nat} {cs:Array Value} {T:TypeId} (h:b=w.heap.size):Box (w.alloc (.cells cs T (0,0))) b cs T:=h ▸ Box.new w cs T
theorem Box.at1 (w:World) (o:Obj) (cs:Array Value) (T:TypeId):Box ((w.alloc o).alloc (.cells cs T (0,0))) (w.heap.size+1) cs T:=Box.new_at zi
theorem Box.at2 (w:World) (o o2:Obj) (cs:Array Value) (T:TypeId):Box (((w.alloc o).alloc o2).alloc (.cells cs T (0,0))) (w.heap.size+1+1) cs T:=Box.new_at zi
theorem Box.at3 (w:World) (o o2 o3:Obj) (cs:Array Value) (T:TypeId):Box ((((w.alloc o).alloc o2).alloc o3).alloc (.cells cs T (0,0))) (w.heap.size+1+1+1) cs T:=Box.new_at zi
theorem Mag.alloc {w:World} {v:Value} {n:Nat} (h:Mag w v n) (o:Obj):Mag (w.alloc o) v n:=h.later ((Below.refl _ _).alloc (Nat.le_refl _) _)
theorem Mag.drew {w:World} {v:Value} {n:Nat} (h:Mag w v n):Mag w.drew v n:=h.later (Below.drew (Below.refl _ _))
theorem Below_alloc {w W:World} (h:Below w.heap.size w W) (o:Obj):Below w.heap.size w (W.alloc o):=h.alloc h.size o
theorem belA {B:Nat} {w w':World} (h:Below B w w':=by repeat (first|(with_reducible exact Below.refl _ _)|(with_reducible assumption)|(with_reducible refine Below_alloc ?_ _)|((with_reducible refine Below.setCell ?_ ?_ _);rotate_left;focus (first|(simp;done)|(simp;omega)|assumption|(simp only [];omega)))|(with_reducible refine Below.drew ?_)|((with_reducible refine Bt (w1:=?_) ?_ ?_);rotate_right;with_reducible assumption))):Below B w w':=h
theorem boxA {w:World} {b:Nat} {cs:Array Value} {T:TypeId} (h:Box w b cs T:=by repeat (first|(with_reducible assumption)|(with_reducible apply Box.set)|(with_reducible exact Box.new _ _ _)|(with_reducible exact Box.at1 _ _ _ _)|(with_reducible exact Box.at2 _ _ _ _ _)|(with_reducible apply Box.alloc)|(with_reducible apply Box.drew)|((with_reducible refine Box.later (w:=?_) ?_ ?_);rotate_right;with_reducible assumption)|((with_reducible apply Box.setOther);(case hne=>(first|assumption|(simp;done)|(simp;omega)))))):Box w b cs T:=h
theorem al1 (w:World) (c0:Array Value) (T0:TypeId):∃ y,w.alloc (.cells c0 T0 (0,0))=y∧Below w.heap.size w y∧Hid (Box y (w.heap.size) c0 T0):=⟨_,rfl,Below_alloc (Below.refl _ _) _,zh (Box.new _ _ _)⟩
theorem al2 (w:World) (c0:Array Value) (T0:TypeId) (c1:Array Value) (T1:TypeId):∃ y,(w.alloc (.cells c0 T0 (0,0))).alloc (.cells c1 T1 (0,0))=y∧Below w.heap.size w y∧Hid (Box y (w.heap.size) c0 T0)∧Hid (Box y (w.heap.size+1) c1 T1):=⟨_,rfl,Below_alloc (Below_alloc (Below.refl _ _) _) _,zh (Box.alloc (Box.new _ _ _) _),zh (Box.at1 _ _ _ _)⟩
theorem al3 (w:World) (c0:Array Value) (T0:TypeId) (c1:Array Value) (T1:TypeId) (c2:Array Value) (T2:TypeId):∃ y,((w.alloc (.cells c0 T0 (0,0))).alloc (.cells c1 T1 (0,0))).alloc (.cells c2 T2 (0,0))=y∧Below w.heap.size w y∧Hid (Box y (w.heap.size) c0 T0)∧Hid (Box y (w.heap.size+1) c1 T1)∧Hid (Box y (w.heap.size+1+1) c2 T2):=⟨_,rfl,Below_alloc (Below_alloc (Below_alloc (Below.refl _ _) _) _) _,zh (Box.alloc (Box.alloc (Box.new _ _ _) _) _),zh (Box.alloc (Box.at1 _ _ _ _) _),zh (Box.at2 _ _ _ _ _)⟩
theorem al4 (w:World) (c0:Array Value) (T0:TypeId) (c1:Array Value) (T1:TypeId) (c2:Array Value) (T2:TypeId) (c3:Array Value) (T3:TypeId):∃ y,(((w.alloc (.cells c0 T0 (0,0))).alloc (.cells c1 T1 (0,0))).alloc (.cells c2 T2 (0,0))).alloc (.cells c3 T3 (0,0))=y∧Below w.heap.size w y∧Hid (Box y (w.heap.size) c0 T0)∧Hid (Box y (w.heap.size+1) c1 T1)∧Hid (Box y (w.heap.size+1+1) c2 T2)∧Hid (Box y (w.heap.size+1+1+1) c3 T3):=⟨_,rfl,Below_alloc (Below_alloc (Below_alloc (Below_alloc (Below.refl _ _) _) _) _) _,zh (Box.alloc (Box.alloc (Box.alloc (Box.new _ _ _) _) _) _),zh (Box.alloc (Box.alloc (Box.at1 _ _ _ _) _) _),zh (Box.alloc (Box.at2 _ _ _ _ _) _),zh (Box.at3 _ _ _ _ _ _)⟩
theorem _root_.Go.RowKit.Hid.bl {w w':World} {b:Nat} {cs:Array Value} {T:TypeId} (h:Hid (Box w b cs T)) (hb:Below w.heap.size w w'):Hid (Box w' b cs T):=zh (h.out.later hb)
theorem _root_.Go.RowKit.Hid.cl {w:World} {b:Nat} {cs:Array Value} {T:TypeId} (h:Hid (Box w b cs T)):(∀ o,w.cell? ⟨b,o,none⟩=cs[o]?)∧b<w.heap.size:=⟨h.out.cell,h.out.lt⟩
theorem _root_.Go.RowKit.Hid.clf {w:World} {b:Nat} {cs:Array Value} {T:TypeId} (h:Hid (Box w b cs T)):(∀ o,w.cell? ⟨b,o,none⟩=cs[o]?)∧b<w.heap.size∧∀ o,w.frozen? ⟨b,o,none⟩=false:=⟨h.out.cell,h.out.lt,h.out.free⟩
theorem Mag.slice {w:World} {v:Value} {n:Nat} (h:Mag w v n):∃ pa l ca,v= .slice pa l ca:=by
 obtain ⟨a,cap,h1, -⟩:=h
 exact ⟨_,_,_,h1⟩
def IntV (w:World) (v:Value) (z:Int):Prop:=∃ pa l ca,v= .agg #[.slice pa l ca,.bool (decide (z<0))]∧Mag w (.slice pa l ca) z.natAbs
theorem IntV.later {w w':World} {v:Value} {z:Int} (h:IntV w v z) (hb:Below w.heap.size w w'):IntV w' v z:=by
 obtain ⟨pa,l,ca,h1,h2⟩:=h
 exact ⟨pa,l,ca,h1,h2.later hb⟩
theorem IntV.mk {w:World} {m:Value} {z:Int} {b:Bool} {n:Nat} (h:Mag w m n) (hn:n=z.natAbs) (hb:b=decide (z<0)):IntV w (.agg #[m,.bool b]) z:=by
 obtain ⟨pa,l,ca,rfl⟩:=h.slice
 exact ⟨pa,l,ca,by rw [hb],hn ▸ h⟩
def itxt (z:Int):Value:=.string ⟨(Lib.itoa z).toArray⟩
def sgd (n:Nat) (b:Bool):Int:=if b then -(n:Int) else n
theorem sgd_natAbs (n:Nat) (b:Bool):(sgd n b).natAbs=n:=by unfold sgd;split<;>omega
theorem sgd_neg (n:Nat) (b:Bool):(b&& !decide (n=0))=decide (sgd n b<0):=by
 unfold sgd
 cases b
 ·simp
 ·simp only [Bool.true_and,if_true]
  rw [Bool.eq_iff_iff]
  simp
  omega
theorem IntV.of_neg {w:World} {pa:Option Addr} {l ca:Nat} {z:Int} (h:Mag w (.slice pa l ca) z.natAbs):IntV w (.agg #[.slice pa l ca,.bool (decide (z<0))]) z:=⟨pa,l,ca,rfl,h⟩
theorem IntV.cast {w:World} {v:Value} {y z:Int} (h:IntV w v y) (e:y=z):IntV w v z:=e ▸ h
theorem sgd_opp (z:Int):sgd z.natAbs (!decide (z<0))= -z:=by
 unfold sgd
 by_cases h:z<0
 ·simp [h];omega
 ·simp [h];omega
theorem sgd_mul (z:Int) (n:Nat):sgd (z.natAbs*n) (decide (z<0))=z*n:=by
 unfold sgd
 by_cases h:z<0
 ·simp only [h,decide_true,if_true]
  have:z= -(z.natAbs:Int):=by omega
  rw [this,Int.natAbs_neg,Int.natAbs_natCast,Int.natCast_mul,Int.neg_mul]
 ·simp only [h,decide_false]
  have:z=(z.natAbs:Int):=by omega
  rw [this,Int.natAbs_natCast,Int.natCast_mul]
  rfl
end Go.Mem
namespace Go.Proofs
open Go.Shelf
def Tryz.lays169_ren:Go.Shelf.Ren:=⟨fun|169=>108|n=>n,fun|70=>171|9=>9|0=>0|72=>174|37=>172|127=>235|3=>3|5=>5|n=>n,fun|n=>n⟩
theorem Tryz.lays169:Go.Proofs.Lays.n169 Tryz.prog Tryz.lays169_ren:={
 mixed:=by kernel_rfl
 f169:=Tryz.func108.trans (congrArg some zk)
 t0:=Tryz.underlying0
 a0:=Tryz.isAgg0
 z0:=Tryz.sizeOf0
 v0:=Tryz.zeroValue0
 t3:=Tryz.underlying3
 a3:=Tryz.isAgg3
 z3:=Tryz.sizeOf3
 v3:=Tryz.zeroValue3
 t9:=Tryz.underlying9
 a9:=Tryz.isAgg9
 z9:=Tryz.sizeOf9
 v9:=Tryz.zeroValue9
 t37:=Tryz.underlying172
 a37:=Tryz.isAgg172
 z37:=Tryz.sizeOf172
 v37:=Tryz.zeroValue172
 t70:=Tryz.underlying171
 a70:=Tryz.isAgg171
 z70:=Tryz.sizeOf171
 v70:=Tryz.zeroValue171
 t72:=Tryz.underlying174
 a72:=Tryz.isAgg174
 z72:=Tryz.sizeOf174
 v72:=Tryz.zeroValue174
 t127:=Tryz.underlying235
 a127:=Tryz.isAgg235
 z127:=Tryz.sizeOf235
 v127:=Tryz.zeroValue235 }
theorem Tryz.Builder_Extra_169:Builder.Extra Tryz.prog Tryz.lays169_ren:={
 sizeBuilder:=by kernel_rfl
 liesBuilder:=by kernel_rfl
 t5:=Tryz.underlying5
 a5:=Tryz.isAgg5
 z5:=Tryz.sizeOf5
 v5:=Tryz.zeroValue5
 infoByte:=by kernel_rfl
 cellsByte:=by kernel_rfl
 sizeByte:=by kernel_rfl
 neB5:=by decide }
open Go.RowKit in
theorem Tryz.Builder_String_any (B b:Nat) (l:List UInt8) (w:World) (h:Lib.IsBuilder 174 5 B b (Lib.byteCells l) w) (hBw:B≤w.heap.size) :
  Calls Tryz.prog 108 #[.pointer (some ⟨b,0,none⟩)] w fun e w'=>e= .returned (.string ⟨l.toArray⟩)∧Below B w w':=Any.Builder_String_any Tryz.lays169 Tryz.Builder_Extra_169 B b l w h hBw
def Tryz.laysM171_ren:Go.Shelf.Ren:=⟨fun|171=>175|243=>222|246=>250|283=>258|284=>259|285=>260|286=>261|129=>253|317=>268|318=>269|319=>270|320=>271|337=>276|338=>277|n=>n,fun|3=>3|9=>9|2=>2|4=>4|171=>312|0=>0|53=>192|37=>172|5=>5|173=>314|212=>324|51=>65|20=>20|213=>325|46=>31|232=>337|233=>338|n=>n,fun|17=>3|18=>6|19=>7|n=>n⟩
theorem Tryz.laysM171:Go.Proofs.LaysM.n171 Tryz.prog Tryz.laysM171_ren:={
 mixed:=by kernel_rfl
 f129:=Tryz.func253.trans (congrArg some zk)
 f171:=Tryz.func175.trans (congrArg some zk)
 f243:=Tryz.func222.trans (congrArg some zk)
 f246:=Tryz.func250.trans (congrArg some zk)
 f283:=Tryz.func258.trans (congrArg some zk)
 f284:=Tryz.func259.trans (congrArg some zk)
 f285:=Tryz.func260.trans (congrArg some zk)
 f286:=Tryz.func261.trans (congrArg some zk)
 f317:=Tryz.func268.trans (congrArg some zk)
 f318:=Tryz.func269.trans (congrArg some zk)
 f319:=Tryz.func270.trans (congrArg some zk)
 f320:=Tryz.func271.trans (congrArg some zk)
 f337:=Tryz.func276.trans (congrArg some zk)
 f338:=Tryz.func277.trans (congrArg some zk)
 t0:=Tryz.underlying0
 a0:=Tryz.isAgg0
 z0:=Tryz.sizeOf0
 v0:=Tryz.zeroValue0
 t2:=Tryz.underlying2
 a2:=Tryz.isAgg2
 z2:=Tryz.sizeOf2
 v2:=Tryz.zeroValue2
 t3:=Tryz.underlying3
 a3:=Tryz.isAgg3
 z3:=Tryz.sizeOf3
 v3:=Tryz.zeroValue3
 t4:=Tryz.underlying4
 a4:=Tryz.isAgg4
 z4:=Tryz.sizeOf4
 v4:=Tryz.zeroValue4
 t5:=Tryz.underlying5
 a5:=Tryz.isAgg5
 z5:=Tryz.sizeOf5
 v5:=Tryz.zeroValue5
 t9:=Tryz.underlying9
 a9:=Tryz.isAgg9
 z9:=Tryz.sizeOf9
 v9:=Tryz.zeroValue9
 t20:=Tryz.underlying20
 a20:=Tryz.isAgg20
 z20:=Tryz.sizeOf20
 v20:=Tryz.zeroValue20
 t37:=Tryz.underlying172
 a37:=Tryz.isAgg172
 z37:=Tryz.sizeOf172
 v37:=Tryz.zeroValue172
 t46:=Tryz.underlying31
 a46:=Tryz.isAgg31
 z46:=Tryz.sizeOf31
 v46:=Tryz.zeroValue31
 t51:=Tryz.underlying65
 a51:=Tryz.isAgg65
 z51:=Tryz.sizeOf65
 v51:=Tryz.zeroValue65
 t53:=Tryz.underlying192
 a53:=Tryz.isAgg192
 z53:=Tryz.sizeOf192
 v53:=Tryz.zeroValue192
 t171:=Tryz.underlying312
 a171:=Tryz.isAgg312
 z171:=Tryz.sizeOf312
 v171:=Tryz.zeroValue312
 t173:=Tryz.underlying314
 a173:=Tryz.isAgg314
 z173:=Tryz.sizeOf314
 v173:=Tryz.zeroValue314
 t212:=Tryz.underlying324
 a212:=Tryz.isAgg324
 z212:=Tryz.sizeOf324
 v212:=Tryz.zeroValue324
 t213:=Tryz.underlying325
 a213:=Tryz.isAgg325
 z213:=Tryz.sizeOf325
 t232:=Tryz.underlying337
 a232:=Tryz.isAgg337
 z232:=Tryz.sizeOf337
 v232:=Tryz.zeroValue337
 t233:=Tryz.underlying338
 a233:=Tryz.isAgg338
 z233:=Tryz.sizeOf338
 v233:=Tryz.zeroValue338
 g17:=by kernel_rfl
 g18:=by kernel_rfl
 g19:=by kernel_rfl
 i0:=by kernel_rfl
 i2:=by kernel_rfl
 i3:=by kernel_rfl
 i4:=by kernel_rfl
 i5:=by kernel_rfl
 i9:=by kernel_rfl
 i20:=by kernel_rfl
 i37:=by kernel_rfl
 i46:=by kernel_rfl
 i51:=by kernel_rfl
 i53:=by kernel_rfl
 i171:=by kernel_rfl
 i173:=by kernel_rfl
 i212:=by kernel_rfl
 i232:=by kernel_rfl
 i233:=by kernel_rfl
 m17:=by kernel_rfl
 m18:=by kernel_rfl
 m19:=by kernel_rfl }
open Go.RowKit Go.Sort Go.Lib in
theorem Tryz.strconv_Itoa (n : Int) (h0 : -9223372036854775808 ≤ n) (h1 : n ≤ 9223372036854775807) (w : World) (htab : Lib.TabIs Tryz.prog w "internal/strconv.uint64pow10" .u64 Lib.pow10Tab) :
  Calls Tryz.prog 175 #[.int .i64 n] w fun e w'=>e= .returned (.string ⟨(Lib.itoa n).toArray⟩)∧∃ k os,w'=grow (w.drewN k) os:=Any.strconv_Itoa Tryz.laysM171 n h0 h1 w htab
end Go.Proofs
namespace Go.Proofs.Bld
open Go Go.RowKit Go.SW Go.Num Go.Mem Go.Proofs
def Pow (w : World) : Prop := Lib.TabIs Tryz.prog w "internal/strconv.uint64pow10" .u64 Lib.pow10Tab
theorem Pow.later {w w':World} (h:Pow w) (hb:Below w.heap.size w w'):Pow w':=Lib.tabBelow_of_tabIs h w' hb
theorem below_grow (w:World) (k:Nat) (os:Array Obj):Below w.heap.size w (Go.Sort.grow (w.drewN k) os):=by
 unfold Go.Sort.grow
 refine ⟨rfl,rfl,rfl,?_,fun i hi=>?_⟩
 ·simp
 ·simp only [World.drewN]
  rw [Array.getElem?_append_left hi]
theorem infoByte:(Tryz.prog.info? 5).map (fun i=>(i.zero,i.size,i.bytes))=some (some (.int .u8 0),1,1):=by kernel_rfl
theorem infoBld:(Tryz.prog.info? 174).map (·.size)=some 2:=by kernel_rfl
abbrev IsB (B b:Nat) (bs:List Value) (w:World):Prop:=Lib.IsBuilder 174 5 B b bs w
abbrev AtB (B b:Nat) (bs:List Value) (w:World):Prop:=Lib.BuilderAt 174 5 B b (.pointer (some ⟨b,0,none⟩)) bs w
theorem near_of_below {w w':World} (h:Below w.heap.size w w'):w.grownBy w' none:=⟨h.os,h.tape,h.output,h.size,fun i hi _=>h.block i hi⟩
theorem bld_later {p:Value} {B b:Nat} {bs:List Value} {w w':World} (h:Lib.BuilderAt 174 5 B b p bs w) (hb:Below w.heap.size w w'):Lib.BuilderAt 174 5 B b p bs w':=by
 have hl:=h.lt
 obtain ⟨hB,v,hbk,hown,hne⟩:=h
 refine ⟨hB,v,(hb.block _ hl).trans hbk,hown.kept (near_of_below hb) ?_,hne⟩
 cases h:v.ownBlock with
 | none=>exact .inl rfl
 | some k=>exact .inr zi
theorem IsB.later {B b:Nat} {bs:List Value} {w w':World} (h:IsB B b bs w) (hb:Below w.heap.size w w'):IsB B b bs w':=by
 rcases h with h|h
 ·exact .inl (bld_later h hb)
 ·exact .inr (bld_later h hb)
theorem itoa_nat (n:Nat):Lib.itoa (n:Int)=Lib.decDigits n:=by
 unfold Lib.itoa
 rw [if_neg zo,Int.toNat_natCast]
theorem itoa_ok (n:Nat) (h:n<1000000000) (w:World) (ht:Pow w) :
  Calls Tryz.prog 175 #[.int .i64 n] w fun e w'=>e= .returned (.string ⟨(Lib.decDigits n).toArray⟩)∧Below w.heap.size w w':=by
 refine (Tryz.strconv_Itoa n zo zo w ht).mono ?_
 rintro e w' ⟨rfl,k,os,rfl⟩
 rw [itoa_nat]
 exact ⟨rfl,below_grow _ _ _⟩
theorem copyCheck_used (b:Nat) (w:World) (h0:w.cell? ⟨b,0,none⟩=some (.pointer (some ⟨b,0,none⟩))) :
  Calls Tryz.prog 163 #[.pointer (some ⟨b,0,none⟩)] w fun e w'=>e= .returned (.tuple #[])∧w'=w:=by
 obtain ⟨j,hj,_⟩:=Option.map_eq_some_iff.1 infoBld
 go_enter Tryz.func163,Tryz.ntmps163
 go_wp2
 rw [Lib.run_neq_ptr_same w _ Tryz.underlying171 hj]
 go_wp2
 go_end0
 exact ⟨rfl,rfl⟩
theorem copyCheck_fresh (b:Nat) (w:World) (h0:w.cell? ⟨b,0,none⟩=some (.pointer none)) (hsh:w.shape? b=some (174,2)) (hfz:w.frozen? ⟨b,0,none⟩=false) :
  Calls Tryz.prog 163 #[.pointer (some ⟨b,0,none⟩)] w fun e w'=>e= .returned (.tuple #[])∧w'=w.setCell ⟨b,0,none⟩ (.pointer (some ⟨b,0,none⟩)):=by
 obtain ⟨j,hj,hjs⟩:=Option.map_eq_some_iff.1 infoBld
 go_enter Tryz.func163,Tryz.ntmps163
 go_wp2
 rw [Lib.run_to_unsafe w ⟨b,0,none⟩ Tryz.underlying171 Tryz.underlying278 hj (by rw [hjs];decide) hsh (Nat.zero_lt_succ 1)]
 simp only [Result.andThen]
 rw [Oper.upon_value]
 go_wp2
 rw [run_callFunc_extern Tryz.func216 zk zk zk (e:=Extern.AbiNoEscape.same) zk]
 rw [Lib.run_noEscape]
 simp only [Result.andThen]
 rw [Oper.upon_value]
 go_wp2
 rw [Lib.run_from_unsafe w ⟨b,0,none⟩ Tryz.underlying278 Tryz.underlying171 hj hsh zk]
 simp only [Result.andThen]
 rw [Oper.upon_value]
 go_wp2
 go_end0
 exact ⟨rfl,rfl⟩
theorem copyCheck_ok (B b:Nat) (bs:List Value) (w:World) (h:IsB B b bs w) :
  Calls Tryz.prog 163 #[.pointer (some ⟨b,0,none⟩)] w fun e w'=>e= .returned (.tuple #[])∧(AtB B b bs w'∧Below B w w'):=by
 rcases h with h|h
 ·refine (copyCheck_fresh b w h.cell0 h.shape h.frozen0).mono ?_
  rintro e w' ⟨rfl,rfl⟩
  exact ⟨rfl,h.used _,(Below.refl B w).setCell (p:=⟨b,0,none⟩) h.1 _⟩
 ·refine (copyCheck_used b w h.cell0).mono ?_
  rintro e w' ⟨rfl,rfl⟩
  exact ⟨rfl,h,Below.refl B _⟩
theorem writeByte_ok (B b:Nat) (bs:List Value) (c:Int) (w:World) (h:IsB B b bs w) (hlen:bs.length+1≤140737488355328) (hBw:B≤w.heap.size) :
  Calls Tryz.prog 177 #[.pointer (some ⟨b,0,none⟩),.int .u8 c] w fun e w'=>e= .returned .nilIface∧(AtB B b (bs++[.int .u8 c]) w'∧Below B w w'):=by
 obtain ⟨i0,hi,hz0,hz1,hz2⟩:=info_parts infoByte
 go_enter Tryz.func177,Tryz.ntmps177
 go_wp2_with (go_at_call 163;refine (copyCheck_ok B b bs _ h).mono ?_;rintro e w1 ⟨rfl,h1,hb1⟩;refine Hid.out ?_)
 obtain ⟨hB,v,hbk,hown,hne⟩:=h1
 have c0:w1.cell? ⟨b,0,none⟩=some (.pointer (some ⟨b,0,none⟩)):=by rw [Lib.cell_of_heap hbk];rfl
 have c1:w1.cell? ⟨b,1,none⟩=some v:=by rw [Lib.cell_of_heap hbk];rfl
 refine zh ?_
 go_wp2_with (at_builtin;refine wpList_append_own _ rfl _ _ 172 rfl B 5 i0 (.int .u8 0) 1 1 Tryz.underlying172 hi hz0 hz1 hz2 rfl zd _ _ _ rfl (hown.alloc _) ⟨w1.heap.size,0,none⟩ 1 1 [.int .u8 c] rfl rfl ?c1 ?c2 ?c3 ?c4 ?c5 ?_)
 case c1 =>
  intro j u hj
  match j,hj with
  | 0,hj=>simp at hj;subst hj;simp [Addr.add]
 case c2=>intro u hu;simp at hu;subst hu;rfl
 case c3=>unfold maxLen;omega
 case c4=>omega
 case c5=>have:=hb1.size;simp;omega
 intro v' w2 hown' hgrow _
 have hlt:b<w1.heap.size:=by
  rcases Nat.lt_or_ge b w1.heap.size with h'|h'
  ·exact h'
  ·simp [Array.getElem?_eq_none h'] at hbk
 have hb2:w2.heap[b]? =some (.cells #[.pointer (some ⟨b,0,none⟩),v] 174 (0,0)):=by
  rw [hgrow.block b (by simp;omega) (fun e=>hne e.symm),Lib.alloc_old w1 _ b hlt]
  exact hbk
 have d0:w2.cell? ⟨b,0,none⟩=some (.pointer (some ⟨b,0,none⟩)):=by rw [Lib.cell_of_heap hb2];rfl
 have d1:w2.cell? ⟨b,1,none⟩=some v:=by rw [Lib.cell_of_heap hb2];rfl
 have f1:w2.frozen? ⟨b,1,none⟩=false:=Lib.frozen_of_heap hb2 1
 obtain ⟨g,cap,rfl⟩:∃ g cap,v'= .slice (some ⟨g,0,none⟩) (bs.length+1) cap:=by
  rcases hown'.2 with ⟨_,h0⟩|⟨g,cap,cur,hv,_⟩
  ·omega
  ·exact ⟨g,cap,hv⟩
 go_wp2
 go_ret
 refine ⟨rfl,?_,?_⟩
 ·exact Lib.BuilderAt.put (T:=174) (e:=5) hB hb2 (bs':=bs++[.int .u8 c]) (by simpa using hown') zd
 ·exact ((hb1.alloc (by have:=hb1.size;omega) _).grown hgrow (by have:=hb1.size;simp;omega) (fun k hk=>(hown.lt k hk).1)).setCell (p:=⟨b,1,none⟩) hB _
theorem writeString_ok (B b:Nat) (bs:List Value) (s:ByteArray) (w:World) (h:IsB B b bs w) (hlen:bs.length+s.size≤140737488355328) (hBw:B≤w.heap.size) :
  Calls Tryz.prog 106 #[.pointer (some ⟨b,0,none⟩),.string s] w fun e w'=>e= .returned (.tuple #[.int .i64 s.size,.nilIface])∧(AtB B b (bs++Lib.strCells s) w'∧Below B w w'):=by
 obtain ⟨i0,hi,hz0,hz1,hz2⟩:=info_parts infoByte
 go_enter Tryz.func106,Tryz.ntmps106
 go_wp2_with (go_at_call 163;refine (copyCheck_ok B b bs _ h).mono ?_;rintro e w1 ⟨rfl,h1,hb1⟩;refine Hid.out ?_)
 obtain ⟨hB,v,hbk,hown,hne⟩:=h1
 have c0:w1.cell? ⟨b,0,none⟩=some (.pointer (some ⟨b,0,none⟩)):=by rw [Lib.cell_of_heap hbk];rfl
 have c1:w1.cell? ⟨b,1,none⟩=some v:=by rw [Lib.cell_of_heap hbk];rfl
 refine zh ?_
 go_wp2_with (at_builtin;refine Lib.wpList_append_own_string _ rfl _ _ 172 9 rfl B 5 i0 Tryz.underlying172 Tryz.underlying9 hi hz0 hz1 hz2 _ _ _ rfl hown s rfl ?c3 ?c4 ?c5 ?_)
 case c3=>unfold maxLen;omega
 case c4=>omega
 case c5=>have:=hb1.size;omega
 intro v' w2 hown' hgrow _
 have hlt:b<w1.heap.size:=by
  rcases Nat.lt_or_ge b w1.heap.size with h'|h'
  ·exact h'
  ·simp [Array.getElem?_eq_none h'] at hbk
 have hb2:w2.heap[b]? =some (.cells #[.pointer (some ⟨b,0,none⟩),v] 174 (0,0)):=by
  rw [hgrow.block b hlt (fun e=>hne e.symm)]
  exact hbk
 have d0:w2.cell? ⟨b,0,none⟩=some (.pointer (some ⟨b,0,none⟩)):=by rw [Lib.cell_of_heap hb2];rfl
 have d1:w2.cell? ⟨b,1,none⟩=some v:=by rw [Lib.cell_of_heap hb2];rfl
 have f1:w2.frozen? ⟨b,1,none⟩=false:=Lib.frozen_of_heap hb2 1
 obtain ⟨ao,n',cap,rfl⟩:∃ ao n' cap,v'= .slice ao n' cap:=by
  rcases hown'.2 with ⟨hv,_⟩|⟨g,cap,cur,hv,_⟩
  ·exact ⟨_,_,_,hv⟩
  ·exact ⟨_,_,_,hv⟩
 go_wp2
 go_ret2
 refine ⟨rfl,?_,?_⟩
 ·exact Lib.BuilderAt.put (T:=174) (e:=5) hB hb2 (bs':=bs++Lib.strCells s) (by simpa [Lib.strCells_length] using hown') zd
 ·exact (hb1.grown hgrow (by have:=hb1.size;omega) (fun k hk=>(hown.lt k hk).1)).setCell (p:=⟨b,1,none⟩) hB _
end Go.Proofs.Bld
namespace Go.Mem
open Go Go.RowKit Go.SW Go.Num Go.Dec
def IsT (w:World) (b:Nat) (T:TypeId):Prop:=∃ cs,Box w b cs T
theorem Box.isT {w:World} {b:Nat} {cs:Array Value} {T:TypeId} (h:Box w b cs T):IsT w b T:=⟨cs,h⟩
theorem IsT.setCell {w:World} {b:Nat} {T:TypeId} {a:Addr} {u:Value} (h:IsT w b T):IsT (w.setCell a u) b T:=by
 obtain ⟨cs,h⟩:=h
 obtain ⟨c,o,sp⟩:=a
 by_cases hb:b=c
 ·subst hb
  have hl:=h.lt
  unfold Box at h
  have e:w.heap[b]= .cells cs T (0,0):=by simpa [hl] using h
  cases sp with
  | none =>
   refine ⟨cs.setIfInBounds o u,?_⟩
   unfold Box
   simp [World.setCell,hl,Array.getElem_modify,e]
  | some s =>
   refine ⟨cs,?_⟩
   unfold Box
   simp [World.setCell,hl,Array.getElem_modify,e]
 ·exact ⟨cs,h.setOther u hb⟩
theorem IsT.later {w w':World} {b:Nat} {T:TypeId} (h:IsT w b T) (hb:Below w.heap.size w w'):IsT w' b T:=by
 obtain ⟨cs,h⟩:=h
 exact ⟨cs,h.later hb⟩
theorem IsT.alloc {w:World} {b:Nat} {T:TypeId} {o:Obj} (h:IsT w b T):IsT (w.alloc o) b T:=h.later ((Below.refl _ _).alloc (Nat.le_refl _) _)
theorem IsT.drew {w:World} {b:Nat} {T:TypeId} (h:IsT w b T):IsT w.drew b T:=h.later (Below.drew (Below.refl _ _))
theorem IsT.new (w:World) (cs:Array Value) (T:TypeId):IsT (w.alloc (.cells cs T (0,0))) w.heap.size T:=⟨cs,Box.new _ _ _⟩
theorem Mag.setT {w:World} {v:Value} {n:Nat} {b o:Nat} {T':TypeId} {u:Value} (h:Mag w v n) (hx:IsT w b T') (hT:65≠T'):Mag (w.setCell ⟨b,o,none⟩ u) v n:=by
 obtain ⟨cs,hx⟩:=hx
 exact h.setOther hx hT o u
theorem sgd_add {z y:Int} {b:Bool} (h:decide (z<0)=b) (k:decide (y<0)=b):sgd (z.natAbs+y.natAbs) b=z+y:=by
 unfold sgd
 cases b
 ·simp at h k ⊢;omega
 ·simp at h k ⊢;omega
theorem sgd_sub {z y:Int} {b:Bool} (h:decide (z<0)=b) (k:decide (y<0)= !b):sgd (z.natAbs - y.natAbs) b=if y.natAbs≤z.natAbs then z+y else sgd (z.natAbs - y.natAbs) b:=by
 split
 ·unfold sgd
  cases b
  ·simp at h k ⊢;omega
  ·simp at h k ⊢;omega
 ·rfl
theorem sgd_prod (z y:Int):sgd (z.natAbs*y.natAbs) (decide (z<0) != decide (y<0))=z*y:=by
 unfold sgd
 by_cases h:z<0<;>by_cases k:y<0
 ·simp only [h,k,decide_true,decide_false,bne_self_eq_false,Bool.true_bne,Bool.false_bne,Bool.not_false,Bool.not_true,if_true,if_false]
  obtain ⟨a,rfl⟩:∃ a:Nat,z= -(a:Int):=⟨z.natAbs,by omega⟩
  obtain ⟨b,rfl⟩:∃ b:Nat,y= -(b:Int):=⟨y.natAbs,by omega⟩
  simp
  try grind
 ·simp only [h,k,decide_true,decide_false,bne_self_eq_false,Bool.true_bne,Bool.false_bne,Bool.not_false,Bool.not_true,if_true,if_false]
  obtain ⟨a,rfl⟩:∃ a:Nat,z= -(a:Int):=⟨z.natAbs,by omega⟩
  obtain ⟨b,rfl⟩:∃ b:Nat,y=(b:Int):=⟨y.natAbs,by omega⟩
  simp
  try grind
 ·simp only [h,k,decide_true,decide_false,bne_self_eq_false,Bool.true_bne,Bool.false_bne,Bool.not_false,Bool.not_true,if_true,if_false]
  obtain ⟨a,rfl⟩:∃ a:Nat,z=(a:Int):=⟨z.natAbs,by omega⟩
  obtain ⟨b,rfl⟩:∃ b:Nat,y= -(b:Int):=⟨y.natAbs,by omega⟩
  simp
  try grind
 ·simp only [h,k,decide_true,decide_false,bne_self_eq_false,Bool.true_bne,Bool.false_bne,Bool.not_false,Bool.not_true,if_true,if_false]
  obtain ⟨a,rfl⟩:∃ a:Nat,z=(a:Int):=⟨z.natAbs,by omega⟩
  obtain ⟨b,rfl⟩:∃ b:Nat,y=(b:Int):=⟨y.natAbs,by omega⟩
  simp
theorem sgd_quot {z y:Int} (h:y ∣ z):sgd (z.natAbs / y.natAbs) (decide (z<0) != decide (y<0))=z / y:=by
 obtain ⟨c,rfl⟩:=h
 rcases Int.lt_trichotomy y 0 with hy|hy|hy
 ·rw [Int.natAbs_mul,Nat.mul_div_cancel_left _ zo,Int.mul_ediv_cancel_left _ zo]
  unfold sgd
  rcases Int.lt_trichotomy c 0 with hc|hc|hc
  ·have:¬ y*c<0:=by have:=Int.mul_pos_of_neg_of_neg hy hc;omega
   simp [this,hy];omega
  ·subst hc;simp
  ·have:y*c<0:=Int.mul_neg_of_neg_of_pos hy hc
   simp [this,hy];omega
 ·subst hy;simp [sgd]
 ·rw [Int.natAbs_mul,Nat.mul_div_cancel_left _ zo,Int.mul_ediv_cancel_left _ zo]
  unfold sgd
  have hy2:¬ y<0:=by omega
  rcases Int.lt_trichotomy c 0 with hc|hc|hc
  ·have:y*c<0:=Int.mul_neg_of_pos_of_neg hy hc
   simp [this,hy2];omega
  ·subst hc;simp
  ·have:¬ y*c<0:=by have:=Int.mul_pos hy hc;omega
   simp [this,hy2];omega
theorem IntV.flag {w:World} {pa:Option Addr} {l ca:Nat} {y z:Int} {b:Bool} (h:Mag w (.slice pa l ca) y.natAbs) (e:y=z) (hb:b=decide (y<0)):IntV w (.agg #[.slice pa l ca,.bool b]) z:=by
 subst e hb
 exact ⟨pa,l,ca,rfl,h⟩
theorem magA {w:World} {v:Value} {n:Nat} (h:Mag w v n:=by repeat (first|(with_reducible exact Hid.out (by with_reducible assumption))|((with_reducible apply Mag.setT);rotate_left;(focus (repeat (first|(with_reducible exact Box.isT (by with_reducible assumption))|(with_reducible apply IsT.setCell)|(with_reducible exact IsT.new _ _ _)|(with_reducible apply IsT.alloc)|(with_reducible apply IsT.drew)|((with_reducible refine IsT.later (w:=?_) ?_ ?_);rotate_right;with_reducible assumption))));(focus decide))|(with_reducible apply Mag.alloc)|(with_reducible apply Mag.drew)|((with_reducible refine Mag.later (w:=?_) ?_ ?_);rotate_right;with_reducible assumption))):Mag w v n:=h
end Go.Mem
namespace Go.Fra
open Go Go.Num Go.Dec Lib
theorem add_parts (p q:Rat):let g:=p.den.gcd q.den
  let top:=p.num*((q.den / g:Nat):Int)+q.num*((p.den / g:Nat):Int)
  let h:=top.natAbs.gcd g
  (p+q).num=top / h∧(p+q).den=p.den / g*(q.den / h):=by
 intro g top h
 have e:p+q=Rat.add p q:=rfl
 rw [e]
 unfold Rat.add
 simp only
 have hgd:g ∣ q.den:=Nat.gcd_dvd_right _ _
 have hhg:h ∣ g:=Nat.gcd_dvd_right _ _
 have hh:(p.den / g*q.den) / h=p.den / g*(q.den / h):=Nat.mul_div_assoc _ (Nat.dvd_trans hhg hgd)
 split
 ·rename_i hg
  have hg':g=1:=hg
  have h1:h=1:=Nat.dvd_one.1 (hg' ▸ hhg)
  simp only [hg',h1,Nat.div_one,top,Int.natCast_one,Int.ediv_one,and_self]
 ·rw [Rat.maybeNormalize_eq]
  simp only
  exact ⟨rfl,hh⟩
theorem mul_parts (p q:Rat):let g:=p.num.natAbs.gcd q.den
  let h:=q.num.natAbs.gcd p.den
  (p*q).num=(p.num / g)*(q.num / h)∧(p*q).den=(p.den / h)*(q.den / g):=by
 intro g h
 have e:p*q=Rat.mul p q:=rfl
 rw [e]
 unfold Rat.mul
 simp only [Int.divExact_eq_ediv,Nat.divExact_eq_div]
 exact ⟨rfl,rfl⟩
structure Fr where
 n:ByteArray
 d:ByteArray
deriving DecidableEq
def Fr.v (a:Fr):Value:=.agg #[.string a.n,.string a.d]
def Fr.of (q:Rat):Fr:=⟨⟨(Lib.itoa q.num).toArray⟩,⟨(Lib.itoa q.den).toArray⟩⟩
def Fr.no:Fr:=⟨⟨#[]⟩,⟨#[]⟩⟩
def tenTo (k:Nat):Nat:=10^k
def okn (n:Nat):Bool:=decide (n<tenTo 600)
def okq (q:Rat):Bool:=okn q.num.natAbs&&okn q.den
theorem tenTo_len {n k:Nat} (hk:0<k):n<tenTo k↔(decDigits n).length≤k :=
 ⟨fun h=>dec_len_le k n hk h,fun h=>Nat.lt_of_lt_of_le (dec_len_lt n) (Nat.pow_le_pow_right zo h)⟩
theorem okn_len {n:Nat}:okn n=true↔(decDigits n).length≤600:=by
 unfold okn
 rw [decide_eq_true_iff]
 exact tenTo_len zo
def rd (a:Fr):Option Rat :=
 match whole a.n.data.toList,whole a.d.data.toList with
 | some n,some d=>if h:0<d∧n.natAbs.Coprime d.natAbs then some ⟨n,d.natAbs,by omega,h.2⟩ else none
 | _,_=>none
theorem ba_ext {a b:ByteArray} (h:a.data.toList=b.data.toList):a=b:=by
 cases a;cases b
 simp only [ByteArray.mk.injEq]
 exact Array.toList_inj.1 h
theorem rd_of {q:Rat} (h:okq q=true):rd (Fr.of q)=some q:=by
 unfold okq at h
 rw [Bool.and_eq_true,okn_len,okn_len] at h
 have e1:whole (Fr.of q).n.data.toList=some q.num:=whole_of_itoa h.1
 have h2:(decDigits ((q.den:Nat):Int).natAbs).length≤600:=(Int.natAbs_natCast q.den).symm ▸ h.2
 have e2:whole (Fr.of q).d.data.toList=some ((q.den:Nat):Int):=whole_of_itoa (z:=((q.den:Nat):Int)) h2
 unfold rd
 rw [e1,e2]
 have hd:=q.den_pos
 simp only [Int.natAbs_natCast]
 rw [dif_pos ⟨by omega,q.reduced⟩]
theorem of_rd {a:Fr} {q:Rat} (h:rd a=some q):a=Fr.of q∧okq q=true:=by
 unfold rd at h
 split at h
 ·rename_i n d e1 e2
  split at h
  ·rename_i hk
   simp only [Option.some.injEq] at h
   subst h
   obtain ⟨h1,h2⟩:=whole_itoa e1
   obtain ⟨h3,h4⟩:=whole_itoa e2
   refine ⟨?_,?_⟩
   ·cases a
    unfold Fr.of
    simp only [Fr.mk.injEq] at *
    refine ⟨ba_ext h1,ba_ext ?_⟩
    rw [h3,show ((d.natAbs:Nat):Int)=d by omega]
   ·unfold okq
    rw [Bool.and_eq_true,okn_len,okn_len]
    exact ⟨h2,h4⟩
  ·cases h
 ·cases h
theorem sgd_divn {n:Int} {g:Nat} (h:g ∣ n.natAbs):Mem.sgd (n.natAbs / g) (decide (n<0))=n / (g:Int):=by
 have h2:((g:Nat):Int) ∣ n:=by rwa [← Int.dvd_natAbs,Int.ofNat_dvd]
 have:=Mem.sgd_quot h2
 rw [Int.natAbs_natCast,decide_eq_false (show ¬ ((g:Nat):Int)<0 by omega),Bool.bne_false] at this
 exact this
theorem mul_parts2 (p q:Rat):(p*q).num=Mem.sgd (p.num.natAbs / p.num.natAbs.gcd q.den*(q.num.natAbs / q.num.natAbs.gcd p.den)) (decide (p.num<0) != decide (q.num<0))∧(p*q).den=p.den / q.num.natAbs.gcd p.den*(q.den / p.num.natAbs.gcd q.den):=by
 obtain ⟨h1,h2⟩:=mul_parts p q
 refine ⟨?_,h2⟩
 rw [h1]
 have d1:((p.num.natAbs.gcd q.den:Nat):Int) ∣ p.num:=by rw [← Int.dvd_natAbs,Int.ofNat_dvd];exact Nat.gcd_dvd_left _ _
 have d2:((q.num.natAbs.gcd p.den:Nat):Int) ∣ q.num:=by rw [← Int.dvd_natAbs,Int.ofNat_dvd];exact Nat.gcd_dvd_left _ _
 have hg:0<p.num.natAbs.gcd q.den:=Nat.gcd_pos_of_pos_right _ q.den_pos
 have hh:0<q.num.natAbs.gcd p.den:=Nat.gcd_pos_of_pos_right _ p.den_pos
 have key:∀ (z:Int) (g:Nat),0<g→((g:Nat):Int) ∣ z→(z / (g:Int)).natAbs=z.natAbs / g∧(z≠0→decide (z / (g:Int)<0)=decide (z<0)):=fun z g hg hd=>by
  obtain ⟨c,rfl⟩:=hd
  rw [Int.mul_ediv_cancel_left _ zo,Int.natAbs_mul,Int.natAbs_natCast,Nat.mul_div_cancel_left _ hg]
  refine ⟨rfl,fun _=>?_⟩
  rw [Bool.eq_iff_iff,decide_eq_true_iff,decide_eq_true_iff]
  constructor
  ·exact fun h=>Int.mul_neg_of_pos_of_neg zo h
  ·intro h
   rcases Int.lt_trichotomy c 0 with h1|h1|h1
   ·exact h1
   ·subst h1;simp at h
   ·have:=Int.mul_pos (show (0:Int)<(g:Int) by omega) h1;omega
 obtain ⟨a1,a2⟩:=key p.num _ hg d1
 obtain ⟨b1,b2⟩:=key q.num _ hh d2
 rw [← Mem.sgd_prod (p.num / ((p.num.natAbs.gcd q.den:Nat):Int)),a1,b1]
 by_cases hp:p.num=0
 ·simp [hp,Mem.sgd]
 ·by_cases hq:q.num=0
  ·simp [hq,Mem.sgd]
  ·rw [a2 hp,b2 hq]
theorem mul_parts3 (p q:Rat):(p*q).num=Mem.sgd (p.num.natAbs / p.num.natAbs.gcd q.den*(q.num.natAbs / q.num.natAbs.gcd p.den)) (!(decide (p.num<0) == decide (q.num<0)))∧(p*q).den=p.den / q.num.natAbs.gcd p.den*(q.den / p.num.natAbs.gcd q.den):=mul_parts2 p q
theorem mk_parts (n:Int) {d:Nat} (hd:0<d):(mkRat n d).num=Mem.sgd (n.natAbs / n.natAbs.gcd d) (decide (n<0))∧(mkRat n d).den=d / n.natAbs.gcd d:=by
 rw [Rat.num_mkRat,Rat.den_mkRat,if_neg zo,if_neg zo,Nat.gcd_comm d]
 exact ⟨(sgd_divn (Nat.gcd_dvd_left _ _)).symm,rfl⟩
theorem okn_no {n:Nat} (h:600<(decDigits n).length):okn n=false:=by
 cases hk:okn n with
 | false=>rfl
 | true=>have:=okn_len.1 hk;omega
def wr (q:Rat):Fr × Int:=if okq q then (Fr.of q,0) else (Fr.no,6)
def Fr.res (x:Fr × Int):Value:=.tuple #[x.1.v,.int .i64 x.2]
theorem wr_big {q:Rat} (h:okq q=false):Fr.res (wr q)= .tuple #[.agg #[.string ⟨#[]⟩,.string ⟨#[]⟩],.int .i64 6]:=by unfold wr;rw [if_neg (by simp [h])];rfl
theorem wr_ok {q:Rat} (h:okq q=true):Fr.res (wr q)= .tuple #[.agg #[Mem.itxt q.num,Mem.itxt q.den],.int .i64 0]:=by unfold wr;rw [if_pos h];rfl
def cmpq (p q:Rat):Int:=if p<q then -1 else if q<p then 1 else 0
def sgnz (z:Int):Int:=if z=0 then 0 else if z<0 then -1 else 1
theorem sgnz_cmp (p q:Rat):sgnz (p.num*(q.den:Int)+ -(q.num*(p.den:Int)))=cmpq p q:=by
 unfold sgnz cmpq
 by_cases h1:p<q
 ·rw [if_pos h1]
  have:=(Rat.lt_iff p q).1 h1
  rw [if_neg zo,if_pos zo]
 ·rw [if_neg h1]
  rw [Rat.lt_iff] at h1
  by_cases h2:q<p
  ·rw [if_pos h2]
   have:=(Rat.lt_iff q p).1 h2
   rw [if_neg zo,if_neg zo]
  ·rw [if_neg h2]
   rw [Rat.lt_iff] at h2
   rw [if_pos zo]
def RatV (w:World) (v:Value) (q:Rat):Prop:=∃ pa l ca pb m cb,v= .agg #[.slice pa l ca,.bool (decide (q.num<0)),.slice pb m cb]∧Mem.Mag w (.slice pa l ca) q.num.natAbs∧Mem.Mag w (.slice pb m cb) q.den
open RowKit Mem in
theorem RatV.later {w w':World} {v:Value} {q:Rat} (h:RatV w v q) (hb:Below w.heap.size w w'):RatV w' v q:=by
 obtain ⟨pa,l,ca,pb,m,cb,h1,h2,h3⟩:=h
 exact ⟨pa,l,ca,pb,m,cb,h1,h2.later hb,h3.later hb⟩
open Mem in
theorem RatV.mk (n d:Nat) {w:World} {pa pb:Option Addr} {l ca m cb:Nat} {b:Bool} {q:Rat} (h:Mag w (.slice pa l ca) n) (k:Mag w (.slice pb m cb) d) (hn:n=q.num.natAbs) (hd:d=q.den) (hb:b=decide (q.num<0)):RatV w (.agg #[.slice pa l ca,.bool b,.slice pb m cb]) q:=by
 subst hn hd hb
 exact ⟨pa,l,ca,pb,m,cb,rfl,h,k⟩
open RowKit Mem in
theorem _root_.Go.Mem.Mag.carry {w0 w w':World} {v:Value} {n:Nat} (_:Mag w0 v n) (k:Mag w v n) (hb:Below w.heap.size w w'):Mag w' v n:=k.later hb
theorem RatV.of {w:World} {pa pb:Option Addr} {l ca m cb:Nat} {q:Rat} (h:Mem.Mag w (.slice pa l ca) q.num.natAbs) (k:Mem.Mag w (.slice pb m cb) q.den):RatV w (.agg #[.slice pa l ca,.bool (decide (q.num<0)),.slice pb m cb]) q:=⟨pa,l,ca,pb,m,cb,rfl,h,k⟩
def szq (k:Nat) (q:Rat):Prop:=sz 1000000000 q.num.natAbs≤k∧sz 1000000000 q.den≤k
theorem big_le:tenTo 600≤1000000000^67:=by decide+kernel
theorem okn_sz {n:Nat} (h:okn n=true):sz 1000000000 n≤67:=by
 unfold okn at h
 rw [decide_eq_true_iff] at h
 exact sz_le_of_lt zo 67 n (Nat.lt_of_lt_of_le h big_le)
theorem okq_sz {q:Rat} (h:okq q=true):szq 67 q:=by
 unfold okq at h
 rw [Bool.and_eq_true] at h
 exact ⟨okn_sz h.1,okn_sz h.2⟩
theorem szq.mono {k m:Nat} {q:Rat} (h:szq k q) (hk:k≤m):szq m q:=⟨Nat.le_trans h.1 hk,Nat.le_trans h.2 hk⟩
theorem sz_div {a b:Nat}:sz 1000000000 (a / b)≤sz 1000000000 a:=sz_mono zo (Nat.div_le_self a b)
theorem sz_absmul (z:Int) (n:Nat):sz 1000000000 (z*n).natAbs≤sz 1000000000 z.natAbs+sz 1000000000 n:=by
 rw [Int.natAbs_mul,Int.natAbs_natCast]
 exact sz_mul zo _ _
theorem sz_absmul2 (z y:Int):sz 1000000000 (z*y).natAbs≤sz 1000000000 z.natAbs+sz 1000000000 y.natAbs:=by
 rw [Int.natAbs_mul]
 exact sz_mul zo _ _
theorem sz_absadd (z y:Int):sz 1000000000 (z+y).natAbs≤max (sz 1000000000 z.natAbs) (sz 1000000000 y.natAbs)+1 :=
 Nat.le_trans (sz_mono zo (Int.natAbs_add_le z y)) (sz_add zo _ _)
theorem szq_add {k:Nat} {p q:Rat} (h:szq k p) (i:szq k q):szq (2*k+1) (p+q):=by
 obtain ⟨h1,h2⟩:=add_parts p q
 have hp:=p.den_pos
 have hq:=q.den_pos
 have a1:=sz_absmul p.num (q.den / p.den.gcd q.den)
 have a2:=sz_absmul q.num (p.den / p.den.gcd q.den)
 have a3:=sz_absadd (p.num*((q.den / p.den.gcd q.den:Nat):Int)) (q.num*((p.den / p.den.gcd q.den:Nat):Int))
 have b1:= @sz_div q.den (p.den.gcd q.den)
 have b2:= @sz_div p.den (p.den.gcd q.den)
 obtain ⟨i1,i2⟩:=i
 obtain ⟨j1,j2⟩:=h
 constructor
 ·rw [h1,Int.natAbs_ediv_of_dvd (by rw [← Int.dvd_natAbs,Int.ofNat_dvd];exact Nat.gcd_dvd_left _ _),Int.natAbs_natCast]
  refine Nat.le_trans sz_div ?_
  omega
 ·rw [h2]
  refine Nat.le_trans (sz_mul zo _ _) ?_
  have b3:= @sz_div q.den ((p.num*((q.den / p.den.gcd q.den:Nat):Int)+q.num*((p.den / p.den.gcd q.den:Nat):Int)).natAbs.gcd (p.den.gcd q.den))
  omega
theorem szq_mul {k:Nat} {p q:Rat} (h:szq k p) (i:szq k q):szq (2*k) (p*q):=by
 obtain ⟨h1,h2⟩:=mul_parts p q
 obtain ⟨i1,i2⟩:=i
 obtain ⟨j1,j2⟩:=h
 constructor
 ·rw [h1]
  refine Nat.le_trans (sz_absmul2 _ _) ?_
  rw [Int.natAbs_ediv_of_dvd (by rw [← Int.dvd_natAbs,Int.ofNat_dvd];exact Nat.gcd_dvd_left _ _),Int.natAbs_ediv_of_dvd (by rw [← Int.dvd_natAbs,Int.ofNat_dvd];exact Nat.gcd_dvd_left _ _),Int.natAbs_natCast,Int.natAbs_natCast]
  have:= @sz_div p.num.natAbs (p.num.natAbs.gcd q.den)
  have:= @sz_div q.num.natAbs (q.num.natAbs.gcd p.den)
  omega
 ·rw [h2]
  refine Nat.le_trans (sz_mul zo _ _) ?_
  have:= @sz_div p.den (q.num.natAbs.gcd p.den)
  have:= @sz_div q.den (p.num.natAbs.gcd q.den)
  omega
theorem szq_neg {k:Nat} {q:Rat} (h:szq k q):szq k (-q):=by
 unfold szq at *
 rw [Rat.neg_num,Rat.neg_den,Int.natAbs_neg]
 exact h
end Go.Fra
namespace Go.Fra
open Go Go.Num Go.Dec Lib
abbrev FrI:=Fr × Int
def chk (a:Fr):Int:=if (rd a).isSome then 0 else 20
def cmpF (a b:Fr):Int × Int:=match rd a,rd b with
 | some p,some q=>(cmpq p q,0)
 | _,_=>(0,20)
def bin (f:Rat→Rat→Fr × Int) (a b:Fr):Fr × Int:=match rd a,rd b with
 | some p,some q=>f p q
 | _,_=>(Fr.no,20)
def addF (a b:Fr):Fr × Int:=bin (fun p q=>wr (p+q)) a b
def subF (a b:Fr):Fr × Int:=bin (fun p q=>wr (p - q)) a b
def mulF (a b:Fr):Fr × Int:=bin (fun p q=>wr (p*q)) a b
def ofF (n d:Int):Fr × Int:=if d=0 then (Fr.no,7) else wr (n / d)
theorem bin_some {f:Rat→Rat→Fr × Int} {a b:Fr} {p q:Rat} (h:rd a=some p) (k:rd b=some q):bin f a b=f p q:=by unfold bin;rw [h,k]
theorem bin_no1 {f:Rat→Rat→Fr × Int} {a b:Fr} (h:rd a=none):bin f a b=(Fr.no,20):=by unfold bin;rw [h]
theorem bin_no2 {f:Rat→Rat→Fr × Int} {a b:Fr} (k:rd b=none):bin f a b=(Fr.no,20):=by
 unfold bin
 cases rd a with
 | none=>rfl
 | some p=>simp [k]
theorem make_eq (n d:Int) (h:d≠0):mkRat (Mem.sgd n.natAbs (!(decide (n<0) == decide (d<0)))) d.natAbs=(n:Rat) / (d:Rat):=by
 rw [← Rat.divInt_eq_div]
 rcases Int.lt_trichotomy d 0 with hd|hd|hd
 ·rw [← Rat.neg_divInt_neg]
  obtain ⟨k,rfl⟩:∃ k:Nat,d= -(k:Int):=⟨d.natAbs,by omega⟩
  rw [Int.neg_neg,Rat.divInt_ofNat,Int.natAbs_neg,Int.natAbs_natCast]
  congr 1
  unfold Mem.sgd
  by_cases hn:n<0
  ·simp [hn,hd];omega
  ·simp [hn,hd];omega
 ·exact absurd hd h
 ·obtain ⟨k,rfl⟩:∃ k:Nat,d=(k:Int):=⟨d.natAbs,by omega⟩
  rw [Rat.divInt_ofNat,Int.natAbs_natCast]
  congr 1
  have hd2:¬ (k:Int)<0:=by omega
  unfold Mem.sgd
  by_cases hn:n<0
  ·simp [hn,hd2];omega
  ·simp [hn,hd2];omega
theorem res_mk (s t:ByteArray) (e:Int):Fr.res (⟨s,t⟩,e)= .tuple #[.agg #[.string s,.string t],.int .i64 e]:=rfl
end Go.Fra
namespace Go.Proofs
open Go.Shelf
def Tryz.lays134_ren:Go.Shelf.Ren:=⟨fun|134=>234|129=>253|n=>n,fun|53=>192|3=>3|4=>4|46=>31|5=>5|9=>9|n=>n,fun|n=>n⟩
theorem Tryz.lays134:Go.Proofs.Lays.n134 Tryz.prog Tryz.lays134_ren:={
 mixed:=by kernel_rfl
 f129:=Tryz.func253.trans (congrArg some zk)
 f134:=Tryz.func234.trans (congrArg some zk)
 t3:=Tryz.underlying3
 a3:=Tryz.isAgg3
 z3:=Tryz.sizeOf3
 v3:=Tryz.zeroValue3
 t4:=Tryz.underlying4
 a4:=Tryz.isAgg4
 z4:=Tryz.sizeOf4
 v4:=Tryz.zeroValue4
 t5:=Tryz.underlying5
 a5:=Tryz.isAgg5
 z5:=Tryz.sizeOf5
 v5:=Tryz.zeroValue5
 t9:=Tryz.underlying9
 a9:=Tryz.isAgg9
 z9:=Tryz.sizeOf9
 v9:=Tryz.zeroValue9
 t46:=Tryz.underlying31
 a46:=Tryz.isAgg31
 z46:=Tryz.sizeOf31
 v46:=Tryz.zeroValue31
 t53:=Tryz.underlying192
 a53:=Tryz.isAgg192
 z53:=Tryz.sizeOf192
 v53:=Tryz.zeroValue192 }
theorem Tryz.bits_LeadingZeros64 (x:Int) (w:World) (h0:0≤x) (h1:x≤18446744073709551615) :
  Calls Tryz.prog 234 #[.int .u64 x] w fun e w'=>e= .returned (.int .i64 (64 - (Lib.bitLen x.toNat:Int)))∧w'=w:=Any.bits_LeadingZeros64 Tryz.lays134 x w h0 h1
def Tryz.laysC174_ren:Go.Shelf.Ren:=⟨fun|174=>229|247=>251|245=>252|287=>262|279=>263|280=>264|281=>265|282=>266|321=>272|322=>273|316=>274|171=>175|205=>275|243=>222|246=>250|283=>258|284=>259|285=>260|286=>261|129=>253|317=>268|318=>269|319=>270|320=>271|337=>276|338=>277|n=>n,fun|9=>9|3=>3|2=>2|75=>177|85=>287|4=>4|167=>316|5=>5|53=>192|175=>317|46=>31|168=>319|37=>172|0=>0|210=>331|21=>21|127=>235|145=>336|143=>334|171=>312|173=>314|212=>324|51=>65|20=>20|213=>325|232=>337|233=>338|80=>181|n=>n,fun|15=>4|16=>5|17=>3|18=>6|19=>7|n=>n⟩
theorem Tryz.laysC174:Go.Proofs.LaysC.n174 Tryz.prog Tryz.laysC174_ren:={
 mixed:=by kernel_rfl
 f129:=Tryz.func253.trans (congrArg some zk)
 f171:=Tryz.func175.trans (congrArg some zk)
 f174:=Tryz.func229.trans (congrArg some zk)
 f205:=Tryz.func275.trans (congrArg some zk)
 f243:=Tryz.func222.trans (congrArg some zk)
 f245:=Tryz.func252.trans (congrArg some zk)
 f246:=Tryz.func250.trans (congrArg some zk)
 f247:=Tryz.func251.trans (congrArg some zk)
 f279:=Tryz.func263.trans (congrArg some zk)
 f280:=Tryz.func264.trans (congrArg some zk)
 f281:=Tryz.func265.trans (congrArg some zk)
 f282:=Tryz.func266.trans (congrArg some zk)
 f283:=Tryz.func258.trans (congrArg some zk)
 f284:=Tryz.func259.trans (congrArg some zk)
 f285:=Tryz.func260.trans (congrArg some zk)
 f286:=Tryz.func261.trans (congrArg some zk)
 f287:=Tryz.func262.trans (congrArg some zk)
 f316:=Tryz.func274.trans (congrArg some zk)
 f317:=Tryz.func268.trans (congrArg some zk)
 f318:=Tryz.func269.trans (congrArg some zk)
 f319:=Tryz.func270.trans (congrArg some zk)
 f320:=Tryz.func271.trans (congrArg some zk)
 f321:=Tryz.func272.trans (congrArg some zk)
 f322:=Tryz.func273.trans (congrArg some zk)
 f337:=Tryz.func276.trans (congrArg some zk)
 f338:=Tryz.func277.trans (congrArg some zk)
 t0:=Tryz.underlying0
 a0:=Tryz.isAgg0
 z0:=Tryz.sizeOf0
 v0:=Tryz.zeroValue0
 t2:=Tryz.underlying2
 a2:=Tryz.isAgg2
 z2:=Tryz.sizeOf2
 v2:=Tryz.zeroValue2
 t3:=Tryz.underlying3
 a3:=Tryz.isAgg3
 z3:=Tryz.sizeOf3
 v3:=Tryz.zeroValue3
 t4:=Tryz.underlying4
 a4:=Tryz.isAgg4
 z4:=Tryz.sizeOf4
 v4:=Tryz.zeroValue4
 t5:=Tryz.underlying5
 a5:=Tryz.isAgg5
 z5:=Tryz.sizeOf5
 v5:=Tryz.zeroValue5
 t9:=Tryz.underlying9
 a9:=Tryz.isAgg9
 z9:=Tryz.sizeOf9
 v9:=Tryz.zeroValue9
 t20:=Tryz.underlying20
 a20:=Tryz.isAgg20
 z20:=Tryz.sizeOf20
 v20:=Tryz.zeroValue20
 t21:=Tryz.underlying21
 a21:=Tryz.isAgg21
 z21:=Tryz.sizeOf21
 v21:=Tryz.zeroValue21
 t37:=Tryz.underlying172
 a37:=Tryz.isAgg172
 z37:=Tryz.sizeOf172
 v37:=Tryz.zeroValue172
 t46:=Tryz.underlying31
 a46:=Tryz.isAgg31
 z46:=Tryz.sizeOf31
 v46:=Tryz.zeroValue31
 t51:=Tryz.underlying65
 a51:=Tryz.isAgg65
 z51:=Tryz.sizeOf65
 v51:=Tryz.zeroValue65
 t53:=Tryz.underlying192
 a53:=Tryz.isAgg192
 z53:=Tryz.sizeOf192
 v53:=Tryz.zeroValue192
 t75:=Tryz.underlying177
 a75:=Tryz.isAgg177
 z75:=Tryz.sizeOf177
 v75:=Tryz.zeroValue177
 t85:=Tryz.underlying287
 a85:=Tryz.isAgg287
 z85:=Tryz.sizeOf287
 v85:=Tryz.zeroValue287
 t127:=Tryz.underlying235
 a127:=Tryz.isAgg235
 z127:=Tryz.sizeOf235
 v127:=Tryz.zeroValue235
 t143:=Tryz.underlying334
 a143:=Tryz.isAgg334
 z143:=Tryz.sizeOf334
 v143:=Tryz.zeroValue334
 t145:=Tryz.underlying336
 a145:=Tryz.isAgg336
 z145:=Tryz.sizeOf336
 v145:=Tryz.zeroValue336
 t167:=Tryz.underlying316
 a167:=Tryz.isAgg316
 z167:=Tryz.sizeOf316
 v167:=Tryz.zeroValue316
 t168:=Tryz.underlying319
 a168:=Tryz.isAgg319
 z168:=Tryz.sizeOf319
 v168:=Tryz.zeroValue319
 t171:=Tryz.underlying312
 a171:=Tryz.isAgg312
 z171:=Tryz.sizeOf312
 v171:=Tryz.zeroValue312
 t173:=Tryz.underlying314
 a173:=Tryz.isAgg314
 z173:=Tryz.sizeOf314
 v173:=Tryz.zeroValue314
 t175:=Tryz.underlying317
 a175:=Tryz.isAgg317
 z175:=Tryz.sizeOf317
 v175:=Tryz.zeroValue317
 t210:=Tryz.underlying331
 a210:=Tryz.isAgg331
 z210:=Tryz.sizeOf331
 v210:=Tryz.zeroValue331
 t212:=Tryz.underlying324
 a212:=Tryz.isAgg324
 z212:=Tryz.sizeOf324
 v212:=Tryz.zeroValue324
 t213:=Tryz.underlying325
 a213:=Tryz.isAgg325
 z213:=Tryz.sizeOf325
 t232:=Tryz.underlying337
 a232:=Tryz.isAgg337
 z232:=Tryz.sizeOf337
 v232:=Tryz.zeroValue337
 t233:=Tryz.underlying338
 a233:=Tryz.isAgg338
 z233:=Tryz.sizeOf338
 v233:=Tryz.zeroValue338
 g15:=by kernel_rfl
 g16:=by kernel_rfl
 g17:=by kernel_rfl
 g18:=by kernel_rfl
 g19:=by kernel_rfl
 t80:=Tryz.underlying181
 a80:=Tryz.isAgg181
 z80:=Tryz.sizeOf181
 v80:=Tryz.zeroValue181
 i0:=by kernel_rfl
 i2:=by kernel_rfl
 i3:=by kernel_rfl
 i4:=by kernel_rfl
 i5:=by kernel_rfl
 i9:=by kernel_rfl
 i20:=by kernel_rfl
 i21:=by kernel_rfl
 i37:=by kernel_rfl
 i46:=by kernel_rfl
 i51:=by kernel_rfl
 i53:=by kernel_rfl
 i75:=by kernel_rfl
 i80:=by kernel_rfl
 i85:=by kernel_rfl
 i127:=by kernel_rfl
 i143:=by kernel_rfl
 i145:=by kernel_rfl
 i167:=by kernel_rfl
 i168:=by kernel_rfl
 i171:=by kernel_rfl
 i173:=by kernel_rfl
 i175:=by kernel_rfl
 i210:=by kernel_rfl
 i212:=by kernel_rfl
 i232:=by kernel_rfl
 i233:=by kernel_rfl
 m15:=by kernel_rfl
 m16:=by kernel_rfl
 m17:=by kernel_rfl
 m18:=by kernel_rfl
 m19:=by kernel_rfl
 c0:=by kernel_rfl
 c2:=by kernel_rfl
 c3:=by kernel_rfl
 c4:=by kernel_rfl
 c5:=by kernel_rfl
 c9:=by kernel_rfl
 c20:=by kernel_rfl
 c21:=by kernel_rfl
 c37:=by kernel_rfl
 c46:=by kernel_rfl
 c51:=by kernel_rfl
 c53:=by kernel_rfl
 c75:=by kernel_rfl
 c80:=by kernel_rfl
 c85:=by kernel_rfl
 c127:=by kernel_rfl
 c143:=by kernel_rfl
 c145:=by kernel_rfl
 c167:=by kernel_rfl
 c168:=by kernel_rfl
 c171:=by kernel_rfl
 c173:=by kernel_rfl
 c175:=by kernel_rfl
 c210:=by kernel_rfl
 c212:=by kernel_rfl
 c213:=by kernel_rfl
 c232:=by kernel_rfl
 c233:=by kernel_rfl }
open Go.RowKit in
theorem Tryz.strconv_ParseInt_10_at64_ok (s:ByteArray) (hmax:s.size≤9223372036854775806) (v:Int) (h:Lib.parseIntB 64 s.data.toList= .ok v) (w:World) :
  Calls Tryz.prog 229 #[.string s,.int .i64 10,.int .i64 64] w fun e w'=>e= .returned (.tuple #[.int .i64 v,.nilIface])∧(w'=w∨∃ t,w'=Lib.bytesWorld w 5 t):=Any.strconv_ParseInt_10_at64_ok Tryz.laysC174 s hmax v h w
open Go.RowKit in
theorem Tryz.strconv_ParseInt_10_at64_range (s:ByteArray) (hlim:s.size≤281474976710656) (h:Lib.parseIntB 64 s.data.toList= .range) (ev:Value) (w:World) (hv:w.cell? ⟨5,0,none⟩=some ev) (hev:ev= .nilIface∨∃ te pe,ev= .iface te pe) :
  Calls Tryz.prog 229 #[.string s,.int .i64 10,.int .i64 64] w fun e w'=>∃ N,e= .returned (.tuple #[.int .i64 (Lib.intSat 64 s.data.toList),.iface 319 (.pointer (some ⟨N,0,none⟩))])∧w.heap.size≤N∧w'.heap[N]? =some (.cells #[.string ⟨#[80,97,114,115,101,73,110,116]⟩,.string s,ev] 331 (0,0))∧Below w.heap.size w w':=Any.strconv_ParseInt_10_at64_range Tryz.laysC174 s hlim h ev w hv hev
def Tryz.lays217_ren:Go.Shelf.Ren:=⟨fun|217=>243|266=>256|n=>n,fun|9=>9|5=>5|3=>3|n=>n,fun|n=>n⟩
theorem Tryz.lays217:Go.Proofs.Lays.n217 Tryz.prog Tryz.lays217_ren:={
 mixed:=by kernel_rfl
 f217:=Tryz.func243.trans (congrArg some zk)
 f266:=Tryz.func256.trans (congrArg some zk)
 t3:=Tryz.underlying3
 a3:=Tryz.isAgg3
 z3:=Tryz.sizeOf3
 v3:=Tryz.zeroValue3
 t5:=Tryz.underlying5
 a5:=Tryz.isAgg5
 z5:=Tryz.sizeOf5
 v5:=Tryz.zeroValue5
 t9:=Tryz.underlying9
 a9:=Tryz.isAgg9
 z9:=Tryz.sizeOf9
 v9:=Tryz.zeroValue9 }
open Go.RowKit Go.Lib in
theorem Tryz.stringslite_IndexByte (s:ByteArray) (c:Int) (w:World) :
  Calls Tryz.prog 243 #[.string s,.int .u8 c] w fun e w'=>e= .returned (.int .i64 (Lib.indexByte s.data.toList c.toNat.toUInt8))∧w'=w:=Any.stringslite_IndexByte Tryz.lays217 s c w
def Tryz.lays264_ren:Go.Shelf.Ren:=⟨fun|264=>161|n=>n,fun|53=>192|46=>31|n=>n,fun|n=>n⟩
theorem Tryz.lays264:Go.Proofs.Lays.n264 Tryz.prog Tryz.lays264_ren:={
 mixed:=by kernel_rfl
 f264:=Tryz.func161.trans (congrArg some zk)
 t46:=Tryz.underlying31
 a46:=Tryz.isAgg31
 z46:=Tryz.sizeOf31
 v46:=Tryz.zeroValue31
 t53:=Tryz.underlying192
 a53:=Tryz.isAgg192
 z53:=Tryz.sizeOf192
 v53:=Tryz.zeroValue192 }
open Go.RowKit Go.Lib in
theorem Tryz.bits_Mul64 (x y:Nat) (hx:x<18446744073709551616) (hy:y<18446744073709551616) (w:World) :
  Calls Tryz.prog 161 #[.int .u64 x,.int .u64 y] w fun e w'=>e= .returned (.tuple #[.int .u64 ((x*y / 18446744073709551616:Nat):Int),.int .u64 ((x*y%18446744073709551616:Nat):Int)])∧w'=w:=Any.bits_Mul64 Tryz.lays264 x y hx hy w
end Go.Proofs
namespace Go.Fra
open Go Go.RowKit Go.Num Go.Mem
def Frs (w:World) (T:TypeId) (v:Value) (l:List Fr):Prop :=
 ∃ a cap,v= .slice a l.length cap∧l.length≤cap∧cap≤9223372036854775807∧(a=none→cap=0) ∧
  ∀ ad,a=some ad→ad.spot=none∧∃ arr,Box w ad.block arr T∧∀ i (h:i<l.length),arr[ad.off+i*2]? =some (.string l[i].n)∧arr[ad.off+i*2+1]? =some (.string l[i].d)
theorem Frs.later {w w':World} {T:TypeId} {v:Value} {l:List Fr} (h:Frs w T v l) (hb:Below w.heap.size w w'):Frs w' T v l:=by
 obtain ⟨a,cap,h1,h2,h3,h4,h5⟩:=h
 refine ⟨a,cap,h1,h2,h3,h4,fun ad had=>?_⟩
 obtain ⟨h6,arr,h7,h8⟩:=h5 ad had
 exact ⟨h6,arr,h7.later hb,h8⟩
theorem Frs.read {w:World} {T:TypeId} {v:Value} {l:List Fr} (h:Frs w T v l) :
  ∃ a cap,v= .slice a l.length cap∧l.length≤cap∧cap≤9223372036854775807∧∀ k (_:k<l.length),∃ b off,a=some ⟨b,off,none⟩∧b<w.heap.size∧w.cell? ⟨b,off+k*2,none⟩=some (.string l[k].n)∧w.cell? ⟨b,off+k*2+1,none⟩=some (.string l[k].d):=by
 obtain ⟨a,cap,h1,h2,h3,h4,h5⟩:=h
 refine ⟨a,cap,h1,h2,h3,fun k hk=>?_⟩
 cases a with
 | none=>have:=h4 rfl;omega
 | some ad =>
  obtain ⟨h6,arr,h7,h8⟩:=h5 ad rfl
  obtain ⟨b,off,sp⟩:=ad
  simp only at h6
  subst h6
  obtain ⟨h9,h10⟩:=h8 k hk
  exact ⟨b,off,rfl,h7.lt,(h7.cell _).trans h9,(h7.cell _).trans h10⟩
def chkL (l:List Fr):Int:=if l.all (fun a=>(rd a).isSome) then 0 else 20
theorem chk_zero {a:Fr} (h:(rd a).isSome=true):chk a=0:=by unfold chk;rw [h];rfl
theorem chk_no {a:Fr} (h:(rd a).isSome=false):chk a=20:=by unfold chk;rw [h];rfl
def MatV (w:World) (v:Value) (m:List (List Fr)):Prop :=
 ∃ rs:List Value,Row w 29 v rs∧rs.length=m.length∧∀ i (h:i<rs.length) (h':i<m.length),Frs w 59 rs[i] m[i]
theorem MatV.later {w w':World} {v:Value} {m:List (List Fr)} (h:MatV w v m) (hb:Below w.heap.size w w'):MatV w' v m:=by
 obtain ⟨rs,h1,h2,h3⟩:=h
 exact ⟨rs,h1.later hb,h2,fun i h h'=>(h3 i h h').later hb⟩
def okM (m:List (List Fr)):Bool:=decide (1≤m.length)&&decide (m.length≤4)&&decide (1≤(m.headD []).length)&&decide ((m.headD []).length≤4)&&m.all (fun r=>r.length == (m.headD []).length&&chkL r == 0)
def chkM (m:List (List Fr)):Int:=if okM m then 0 else 50
def Fill (w:World) (g:Nat) (T:TypeId) (n k:Nat) (ok:World→Nat→Value→Value→Prop):Prop :=
 ∃ arr,Box w g arr T∧arr.size=n*2∧∀ i,i<k→∃ x y,arr[i*2]? =some x∧arr[i*2+1]? =some y∧ok w i x y
theorem Fill.box {w:World} {g:Nat} {T:TypeId} {n k:Nat} {ok:World→Nat→Value→Value→Prop} (h:Fill w g T n k ok):∃ arr,Box w g arr T∧arr.size=n*2:=by
 obtain ⟨arr,h1,h2, -⟩:=h
 exact ⟨arr,h1,h2⟩
theorem Fill.lt {w:World} {g:Nat} {T:TypeId} {n k:Nat} {ok:World→Nat→Value→Value→Prop} (h:Fill w g T n k ok):g<w.heap.size:=by
 obtain ⟨arr,h1, -⟩:=h
 exact h1.lt
theorem Fill.isT {w:World} {g:Nat} {T:TypeId} {n k:Nat} {ok:World→Nat→Value→Value→Prop} (h:Fill w g T n k ok):IsT w g T:=by
 obtain ⟨arr,h1, -⟩:=h
 exact h1.isT
theorem Fill.later {w w':World} {g:Nat} {T:TypeId} {n k:Nat} {ok:World→Nat→Value→Value→Prop} (h:Fill w g T n k ok) (hb:Below w.heap.size w w') (hok:∀ i x y,ok w i x y→ok w' i x y):Fill w' g T n k ok:=by
 obtain ⟨arr,h1,h2,h3⟩:=h
 refine ⟨arr,h1.later hb,h2,fun i hi=>?_⟩
 obtain ⟨x,y,k1,k2,k3⟩:=h3 i hi
 exact ⟨x,y,k1,k2,hok _ _ _ k3⟩
theorem Fill.cells {w:World} {g:Nat} {T:TypeId} {n k:Nat} {ok:World→Nat→Value→Value→Prop} (h:Fill w g T n k ok) {j:Nat} (hj:j<n) :
  (∃ x,w.cell? ⟨g,j*2,none⟩=some x)∧(∃ y,w.cell? ⟨g,j*2+1,none⟩=some y)∧∀ o,w.frozen? ⟨g,o,none⟩=false:=by
 obtain ⟨arr,h1,h2,h3⟩:=h
 refine ⟨⟨arr[j*2]'zo,?_⟩,⟨arr[j*2+1]'zo,?_⟩,h1.free⟩
 ·rw [h1.cell];exact Array.getElem?_eq_getElem _
 ·rw [h1.cell];exact Array.getElem?_eq_getElem _
theorem Fill.step {w:World} {g:Nat} {T:TypeId} {n k:Nat} {ok:World→Nat→Value→Value→Prop} {x y:Value} (h:Fill w g T n k ok) (hk:k<n)
  (hok:∀ i x' y',ok w i x' y'→ok ((w.setCell ⟨g,k*2,none⟩ x).setCell ⟨g,k*2+1,none⟩ y) i x' y')
  (hx:ok ((w.setCell ⟨g,k*2,none⟩ x).setCell ⟨g,k*2+1,none⟩ y) k x y) :
  Fill ((w.setCell ⟨g,k*2,none⟩ x).setCell ⟨g,k*2+1,none⟩ y) g T n (k+1) ok:=by
 obtain ⟨arr,h1,h2,h3⟩:=h
 refine ⟨(arr.setIfInBounds (k*2) x).setIfInBounds (k*2+1) y,(h1.set _ _).set _ _,by simp [h2],fun i hi=>?_⟩
 rcases Nat.lt_or_ge i k with h|h
 ·obtain ⟨x',y',k1,k2,k3⟩:=h3 i h
  refine ⟨x',y',?_,?_,hok _ _ _ k3⟩
  ·rw [Array.getElem?_setIfInBounds,if_neg zo,Array.getElem?_setIfInBounds,if_neg zo,k1]
  ·rw [Array.getElem?_setIfInBounds,if_neg zo,Array.getElem?_setIfInBounds,if_neg zo,k2]
 ·obtain rfl:i=k:=by omega
  refine ⟨x,y,?_,?_,hx⟩
  ·rw [Array.getElem?_setIfInBounds,if_neg zo,Array.getElem?_setIfInBounds,if_pos rfl,if_pos zo]
  ·rw [Array.getElem?_setIfInBounds,if_pos rfl,if_pos (by simp;omega)]
theorem Fill.start {w:World} {base g n:Nat} {T:TypeId} {z:Array Value} {ok:World→Nat→Value→Value→Prop} (h:w.ownsRow base T 2 (.slice (some ⟨g,0,none⟩) n n) n (madeCells z (n*2)).toList):Fill w g T n 0 ok:=by
 obtain ⟨h1,h2|⟨g',cap,cur,h3,h4,h5,h6,h7,h8,h9⟩⟩:=h
 ·cases h2.1
 ·simp only [Value.slice.injEq,Option.some.injEq,Addr.mk.injEq,and_true,true_and] at h3
  obtain ⟨rfl,rfl⟩:=h3
  exact ⟨cur,h5,h8,fun i hi=>by omega⟩
def IntC (f:Nat→Int) (w:World) (i:Nat) (x y:Value):Prop:=∃ pa l ca,x= .slice pa l ca∧y= .bool (decide (f i<0))∧Mag w (.slice pa l ca) (f i).natAbs
theorem IntC.later {f:Nat→Int} {w w':World} (hb:Below w.heap.size w w') (i:Nat) (x y:Value) (h:IntC f w i x y):IntC f w' i x y:=by
 obtain ⟨pa,l,ca,h1,h2,h3⟩:=h
 exact ⟨pa,l,ca,h1,h2,h3.later hb⟩
theorem IntC.setT {f:Nat→Int} {w:World} {b o:Nat} {T':TypeId} {u:Value} (hx:IsT w b T') (hT:65≠T') (i:Nat) (x y:Value) (h:IntC f w i x y):IntC f (w.setCell ⟨b,o,none⟩ u) i x y:=by
 obtain ⟨pa,l,ca,h1,h2,h3⟩:=h
 exact ⟨pa,l,ca,h1,h2,h3.setT hx hT⟩
def IntsV (w:World) (v:Value) (l:List Int):Prop :=
 ∃ a cap,v= .slice a l.length cap∧l.length≤cap∧cap≤9223372036854775807∧(a=none→cap=0) ∧
  ∀ ad,a=some ad→ad.spot=none∧∃ arr,Box w ad.block arr 112∧∀ i (h:i<l.length),∃ x y,arr[ad.off+i*2]? =some x∧arr[ad.off+i*2+1]? =some y∧IntC (fun i=>l.getD i 0) w i x y
theorem IntsV.later {w w':World} {v:Value} {l:List Int} (h:IntsV w v l) (hb:Below w.heap.size w w'):IntsV w' v l:=by
 obtain ⟨a,cap,h1,h2,h3,h4,h5⟩:=h
 refine ⟨a,cap,h1,h2,h3,h4,fun ad had=>?_⟩
 obtain ⟨h6,arr,h7,h8⟩:=h5 ad had
 refine ⟨h6,arr,h7.later hb,fun i hi=>?_⟩
 obtain ⟨x,y,k1,k2,k3⟩:=h8 i hi
 exact ⟨x,y,k1,k2,IntC.later hb _ _ _ k3⟩
theorem IntsV.of_fill {w:World} {g:Nat} {l:List Int} (h:Fill w g 112 l.length l.length (IntC fun i=>l.getD i 0)) (hl:l.length≤1000000):IntsV w (.slice (some ⟨g,0,none⟩) l.length l.length) l:=by
 obtain ⟨arr,h1,h2,h3⟩:=h
 refine ⟨_,_,rfl,Nat.le_refl _,by omega,(fun h=>by cases h),fun ad had=>?_⟩
 cases had
 refine ⟨rfl,arr,h1,fun i hi=>?_⟩
 obtain ⟨x,y,k1,k2,k3⟩:=h3 i hi
 exact ⟨x,y,by simpa using k1,by simpa using k2,k3⟩
theorem IntsV.read {w:World} {v:Value} {l:List Int} (h:IntsV w v l) :
  ∃ a cap,v= .slice a l.length cap∧l.length≤cap∧cap≤9223372036854775807∧∀ k (_:k<l.length),∃ b off pa n ca,a=some ⟨b,off,none⟩∧b<w.heap.size∧w.cell? ⟨b,off+k*2,none⟩=some (.slice pa n ca)∧w.cell? ⟨b,off+k*2+1,none⟩=some (.bool (decide (l.getD k 0<0)))∧Mag w (.slice pa n ca) (l.getD k 0).natAbs:=by
 obtain ⟨a,cap,h1,h2,h3,h4,h5⟩:=h
 refine ⟨a,cap,h1,h2,h3,fun k hk=>?_⟩
 cases a with
 | none=>have:=h4 rfl;omega
 | some ad =>
  obtain ⟨h6,arr,h7,h8⟩:=h5 ad rfl
  obtain ⟨b,off,sp⟩:=ad
  simp only at h6
  subst h6
  obtain ⟨x,y,h9,h10,pa,n,ca,rfl,rfl,hm⟩:=h8 k hk
  exact ⟨b,off,pa,n,ca,rfl,h7.lt,(h7.cell _).trans h9,(h7.cell _).trans h10,hm⟩
def FrC (f:Nat→Fr) (_:World) (i:Nat) (x y:Value):Prop:=x= .string (f i).n∧y= .string (f i).d
theorem Frs.of_fill {w:World} {g:Nat} {T:TypeId} {l:List Fr} (h:Fill w g T l.length l.length (FrC fun i=>l.getD i Fr.no)) (hl:l.length≤1000000):Frs w T (.slice (some ⟨g,0,none⟩) l.length l.length) l:=by
 obtain ⟨arr,h1,h2,h3⟩:=h
 refine ⟨_,_,rfl,Nat.le_refl _,by omega,(fun h=>by cases h),fun ad had=>?_⟩
 cases had
 refine ⟨rfl,arr,h1,fun i hi=>?_⟩
 obtain ⟨x,y,k1,k2,k3,k4⟩:=h3 i hi
 have e:l.getD i Fr.no=l[i]:=by simp [hi]
 have k3':x= .string (l.getD i Fr.no).n:=k3
 have k4':y= .string (l.getD i Fr.no).d:=k4
 rw [e] at k3' k4'
 exact ⟨by simpa [k3'] using k1,by simpa [k4'] using k2⟩
def Keep (l:List TypeId) (w w':World):Prop:=∀ b cs T,T∉l→Box w b cs T→Box w' b cs T
theorem Keep.of_below {w w':World} {l:List TypeId} (h:Below w.heap.size w w'):Keep l w w':=fun _ _ _ _ hx=>hx.later h
theorem Keep.trans {a b c:World} {l:List TypeId} (h:Keep l a b) (k:Keep l b c):Keep l a c:=fun x cs T hT hx=>k x cs T hT (h x cs T hT hx)
theorem Keep.mono {a b:World} {l m:List TypeId} (h:Keep l a b) (k:∀ T,T∈l→T∈m):Keep m a b:=fun x cs T hT hx=>h x cs T (fun e=>hT (k T e)) hx
theorem Keep.setCell {w:World} {b:Nat} {T:TypeId} {o:Nat} {u:Value} (h:IsT w b T):Keep [T] w (w.setCell ⟨b,o,none⟩ u):=fun x cs T' hT hx=>by
 obtain ⟨cs',hb⟩:=h
 exact hx.setOther u (hx.ne hb (fun e=>hT (by simp [e])))
theorem Keep.others {w w':World} {row:Option Nat} (hg:w.grownBy w' row) (hr:∀ r,row=some r→∃ o:Obj,w.heap[r]? =some o∧o.isCells=false):Keep [] w w':=fun b cs T _ h=>by
 unfold Box at *
 rw [hg.block b (Array.getElem?_eq_some_iff.1 h).1 ?_]
 ·exact h
 ·intro e
  obtain ⟨o,ho,hc⟩:=hr b e.symm
  rw [h] at ho
  cases ho
  cases hc
theorem Keep.grown {w w':World} {base k:Nat} {e:TypeId} {s:Nat} {v:Value} {xs:List Value} (hown:w.ownsRow base e s v k xs) (hg:w.grownBy w' v.ownBlock):Keep [e] w w':=fun b cs T hT h=>by
 unfold Box at *
 rw [hg.block b (Array.getElem?_eq_some_iff.1 h).1 ?_]
 ·exact h
 ·intro he
  obtain ⟨-, ⟨rfl, -⟩|⟨g,cap,cur,rfl, -, hgg, -⟩⟩:=hown
  ·cases he
  ·simp only [Value.ownBlock,Option.some.injEq] at he
   subst he
   rw [h] at hgg
   cases hgg
   exact hT zi
theorem Row.kept {l:List TypeId} {w w':World} {T:TypeId} {v:Value} {xs:List Value} (h:Row w T v xs) (k:Keep l w w') (hT:T∉l):Row w' T v xs:=by
 obtain ⟨a,cap,h1,h2,h3,h4,h5⟩:=h
 refine ⟨a,cap,h1,h2,h3,h4,fun ad had=>?_⟩
 obtain ⟨h6,arr,h7,h8⟩:=h5 ad had
 exact ⟨h6,arr,k _ _ _ hT h7,h8⟩
theorem Mag.kept {l:List TypeId} {w w':World} {v:Value} {n:Nat} (h:Mag w v n) (k:Keep l w w') (hT:65∉l):Mag w' v n:=Row.kept h k hT
theorem IntV.kept {l:List TypeId} {w w':World} {v:Value} {n:Int} (h:IntV w v n) (k:Keep l w w') (hT:65∉l):IntV w' v n:=by
 obtain ⟨pa,l,ca,h1,h2⟩:=h
 exact ⟨pa,l,ca,h1,Mag.kept h2 k hT⟩
theorem IntC.kept {l:List TypeId} {f:Nat→Int} {w w':World} (k:Keep l w w') (hT:65∉l) (i:Nat) (x y:Value) (h:IntC f w i x y):IntC f w' i x y:=by
 obtain ⟨pa,l,ca,h1,h2,h3⟩:=h
 exact ⟨pa,l,ca,h1,h2,Mag.kept h3 k hT⟩
theorem IntsV.kept {l:List TypeId} {w w':World} {v:Value} {xs:List Int} (h:IntsV w v xs) (k:Keep l w w') (hT:65∉l) (hT2:112∉l):IntsV w' v xs:=by
 obtain ⟨a,cap,h1,h2,h3,h4,h5⟩:=h
 refine ⟨a,cap,h1,h2,h3,h4,fun ad had=>?_⟩
 obtain ⟨h6,arr,h7,h8⟩:=h5 ad had
 refine ⟨h6,arr,k _ _ _ hT2 h7,fun i hi=>?_⟩
 obtain ⟨x,y,k1,k2,k3⟩:=h8 i hi
 exact ⟨x,y,k1,k2,IntC.kept k hT _ _ _ k3⟩
theorem Frs.kept {l:List TypeId} {w w':World} {T:TypeId} {v:Value} {xs:List Fr} (h:Frs w T v xs) (k:Keep l w w') (hT:T∉l):Frs w' T v xs:=by
 obtain ⟨a,cap,h1,h2,h3,h4,h5⟩:=h
 refine ⟨a,cap,h1,h2,h3,h4,fun ad had=>?_⟩
 obtain ⟨h6,arr,h7,h8⟩:=h5 ad had
 exact ⟨h6,arr,k _ _ _ hT h7,h8⟩
theorem owns_kept {l:List TypeId} {w w':World} {base k s:Nat} {e:TypeId} {v:Value} {xs:List Value} (h:w.ownsRow base e s v k xs) (hk:Keep l w w') (hT:e∉l):w'.ownsRow base e s v k xs:=by
 refine ⟨h.1,?_⟩
 rcases h.2 with hn|⟨g,cap,cur,rfl,hb,hgg,rest⟩
 ·exact .inl hn
 ·exact .inr ⟨g,cap,cur,rfl,hb,hk g cur e hT hgg,rest⟩
theorem owns_later {w w':World} {base k s:Nat} {e:TypeId} {v:Value} {xs:List Value} (h:w.ownsRow base e s v k xs) (hb:Below w.heap.size w w'):w'.ownsRow base e s v k xs:=owns_kept (l:=[]) h (Keep.of_below hb) zi
def All2 {α β:Type} (R:α→β→Prop) (xs:List α) (ys:List β):Prop:=ys.length=xs.length∧∀ i (h:i<xs.length) (h':i<ys.length),R xs[i] ys[i]
theorem All2.nil {α β:Type} {R:α→β→Prop}:All2 R [] []:=⟨rfl,fun i h=>by cases h⟩
theorem All2.snoc {α β:Type} {R:α→β→Prop} {xs:List α} {ys:List β} {x:α} {y:β} (h:All2 R xs ys) (hr:R x y):All2 R (xs++[x]) (ys++[y]):=by
 obtain ⟨h1,h2⟩:=h
 refine ⟨by simp [h1],fun i h h'=>?_⟩
 by_cases hi:i<xs.length
 ·rw [List.getElem_append_left hi,List.getElem_append_left zo]
  exact h2 i hi zo
 ·have e:i=xs.length:=by simp at h;omega
  subst e
  rw [List.getElem_append_right (Nat.le_refl _),List.getElem_append_right zo]
  simpa using hr
theorem All2.mono {α β:Type} {R S:α→β→Prop} {xs:List α} {ys:List β} (h:All2 R xs ys) (k:∀ x y,R x y→S x y):All2 S xs ys:=⟨h.1,fun i a b=>k _ _ (h.2 i a b)⟩
def RowsI (w:World) (v:Value) (xss:List (List Int)):Prop:=∃ rs,Row w 114 v rs∧All2 (fun xs r=>IntsV w r xs) xss rs
def MagsV (w:World) (v:Value) (ds:List Nat):Prop:=∃ rs,Row w 108 v rs∧All2 (fun d r=>Mag w r d) ds rs
theorem RowsI.later {w w':World} {v:Value} {xss:List (List Int)} (h:RowsI w v xss) (hb:Below w.heap.size w w'):RowsI w' v xss:=by
 obtain ⟨rs,h1,h2⟩:=h
 exact ⟨rs,h1.later hb,h2.mono fun _ _ h=>h.later hb⟩
theorem MagsV.later {w w':World} {v:Value} {ds:List Nat} (h:MagsV w v ds) (hb:Below w.heap.size w w'):MagsV w' v ds:=by
 obtain ⟨rs,h1,h2⟩:=h
 exact ⟨rs,h1.later hb,h2.mono fun _ _ h=>h.later hb⟩
end Go.Fra
namespace Go.Fra
open Go Go.Num
def quo (z y:Int):Int:=Mem.sgd (z.natAbs / y.natAbs) (decide (z<0) != decide (y<0))
theorem quo_sz (z y:Int):sz 1000000000 (quo z y).natAbs≤sz 1000000000 z.natAbs:=by
 have:(quo z y).natAbs=z.natAbs / y.natAbs:=by
  unfold quo Mem.sgd
  split
  ·rw [Int.natAbs_neg]
   exact Int.natAbs_natCast _
  ·exact Int.natAbs_natCast _
 rw [this]
 exact sz_div
def comb1 (xs ys:List Int) (k:Nat) (d:Int) (j:Nat):Int:=quo (ys.getD k 0*xs.getD j 0+ -(xs.getD k 0*ys.getD j 0)) d
def comb (xs ys:List Int) (k:Nat) (d:Int):List Int:=(List.range xs.length).map (comb1 xs ys k d)
theorem comb_length (xs ys:List Int) (k:Nat) (d:Int):(comb xs ys k d).length=xs.length:=by simp [comb]
theorem comb_getD {xs ys:List Int} {k:Nat} {d:Int} {j:Nat} (h:j<xs.length):(comb xs ys k d).getD j 0=comb1 xs ys k d j:=by simp [comb,h]
theorem comb1_sz {xs ys:List Int} {S:Nat} (k1:∀ i,sz 1000000000 (xs.getD i 0).natAbs≤S) (k2:∀ i,sz 1000000000 (ys.getD i 0).natAbs≤S) (k:Nat) (d:Int) (j:Nat):sz 1000000000 (comb1 xs ys k d j).natAbs≤2*S+1:=by
 unfold comb1
 refine Nat.le_trans (quo_sz _ _) ?_
 have a1:=sz_absmul2 (ys.getD k 0) (xs.getD j 0)
 have a2:=sz_absmul2 (xs.getD k 0) (ys.getD j 0)
 have a3:=sz_absadd (ys.getD k 0*xs.getD j 0) (-(xs.getD k 0*ys.getD j 0))
 have b1:=k1 j
 have b2:=k2 j
 have b3:=k1 k
 have b4:=k2 k
 rw [Int.natAbs_neg] at a3
 omega
theorem comb_sz {xs ys:List Int} {S:Nat} (k1:∀ i,sz 1000000000 (xs.getD i 0).natAbs≤S) (k2:∀ i,sz 1000000000 (ys.getD i 0).natAbs≤S) (k:Nat) (d:Int) (j:Nat):sz 1000000000 ((comb xs ys k d).getD j 0).natAbs≤2*S+1:=by
 by_cases hj:j<xs.length
 ·rw [comb_getD hj];exact comb1_sz k1 k2 k d j
 ·rw [List.getD_eq_getElem?_getD,List.getElem?_eq_none (by rw [comb_length];omega)]
  simp [sz_zero]
abbrev IM:=List (List Int)
def IM.at (rs:IM) (i j:Nat):Int:=(rs.getD i []).getD j 0
def pick (rs:IM) (k:Nat):Option Nat:=(List.range rs.length).find? fun i=>decide (k≤i)&& !decide (rs.at i k=0)
theorem pick_some {rs:IM} {k i:Nat} (hk:k≤i) (hi:i<rs.length) (h0:∀ j,k≤j→j<i→rs.at j k=0) (h1:rs.at i k≠0):pick rs k=some i:=by
 unfold pick
 rw [List.find?_range_eq_some]
 refine ⟨by simp [hk,h1],by simpa using hi,fun j hj=>?_⟩
 by_cases hkj:k≤j
 ·simp [h0 j hkj hj]
 ·simp [hkj]
theorem pick_none {rs:IM} {k:Nat} (h0:∀ j,k≤j→j<rs.length→rs.at j k=0):pick rs k=none:=by
 unfold pick
 rw [List.find?_range_eq_none]
 intro j hj
 by_cases hkj:k≤j
 ·simp [h0 j hkj hj]
 ·simp [hkj]
def swapR (rs:IM) (i k:Nat):IM:=(rs.set i (rs.getD k [])).set k (rs.getD i [])
def clearRow (rs:IM) (k:Nat) (p:Int) (i:Nat):List Int:=if i=k then rs.getD i [] else comb (rs.getD i []) (rs.getD k []) k p
def clearCol (rs:IM) (k:Nat) (p:Int):IM:=(List.range rs.length).map (clearRow rs k p)
theorem clearCol_length (rs:IM) (k:Nat) (p:Int):(clearCol rs k p).length=rs.length:=by simp [clearCol]
theorem clearCol_getD {rs:IM} {k:Nat} {p:Int} {i:Nat} (h:i<rs.length):(clearCol rs k p).getD i []=clearRow rs k p i:=by simp [clearCol,h]
def elim:Nat→Nat→IM→Int→Bool→Int × Bool × IM
 | 0,_,rs,p,t=>(p,t,rs)
 | m+1,k,rs,p,t=>match pick rs k with
  | none=>(0,false,rs)
  | some i=>elim m (k+1) (clearCol (if i=k then rs else swapR rs i k) k p) ((if i=k then rs else swapR rs i k).at k k) (if i=k then t else !t)
def IM.fits (rs:IM) (n c S:Nat):Prop:=rs.length=n∧(∀ i,i<n→(rs.getD i []).length=c)∧∀ i j,sz 1000000000 (rs.at i j).natAbs≤S
theorem swapR_getD {rs:IM} {n i k j:Nat} (h1:rs.length=n) (hi:i<n) (hk:k<n) (hj:j<n):(swapR rs i k).getD j []=rs.getD (if j=k then i else if j=i then k else j) []:=by
 unfold swapR
 simp only [List.getD_eq_getElem?_getD,List.getElem?_set,List.length_set]
 by_cases e1:j=k
 ·subst e1
  simp [h1,hj]
 ·have e1':¬ k=j:=fun e=>e1 e.symm
  rw [if_neg e1',if_neg e1]
  by_cases e2:j=i
  ·subst e2
   simp [h1,hj]
  ·have e2':¬ i=j:=fun e=>e2 e.symm
   rw [if_neg e2',if_neg e2]
theorem IM.fits.swap {rs:IM} {n c S i k:Nat} (h:rs.fits n c S) (hi:i<n) (hk:k<n):(swapR rs i k).fits n c S:=by
 obtain ⟨h1,h2,h3⟩:=h
 have key:=fun j hj=>swapR_getD (j:=j) h1 hi hk hj
 refine ⟨by simp [swapR,h1],fun j hj=>?_,fun j l=>?_⟩
 ·rw [key j hj]
  split
  ·exact h2 i hi
  ·split
   ·exact h2 k hk
   ·exact h2 j hj
 ·by_cases hj:j<n
  ·unfold IM.at
   rw [key j hj]
   exact h3 _ l
  ·unfold IM.at
   have e:(swapR rs i k).getD j []=[]:=by rw [List.getD_eq_getElem?_getD,List.getElem?_eq_none (by simp [swapR,h1];omega)];rfl
   rw [e]
   simp [sz_zero]
theorem swapR_get {rs:IM} {n i k:Nat} (h1:rs.length=n) (hi:i<n) (hk:k<n):(swapR rs i k).at k k=rs.at i k:=by
 unfold IM.at swapR
 simp only [List.getD_eq_getElem?_getD,List.getElem?_set,List.length_set]
 simp [h1,hk]
theorem IM.fits.clear {rs:IM} {n c S k:Nat} (h:rs.fits n c S) (p:Int):(clearCol rs k p).fits n c (2*S+1):=by
 obtain ⟨h1,h2,h3⟩:=h
 refine ⟨by rw [clearCol_length,h1],fun j hj=>?_,fun j l=>?_⟩
 ·rw [clearCol_getD zo]
  unfold clearRow
  split
  ·exact h2 j hj
  ·rw [comb_length];exact h2 j hj
 ·by_cases hj:j<n
  ·unfold IM.at
   rw [clearCol_getD zo]
   unfold clearRow
   split
   ·have:=h3 j l;unfold IM.at at this;omega
   ·exact comb_sz (fun i=>h3 j i) (fun i=>h3 k i) k p l
  ·unfold IM.at
   have e:(clearCol rs k p).getD j []=[]:=by rw [List.getD_eq_getElem?_getD,List.getElem?_eq_none (by rw [clearCol_length];omega)];rfl
   rw [e]
   simp [sz_zero]
def ext (rs:IM):IM:=(List.range rs.length).map fun i=>(List.range (2*rs.length)).map fun j=>if j<rs.length then rs.at i j else if j=rs.length+i then 1 else 0
theorem IM.fits.mono {rs:IM} {n c S S':Nat} (h:rs.fits n c S) (k:S≤S'):rs.fits n c S':=⟨h.1,h.2.1,fun i j=>Nat.le_trans (h.2.2 i j) k⟩
theorem pick_lt {rs:IM} {k i:Nat} (h:pick rs k=some i):i<rs.length:=by
 unfold pick at h
 rw [List.find?_range_eq_some] at h
 simpa using h.2.1
def growE (S:Nat):Nat→Nat
 | 0=>S
 | m+1=>growE (2*S+1) m
theorem le_growE:∀ (m S:Nat),S≤growE S m
 | 0,_=>Nat.le_refl _
 | m+1,S=>Nat.le_trans zo (le_growE m (2*S+1))
theorem growE_le {S m:Nat} (h:m≤4):growE S m≤16*S+15:=by
 have:m=0∨m=1∨m=2∨m=3∨m=4:=by omega
 rcases this with rfl|rfl|rfl|rfl|rfl<;>simp [growE]<;>omega
theorem elim_fits {n c:Nat}:∀ (m k S:Nat) (rs:IM) (p:Int) (t:Bool),rs.fits n c S→sz 1000000000 p.natAbs≤S→k+m≤n→(elim m k rs p t).2.2.fits n c (growE S m)∧sz 1000000000 (elim m k rs p t).1.natAbs≤growE S m
 | 0,k,S,rs,p,t,h,hp,_=>⟨h,hp⟩
 | m+1,k,S,rs,p,t,h,hp,hk=>by
  unfold elim
  split
  ·exact ⟨h.mono (le_growE _ _),by simp [sz_zero]⟩
  ·rename_i i hi
   have hin:=pick_lt hi
   rw [h.1] at hin
   have h1:IM.fits (if i=k then rs else swapR rs i k) n c S:=by
    split
    ·exact h
    ·exact h.swap hin zo
   exact elim_fits m (k+1) (2*S+1) _ _ _ (h1.clear p) (Nat.le_trans (h1.2.2 k k) zo) zo
theorem ext_fits {rs:IM} {n S:Nat} (h:rs.fits n n S) (hS:1≤S):(ext rs).fits n (2*n) S:=by
 obtain ⟨h1,h2,h3⟩:=h
 have hrow:∀ i,i<n→(ext rs).getD i []=(List.range (2*n)).map fun j=>if j<n then rs.at i j else if j=n+i then 1 else 0:=fun i hi=>by
  unfold ext
  rw [h1]
  simp [hi]
 refine ⟨by simp [ext,h1],fun i hi=>by rw [hrow i hi];simp,fun i j=>?_⟩
 unfold IM.at
 by_cases hi:i<n
 ·rw [hrow i hi]
  by_cases hj:j<2*n
  ·have e:((List.range (2*n)).map fun j=>if j<n then rs.at i j else if j=n+i then (1:Int) else 0).getD j 0=if j<n then rs.at i j else if j=n+i then 1 else 0:=by simp [hj]
   rw [e]
   split
   ·exact h3 i j
   ·split
    ·have:sz 1000000000 (1:Int).natAbs=1:=by decide+kernel
     omega
    ·simp [sz_zero]
  ·rw [List.getD_eq_getElem?_getD,List.getElem?_eq_none (by simp;omega)]
   simp [sz_zero]
 ·have e:(ext rs).getD i []=[]:=by rw [List.getD_eq_getElem?_getD,List.getElem?_eq_none (by simp [ext,h1];omega)];rfl
  rw [e]
  simp [sz_zero]
end Go.Fra
namespace Go.Fra
open Go Go.RowKit Go.Num Go.Mem
def Off (P:Nat) (v:Value):Prop:=∀ a m c,v= .slice (some a) m c→a.block≠P
def RowsF (w:World) (P B off n:Nat) (f:Nat→List Int):Prop:=∃ arr,Box w B arr 114∧∀ i,i<n→∃ v,arr[off+i]? =some v∧IntsV w v (f i)∧Off P v
theorem RowsF.isT {w:World} {P B off n:Nat} {f:Nat→List Int} (h:RowsF w P B off n f):IsT w B 114:=by
 obtain ⟨arr,h1, -⟩:=h
 exact h1.isT
theorem RowsF.lt {w:World} {P B off n:Nat} {f:Nat→List Int} (h:RowsF w P B off n f):B<w.heap.size:=by
 obtain ⟨arr,h1, -⟩:=h
 exact h1.lt
theorem RowsF.free {w:World} {P B off n:Nat} {f:Nat→List Int} (h:RowsF w P B off n f) (o:Nat):w.frozen? ⟨B,o,none⟩=false:=by
 obtain ⟨arr,h1, -⟩:=h
 exact h1.free o
theorem RowsF.later {w w':World} {P B off n:Nat} {f:Nat→List Int} (h:RowsF w P B off n f) (hb:Below w.heap.size w w'):RowsF w' P B off n f:=by
 obtain ⟨arr,h1,h2⟩:=h
 refine ⟨arr,h1.later hb,fun i hi=>?_⟩
 obtain ⟨v,k1,k2,k3⟩:=h2 i hi
 exact ⟨v,k1,k2.later hb,k3⟩
theorem RowsF.congr {w:World} {P B off n:Nat} {f g:Nat→List Int} (h:RowsF w P B off n f) (e:∀ i,i<n→f i=g i):RowsF w P B off n g:=by
 obtain ⟨arr,h1,h2⟩:=h
 refine ⟨arr,h1,fun i hi=>?_⟩
 obtain ⟨v,k1,k2,k3⟩:=h2 i hi
 exact ⟨v,k1,e i hi ▸ k2,k3⟩
theorem RowsF.get {w:World} {P B off n:Nat} {f:Nat→List Int} (h:RowsF w P B off n f) {i:Nat} (hi:i<n) :
  ∃ a c,w.cell? ⟨B,off+i,none⟩=some (.slice a (f i).length c)∧(f i).length≤c∧c≤9223372036854775807∧IntsV w (.slice a (f i).length c) (f i)∧Off P (.slice a (f i).length c):=by
 obtain ⟨arr,h1,h2⟩:=h
 obtain ⟨v,k1,k2,k3⟩:=h2 i hi
 obtain ⟨a,c,rfl,k4,k5, -⟩:=k2.read
 exact ⟨a,c,(h1.cell _).trans k1,k4,k5,k2,k3⟩
theorem IntsV.elem {w:World} {P:Nat} {a:Option Addr} {m c:Nat} {l:List Int} (h:IntsV w (.slice a m c) l) (ho:Off P (.slice a m c)) {j:Nat} (hj:j<l.length) :
  ∃ b o pa n ca,a=some ⟨b,o,none⟩∧b≠P∧b<w.heap.size∧w.cell? ⟨b,o+j*2,none⟩=some (.slice pa n ca)∧w.cell? ⟨b,o+j*2+1,none⟩=some (.bool (decide (l.getD j 0<0)))∧Mag w (.slice pa n ca) (l.getD j 0).natAbs:=by
 obtain ⟨a',c',e, -, -, h2⟩:=h.read
 simp only [Value.slice.injEq] at e
 obtain ⟨rfl,rfl,rfl⟩:=e
 obtain ⟨b,o,pa,n,ca,rfl,k1,k2,k3,k4⟩:=h2 j hj
 exact ⟨b,o,pa,n,ca,rfl,ho _ _ _ rfl,k1,k2,k3,k4⟩
theorem IntsV.setOff {w:World} {P o:Nat} {v u:Value} {l:List Int} (h:IntsV w v l) (hv:Off P v) (hP:IsT w P 112):IntsV (w.setCell ⟨P,o,none⟩ u) v l:=by
 obtain ⟨a,cap,h1,h2,h3,h4,h5⟩:=h
 refine ⟨a,cap,h1,h2,h3,h4,fun ad had=>?_⟩
 subst had
 obtain ⟨h6,arr,h7,h8⟩:=h5 ad rfl
 refine ⟨h6,arr,h7.setOther u (hv ad _ _ h1),fun i hi=>?_⟩
 obtain ⟨x,y,k1,k2,k3⟩:=h8 i hi
 exact ⟨x,y,k1,k2,IntC.setT hP zd _ _ _ k3⟩
theorem RowsF.setOff {w:World} {P B off n o:Nat} {f:Nat→List Int} {u:Value} (h:RowsF w P B off n f) (hP:IsT w P 112):RowsF (w.setCell ⟨P,o,none⟩ u) P B off n f:=by
 obtain ⟨arr,h1,h2⟩:=h
 obtain ⟨cs,hx⟩:=hP
 refine ⟨arr,h1.setOther u (h1.ne hx zd),fun i hi=>?_⟩
 obtain ⟨v,k1,k2,k3⟩:=h2 i hi
 exact ⟨v,k1,k2.setOff k3 ⟨cs,hx⟩,k3⟩
theorem RowsF.set {w:World} {P B off n i:Nat} {f:Nat→List Int} {v:Value} {xs:List Int} (h:RowsF w P B off n f) (hi:i<n) (hv:IntsV w v xs) (ho:Off P v):RowsF (w.setCell ⟨B,off+i,none⟩ v) P B off n (fun j=>if j=i then xs else f j):=by
 have hB:=h.isT
 obtain ⟨arr,h1,h2⟩:=h
 have hs:off+i<arr.size:=by
  obtain ⟨u,k1, -⟩:=h2 i hi
  exact (Array.getElem?_eq_some_iff.1 k1).1
 refine ⟨arr.setIfInBounds (off+i) v,h1.set _ _,fun j hj=>?_⟩
 by_cases e:j=i
 ·subst e
  refine ⟨v,?_,?_,ho⟩
  ·rw [Array.getElem?_setIfInBounds,if_pos rfl,if_pos hs]
  ·simp only [if_true]
   exact hv.kept (Keep.setCell hB) zd zd
 ·obtain ⟨u,k1,k2,k3⟩:=h2 j hj
  refine ⟨u,?_,?_,k3⟩
  ·rw [Array.getElem?_setIfInBounds,if_neg zo,k1]
  ·simp only [if_neg e]
   exact k2.kept (Keep.setCell hB) zd zd
def RowsB (w:World) (B off n:Nat) (f:Nat→List Int):Prop:=∃ arr,Box w B arr 114∧∀ i,i<n→∃ v,arr[off+i]? =some v∧IntsV w v (f i)
theorem RowsF.rowsB {w:World} {P B off n:Nat} {f:Nat→List Int} (h:RowsF w P B off n f):RowsB w B off n f:=by
 obtain ⟨arr,h1,h2⟩:=h
 refine ⟨arr,h1,fun i hi=>?_⟩
 obtain ⟨v,k1,k2, -⟩:=h2 i hi
 exact ⟨v,k1,k2⟩
theorem IntsV.off {w:World} {v:Value} {l:List Int} (h:IntsV w v l) {P:Nat} (hP:w.heap.size≤P):Off P v:=by
 obtain ⟨a,cap,h1,h2,h3,h4,h5⟩:=h
 intro ad m c e
 rw [h1] at e
 simp only [Value.slice.injEq] at e
 obtain ⟨rfl, -, -⟩:=e
 obtain ⟨-, arr,h7, -⟩:=h5 ad rfl
 have:=h7.lt
 omega
theorem RowsB.rowsF {w:World} {B off n:Nat} {f:Nat→List Int} (h:RowsB w B off n f):RowsF w w.heap.size B off n f:=by
 obtain ⟨arr,h1,h2⟩:=h
 refine ⟨arr,h1,fun i hi=>?_⟩
 obtain ⟨v,k1,k2⟩:=h2 i hi
 exact ⟨v,k1,k2,k2.off (Nat.le_refl _)⟩
theorem RowsF.alloc {w:World} {P B off n:Nat} {f:Nat→List Int} (h:RowsF w P B off n f) (o:Obj):RowsF (w.alloc o) P B off n f:=h.later ((Below.refl _ _).alloc (Nat.le_refl _) _)
theorem RowsF.drew {w:World} {P B off n:Nat} {f:Nat→List Int} (h:RowsF w P B off n f):RowsF w.drew P B off n f:=h.later (Below.drew (Below.refl _ _))
def Near (w w':World) (B:Nat):Prop:=w.grownBy w' (some B)
theorem Near.refl (w:World) (B:Nat):Near w w B:=near_refl w _
theorem Near.below {a w w':World} {B:Nat} (h:Near a w B) (hb:Below w.heap.size w w'):Near a w' B :=
 ⟨hb.os.trans h.os,hb.tape.trans h.tape,hb.output.trans h.output,Nat.le_trans h.size hb.size,fun i hi hne=>(hb.block i (Nat.lt_of_lt_of_le hi h.size)).trans (h.block i hi hne)⟩
theorem Near.set {a w:World} {B:Nat} (h:Near a w B) (o:Nat) (u:Value):Near a (w.setCell ⟨B,o,none⟩ u) B:=near_set h o u
theorem Near.setNew {a w:World} {B P:Nat} (h:Near a w B) (hP:a.heap.size≤P) (o:Nat) (u:Value):Near a (w.setCell ⟨P,o,none⟩ u) B :=
 ⟨h.os,h.tape,h.output,by simpa [World.setCell] using h.size,fun i hi hne=>(Below.heap_setCell w _ u i (by rintro rfl;exact absurd hi (by simp;omega))).trans (h.block i hi hne)⟩
theorem Near.size {a w:World} {B:Nat} (h:Near a w B):a.heap.size≤w.heap.size:=World.grownBy.size h
theorem Near.toBelow {b a w:World} {B:Nat} (h:Near a w B) (hb:Below b.heap.size b a) (hB:b.heap.size≤B):Below b.heap.size b w :=
 below_of_near hb h hb.size hB
def MFill (w:World) (M n k:Nat) (f:Nat→List Fr):Prop :=
 ∃ arr,Box w M arr 29∧arr.size=n∧∀ i,i<k→∃ v,arr[i]? =some v∧Frs w 59 v (f i)
theorem MFill.lt {w:World} {M n k:Nat} {f:Nat→List Fr} (h:MFill w M n k f):M<w.heap.size:=by
 obtain ⟨arr,h1, -⟩:=h
 exact h1.lt
theorem MFill.isT {w:World} {M n k:Nat} {f:Nat→List Fr} (h:MFill w M n k f):IsT w M 29:=by
 obtain ⟨arr,h1, -⟩:=h
 exact h1.isT
theorem MFill.later {w w':World} {M n k:Nat} {f:Nat→List Fr} (h:MFill w M n k f) (hb:Below w.heap.size w w'):MFill w' M n k f:=by
 obtain ⟨arr,h1,h2,h3⟩:=h
 refine ⟨arr,h1.later hb,h2,fun i hi=>?_⟩
 obtain ⟨v,k1,k2⟩:=h3 i hi
 exact ⟨v,k1,k2.later hb⟩
theorem MFill.cell {w:World} {M n k:Nat} {f:Nat→List Fr} (h:MFill w M n k f) {j:Nat} (hj:j<n):(∃ x,w.cell? ⟨M,j,none⟩=some x)∧∀ o,w.frozen? ⟨M,o,none⟩=false:=by
 obtain ⟨arr,h1,h2, -⟩:=h
 exact ⟨⟨arr[j]'zo,by rw [h1.cell];exact Array.getElem?_eq_getElem _⟩,h1.free⟩
theorem MFill.start {w:World} {base g n:Nat} {z:Array Value} {f:Nat→List Fr} (h:w.ownsRow base 29 1 (.slice (some ⟨g,0,none⟩) n n) n (madeCells z n).toList):MFill w g n 0 f:=by
 obtain ⟨h1,h2|⟨g',cap,cur,h3,h4,h5,h6,h7,h8,h9⟩⟩:=h
 ·cases h2.1
 ·simp only [Value.slice.injEq,Option.some.injEq,Addr.mk.injEq,and_true,true_and] at h3
  obtain ⟨rfl,rfl⟩:=h3
  exact ⟨cur,h5,by omega,fun i hi=>by omega⟩
theorem Box.uniq {w:World} {b:Nat} {cs cs':Array Value} {T T':TypeId} (h:Box w b cs T) (h':Box w b cs' T'):cs=cs':=by
 unfold Box at *
 rw [h] at h'
 injection h' with e
 injection e
theorem Near.box {w w':World} {M b:Nat} {cs:Array Value} {T:TypeId} (h:Near w w' M) (hb:Box w b cs T) (hne:b≠M):Box w' b cs T:=by
 have hl:=hb.lt
 unfold Box at *
 rw [World.grownBy.block h b hl (by simpa using hne)]
 exact hb
theorem Frs.near {w w':World} {M:Nat} {T T':TypeId} {v:Value} {l:List Fr} (h:Frs w T v l) (k:Near w w' M) (hM:IsT w M T') (hT:T≠T'):Frs w' T v l:=by
 obtain ⟨a,cap,h1,h2,h3,h4,h5⟩:=h
 refine ⟨a,cap,h1,h2,h3,h4,fun ad had=>?_⟩
 obtain ⟨h6,arr,h7,h8⟩:=h5 ad had
 obtain ⟨cs,hM⟩:=hM
 exact ⟨h6,arr,k.box h7 (h7.ne hM hT),h8⟩
theorem MFill.step {w w':World} {M n k:Nat} {f:Nat→List Fr} {v:Value} (h:MFill w M n k f) (hk:k<n) (hn:Near w w' M)
  (hb:∀ arr,Box w M arr 29→Box w' M (arr.setIfInBounds k v) 29) (hv:Frs w' 59 v (f k)):MFill w' M n (k+1) f:=by
 have hM:=h.isT
 obtain ⟨arr,h1,h2,h3⟩:=h
 refine ⟨arr.setIfInBounds k v,hb _ h1,by simp [h2],fun i hi=>?_⟩
 rcases Nat.lt_or_ge i k with h|h
 ·obtain ⟨u,k1,k2⟩:=h3 i h
  refine ⟨u,?_,k2.near hn hM zd⟩
  rw [Array.getElem?_setIfInBounds,if_neg zo,k1]
 ·obtain rfl:i=k:=by omega
  refine ⟨v,?_,hv⟩
  rw [Array.getElem?_setIfInBounds,if_pos rfl,if_pos zo]
theorem MFill.matV {w:World} {M:Nat} {m:List (List Fr)} (h:MFill w M m.length m.length (fun i=>m.getD i [])) (hm:m.length≤1000000):MatV w (.slice (some ⟨M,0,none⟩) m.length m.length) m:=by
 obtain ⟨arr,h1,h2,h3⟩:=h
 refine ⟨arr.toList,Row.mk ?_ ?_ zo h1 ?_,?_,?_⟩
 ·simp [h2]
 ·simp [h2]
 ·intro i hi
  rw [Nat.zero_add]
  simp at hi
  simp [hi]
 ·simp [h2]
 ·intro i hi hi'
  obtain ⟨v,k1,k2⟩:=h3 i hi'
  have e:arr.toList[i]=v:=by
   rw [Array.getElem_toList]
   exact (Array.getElem?_eq_some_iff.1 k1).2
  rw [e]
  have e2:m.getD i []=m[i]:=by simp [hi']
  rw [← e2]
  exact k2
def MatPost (w:World) (er:Int) (m:List (List Fr)) (e:Ending) (w':World):Prop :=
 Below w.heap.size w w'∧∃ v,e= .returned (.tuple #[v,.int .i64 er])∧(er=0→MatV w' v m)∧(er≠0→v= .slice none 0 0)
theorem MatPost.no {w w':World} {er:Int} {m:List (List Fr)} (hb:Below w.heap.size w w') (he:er≠0):MatPost w er m (.returned (.tuple #[.slice none 0 0,.int .i64 er])) w' :=
 ⟨hb,_,rfl,fun h=>absurd h he,fun _=>rfl⟩
theorem MatPost.yes {w w':World} {m:List (List Fr)} {v:Value} (hb:Below w.heap.size w w') (hv:MatV w' v m):MatPost w 0 m (.returned (.tuple #[v,.int .i64 0])) w' :=
 ⟨hb,_,rfl,fun _=>hv,fun h=>absurd rfl h⟩
def Fr.zero:Fr:=⟨⟨#[48]⟩,⟨#[49]⟩⟩
def Fr.one:Fr:=⟨⟨#[49]⟩,⟨#[49]⟩⟩
def diagRow (l:List Fr) (r:Nat):List Fr:=(List.range l.length).map fun c=>if c=r then l.getD r Fr.no else Fr.zero
def diagM (l:List Fr):List (List Fr):=(List.range l.length).map (diagRow l)
def diagE (l:List Fr):Int:=if l.length<1∨4<l.length then 2 else chkL l
def idE (n:Int):Int:=if n<1∨4<n then 2 else 0
theorem Fill.put {w:World} {G n j:Nat} {T:TypeId} {f:Nat→Fr} {x:Fr} (h:Fill w G T n n (FrC f)) (hj:j<n) :
  Fill ((w.setCell ⟨G,j*2,none⟩ (.string x.n)).setCell ⟨G,j*2+1,none⟩ (.string x.d)) G T n n (FrC fun c=>if c=j then x else f c):=by
 obtain ⟨arr,h1,h2,h3⟩:=h
 refine ⟨(arr.setIfInBounds (j*2) (.string x.n)).setIfInBounds (j*2+1) (.string x.d),(h1.set _ _).set _ _,by simp [h2],fun i hi=>?_⟩
 by_cases e:i=j
 ·subst e
  refine ⟨.string x.n,.string x.d,?_,?_,?_⟩
  ·rw [Array.getElem?_setIfInBounds,if_neg zo,Array.getElem?_setIfInBounds,if_pos rfl,if_pos zo]
  ·rw [Array.getElem?_setIfInBounds,if_pos rfl,if_pos (by simp;omega)]
  ·unfold FrC
   simp only [if_true,and_self]
 ·obtain ⟨x',y',k1,k2,k3⟩:=h3 i hi
  refine ⟨x',y',?_,?_,?_⟩
  ·rw [Array.getElem?_setIfInBounds,if_neg zo,Array.getElem?_setIfInBounds,if_neg zo,k1]
  ·rw [Array.getElem?_setIfInBounds,if_neg zo,Array.getElem?_setIfInBounds,if_neg zo,k2]
  ·unfold FrC at *
   simp only [if_neg e]
   exact k3
theorem Fill.other {w:World} {g:Nat} {T:TypeId} {n k:Nat} {f:Nat→Fr} (h:Fill w g T n k (FrC f)) {a:Addr} (u:Value) (hne:g≠a.block):Fill (w.setCell a u) g T n k (FrC f):=by
 obtain ⟨arr,h1,h2,h3⟩:=h
 exact ⟨arr,h1.setOther u hne,h2,h3⟩
theorem Fill.laterF {w w':World} {g:Nat} {T:TypeId} {n k:Nat} {f:Nat→Fr} (h:Fill w g T n k (FrC f)) (hb:Below w.heap.size w w'):Fill w' g T n k (FrC f):=h.later hb (fun _ _ _ h=>h)
theorem Fill.frs {w:World} {g:Nat} {T:TypeId} {n:Nat} {l:List Fr} (h:Fill w g T n n (FrC fun i=>l.getD i Fr.no)) (hn:l.length=n) (hl:n≤1000000):Frs w T (.slice (some ⟨g,0,none⟩) n n) l:=by
 subst hn
 exact Frs.of_fill h hl
theorem Fill.congrF {w:World} {g:Nat} {T:TypeId} {n k:Nat} {f f':Nat→Fr} (h:Fill w g T n k (FrC f)) (e:∀ i,i<k→f i=f' i):Fill w g T n k (FrC f'):=by
 obtain ⟨arr,h1,h2,h3⟩:=h
 refine ⟨arr,h1,h2,fun i hi=>?_⟩
 obtain ⟨x,y,k1,k2,k3⟩:=h3 i hi
 refine ⟨x,y,k1,k2,?_⟩
 unfold FrC at *
 rw [← e i hi]
 exact k3
end Go.Fra
