/- Lemmas for the proof. No condition. -/
import Derived.Test.YtfhappbmgghgdaaGreatDoorWB01
import Derived.Test.YtfhappbmgghgdaaGreatDoorWB02
import Derived.Test.YtfhappbmgghgdaaGreatDoorWB03
import Derived.Test.YtfhappbmgghgdaaGreatDoorWB05
import Derived.Test.YtfhappbmgghgdaaGreatDoorWB06
import Derived.Test.YtfhappbmgghgdaaGreatDoorProg
import Derived.RangeFuncBox
import Derived.RangeFuncLeaves
import Derived.Shelf.Abstract
import Derived.WalkKit
import Derived.OwnWalkIn
import Derived.TacticsInMore
import Derived.LoopNIn
import Derived.LoopIn
import Derived.KernelRfl
import Derived.Deep.QuietTactic
import Derived.BigQuiet
import Derived.WalkSmall
import Derived.Deep.DeepCutAuto
import Derived.Deep.CutBlock
import Derived.Laws.CopyOwn
import Derived.WalkMore
set_option linter.unusedVariables false
set_option linter.unusedSimpArgs false
set_option maxRecDepth 100000
set_option maxHeartbeats 16000000
namespace Go.Proofs.matrix
open Go Go.RowKit Go.Shelf Go.SW Go.Num Go.Mem Go.Proofs Go.Dec Go.cK
attribute [local go_sem] Oper.semAt_some
def enc (rs:List Value) (k:Fin rs.length):Array Value:=#[.int .i64 (k.1:Int),rs[k.1]]
def upto {n:Nat} (k:Nat) (h:k≤n):List (Fin n):=List.ofFn (n:=k) fun i=>⟨i.1,Nat.lt_of_lt_of_le i.2 h⟩
theorem MX {n k:Nat} (h:k+1≤n):upto (k+1) h=upto k zo++[⟨k,h⟩]:=by
 unfold upto;rw [List.ofFn_succ_last];rfl
theorem nL {n k:Nat} (h:k≤n):(upto k h).length=k:=by simp [upto]
theorem MW (F:Fence) (n:Nat) (hf:F.fn 115) (hro:F.round=none) (hn:1≤n) (l Bs n₀ b off len cap:Nat) (rs:List Value) (hlen:rs.length=len) (hm:len≤9223372036854775807) (hb:b<n₀) (J Jx:List (Fin rs.length)→World→Prop)
  (hY:∀ pre x W,J pre W→pre.length<rs.length→YieldAt F (n - 1) Tryz.prog l (enc rs x) W fun e W' =>
   (e= .returned (.bool true)∧J (pre++[x]) W'∧Below n₀ W W')∨(e= .returned (.bool false)∧Jx (pre++[x]) W'))
  (W:World) (hBs:W.cell? ⟨Bs,0,none⟩=some (.slice (some ⟨b,off,none⟩) len cap)) (hc:∀ j (h:j<rs.length),W.cell? ⟨b,off+j,none⟩=some rs[j]) (h0:J [] W) :
  CallsIn F n Tryz.prog 115 #[.func (.yield l) #[] #[],.pointer (some ⟨Bs,0,none⟩)] W fun e W'=>(∃ v,e= .returned v) ∧
   ((∃ ys,ys=upto rs.length (Nat.le_refl _)∧J ys W')∨(∃ pre,True∧Jx pre W')):=by
 refine callsIn_of_wp Tryz.func115 rfl hf ?_ hro;simp only [Tryz.ntmps115,List.size_toArray,List.length_cons,List.length_nil,Nat.reduceAdd,Nat.reduceSub,Array.replicate_succ,Array.replicate_zero,List.push_toArray,List.append_toArray,List.nil_append,List.cons_append]
 gi_wp2
 gi_loopw [7] (fun i wr=>∃ (k:Nat) (hk:k≤rs.length),i= .int .i64 k∧J (upto k hk) wr∧Below n₀ W wr)
  (fun i _=>len - (intOf i).toNat)
 case atStart=>exact ⟨0,Nat.zero_le _,rfl,h0,Below.refl _ _⟩
 case round =>
  obtain ⟨k,hk,rfl,hJs,hnx⟩:=hrel
  by_cases hlt:k<rs.length
  ·have hcx:=(hnx.cell (p:=⟨b,off+k,none⟩) hb).trans (hc k hlt);obtain ⟨fn,tmps,assign,body,hy,hR⟩:=hY _ ⟨k,hlt⟩ wr hJs (by rw [nL];exact hlt);unfold enc at hy
   dsimp only at hy
   have hlt2:k<len:=by omega
   clear hc hY hlen;generalize rs[k]=rk at *
   gi_wp2
   refine hR.mono ?_;rintro e W3 (⟨rfl,hJ3,hk3⟩|⟨rfl,hJx3⟩)
   ·gi_wp2
    go_roundw
    case rel=>exact ⟨k+1,hlt,by simp,by rw [MX];exact hJ3,hnx.trans hk3⟩
    case measure=>exact zM
   ·gi_wp2
    refine bodyPost_ret (results_none rfl _ _ _) rfl ?_;exact ⟨⟨_,rfl⟩,.inr ⟨_,trivial,hJx3⟩⟩
  ·obtain rfl:k=rs.length:=by omega
   have hge:¬ rs.length<len:=by omega
   clear hc hY;have aL5:decide ((rs.length:Int)<(len:Int))=false:=by simp;omega
   gi_wp2
   go_end0
   exact ⟨⟨_,rfl⟩,.inl ⟨_,rfl,hJs⟩⟩
theorem Bo (F:Fence) (n:Nat) (hf:F.fn 115) (hro:F.round=none) (l Bs:Nat) (J:World→Prop) (W:World) (hBs:W.cell? ⟨Bs,0,none⟩=some (.slice none 0 0)) (h0:J W) :
  CallsIn F n Tryz.prog 115 #[.func (.yield l) #[] #[],.pointer (some ⟨Bs,0,none⟩)] W fun e W'=>(∃ v,e= .returned v)∧J W':=by
 refine callsIn_of_wp Tryz.func115 rfl hf ?_ hro;simp only [Tryz.ntmps115,List.size_toArray,List.length_cons,List.length_nil,Nat.reduceAdd,Nat.reduceSub,Array.replicate_succ,Array.replicate_zero,List.push_toArray,List.append_toArray,List.nil_append,List.cons_append]
 gi_wp2
 gi_loopw [7] (fun i wr=>i= .int .i64 0∧J wr) (fun _ _=>0)
 case atStart=>exact ⟨rfl,h0⟩
 case round =>
  obtain ⟨rfl,hJs⟩:=hrel
  gi_wp2
  go_end0
  exact ⟨⟨_,rfl⟩,hJs⟩
theorem ug (F:Fence) (n:Nat) (hf:F.fn 58) (hro:F.round=none) (a:Option Addr) (len cap:Nat) (w:World) :
  CallsIn F n Tryz.prog 58 #[.slice a len cap] w fun e w'=>e= .returned (.func (.func 115) #[] #[.pointer (some ⟨w.heap.size,0,none⟩)])∧w'=w.alloc (.cells #[.slice a len cap] 23):=by
 refine callsIn_of_wp Tryz.func58 rfl hf ?_ hro;simp only [Tryz.ntmps58,List.size_toArray,List.length_cons,List.length_nil,Nat.reduceAdd,Nat.reduceSub,Array.replicate_succ,Array.replicate_zero,List.push_toArray,List.append_toArray,List.nil_append,List.cons_append]
 gi_wp2
 go_ret
 exact ⟨rfl,rfl⟩
theorem nK (F:Fence) (n:Nat) (hf:F.fn 115) (hro:F.round=none) (hn:1≤n) (Bs n₀:Nat) (sv:Value) (rs:List Value) (w0 w:World) (hBs:Bs<w.heap.size) (hn₀:n₀≤w.heap.size)
  (hc:w.cell? ⟨Bs,0,none⟩=some sv) (hR:Row w0 29 sv rs) (h0:w0.heap.size≤n₀) (hb:Below w0.heap.size w0 w) :
  SeqStopsK F n Tryz.prog 115 #[.pointer (some ⟨Bs,0,none⟩)] (enc rs) (Below n₀) (fun ys=>ys=upto rs.length (Nat.le_refl _)) (fun _=>True) rs.length w:=fun l J Jx W hW _ _ hY hJ0=>by
 have hc':=(hW.cell (p:=⟨Bs,0,none⟩) hBs).trans hc;have hR':=hR.later (hb.trans (hW.mono (Nat.le_trans h0 hn₀)))
 rcases hR.cases with ⟨rfl,rfl⟩|⟨b,off,cap,arr,rfl,h1,h2,h3,h4⟩
 ·exact (Bo F n hf hro l Bs (J []) W hc' hJ0).mono fun e W' ⟨he,hj⟩=>⟨he,.inl ⟨_,rfl,hj⟩⟩
 ·have hx:au W b arr 29:=h3.later (hb.trans (hW.mono (Nat.le_trans h0 hn₀)));exact MW F n hf hro hn l Bs n₀ b off rs.length cap rs rfl zo (Nat.lt_of_lt_of_le h3.lt h0) J Jx hY W hc' (fun j hj=>(hx.cell _).trans (h4 j hj)) hJ0
end Go.Proofs.matrix
namespace Go.Proofs.matrix
open Go Go.RowKit Go.SW Go.Num Go.Mem Go.Proofs
theorem vS (b off c:Nat) (l:List Nat) (w:World) (hl:l.length≤c) (hm:c≤9223372036854775807)
   (hc:∀ k,k<l.length→w.cell? ⟨b,off+k,none⟩=some (.int .u32 (l.getD k 0:Nat))) :
    Calls Tryz.prog 116 #[.slice (some ⟨b,off,none⟩) l.length c] w fun e w'=>e= .returned (.slice (some ⟨b,off,none⟩) (trimLen l l.length) c)∧w=w':=zs1
theorem yN (w:World):Calls Tryz.prog 116 #[.slice none 0 0] w fun e w'=>e= .returned (.slice none 0 0)∧w=w':=by
 go_enter Tryz.func116,Tryz.ntmps116
 go_wp2
 refine wp_loop_rounds 1 ?_;rw [rounds_succ]
 go_wp2
 go_ret
 exact ⟨rfl,rfl⟩
theorem kW (v:Value) (l:List Nat) (w:World) (h:jY w v l) (hd:dz 1000000000 l) :
  Calls Tryz.prog 116 #[v] w fun e w'=>∃ v',e= .returned v'∧w=w'∧aK w v' (val 1000000000 l):=zs2
theorem fQ (v:Value) (n:Nat) (w:World) (h:aK w v n) :
  Calls Tryz.prog 78 #[v] w fun e w'=>e= .returned (.bool (decide (n=0)))∧w=w':=zs4
def tY (a b:Nat):Int:=if a<b then -1 else if b<a then 1 else 0
theorem oZ {a b:Nat} (h:a<b):tY a b= -1:=if_pos h
theorem nZ {a b:Nat} (h:b<a):tY a b=1:=by unfold tY;rw [if_neg zo,if_pos h]
theorem qm (a:Nat):tY a a=0:=by unfold tY;simp
theorem Mf (a b:Nat) (w:World):Calls Tryz.prog 220 #[.int .i64 a,.int .i64 b] w fun e w'=>e= .returned (.int .i64 (tY a b))∧w=w':=zs5
theorem Me (a b:Nat) (w:World):Calls Tryz.prog 221 #[.int .u32 a,.int .u32 b] w fun e w'=>e= .returned (.int .i64 (tY a b))∧w=w':=zs6
theorem xE (a b:Option Addr) (m n c d:Nat) (w:World) (h:m≠n) :
  Calls Tryz.prog 172 #[.slice a m c,.slice b n d] w fun e w'=>e= .returned (.int .i64 (tY m n))∧w=w':=zs7
theorem uZ (pa pb:Option Addr) (ca cb:Nat) (l m:List Nat) (w:World) (hlen:l.length=m.length) (hm:l.length≤9223372036854775807) (hl:dz 1000000000 l) (hmd:dz 1000000000 m)
   (hc:∀ k,k<l.length→∃ b off,pa=some ⟨b,off,none⟩∧b<w.heap.size∧w.cell? ⟨b,off+k,none⟩=some (.int .u32 (l.getD k 0:Nat)))
   (hd:∀ k,k<m.length→∃ b off,pb=some ⟨b,off,none⟩∧b<w.heap.size∧w.cell? ⟨b,off+k,none⟩=some (.int .u32 (m.getD k 0:Nat))) :
    Calls Tryz.prog 172 #[.slice pa l.length ca,.slice pb m.length cb] w fun e w'=>e= .returned (.int .i64 (tY (val 1000000000 l) (val 1000000000 m)))∧Below w.heap.size w w':=zs8
theorem iN (x y:Value) (a b:Nat) (w:World) (hx:aK w x a) (hy:aK w y b) :
  Calls Tryz.prog 172 #[x,y] w fun e w'=>e= .returned (.int .i64 (tY a b))∧Below w.heap.size w w':=zs9
theorem zK:(Tryz.prog.info? 65).map (fun i=>(i.zero,i.size,i.bytes))=some (some (.int .u32 0),1,4):=by kernel_rfl
theorem vW {B:Nat} {l m s:List Nat} {k c d c':Nat} (hk:k<l.length) (hs:s.length=k) (he:val B s+c*B^k=val B (l.take k)+val B (m.take k)) (h:d+c'*B=l.getD k 0+c+m.getD k 0) :
  val B (s++[d])+c'*B^(k+1)=val B (l.take (k+1))+val B (m.take (k+1)):=af8
theorem vV (pl ps:Option Addr) (cl cs:Nat) (l m:List Nat) (v0 v1:Value) (w:World) (hl:dz 1000000000 l) (hmd:dz 1000000000 m) (hb1:l.length≤1099511627776) (hml:m.length≤l.length)
   (hv:(v0= .slice pl l.length cl∧v1= .slice ps m.length cs)∨(v1= .slice pl l.length cl∧v0= .slice ps m.length cs∧m.length<l.length))
   (hc:∀ k,k<l.length→∃ b off,pl=some ⟨b,off,none⟩∧b<w.heap.size∧w.cell? ⟨b,off+k,none⟩=some (.int .u32 (l.getD k 0:Nat)))
   (hd:∀ k,k<m.length→∃ b off,ps=some ⟨b,off,none⟩∧b<w.heap.size∧w.cell? ⟨b,off+k,none⟩=some (.int .u32 (m.getD k 0:Nat))) :
    Calls Tryz.prog 178 #[v0,v1] w fun e w'=>∃ s v,e= .returned v∧Below w.heap.size w w'∧jY w' v s∧dz 1000000000 s∧val 1000000000 s=val 1000000000 l+val 1000000000 m∧l.length≤s.length∧(l.length<s.length→Top s):=af7
theorem Dz (x y:Value) (a b:Nat) (w:World) (hx:aK w x a) (hy:aK w y b) (ha:sz 1000000000 a≤1099511627776) (hb:sz 1000000000 b≤1099511627776) :
  Calls Tryz.prog 178 #[x,y] w fun e w'=>∃ v,e= .returned v∧Below w.heap.size w w'∧aK w' v (a+b):=zs12
theorem zy (pl ps:Option Addr) (cl cs:Nat) (l m:List Nat) (w:World) (hl:dz 1000000000 l) (hmd:dz 1000000000 m) (hb1:l.length≤1099511627776) (hml:m.length≤l.length) (hle:val 1000000000 m≤val 1000000000 l)
   (hc:∀ k,k<l.length→∃ b off,pl=some ⟨b,off,none⟩∧b<w.heap.size∧w.cell? ⟨b,off+k,none⟩=some (.int .u32 (l.getD k 0:Nat)))
   (hd:∀ k,k<m.length→∃ b off,ps=some ⟨b,off,none⟩∧b<w.heap.size∧w.cell? ⟨b,off+k,none⟩=some (.int .u32 (m.getD k 0:Nat))) :
    Calls Tryz.prog 179 #[.slice pl l.length cl,.slice ps m.length cs] w fun e w'=>∃ v,e= .returned v∧Below w.heap.size w w'∧aK w' v (val 1000000000 l - val 1000000000 m):=af6
theorem zB (x y:Value) (a b:Nat) (w:World) (hx:aK w x a) (hy:aK w y b) (ha:sz 1000000000 a≤1099511627776) (hle:b≤a) :
  Calls Tryz.prog 179 #[x,y] w fun e w'=>∃ v,e= .returned v∧Below w.heap.size w w'∧aK w' v (a - b):=af5
theorem Li {x y:Nat} (hx:x<1000000000) (hy:y<1000000000):(0:Int)≤(x:Int)*(y:Int)∧(x:Int)*(y:Int)≤999999998000000001:=by
 have h:x*y≤999999999*999999999:=Nat.mul_le_mul zo zo;rw [← Int.natCast_mul];omega
theorem yQ (pl ps:Option Addr) (cl cs:Nat) (l m:List Nat) (w:World) (hl:dz 1000000000 l) (hmd:dz 1000000000 m) (hb1:l.length≤1099511627776) (hb2:m.length≤1099511627776)
   (hc:∀ k,k<l.length→∃ b off,pl=some ⟨b,off,none⟩∧b<w.heap.size∧w.cell? ⟨b,off+k,none⟩=some (.int .u32 (l.getD k 0:Nat)))
   (hd:∀ k,k<m.length→∃ b off,ps=some ⟨b,off,none⟩∧b<w.heap.size∧w.cell? ⟨b,off+k,none⟩=some (.int .u32 (m.getD k 0:Nat))) :
    Calls Tryz.prog 63 #[.slice pl l.length cl,.slice ps m.length cs] w fun e w'=>∃ v,e= .returned v∧Below w.heap.size w w'∧aK w' v (val 1000000000 l*val 1000000000 m):=af4
theorem iD (x y:Value) (a b:Nat) (w:World) (hx:aK w x a) (hy:aK w y b) (ha:sz 1000000000 a≤1099511627776) (hb:sz 1000000000 b≤1099511627776) :
  Calls Tryz.prog 63 #[x,y] w fun e w'=>∃ v,e= .returned v∧Below w.heap.size w w'∧aK w' v (a*b):=af3
theorem sU (pl:Option Addr) (cl:Nat) (l:List Nat) (d:Nat) (w:World) (hl:dz 1000000000 l) (hb1:l.length≤1099511627776) (hd0:0<d) (hd1:d≤1000000000)
   (hc:∀ k,k<l.length→∃ b off,pl=some ⟨b,off,none⟩∧b<w.heap.size∧w.cell? ⟨b,off+k,none⟩=some (.int .u32 (l.getD k 0:Nat))) :
    Calls Tryz.prog 173 #[.slice pl l.length cl,.int .u32 d] w fun e w'=>∃ v,e= .returned (.tuple #[v,.int .u32 (val 1000000000 l%d:Nat)])∧Below w.heap.size w w'∧aK w' v (val 1000000000 l / d):=af2
theorem yX (x:Value) (a d:Nat) (w:World) (hx:aK w x a) (ha:sz 1000000000 a≤1099511627776) (hd0:0<d) (hd1:d≤1000000000) :
  Calls Tryz.prog 173 #[x,.int .u32 d] w fun e w'=>∃ v,e= .returned (.tuple #[v,.int .u32 (a%d:Nat)])∧Below w.heap.size w w'∧aK w' v (a / d):=by
 obtain ⟨pa,ca,rfl,h1,h2,h3⟩:=jY.read hx.yw;have:=sU pa ca _ d w (aR zo a) ha hd0 hd1 h3
 rwa [aM zo] at this
theorem sS (pl:Option Addr) (cl:Nat) (l:List Nat) (w:World) (hm:l.length≤9223372036854775807) (hv:val 1000000000 l≤18446744073709551615)
   (hc:∀ k,k<l.length→∃ b off,pl=some ⟨b,off,none⟩∧b<w.heap.size∧w.cell? ⟨b,off+k,none⟩=some (.int .u32 (l.getD k 0:Nat))) :
    Calls Tryz.prog 170 #[.slice pl l.length cl] w fun e w'=>e= .returned (.int .u64 (val 1000000000 l:Nat))∧w=w':=af0
theorem yU (x:Value) (a:Nat) (w:World) (hx:aK w x a) (ha:a≤18446744073709551615) :
  Calls Tryz.prog 170 #[x] w fun e w'=>e= .returned (.int .u64 (a:Nat))∧w=w':=by
 obtain ⟨pa,ca,rfl,h1,h2,h3⟩:=jY.read hx.yw;have:=sS pa ca _ w zo (by rw [aM zo];exact ha) h3
 rwa [aM zo] at this
theorem lg (a:Nat) (w:World) (ha:a≤18446744073709551615) :
  Calls Tryz.prog 171 #[.int .u64 a] w fun e w'=>∃ v,e= .returned v∧Below w.heap.size w w'∧aK w' v a:=ae9
def vH (w:World) (g k:Nat) (pre u post v:List Nat) (e:Ending) (w':World):Prop :=
 e= .returned (.int .u32 (val 1000000000 u / val 1000000000 v:Nat))∧w.grownBy w' (some g) ∧
   ∃ s,au w' g (bH (pre++(s++[0])++post)).toArray 65∧s.length=k+2∧dz 1000000000 s∧val 1000000000 s=val 1000000000 u%val 1000000000 v
theorem wX (g j k cu:Nat) (pv:Option Addr) (cv:Nat) (pre u post v:List Nat) (w:World) (hj:pre.length=j) (hu:u.length=k+3) (hv:v.length=k+2) (du:dz 1000000000 u) (dv:dz 1000000000 v) (hk:k≤1099511627776)
  (ht:1000000000≤2*v.getD (k+1) 0) (hlt:val 1000000000 u<val 1000000000 v*1000000000) (ZV:au w g (bH (pre++u++post)).toArray 65)
  (hd:∀ i,i<k+2→∃ b off,pv=some ⟨b,off,none⟩∧b≠g∧b<w.heap.size∧w.cell? ⟨b,off+i,none⟩=some (.int .u32 (v.getD i 0:Nat))) :
  Calls Tryz.prog 174 #[.slice (some ⟨g,j,none⟩) (k+3) cu,.slice pv (k+2) cv] w (vH w g k pre u post v):=ae8
def lN (w:World) (q r:Nat) (e:Ending) (w':World):Prop:=∃ vq vr,e= .returned (.tuple #[vq,vr])∧Below w.heap.size w w'∧aK w' vq q∧aK w' vr r
theorem xB (x y:Value) (a b:Nat) (w:World) (hx:aK w x a) (hy:aK w y b) (h:a<b) :
  Calls Tryz.prog 118 #[x,y] w (lN w (a / b) (a%b)):=ae7
theorem uU (pa pb:Option Addr) (ca cb:Nat) (a b:Nat) (w:World) (hx:aK w (.slice pa (sz 1000000000 a) ca) a) (hy:aK w (.slice pb 1 cb) b) (hb0:0<b) (hb1:b<1000000000) (h:b≤a) (ha:sz 1000000000 a≤549755813888) :
  Calls Tryz.prog 118 #[.slice pa (sz 1000000000 a) ca,.slice pb 1 cb] w (lN w (a / b) (a%b)):=ae6
theorem xA (pa pb:Option Addr) (ca cb:Nat) (a b k:Nat) (w:World) (hx:aK w (.slice pa (sz 1000000000 a) ca) a) (hy:aK w (.slice pb (k+2) cb) b) (hsb:sz 1000000000 b=k+2) (h:b≤a) (ha:sz 1000000000 a≤549755813888) :
  Calls Tryz.prog 118 #[.slice pa (sz 1000000000 a) ca,.slice pb (k+2) cb] w (lN w (a / b) (a%b)):=ae5
theorem dR (x y:Value) (a b:Nat) (w:World) (hx:aK w x a) (hy:aK w y b) (hb:0<b) (ha:sz 1000000000 a≤549755813888) :
  Calls Tryz.prog 118 #[x,y] w (lN w (a / b) (a%b)):=ae4
end Go.Proofs.matrix
namespace Go.Proofs.matrix
open Go Go.RowKit Go.SW Go.Num Go.Mem Go.Proofs Go.Proofs.oO Go.Dec
theorem Jq (B b d wd:Nat) (l:List UInt8) (w:World) (h:OQ B b (Lib.byteCells l) w) (hB:B≤w.heap.size) (hw:wd≤9) (hd:d<1000000000) (hl:l.length≤140737488355000) (ht:Pow w) :
  Calls Tryz.prog 176 #[.int .u32 d,.int .i64 wd,.pointer (some ⟨b,0,none⟩)] w fun e w'=>e= .returned (.tuple #[])∧OQ B b (Lib.byteCells (l++(List.replicate (wd - (Lib.decDigits d).length) 48++Lib.decDigits d))) w'∧Below B w w':=ae3
def AZ (w:World) (n:Nat) (e:Ending) (w':World):Prop:=e= .returned (.string ⟨(Lib.decDigits n).toArray⟩)∧Below w.heap.size w w'
theorem oJ (x:Value) (a:Nat) (w:World) (hx:aK w x a) (ha:sz 1000000000 a≤1099511627776) (ht:Pow w) :
  Calls Tryz.prog 121 #[x] w (AZ w a):=ae2
theorem gH (x:Value) (a:Nat) (w:World) (hx:aK w x a) (ha:sz 1000000000 a≤1099511627776) (ht:Pow w) :
  Calls Tryz.prog 119 #[x] w (fun e w'=>e= .returned (.int .i64 ((Lib.decDigits a).length:Nat))∧Below w.heap.size w w'):=ae1
end Go.Proofs.matrix
namespace Go.Proofs.matrix
open Go Go.RowKit Go.SW Go.Num Go.Mem Go.Proofs Go.Dec
theorem Rt:(Tryz.prog.info? 65).map (fun i=>(i.zero,i.size,i.bytes))=some (some (.int .u32 0),1,4):=by kernel_rfl
theorem rJ (s:ByteArray) (hs:s.size≤1099511627776) (hd:nJ s.data.toList) (w:World) :
  Calls Tryz.prog 183 #[.string s] w (fun e w'=>∃ v,e= .returned v∧Below w.heap.size w w'∧aK w' v (num s.data.toList)):=zs3
end Go.Proofs.matrix
namespace Go.Proofs.matrix
open Go Go.RowKit Go.SW Go.Num Go.Mem Go.Proofs
theorem aK.inj {w:World} {v:Value} {m n:Nat} (h:aK w v m) (k:aK w v n):m=n:=ae0
open Classical in
noncomputable def Ck (w:World) (v:Value):Nat:=if h:∃ n,aK w v n then h.choose else 0
theorem zC {w:World} {v:Value} {n:Nat} (h:aK w v n):Ck w v=n:=by
 unfold Ck;rw [dif_pos ⟨n,h⟩];exact aK.inj (Exists.choose_spec (⟨n,h⟩:∃ n,aK w v n)) h
theorem qP (x y:Value) (a b:Nat) (w:World) (hx:aK w x a) (hy:aK w y b) (ha:sz 1000000000 a≤549755813888) (hb:sz 1000000000 b≤549755813888) :
  Calls Tryz.prog 117 #[x,y] w (fun e w'=>∃ v,e= .returned v∧Below w.heap.size w w'∧aK w' v (Nat.gcd a b)):=ad9
end Go.Proofs.matrix
