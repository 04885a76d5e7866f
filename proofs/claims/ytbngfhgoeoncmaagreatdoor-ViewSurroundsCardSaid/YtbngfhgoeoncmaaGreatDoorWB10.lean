/- Lemmas for the proof. No condition. -/
import Derived.Test.YtbngfhgoeoncmaaGreatDoorWB05
import Derived.Test.YtbngfhgoeoncmaaGreatDoorWB07
import Derived.RangeFuncLeaves
import Derived.Shelf.Abstract
import Derived.OwnWalkIn
import Derived.TacticsInMore
import Derived.LoopNIn
import Derived.LoopIn
set_option linter.unusedVariables false
set_option linter.unusedSimpArgs false
set_option maxRecDepth 100000
set_option maxHeartbeats 16000000
open Go.Ending renaming returned → aj
open Go.IntKind renaming i64 → I
open Go.Value renaming bool → ak, int → Z, pointer → ay, slice → ah, string → O, tuple → aD
open List renaming cons_append → bP, length_cons → aV, replicate → bJ
open Nat renaming le_refl → aC, le_trans → au, lt_of_lt_of_le → aP, mul_le_mul → fq
namespace Go.Proofs.matrix
open Go Go.RowKit Go.Shelf Go.SW Go.Num Go.Mem Go.Proofs Go.Dec Go.fG
attribute [local go_sem] Oper.semAt_some
def enc (rs:List Value) (k:Fin rs.length):Array Value:=#[Z I (k.1:Int),rs[k.1]]
def upto {n:Nat} (k:Nat) (h:k≤n):List (Fin n):=List.ofFn (n:=k) fun i=>⟨i.1,aP i.2 h⟩
theorem sU {n k:Nat} (h:k+1≤n):upto (k+1) h=upto k zo++[⟨k,h⟩]:=by
 unfold upto;rw [List.ofFn_succ_last];rfl
theorem kK {n k:Nat} (h:k≤n):(upto k h).length=k:=by simp [upto]
theorem RV (F:Fence) (n:Nat) (hf:F.fn 264) (hro:F.round=none) (hn:1≤n) (l Bs n₀ b off len cap:Nat) (rs:List Value) (hlen:rs.length=len) (hm:len≤9223372036854775807) (hb:b<n₀) (J Jx:List (Fin rs.length)→World→Prop)
  (hY:∀ pre x W,J pre W→pre.length<rs.length→YieldAt F (n - 1) Tryz.prog l (enc rs x) W fun e W' =>
   (e= aj (ak true)∧J (pre++[x]) W'∧Below n₀ W W')∨(e= aj (ak false)∧Jx (pre++[x]) W'))
  (W:World) (hBs:W.cell? ⟨Bs,0,none⟩=some (.slice (some ⟨b,off,none⟩) len cap)) (hc:∀ j (h:j<rs.length),W.cell? ⟨b,off+j,none⟩=some rs[j]) (h0:J [] W) :
  CallsIn F n Tryz.prog 264 #[.func (.yield l) #[] #[],ay (some ⟨Bs,0,none⟩)] W fun e W'=>(∃ v,e= aj v) ∧
   ((∃ ys,ys=upto rs.length (aC _)∧J ys W')∨(∃ pre,True∧Jx pre W')):=by
 refine callsIn_of_wp Tryz.func264 rfl hf ?_ hro;simp only [Tryz.ntmps264,List.size_toArray,aV,List.length_nil,Nat.reduceAdd,Nat.reduceSub,Array.replicate_succ,Array.replicate_zero,List.push_toArray,List.append_toArray,List.nil_append,bP]
 gi_wp2
 gi_loopw [7] (fun i wr=>∃ (k:Nat) (hk:k≤rs.length),i= Z I k∧J (upto k hk) wr∧Below n₀ W wr)
  (fun i _=>len - (intOf i).toNat)
 case atStart=>exact ⟨0,Nat.zero_le _,rfl,h0,Below.refl _ _⟩
 case round =>
  obtain ⟨k,hk,rfl,hJs,hnx⟩:=hrel
  by_cases hlt:k<rs.length
  ·have hcx:=(hnx.cell (p:=⟨b,off+k,none⟩) hb).trans (hc k hlt);obtain ⟨fn,tmps,assign,body,hy,hR⟩:=hY _ ⟨k,hlt⟩ wr hJs (by rw [kK];exact hlt);unfold enc at hy
   dsimp only at hy
   have hlt2:k<len:=by omega
   clear hc hY hlen;generalize rs[k]=rk at *
   gi_wp2
   refine hR.mono ?_;rintro e W3 (⟨rfl,hJ3,hk3⟩|⟨rfl,hJx3⟩)
   ·gi_wp2
    go_roundw
    case rel=>exact ⟨k+1,hlt,by simp,by rw [sU];exact hJ3,hnx.trans hk3⟩
    case measure=>exact zM
   ·gi_wp2
    refine bodyPost_ret (results_none rfl _ _ _) rfl ?_;exact ⟨⟨_,rfl⟩,.inr ⟨_,trivial,hJx3⟩⟩
  ·obtain rfl:k=rs.length:=by omega
   have hge:¬ rs.length<len:=by omega
   clear hc hY;have bi9:decide ((rs.length:Int)<(len:Int))=false:=by simp;omega
   gi_wp2
   go_end0
   exact ⟨⟨_,rfl⟩,.inl ⟨_,rfl,hJs⟩⟩
theorem GN (F:Fence) (n:Nat) (hf:F.fn 264) (hro:F.round=none) (l Bs:Nat) (J:World→Prop) (W:World) (hBs:W.cell? ⟨Bs,0,none⟩=some (.slice none 0 0)) (h0:J W) :
  CallsIn F n Tryz.prog 264 #[.func (.yield l) #[] #[],ay (some ⟨Bs,0,none⟩)] W fun e W'=>(∃ v,e= aj v)∧J W':=by
 refine callsIn_of_wp Tryz.func264 rfl hf ?_ hro;simp only [Tryz.ntmps264,List.size_toArray,aV,List.length_nil,Nat.reduceAdd,Nat.reduceSub,Array.replicate_succ,Array.replicate_zero,List.push_toArray,List.append_toArray,List.nil_append,bP]
 gi_wp2
 gi_loopw [7] (fun i wr=>i= Z I 0∧J wr) (fun _ _=>0)
 case atStart=>exact ⟨rfl,h0⟩
 case round =>
  obtain ⟨rfl,hJs⟩:=hrel
  gi_wp2
  go_end0
  exact ⟨⟨_,rfl⟩,hJs⟩
theorem Lf (F:Fence) (n:Nat) (hf:F.fn 197) (hro:F.round=none) (a:Option Addr) (len cap:Nat) (w:World) :
  CallsIn F n Tryz.prog 197 #[ah a len cap] w fun e w'=>e= aj (.func (.func 264) #[] #[ay (some ⟨w.heap.size,0,none⟩)])∧w'=w.alloc (.cells #[ah a len cap] 126):=by
 refine callsIn_of_wp Tryz.func197 rfl hf ?_ hro;simp only [Tryz.ntmps197,List.size_toArray,aV,List.length_nil,Nat.reduceAdd,Nat.reduceSub,Array.replicate_succ,Array.replicate_zero,List.push_toArray,List.append_toArray,List.nil_append,bP]
 gi_wp2
 go_ret
 exact ⟨rfl,rfl⟩
theorem BJ (F:Fence) (n:Nat) (hf:F.fn 264) (hro:F.round=none) (hn:1≤n) (Bs n₀:Nat) (sv:Value) (rs:List Value) (w0 w:World) (hBs:Bs<w.heap.size) (hn₀:n₀≤w.heap.size)
  (hc:w.cell? ⟨Bs,0,none⟩=some sv) (hR:Row w0 130 sv rs) (h0:w0.heap.size≤n₀) (hb:Bw w0 w) :
  SeqStopsK F n Tryz.prog 264 #[ay (some ⟨Bs,0,none⟩)] (enc rs) (Below n₀) (fun ys=>ys=upto rs.length (aC _)) (fun _=>True) rs.length w:=fun l J Jx W hW _ _ hY hJ0=>by
 have hc':=(hW.cell (p:=⟨Bs,0,none⟩) hBs).trans hc;have hR':=hR.later (hb.trans (hW.mono (au h0 hn₀)))
 rcases hR.cases with ⟨rfl,rfl⟩|⟨b,off,cap,arr,rfl,h1,h2,h3,h4⟩
 ·exact (GN F n hf hro l Bs (J []) W hc' hJ0).mono fun e W' ⟨he,hj⟩=>⟨he,.inl ⟨_,rfl,hj⟩⟩
 ·have hx:aA W b arr 130:=h3.later (hb.trans (hW.mono (au h0 hn₀)));exact RV F n hf hro hn l Bs n₀ b off rs.length cap rs rfl zo (aP h3.lt h0) J Jx hY W hc' (fun j hj=>(hx.cell _).trans (h4 j hj)) hJ0
end Go.Proofs.matrix
namespace Go.Proofs.matrix
open Go Go.RowKit Go.SW Go.Num Go.Mem Go.Proofs
theorem AY (b off c:Nat) (l:List Nat) (w:World) (hl:l.length≤c) (hm:c≤9223372036854775807)
   (hc:∀ k,k<l.length→w.cell? ⟨b,off+k,none⟩=some (.int .u32 (l.getD k 0:Nat))) :
    Calls Tryz.prog 212 #[ah (some ⟨b,off,none⟩) l.length c] w fun e w'=>e= aj (ah (some ⟨b,off,none⟩) (trimLen l l.length) c)∧w=w':=zs1
theorem Dx (w:World):Calls Tryz.prog 212 #[ah none 0 0] w fun e w'=>e= aj (ah none 0 0)∧w=w':=by
 go_enter Tryz.func212,Tryz.ntmps212
 go_wp2
 refine wp_loop_rounds 1 ?_;rw [rounds_succ]
 go_wp2
 go_ret
 exact ⟨rfl,rfl⟩
theorem qb (v:Value) (l:List Nat) (w:World) (h:nR w v l) (hd:fV 1000000000 l) :
  Calls Tryz.prog 212 #[v] w fun e w'=>∃ v',e= aj v'∧w=w'∧aZ w v' (val 1000000000 l):=zs2
theorem iI (v:Value) (n:Nat) (w:World) (h:aZ w v n) :
  Calls Tryz.prog 211 #[v] w fun e w'=>e= aj (ak (decide (n=0)))∧w=w':=zs4
def sQ (a b:Nat):Int:=if a<b then -1 else if b<a then 1 else 0
theorem qH {a b:Nat} (h:a<b):sQ a b= -1:=if_pos h
theorem pK {a b:Nat} (h:b<a):sQ a b=1:=by unfold sQ;rw [if_neg zo,if_pos h]
theorem rY (a:Nat):sQ a a=0:=by unfold sQ;simp
theorem Ki (a b:Nat) (w:World):Calls Tryz.prog 230 #[Z I a,Z I b] w fun e w'=>e= aj (Z I (sQ a b))∧w=w':=zs5
theorem Kh (a b:Nat) (w:World):Calls Tryz.prog 231 #[Z .u32 a,Z .u32 b] w fun e w'=>e= aj (Z I (sQ a b))∧w=w':=zs6
theorem wQ (a b:Option Addr) (m n c d:Nat) (w:World) (h:m≠n) :
  Calls Tryz.prog 266 #[ah a m c,ah b n d] w fun e w'=>e= aj (Z I (sQ m n))∧w=w':=zs7
theorem uV (pa pb:Option Addr) (ca cb:Nat) (l m:List Nat) (w:World) (hlen:l.length=m.length) (hm:l.length≤9223372036854775807) (hl:fV 1000000000 l) (hmd:fV 1000000000 m)
   (hc:∀ k,k<l.length→∃ b off,pa=some ⟨b,off,none⟩∧b<w.heap.size∧w.cell? ⟨b,off+k,none⟩=some (.int .u32 (l.getD k 0:Nat)))
   (hd:∀ k,k<m.length→∃ b off,pb=some ⟨b,off,none⟩∧b<w.heap.size∧w.cell? ⟨b,off+k,none⟩=some (.int .u32 (m.getD k 0:Nat))) :
    Calls Tryz.prog 266 #[ah pa l.length ca,ah pb m.length cb] w fun e w'=>e= aj (Z I (sQ (val 1000000000 l) (val 1000000000 m)))∧Bw w w':=zs8
theorem jT (x y:Value) (a b:Nat) (w:World) (hx:aZ w x a) (hy:aZ w y b) :
  Calls Tryz.prog 266 #[x,y] w fun e w'=>e= aj (Z I (sQ a b))∧Bw w w':=zs9
theorem Aa:(Tryz.prog.info? 22).map (fun i=>(i.zero,i.size,i.bytes))=some (some (.int .u32 0),1,4):=by kernel_rfl
theorem xA {B:Nat} {l m s:List Nat} {k c d c':Nat} (hk:k<l.length) (hs:s.length=k) (he:val B s+c*B^k=val B (l.take k)+val B (m.take k)) (h:d+c'*B=l.getD k 0+c+m.getD k 0) :
  val B (s++[d])+c'*B^(k+1)=val B (l.take (k+1))+val B (m.take (k+1)):=aj9
theorem xw (pl ps:Option Addr) (cl cs:Nat) (l m:List Nat) (v0 v1:Value) (w:World) (hl:fV 1000000000 l) (hmd:fV 1000000000 m) (hb1:l.length≤1099511627776) (hml:m.length≤l.length)
   (hv:(v0= ah pl l.length cl∧v1= ah ps m.length cs)∨(v1= ah pl l.length cl∧v0= ah ps m.length cs∧m.length<l.length))
   (hc:∀ k,k<l.length→∃ b off,pl=some ⟨b,off,none⟩∧b<w.heap.size∧w.cell? ⟨b,off+k,none⟩=some (.int .u32 (l.getD k 0:Nat)))
   (hd:∀ k,k<m.length→∃ b off,ps=some ⟨b,off,none⟩∧b<w.heap.size∧w.cell? ⟨b,off+k,none⟩=some (.int .u32 (m.getD k 0:Nat))) :
    Calls Tryz.prog 272 #[v0,v1] w fun e w'=>∃ s v,e= aj v∧Bw w w'∧nR w' v s∧fV 1000000000 s∧val 1000000000 s=val 1000000000 l+val 1000000000 m∧l.length≤s.length∧(l.length<s.length→Top s):=aj8
theorem zL (x y:Value) (a b:Nat) (w:World) (hx:aZ w x a) (hy:aZ w y b) (ha:sz 1000000000 a≤1099511627776) (hb:sz 1000000000 b≤1099511627776) :
  Calls Tryz.prog 272 #[x,y] w fun e w'=>∃ v,e= aj v∧Bw w w'∧aZ w' v (a+b):=zs12
theorem Fg (pl ps:Option Addr) (cl cs:Nat) (l m:List Nat) (w:World) (hl:fV 1000000000 l) (hmd:fV 1000000000 m) (hb1:l.length≤1099511627776) (hml:m.length≤l.length) (hle:val 1000000000 m≤val 1000000000 l)
   (hc:∀ k,k<l.length→∃ b off,pl=some ⟨b,off,none⟩∧b<w.heap.size∧w.cell? ⟨b,off+k,none⟩=some (.int .u32 (l.getD k 0:Nat)))
   (hd:∀ k,k<m.length→∃ b off,ps=some ⟨b,off,none⟩∧b<w.heap.size∧w.cell? ⟨b,off+k,none⟩=some (.int .u32 (m.getD k 0:Nat))) :
    Calls Tryz.prog 273 #[ah pl l.length cl,ah ps m.length cs] w fun e w'=>∃ v,e= aj v∧Bw w w'∧aZ w' v (val 1000000000 l - val 1000000000 m):=aB4
theorem Fj (x y:Value) (a b:Nat) (w:World) (hx:aZ w x a) (hy:aZ w y b) (ha:sz 1000000000 a≤1099511627776) (hle:b≤a) :
  Calls Tryz.prog 273 #[x,y] w fun e w'=>∃ v,e= aj v∧Bw w w'∧aZ w' v (a - b):=aB3
theorem JG {x y:Nat} (hx:x<1000000000) (hy:y<1000000000):(0:Int)≤(x:Int)*(y:Int)∧(x:Int)*(y:Int)≤999999998000000001:=by
 have h:x*y≤999999999*999999999:=fq zo zo;rw [← Int.natCast_mul];omega
theorem yA (pl ps:Option Addr) (cl cs:Nat) (l m:List Nat) (w:World) (hl:fV 1000000000 l) (hmd:fV 1000000000 m) (hb1:l.length≤1099511627776) (hb2:m.length≤1099511627776)
   (hc:∀ k,k<l.length→∃ b off,pl=some ⟨b,off,none⟩∧b<w.heap.size∧w.cell? ⟨b,off+k,none⟩=some (.int .u32 (l.getD k 0:Nat)))
   (hd:∀ k,k<m.length→∃ b off,ps=some ⟨b,off,none⟩∧b<w.heap.size∧w.cell? ⟨b,off+k,none⟩=some (.int .u32 (m.getD k 0:Nat))) :
    Calls Tryz.prog 136 #[ah pl l.length cl,ah ps m.length cs] w fun e w'=>∃ v,e= aj v∧Bw w w'∧aZ w' v (val 1000000000 l*val 1000000000 m):=aj7
theorem jB (x y:Value) (a b:Nat) (w:World) (hx:aZ w x a) (hy:aZ w y b) (ha:sz 1000000000 a≤1099511627776) (hb:sz 1000000000 b≤1099511627776) :
  Calls Tryz.prog 136 #[x,y] w fun e w'=>∃ v,e= aj v∧Bw w w'∧aZ w' v (a*b):=aj6
theorem qG (pl:Option Addr) (cl:Nat) (l:List Nat) (d:Nat) (w:World) (hl:fV 1000000000 l) (hb1:l.length≤1099511627776) (hd0:0<d) (hd1:d≤1000000000)
   (hc:∀ k,k<l.length→∃ b off,pl=some ⟨b,off,none⟩∧b<w.heap.size∧w.cell? ⟨b,off+k,none⟩=some (.int .u32 (l.getD k 0:Nat))) :
    Calls Tryz.prog 267 #[ah pl l.length cl,Z .u32 d] w fun e w'=>∃ v,e= aj (aD #[v,Z .u32 (val 1000000000 l%d:Nat)])∧Bw w w'∧aZ w' v (val 1000000000 l / d):=aj5
theorem vP (x:Value) (a d:Nat) (w:World) (hx:aZ w x a) (ha:sz 1000000000 a≤1099511627776) (hd0:0<d) (hd1:d≤1000000000) :
  Calls Tryz.prog 267 #[x,Z .u32 d] w fun e w'=>∃ v,e= aj (aD #[v,Z .u32 (a%d:Nat)])∧Bw w w'∧aZ w' v (a / d):=by
 obtain ⟨pa,ca,rfl,h1,h2,h3⟩:=nR.read hx.Cv;have:=qG pa ca _ d w (dw zo a) ha hd0 hd1 h3
 rwa [bN zo] at this
theorem yH (pl:Option Addr) (cl:Nat) (l:List Nat) (w:World) (hm:l.length≤9223372036854775807) (hv:val 1000000000 l≤18446744073709551615)
   (hc:∀ k,k<l.length→∃ b off,pl=some ⟨b,off,none⟩∧b<w.heap.size∧w.cell? ⟨b,off+k,none⟩=some (.int .u32 (l.getD k 0:Nat))) :
    Calls Tryz.prog 270 #[ah pl l.length cl] w fun e w'=>e= aj (Z .u64 (val 1000000000 l:Nat))∧w=w':=aB2
theorem DL (x:Value) (a:Nat) (w:World) (hx:aZ w x a) (ha:a≤18446744073709551615) :
  Calls Tryz.prog 270 #[x] w fun e w'=>e= aj (Z .u64 (a:Nat))∧w=w':=by
 obtain ⟨pa,ca,rfl,h1,h2,h3⟩:=nR.read hx.Cv;have:=yH pa ca _ w zo (by rw [bN zo];exact ha) h3
 rwa [bN zo] at this
theorem mM (a:Nat) (w:World) (ha:a≤18446744073709551615) :
  Calls Tryz.prog 268 #[Z .u64 a] w fun e w'=>∃ v,e= aj v∧Bw w w'∧aZ w' v a:=aj4
def u7 (w:World) (g k:Nat) (pre u post v:List Nat) (e:Ending) (w':World):Prop :=
 e= aj (Z .u32 (val 1000000000 u / val 1000000000 v:Nat))∧w.grownBy w' (some g) ∧
   ∃ s,aA w' g (dX (pre++(s++[0])++post)).toArray 22∧s.length=k+2∧fV 1000000000 s∧val 1000000000 s=val 1000000000 u%val 1000000000 v
theorem vV (g j k cu:Nat) (pv:Option Addr) (cv:Nat) (pre u post v:List Nat) (w:World) (hj:pre.length=j) (hu:u.length=k+3) (hv:v.length=k+2) (du:fV 1000000000 u) (dv:fV 1000000000 v) (hk:k≤1099511627776)
  (ht:1000000000≤2*v.getD (k+1) 0) (hlt:val 1000000000 u<val 1000000000 v*1000000000) (ZU:aA w g (dX (pre++u++post)).toArray 22)
  (hd:∀ i,i<k+2→∃ b off,pv=some ⟨b,off,none⟩∧b≠g∧b<w.heap.size∧w.cell? ⟨b,off+i,none⟩=some (.int .u32 (v.getD i 0:Nat))) :
  Calls Tryz.prog 269 #[ah (some ⟨g,j,none⟩) (k+3) cu,ah pv (k+2) cv] w (u7 w g k pre u post v):=aj3
def kT (w:World) (q r:Nat) (e:Ending) (w':World):Prop:=∃ vq vr,e= aj (aD #[vq,vr])∧Bw w w'∧aZ w' vq q∧aZ w' vr r
theorem wL (x y:Value) (a b:Nat) (w:World) (hx:aZ w x a) (hy:aZ w y b) (h:a<b) :
  Calls Tryz.prog 200 #[x,y] w (kT w (a / b) (a%b)):=aj2
theorem uR (pa pb:Option Addr) (ca cb:Nat) (a b:Nat) (w:World) (hx:aZ w (ah pa (sz 1000000000 a) ca) a) (hy:aZ w (ah pb 1 cb) b) (hb0:0<b) (hb1:b<1000000000) (h:b≤a) (ha:sz 1000000000 a≤549755813888) :
  Calls Tryz.prog 200 #[ah pa (sz 1000000000 a) ca,ah pb 1 cb] w (kT w (a / b) (a%b)):=aj1
theorem wK (pa pb:Option Addr) (ca cb:Nat) (a b k:Nat) (w:World) (hx:aZ w (ah pa (sz 1000000000 a) ca) a) (hy:aZ w (ah pb (k+2) cb) b) (hsb:sz 1000000000 b=k+2) (h:b≤a) (ha:sz 1000000000 a≤549755813888) :
  Calls Tryz.prog 200 #[ah pa (sz 1000000000 a) ca,ah pb (k+2) cb] w (kT w (a / b) (a%b)):=aj0
theorem eZ (x y:Value) (a b:Nat) (w:World) (hx:aZ w x a) (hy:aZ w y b) (hb:0<b) (ha:sz 1000000000 a≤549755813888) :
  Calls Tryz.prog 200 #[x,y] w (kT w (a / b) (a%b)):=ai9
end Go.Proofs.matrix
namespace Go.Proofs.matrix
open Go Go.RowKit Go.SW Go.Num Go.Mem Go.Proofs Go.Proofs.ko Go.Dec
theorem JE (B b d wd:Nat) (l:List UInt8) (w:World) (h:P8 B b (Lib.byteCells l) w) (hB:B≤w.heap.size) (hw:wd≤9) (hd:d<1000000000) (hl:l.length≤140737488355000) (ht:Pow w) :
  Calls Tryz.prog 271 #[Z .u32 d,Z I wd,ay (some ⟨b,0,none⟩)] w fun e w'=>e= aj (aD #[])∧P8 B b (Lib.byteCells (l++(bJ (wd - (Lib.decDigits d).length) 48++Lib.decDigits d))) w'∧Below B w w':=ai8
def wT (w:World) (n:Nat) (e:Ending) (w':World):Prop:=e= aj (O ⟨(Lib.decDigits n).toArray⟩)∧Bw w w'
theorem oG (x:Value) (a:Nat) (w:World) (hx:aZ w x a) (ha:sz 1000000000 a≤1099511627776) (ht:Pow w) :
  Calls Tryz.prog 205 #[x] w (wT w a):=ai7
theorem iW (x:Value) (a:Nat) (w:World) (hx:aZ w x a) (ha:sz 1000000000 a≤1099511627776) (ht:Pow w) :
  Calls Tryz.prog 203 #[x] w (fun e w'=>e= aj (Z I ((Lib.decDigits a).length:Nat))∧Bw w w'):=ai6
end Go.Proofs.matrix
namespace Go.Proofs.matrix
open Go Go.RowKit Go.SW Go.Num Go.Mem Go.Proofs Go.Dec
theorem Wd:(Tryz.prog.info? 22).map (fun i=>(i.zero,i.size,i.bytes))=some (some (.int .u32 0),1,4):=by kernel_rfl
theorem tN (s:ByteArray) (hs:s.size≤1099511627776) (hd:rA s.data.toList) (w:World) :
  Calls Tryz.prog 265 #[O s] w (fun e w'=>∃ v,e= aj v∧Bw w w'∧aZ w' v (num s.data.toList)):=zs3
end Go.Proofs.matrix
namespace Go.Proofs.matrix
open Go Go.RowKit Go.SW Go.Num Go.Mem Go.Proofs
theorem aZ.inj {w:World} {v:Value} {m n:Nat} (h:aZ w v m) (k:aZ w v n):m=n:=ai5
open Classical in
noncomputable def yg (w:World) (v:Value):Nat:=if h:∃ n,aZ w v n then h.choose else 0
theorem tH {w:World} {v:Value} {n:Nat} (h:aZ w v n):yg w v=n:=by
 unfold yg;rw [dif_pos ⟨n,h⟩];exact aZ.inj (Exists.choose_spec (⟨n,h⟩:∃ n,aZ w v n)) h
theorem pR (x y:Value) (a b:Nat) (w:World) (hx:aZ w x a) (hy:aZ w y b) (ha:sz 1000000000 a≤549755813888) (hb:sz 1000000000 b≤549755813888) :
  Calls Tryz.prog 202 #[x,y] w (fun e w'=>∃ v,e= aj v∧Bw w w'∧aZ w' v (Nat.gcd a b)):=aB1
end Go.Proofs.matrix
