/- Lemmas for the proof. No condition. -/
import Derived.Test.YtbngfhgoeoncmaaGreatDoorTB13
import Derived.Test.YtbngfhgoeoncmaaGreatDoorTB19
import Derived.RangeFuncLeaves
import Derived.Shelf.Abstract
import Derived.OwnWalkIn
import Derived.TacticsInMore
import Derived.LoopNIn
import Derived.LoopIn
set_option linter.unusedVariables false
set_option linter.unusedSimpArgs false
set_option maxRecDepth 100000
set_option maxHeartbeats 16000000
open Go.Ending renaming returned → ah
open Go.IntKind renaming i64 → I
open Go.Value renaming bool → aC, int → Z, pointer → au, slice → aj, string → O, tuple → aF
open List renaming cons_append → bB, length_cons → aV, replicate → bP
open Nat renaming le_refl → aG, le_trans → ay, lt_of_lt_of_le → aP, mul_le_mul → dU
namespace Go.Proofs.matrix
open Go Go.RowKit Go.Shelf Go.SW Go.Num Go.Mem Go.Proofs Go.Dec Go.d9
attribute [local go_sem] Oper.semAt_some
def enc (rs:List Value) (k:Fin rs.length):Array Value:=#[Z I (k.1:Int),rs[k.1]]
def upto {n:Nat} (k:Nat) (h:k≤n):List (Fin n):=List.ofFn (n:=k) fun i=>⟨i.1,aP i.2 h⟩
theorem oQ {n k:Nat} (h:k+1≤n):upto (k+1) h=upto k zo++[⟨k,h⟩]:=by
 unfold upto;rw [List.ofFn_succ_last];rfl
theorem jd {n k:Nat} (h:k≤n):(upto k h).length=k:=by simp [upto]
theorem Li (F:Fence) (n:Nat) (hf:F.fn 264) (hro:F.round=none) (hn:1≤n) (l Bs n₀ b off len cap:Nat) (rs:List Value) (hlen:rs.length=len) (hm:len≤9223372036854775807) (hb:b<n₀) (J Jx:List (Fin rs.length)→World→Prop)
  (hY:∀ pre x W,J pre W→pre.length<rs.length→YieldAt F (n - 1) Tryz.prog l (enc rs x) W fun e W' =>
   (e= ah (aC true)∧J (pre++[x]) W'∧Below n₀ W W')∨(e= ah (aC false)∧Jx (pre++[x]) W'))
  (W:World) (hBs:W.cell? ⟨Bs,0,none⟩=some (.slice (some ⟨b,off,none⟩) len cap)) (hc:∀ j (h:j<rs.length),W.cell? ⟨b,off+j,none⟩=some rs[j]) (h0:J [] W) :
  CallsIn F n Tryz.prog 264 #[.func (.yield l) #[] #[],au (some ⟨Bs,0,none⟩)] W fun e W'=>(∃ v,e= ah v) ∧
   ((∃ ys,ys=upto rs.length (aG _)∧J ys W')∨(∃ pre,True∧Jx pre W')):=by
 refine callsIn_of_wp Tryz.func264 rfl hf ?_ hro;simp only [Tryz.ntmps264,List.size_toArray,aV,List.length_nil,Nat.reduceAdd,Nat.reduceSub,Array.replicate_succ,Array.replicate_zero,List.push_toArray,List.append_toArray,List.nil_append,bB]
 gi_wp2
 gi_loopw [7] (fun i wr=>∃ (k:Nat) (hk:k≤rs.length),i= Z I k∧J (upto k hk) wr∧Below n₀ W wr)
  (fun i _=>len - (intOf i).toNat)
 case atStart=>exact ⟨0,Nat.zero_le _,rfl,h0,Below.refl _ _⟩
 case round =>
  obtain ⟨k,hk,rfl,hJs,hnx⟩:=hrel
  by_cases hlt:k<rs.length
  ·have hcx:=(hnx.cell (p:=⟨b,off+k,none⟩) hb).trans (hc k hlt);obtain ⟨fn,tmps,assign,body,hy,hR⟩:=hY _ ⟨k,hlt⟩ wr hJs (by rw [jd];exact hlt);unfold enc at hy
   dsimp only at hy
   have hlt2:k<len:=by omega
   clear hc hY hlen;generalize rs[k]=rk at *
   gi_wp2
   refine hR.mono ?_;rintro e W3 (⟨rfl,hJ3,hk3⟩|⟨rfl,hJx3⟩)
   ·gi_wp2
    go_roundw
    case rel=>exact ⟨k+1,hlt,by simp,by rw [oQ];exact hJ3,hnx.trans hk3⟩
    case measure=>exact zM
   ·gi_wp2
    refine bodyPost_ret (results_none rfl _ _ _) rfl ?_;exact ⟨⟨_,rfl⟩,.inr ⟨_,trivial,hJx3⟩⟩
  ·obtain rfl:k=rs.length:=by omega
   have hge:¬ rs.length<len:=by omega
   clear hc hY;have aw8:decide ((rs.length:Int)<(len:Int))=false:=by simp;omega
   gi_wp2
   go_end0
   exact ⟨⟨_,rfl⟩,.inl ⟨_,rfl,hJs⟩⟩
theorem A8 (F:Fence) (n:Nat) (hf:F.fn 264) (hro:F.round=none) (l Bs:Nat) (J:World→Prop) (W:World) (hBs:W.cell? ⟨Bs,0,none⟩=some (.slice none 0 0)) (h0:J W) :
  CallsIn F n Tryz.prog 264 #[.func (.yield l) #[] #[],au (some ⟨Bs,0,none⟩)] W fun e W'=>(∃ v,e= ah v)∧J W':=by
 refine callsIn_of_wp Tryz.func264 rfl hf ?_ hro;simp only [Tryz.ntmps264,List.size_toArray,aV,List.length_nil,Nat.reduceAdd,Nat.reduceSub,Array.replicate_succ,Array.replicate_zero,List.push_toArray,List.append_toArray,List.nil_append,bB]
 gi_wp2
 gi_loopw [7] (fun i wr=>i= Z I 0∧J wr) (fun _ _=>0)
 case atStart=>exact ⟨rfl,h0⟩
 case round =>
  obtain ⟨rfl,hJs⟩:=hrel
  gi_wp2
  go_end0
  exact ⟨⟨_,rfl⟩,hJs⟩
theorem EB (F:Fence) (n:Nat) (hf:F.fn 197) (hro:F.round=none) (a:Option Addr) (len cap:Nat) (w:World) :
  CallsIn F n Tryz.prog 197 #[aj a len cap] w fun e w'=>e= ah (.func (.func 264) #[] #[au (some ⟨w.heap.size,0,none⟩)])∧w'=w.alloc (.cells #[aj a len cap] 126):=by
 refine callsIn_of_wp Tryz.func197 rfl hf ?_ hro;simp only [Tryz.ntmps197,List.size_toArray,aV,List.length_nil,Nat.reduceAdd,Nat.reduceSub,Array.replicate_succ,Array.replicate_zero,List.push_toArray,List.append_toArray,List.nil_append,bB]
 gi_wp2
 go_ret
 exact ⟨rfl,rfl⟩
theorem wD (F:Fence) (n:Nat) (hf:F.fn 264) (hro:F.round=none) (hn:1≤n) (Bs n₀:Nat) (sv:Value) (rs:List Value) (w0 w:World) (hBs:Bs<w.heap.size) (hn₀:n₀≤w.heap.size)
  (hc:w.cell? ⟨Bs,0,none⟩=some sv) (hR:Row w0 130 sv rs) (h0:w0.heap.size≤n₀) (hb:Below w0.heap.size w0 w) :
  SeqStopsK F n Tryz.prog 264 #[au (some ⟨Bs,0,none⟩)] (enc rs) (Below n₀) (fun ys=>ys=upto rs.length (aG _)) (fun _=>True) rs.length w:=fun l J Jx W hW _ _ hY hJ0=>by
 have hc':=(hW.cell (p:=⟨Bs,0,none⟩) hBs).trans hc;have hR':=hR.later (hb.trans (hW.mono (ay h0 hn₀)))
 rcases hR.cases with ⟨rfl,rfl⟩|⟨b,off,cap,arr,rfl,h1,h2,h3,h4⟩
 ·exact (A8 F n hf hro l Bs (J []) W hc' hJ0).mono fun e W' ⟨he,hj⟩=>⟨he,.inl ⟨_,rfl,hj⟩⟩
 ·have hx:aA W b arr 130:=h3.later (hb.trans (hW.mono (ay h0 hn₀)));exact Li F n hf hro hn l Bs n₀ b off rs.length cap rs rfl zo (aP h3.lt h0) J Jx hY W hc' (fun j hj=>(hx.cell _).trans (h4 j hj)) hJ0
end Go.Proofs.matrix
namespace Go.Proofs.matrix
open Go Go.RowKit Go.SW Go.Num Go.Mem Go.Proofs
theorem vK (b off c:Nat) (l:List Nat) (w:World) (hl:l.length≤c) (hm:c≤9223372036854775807)
   (hc:∀ k,k<l.length→w.cell? ⟨b,off+k,none⟩=some (.int .u32 (l.getD k 0:Nat))) :
    Calls Tryz.prog 212 #[aj (some ⟨b,off,none⟩) l.length c] w fun e w'=>e= ah (aj (some ⟨b,off,none⟩) (trimLen l l.length) c)∧w=w':=zs1
theorem yH (w:World):Calls Tryz.prog 212 #[aj none 0 0] w fun e w'=>e= ah (aj none 0 0)∧w=w':=by
 go_enter Tryz.func212,Tryz.ntmps212
 go_wp2
 refine wp_loop_rounds 1 ?_;rw [rounds_succ]
 go_wp2
 go_ret
 exact ⟨rfl,rfl⟩
theorem nk (v:Value) (l:List Nat) (w:World) (h:kP w v l) (hd:gF 1000000000 l) :
  Calls Tryz.prog 212 #[v] w fun e w'=>∃ v',e= ah v'∧w=w'∧aT w v' (val 1000000000 l):=zs2
theorem gM (v:Value) (n:Nat) (w:World) (h:aT w v n) :
  Calls Tryz.prog 211 #[v] w fun e w'=>e= ah (aC (decide (n=0)))∧w=w':=zs4
def oM (a b:Nat):Int:=if a<b then -1 else if b<a then 1 else 0
theorem nM {a b:Nat} (h:a<b):oM a b= -1:=if_pos h
theorem mR {a b:Nat} (h:b<a):oM a b=1:=by unfold oM;rw [if_neg zo,if_pos h]
theorem ow (a:Nat):oM a a=0:=by unfold oM;simp
theorem Dr (a b:Nat) (w:World):Calls Tryz.prog 230 #[Z I a,Z I b] w fun e w'=>e= ah (Z I (oM a b))∧w=w':=zs5
theorem Dq (a b:Nat) (w:World):Calls Tryz.prog 231 #[Z .u32 a,Z .u32 b] w fun e w'=>e= ah (Z I (oM a b))∧w=w':=zs6
theorem rQ (a b:Option Addr) (m n c d:Nat) (w:World) (h:m≠n) :
  Calls Tryz.prog 266 #[aj a m c,aj b n d] w fun e w'=>e= ah (Z I (oM m n))∧w=w':=zs7
theorem qy (pa pb:Option Addr) (ca cb:Nat) (l m:List Nat) (w:World) (hlen:l.length=m.length) (hm:l.length≤9223372036854775807) (hl:gF 1000000000 l) (hmd:gF 1000000000 m)
   (hc:∀ k,k<l.length→∃ b off,pa=some ⟨b,off,none⟩∧b<w.heap.size∧w.cell? ⟨b,off+k,none⟩=some (.int .u32 (l.getD k 0:Nat)))
   (hd:∀ k,k<m.length→∃ b off,pb=some ⟨b,off,none⟩∧b<w.heap.size∧w.cell? ⟨b,off+k,none⟩=some (.int .u32 (m.getD k 0:Nat))) :
    Calls Tryz.prog 266 #[aj pa l.length ca,aj pb m.length cb] w fun e w'=>e= ah (Z I (oM (val 1000000000 l) (val 1000000000 m)))∧Below w.heap.size w w':=zs8
theorem iT (x y:Value) (a b:Nat) (w:World) (hx:aT w x a) (hy:aT w y b) :
  Calls Tryz.prog 266 #[x,y] w fun e w'=>e= ah (Z I (oM a b))∧Below w.heap.size w w':=zs9
theorem uR:(Tryz.prog.info? 22).map (fun i=>(i.zero,i.size,i.bytes))=some (some (.int .u32 0),1,4):=by kernel_rfl
theorem rY {B:Nat} {l m s:List Nat} {k c d c':Nat} (hk:k<l.length) (hs:s.length=k) (he:val B s+c*B^k=val B (l.take k)+val B (m.take k)) (h:d+c'*B=l.getD k 0+c+m.getD k 0) :
  val B (s++[d])+c'*B^(k+1)=val B (l.take (k+1))+val B (m.take (k+1)):=Vy
theorem rX (pl ps:Option Addr) (cl cs:Nat) (l m:List Nat) (v0 v1:Value) (w:World) (hl:gF 1000000000 l) (hmd:gF 1000000000 m) (hb1:l.length≤1099511627776) (hml:m.length≤l.length)
   (hv:(v0= aj pl l.length cl∧v1= aj ps m.length cs)∨(v1= aj pl l.length cl∧v0= aj ps m.length cs∧m.length<l.length))
   (hc:∀ k,k<l.length→∃ b off,pl=some ⟨b,off,none⟩∧b<w.heap.size∧w.cell? ⟨b,off+k,none⟩=some (.int .u32 (l.getD k 0:Nat)))
   (hd:∀ k,k<m.length→∃ b off,ps=some ⟨b,off,none⟩∧b<w.heap.size∧w.cell? ⟨b,off+k,none⟩=some (.int .u32 (m.getD k 0:Nat))) :
    Calls Tryz.prog 272 #[v0,v1] w fun e w'=>∃ s v,e= ah v∧Below w.heap.size w w'∧kP w' v s∧gF 1000000000 s∧val 1000000000 s=val 1000000000 l+val 1000000000 m∧l.length≤s.length∧(l.length<s.length→Top s):=Vx
theorem uN (x y:Value) (a b:Nat) (w:World) (hx:aT w x a) (hy:aT w y b) (ha:sz 1000000000 a≤1099511627776) (hb:sz 1000000000 b≤1099511627776) :
  Calls Tryz.prog 272 #[x,y] w fun e w'=>∃ v,e= ah v∧Below w.heap.size w w'∧aT w' v (a+b):=zs12
theorem zJ (pl ps:Option Addr) (cl cs:Nat) (l m:List Nat) (w:World) (hl:gF 1000000000 l) (hmd:gF 1000000000 m) (hb1:l.length≤1099511627776) (hml:m.length≤l.length) (hle:val 1000000000 m≤val 1000000000 l)
   (hc:∀ k,k<l.length→∃ b off,pl=some ⟨b,off,none⟩∧b<w.heap.size∧w.cell? ⟨b,off+k,none⟩=some (.int .u32 (l.getD k 0:Nat)))
   (hd:∀ k,k<m.length→∃ b off,ps=some ⟨b,off,none⟩∧b<w.heap.size∧w.cell? ⟨b,off+k,none⟩=some (.int .u32 (m.getD k 0:Nat))) :
    Calls Tryz.prog 273 #[aj pl l.length cl,aj ps m.length cs] w fun e w'=>∃ v,e= ah v∧Below w.heap.size w w'∧aT w' v (val 1000000000 l - val 1000000000 m):=Zh
theorem zK (x y:Value) (a b:Nat) (w:World) (hx:aT w x a) (hy:aT w y b) (ha:sz 1000000000 a≤1099511627776) (hle:b≤a) :
  Calls Tryz.prog 273 #[x,y] w fun e w'=>∃ v,e= ah v∧Below w.heap.size w w'∧aT w' v (a - b):=Zg
theorem CQ {x y:Nat} (hx:x<1000000000) (hy:y<1000000000):(0:Int)≤(x:Int)*(y:Int)∧(x:Int)*(y:Int)≤999999998000000001:=by
 have h:x*y≤999999999*999999999:=dU zo zo;rw [← Int.natCast_mul];omega
theorem tX (pl ps:Option Addr) (cl cs:Nat) (l m:List Nat) (w:World) (hl:gF 1000000000 l) (hmd:gF 1000000000 m) (hb1:l.length≤1099511627776) (hb2:m.length≤1099511627776)
   (hc:∀ k,k<l.length→∃ b off,pl=some ⟨b,off,none⟩∧b<w.heap.size∧w.cell? ⟨b,off+k,none⟩=some (.int .u32 (l.getD k 0:Nat)))
   (hd:∀ k,k<m.length→∃ b off,ps=some ⟨b,off,none⟩∧b<w.heap.size∧w.cell? ⟨b,off+k,none⟩=some (.int .u32 (m.getD k 0:Nat))) :
    Calls Tryz.prog 136 #[aj pl l.length cl,aj ps m.length cs] w fun e w'=>∃ v,e= ah v∧Below w.heap.size w w'∧aT w' v (val 1000000000 l*val 1000000000 m):=Vw
theorem iE (x y:Value) (a b:Nat) (w:World) (hx:aT w x a) (hy:aT w y b) (ha:sz 1000000000 a≤1099511627776) (hb:sz 1000000000 b≤1099511627776) :
  Calls Tryz.prog 136 #[x,y] w fun e w'=>∃ v,e= ah v∧Below w.heap.size w w'∧aT w' v (a*b):=Vv
theorem nL (pl:Option Addr) (cl:Nat) (l:List Nat) (d:Nat) (w:World) (hl:gF 1000000000 l) (hb1:l.length≤1099511627776) (hd0:0<d) (hd1:d≤1000000000)
   (hc:∀ k,k<l.length→∃ b off,pl=some ⟨b,off,none⟩∧b<w.heap.size∧w.cell? ⟨b,off+k,none⟩=some (.int .u32 (l.getD k 0:Nat))) :
    Calls Tryz.prog 267 #[aj pl l.length cl,Z .u32 d] w fun e w'=>∃ v,e= ah (aF #[v,Z .u32 (val 1000000000 l%d:Nat)])∧Below w.heap.size w w'∧aT w' v (val 1000000000 l / d):=Vu
theorem qX (x:Value) (a d:Nat) (w:World) (hx:aT w x a) (ha:sz 1000000000 a≤1099511627776) (hd0:0<d) (hd1:d≤1000000000) :
  Calls Tryz.prog 267 #[x,Z .u32 d] w fun e w'=>∃ v,e= ah (aF #[v,Z .u32 (a%d:Nat)])∧Below w.heap.size w w'∧aT w' v (a / d):=by
 obtain ⟨pa,ca,rfl,h1,h2,h3⟩:=kP.read hx.xM;have:=nL pa ca _ d w (eH zo a) ha hd0 hd1 h3
 rwa [dh zo] at this
theorem ug (pl:Option Addr) (cl:Nat) (l:List Nat) (w:World) (hm:l.length≤9223372036854775807) (hv:val 1000000000 l≤18446744073709551615)
   (hc:∀ k,k<l.length→∃ b off,pl=some ⟨b,off,none⟩∧b<w.heap.size∧w.cell? ⟨b,off+k,none⟩=some (.int .u32 (l.getD k 0:Nat))) :
    Calls Tryz.prog 270 #[aj pl l.length cl] w fun e w'=>e= ah (Z .u64 (val 1000000000 l:Nat))∧w=w':=Zf
theorem yO (x:Value) (a:Nat) (w:World) (hx:aT w x a) (ha:a≤18446744073709551615) :
  Calls Tryz.prog 270 #[x] w fun e w'=>e= ah (Z .u64 (a:Nat))∧w=w':=by
 obtain ⟨pa,ca,rfl,h1,h2,h3⟩:=kP.read hx.xM;have:=ug pa ca _ w zo (by rw [dh zo];exact ha) h3
 rwa [dh zo] at this
theorem jP (a:Nat) (w:World) (ha:a≤18446744073709551615) :
  Calls Tryz.prog 268 #[Z .u64 a] w fun e w'=>∃ v,e= ah v∧Below w.heap.size w w'∧aT w' v a:=Vt
def qE (w:World) (g k:Nat) (pre u post v:List Nat) (e:Ending) (w':World):Prop :=
 e= ah (Z .u32 (val 1000000000 u / val 1000000000 v:Nat))∧w.grownBy w' (some g) ∧
   ∃ s,aA w' g (dB (pre++(s++[0])++post)).toArray 22∧s.length=k+2∧gF 1000000000 s∧val 1000000000 s=val 1000000000 u%val 1000000000 v
theorem q9 (g j k cu:Nat) (pv:Option Addr) (cv:Nat) (pre u post v:List Nat) (w:World) (hj:pre.length=j) (hu:u.length=k+3) (hv:v.length=k+2) (du:gF 1000000000 u) (dv:gF 1000000000 v) (hk:k≤1099511627776)
  (ht:1000000000≤2*v.getD (k+1) 0) (hlt:val 1000000000 u<val 1000000000 v*1000000000) (Tk:aA w g (dB (pre++u++post)).toArray 22)
  (hd:∀ i,i<k+2→∃ b off,pv=some ⟨b,off,none⟩∧b≠g∧b<w.heap.size∧w.cell? ⟨b,off+i,none⟩=some (.int .u32 (v.getD i 0:Nat))) :
  Calls Tryz.prog 269 #[aj (some ⟨g,j,none⟩) (k+3) cu,aj pv (k+2) cv] w (qE w g k pre u post v):=Vs
def jl (w:World) (q r:Nat) (e:Ending) (w':World):Prop:=∃ vq vr,e= ah (aF #[vq,vr])∧Below w.heap.size w w'∧aT w' vq q∧aT w' vr r
theorem rH (x y:Value) (a b:Nat) (w:World) (hx:aT w x a) (hy:aT w y b) (h:a<b) :
  Calls Tryz.prog 200 #[x,y] w (jl w (a / b) (a%b)):=Vr
theorem qo (pa pb:Option Addr) (ca cb:Nat) (a b:Nat) (w:World) (hx:aT w (aj pa (sz 1000000000 a) ca) a) (hy:aT w (aj pb 1 cb) b) (hb0:0<b) (hb1:b<1000000000) (h:b≤a) (ha:sz 1000000000 a≤549755813888) :
  Calls Tryz.prog 200 #[aj pa (sz 1000000000 a) ca,aj pb 1 cb] w (jl w (a / b) (a%b)):=Vq
theorem rG (pa pb:Option Addr) (ca cb:Nat) (a b k:Nat) (w:World) (hx:aT w (aj pa (sz 1000000000 a) ca) a) (hy:aT w (aj pb (k+2) cb) b) (hsb:sz 1000000000 b=k+2) (h:b≤a) (ha:sz 1000000000 a≤549755813888) :
  Calls Tryz.prog 200 #[aj pa (sz 1000000000 a) ca,aj pb (k+2) cb] w (jl w (a / b) (a%b)):=Vp
theorem dG (x y:Value) (a b:Nat) (w:World) (hx:aT w x a) (hy:aT w y b) (hb:0<b) (ha:sz 1000000000 a≤549755813888) :
  Calls Tryz.prog 200 #[x,y] w (jl w (a / b) (a%b)):=Vo
end Go.Proofs.matrix
namespace Go.Proofs.matrix
open Go Go.RowKit Go.SW Go.Num Go.Mem Go.Proofs Go.Proofs.iA Go.Dec
theorem CO (B b d wd:Nat) (l:List UInt8) (w:World) (h:Ju B b (Lib.byteCells l) w) (hB:B≤w.heap.size) (hw:wd≤9) (hd:d<1000000000) (hl:l.length≤140737488355000) (ht:Pow w) :
  Calls Tryz.prog 271 #[Z .u32 d,Z I wd,au (some ⟨b,0,none⟩)] w fun e w'=>e= ah (aF #[])∧Ju B b (Lib.byteCells (l++(bP (wd - (Lib.decDigits d).length) 48++Lib.decDigits d))) w'∧Below B w w':=Vn
def rR (w:World) (n:Nat) (e:Ending) (w':World):Prop:=e= ah (O ⟨(Lib.decDigits n).toArray⟩)∧Below w.heap.size w w'
theorem lV (x:Value) (a:Nat) (w:World) (hx:aT w x a) (ha:sz 1000000000 a≤1099511627776) (ht:Pow w) :
  Calls Tryz.prog 205 #[x] w (rR w a):=Vm
theorem gW (x:Value) (a:Nat) (w:World) (hx:aT w x a) (ha:sz 1000000000 a≤1099511627776) (ht:Pow w) :
  Calls Tryz.prog 203 #[x] w (fun e w'=>e= ah (Z I ((Lib.decDigits a).length:Nat))∧Below w.heap.size w w'):=Vl
end Go.Proofs.matrix
namespace Go.Proofs.matrix
open Go Go.RowKit Go.SW Go.Num Go.Mem Go.Proofs Go.Dec
theorem Pw:(Tryz.prog.info? 22).map (fun i=>(i.zero,i.size,i.bytes))=some (some (.int .u32 0),1,4):=by kernel_rfl
theorem o9 (s:ByteArray) (hs:s.size≤1099511627776) (hd:qG s.data.toList) (w:World) :
  Calls Tryz.prog 265 #[O s] w (fun e w'=>∃ v,e= ah v∧Below w.heap.size w w'∧aT w' v (num s.data.toList)):=zs3
end Go.Proofs.matrix
namespace Go.Proofs.matrix
open Go Go.RowKit Go.SW Go.Num Go.Mem Go.Proofs
theorem aT.inj {w:World} {v:Value} {m n:Nat} (h:aT w v m) (k:aT w v n):m=n:=Vk
open Classical in
noncomputable def tJ (w:World) (v:Value):Nat:=if h:∃ n,aT w v n then h.choose else 0
theorem oZ {w:World} {v:Value} {n:Nat} (h:aT w v n):tJ w v=n:=by
 unfold tJ;rw [dif_pos ⟨n,h⟩];exact aT.inj (Exists.choose_spec (⟨n,h⟩:∃ n,aT w v n)) h
theorem mV (x y:Value) (a b:Nat) (w:World) (hx:aT w x a) (hy:aT w y b) (ha:sz 1000000000 a≤549755813888) (hb:sz 1000000000 b≤549755813888) :
  Calls Tryz.prog 202 #[x,y] w (fun e w'=>∃ v,e= ah v∧Below w.heap.size w w'∧aT w' v (Nat.gcd a b)):=Ze
end Go.Proofs.matrix
