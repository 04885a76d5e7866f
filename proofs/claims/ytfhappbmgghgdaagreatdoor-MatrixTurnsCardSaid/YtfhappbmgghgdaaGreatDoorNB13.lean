/- Lemmas for the proof. No condition. -/
import Derived.Test.YtfhappbmgghgdaaGreatDoorNB01
import Derived.Test.YtfhappbmgghgdaaGreatDoorNB11
import Derived.Test.YtfhappbmgghgdaaGreatDoorNB12
set_option linter.unusedVariables false
set_option linter.unusedSimpArgs false
set_option maxRecDepth 100000
set_option maxHeartbeats 16000000
namespace Go.Proofs.matrix
open Go Go.RowKit Go.Shelf Go.SW Go.Num Go.Mem Go.Proofs Go.Dec Go.Fra band
attribute [local go_sem] Oper.semAt_some
theorem infoBand:(Tryz.prog.info? 69).map (fun i=>(i.zero,i.size,i.bytes))=some (some (.agg #[.int .i64 0,.int .i64 0]),2,16):=by kernel_rfl
theorem made_bands (n:Nat) (hn:n≤1000):∃ cs:Array Value,cs.size=n*2∧∀ W:World,(Instr.makeSlice 63 (.int .i64 (n:Int)) (.int .i64 (n:Int))).run Tryz.prog W= .ok (.slice (some ⟨W.heap.size,0,none⟩) n n) (W.alloc (.cells cs 69)):=by
 obtain ⟨i0,hi,hz0,hz1,hz2⟩:=info_parts infoBand
 refine ⟨madeCells (Value.agg #[.int .i64 0,.int .i64 0]).cells (n*2),size_madeCells _ _,fun W=>?_⟩
 have:=run_makeSlice (P:=Tryz.prog) W 63 69 i0 (.agg #[.int .i64 0,.int .i64 0]) Tryz.underlying63 hi hz0 .i64 .i64 (n:Int) (n:Int) zo (Int.le_refl _) (by rw [hz1];simp;omega) (by rw [hz2];omega) zo
 rw [hz1] at this
 simpa using this
def BFill (w:World) (q:Nat) (n:Nat) (D:Nat→Prop) (f:Nat→Int × Int):Prop :=
 ∃ arr,Box w q arr 69∧arr.size=n*2∧∀ i,i<n→D i→arr[i*2]? =some (.int .i64 (f i).1)∧arr[i*2+1]? =some (.int .i64 (f i).2)
theorem BFill.later {w w':World} {q n:Nat} {D:Nat→Prop} {f:Nat→Int × Int} (h:BFill w q n D f) (hb:Below w.heap.size w w'):BFill w' q n D f:=by
 obtain ⟨arr,h1,h2⟩:=h
 exact ⟨arr,h1.later hb,h2⟩
theorem BFill.kept {w w':World} {q n:Nat} {D:Nat→Prop} {f:Nat→Int × Int} (h:BFill w q n D f) (k:Keep [] w w'):BFill w' q n D f:=by
 obtain ⟨arr,h1,h2⟩:=h
 exact ⟨arr,k _ _ _ zi h1,h2⟩
theorem BFill.cells {w:World} {q n j:Nat} {D:Nat→Prop} {f:Nat→Int × Int} (h:BFill w q n D f) (hj:j<n) :
  (∃ x,w.cell? ⟨q,j*2,none⟩=some x)∧(∃ y,w.cell? ⟨q,j*2+1,none⟩=some y)∧(∀ o,w.frozen? ⟨q,o,none⟩=false)∧q<w.heap.size:=by
 obtain ⟨arr,h1,h2,h3⟩:=h
 refine ⟨⟨arr[j*2]'zo,?_⟩,⟨arr[j*2+1]'zo,?_⟩,h1.free,h1.lt⟩
 ·rw [h1.cell];exact Array.getElem?_eq_getElem _
 ·rw [h1.cell];exact Array.getElem?_eq_getElem _
theorem BFill.put {w:World} {q n j:Nat} {D D':Nat→Prop} {f:Nat→Int × Int} {s t:Int} (h:BFill w q n D f) (hj:j<n) (hs:s=(f j).1) (ht:t=(f j).2) (hD:∀ i,D' i→i=j∨D i) :
  BFill ((w.setCell ⟨q,j*2,none⟩ (.int .i64 s)).setCell ⟨q,j*2+1,none⟩ (.int .i64 t)) q n D' f:=by
 subst hs ht
 obtain ⟨arr,h1,h2,h3⟩:=h
 refine ⟨(arr.setIfInBounds (j*2) (.int .i64 (f j).1)).setIfInBounds (j*2+1) (.int .i64 (f j).2),(h1.set _ _).set _ _,by simp [h2],fun i hi hd=>?_⟩
 by_cases e:i=j
 ·subst e
  refine ⟨?_,?_⟩
  ·rw [Array.getElem?_setIfInBounds,if_neg zo,Array.getElem?_setIfInBounds,if_pos rfl,if_pos zo]
  ·rw [Array.getElem?_setIfInBounds,if_pos rfl,if_pos (by simp;omega)]
 ·obtain ⟨k1,k2⟩:=h3 i hi ((hD i hd).resolve_left e)
  refine ⟨?_,?_⟩
  ·rw [Array.getElem?_setIfInBounds,if_neg zo,Array.getElem?_setIfInBounds,if_neg zo,k1]
  ·rw [Array.getElem?_setIfInBounds,if_neg zo,Array.getElem?_setIfInBounds,if_neg zo,k2]
theorem BFill.start {w:World} {q n:Nat} {cs:Array Value} {f:Nat→Int × Int} (h:Box w q cs 69) (hs:cs.size=n*2):BFill w q n (fun _=>False) f:=⟨cs,h,hs,fun i _ h=>h.elim⟩
theorem BFill.bds {w:World} {q n:Nat} {D:Nat→Prop} {l:List (Int × Int)} (h:BFill w q n D (fun i=>l.getD i (0,0))) (hD:∀ i,i<n→D i) (hn:l.length=n) (hl:n≤1000000):Bds w 69 (.slice (some ⟨q,0,none⟩) n n) l:=by
 obtain ⟨arr,h1,h2,h3⟩:=h
 refine Bds.of_box h1 hn (Nat.le_refl _) zo fun i hi=>?_
 have:=h3 i zo (hD i zo)
 simpa [hi] using this
attribute [local go_sem] Oper.semAt_some
theorem BandsAt.of {w:World} {T:TypeId} {p:Option Addr} {n c:Nat} {l:List (Int × Int)} (h:Bds w T (.slice p n c) l) (hn:l.length=n):BandsAt w p n (fun i=>l.getD i (0,0)):=by
 subst hn
 obtain ⟨a,cap,hv, -, -, hread⟩:=h.read
 cases hv
 intro k hk
 obtain ⟨b,off,h1,h2,h3,h4⟩:=hread k hk
 have e:l.getD k (0,0)=l[k]:=by simp [hk]
 exact ⟨b,off,h1,h2,by simp only [e];exact h3,by simp only [e];exact h4⟩
theorem BFill.other {w:World} {q n:Nat} {D:Nat→Prop} {f:Nat→Int × Int} (h:BFill w q n D f) {a:Addr} (u:Value) (hne:q≠a.block):BFill (w.setCell a u) q n D f:=by
 obtain ⟨arr,h1,h2⟩:=h
 exact ⟨arr,h1.setOther u hne,h2⟩
theorem bands_main (b off cap a0n:Nat) (a0:Option Addr) (cap0 n:Nat) (m:List (List Fr)) (l:List (Int × Int)) (p:Option Addr) (c:Nat) (w:World) (rs:List Value) (hm:rs.length=m.length) (hR:Row w 29 (.slice (some ⟨b,off,none⟩) n cap) rs)
  (hF:∀ i (h:i<rs.length) (h':i<m.length),Frs w 59 rs[i] m[i]) (hM:MatV w (.slice (some ⟨b,off,none⟩) n cap) m) (hn:rs.length=n) (h1:1≤n) (h4:n≤4) (hk:okM m=true) (hl:Bds w 69 (.slice p a0n c) l) (hla:l.length=a0n) (hc0:w.cell? ⟨b,off,none⟩=some (.slice a0 a0n cap0)) (lb:b<w.heap.size)
  (hrow:∀ r∈m,r.length=a0n∧Good (rowE r l)) (ha1:1≤a0n) (ha4:a0n≤4) (hok:∀ x∈l,bok x.1 x.2=true) (ht:Bld.Pow w) (he:whole.Er w) :
  Calls Tryz.prog 41 #[.slice (some ⟨b,off,none⟩) n cap,.slice p a0n c] w (BndPost w (rowsE m l)):=by
 have HC:=zh (fun W hW=>Check_ok (.slice (some ⟨b,off,none⟩) n cap) m W (hM.later hW))
 unfold chkM at HC
 rw [hk,if_pos rfl] at HC
 obtain ⟨cs,hcs,hmk⟩:=made_bands n zo
 have HCS:=zh hcs
 have HL:=zh hl
 have HLA:=zh hla
 have HF:=zh hF
 have HR:=zh hR
 have HM:=zh hm
 have HN:=zh hn
 have HROW:=zh hrow
 have HOK:=zh hok
 have HT:=zh ht
 have HE:=zh he
 have hmf:∀ (fn:Fn) (first cap:Array Value) (w:World),(Instr.makeFunc fn first cap).run Tryz.prog w= .ok (.func fn first cap) w:=fun _ _ _ _=>rfl
 clear hcs hl hla hF hR hm hn hrow hok ht he hM hk
 refine (callsIn_wide (n:=3)).1 ?_
 refine callsIn_of_wp_marks Tryz.func41 rfl trivial ?_ rfl
 simp only [Tryz.ntmps41,List.size_toArray,List.length_cons,List.length_nil,Nat.reduceAdd,Nat.reduceSub,Array.replicate_succ,Array.replicate_zero,List.push_toArray,List.append_toArray,List.nil_append,List.cons_append]
 gi_wp2_with (refine ⟨trivial,?_⟩;gi_at_call 23;refine (callsIn_wide.2 (HC.out _ belA)).mono ?_;rintro e w1 ⟨rfl,hc1⟩;have B0:=Box.later (Box.alloc (Box.alloc (Box.new _ _ _) _) _) hc1;have cB0:=B0.cell;have fB0:=B0.free;have lB0:=B0.lt;have BR:=Box.later (Box.alloc (Box.at1 _ _ _ _) _) hc1;have cBR:=BR.cell;have fBR:=BR.free;have lBR:=BR.lt;have BE:=Box.later (Box.at2 _ _ _ _ _) hc1;have cBE:=BE.cell;have fBE:=BE.free;have lBE:=BE.lt)
 have hB1:Below w.heap.size w w1:=belA
 have HBA:=zh (BandsAt.of (HL.out.later hB1) HLA.out)
 have HOB:Hid (∀ k,k<a0n→bok (l.getD k (0,0)).1 (l.getD k (0,0)).2=true):=zh fun k hk=>by
  have hk':k<l.length:=by rw [HLA.out];exact hk
  have e:l.getD k (0,0)=l[k]:=by simp [hk']
  rw [e]
  exact HOK.out _ (List.getElem_mem _)
 have BR0:=BR
 have BE0:=BE
 have B00:=B0
 have HC0:=zh ((hB1.cell (p:=⟨b,off,none⟩) lb).trans hc0)
 have lbw:b<w1.heap.size:=Nat.lt_of_lt_of_le lb hB1.size
 clear cBR fBR lBR cBE fBE lBE cB0 fB0 lB0 BR BE B0 hc0
 gi_loopw [22] (fun iv wr=>∃ k:Nat,k≤a0n∧iv= .int .i64 (k:Int)∧Hid (Below w1.heap.size w1 wr)) (fun iv _=>a0n - (intOf iv).toNat)
 case atStart=>exact ⟨0,by omega,rfl,zh (Below.refl _ _)⟩
 case round =>
  obtain ⟨k,hk,rfl,HB⟩:=hrel
  rcases Nat.lt_or_ge k a0n with hlt|hge
  ·obtain ⟨b',off',hp,lb',cx1,cx2⟩:=HBA.out.later HB.out k hlt
   subst hp
   have HV:=zh (fun W=>band.Check_ok (l.getD k (0,0)).1 (l.getD k (0,0)).2 W)
   rw [HOB.out k hlt,if_pos rfl] at HV
   generalize (l.getD k (0,0)).1=y1 at *
   generalize (l.getD k (0,0)).2=y2 at *
   have lbB:w1.heap.size≤wr.heap.size:=HB.out.size
   gi_wp2_with (refine ⟨trivial,?_⟩;gi_at_call 83;refine (callsIn_wide.2 (HV.out _)).mono ?_;rintro e w2 ⟨rfl,hc2⟩)
   have hB2:Below w1.heap.size w1 w2:=Bt (Below_alloc HB.out _) hc2
   go_roundw
   case rel=>exact ⟨k+1,by omega,by go_num,zh hB2⟩
   case measure=>exact zM
  ·obtain rfl:k=a0n:=by omega
   have BR1:=BR0.later HB.out
   have BE1:=BE0.later HB.out
   have BB1:=B00.later HB.out
   have cB0:=BB1.cell
   have lB0:=BB1.lt
   have cc:=(HB.out.cell (p:=⟨b,off,none⟩) lbw).trans HC0.out
   have lbB:w1.heap.size≤wr.heap.size:=HB.out.size
   have lb2:b<wr.heap.size:=by omega
   have hn0:0<n:=by omega
   gi_wp2
   gi_region
   have HB2:Hid (Below w1.heap.size w1 wr.drew):=zh (Below.drew HB.out)
   have BB2:=BB1.drew
   have BR2:=BR1.drew
   have BE2:=BE1.drew
   obtain ⟨wq,Ewq⟩:∃ y,wr.drew=y:=⟨_,rfl⟩
   rw [Ewq] at HB2 BB2 BR2 BE2 ⊢
   clear Ewq cc cB0 lB0 lbB lb2 BR1 BE1 BB1
   have cB0:=BB2.cell
   have lB0:=BB2.lt
   gi_wp2_with (refine ⟨trivial,?_⟩;gi_at_call 58;refine (visit_in Fence.wide 2 trivial rfl _ _ _ _).mono ?_;rintro e w' ⟨rfl,rfl⟩)
   obtain ⟨W0,hW0⟩:∃ W0,(((wq.alloc (.cells cs 69)).alloc (.cells #[.slice (some ⟨wq.heap.size,0,none⟩) n n] 63)).alloc (.cells #[.slice (some ⟨b,off,none⟩) n cap] 23))=W0:=⟨_,rfl⟩
   have hBq:Below wq.heap.size wq W0:=by rw [← hW0];exact belA
   have hB0:Below w.heap.size w W0:=Bt hB1 (Bt HB2.out hBq)
   have hx0:Box W0 wq.heap.size cs 69:=by rw [← hW0];exact boxA
   have hx1:Box W0 (wq.heap.size+1) #[.slice (some ⟨wq.heap.size,0,none⟩) n n] 63:=by rw [← hW0];exact boxA
   have hx2:Box W0 (wq.heap.size+1+1) #[.slice (some ⟨b,off,none⟩) n cap] 23:=by rw [← hW0];exact boxA
   have hxL:=BB2.later hBq
   have hxR:=BR2.later hBq
   have hxE:=BE2.later hBq
   have hqw:w.heap.size+1+1<wq.heap.size:=BE2.lt
   rw [hW0]
   clear hW0 cB0 lB0 BB2 BR2 BE2
   obtain ⟨F,EF⟩:∃ F:Nat→Int × Int,Hid ((fun i=>((m.map fun r=>(rowE r l).1).getD i (0,0)))=F):=⟨_,zh rfl⟩
   refine wpIn_rangeFunc_ownH (α:=Fin rs.length) rfl zo (gf:=115) (lb:=#[.pointer (some ⟨wq.heap.size+1+1,0,none⟩)]) rfl trivial (enters_of Tryz.func115 zk rfl)
    (visit_stops Fence.wide 2 trivial rfl zo (wq.heap.size+1+1) w.heap.size _ rs w _ hx2.lt hB0.size ((hx2.cell 0).trans rfl) HR.out (Nat.le_refl _) hB0) belowK_t (belowK_b hB0.size) (Below.refl _ _) (fun _=>rfl)
    (fun pre W=>(BFill W wq.heap.size n (fun i=>∃ x∈pre,x.1=i) F∧Hid (∀ x∈pre,(rowE (m.getD x.1 []) l).2=0)∧Box W w.heap.size #[.slice p k c] 63∧Box W (w.heap.size+1) #[.slice none 0 0] 63∧Box W (w.heap.size+1+1) #[.int .i64 0] 33∧Box W (wq.heap.size+1) #[.slice (some ⟨wq.heap.size,0,none⟩) n n] 63)∧Below w.heap.size w W)
    (fun c' pre W=>(c'= .ret∧Hid (∃ x:Fin rs.length,(rowE (m.getD x.1 []) l).2=6)∧Box W (w.heap.size+1) #[.slice none 0 0] 63∧Box W (w.heap.size+1+1) #[.int .i64 6] 33)∧Below w.heap.size w W)
    (OwnFrom.and (Own.from (fun s A B row hs hg hr=>⟨hs.1.kept (Keep.others hg hr),hs.2.1,box_kept hs.2.2.1 hg hr,box_kept hs.2.2.2.1 hg hr,box_kept hs.2.2.2.2.1 hg hr,box_kept hs.2.2.2.2.2 hg hr⟩) _) (ownFrom_below (Nat.le_refl _) hB0.size))
    (fun c'=>OwnFrom.and (Own.from (fun s A B row hs hg hr=>⟨hs.1,hs.2.1,box_kept hs.2.2.1 hg hr,box_kept hs.2.2.2 hg hr⟩) _) (ownFrom_below (Nat.le_refl _) hB0.size))
    ⟨⟨?f0,zh zi,hxL,hxR,hxE,hx1⟩,hB0⟩ (fun x a' W=>∃ u44 u45 B,a'={ tmps:=#[.slice (some ⟨b,off,none⟩) n cap,.slice p k c,undef,.pointer (some ⟨w.heap.size,0,none⟩),.pointer (some ⟨w.heap.size+1,0,none⟩),.pointer (some ⟨w.heap.size+1+1,0,none⟩),.int .i64 0,undef,u8,u9,.pointer (some ⟨wq.heap.size+1,0,none⟩),.int .i64 (x.1:Int),.pointer (some ⟨B,0,none⟩),undef,undef,.slice (some ⟨b,off,none⟩) n cap,.int .i64 0,.int .i64 0,.bool false,undef,.slice p k c,.int .i64 (k:Int),.int .i64 (k:Int),.bool false,u24,u25,u26,u27,u28,u29,u30,u31,.slice p k c,.int .i64 (k:Int),.slice (some ⟨b,off,none⟩) n cap,.pointer (some ⟨b,off,none⟩),.slice a0 k cap0,.int .i64 (k:Int),.bool false,.slice (some ⟨b,off,none⟩) n cap,.int .i64 (n:Int),.slice (some ⟨wq.heap.size,0,none⟩) n n,.slice (some ⟨b,off,none⟩) n cap,.func (.func 115) #[] #[.pointer (some ⟨wq.heap.size+1+1,0,none⟩)],u44,u45,undef,undef,undef,undef,undef,undef,undef,undef,undef,undef,undef,undef,undef,undef,undef],defers:=[] }∧Box W B #[rs[x.1]] 29) ?hAx ?assign ?body ?done ?stop
   case f0 =>
    obtain ⟨arr,k1,k2,k3⟩:=BFill.start (f:=F) hx0 HCS.out
    exact ⟨arr,k1,k2,fun i hi ⟨x,hx,_⟩=>by cases hx⟩
   case hAx =>
    intro x a'
    exact Own.from (fun s A B row hs hg hr=>by
     obtain ⟨u1,u2,B',h1,h2⟩:=hs
     exact ⟨u1,u2,B',h1,box_kept h2 hg hr⟩) _
   case assign =>
    intro l' pre x W K hI hK
    obtain ⟨a',cap',hre, -⟩:=(HF.out x.1 x.2 (by rw [← HM.out];exact x.2)).read
    unfold enc
    generalize rs[x.1]=rx at *
    subst hre
    gi_wp2
    exact hK _ _ ((keeps_of_below belA).from _) ((Below.refl _ W).alloc hI.2.size _) ⟨⟨hI.1.1.later belA,hI.1.2.1,hI.1.2.2.1.later belA,hI.1.2.2.2.1.later belA,hI.1.2.2.2.2.1.later belA,hI.1.2.2.2.2.2.later belA⟩,hI.2.alloc hI.2.size _⟩ ⟨_,_,_,rfl,boxA⟩
   case body =>
    rintro l' pre x a' W hl hr ⟨⟨hFl,hp,hb0,hbR,hbE,hbO⟩,hB⟩ ⟨u1,u2,B',rfl,hbB⟩ hpl
    have hxm:x.1<m.length:=HM.out ▸ x.2
    have hgd:m.getD x.1 []=m[x.1]:=by simp [hxm]
    have hfr:=HF.out x.1 x.2 hxm
    obtain ⟨hml,hgood⟩:=HROW.out m[x.1] (List.getElem_mem _)
    have hxn:x.1<n:=by rw [← HN.out];exact x.2
    have HFx:Hid (F x.1=(rowE m[x.1] l).1):=zh (by rw [← EF.out];simp [hxm])
    obtain ⟨a',cap',hre, -⟩:=hfr.read
    rw [hml] at hre
    have HSUM:Hid (∀ W',Below W.heap.size W W'→Calls Tryz.prog 84 #[.int .i64 (k:Int),.func (.func 85) #[] #[.pointer (some ⟨B',0,none⟩),.pointer (some ⟨w.heap.size,0,none⟩)],.func (.func 88) #[] #[]] W' (fun e w'=>e= .returned (bndV (rowE m[x.1] l))∧Below W'.heap.size W' w')):=zh fun W' hW'=>by
     have h0:=sum_band B' w.heap.size (fun i=>termE (m[x.1].getD i Fr.no) (l.getD i (0,0))) k W' zo zo (zh fun i hi w' hb'=>by
      have hx2:=Bt hW' hb'
      have i1:i<m[x.1].length:=by omega
      have i2:i<l.length:=by rw [HLA.out];exact hi
      have e1:m[x.1].getD i Fr.no=m[x.1][i]:=by simp [i1]
      have e2:l.getD i (0,0)=l[i]:=by simp [i2]
      rw [e1,e2]
      exact bands1_ok B' w.heap.size _ _ m[x.1] l i w' (hfr.later (Bt hB hx2)) (HL.out.later (Bt hB hx2)) (hbB.later hx2) (hb0.later hx2) i1 i2 (HT.out.later (Bt hB hx2)) (HE.out.later (Bt hB hx2)))
     have e:bsum (fun i=>termE (m[x.1].getD i Fr.no) (l.getD i (0,0))) (k - 1)=rowE m[x.1] l:=by unfold rowE;rw [hml]
     rw [e] at h0
     exact h0
    have HGDD:=zh hgd
    have HFL:=zh hFl
    have HBB:=zh hbB
    have HB0':=zh hb0
    have HBR':=zh hbR
    have HBE':=zh hbE
    have HBO':=zh hbO
    have cB:=hbB.cell
    have lB:=hbB.lt
    clear hgd hfr hml hFl hbB hb0 hbR hbE hbO
    rw [hre] at cB
    clear hre
    rcases hgood with ⟨hg0,hgk⟩|hg6
    ·obtain ⟨⟨⟨lo,hi⟩,er⟩,hrow⟩:∃ y,rowE m[x.1] l=y:=⟨_,rfl⟩
     have HRW:=zh hrow
     rw [hrow] at HSUM HFx hg0
     simp only at hg0
     subst hg0
     clear hgk hrow
     unfold bndV at HSUM
     simp only at HSUM HFx
     gi_wp2_with (refine ⟨trivial,?_⟩;gi_at_call 84;refine (CallsIn.inRound l' (callsIn_wide.2 (HSUM.out _ (Below.refl _ _)))).mono ?_;rintro e w9 ⟨rfl,hc9⟩;have hO:=HBO'.out.later hc9;have cO:=hO.cell;have lO:=hO.lt;obtain ⟨⟨y1,cy1⟩,⟨y2,cy2⟩,fy,ly⟩:=(HFL.out.later hc9).cells hxn;have lgO:wq.heap.size≠w9.heap.size:=zo)
     have hS:Below w.heap.size W ((w9.setCell ⟨wq.heap.size,x.1*2,none⟩ (.int .i64 lo)).setCell ⟨wq.heap.size,x.1*2+1,none⟩ (.int .i64 hi)):=((hc9.mono hB.size).setCell (by simp;omega) _).setCell (by simp;omega) _
     have hk9:KeepsOthers W ((w9.setCell ⟨wq.heap.size,x.1*2,none⟩ (.int .i64 lo)).setCell ⟨wq.heap.size,x.1*2+1,none⟩ (.int .i64 hi)):=((keeps_of_below hc9).trans (KeepsOthers.setCell _ _ _)).trans (KeepsOthers.setCell _ _ _)
     have hal:Below ((w9.setCell ⟨wq.heap.size,x.1*2,none⟩ (.int .i64 lo)).setCell ⟨wq.heap.size,x.1*2+1,none⟩ (.int .i64 hi)).heap.size ((w9.setCell ⟨wq.heap.size,x.1*2,none⟩ (.int .i64 lo)).setCell ⟨wq.heap.size,x.1*2+1,none⟩ (.int .i64 hi)) (((w9.setCell ⟨wq.heap.size,x.1*2,none⟩ (.int .i64 lo)).setCell ⟨wq.heap.size,x.1*2+1,none⟩ (.int .i64 hi)).alloc (.cells #[.int .i64 lo,.int .i64 hi] 69)):=Below_alloc (Below.refl _ _) _
     have hbs:w.heap.size≤((w9.setCell ⟨wq.heap.size,x.1*2,none⟩ (.int .i64 lo)).setCell ⟨wq.heap.size,x.1*2+1,none⟩ (.int .i64 hi)).heap.size:=Nat.le_trans hB.size hS.size
     refine ⟨(hk9.trans (keeps_of_below hal)).from _,hS.trans (hal.mono hbs),⟨⟨?p1,zh fun y hy=>?p2,?p3,?p4,?p5,?p6⟩,(hB.trans hS).trans (hal.mono hbs)⟩⟩
     case p1 =>
      refine ((HFL.out.later hc9).put hxn (by rw [HFx.out]) (by rw [HFx.out]) ?_).later hal
      rintro i ⟨y,hy,rfl⟩
      rcases List.mem_append.1 hy with h|h
      ·exact .inr ⟨y,h,rfl⟩
      ·rw [List.mem_singleton] at h
       exact .inl (by rw [h])
     case p2 =>
      rcases List.mem_append.1 hy with h|h
      ·exact hp.out y h
      ·rw [List.mem_singleton] at h
       rw [h,HGDD.out,HRW.out]
     case p3=>exact (((HB0'.out.later hc9).setOther _ (by simp;omega)).setOther _ (by simp;omega)).later hal
     case p4=>exact (((HBR'.out.later hc9).setOther _ (by simp;omega)).setOther _ (by simp;omega)).later hal
     case p5=>exact (((HBE'.out.later hc9).setOther _ (by simp;omega)).setOther _ (by simp;omega)).later hal
     case p6=>exact ((hO.setOther _ zi).setOther _ zi).later hal
    ·have HSUM6:=HSUM
     rw [hg6] at HSUM6
     unfold bndV at HSUM6
     simp only at HSUM6
     gi_wp2_with (refine ⟨trivial,?_⟩;gi_at_call 84;refine (CallsIn.inRound l' (callsIn_wide.2 (HSUM6.out _ (Below.refl _ _)))).mono ?_;rintro e w9 ⟨rfl,hc9⟩;have hR9:=HBR'.out.later hc9;have cR:=hR9.cell;have fR:=hR9.free;have lR:=hR9.lt;have hE9:=HBE'.out.later hc9;have cE:=hE9.cell;have fE:=hE9.free;have lE:=hE9.lt)
     have hS:Below w.heap.size W ((w9.setCell ⟨w.heap.size+1,0,none⟩ (.slice none 0 0)).setCell ⟨w.heap.size+1+1,0,none⟩ (.int .i64 6)):=((hc9.mono hB.size).setCell zi _).setCell (by simp;omega) _
     have hk9:KeepsOthers W ((w9.setCell ⟨w.heap.size+1,0,none⟩ (.slice none 0 0)).setCell ⟨w.heap.size+1+1,0,none⟩ (.int .i64 6)):=((keeps_of_below hc9).trans (KeepsOthers.setCell _ _ _)).trans (KeepsOthers.setCell _ _ _)
     have hal:Below ((w9.setCell ⟨w.heap.size+1,0,none⟩ (.slice none 0 0)).setCell ⟨w.heap.size+1+1,0,none⟩ (.int .i64 6)).heap.size ((w9.setCell ⟨w.heap.size+1,0,none⟩ (.slice none 0 0)).setCell ⟨w.heap.size+1+1,0,none⟩ (.int .i64 6)) (((w9.setCell ⟨w.heap.size+1,0,none⟩ (.slice none 0 0)).setCell ⟨w.heap.size+1+1,0,none⟩ (.int .i64 6)).alloc (.cells #[.int .i64 0,.int .i64 0] 69)):=Below_alloc (Below.refl _ _) _
     have hbs:w.heap.size≤((w9.setCell ⟨w.heap.size+1,0,none⟩ (.slice none 0 0)).setCell ⟨w.heap.size+1+1,0,none⟩ (.int .i64 6)).heap.size:=Nat.le_trans hB.size hS.size
     refine ⟨(hk9.trans (keeps_of_below hal)).from _,⟨⟨rfl,zh ⟨x,?p2⟩,?p4,?p5⟩,(hB.trans hS).trans (hal.mono hbs)⟩⟩
     case p2=>rw [HGDD.out,hg6]
     case p4=>exact ((hR9.set 0 _).setOther _ zi).later hal
     case p5=>exact ((hE9.setOther _ zi).set 0 _).later hal
   case done =>
    rintro D ys W hD rfl ⟨⟨hFl,hp,hb0,hbR,hbE,hbO⟩,hB⟩ hK
    have hall:∀ r∈m,(rowE r l).2=0:=fun r hr=>by
     obtain ⟨i,hi,rfl⟩:=List.getElem_of_mem hr
     have h2:i<rs.length:=by rw [HM.out];exact hi
     have:=hp.out ⟨i,h2⟩ (by unfold upto;rw [List.mem_ofFn];exact ⟨⟨i,h2⟩,rfl⟩)
     simpa [hi] using this
    have HRE:=zh (rowsE_ok hall)
    have HFL:=zh hFl
    have cO:=hbO.cell
    have lO:=hbO.lt
    have cR:=hbR.cell
    have fR:=hbR.free
    have lR:=hbR.lt
    have cE:=hbE.cell
    have fE:=hbE.free
    have lE:=hbE.lt
    clear hall hFl
    gi_wp2
    have hK':=((KeepsOthers.setCell W ⟨w.heap.size+1,0,none⟩ (.slice (some ⟨wq.heap.size,0,none⟩) n n)).trans (KeepsOthers.setCell _ ⟨w.heap.size+1+1,0,none⟩ (.int .i64 0))).same D _ hK rfl
    refine ⟨by simp,.inl ⟨_,_,rfl,run_takeDeferred hK',?_⟩⟩
    have hg:=grownBy_putObj' ((W.setCell ⟨w.heap.size+1,0,none⟩ (.slice (some ⟨wq.heap.size,0,none⟩) n n)).setCell ⟨w.heap.size+1+1,0,none⟩ (.int .i64 0)) D (.deferred none)
    have hr9:=box_kept ((hbR.set 0 (.slice (some ⟨wq.heap.size,0,none⟩) n n)).setOther (a:=⟨w.heap.size+1+1,0,none⟩) (.int .i64 0) zi) hg (fun r e=>by cases e;exact ⟨_,hK',rfl⟩)
    have he9:=box_kept ((hbE.setOther (a:=⟨w.heap.size+1,0,none⟩) (.slice (some ⟨wq.heap.size,0,none⟩) n n) zi).set 0 (.int .i64 0)) hg (fun r e=>by cases e;exact ⟨_,hK',rfl⟩)
    have hf9:BFill _ wq.heap.size n (fun i=>∃ x∈upto rs.length (Nat.le_refl _),x.1=i) F:=((HFL.out.other (a:=⟨w.heap.size+1,0,none⟩) (.slice (some ⟨wq.heap.size,0,none⟩) n n) (by simp;omega)).other (a:=⟨w.heap.size+1+1,0,none⟩) (.int .i64 0) (by simp;omega)).kept (Keep.others hg (fun r e=>by cases e;exact ⟨_,hK',rfl⟩))
    have c1:=hr9.cell 0
    have c2:=he9.cell 0
    refine ⟨.tuple #[.slice (some ⟨wq.heap.size,0,none⟩) n n,.int .i64 0],?_,?_⟩
    ·simp at c1 c2
     simp [results,Tryz.f41,go_sem,c1,c2]
    ·rw [HRE.out]
     refine ⟨_,rfl,((hB.setCell (p:=⟨w.heap.size+1,0,none⟩) zi _).setCell (p:=⟨w.heap.size+1+1,0,none⟩) (by simp;omega) _).trans (belowK_b (w:=w) (Nat.le_refl _) _ D _ _ (by have:=hB0.size;simp at hD ⊢;omega) hK' rfl rfl),?_⟩
     rw [← EF.out] at hf9
     exact hf9.bds (fun i hi=>⟨⟨i,by rw [HN.out];exact hi⟩,by unfold upto;rw [List.mem_ofFn];exact ⟨⟨i,by rw [HN.out];exact hi⟩,rfl⟩,rfl⟩) (by rw [List.length_map,← HM.out,HN.out]) zo
   case stop =>
    rintro D c' pre W hD hpre ⟨⟨rfl,hin,hbR,hbE⟩,hB⟩ hK
    have HRE:Hid (rowsE m l=([],6)):=zh (by
     obtain ⟨x,hx⟩:=hin.out
     have hxm:x.1<m.length:=HM.out ▸ x.2
     have hgd:m.getD x.1 []=m[x.1]:=by simp [hxm]
     rw [hgd] at hx
     exact rowsE_bad (fun r hr=>(HROW.out r hr).2) ⟨_,List.getElem_mem _,hx⟩)
    gi_wp2
    refine ⟨by simp,.inl ⟨_,_,rfl,run_takeDeferred hK,?_⟩⟩
    have hg:=grownBy_putObj' W D (.deferred none)
    have hr9:=box_kept hbR hg (fun r e=>by cases e;exact ⟨_,hK,rfl⟩)
    have he9:=box_kept hbE hg (fun r e=>by cases e;exact ⟨_,hK,rfl⟩)
    have c1:=hr9.cell 0
    have c2:=he9.cell 0
    refine ⟨.tuple #[.slice none 0 0,.int .i64 6],?_,?_⟩
    ·simp at c1 c2
     simp [results,Tryz.f41,go_sem,c1,c2]
    ·rw [HRE.out]
     exact ⟨_,rfl,hB.trans (belowK_b (w:=w) (Nat.le_refl _) W D _ _ (by have:=hB0.size;omega) hK rfl rfl),none,0,rfl,Nat.le_refl _,by omega,fun _ h=>by cases h⟩
end Go.Proofs.matrix
namespace Go.Proofs.matrix
open Go Go.RowKit Go.SW Go.Num Go.Mem Go.Proofs Go.Dec Go.Fra band
theorem Bands_ok (v vl:Value) (m:List (List Fr)) (l:List (Int × Int)) (w:World) (hM:MatV w v m) (hl:Bds w 69 vl l) (hn:l.length≤1000000) (ht:Bld.Pow w) (he:whole.Er w) :
  Calls Tryz.prog 41 #[v,vl] w (BndPost w (bandsE m l)):=by
 unfold bandsE
 obtain ⟨p,c,rfl, -, -, -⟩:=hl.read
 cases hk:okM m with
 | false =>
  rw [if_neg zi]
  obtain ⟨a,cap,rfl⟩:=MatV.sl hM
  exact bands_check a m.length cap (.slice a m.length cap) m w hM hk p l.length c
 | true =>
  rw [if_pos rfl]
  obtain ⟨k1,k4,k5,k6,k7⟩:=okM_parts hk
  obtain ⟨b,off,cap,a0,cap0,rfl,lb,hc0⟩:=MatV.top hM zo
  cases ha:l.all (fun x=>bok x.1 x.2) with
  | false =>
   rw [if_neg zi]
   refine bands_rows b off cap (m.headD []).length a0 cap0 m.length l.length m (fun i=>l.getD i (0,0)) 30 p c w hM hk (BandsAt.of hl rfl) hc0 lb zo (.inl ⟨?_,rfl⟩) hn
   rw [← Bool.not_eq_true,List.all_eq_true] at ha
   have:∃ x∈l,bok x.1 x.2=false:=by
    apply Classical.byContradiction
    intro hne
    exact ha fun x hx=>by
     cases hb:bok x.1 x.2 with
     | true=>rfl
     | false=>exact absurd ⟨x,hx,hb⟩ hne
   obtain ⟨x,hx,hb⟩:=this
   obtain ⟨i,hi,rfl⟩:=List.getElem_of_mem hx
   exact ⟨i,hi,by simpa [hi] using hb⟩
  | true =>
   rw [if_pos rfl]
   rw [List.all_eq_true] at ha
   by_cases hlen:l.length=(m.headD []).length
   ·rw [if_pos hlen]
    obtain ⟨rs,hR,hm,hF⟩:=id hM
    rw [← hlen] at hc0
    refine bands_main b off cap l.length a0 cap0 m.length m l p c w rs hm hR hF hM hm k1 k4 hk hl rfl hc0 lb (fun r hr=>?_) zo zo (fun x hx=>ha x hx) ht he
    have h1:=k7 r hr
    refine ⟨h1.1.trans hlen.symm,row_good (fun a hr'=>?_) (fun x hx=>ha x hx) zo zo⟩
    have h2:=h1.2
    unfold chkL at h2
    split at h2
    ·rename_i h3
     exact List.all_eq_true.1 h3 a hr'
    ·cases h2
   ·rw [if_neg hlen]
    exact bands_rows b off cap (m.headD []).length a0 cap0 m.length l.length m (fun i=>l.getD i (0,0)) 2 p c w hM hk (BandsAt.of hl rfl) hc0 lb zo (.inr ⟨fun i hi=>by
     have:=ha l[i] (List.getElem_mem _)
     simpa [hi] using this,hlen,rfl⟩) hn
theorem bands_is {m:List (List Fr)} {l:List (Int × Int)} {r:List (Int × Int) × Int} (h:bandsE m l=r) (hn:l.length≤1000000):∀ x y W,MatV W x m→Bds W 69 y l→Bld.Pow W→whole.Er W→Calls Tryz.prog 41 #[x,y] W (fun e w'=>∃ v,e= .returned (.tuple #[v,.int .i64 r.2])∧Below W.heap.size W w'∧Bds w' 69 v r.1):=fun x y W h1 h2 h3 h4 =>
 h ▸ Bands_ok x y m l W h1 h2 hn h3 h4
theorem det_is {A:List (List Fr)} {x y:ByteArray} {k:Int} (h:detE A=(⟨x,y⟩,k)):∀ v W,MatV W v A→Bld.Pow W→Calls Tryz.prog 35 #[v] W (fun e w'=>e= .returned (.tuple #[.agg #[.string x,.string y],.int .i64 k])∧Below W.heap.size W w'):=fun v W h1 h2=>by
 have:=Det_at v A W h1 h2
 rw [h] at this
 exact this
end Go.Proofs.matrix
