/- Lemmas for the proof. No condition. -/
import Derived.Test.YtfhappbmgghgdaaGreatDoorIB01
import Derived.Test.YtfhappbmgghgdaaGreatDoorIB02
import Derived.Test.YtfhappbmgghgdaaGreatDoorIB03
import Derived.Test.YtfhappbmgghgdaaGreatDoorIB04
import Derived.Test.YtfhappbmgghgdaaGreatDoorIB05
import Derived.Test.YtfhappbmgghgdaaGreatDoorIB06
import Derived.Test.YtfhappbmgghgdaaGreatDoorIB07
import Derived.Test.YtfhappbmgghgdaaGreatDoorIB08
import Derived.Test.YtfhappbmgghgdaaGreatDoorIB09
import Derived.Test.YtfhappbmgghgdaaGreatDoorIB10
import Derived.Test.YtfhappbmgghgdaaGreatDoorIB11
import Derived.Test.YtfhappbmgghgdaaGreatDoorIB12
import Derived.Test.YtfhappbmgghgdaaGreatDoorIB13
import Derived.Test.YtfhappbmgghgdaaGreatDoorIB14
import Derived.Test.YtfhappbmgghgdaaGreatDoorIB15
import Derived.Test.YtfhappbmgghgdaaGreatDoorIB16
import Derived.Test.YtfhappbmgghgdaaGreatDoorIB17
import Derived.Test.YtfhappbmgghgdaaGreatDoorIB18
set_option linter.unusedVariables false
set_option linter.unusedSimpArgs false
set_option maxRecDepth 100000
set_option maxHeartbeats 16000000
namespace Go.Proofs.aL
open Go Go.RowKit Go.SW Go.Num Go.Mem Go.Proofs Go.Dec Go.Proofs.aC Go.dF
theorem zero_q:((0:Int):Rat) / ((1:Int):Rat)=0:=by decide+kernel
--for F=Add|Sub|Mul;G=aH8|aB5|aC5;P=xW|UY|mI;O=p+q|p - q|p*q;S=(Ck hp hq).mono zo|(VQ hp hq).mono zo|(VT hp hq).mono zo
end Go.Proofs.aL
namespace Go.Proofs.aI
open Go Go.RowKit Go.SW Go.Num Go.Mem Go.Proofs Go.Dec Go.dF Go.Proofs.aL Go.Proofs.matrix
theorem take_all {qs:List Rat} {k:Nat} (hk:k<qs.length) (h:∀ q∈qs.take k,iU q=true) (hq:iU qs[k]=true):∀ q∈qs.take (k+1),iU q=true:=fun q hm=>by
 rw [List.take_succ_eq_append_getElem hk,List.mem_append] at hm
 rcases hm with hm|hm
 ·exact h q hm
 ·rw [List.mem_singleton.1 hm];exact hq
theorem Out_at {q:Rat} (h:Sz1 q) (x:Value) (W:World) (hx:Ra W x q):Calls Tryz.prog 75 #[x] W (ai1 W (wr q)):=Dv x q W hx h.four.1 h.four.2
theorem out_yes {q:Rat} (h:Sz1 q) (hq:iU q=true) (x:Value) (W:World) (hx:Ra W x q):Calls Tryz.prog 75 #[x] W (fun e w'=>e= .returned (.tuple #[(Fr.of q).v,.int .i64 0])∧Below W.heap.size W w'):=by
 have:=Out_at h x W hx
 rw [show wr q=(Fr.of q,0) by unfold wr;rw [if_pos hq]] at this
 exact this
theorem out_no {q:Rat} (h:Sz1 q) (hq:iU q=false) (x:Value) (W:World) (hx:Ra W x q):Calls Tryz.prog 75 #[x] W (fun e w'=>e= .returned (.tuple #[.agg #[.string ⟨#[]⟩,.string ⟨#[]⟩],.int .i64 6])∧Below W.heap.size W w'):=by
 have:=Out_at h x W hx
 rw [show wr q=(Fr.no,6) by unfold wr;rw [if_neg (by simp [hq])]] at this
 exact this
theorem all_no {qs:List Rat} {k:Nat} (hk:k<qs.length) (h:iU qs[k]=false):qs.all iU=false:=by
 rw [Bool.eq_false_iff]
 intro e
 have:=List.all_eq_true.1 e _ (List.getElem_mem hk)
 rw [h] at this
 cases this
theorem Told_ok (v:Value) (qs:List Rat) (w:World) (h:xH w v qs) (hs:∀ q∈qs,Sz1 q) (hn:qs.length≤1000) :
  Calls Tryz.prog 72 #[v] w (UZ w qs):=by
 obtain ⟨i0,hi,hz0,hz1,hz2⟩:=info_parts qE
 obtain ⟨a,cap,rfl,hc1,hc2,hread⟩:=xH.at h
 have H:=zh hread
 have HS:=zh hs
 clear h hread hs
 go_enter Tryz.func72,Tryz.ntmps72
 go_wp2_with fail
 go_loopw [4,5] (fun ov iv wr=>∃ k:Nat,iv= .int .i64 (k:Int)∧k≤qs.length∧Hid (dQ wr w.heap.size 59 2 RFr ov ((qs.take k).map Fr.of))∧Hid (∀ q∈qs.take k,iU q=true)∧Below w.heap.size w wr) (fun _ iv _=>qs.length - (intOf iv).toNat)
 case atStart=>exact ⟨0,rfl,by omega,zh (dQ.nil _ _ _ _ _),zh (fun q h=>by cases h),Below.refl _ _⟩
 case round =>
  obtain ⟨k,rfl,hk,HG,HK,hb⟩:=hrel
  rcases Nat.lt_or_ge k qs.length with hlt|hge
  ·obtain ⟨b,off,bn,pn,ln,cn,bd,pd,ld,cd,rfl,hbl,x0,x1,x2,x3,hra⟩:=H.out k hlt
   have c0:=(hb.cell (p:=⟨b,off+k*4,none⟩) hbl).trans x0
   have c1:=(hb.cell (p:=⟨b,off+k*4+1,none⟩) hbl).trans x1
   have c2:=(hb.cell (p:=⟨b,off+k*4+2,none⟩) hbl).trans x2
   have c3:=(hb.cell (p:=⟨b,off+k*4+3,none⟩) hbl).trans x3
   have RA:=zh (hra.later hb)
   have SQ:=zh (HS.out _ (List.getElem_mem hlt))
   clear x0 x1 x2 x3 hra
   obtain ⟨av,cv,rfl⟩:=HG.out.at (n:=k) (by simp;omega)
   cases hv:iU qs[k] with
   | true =>
    have HV:=zh hv
    have OU:=zh (out_yes SQ.out hv _ wr RA.out)
    obtain ⟨⟨s,t⟩,hf⟩:∃ y,Fr.of qs[k]=y:=⟨_,rfl⟩
    rw [hf] at OU
    have HF:=zh hf
    replace OU:Hid (Calls Tryz.prog 75 #[.agg #[.bool bn,.slice pn ln cn,.bool bd,.slice pd ld cd]] wr (fun e w'=>e= .returned (.tuple #[.agg #[.string s,.string t],.int .i64 0])∧Below wr.heap.size wr w')):=OU
    clear hv hf
    go_wp2_with fail
    refine OU.out.mono ?_
    rintro e w1 ⟨rfl,hb1⟩
    have HB:=zh (Bt hb hb1)
    replace HG:=zh (HG.out.later hb1 (RFr.stay _))
    clear hb hb1 c0 c1 c2 c3 OU
    go_wp2_with (at_builtin;refine wpList_grow (w0:=w) rfl (.tmp 25) (.tmp 27) 29 rfl 59 i0 (.agg #[.string ⟨#[]⟩,.string ⟨#[]⟩]) 2 32 Tryz.underlying29 hi hz0 hz1 hz2 rfl zd RFr _ ((qs.take k).map Fr.of) rfl (HG.out.later belA (RFr.stay _)) (Bt HB.out belA) _ [.string s,.string t] ⟨s,t⟩ rfl (boxA) rfl ?c1 rfl (RFr.stay _) ?c2 zo ?_)
    case c1=>intro u hu;simp only [List.mem_cons,List.not_mem_nil,or_false] at hu;rcases hu with rfl|rfl<;>rfl
    case c2=>simp;omega
    intro v' w2 hg hb2 _
    have HG2:Hid (dQ w2 w.heap.size 59 2 RFr v' ((qs.take (k+1)).map Fr.of)):=zh (by rw [List.take_succ_eq_append_getElem hlt,List.map_append,List.map_singleton,HF.out,List.map_take];exact hg)
    clear hg HG
    go_wp2_with fail
    go_roundw
    case rel=>exact ⟨k+1,by go_num,by omega,HG2,zh (take_all hlt HK.out HV.out),hb2⟩
    case measure=>exact zM
   | false =>
    have HN:=zh (all_no hlt hv)
    have OU:=zh (out_no SQ.out hv _ wr RA.out)
    clear hv
    go_wp2_with fail
    refine OU.out.mono ?_
    rintro e w1 ⟨rfl,hb1⟩
    have HB:=zh (Bt hb hb1)
    go_wp2_with fail
    go_ret2
    exact .inr ⟨HN.out,rfl,Bt HB.out belA⟩
  ·obtain rfl:k=qs.length:=by omega
   rw [List.take_length] at HG HK
   obtain ⟨av,cv,rfl⟩:=HG.out.slice
   have HY:Hid (qs.all iU=true):=zh (List.all_eq_true.2 HK.out)
   go_wp2_with fail
   go_ret2
   exact .inl ⟨HY.out,_,rfl,hb,HG.out.YG.PW⟩
theorem allM_no {m:RM} {k:Nat} (hk:k<m.length) (h:m[k].all iU=false):uR m=false:=by
 unfold uR
 rw [Bool.eq_false_iff]
 intro e
 have:=List.all_eq_true.1 e _ (List.getElem_mem hk)
 rw [h] at this
 cases this
theorem takeM_all {m:RM} {k:Nat} (hk:k<m.length) (h:∀ r∈m.take k,r.all iU=true) (hq:m[k].all iU=true):∀ r∈m.take (k+1),r.all iU=true:=fun q hm=>by
 rw [List.take_succ_eq_append_getElem hk,List.mem_append] at hm
 rcases hm with hm|hm
 ·exact h q hm
 ·rw [List.mem_singleton.1 hm];exact hq
theorem OutM_ok (v:Value) (m:RM) (w:World) (h:Dw w v m) (hs:∀ r∈m,∀ q∈r,Sz1 q) (hn:m.length≤1000∧∀ r∈m,r.length≤1000) :
  Calls Tryz.prog 69 #[v] w (MatPost w (if uR m then 0 else 6) m.fr):=by
 obtain ⟨i0,hi,hz0,hz1,hz2⟩:=info_parts Lu
 obtain ⟨a,cap,rfl,hc1,hc2,hread⟩:=Dw.at h
 have H:=zh hread
 have HS:=zh hs
 have HN:=zh hn.2
 have hn1:=hn.1
 have NO:=zh (fun k hk h=>show (if uR m then (0:Int) else 6)=6 by rw [allM_no (m:=m) (k:=k) hk h];rfl)
 have YES:Hid ((∀ r∈m,r.all iU=true)→(if uR m then (0:Int) else 6)=0):=zh fun h=>by rw [show uR m=true from List.all_eq_true.2 h];rfl
 generalize (if uR m then (0:Int) else 6)=z at *
 clear h hread hs hn
 go_enter Tryz.func69,Tryz.ntmps69
 go_wp2_with fail
 go_loopw [4,5] (fun ov iv wr=>∃ k:Nat,iv= .int .i64 (k:Int)∧k≤m.length∧Hid (dQ wr w.heap.size 29 1 uY ov ((m.take k).map fun r=>r.map Fr.of))∧Hid (∀ r∈m.take k,r.all iU=true)∧Below w.heap.size w wr) (fun _ iv _=>m.length - (intOf iv).toNat)
 case atStart=>exact ⟨0,rfl,by omega,zh (dQ.nil _ _ _ _ _),zh (fun q h=>by cases h),Below.refl _ _⟩
 case round =>
  obtain ⟨k,rfl,hk,HG,HK,hb⟩:=hrel
  rcases Nat.lt_or_ge k m.length with hlt|hge
  ·obtain ⟨b,off,a',c',rfl,hbl,hx1,hx2⟩:=H.out k hlt
   have hc1:=(hb.cell (p:=⟨b,off+k,none⟩) hbl).trans hx1
   have TO:=zh (Told_ok _ m[k] wr (hx2.later hb) (HS.out _ (List.getElem_mem hlt)) (HN.out _ (List.getElem_mem hlt)))
   clear hx1 hx2
   generalize m[k].length=n at *
   obtain ⟨av,cv,rfl⟩:=HG.out.at (n:=k) (by simp;omega)
   go_wp2_with fail
   refine TO.out.mono ?_
   rintro e w1 (⟨hy,vo,rfl,hb1,hf⟩|⟨hy,rfl,hb1⟩)
   ·obtain ⟨ax,cx,rfl, -⟩:=hf.read
    have HF:=zh hf
    have HY:=zh hy
    have HB:=zh (Bt hb hb1)
    replace HG:=zh (HG.out.later hb1 (uY.stay zi))
    clear hf hy hb hb1 hc1
    have hl:(m[k].map Fr.of).length=m[k].length:=List.length_map _
    rw [hl] at HF ⊢
    clear hl
    generalize m[k].length=n2 at *
    go_wp2_with (at_builtin;refine wpList_grow (w0:=w) rfl (.tmp 25) (.tmp 27) 23 rfl 29 i0 (.slice none 0 0) 1 24 Tryz.underlying23 hi hz0 hz1 hz2 rfl zd uY _ ((m.take k).map fun r=>r.map Fr.of) rfl (HG.out.later belA (uY.stay zi)) (Bt HB.out belA) _ [.slice ax n2 cx] (m[k].map Fr.of) rfl (ah.new _ _ _) rfl ?c1 ⟨_,rfl,HF.out.later belA⟩ (uY.stay zi) ?c2 zo ?_)
    case c1=>intro u hu;simp only [List.mem_cons,List.not_mem_nil,or_false] at hu;rcases hu with rfl;rfl
    case c2=>simp;omega
    intro v' w2 hg hb2 _
    have HG2:Hid (dQ w2 w.heap.size 29 1 uY v' ((m.take (k+1)).map fun r=>r.map Fr.of)):=zh (by rw [List.take_succ_eq_append_getElem hlt,List.map_append,List.map_singleton];first|exact hg|(rw [List.map_take];exact hg))
    clear hg HG
    go_wp2_with fail
    go_roundw
    case rel=>exact ⟨k+1,by go_num,by omega,HG2,zh (takeM_all hlt HK.out HY.out),hb2⟩
    case measure=>exact zM
   ·have HZ:=zh (NO.out k hlt hy)
    have HB:=zh (Bt hb hb1)
    clear hy
    go_wp2_with fail
    go_ret2
    rw [HZ.out]
    exact MatPost.no HB.out zd
  ·obtain rfl:k=m.length:=by omega
   rw [List.take_length] at HG HK
   have HZ:=zh (YES.out HK.out)
   obtain ⟨av,cv,rfl⟩:=HG.out.slice
   go_wp2_with fail
   go_ret2
   rw [HZ.out]
   exact MatPost.yes hb HG.out.YG.Jr
end Go.Proofs.aI
namespace Go.Proofs.aI
open Go Go.RowKit Go.SW Go.Num Go.Mem Go.Proofs Go.Dec Go.dF Go.Proofs.aL Go.Proofs.matrix
def prodF (p q:List Rat) (i:Nat):Rat:=p.getD i 0*q.getD i 0
theorem prodF_sz {p q:List Rat} (hp:∀ x∈p,qW 67 x) (hq:∀ x∈q,qW 67 x) (i:Nat):qW 134 (prodF p q i):=by
 have h0:qW 67 0:=⟨by decide+kernel,by decide+kernel⟩
 have e:∀ l:List Rat,(∀ x∈l,qW 67 x)→qW 67 (l.getD i 0):=fun l h=>by
  rw [List.getD_eq_getElem?_getD]
  rcases Nat.lt_or_ge i l.length with hi|hi
  ·rw [List.getElem?_eq_getElem hi];exact h _ (List.getElem_mem hi)
  ·rw [List.getElem?_eq_none hi];exact h0
 exact VT (e p hp) (e q hq)
theorem psum_Sz1 {f:Nat→Rat} (h:∀ i,qW 134 (f i)) {k:Nat} (hk:k≤4):Sz1 (qw f k):=(qZ h k).mono (by
 have:2^k≤2^4:=Nat.pow_le_pow_right zo hk
 omega)
theorem Quick0 (W:World):Calls Tryz.prog 127 #[.int .i64 0,.int .i64 1] W (pz W 0):=by
 have:=UW 0 1 zo zo zo zo zo W
 rwa [zero_q] at this
theorem Dot_ok (v1 v2:Value) (p q:List Rat) (w:World) (h1:xH w v1 p) (h2:xH w v2 q) (hl:q.length=p.length) (hn:p.length≤4) (hp:∀ x∈p,qW 67 x) (hq:∀ x∈q,qW 67 x) :
  Calls Tryz.prog 68 #[v1,v2] w (pz w (iV p q)):=by
 rw [OA hl]
 have hf:=qZ (prodF_sz hp hq)
 have hfe:(fun i=>p.getD i 0*q.getD i 0)=prodF p q:=rfl
 rw [hfe]
 obtain ⟨a1,aG6,rfl, -, hc1,hr1⟩:=xH.at h1
 obtain ⟨a2,cap2,rfl, -, hc2,hr2⟩:=xH.at h2
 have H1:Hid (∀ k (_:k<p.length),∃ b off bn pn ln cn bd pd ld cd,a1=some ⟨b,off,none⟩∧b<w.heap.size∧w.cell? ⟨b,off+k*4,none⟩=some (.bool bn)∧w.cell? ⟨b,off+k*4+1,none⟩=some (.slice pn ln cn)∧w.cell? ⟨b,off+k*4+2,none⟩=some (.bool bd)∧w.cell? ⟨b,off+k*4+3,none⟩=some (.slice pd ld cd) ∧
   Ra w (.agg #[.bool bn,.slice pn ln cn,.bool bd,.slice pd ld cd]) (p.getD k 0)):=zh fun k hk=>by
  have:=hr1 k hk
  rw [show p[k]=p.getD k 0 by simp [hk]] at this
  exact this
 have H2:Hid (∀ k (_:k<p.length),∃ b off bn pn ln cn bd pd ld cd,a2=some ⟨b,off,none⟩∧b<w.heap.size∧w.cell? ⟨b,off+k*4,none⟩=some (.bool bn)∧w.cell? ⟨b,off+k*4+1,none⟩=some (.slice pn ln cn)∧w.cell? ⟨b,off+k*4+2,none⟩=some (.bool bd)∧w.cell? ⟨b,off+k*4+3,none⟩=some (.slice pd ld cd) ∧
   Ra w (.agg #[.bool bn,.slice pn ln cn,.bool bd,.slice pd ld cd]) (q.getD k 0)):=zh fun k hk=>by
  have hk':k<q.length:=by omega
  have:=hr2 k hk'
  rw [show q[k]=q.getD k 0 by simp [hk']] at this
  exact this
 rw [hl]
 have PS:Hid (∀ i,qW 134 (prodF p q i)):=zh (prodF_sz hp hq)
 have TI:Hid (∀ k x y W,Ra W x (p.getD k 0)→Ra W y (q.getD k 0)→Calls Tryz.prog 129 #[x,y] W (pz W (prodF p q k))):=zh fun k x y W hx hy=>mI x y _ _ W hx hy (by
  have e:∀ l:List Rat,(∀ x∈l,qW 67 x)→qW 67 (l.getD k 0):=fun l h=>by
   rw [List.getD_eq_getElem?_getD]
   rcases Nat.lt_or_ge k l.length with hi|hi
   ·rw [List.getElem?_eq_getElem hi];exact h _ (List.getElem_mem hi)
   ·rw [List.getElem?_eq_none hi];exact ⟨by decide+kernel,by decide+kernel⟩
  exact (e p hp).mono zo) (by
  have e:∀ l:List Rat,(∀ x∈l,qW 67 x)→qW 67 (l.getD k 0):=fun l h=>by
   rw [List.getD_eq_getElem?_getD]
   rcases Nat.lt_or_ge k l.length with hi|hi
   ·rw [List.getElem?_eq_getElem hi];exact h _ (List.getElem_mem hi)
   ·rw [List.getElem?_eq_none hi];exact ⟨by decide+kernel,by decide+kernel⟩
  exact (e q hq).mono zo)
 generalize prodF p q=F at *
 have PL:Hid (∀ k,k<4→∀ x y W,Ra W x (qw F k)→Ra W y (F k)→Calls Tryz.prog 128 #[x,y] W (pz W (qw F (k+1)))):=zh fun k hk x y W hx hy=>xW x y _ _ W hx hy ((psum_Sz1 PS.out zo).mono zo) ((PS.out k).mono zo)
 clear h1 h2 hr1 hr2 hp hq hf hfe
 generalize p.length=n at *
 clear hl
 go_enter Tryz.func68,Tryz.ntmps68
 go_wp2_with fail
 obtain ⟨w0,E0⟩:∃ y,w.alloc (.cells #[.bool false,.slice none 0 0,.bool false,.slice none 0 0] 123)=y:=⟨_,rfl⟩
 have hb0:Below w.heap.size w w0:=by rw [← E0];exact belA
 have X4:Hid (ah w0 w.heap.size #[.bool false,.slice none 0 0,.bool false,.slice none 0 0] 123):=zh (by rw [← E0];exact ah.new _ _ _)
 rw [E0]
 clear E0
 refine (Quick0 _).mono ?_
 rintro e w1 ⟨v,rfl,hb1,hra⟩
 obtain ⟨bn,pn,ln,cn,bd,pd,ld,cd,rfl, -, -⟩:=id hra
 replace X4:=X4.bl hb1
 have HB1:=zh (Bt hb0 hb1)
 obtain ⟨p4,E4⟩:∃ y,w.heap.size=y:=⟨_,rfl⟩
 have h44:w.heap.size≤p4:=by omega
 rw [E4] at X4 ⊢
 clear E4
 have hne:=X4.out.lt
 go_wp2_with fail
 have h12:Below w1.heap.size w1 (w1.alloc (.cells #[.bool bn,.slice pn ln cn,.bool bd,.slice pd ld cd] 123)):=belA
 have hx5:=ah.new w1 #[.bool bn,.slice pn ln cn,.bool bd,.slice pd ld cd] 123
 obtain ⟨w2,E2⟩:∃ y,w1.alloc (.cells #[.bool bn,.slice pn ln cn,.bool bd,.slice pd ld cd] 123)=y:=⟨_,rfl⟩
 rw [E2] at h12 hx5 ⊢
 replace X4:=X4.bl h12
 have IC:=zh (hra.later h12)
 have HB2:Hid (Below w.heap.size w w2):=zh (Bt HB1.out h12)
 have h05:=HB1.out.size
 obtain ⟨p5,E5⟩:∃ y,w1.heap.size=y:=⟨_,rfl⟩
 rw [E5] at hx5 hne h05 ⊢
 have X5:=zh hx5
 clear E2 E5 hx5 h12 hb1 hra HB1 hb0
 go_loopw [6] (fun iv wr=>∃ (k:Nat) (bn:Bool) (pn:Option Addr) (ln cn:Nat) (bd:Bool) (pd:Option Addr) (ld cd:Nat),iv= .int .i64 (k:Int)∧k≤n∧Hid (ah wr p5 #[.bool bn,.slice pn ln cn,.bool bd,.slice pd ld cd] 123)∧Hid (ah wr p4 #[.bool false,.slice none 0 0,.bool false,.slice none 0 0] 123)∧Hid (Ra wr (.agg #[.bool bn,.slice pn ln cn,.bool bd,.slice pd ld cd]) (qw F k))∧Hid (Below w.heap.size w wr)) (fun iv _=>n - (intOf iv).toNat)
 case atStart=>exact ⟨0,_,_,_,_,_,_,_,_,rfl,by omega,X5,X4,IC,HB2⟩
 case round =>
  obtain ⟨k,bn,pn,ln,cn,bd,pd,ld,cd,rfl,hk,X5,X4,IC,hb⟩:=hrel
  have c5:=X5.out.cell
  have l5:=X5.out.lt
  rcases Nat.lt_or_ge k n with hlt|hge
  ·obtain ⟨b,off,s1,s2,s3,s4,s5,s6,s7,s8,rfl,hbl,x0,x1,x2,x3,r1⟩:=H1.out k hlt
   obtain ⟨b',off',t1,t2,t3,t4,t5,t6,t7,t8,rfl,kg,y0,y1,y2,y3,r2⟩:=H2.out k hlt
   replace x0:=(hb.out.cell (p:=⟨b,off+k*4,none⟩) hbl).trans x0
   replace y0:=(hb.out.cell (p:=⟨b',off'+k*4,none⟩) kg).trans y0
   replace x1:=(hb.out.cell (p:=⟨b,off+k*4+1,none⟩) hbl).trans x1
   replace y1:=(hb.out.cell (p:=⟨b',off'+k*4+1,none⟩) kg).trans y1
   replace x2:=(hb.out.cell (p:=⟨b,off+k*4+2,none⟩) hbl).trans x2
   replace y2:=(hb.out.cell (p:=⟨b',off'+k*4+2,none⟩) kg).trans y2
   replace x3:=(hb.out.cell (p:=⟨b,off+k*4+3,none⟩) hbl).trans x3
   replace y3:=(hb.out.cell (p:=⟨b',off'+k*4+3,none⟩) kg).trans y3
   have R1:=zh (r1.later hb.out)
   have R2:=zh (r2.later hb.out)
   have b1:b<wr.heap.size:=Nat.lt_of_lt_of_le hbl hb.out.size
   have b2:b'<wr.heap.size:=Nat.lt_of_lt_of_le kg hb.out.size
   clear r1 r2 hbl kg
   go_wp2_with fail
   refine aD [(.read,0),(.pure,1),(.pure,2),(.pure,3),(.read,4),(.pure,5),(.pure,6),(.pure,7),(.read,8),(.ext,9),(.ext,10),(.fin,11)] zk zk zR zP ?_;refine Wk.out ?_;(iterate 9 (first|(apply wk_skip;(rfl);(rfl);(rfl);(intro J hJ;go_simp;(with_reducible refine hJ _ ?_);clear hJ J))|(apply wk_len;(rfl);(rfl);(rfl);(rfl);(exact zk);(intro J hJ;go_simp;(with_reducible refine hJ _ ?_);clear hJ J))|(apply wk_pure;(rfl);(rfl);(intro J hJ;go_simp;(with_reducible refine hJ _ ?_);clear hJ J))|(apply wk_load;(rfl);(rfl);(rfl);(rfl);(intro J hJ;go_simp;(with_reducible refine hJ _ ?_);clear hJ J;try go_simp))))
   refine wk_ext rfl rfl (fun wa hba J hJ=>?_);go_simp
   have z1:Below wr.heap.size wr wa:=belA
   refine (TI.out k _ _ _ (R1.out.later z1) (R2.out.later z1)).mono ?_
   rintro e wb ⟨v,rfl,hbb,hrt⟩
   obtain ⟨u1,u2,u3,u4,u5,u6,u7,u8,rfl, -, -⟩:=id hrt
   have HT:=zh hrt
   refine hJ _ _ hbb ?_
   clear hJ J hrt
   refine wk_ext rfl rfl (fun wc hbc J hJ=>?_);go_simp
   have z2:Below wb.heap.size wb wc:=belA
   have z3:Below wr.heap.size wr wc:=Bt (Bt z1 hbb) z2
   refine (PL.out k zo _ _ _ (IC.out.later z3) (HT.out.later z2)).mono ?_
   rintro e wd ⟨v,rfl,hbd,hrs⟩
   obtain ⟨v1,v2,v3,v4,v5,v6,v7,v8,rfl, -, -⟩:=id hrs
   have HS:=zh hrs
   refine hJ _ _ hbd ?_
   clear hJ J hrs
   refine wk_fin [_] rfl (fun wf hbf=>?_)
   have z4:Below wd.heap.size wd wf:=belA
   have z5:Below wr.heap.size wr wf:=Bt (Bt z3 hbd) z4
   have Y5:=X5.out.later z5
   have d5:=Y5.cell
   have e5:=Y5.lt
   have f5:=Y5.free
   have g4:=X4.out.later z5
   have HS4:=zh (Ra.sI (HS.out.later z4) Y5 zd (.bool v1) (.slice v2 v3 v4) (.bool v5) (.slice v6 v7 v8))
   have HB4:Hid (Below w.heap.size w wf):=zh (Bt hb.out z5)
   have hn4:p4≠p5:=by omega
   clear hba hbb hbc hbd hbf z1 z2 z3 z4 z5 c5 l5 x0 x1 x2 x3 y0 y1 y2 y3
   go_wp2_with fail
   go_roundw
   case rel=>exact ⟨k+1,v1,v2,v3,v4,v5,v6,v7,v8,by go_num,by omega,zh ((((Y5.set 0 _).set 1 _).set 2 _).set 3 _),zh ((((g4.setOther _ hn4).setOther _ hn4).setOther _ hn4).setOther _ hn4),HS4,zh ((((HB4.out.setCell h05 _).setCell h05 _).setCell h05 _).setCell h05 _)⟩
   case measure=>exact zM
  ·obtain rfl:k=n:=by omega
   have c4:=X4.out.cell
   have l4:=X4.out.lt
   have f4:=X4.out.free
   have h04:=hb.out.size
   go_wp2_with fail
   have Y4:=(((X4.out.set 0 (.bool bn)).set 1 (.slice pn ln cn)).set 2 (.bool bd)).set 3 (.slice pd ld cd)
   refine dO rfl rfl Y4 Tryz.underlying123 rfl zk ?_
   exact ⟨_,rfl,(((hb.out.setCell h44 _).setCell h44 _).setCell h44 _).setCell h44 _,Ra.sI IC.out X4.out zd _ _ _ _⟩
end Go.Proofs.aI
namespace Go.Proofs.aI
open Go Go.RowKit Go.SW Go.Num Go.Mem Go.Proofs Go.Dec Go.dF Go.Proofs.aL Go.Proofs.matrix
theorem fits_of {q:Rat} (h:iU q=true):Fits (Fr.of q):=by
 unfold iU at h
 rw [Bool.and_eq_true] at h
 have h1:=dZ.1 h.1
 have h2:=dZ.1 h.2
 have h3:=itoa_len q.num
 have h4:=itoa_len (q.den:Int)
 rw [Int.natAbs_natCast] at h4
 exact ⟨by show (Lib.itoa q.num).length≤_;omega,by show (Lib.itoa (q.den:Int)).length≤_;omega⟩
theorem fitsL {qs:List Rat} (h:∀ q∈qs,iU q=true):∀ x∈qs.map Fr.of,Fits x:=fun x hx=>by
 obtain ⟨q,hq,rfl⟩:=List.mem_map.1 hx
 exact fits_of (h q hq)
theorem okL_of {qs:List Rat} (h:∀ q∈qs,iU q=true):Vo (qs.map Fr.of)=true:=by rw [Lg,LX h];rfl
theorem okM_of {m:RM} {n:Nat} (h:m.ok n):kW m.fr=true:=by
 have:=h.Qa
 unfold gY at this
 cases e:kW m.fr with
 | true=>rfl
 | false=>rw [e] at this;cases this
theorem fitsM {m:RM} {n:Nat} (h:m.ok n):Zu m.fr:=fun r hr=>by
 obtain ⟨s,hs,rfl⟩:=List.mem_map.1 hr
 exact fitsL (h.2.2.2.2 s hs).2
theorem szM {m:RM} {n:Nat} (h:m.ok n):∀ r∈m,∀ q∈r,qW 67 q:=fun r hr q hq=>sN ((h.2.2.2.2 r hr).2 q hq)
theorem Right_yes (v:Value) (m:RM) (n:Nat) (w:World) (h:aP w v m.fr) (hm:m.ok n):Calls Tryz.prog 57 #[v] w (fun e w'=>e= .returned (.bool true)∧Below w.heap.size w w'):=okM_of hm ▸ Right_ok v m.fr w h (fitsM hm)
theorem dot_Sz1 {p q:List Rat} (hl:q.length=p.length) (hn:p.length≤4) (hp:∀ x∈p,qW 67 x) (hq:∀ x∈q,qW 67 x):Sz1 (iV p q):=by
 rw [OA hl]
 exact psum_Sz1 (prodF_sz hp hq) hn
theorem Apply_ok (v vl:Value) (m:RM) (qs:List Rat) (T:TypeId) (w:World) (h:aP w v m.fr) (hl:gH w T vl (qs.map Fr.of)) (hm:m.ok qs.length) (hq:∀ q∈qs,iU q=true) :
  Calls Tryz.prog 30 #[v,vl] w (UZ w (m.map fun r=>iV r qs)):=by
 obtain ⟨i0,hi,hz0,hz1,hz2⟩:=info_parts ad2
 have RI:=zh (fun W (hW:Below w.heap.size w W)=>Right_yes v m _ W (h.later hW) hm)
 have LI:Hid (∀ W,Below w.heap.size w W→Calls Tryz.prog 55 #[vl] W (fun e w'=>e= .returned (.bool true)∧Below W.heap.size W w')):=zh fun W hW=>okL_of hq ▸ Yn vl _ T W (hl.later hW) (fitsL hq)
 obtain ⟨m1,m4,n1,n4,hrows⟩:=id hm
 have IN:=zh (fun W (hW:Below w.heap.size w W)=>Ai v m W (h.later hW) (fun r hr=>(hrows r hr).2) ⟨by omega,fun r hr=>by rw [(hrows r hr).1];omega⟩)
 have VA:=zh (fun W (hW:Below w.heap.size w W)=>Pf vl qs T W (hl.later hW) hq zo)
 have hd:∀ r∈m,r.length=qs.length∧(∀ x∈r,qW 67 x):=fun r hr=>⟨(hrows r hr).1,szM hm r hr⟩
 have HD:=zh hd
 have HQ:Hid (∀ x∈qs,qW 67 x):=zh fun x hx=>sN (hq x hx)
 have TO:Hid (∀ v W,xH W v (m.map fun r=>iV r qs)→Calls Tryz.prog 72 #[v] W (UZ W (m.map fun r=>iV r qs))):=zh fun v W hv=>Told_ok v _ W hv (fun q hq'=>by
  obtain ⟨r,hr,rfl⟩:=List.mem_map.1 hq'
  exact dot_Sz1 (hd r hr).1.symm (by rw [(hd r hr).1];omega) (hd r hr).2 HQ.out) (by rw [List.length_map];omega)
 obtain ⟨a,cap,rfl, -, -, hread⟩:=aP.read h
 have hfl:m.fr.length=m.length:=List.length_map _
 obtain ⟨b,off,a0,c0,rfl,lb,cell0, -⟩:=hread 0 zo
 have e0:(m.fr[0]'zo).length=qs.length:=by
  simp only [RM.fr,List.getElem_map,List.length_map]
  exact (hd _ (List.getElem_mem _)).1
 rw [e0] at cell0
 obtain ⟨al,cl,rfl, -, -, -⟩:=hl.read
 have hll:(qs.map Fr.of).length=qs.length:=List.length_map _
 rw [hll] at LI VA ⊢
 rw [hfl] at RI IN ⊢
 have h0m:0<m.length:=by omega
 clear h hl hm hq hrows hread hd e0 hfl hll
 go_enter Tryz.func30,Tryz.ntmps30
 go_wp2_with fail
 refine (RI.out _ (Below.refl _ _)).mono ?_
 rintro e w1 ⟨rfl,hb1⟩
 go_wp2_with fail
 refine (LI.out _ hb1).mono ?_
 rintro e w2 ⟨rfl,hb2⟩
 have h2:=Bt hb1 hb2
 have ck:=(h2.cell (p:=⟨b,off,none⟩) lb).trans cell0
 have l2:b<w2.heap.size:=Nat.lt_of_lt_of_le lb h2.size
 go_wp2_with fail
 refine (IN.out _ h2).mono ?_
 rintro e w3 ⟨v,rfl,hb3,hmv⟩
 have h3:=Bt h2 hb3
 obtain ⟨ax,cx,rfl⟩:=SlV.slice hmv
 clear ck l2
 go_wp2_with fail
 refine (VA.out _ h3).mono ?_
 rintro e w4 ⟨v,rfl,hb4,hrv⟩
 obtain ⟨ay,cy,rfl⟩:=SlV.slice hrv
 have HM:=zh (hmv.later hb4)
 have HR:=zh hrv
 have HB:=zh (Bt h3 hb4)
 have H:Hid (∀ k (_:k<m.length),∃ b off a' c',ax=some ⟨b,off,none⟩∧b<w4.heap.size∧w4.cell? ⟨b,off+k,none⟩=some (.slice a' m[k].length c')∧xH w4 (.slice a' m[k].length c') m[k]):=zh (by
  obtain ⟨a',c',e1, -, -, hat⟩:=Dw.at HM.out
  simp only [Value.slice.injEq,true_and] at e1
  obtain ⟨rfl,rfl⟩:=e1
  exact hat)
 clear hmv hrv hb1 hb2 hb3 hb4 h2 h3 cell0 lb RI LI IN VA HM
 obtain ⟨nq,enq⟩:∃ y,qs.length=y:=⟨_,rfl⟩
 have ENQ:=zh enq
 rw [enq] at HD HR n1 n4 ⊢
 clear enq
 go_wp2_with fail
 go_loopw [8,9] (fun ov iv wr=>∃ k:Nat,iv= .int .i64 (k:Int)∧k≤m.length∧Hid (dQ wr w4.heap.size 123 4 Vt ov ((m.take k).map fun r=>iV r qs))∧Below w4.heap.size w4 wr) (fun _ iv _=>m.length - (intOf iv).toNat)
 case atStart=>exact ⟨0,rfl,by omega,zh (dQ.nil _ _ _ _ _),Below.refl _ _⟩
 case round =>
  obtain ⟨k,rfl,hk,HG,hb⟩:=hrel
  rcases Nat.lt_or_ge k m.length with hlt|hge
  ·obtain ⟨b,off,a',c',rfl,hbl,hx1,hx2⟩:=H.out k hlt
   have hc1:=(hb.cell (p:=⟨b,off+k,none⟩) hbl).trans hx1
   have DO:=zh (Dot_ok _ _ m[k] qs wr (hx2.later hb) (HR.out.later hb) (ENQ.out.trans (HD.out _ (List.getElem_mem hlt)).1.symm) (by rw [(HD.out _ (List.getElem_mem hlt)).1];omega) (HD.out _ (List.getElem_mem hlt)).2 HQ.out)
   clear hx1 hx2
   generalize m[k].length=n at *
   obtain ⟨av,cv,rfl⟩:=HG.out.at (n:=k) (by simp;omega)
   go_wp2_with fail
   refine DO.out.mono ?_
   rintro e w1 ⟨v,rfl,hb1,hra⟩
   obtain ⟨bn,pn,ln,cn,bd,pd,ld,cd,rfl, -, -⟩:=id hra
   have HA:=zh hra
   have HB1:=zh (Bt hb hb1)
   replace HG:=zh (HG.out.later hb1 (Vt.stay zi))
   clear hra hb hb1 hc1
   go_wp2_with (at_builtin;refine wpList_grow (w0:=w4) rfl (.tmp 33) (.tmp 40) 118 rfl 123 i0 (.agg #[.bool false,.slice none 0 0,.bool false,.slice none 0 0]) 4 64 Tryz.underlying118 hi hz0 hz1 hz2 rfl zd Vt _ ((m.take k).map fun r=>iV r qs) rfl (HG.out.later belA (Vt.stay zi)) (Bt HB1.out belA) _ [.bool bn,.slice pn ln cn,.bool bd,.slice pd ld cd] (iV m[k] qs) rfl (ah.new _ _ _) rfl ?c1 ⟨_,_,_,_,_,_,_,_,rfl,HA.out.later belA⟩ (Vt.stay zi) ?c2 zo ?_)
   case c1=>intro u hu;simp only [List.mem_cons,List.not_mem_nil,or_false] at hu;rcases hu with rfl|rfl|rfl|rfl<;>rfl
   case c2=>simp;omega
   intro v' w2 hg hb2 _
   have HG2:Hid (dQ w2 w4.heap.size 123 4 Vt v' ((m.take (k+1)).map fun r=>iV r qs)):=zh (by rw [List.take_succ_eq_append_getElem hlt,List.map_append,List.map_singleton];first|exact hg|(rw [List.map_take];exact hg))
   clear hg HG HA HB1
   go_wp2_with fail
   go_roundw
   case rel=>exact ⟨k+1,by go_num,by omega,HG2,hb2⟩
   case measure=>exact zM
  ·obtain rfl:k=m.length:=by omega
   rw [List.take_length] at HG
   obtain ⟨av,cv,rfl⟩:=HG.out.at (n:=m.length) zi
   have TOV:=zh (TO.out _ _ HG.out.YG)
   have HB2:=zh (Bt HB.out hb)
   go_wp2_with fail
   refine TOV.out.mono ?_
   rintro e w5 (⟨hy,vo,rfl,hb5,hf⟩|⟨hy,rfl,hb5⟩)
   ·have HF:=zh hf
    have HY:=zh hy
    clear hf hy
    go_wp2_with fail
    go_ret2
    exact .inl ⟨HY.out,_,rfl,Bt HB2.out hb5,HF.out⟩
   ·have HY:=zh hy
    clear hy
    go_wp2_with fail
    go_ret2
    exact .inr ⟨HY.out,rfl,Bt HB2.out hb5⟩
end Go.Proofs.aI
namespace Go.Proofs.aI
open Go Go.RowKit Go.SW Go.Num Go.Mem Go.Proofs Go.Dec Go.dF Go.Proofs.aL Go.Proofs.matrix
theorem TransV_ok (v:Value) (m:List (List Fr)) (n:Nat) (w:World) (h:aP w v m) (hok:kW m=true) (hf:Zu m) (h1:1≤m.length) (h4:m.length≤4) (n4:n≤4) (hr:∀ r∈m,r.length=n) :
  Calls Tryz.prog 22 #[v] w (MatPost w 0 (jf m n)):=by
 obtain ⟨i0,hi,hz0,hz1,hz2⟩:=info_parts qE
 obtain ⟨i1,hi',hy0,hy1,hy2⟩:=info_parts Lu
 have RI:=zh (hok ▸ Right_ok v m w h hf)
 obtain ⟨a,cap,rfl, -, -, hread⟩:=aP.read h
 obtain ⟨b,off,a0,c0,rfl,lb,cell0, -⟩:=hread 0 zo
 rw [hr _ (List.getElem_mem _)] at cell0
 have H:Hid (∀ k (_:k<m.length),∃ a' c',w.cell? ⟨b,off+k,none⟩=some (.slice a' n c')∧∀ i,i<n→∃ b2 off2,a'=some ⟨b2,off2,none⟩∧b2<w.heap.size∧w.cell? ⟨b2,off2+i*2,none⟩=some (.string (m[k].getD i Fr.no).n)∧w.cell? ⟨b2,off2+i*2+1,none⟩=some (.string (m[k].getD i Fr.no).d)):=zh fun k hk=>by
  obtain ⟨b',off',a',c',e, -, k1,k2⟩:=hread k hk
  simp only [Option.some.injEq,Addr.mk.injEq,and_true] at e
  obtain ⟨rfl,rfl⟩:=e
  have hl:=hr _ (List.getElem_mem hk)
  rw [hl] at k1
  refine ⟨a',c',k1,fun i hi=>?_⟩
  obtain ⟨a2,c2,e2, -, -, hat⟩:=k2.read
  simp only [Value.slice.injEq] at e2
  obtain ⟨rfl, -, rfl⟩:=e2
  obtain ⟨b2,off2,k3,k4,k5,k6⟩:=hat i zo
  rw [show m[k].getD i Fr.no=m[k][i] by simp [hl,hi]]
  exact ⟨b2,off2,k3,k4,k5,k6⟩
 have h0m:0<m.length:=by omega
 have hT:jf m n=(List.range n).map fun i=>m.map fun r=>r.getD i Fr.no:=rfl
 rw [hT]
 clear hT h hread hok hf hr
 go_enter Tryz.func22,Tryz.ntmps22
 go_wp2_with fail
 refine RI.out.mono ?_
 rintro e w1 ⟨rfl,hb1⟩
 have HB1:=zh hb1
 clear hb1
 go_wp2_with fail
 go_loopw [4,5] (fun ov iv wr=>∃ k:Nat,iv= .int .i64 (k:Int)∧k≤n∧Hid (dQ wr w.heap.size 29 1 uY ov ((List.range k).map fun i=>m.map fun r=>r.getD i Fr.no))∧Below w.heap.size w wr) (fun _ iv _=>n - (intOf iv).toNat)
 case atStart=>exact ⟨0,rfl,by omega,zh (dQ.nil _ _ _ _ _),HB1.out⟩
 case round =>
  obtain ⟨k,rfl,hk,HG,hb⟩:=hrel
  have ck:=(hb.cell (p:=⟨b,off,none⟩) lb).trans cell0
  rcases Nat.lt_or_ge k n with hlt|hge
  ·obtain ⟨wo,rfl⟩:∃ wo:World,wo=wr:=⟨_,rfl⟩
   obtain ⟨ov,cv,rfl⟩:=HG.out.at (n:=k) zi
   have lbo:b<wo.heap.size:=Nat.lt_of_lt_of_le lb hb.size
   have HBo:=zh hb
   clear hb
   go_wp2_with fail
   clear ck
   go_loopw [6,7] (fun rv jv wr=>∃ j:Nat,jv= .int .i64 (j:Int)∧j≤m.length∧Hid (dQ wr wo.heap.size 59 2 RFr rv ((m.take j).map fun r=>r.getD k Fr.no))∧Below wo.heap.size wo wr) (fun _ jv _=>m.length - (intOf jv).toNat)
   case atStart=>exact ⟨0,rfl,by omega,zh (dQ.nil _ _ _ _ _),Below.refl _ _⟩
   case round =>
    obtain ⟨j,rfl,hj,HR,hbi⟩:=hrel
    rcases Nat.lt_or_ge j m.length with hjlt|aQ2
    ·obtain ⟨rv,rc,rfl⟩:=HR.out.at (n:=j) (by simp;omega)
     have HBi:=zh hbi
     clear hbi
     obtain ⟨a',c',x1,hat⟩:=H.out j hjlt
     obtain ⟨b2,off2,rfl,lb2,y1,y2⟩:=hat k hlt
     have hbw:=Bt HBo.out HBi.out
     have d1:=(hbw.cell (p:=⟨b,off+j,none⟩) lb).trans x1
     have d2:=(hbw.cell (p:=⟨b2,off2+k*2,none⟩) lb2).trans y1
     have d3:=(hbw.cell (p:=⟨b2,off2+k*2+1,none⟩) lb2).trans y2
     have lb3:b2<wr.heap.size:=Nat.lt_of_lt_of_le lb2 hbw.size
     have lb4:b<wr.heap.size:=Nat.lt_of_lt_of_le lb hbw.size
     clear x1 y1 y2 hat hbw lb2
     obtain ⟨f,hfe⟩:∃ f,m[j].getD k Fr.no=f:=⟨_,rfl⟩
     have HFE:=zh hfe
     rw [hfe] at d2 d3
     clear hfe
     obtain ⟨s,t⟩:=f
     go_wp2_with (at_builtin;refine wpList_grow (w0:=wo) rfl (.tmp 25) (.tmp 33) 29 rfl 59 i0 (.agg #[.string ⟨#[]⟩,.string ⟨#[]⟩]) 2 32 Tryz.underlying29 hi hz0 hz1 hz2 rfl zd RFr _ ((m.take j).map fun r=>r.getD k Fr.no) rfl (HR.out.later belA (RFr.stay _)) (Bt HBi.out belA) _ [.string s,.string t] ⟨s,t⟩ rfl (ah.new _ _ _) rfl ?c1 rfl (RFr.stay _) ?c2 zo ?_)
     case c1=>first|exact ⟨rfl,rfl⟩|(intro u hu;simp only [List.mem_cons,List.not_mem_nil,or_false] at hu;rcases hu with rfl|rfl<;>rfl)
     case c2=>first|omega|(simp;omega)
     intro v' w2 hg hb2 _
     have HG2:Hid (dQ w2 wo.heap.size 59 2 RFr v' ((m.take (j+1)).map fun r=>r.getD k Fr.no)):=zh (by rw [List.take_succ_eq_append_getElem hjlt,List.map_append,List.map_singleton,HFE.out];first|exact hg|(rw [List.map_take];exact hg))
     clear hg HR d1 d2 d3
     go_wp2_with fail
     go_roundw
     case rel=>exact ⟨j+1,by go_num,by omega,HG2,hb2⟩
     case measure=>exact zM
    ·obtain rfl:j=m.length:=by omega
     rw [List.take_length] at HR
     have Ky:=zh HR.out.YG.PW
     obtain ⟨rv,rc,rfl⟩:=HR.out.at (n:=m.length) zi
     have HB3:=zh (Bt HBo.out hbi)
     replace HG:=zh (HG.out.later hbi (uY.stay zi))
     clear hbi HR
     go_wp2_with (at_builtin;refine wpList_grow (w0:=w) rfl (.tmp 35) (.tmp 37) 23 rfl 29 i1 (.slice none 0 0) 1 24 Tryz.underlying23 hi' hy0 hy1 hy2 rfl zd uY _ ((List.range k).map fun i=>m.map fun r=>r.getD i Fr.no) rfl (HG.out.later belA (uY.stay zi)) (Bt HB3.out belA) _ [.slice rv m.length rc] (m.map fun r=>r.getD k Fr.no) rfl (ah.new _ _ _) rfl ?c1 ⟨_,rfl,Ky.out.later belA⟩ (uY.stay zi) ?c2 zo ?_)
     case c1=>intro u hu;simp only [List.mem_cons,List.not_mem_nil,or_false] at hu;rcases hu with rfl;rfl
     case c2=>simp;omega
     intro v' w2 hg hb2 _
     have HG2:Hid (dQ w2 w.heap.size 29 1 uY v' ((List.range (k+1)).map fun i=>m.map fun r=>r.getD i Fr.no)):=zh (by rw [sJ];exact hg)
     clear hg HG Ky
     go_wp2_with fail
     go_roundw
     case rel=>exact ⟨k+1,by go_num,by omega,HG2,hb2⟩
     case measure=>exact zM
  ·obtain rfl:k=n:=by omega
   obtain ⟨ov,cv,rfl⟩:=HG.out.at (n:=k) zi
   go_wp2_with fail
   go_ret2
   exact MatPost.yes hb HG.out.YG.Jr
end Go.Proofs.aI
namespace Go.Proofs.aI
open Go Go.RowKit Go.SW Go.Num Go.Mem Go.Proofs Go.Dec Go.dF Go.Proofs.aL Go.Proofs.matrix
theorem MulV_ok (va vb:Value) (ma mb:RM) (n:Nat) (w:World) (ha:aP w va ma.fr) (hb:aP w vb mb.fr) (YO:ma.ok mb.length) (okb:mb.ok n) :
  Calls Tryz.prog 28 #[va,vb] w (MatPost w (if uR (AB ma mb n) then 0 else 6) (AB ma mb n).fr):=by
 obtain ⟨i0,hi,hz0,hz1,hz2⟩:=info_parts ad2
 obtain ⟨i1,hi',hy0,hy1,hy2⟩:=info_parts Xf
 have okc:=Us okb
 obtain ⟨a1,a4,b1,b4,arows⟩:=id YO
 obtain ⟨-, -, n1,n4,brows⟩:=id okb
 have R1:=zh (fun W (hW:Below w.heap.size w W)=>Right_yes va ma _ W (ha.later hW) YO)
 have R2:=zh (fun W (hW:Below w.heap.size w W)=>Right_yes vb mb _ W (hb.later hW) okb)
 have TR:=zh (fun W (hW:Below w.heap.size w W)=>TransV_ok vb mb.fr n W (hb.later hW) (okM_of okb) (fitsM okb) (by rw [RM.fr,List.length_map];omega) (by rw [RM.fr,List.length_map];omega) n4 (fun r hr=>by
  obtain ⟨s,hs,rfl⟩:=List.mem_map.1 hr
  rw [List.length_map];exact (brows s hs).1))
 rw [Ng okb] at TR
 have I1:=zh (fun W (hW:Below w.heap.size w W)=>Ai va ma W (ha.later hW) (fun r hr=>(arows r hr).2) ⟨by omega,fun r hr=>by rw [(arows r hr).1];omega⟩)
 have hcl:(wX mb n).length=n:=by simp [wX]
 have hcg:∀ c (h:c<(wX mb n).length),(wX mb n)[c]=Ut mb c:=fun c hc=>by simp [wX]
 have hml:(AB ma mb n)=ma.map fun r=>(List.range n).map fun c=>iV r (Ut mb c):=rfl
 have hsz:∀ r∈AB ma mb n,∀ q∈r,Sz1 q:=fun r hr q hq=>by
  obtain ⟨x,hx,rfl⟩:=List.mem_map.1 hr
  obtain ⟨c,hc,rfl⟩:=List.mem_map.1 hq
  have hc':c<(wX mb n).length:=by rw [hcl];exact List.mem_range.1 hc
  have hm:=List.getElem_mem hc'
  rw [hcg c hc'] at hm
  exact dot_Sz1 (((okc.2.2.2.2 _ hm).1).trans (arows x hx).1.symm) (by rw [(arows x hx).1];omega) (szM YO x hx) (szM okc _ hm)
 have OU:=zh (fun v W h=>OutM_ok v (AB ma mb n) W h hsz ⟨by rw [hml,List.length_map];omega,fun r hr=>by
  obtain ⟨x,hx,rfl⟩:=List.mem_map.1 hr
  simp;omega⟩)
 generalize (if uR (AB ma mb n) then (0:Int) else 6)=er at *
 have I2:=zh (fun v W (h:aP W v (wX mb n).fr)=>Ai v (wX mb n) W h (fun r hr=>(okc.2.2.2.2 r hr).2) ⟨by omega,fun r hr=>by rw [(okc.2.2.2.2 r hr).1];omega⟩)
 have DT:Hid (∀ x (_:x<ma.length) c (_:c<(wX mb n).length) (v1 v2:Value) W,xH W v1 ma[x]→xH W v2 (wX mb n)[c]→Calls Tryz.prog 68 #[v1,v2] W (pz W (iV ma[x] (Ut mb c)))):=zh fun x hx c hc v1 v2 W h1 h2=>by
  have hmx:=List.getElem_mem hx
  have hmc:=List.getElem_mem hc
  have e:=Dot_ok v1 v2 ma[x] (wX mb n)[c] W h1 h2 ((okc.2.2.2.2 _ hmc).1.trans (arows _ hmx).1.symm) (by rw [(arows _ hmx).1];omega) (szM YO _ hmx) (szM okc _ hmc)
  rw [hcg c hc] at e
  exact e
 have AR:Hid (∀ r∈ma,r.length=mb.length):=zh fun r hr=>(arows r hr).1
 have CR:Hid (∀ r∈wX mb n,r.length=mb.length):=zh fun r hr=>(okc.2.2.2.2 r hr).1
 obtain ⟨a,cap,rfl, -, -, hread⟩:=aP.read ha
 have hfl:ma.fr.length=ma.length:=List.length_map _
 obtain ⟨b,off,a0,c0,rfl,lb,cell0, -⟩:=hread 0 zo
 have e0:(ma.fr[0]'zo).length=mb.length:=by
  simp only [RM.fr,List.getElem_map,List.length_map]
  exact (arows _ (List.getElem_mem _)).1
 rw [e0] at cell0
 obtain ⟨a2,cap2,rfl, -, -, -⟩:=aP.read hb
 have hbl:mb.fr.length=mb.length:=List.length_map _
 rw [hbl] at R2 TR ⊢
 rw [hfl] at R1 I1 ⊢
 rw [hml] at OU ⊢
 have h0m:0<ma.length:=by omega
 have hc0:0<(wX mb n).length:=by omega
 obtain ⟨C,HC⟩:∃ C:Nat→List Rat,Hid (Ut mb=C):=⟨_,zh rfl⟩
 rw [HC.out] at OU DT ⊢
 generalize wX mb n=mc at *
 generalize mb.length=l at *
 clear hml ha hb hread okc YO okb arows brows hsz hcg e0 hfl hbl HC
 subst hcl
 go_enter Tryz.func28,Tryz.ntmps28
 go_wp2_with fail
 refine (R1.out _ (Below.refl _ _)).mono ?_
 rintro e w1 ⟨rfl,hb1⟩
 go_wp2_with fail
 refine (R2.out _ hb1).mono ?_
 rintro e w2 ⟨rfl,hb2⟩
 have h2:=Bt hb1 hb2
 have ck:=(h2.cell (p:=⟨b,off,none⟩) lb).trans cell0
 have l2:b<w2.heap.size:=Nat.lt_of_lt_of_le lb h2.size
 have g1:((l:Int) != (l:Int))=false:=by simp
 go_wp2_with fail
 refine (TR.out _ h2).mono ?_
 rintro e w3 ⟨hb3,vt,rfl,hmt, -⟩
 replace hmt:=hmt rfl
 have h3:=Bt h2 hb3
 clear ck l2 cell0 lb
 obtain ⟨at',ct,rfl, -⟩:=aP.read hmt
 generalize mc.fr.length=nt at *
 go_wp2_with fail
 refine (I1.out _ h3).mono ?_
 rintro e w4 ⟨vx,rfl,hb4,hx⟩
 obtain ⟨bx,ox,cx,rfl,lx,hxat⟩:=Dw.get hx AR.out h0m
 go_wp2_with fail
 refine (I2.out _ _ (hmt.later hb4)).mono ?_
 rintro e w5 ⟨vy,rfl,hb5,hy⟩
 obtain ⟨bY,oy,cy,rfl,ly,hyat⟩:=Dw.get hy CR.out hc0
 have HB:=zh (Bt (Bt h3 hb4) hb5)
 have HX:Hid (∀ k (_:k<ma.length),∃ a' c',w5.cell? ⟨bx,ox+k,none⟩=some (.slice a' l c')∧xH w5 (.slice a' l c') ma[k]):=zh fun k hk=>by
  obtain ⟨a',c',k1,k2⟩:=hxat k hk
  exact ⟨a',c',(hb5.cell (p:=⟨bx,ox+k,none⟩) lx).trans k1,k2.later hb5⟩
 have HY:=zh hyat
 have lx5:bx<w5.heap.size:=Nat.lt_of_lt_of_le lx hb5.size
 clear hx hy hxat hyat hmt hb1 hb2 hb3 hb4 hb5 h2 h3 lx R1 R2 TR I1 I2
 go_wp2_with fail
 go_loopw [10,11] (fun ov iv wr=>∃ k:Nat,iv= .int .i64 (k:Int)∧k≤ma.length∧Hid (dQ wr w5.heap.size 118 1 Dt ov ((ma.take k).map fun r=>(List.range mc.length).map fun c=>iV r (C c)))∧Below w5.heap.size w5 wr) (fun _ iv _=>ma.length - (intOf iv).toNat)
 case atStart=>exact ⟨0,rfl,by omega,zh (dQ.nil _ _ _ _ _),Below.refl _ _⟩
 case round =>
  obtain ⟨k,rfl,hk,HG,hb⟩:=hrel
  rcases Nat.lt_or_ge k ma.length with hlt|hge
  ·obtain ⟨wo,rfl⟩:∃ wo:World,wo=wr:=⟨_,rfl⟩
   obtain ⟨ov,cv,rfl⟩:=HG.out.at (n:=k) (by simp;omega)
   obtain ⟨a',c',x1,Lx⟩:=HX.out k hlt
   have HXR:=zh Lx
   have HBo:=zh hb
   clear hb Lx
   go_wp2_with fail
   go_loopw [12,13] (fun rv jv wr=>∃ j:Nat,jv= .int .i64 (j:Int)∧j≤mc.length∧Hid (dQ wr wo.heap.size 123 4 Vt rv ((List.range j).map fun c=>iV ma[k] (C c)))∧Below wo.heap.size wo wr) (fun _ jv _=>mc.length - (intOf jv).toNat)
   case atStart=>exact ⟨0,rfl,by omega,zh (dQ.nil _ _ _ _ _),Below.refl _ _⟩
   case round =>
    obtain ⟨j,rfl,hj,HR,hbi⟩:=hrel
    rcases Nat.lt_or_ge j mc.length with hjlt|aQ2
    ·obtain ⟨rv,rc,rfl⟩:=HR.out.at (n:=j) zi
     obtain ⟨a2,c2,y1,hyr⟩:=HY.out j hjlt
     have hbw:=Bt HBo.out hbi
     have d1:=(hbw.cell (p:=⟨bx,ox+k,none⟩) lx5).trans x1
     have d2:=(hbw.cell (p:=⟨bY,oy+j,none⟩) ly).trans y1
     have l1:bx<wr.heap.size:=Nat.lt_of_lt_of_le lx5 hbw.size
     have l2:bY<wr.heap.size:=Nat.lt_of_lt_of_le ly hbw.size
     have DO:=zh (fun W (hW:Below wr.heap.size wr W)=>DT.out k hlt j hjlt _ _ W ((HXR.out.later hbw).later hW) ((hyr.later hbw).later hW))
     have HBi:=zh hbi
     clear hbi y1 hyr hbw
     go_wp2_with fail
     refine aD [(.pure,0),(.pure,1),(.pure,2),(.pure,3),(.read,4),(.pure,5),(.pure,6),(.pure,7),(.read,8),(.ext,9),(.ext,10),(.fin,11),(.fin,12)] zk zk zR zP ?_;refine Wk.out ?_;(iterate 9 (first|(apply wk_skip;(rfl);(rfl);(rfl);(intro J hJ;go_simp;(with_reducible refine hJ _ ?_);clear hJ J))|(apply wk_len;(rfl);(rfl);(rfl);(rfl);(exact zk);(intro J hJ;go_simp;(with_reducible refine hJ _ ?_);clear hJ J))|(apply wk_pure;(rfl);(rfl);(intro J hJ;go_simp;(with_reducible refine hJ _ ?_);clear hJ J))|(apply wk_load;(rfl);(rfl);(rfl);(rfl);(intro J hJ;go_simp;(with_reducible refine hJ _ ?_);clear hJ J;try go_simp))))
     refine wk_ext rfl rfl (fun wa hba J hJ=>?_);go_simp
     have z1:Below wr.heap.size wr wa:=belA
     refine (DO.out _ z1).mono ?_
     rintro e wb ⟨v,rfl,hbb,hrt⟩
     obtain ⟨u1,u2,u3,u4,u5,u6,u7,u8,rfl, -, -⟩:=id hrt
     have HT:=zh hrt
     refine hJ _ _ hbb ?_
     clear hJ J hrt
     refine wk_ext rfl rfl (fun wc hbc J hJ=>?_);go_simp
     have z2:Below wb.heap.size wb wc:=belA
     have z3:Below wr.heap.size wr wc:=Bt (Bt z1 hbb) z2
     refine hJ _ _ belA ?_
     clear hJ J
     have hbx:=ah.new wc #[.bool u1,.slice u2 u3 u4,.bool u5,.slice u6 u7 u8] 123
     have z4:Below wc.heap.size wc (wc.alloc (.cells #[.bool u1,.slice u2 u3 u4,.bool u5,.slice u6 u7 u8] 123)):=belA
     refine wk_fin [_,_] rfl (fun wf hbf=>?_)
     have z5:=Bt z4 hbf
     have z6:=Bt z3 z5
     refine wpList_grow (w0:=wo) rfl (.tmp 50) (.tmp 60) 118 rfl 123 i0 (.agg #[.bool false,.slice none 0 0,.bool false,.slice none 0 0]) 4 64 Tryz.underlying118 hi hz0 hz1 hz2 rfl zd Vt _ ((List.range j).map fun c=>iV ma[k] (C c)) rfl (HR.out.later z6 (Vt.stay zi)) (Bt HBi.out z6) _ [.bool u1,.slice u2 u3 u4,.bool u5,.slice u6 u7 u8] (iV ma[k] (C j)) rfl (hbx.later hbf) rfl (fun u hu=>by simp only [List.mem_cons,List.not_mem_nil,or_false] at hu;rcases hu with rfl|rfl|rfl|rfl<;>rfl) ⟨_,_,_,_,_,_,_,_,rfl,(HT.out.later z2).later z5⟩ (Vt.stay zi) (by simp;omega) zo ?_
     intro v' w2 hg hb2 _
     have HG2:Hid (dQ w2 wo.heap.size 123 4 Vt v' ((List.range (j+1)).map fun c=>iV ma[k] (C c))):=zh (by rw [sJ];exact hg)
     clear hg HR d1 d2 HT hbx z1 z2 z3 z4 z5 z6 hba hbb hbc hbf
     go_wp2_with fail
     go_roundw
     case rel=>exact ⟨j+1,by go_num,by omega,HG2,hb2⟩
     case measure=>exact zM
    ·obtain rfl:j=mc.length:=by omega
     have HRV:Hid (xH wr _ _):=zh HR.out.YG
     obtain ⟨rv,rc,rfl⟩:=HR.out.at (n:=mc.length) zi
     have HB3:=zh (Bt HBo.out hbi)
     replace HG:=zh (HG.out.later hbi (Dt.stay zi zi))
     clear hbi HR
     go_wp2_with (at_builtin;refine wpList_grow (w0:=w5) rfl (.tmp 62) (.tmp 64) 116 rfl 118 i1 (.slice none 0 0) 1 24 Tryz.underlying116 hi' hy0 hy1 hy2 rfl zd Dt _ ((ma.take k).map fun r=>(List.range mc.length).map fun c=>iV r (C c)) rfl (HG.out.later belA (Dt.stay zi zi)) (Bt HB3.out belA) _ [.slice rv mc.length rc] ((List.range mc.length).map fun c=>iV ma[k] (C c)) rfl (ah.new _ _ _) rfl ?c1 ⟨_,rfl,HRV.out.later belA⟩ (Dt.stay zi zi) ?c2 zo ?_)
     case c1=>first|(intro u hu;simp only [List.mem_cons,List.not_mem_nil,or_false] at hu;rcases hu with rfl;rfl)|rfl
     case c2=>first|omega|(simp;omega)
     intro v' w2 hg hb2 _
     have HG2:Hid (dQ w2 w5.heap.size 118 1 Dt v' ((ma.take (k+1)).map fun r=>(List.range mc.length).map fun c=>iV r (C c))):=zh (by rw [List.take_succ_eq_append_getElem hlt,List.map_append,List.map_singleton];first|exact hg|(rw [List.map_take];exact hg))
     clear hg HG HRV
     go_wp2_with fail
     go_roundw
     case rel=>exact ⟨k+1,by go_num,by omega,HG2,hb2⟩
     case measure=>exact zM
  ·obtain rfl:k=ma.length:=by omega
   rw [List.take_length] at HG
   obtain ⟨ov,cv,rfl⟩:=HG.out.at (n:=ma.length) zi
   have OUV:=zh (OU.out _ _ HG.out.YG)
   have HB2:=zh (Bt HB.out hb)
   go_wp2_with fail
   refine OUV.out.mono ?_
   rintro e w6 ⟨hb6,v,rfl,hy1,hy2⟩
   have HP:Hid (MatPost w er _ (.returned (.tuple #[v,.int .i64 er])) w6):=zh ⟨Bt HB2.out hb6,v,rfl,hy1,hy2⟩
   clear hy1 hy2 hb6
   go_wp2_with fail
   go_ret2
   exact HP.out
end Go.Proofs.aI
namespace Go.Proofs.aI
open Go Go.RowKit Go.SW Go.Num Go.Mem Go.Proofs Go.Dec Go.dF Go.Proofs.aL Go.Proofs.matrix
def MB:Nat→Nat
 | 0=>67
 | n+1=>(2*MB n+1)*2^(n+1)
end Go.Proofs.aI
namespace Go.Proofs.aI
open Go Go.RowKit Go.SW Go.Num Go.Mem Go.Proofs Go.Dec Go.dF Go.Proofs.aL Go.Proofs.matrix
theorem fits_RM {m:List (List Fr)} (h:kW m=true):Zu m:=by
 obtain ⟨e,o⟩:=yL h
 rw [e]
 exact fitsM o
theorem WQ (va vb:Value) (a b:List (List Fr)) (w:World) (ha:aP w va a) (hb:aP w vb b) (fa:Zu a) (fb:Zu b) (M:List (List Fr)) (h:¬ (kW a=true∧kW b=true)) :
  Calls Tryz.prog 28 #[va,vb] w (MatPost w 50 M):=by
 have xI:=zh (fun W (hW:Below w.heap.size w W)=>Right_ok va a W (ha.later hW) fa)
 have EJ:=zh (fun W (hW:Below w.heap.size w W)=>Right_ok vb b W (hb.later hW) fb)
 obtain ⟨pa,ca,rfl⟩:=aP.sl ha
 obtain ⟨pb,cb,rfl⟩:=aP.sl hb
 cases ka:kW a with
 | true =>
  cases kb:kW b with
  | true=>exact absurd ⟨ka,kb⟩ h
  | false =>
   rw [ka] at xI
   rw [kb] at EJ
   clear ha hb ka kb h fa fb
   go_enter Tryz.func28,Tryz.ntmps28
   go_wp2_with fail
   refine (xI.out _ (Below.refl _ _)).mono ?_
   rintro e v1 ⟨rfl,hc1⟩
   go_wp2_with fail
   refine (EJ.out _ hc1).mono ?_
   rintro e v2 ⟨rfl,hc2⟩
   go_wp2_with fail
   go_ret2
   exact MatPost.no (Bt hc1 hc2) zd
 | false =>
  rw [ka] at xI
  clear ha hb ka h EJ fa fb
  go_enter Tryz.func28,Tryz.ntmps28
  go_wp2_with fail
  refine (xI.out _ (Below.refl _ _)).mono ?_
  rintro e v1 ⟨rfl,hc1⟩
  go_wp2_with fail
  go_ret2
  exact MatPost.no hc1 zd
theorem WR (va vb:Value) (a b:List (List Fr)) (w:World) (ha:aP w va a) (hb:aP w vb b) (M:List (List Fr)) (ka:kW a=true) (kb:kW b=true) (hne:(a.headD []).length≠b.length) :
  Calls Tryz.prog 28 #[va,vb] w (MatPost w 2 M):=by
 have xI:=zh (fun W (hW:Below w.heap.size w W)=>Right_ok va a W (ha.later hW) (fits_RM ka))
 have EJ:=zh (fun W (hW:Below w.heap.size w W)=>Right_ok vb b W (hb.later hW) (fits_RM kb))
 rw [ka] at xI
 rw [kb] at EJ
 have k1:=(okM_parts ka).1
 obtain ⟨ba,vL,OI,a0,cap0,rfl,CY,zZ⟩:=aP.top ha zo
 obtain ⟨pb,cb,rfl⟩:=aP.sl hb
 generalize (a.headD []).length=x at *
 generalize b.length=y at *
 have h0:0<a.length:=by omega
 generalize a.length=na at *
 have hd:((x:Int) != (y:Int))=true:=by simp;omega
 have hd2:decide ((x:Int)=(y:Int))=false:=decide_eq_false zo
 clear ha hb ka kb k1
 go_enter Tryz.func28,Tryz.ntmps28
 go_wp2_with fail
 refine (xI.out _ (Below.refl _ _)).mono ?_
 rintro e v1 ⟨rfl,hc1⟩
 go_wp2_with fail
 refine (EJ.out _ hc1).mono ?_
 rintro e v2 ⟨rfl,hc2⟩
 have hw2:Below w.heap.size w v2:=Bt hc1 hc2
 have c1:=(hw2.cell (p:=⟨ba,vL,none⟩) CY).trans zZ
 have l1:ba<v2.heap.size:=Nat.lt_of_lt_of_le CY hw2.size
 clear zZ
 go_wp2_with fail
 go_ret2
 exact MatPost.no hw2 zd
theorem Mul_any (va vb:Value) (a b:List (List Fr)) (w:World) (ha:aP w va a) (hb:aP w vb b) (fa:Zu a) (fb:Zu b) :
  Calls Tryz.prog 28 #[va,vb] w (MatPost w (vM a b) (mulM a b)):=by
 unfold vM
 by_cases h:kW a=true∧kW b=true
 ·rw [if_pos h]
  by_cases hl:(a.headD []).length=b.length
  ·rw [if_pos hl]
   obtain ⟨e1,o1⟩:=yL h.1
   obtain ⟨e2,o2⟩:=yL h.2
   rw [hl,← Cu b] at o1
   exact MulV_ok va vb (Cv a) (Cv b) (b.headD []).length w (e1 ▸ ha) (e2 ▸ hb) o1 o2
  ·rw [if_neg hl]
   exact WR va vb a b w ha hb _ h.1 h.2 hl
 ·rw [if_neg h]
  exact WQ va vb a b w ha hb fa fb _ h
end Go.Proofs.aI
namespace Go.Proofs.verdigrislaw05
open Go Go.RowKit Go.SW Go.Num Go.Mem Go.Proofs Go.Dec Go.dF Go.Proofs.matrix Go.Proofs.aI
theorem little_fits {m:List (List Fr)} (h:Little m):Zu m:=fun r hr x hx=>by
 have:=(h.2 r hr).2 x hx
 exact ⟨by omega,by omega⟩
theorem own_at {v:Value} {m:List (List Fr)} {n:Nat} {w:World} (h:aP w v m) (hl:Little m) (hn:m.length=n) :
  Calls Tryz.prog 26 #[v] w (fun e w'=>∃ a c,e= .returned (.slice a n c)∧Below w.heap.size w w'∧aP w' (.slice a n c) m):=by
 have:=own_ok v m w (maR h)
 rw [own_same hl,hn] at this
 exact this
def AnyN (W:World) (n:Nat) (k:Int) (R:List (List Fr)) (e:Ending) (w':World):Prop:=∃ a c,e= .returned (.tuple #[.slice a n c,.int .i64 k])∧Below W.heap.size W w'∧aP w' (.slice a n c) R
def orM (k:Int) (m:List (List Fr)):List (List Fr):=if k=0 then m else []
theorem aP.none (w:World):aP w (.slice none 0 0) []:=⟨[],Row.nil _ _,rfl,fun i hi=>by cases hi⟩
theorem any_of {W w':World} {k:Int} {m:List (List Fr)} {n:Nat} {e:Ending} (h:MatPost W k m e w') (hn:(orM k m).length=n):AnyN W n k (orM k m) e w':=by
 obtain ⟨h1,v,rfl,h2,h3⟩:=h
 subst hn
 unfold orM
 by_cases hk:k=0
 ·rw [if_pos hk]
  obtain ⟨a,c,rfl⟩:=aP.sl (h2 hk)
  exact ⟨a,c,rfl,h1,h2 hk⟩
 ·rw [if_neg hk]
  rw [h3 hk]
  exact ⟨none,0,rfl,h1,aP.none w'⟩
theorem sm_short {q:Rat} (h:Sm q):(Fr.of q).n.size≤40∧(Fr.of q).d.size≤40:=by
 have key:∀ z:Int,z.natAbs≤999→(Lib.itoa z).length≤4:=fun z hz=>Nat.le_trans (itoa_len z) (Nat.succ_le_succ (Dec.dec_len_le 3 _ zo zo))
 have h1:=key q.num h.2.1
 have h2:=key (q.den:Int) (by have:=h.2.2;omega)
 have e:∀ l:List UInt8,(⟨l.toArray⟩:ByteArray).size=l.length:=fun l=>by simp [ByteArray.size]
 unfold Fr.of
 constructor
 ·show (⟨(Lib.itoa q.num).toArray⟩:ByteArray).size≤40
  rw [e];omega
 ·show (⟨(Lib.itoa (q.den:Int)).toArray⟩:ByteArray).size≤40
  rw [e];omega
theorem little_mk {n k:Nat} {f:Nat→Nat→Rat} (hn:n≤4) (hk:k≤4) (h:∀ i j,Sm (f i j)):Little (mkR n k f).fr∧(mkR n k f).fr.length=n:=by
 refine ⟨⟨?_,fun r hr=>?_⟩,by rw [fr_len,mkR_len]⟩
 ·rw [fr_len,mkR_len];omega
 ·obtain ⟨s,hs,rfl⟩:=List.mem_map.1 hr
  have hl:=mkR_row hs
  refine ⟨by rw [List.length_map,hl];omega,fun x hx=>?_⟩
  obtain ⟨q,hq,rfl⟩:=List.mem_map.1 hx
  obtain ⟨i, -, rfl⟩:=List.mem_map.1 hs
  obtain ⟨j, -, rfl⟩:=List.mem_map.1 hq
  exact sm_short (h i j)
end Go.Proofs.verdigrislaw05
namespace Go.SW
open Go Go.RowKit
variable {P:Program} {ops:Array Oper} {Q:Exit→Act→World→Prop}
theorem addE_some {x y i:Nat} {o:Oper} (h:ops[i]? =some o):∃ o',(ku x y ops)[i]? =some o'∧o'.dst=o.dst∧o'.op=o.op∧o'.guard=o.guard∧(∀ (a:Act) (w:World) K R,o.wp P a w K R→o'.wp P a w K R)∧(∀ f,Region.wanted o' f=Region.wanted o f)∧(∀ ρ,execOp ρ o'=execOp ρ o)∧∀ (a:Act) (w:World),Oper.asks P o a w→Oper.asks P o' a w:=by
 refine ⟨_,by rw [uS,h];rfl,?_,?_,?_,?_,?_,?_,?_⟩
 all_goals split<;>first|rfl|exact fun _ _ _ _ h=>h|exact fun _=>rfl|exact fun _ _ h=>h
theorem addE_wpOps' (x y:Nat):∀ (l:List Nat) (a:Act) (w:World),wpOps P ops Q l a w→wpOps P (ku x y ops) Q l a w
 | [],_,_,h=>h
 | i::l,a,w,h=>by
  have ih:=addE_wpOps' x y l
  unfold wpOps at h ⊢
  have hy:yielded (ku x y ops) a.tmps=yielded ops a.tmps:=funext fun g=>Dr x y _ g
  rw [hy]
  cases ho:ops[i]? with
  | none =>
   rw [uS,ho,Option.map_none]
   simp only [ho] at h ⊢
   exact ih _ _ h
  | some o =>
   obtain ⟨o',h1,h2,h3,h4,h5,h6,h7,h8⟩:=addE_some (P:=P) (x:=x) (y:=y) ho
   rw [h1]
   simp only [ho,h6,h2] at h ⊢
   split at h
   ·rename_i hw
    rw [if_pos hw]
    rcases h with h|h
    ·exact .inl (h5 _ _ _ _ (Oper.wp_mono ih h))
    ·exact .inr ⟨h8 _ _ h.1,h.2⟩
   ·rename_i hw
    rw [if_neg hw]
    exact ih _ _ h
theorem walk_addE (x y N:Nat):∀ (is:List (K × Nat)) (A:List Nat) (a:Act) (w:World),walk P ops Q N is A a w→walk P (ku x y ops) Q N is A a w
 | [],_,_,_,h=>h
 | (k,i)::is,A,a,w,h=>by
  have ih:=walk_addE x y N is
  unfold walk at h ⊢
  have hy:yielded (ku x y ops) a.tmps=yielded ops a.tmps:=funext fun g=>Dr x y _ g
  rw [hy]
  cases ho:ops[i]? with
  | none=>rw [ho] at h;exact h.elim
  | some o =>
   obtain ⟨o',h1,h2,h3,h4,h5,h6,h7,h8⟩:=addE_some (P:=P) (x:=x) (y:=y) ho
   rw [ho] at h
   rw [h1]
   cases k with
   | pure =>
    simp only [h6,h7,h2] at h ⊢
    split at h
    ·rename_i hw
     rw [if_pos hw]
     obtain ⟨v,k1,k2⟩:=h
     exact ⟨v,k1,ih _ _ _ k2⟩
    ·rename_i hw
     rw [if_neg hw]
     exact ih _ _ _ h
   | read =>
    simp only [h6,h7,h2] at h ⊢
    split at h
    ·rename_i hw
     rw [if_pos hw]
     obtain ⟨v,k1,k2⟩:=h
     exact ⟨v,k1,ih _ _ _ k2⟩
    ·rename_i hw
     rw [if_neg hw]
     exact ih _ _ _ h
   | alloc cs T =>
    simp only [h2] at h ⊢
    exact fun b w' k1 k2 k3 k4 k5=>ih _ _ _ (h b w' k1 k2 k3 k4 k5)
   | ext =>
    simp only [h6,h2] at h ⊢
    split at h
    ·rename_i hw
     rw [if_pos hw]
     exact fun w' k1=>h5 _ _ _ _ (Oper.wp_mono (fun a' w'' k=>⟨k.1,ih _ _ _ k.2⟩) (h w' k1))
    ·rename_i hw
     rw [if_neg hw]
     exact ih _ _ _ h
   | fin =>
    exact fun w' k1=>addE_wpOps' x y _ _ _ (h w' k1)
inductive St|one (k:K) (i:Nat)|two (i j:Nat)
variable {o:Oper} {i:Nat} {is:List St} {a:Act} {w:World} {N:Nat} {A:List Nat}
end Go.SW
