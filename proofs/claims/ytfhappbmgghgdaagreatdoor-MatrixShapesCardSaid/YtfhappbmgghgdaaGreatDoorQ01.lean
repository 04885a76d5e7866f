/- Lemmas for the proof. No condition. -/
import Derived.Test.YtfhappbmgghgdaaGreatDoorIB01
import Derived.Test.YtfhappbmgghgdaaGreatDoorIB02
import Derived.Test.YtfhappbmgghgdaaGreatDoorIB03
import Derived.Test.YtfhappbmgghgdaaGreatDoorIB04
import Derived.Test.YtfhappbmgghgdaaGreatDoorIB05
import Derived.Test.YtfhappbmgghgdaaGreatDoorIB06
import Derived.Test.YtfhappbmgghgdaaGreatDoorIB07
import Derived.Test.YtfhappbmgghgdaaGreatDoorIB08
import Derived.Test.YtfhappbmgghgdaaGreatDoorIB09
import Derived.Test.YtfhappbmgghgdaaGreatDoorIB10
import Derived.Test.YtfhappbmgghgdaaGreatDoorIB11
import Derived.Test.YtfhappbmgghgdaaGreatDoorIB12
import Derived.Test.YtfhappbmgghgdaaGreatDoorIB13
import Derived.Test.YtfhappbmgghgdaaGreatDoorIB14
import Derived.Test.YtfhappbmgghgdaaGreatDoorIB15
import Derived.Test.YtfhappbmgghgdaaGreatDoorIB16
import Derived.Test.YtfhappbmgghgdaaGreatDoorIB17
import Derived.Test.YtfhappbmgghgdaaGreatDoorIB18
set_option linter.unusedVariables false
set_option linter.unusedSimpArgs false
set_option maxRecDepth 100000
set_option maxHeartbeats 16000000
namespace Go.Proofs.aI
open Go Go.RowKit Go.SW Go.Num Go.Mem Go.Proofs Go.Dec Go.dF Go.Proofs.aL Go.Proofs.matrix
theorem fits_of {q:Rat} (h:iU q=true):Fits (Fr.of q):=by
 unfold iU at h
 rw [Bool.and_eq_true] at h
 have h1:=dZ.1 h.1
 have h2:=dZ.1 h.2
 have h3:=itoa_len q.num
 have h4:=itoa_len (q.den:Int)
 rw [Int.natAbs_natCast] at h4
 exact ⟨by show (Lib.itoa q.num).length≤_;omega,by show (Lib.itoa (q.den:Int)).length≤_;omega⟩
end Go.Proofs.aI
namespace Go.Proofs.aI
open Go Go.RowKit Go.SW Go.Num Go.Mem Go.Proofs Go.Dec Go.dF Go.Proofs.aL Go.Proofs.matrix
def dg (l:List Fr) (i j:Nat):Fr:=if j=i then l.getD i Fr.no else Fr.zero
theorem DiagV_ok (v:Value) (l:List Fr) (T:TypeId) (w:World) (h:gH w T v l) (h1:1≤l.length) (h4:l.length≤4) (hok:Vo l=true) (hf:∀ x∈l,Fits x) :
  Calls Tryz.prog 19 #[v] w (MatPost w 0 (kE l)):=by
 obtain ⟨i0,hi,hz0,hz1,hz2⟩:=info_parts qE
 obtain ⟨i1,hi',hy0,hy1,hy2⟩:=info_parts Lu
 have LI:=zh (hok ▸ Yn v l T w h hf)
 obtain ⟨a,cap,rfl, -, -, hread⟩:=h.read
 have H:Hid (∀ k (_:k<l.length),∃ b off,a=some ⟨b,off,none⟩∧b<w.heap.size∧w.cell? ⟨b,off+k*2,none⟩=some (.string (l.getD k Fr.no).n)∧w.cell? ⟨b,off+k*2+1,none⟩=some (.string (l.getD k Fr.no).d)):=zh fun k hk=>by
  have:=hread k hk
  rw [show l.getD k Fr.no=l[k] by simp [hk]]
  exact this
 have hD:kE l=(List.range l.length).map fun i=>(List.range l.length).map (dg l i):=rfl
 rw [hD]
 clear hD h hread hok hf
 generalize hn:l.length=n at *
 have q1:decide ((n:Int)<1)=false:=by simp;omega
 have q2:decide ((4:Int)<(n:Int))=false:=by simp;omega
 clear hn
 obtain ⟨G,hG⟩:∃ G:Nat→Nat→Fr,Hid (G=dg l):=⟨_,zh rfl⟩
 rw [← hG.out]
 go_enter Tryz.func19,Tryz.ntmps19
 go_wp2_with fail
 refine LI.out.mono ?_
 rintro e w1 ⟨rfl,hb1⟩
 have HB1:=zh hb1
 clear hb1
 go_wp2_with fail
 go_loopw [4,5] (fun ov iv wr=>∃ k:Nat,iv= .int .i64 (k:Int)∧k≤n∧Hid (dQ wr w.heap.size 29 1 uY ov ((List.range k).map fun i=>(List.range n).map (G i)))∧Below w.heap.size w wr) (fun _ iv _=>n - (intOf iv).toNat)
 case atStart=>exact ⟨0,rfl,by omega,zh (dQ.nil _ _ _ _ _),HB1.out⟩
 case round =>
  obtain ⟨k,rfl,hk,HG,hb⟩:=hrel
  rcases Nat.lt_or_ge k n with hlt|hge
  ·obtain ⟨wo,rfl⟩:∃ wo:World,wo=wr:=⟨_,rfl⟩
   obtain ⟨ov,cv,rfl⟩:=HG.out.at (n:=k) zi
   obtain ⟨b,off,rfl,lb,hx1,hx2⟩:=H.out k hlt
   have X1:=zh ((hb.cell (p:=⟨b,off+k*2,none⟩) lb).trans hx1)
   have X2:=zh ((hb.cell (p:=⟨b,off+k*2+1,none⟩) lb).trans hx2)
   have lbo:b<wo.heap.size:=Nat.lt_of_lt_of_le lb hb.size
   have GK:Hid (l.getD k Fr.no=G k k):=zh (by rw [hG.out];unfold dg;rw [if_pos rfl])
   have GZ:Hid (∀ j,j≠k→G k j=Fr.zero):=zh (fun j hj=>by rw [hG.out];unfold dg;rw [if_neg hj])
   have HBo:=zh hb
   clear hx1 hx2 hb
   generalize l.getD k Fr.no=lk at *
   obtain ⟨s,t⟩:=lk
   simp only at X1 X2
   go_wp2_with fail
   go_loopw [6,7] (fun rv jv wr=>∃ j:Nat,jv= .int .i64 (j:Int)∧j≤n∧Hid (dQ wr wo.heap.size 59 2 RFr rv ((List.range j).map (G k)))∧Below wo.heap.size wo wr) (fun _ jv _=>n - (intOf jv).toNat)
   case atStart=>exact ⟨0,rfl,by omega,zh (dQ.nil _ _ _ _ _),Below.refl _ _⟩
   case round =>
    obtain ⟨j,rfl,hj,HR,hbi⟩:=hrel
    rcases Nat.lt_or_ge j n with hjlt|aQ2
    ·obtain ⟨rv,rc,rfl⟩:=HR.out.at (n:=j) zi
     have HBi:=zh hbi
     clear hbi
     by_cases he:j=k
     ·subst he
      have g1:((j:Int) == (j:Int))=true:=by simp
      have c1:=(HBi.out.cell (p:=⟨b,off+j*2,none⟩) lbo).trans X1.out
      have c2:=(HBi.out.cell (p:=⟨b,off+j*2+1,none⟩) lbo).trans X2.out
      have lbi:b<wr.heap.size:=Nat.lt_of_lt_of_le lbo HBi.out.size
      go_wp2_with (at_builtin;refine wpList_grow (w0:=wo) rfl (.tmp 40) (.tmp 42) 29 rfl 59 i0 (.agg #[.string ⟨#[]⟩,.string ⟨#[]⟩]) 2 32 Tryz.underlying29 hi hz0 hz1 hz2 rfl zd RFr _ ((List.range j).map (G j)) rfl (HR.out.later belA (RFr.stay _)) (Bt HBi.out belA) _ [.string s,.string t] ⟨s,t⟩ rfl (ah.oV _ _ _ _) rfl ?c1 rfl (RFr.stay _) ?c2 zo ?_)
      case c1=>intro u hu;simp only [List.mem_cons,List.not_mem_nil,or_false] at hu;rcases hu with rfl|rfl<;>rfl
      case c2=>simp;omega
      intro v' w2 hg hb2 _
      have HG2:Hid (dQ w2 wo.heap.size 59 2 RFr v' ((List.range (j+1)).map (G j))):=zh (by rw [sJ,← GK.out];exact hg)
      clear hg HR c1 c2
      go_wp2_with fail
      go_roundw
      case rel=>exact ⟨j+1,by go_num,by omega,HG2,hb2⟩
      case measure=>exact zM
     ·have g1:((k:Int) == (j:Int))=false:=by simp;omega
      go_wp2_with (at_builtin;refine wpList_grow (w0:=wo) rfl (.tmp 40) (.tmp 42) 29 rfl 59 i0 (.agg #[.string ⟨#[]⟩,.string ⟨#[]⟩]) 2 32 Tryz.underlying29 hi hz0 hz1 hz2 rfl zd RFr _ ((List.range j).map (G k)) rfl (HR.out.later belA (RFr.stay _)) (Bt HBi.out belA) _ [.string ⟨#[48]⟩,.string ⟨#[49]⟩] Fr.zero rfl (ah.oV _ _ _ _) rfl ?c1 rfl (RFr.stay _) ?c2 zo ?_)
      case c1=>intro u hu;simp only [List.mem_cons,List.not_mem_nil,or_false] at hu;rcases hu with rfl|rfl<;>rfl
      case c2=>simp;omega
      intro v' w2 hg hb2 _
      have HG2:Hid (dQ w2 wo.heap.size 59 2 RFr v' ((List.range (j+1)).map (G k))):=zh (by rw [sJ,GZ.out j he];exact hg)
      clear hg HR
      go_wp2_with fail
      go_roundw
      case rel=>exact ⟨j+1,by go_num,by omega,HG2,hb2⟩
      case measure=>exact zM
    ·obtain rfl:j=n:=by omega
     have Ky:=zh HR.out.YG.PW
     obtain ⟨rv,rc,rfl⟩:=HR.out.at (n:=j) zi
     have HB3:=zh (Bt HBo.out hbi)
     replace HG:=zh (HG.out.later hbi (uY.stay zi))
     clear hbi HR
     go_wp2_with (at_builtin;refine wpList_grow (w0:=w) rfl (.tmp 44) (.tmp 46) 23 rfl 29 i1 (.slice none 0 0) 1 24 Tryz.underlying23 hi' hy0 hy1 hy2 rfl zd uY _ ((List.range k).map fun i=>(List.range j).map (G i)) rfl (HG.out.later belA (uY.stay zi)) (Bt HB3.out belA) _ [.slice rv j rc] ((List.range j).map (G k)) rfl (ah.new _ _ _) rfl ?c1 ⟨_,rfl,Ky.out.later belA⟩ (uY.stay zi) ?c2 zo ?_)
     case c1=>intro u hu;simp only [List.mem_cons,List.not_mem_nil,or_false] at hu;rcases hu with rfl;rfl
     case c2=>simp;omega
     intro v' w2 hg hb2 _
     have HG2:Hid (dQ w2 w.heap.size 29 1 uY v' ((List.range (k+1)).map fun i=>(List.range j).map (G i))):=zh (by rw [sJ];exact hg)
     clear hg HG Ky
     go_wp2_with fail
     go_roundw
     case rel=>exact ⟨k+1,by go_num,by omega,HG2,hb2⟩
     case measure=>exact zM
  ·obtain rfl:k=n:=by omega
   obtain ⟨ov,cv,rfl⟩:=HG.out.at (n:=k) zi
   go_wp2_with fail
   go_ret2
   exact MatPost.yes hb HG.out.YG.Jr
end Go.Proofs.aI
namespace Go.Proofs.aI
open Go Go.RowKit Go.SW Go.Num Go.Mem Go.Proofs Go.Dec Go.dF Go.Proofs.aL Go.Proofs.matrix
theorem TransV_ok (v:Value) (m:List (List Fr)) (n:Nat) (w:World) (h:aP w v m) (hok:kW m=true) (hf:Zu m) (h1:1≤m.length) (h4:m.length≤4) (n4:n≤4) (hr:∀ r∈m,r.length=n) :
  Calls Tryz.prog 22 #[v] w (MatPost w 0 (jf m n)):=by
 obtain ⟨i0,hi,hz0,hz1,hz2⟩:=info_parts qE
 obtain ⟨i1,hi',hy0,hy1,hy2⟩:=info_parts Lu
 have RI:=zh (hok ▸ Right_ok v m w h hf)
 obtain ⟨a,cap,rfl, -, -, hread⟩:=aP.read h
 obtain ⟨b,off,a0,c0,rfl,lb,cell0, -⟩:=hread 0 zo
 rw [hr _ (List.getElem_mem _)] at cell0
 have H:Hid (∀ k (_:k<m.length),∃ a' c',w.cell? ⟨b,off+k,none⟩=some (.slice a' n c')∧∀ i,i<n→∃ b2 off2,a'=some ⟨b2,off2,none⟩∧b2<w.heap.size∧w.cell? ⟨b2,off2+i*2,none⟩=some (.string (m[k].getD i Fr.no).n)∧w.cell? ⟨b2,off2+i*2+1,none⟩=some (.string (m[k].getD i Fr.no).d)):=zh fun k hk=>by
  obtain ⟨b',off',a',c',e, -, k1,k2⟩:=hread k hk
  simp only [Option.some.injEq,Addr.mk.injEq,and_true] at e
  obtain ⟨rfl,rfl⟩:=e
  have hl:=hr _ (List.getElem_mem hk)
  rw [hl] at k1
  refine ⟨a',c',k1,fun i hi=>?_⟩
  obtain ⟨a2,c2,e2, -, -, hat⟩:=k2.read
  simp only [Value.slice.injEq] at e2
  obtain ⟨rfl, -, rfl⟩:=e2
  obtain ⟨b2,off2,k3,k4,k5,k6⟩:=hat i zo
  rw [show m[k].getD i Fr.no=m[k][i] by simp [hl,hi]]
  exact ⟨b2,off2,k3,k4,k5,k6⟩
 have h0m:0<m.length:=by omega
 have hT:jf m n=(List.range n).map fun i=>m.map fun r=>r.getD i Fr.no:=rfl
 rw [hT]
 clear hT h hread hok hf hr
 go_enter Tryz.func22,Tryz.ntmps22
 go_wp2_with fail
 refine RI.out.mono ?_
 rintro e w1 ⟨rfl,hb1⟩
 have HB1:=zh hb1
 clear hb1
 go_wp2_with fail
 go_loopw [4,5] (fun ov iv wr=>∃ k:Nat,iv= .int .i64 (k:Int)∧k≤n∧Hid (dQ wr w.heap.size 29 1 uY ov ((List.range k).map fun i=>m.map fun r=>r.getD i Fr.no))∧Below w.heap.size w wr) (fun _ iv _=>n - (intOf iv).toNat)
 case atStart=>exact ⟨0,rfl,by omega,zh (dQ.nil _ _ _ _ _),HB1.out⟩
 case round =>
  obtain ⟨k,rfl,hk,HG,hb⟩:=hrel
  have ck:=(hb.cell (p:=⟨b,off,none⟩) lb).trans cell0
  rcases Nat.lt_or_ge k n with hlt|hge
  ·obtain ⟨wo,rfl⟩:∃ wo:World,wo=wr:=⟨_,rfl⟩
   obtain ⟨ov,cv,rfl⟩:=HG.out.at (n:=k) zi
   have lbo:b<wo.heap.size:=Nat.lt_of_lt_of_le lb hb.size
   have HBo:=zh hb
   clear hb
   go_wp2_with fail
   clear ck
   go_loopw [6,7] (fun rv jv wr=>∃ j:Nat,jv= .int .i64 (j:Int)∧j≤m.length∧Hid (dQ wr wo.heap.size 59 2 RFr rv ((m.take j).map fun r=>r.getD k Fr.no))∧Below wo.heap.size wo wr) (fun _ jv _=>m.length - (intOf jv).toNat)
   case atStart=>exact ⟨0,rfl,by omega,zh (dQ.nil _ _ _ _ _),Below.refl _ _⟩
   case round =>
    obtain ⟨j,rfl,hj,HR,hbi⟩:=hrel
    rcases Nat.lt_or_ge j m.length with hjlt|aQ2
    ·obtain ⟨rv,rc,rfl⟩:=HR.out.at (n:=j) (by simp;omega)
     have HBi:=zh hbi
     clear hbi
     obtain ⟨a',c',x1,hat⟩:=H.out j hjlt
     obtain ⟨b2,off2,rfl,lb2,y1,y2⟩:=hat k hlt
     have hbw:=Bt HBo.out HBi.out
     have d1:=(hbw.cell (p:=⟨b,off+j,none⟩) lb).trans x1
     have d2:=(hbw.cell (p:=⟨b2,off2+k*2,none⟩) lb2).trans y1
     have d3:=(hbw.cell (p:=⟨b2,off2+k*2+1,none⟩) lb2).trans y2
     have lb3:b2<wr.heap.size:=Nat.lt_of_lt_of_le lb2 hbw.size
     have lb4:b<wr.heap.size:=Nat.lt_of_lt_of_le lb hbw.size
     clear x1 y1 y2 hat hbw lb2
     obtain ⟨f,hfe⟩:∃ f,m[j].getD k Fr.no=f:=⟨_,rfl⟩
     have HFE:=zh hfe
     rw [hfe] at d2 d3
     clear hfe
     obtain ⟨s,t⟩:=f
     go_wp2_with (at_builtin;refine wpList_grow (w0:=wo) rfl (.tmp 25) (.tmp 33) 29 rfl 59 i0 (.agg #[.string ⟨#[]⟩,.string ⟨#[]⟩]) 2 32 Tryz.underlying29 hi hz0 hz1 hz2 rfl zd RFr _ ((m.take j).map fun r=>r.getD k Fr.no) rfl (HR.out.later belA (RFr.stay _)) (Bt HBi.out belA) _ [.string s,.string t] ⟨s,t⟩ rfl (ah.new _ _ _) rfl ?c1 rfl (RFr.stay _) ?c2 zo ?_)
     case c1=>first|exact ⟨rfl,rfl⟩|(intro u hu;simp only [List.mem_cons,List.not_mem_nil,or_false] at hu;rcases hu with rfl|rfl<;>rfl)
     case c2=>first|omega|(simp;omega)
     intro v' w2 hg hb2 _
     have HG2:Hid (dQ w2 wo.heap.size 59 2 RFr v' ((m.take (j+1)).map fun r=>r.getD k Fr.no)):=zh (by rw [List.take_succ_eq_append_getElem hjlt,List.map_append,List.map_singleton,HFE.out];first|exact hg|(rw [List.map_take];exact hg))
     clear hg HR d1 d2 d3
     go_wp2_with fail
     go_roundw
     case rel=>exact ⟨j+1,by go_num,by omega,HG2,hb2⟩
     case measure=>exact zM
    ·obtain rfl:j=m.length:=by omega
     rw [List.take_length] at HR
     have Ky:=zh HR.out.YG.PW
     obtain ⟨rv,rc,rfl⟩:=HR.out.at (n:=m.length) zi
     have HB3:=zh (Bt HBo.out hbi)
     replace HG:=zh (HG.out.later hbi (uY.stay zi))
     clear hbi HR
     go_wp2_with (at_builtin;refine wpList_grow (w0:=w) rfl (.tmp 35) (.tmp 37) 23 rfl 29 i1 (.slice none 0 0) 1 24 Tryz.underlying23 hi' hy0 hy1 hy2 rfl zd uY _ ((List.range k).map fun i=>m.map fun r=>r.getD i Fr.no) rfl (HG.out.later belA (uY.stay zi)) (Bt HB3.out belA) _ [.slice rv m.length rc] (m.map fun r=>r.getD k Fr.no) rfl (ah.new _ _ _) rfl ?c1 ⟨_,rfl,Ky.out.later belA⟩ (uY.stay zi) ?c2 zo ?_)
     case c1=>intro u hu;simp only [List.mem_cons,List.not_mem_nil,or_false] at hu;rcases hu with rfl;rfl
     case c2=>simp;omega
     intro v' w2 hg hb2 _
     have HG2:Hid (dQ w2 w.heap.size 29 1 uY v' ((List.range (k+1)).map fun i=>m.map fun r=>r.getD i Fr.no)):=zh (by rw [sJ];exact hg)
     clear hg HG Ky
     go_wp2_with fail
     go_roundw
     case rel=>exact ⟨k+1,by go_num,by omega,HG2,hb2⟩
     case measure=>exact zM
  ·obtain rfl:k=n:=by omega
   obtain ⟨ov,cv,rfl⟩:=HG.out.at (n:=k) zi
   go_wp2_with fail
   go_ret2
   exact MatPost.yes hb HG.out.YG.Jr
end Go.Proofs.aI
namespace Go.Proofs.aI
open Go Go.RowKit Go.SW Go.Num Go.Mem Go.Proofs Go.Dec Go.dF Go.Proofs.aL Go.Proofs.matrix
def MB:Nat→Nat
 | 0=>67
 | n+1=>(2*MB n+1)*2^(n+1)
end Go.Proofs.aI
namespace Go.Proofs.aI
open Go Go.RowKit Go.SW Go.Num Go.Mem Go.Proofs Go.Dec Go.dF Go.Proofs.aL Go.Proofs.matrix
theorem Transpose_any (v:Value) (m:List (List Fr)) (w:World) (h:aP w v m) (hf:Zu m) :
  Calls Tryz.prog 22 #[v] w (MatPost w (gY m) (jf m (m.headD []).length)):=by
 rcases chkM_two m with ⟨hk,e⟩|⟨hk,e⟩
 ·obtain ⟨k1,k4,k5,k6,k7⟩:=okM_parts hk
  rw [e]
  exact TransV_ok v m _ w h hk hf k1 k4 k6 fun r hr=>(k7 r hr).1
 ·rw [e]
  have HC:=zh (Right_ok v m w h hf)
  rw [hk] at HC
  obtain ⟨a,cap,rfl⟩:=aP.sl h
  clear h hk e hf
  go_enter Tryz.func22,Tryz.ntmps22
  go_wp2_with fail
  refine HC.out.mono ?_
  rintro e w1 ⟨rfl,hc1⟩
  go_wp2_with fail
  go_ret2
  exact MatPost.no hc1 zd
end Go.Proofs.aI
namespace Go.Proofs.verdigrislaw05
open Go Go.RowKit Go.SW Go.Num Go.Mem Go.Proofs Go.Dec Go.dF Go.Proofs.matrix Go.Proofs.aI
theorem little_fits {m:List (List Fr)} (h:Little m):Zu m:=fun r hr x hx=>by
 have:=(h.2 r hr).2 x hx
 exact ⟨by omega,by omega⟩
theorem own_at {v:Value} {m:List (List Fr)} {n:Nat} {w:World} (h:aP w v m) (hl:Little m) (hn:m.length=n) :
  Calls Tryz.prog 26 #[v] w (fun e w'=>∃ a c,e= .returned (.slice a n c)∧Below w.heap.size w w'∧aP w' (.slice a n c) m):=by
 have:=own_ok v m w (maR h)
 rw [own_same hl,hn] at this
 exact this
def AnyN (W:World) (n:Nat) (k:Int) (R:List (List Fr)) (e:Ending) (w':World):Prop:=∃ a c,e= .returned (.tuple #[.slice a n c,.int .i64 k])∧Below W.heap.size W w'∧aP w' (.slice a n c) R
def orM (k:Int) (m:List (List Fr)):List (List Fr):=if k=0 then m else []
theorem aP.none (w:World):aP w (.slice none 0 0) []:=⟨[],Row.nil _ _,rfl,fun i hi=>by cases hi⟩
theorem any_of {W w':World} {k:Int} {m:List (List Fr)} {n:Nat} {e:Ending} (h:MatPost W k m e w') (hn:(orM k m).length=n):AnyN W n k (orM k m) e w':=by
 obtain ⟨h1,v,rfl,h2,h3⟩:=h
 subst hn
 unfold orM
 by_cases hk:k=0
 ·rw [if_pos hk]
  obtain ⟨a,c,rfl⟩:=aP.sl (h2 hk)
  exact ⟨a,c,rfl,h1,h2 hk⟩
 ·rw [if_neg hk]
  rw [h3 hk]
  exact ⟨none,0,rfl,h1,aP.none w'⟩
theorem sm_short {q:Rat} (h:Sm q):(Fr.of q).n.size≤40∧(Fr.of q).d.size≤40:=by
 have key:∀ z:Int,z.natAbs≤999→(Lib.itoa z).length≤4:=fun z hz=>Nat.le_trans (itoa_len z) (Nat.succ_le_succ (Dec.dec_len_le 3 _ zo zo))
 have h1:=key q.num h.2.1
 have h2:=key (q.den:Int) (by have:=h.2.2;omega)
 have e:∀ l:List UInt8,(⟨l.toArray⟩:ByteArray).size=l.length:=fun l=>by simp [ByteArray.size]
 unfold Fr.of
 constructor
 ·show (⟨(Lib.itoa q.num).toArray⟩:ByteArray).size≤40
  rw [e];omega
 ·show (⟨(Lib.itoa (q.den:Int)).toArray⟩:ByteArray).size≤40
  rw [e];omega
theorem little_mk {n k:Nat} {f:Nat→Nat→Rat} (hn:n≤4) (hk:k≤4) (h:∀ i j,Sm (f i j)):Little (mkR n k f).fr∧(mkR n k f).fr.length=n:=by
 refine ⟨⟨?_,fun r hr=>?_⟩,by rw [fr_len,mkR_len]⟩
 ·rw [fr_len,mkR_len];omega
 ·obtain ⟨s,hs,rfl⟩:=List.mem_map.1 hr
  have hl:=mkR_row hs
  refine ⟨by rw [List.length_map,hl];omega,fun x hx=>?_⟩
  obtain ⟨q,hq,rfl⟩:=List.mem_map.1 hx
  obtain ⟨i, -, rfl⟩:=List.mem_map.1 hs
  obtain ⟨j, -, rfl⟩:=List.mem_map.1 hq
  exact sm_short (h i j)
end Go.Proofs.verdigrislaw05
namespace Go.SW
open Go Go.RowKit
variable {P:Program} {ops:Array Oper} {Q:Exit→Act→World→Prop}
theorem addE_some {x y i:Nat} {o:Oper} (h:ops[i]? =some o):∃ o',(ku x y ops)[i]? =some o'∧o'.dst=o.dst∧o'.op=o.op∧o'.guard=o.guard∧(∀ (a:Act) (w:World) K R,o.wp P a w K R→o'.wp P a w K R)∧(∀ f,Region.wanted o' f=Region.wanted o f)∧(∀ ρ,execOp ρ o'=execOp ρ o)∧∀ (a:Act) (w:World),Oper.asks P o a w→Oper.asks P o' a w:=by
 refine ⟨_,by rw [uS,h];rfl,?_,?_,?_,?_,?_,?_,?_⟩
 all_goals split<;>first|rfl|exact fun _ _ _ _ h=>h|exact fun _=>rfl|exact fun _ _ h=>h
theorem addE_wpOps' (x y:Nat):∀ (l:List Nat) (a:Act) (w:World),wpOps P ops Q l a w→wpOps P (ku x y ops) Q l a w
 | [],_,_,h=>h
 | i::l,a,w,h=>by
  have ih:=addE_wpOps' x y l
  unfold wpOps at h ⊢
  have hy:yielded (ku x y ops) a.tmps=yielded ops a.tmps:=funext fun g=>Dr x y _ g
  rw [hy]
  cases ho:ops[i]? with
  | none =>
   rw [uS,ho,Option.map_none]
   simp only [ho] at h ⊢
   exact ih _ _ h
  | some o =>
   obtain ⟨o',h1,h2,h3,h4,h5,h6,h7,h8⟩:=addE_some (P:=P) (x:=x) (y:=y) ho
   rw [h1]
   simp only [ho,h6,h2] at h ⊢
   split at h
   ·rename_i hw
    rw [if_pos hw]
    rcases h with h|h
    ·exact .inl (h5 _ _ _ _ (Oper.wp_mono ih h))
    ·exact .inr ⟨h8 _ _ h.1,h.2⟩
   ·rename_i hw
    rw [if_neg hw]
    exact ih _ _ h
theorem walk_addE (x y N:Nat):∀ (is:List (K × Nat)) (A:List Nat) (a:Act) (w:World),walk P ops Q N is A a w→walk P (ku x y ops) Q N is A a w
 | [],_,_,_,h=>h
 | (k,i)::is,A,a,w,h=>by
  have ih:=walk_addE x y N is
  unfold walk at h ⊢
  have hy:yielded (ku x y ops) a.tmps=yielded ops a.tmps:=funext fun g=>Dr x y _ g
  rw [hy]
  cases ho:ops[i]? with
  | none=>rw [ho] at h;exact h.elim
  | some o =>
   obtain ⟨o',h1,h2,h3,h4,h5,h6,h7,h8⟩:=addE_some (P:=P) (x:=x) (y:=y) ho
   rw [ho] at h
   rw [h1]
   cases k with
   | pure =>
    simp only [h6,h7,h2] at h ⊢
    split at h
    ·rename_i hw
     rw [if_pos hw]
     obtain ⟨v,k1,k2⟩:=h
     exact ⟨v,k1,ih _ _ _ k2⟩
    ·rename_i hw
     rw [if_neg hw]
     exact ih _ _ _ h
   | read =>
    simp only [h6,h7,h2] at h ⊢
    split at h
    ·rename_i hw
     rw [if_pos hw]
     obtain ⟨v,k1,k2⟩:=h
     exact ⟨v,k1,ih _ _ _ k2⟩
    ·rename_i hw
     rw [if_neg hw]
     exact ih _ _ _ h
   | alloc cs T =>
    simp only [h2] at h ⊢
    exact fun b w' k1 k2 k3 k4 k5=>ih _ _ _ (h b w' k1 k2 k3 k4 k5)
   | ext =>
    simp only [h6,h2] at h ⊢
    split at h
    ·rename_i hw
     rw [if_pos hw]
     exact fun w' k1=>h5 _ _ _ _ (Oper.wp_mono (fun a' w'' k=>⟨k.1,ih _ _ _ k.2⟩) (h w' k1))
    ·rename_i hw
     rw [if_neg hw]
     exact ih _ _ _ h
   | fin =>
    exact fun w' k1=>addE_wpOps' x y _ _ _ (h w' k1)
inductive St|one (k:K) (i:Nat)|two (i j:Nat)
variable {o:Oper} {i:Nat} {is:List St} {a:Act} {w:World} {N:Nat} {A:List Nat}
end Go.SW
namespace Go.Proofs.verdigrislaw05
open Go Go.RowKit Go.SW Go.Num Go.Mem Go.Proofs Go.Dec Go.dF Go.Proofs.matrix Go.Proofs.aI
def GivC (w:World) (f:FuncId) (args:Array Value) (n:Nat) (M:List (List Fr)):Prop:=∀ W,Below w.heap.size w W→Calls Tryz.prog f args W (fun e w'=>∃ a c,e= .returned (.slice a n c)∧Below W.heap.size W w'∧aP w' (.slice a n c) M)
def PairAt (w:World) (b o:Nat) (M N:List (List Fr)):Prop:=∃ a n c a' n' c',w.cell? ⟨b,o,none⟩=some (.slice a n c)∧w.cell? ⟨b,o+1,none⟩=some (.slice a' n' c')∧aP w (.slice a n c) M∧aP w (.slice a' n' c') N
theorem PairAt.later {w w':World} {b o:Nat} {M N:List (List Fr)} (h:PairAt w b o M N) (hb:Below w.heap.size w w') (hl:b<w.heap.size):PairAt w' b o M N:=by
 obtain ⟨a,n,c,a',n',c',h1,h2,h3,h4⟩:=h
 exact ⟨a,n,c,a',n',c',(hb.cell (p:=⟨b,o,none⟩) hl).trans h1,(hb.cell (p:=⟨b,o+1,none⟩) hl).trans h2,h3.later hb,h4.later hb⟩
def Pairs (w:World) (v:Value) (MA MB M1 M2 M4 M5:List (List Fr)):Prop:=∃ b,v= .slice (some ⟨b,0,none⟩) 4 4∧b<w.heap.size∧PairAt w b 0 MA MB∧PairAt w b 2 M1 M2∧PairAt w b 4 M1 M4∧PairAt w b 6 M5 MB
theorem Pairs.later {w w':World} {v:Value} {MA MB M1 M2 M4 M5:List (List Fr)} (h:Pairs w v MA MB M1 M2 M4 M5) (hb:Below w.heap.size w w'):Pairs w' v MA MB M1 M2 M4 M5:=by
 obtain ⟨b,h1,h2,h3,h4,h5,h6⟩:=h
 exact ⟨b,h1,Nat.lt_of_lt_of_le h2 hb.size,h3.later hb h2,h4.later hb h2,h5.later hb h2,h6.later hb h2⟩
theorem pairs_main (r c r1 c1:Int) (A B v v1:Value) (na nb n1 n2 n4 n5:Nat) (MA MB M1 M2 M4 M5:List (List Fr)) (w:World) (hA:∃ a n c,A= .slice a n c) (hB:∃ a n c,B= .slice a n c) (hv:jw w v) (hv1:jw w v1)
  (HA:Hid (GivC w 26 #[A] na MA)) (HB1:Hid (GivC w 26 #[B] nb MB))
  (H1:Hid (GivC w 32 #[.agg #[.int .u8 r,.int .u8 c,v]] n1 M1)) (H2:Hid (GivC w 32 #[.agg #[.int .u8 r1,.int .u8 c1,v1]] n2 M2)) (H4:Hid (GivC w 32 #[.agg #[.int .u8 c,.int .u8 c1,v1]] n4 M4))
  (H5:Hid (GivC w 33 #[.agg #[.int .u8 r,.int .u8 c,v]] n5 M5)) :
  Calls Tryz.prog 20 #[.agg #[A,B,.int .u8 r,.int .u8 c,v,.int .u8 r1,.int .u8 c1,v1]] w (fun e w'=>∃ v',e= .returned v'∧Below w.heap.size w w'∧Pairs w' v' MA MB M1 M2 M4 M5):=by
 obtain ⟨aA,nA,cA,rfl⟩:=hA
 obtain ⟨aB,nB,cB,rfl⟩:=hB
 obtain ⟨a0,nd,cap,rfl, -, -⟩:=hv
 obtain ⟨a1,nd1,aG6,rfl, -, -⟩:=hv1
 go_enter Tryz.func20,Tryz.ntmps20
 go_wp2_with fail
 obtain ⟨u0,EW,hz,HX⟩:=al1 w #[.slice aA nA cA,.slice aB nB cB,.int .u8 r,.int .u8 c,.slice a0 nd cap,.int .u8 r1,.int .u8 c1,.slice a1 nd1 aG6] 28
 rw [EW]
 have HB:=zh hz
 clear EW hz
 have Po:=zh (Below.refl u0.heap.size u0)
 refine aD [(.pure,0),(.read,1),(.pure,3),(.read,4),(.ext,2),(.ext,5),(.fin,6),(.fin,7)] zk zk zR zP ?_
 refine Wk.out ?_
 have cHX:=HX.out.cell
 have lHX:=HX.out.lt
 repeat (first|(apply wk_skip;(rfl);(rfl);(rfl);(intro J hJ;go_simp;(with_reducible refine hJ _ ?_);clear hJ J))|(apply wk_len;(rfl);(rfl);(rfl);(rfl);(exact zk);(intro J hJ;go_simp;(with_reducible refine hJ _ ?_);clear hJ J))|(apply wk_pure;(rfl);(rfl);(intro J hJ;go_simp;(with_reducible refine hJ _ ?_);clear hJ J))|(apply wk_load;(rfl);(rfl);(rfl);(rfl);(intro J hJ;go_simp;(with_reducible refine hJ _ ?_);clear hJ J;try go_simp)))
 clear cHX lHX
 refine wk_ext rfl rfl (fun we hbe J hJ=>?_)
 go_simp
 have hx:Below u0.heap.size u0 we:=belA
 have jr:=zh (Bt HB.out hx)
 refine (HA.out _ jr.out).mono ?_
 rintro e u1 ⟨ba,da,rfl,h,hm⟩
 have hy:=Bt hx h
 refine hJ _ _ h ?_
 clear hJ J hbe hx h jr
 replace HX:=zh (HX.out.later hy)
 replace HB:=zh (Bt HB.out hy)
 replace Po:=zh (Bt Po.out hy)
 clear hy
 have FA:=zh hm
 clear hm
 have cHX:=HX.out.cell
 have lHX:=HX.out.lt
 repeat (first|(apply wk_skip;(rfl);(rfl);(rfl);(intro J hJ;go_simp;(with_reducible refine hJ _ ?_);clear hJ J))|(apply wk_len;(rfl);(rfl);(rfl);(rfl);(exact zk);(intro J hJ;go_simp;(with_reducible refine hJ _ ?_);clear hJ J))|(apply wk_pure;(rfl);(rfl);(intro J hJ;go_simp;(with_reducible refine hJ _ ?_);clear hJ J))|(apply wk_load;(rfl);(rfl);(rfl);(rfl);(intro J hJ;go_simp;(with_reducible refine hJ _ ?_);clear hJ J;try go_simp)))
 clear cHX lHX
 refine wk_ext rfl rfl (fun we hbe J hJ=>?_)
 go_simp
 have hx:Below u1.heap.size u1 we:=belA
 have jr:=zh (Bt HB.out hx)
 refine (HB1.out _ jr.out).mono ?_
 rintro e u2 ⟨bb,db,rfl,h,hm⟩
 have hy:=Bt hx h
 refine hJ _ _ h ?_
 clear hJ J hbe hx h jr
 replace HX:=zh (HX.out.later hy)
 replace FA:=zh (FA.out.later hy)
 replace HB:=zh (Bt HB.out hy)
 replace Po:=zh (Bt Po.out hy)
 clear hy
 have FB:=zh hm
 clear hm
 have cHX:=HX.out.cell
 have lHX:=HX.out.lt
 repeat (first|(apply wk_skip;(rfl);(rfl);(rfl);(intro J hJ;go_simp;(with_reducible refine hJ _ ?_);clear hJ J))|(apply wk_len;(rfl);(rfl);(rfl);(rfl);(exact zk);(intro J hJ;go_simp;(with_reducible refine hJ _ ?_);clear hJ J))|(apply wk_pure;(rfl);(rfl);(intro J hJ;go_simp;(with_reducible refine hJ _ ?_);clear hJ J))|(apply wk_load;(rfl);(rfl);(rfl);(rfl);(intro J hJ;go_simp;(with_reducible refine hJ _ ?_);clear hJ J;try go_simp)))
 clear cHX lHX
 refine wk_fin [_,_] rfl (fun u3 hbf=>?_)
 have hy:Below u2.heap.size u2 u3:=belA
 replace HX:=zh (HX.out.later hy)
 replace FA:=zh (FA.out.later hy)
 replace FB:=zh (FB.out.later hy)
 replace HB:=zh (Bt HB.out hy)
 clear hy hbf Po
 go_wp2_with fail
 have cHX:=HX.out.cell
 have lHX:=HX.out.lt
 refine reg_in zk (reg_two 3 6 zd (reg_walk [(.pure,0),(.read,1),(.pure,2),(.read,3),(.alloc #[.int .u8 0,.int .u8 0,.slice none 0 0] 26,4),(.alloc #[.int .u8 0,.int .u8 0,.slice none 0 0] 26,5),(.fin,6),(.fin,7)] zk zR zP (walk_addE _ _ _ _ _ _ _ (Wk.out ?o1))) (reg_walk [(.pure,0),(.read,1),(.pure,2),(.alloc #[.int .u8 0,.int .u8 0,.slice none 0 0] 26,4),(.alloc #[.int .u8 0,.int .u8 0,.slice none 0 0] 26,5),(.fin,6),(.fin,3),(.fin,7)] zk zR zP (walk_addE _ _ _ _ _ _ _ (Wk.out ?o2))))
 case o1 =>
  repeat (first|(apply wk_skip;(rfl);(rfl);(rfl);(intro J hJ;go_simp;(with_reducible refine hJ _ ?_);clear hJ J))|(apply wk_len;(rfl);(rfl);(rfl);(rfl);(exact zk);(intro J hJ;go_simp;(with_reducible refine hJ _ ?_);clear hJ J))|(apply wk_pure;(rfl);(rfl);(intro J hJ;go_simp;(with_reducible refine hJ _ ?_);clear hJ J))|(apply wk_load;(rfl);(rfl);(rfl);(rfl);(intro J hJ;go_simp;(with_reducible refine hJ _ ?_);clear hJ J;try go_simp)))
  refine wk_alloc rfl (fun q wg hbg hq1 hq2 hq3 PU=>?_);go_simp
  replace PU:ah wg q #[.int .u8 0,.int .u8 0,.slice none 0 0] 26:=PU
  refine wk_alloc rfl (fun p wk hbk hp1 hp2 hp3 hx8=>?_);go_simp
  replace hx8:ah wk p #[.int .u8 0,.int .u8 0,.slice none 0 0] 26:=hx8
  refine wk_fin [_,_] rfl (fun wh hbh=>?_)
  have z0:=Bt (Bt hbg hbk) hbh
  have hd:Below u3.heap.size u3 u3.drew:=belA
  have XH:=(HX.out.later hd).later z0
  have cX:=XH.cell
  have lX:=XH.lt
  have nq:w.heap.size≠q:=by have:=(HX.out.later hd).lt;omega
  have np:w.heap.size≠p:=by have:=(HX.out.later hd).lt;omega
  have nq2:q≠w.heap.size:=fun e=>nq e.symm
  have np2:p≠w.heap.size:=fun e=>np e.symm
  have Y:=(PU.later hbk).later hbh
  have Z:=hx8.later hbh
  have ne:q≠p:=by simp at hp3;omega
  have ne2:p≠q:=fun e=>ne e.symm
  have cY:=Y.cell
  have lY:=Y.lt
  have fY:=Y.free
  have cZ:=Z.cell
  have lZ:=Z.lt
  have fZ:=Z.free
  have HQ:=zh (((((((Y.set 0 (.int .u8 r)).set 1 (.int .u8 c)).set 2 (.slice a0 nd cap)).setOther (a:=⟨p,0,none⟩) (.int .u8 r1) ne).setOther (a:=⟨p,1,none⟩) (.int .u8 c1) ne).setOther (a:=⟨p,2,none⟩) (.slice a1 nd1 aG6) ne).setOther (a:=⟨p,0,none⟩) (.int .u8 c) ne)
  have HR:=zh (((((((Z.setOther (a:=⟨q,0,none⟩) (.int .u8 r) ne2).setOther (a:=⟨q,1,none⟩) (.int .u8 c) ne2).setOther (a:=⟨q,2,none⟩) (.slice a0 nd cap) ne2).set 0 (.int .u8 r1)).set 1 (.int .u8 c1)).set 2 (.slice a1 nd1 aG6)).set 0 (.int .u8 c))
  have HZ:=zh (((((((z0.setCell (p:=⟨q,0,none⟩) hq1 (.int .u8 r)).setCell (p:=⟨q,1,none⟩) hq1 (.int .u8 c)).setCell (p:=⟨q,2,none⟩) hq1 (.slice a0 nd cap)).setCell (p:=⟨p,0,none⟩) hp1 (.int .u8 r1)).setCell (p:=⟨p,1,none⟩) hp1 (.int .u8 c1)).setCell (p:=⟨p,2,none⟩) hp1 (.slice a1 nd1 aG6)).setCell (p:=⟨p,0,none⟩) hp1 (.int .u8 c))
  clear cHX lHX hbg hbk hbh PU hx8 z0 Y Z hq2 hq3 hp2 hp3 hq1 hp1 XH
  go_wp2_with fail
  clear cY lY fY cZ lZ fZ ne ne2 cX lX nq np nq2 np2
  obtain ⟨W9,EW⟩:∃ y,((((((wh.setCell ⟨q,0,none⟩ (.int .u8 r)).setCell ⟨q,1,none⟩ (.int .u8 c)).setCell ⟨q,2,none⟩ (.slice a0 nd cap)).setCell ⟨p,0,none⟩ (.int .u8 r1)).setCell ⟨p,1,none⟩ (.int .u8 c1)).setCell ⟨p,2,none⟩ (.slice a1 nd1 aG6)).setCell ⟨p,0,none⟩ (.int .u8 c)=y:=⟨_,rfl⟩
  rw [EW] at HQ HR HZ ⊢
  have GX:Hid (ah W9 q #[.int .u8 r,.int .u8 c,.slice a0 nd cap] 26):=HQ
  have GY:Hid (ah W9 p #[.int .u8 c,.int .u8 c1,.slice a1 nd1 aG6] 26):=HR
  have hz:=Bt hd HZ.out
  clear EW HQ HR HZ hd
  replace HX:=zh (HX.out.later hz)
  replace FA:=zh (FA.out.later hz)
  replace FB:=zh (FB.out.later hz)
  replace HB:=zh (Bt HB.out hz)
  clear hz
  have Po:=zh (Below.refl W9.heap.size W9)
  refine aD [(.pure,0),(.pure,1),(.pure,2),(.pure,3),(.read,4),(.pure,6),(.read,7),(.read,10),(.read,12),(.pure,15),(.read,16),(.pure,18),(.ext,5),(.ext,8),(.pure,9),(.ext,11),(.ext,13),(.pure,14),(.ext,17),(.pure,19),(.ext,20),(.fin,21)] zk zk zR zP ?_
  refine Wk.out ?_
  have cHX:=HX.out.cell
  have lHX:=HX.out.lt
  have cGX:=GX.out.cell
  have lGX:=GX.out.lt
  have cGY:=GY.out.cell
  have lGY:=GY.out.lt
  repeat (first|(apply wk_skip;(rfl);(rfl);(rfl);(intro J hJ;go_simp;(with_reducible refine hJ _ ?_);clear hJ J))|(apply wk_len;(rfl);(rfl);(rfl);(rfl);(exact zk);(intro J hJ;go_simp;(with_reducible refine hJ _ ?_);clear hJ J))|(apply wk_pure;(rfl);(rfl);(intro J hJ;go_simp;(with_reducible refine hJ _ ?_);clear hJ J))|(apply wk_load;(rfl);(rfl);(rfl);(rfl);(intro J hJ;go_simp;(with_reducible refine hJ _ ?_);clear hJ J;try go_simp)))
  clear cHX lHX
  clear cGX lGX
  clear cGY lGY
  refine wk_ext rfl rfl (fun we hbe J hJ=>?_)
  go_simp
  have hx:Below W9.heap.size W9 we:=belA
  have jr:=zh (Bt HB.out hx)
  refine (H1.out _ jr.out).mono ?_
  rintro e u4 ⟨b1,d1,rfl,h,hm⟩
  have hy:=Bt hx h
  refine hJ _ _ h ?_
  clear hJ J hbe hx h jr
  replace HX:=zh (HX.out.later hy)
  replace FA:=zh (FA.out.later hy)
  replace FB:=zh (FB.out.later hy)
  replace GX:=zh (GX.out.later hy)
  replace GY:=zh (GY.out.later hy)
  replace HB:=zh (Bt HB.out hy)
  clear hy
  have F1:=zh hm
  clear hm
  have cHX:=HX.out.cell
  have lHX:=HX.out.lt
  have cGX:=GX.out.cell
  have lGX:=GX.out.lt
  have cGY:=GY.out.cell
  have lGY:=GY.out.lt
  repeat (first|(apply wk_skip;(rfl);(rfl);(rfl);(intro J hJ;go_simp;(with_reducible refine hJ _ ?_);clear hJ J))|(apply wk_len;(rfl);(rfl);(rfl);(rfl);(exact zk);(intro J hJ;go_simp;(with_reducible refine hJ _ ?_);clear hJ J))|(apply wk_pure;(rfl);(rfl);(intro J hJ;go_simp;(with_reducible refine hJ _ ?_);clear hJ J))|(apply wk_load;(rfl);(rfl);(rfl);(rfl);(intro J hJ;go_simp;(with_reducible refine hJ _ ?_);clear hJ J;try go_simp)))
  clear cHX lHX
  clear cGX lGX
  clear cGY lGY
  refine wk_ext rfl rfl (fun we hbe J hJ=>?_)
  go_simp
  have hx:Below u4.heap.size u4 we:=belA
  have jr:=zh (Bt HB.out hx)
  refine (H2.out _ jr.out).mono ?_
  rintro e u5 ⟨b2,d2,rfl,h,hm⟩
  have hy:=Bt hx h
  refine hJ _ _ h ?_
  clear hJ J hbe hx h jr
  replace HX:=zh (HX.out.later hy)
  replace FA:=zh (FA.out.later hy)
  replace FB:=zh (FB.out.later hy)
  replace GX:=zh (GX.out.later hy)
  replace GY:=zh (GY.out.later hy)
  replace F1:=zh (F1.out.later hy)
  replace HB:=zh (Bt HB.out hy)
  clear hy
  have F2:=zh hm
  clear hm
  have cHX:=HX.out.cell
  have lHX:=HX.out.lt
  have cGX:=GX.out.cell
  have lGX:=GX.out.lt
  have cGY:=GY.out.cell
  have lGY:=GY.out.lt
  repeat (first|(apply wk_skip;(rfl);(rfl);(rfl);(intro J hJ;go_simp;(with_reducible refine hJ _ ?_);clear hJ J))|(apply wk_len;(rfl);(rfl);(rfl);(rfl);(exact zk);(intro J hJ;go_simp;(with_reducible refine hJ _ ?_);clear hJ J))|(apply wk_pure;(rfl);(rfl);(intro J hJ;go_simp;(with_reducible refine hJ _ ?_);clear hJ J))|(apply wk_load;(rfl);(rfl);(rfl);(rfl);(intro J hJ;go_simp;(with_reducible refine hJ _ ?_);clear hJ J;try go_simp)))
  clear cHX lHX
  clear cGX lGX
  clear cGY lGY
  refine wk_ext rfl rfl (fun we hbe J hJ=>?_)
  go_simp
  have hx:Below u5.heap.size u5 we:=belA
  have jr:=zh (Bt HB.out hx)
  refine (H1.out _ jr.out).mono ?_
  rintro e u6 ⟨b3,d3,rfl,h,hm⟩
  have hy:=Bt hx h
  refine hJ _ _ h ?_
  clear hJ J hbe hx h jr
  replace HX:=zh (HX.out.later hy)
  replace FA:=zh (FA.out.later hy)
  replace FB:=zh (FB.out.later hy)
  replace GX:=zh (GX.out.later hy)
  replace GY:=zh (GY.out.later hy)
  replace F1:=zh (F1.out.later hy)
  replace F2:=zh (F2.out.later hy)
  replace HB:=zh (Bt HB.out hy)
  clear hy
  have F3:=zh hm
  clear hm
  have cHX:=HX.out.cell
  have lHX:=HX.out.lt
  have cGX:=GX.out.cell
  have lGX:=GX.out.lt
  have cGY:=GY.out.cell
  have lGY:=GY.out.lt
  repeat (first|(apply wk_skip;(rfl);(rfl);(rfl);(intro J hJ;go_simp;(with_reducible refine hJ _ ?_);clear hJ J))|(apply wk_len;(rfl);(rfl);(rfl);(rfl);(exact zk);(intro J hJ;go_simp;(with_reducible refine hJ _ ?_);clear hJ J))|(apply wk_pure;(rfl);(rfl);(intro J hJ;go_simp;(with_reducible refine hJ _ ?_);clear hJ J))|(apply wk_load;(rfl);(rfl);(rfl);(rfl);(intro J hJ;go_simp;(with_reducible refine hJ _ ?_);clear hJ J;try go_simp)))
  clear cHX lHX
  clear cGX lGX
  clear cGY lGY
  refine wk_ext rfl rfl (fun we hbe J hJ=>?_)
  go_simp
  have hx:Below u6.heap.size u6 we:=belA
  have jr:=zh (Bt HB.out hx)
  refine (H4.out _ jr.out).mono ?_
  rintro e u7 ⟨b4,d4,rfl,h,hm⟩
  have hy:=Bt hx h
  refine hJ _ _ h ?_
  clear hJ J hbe hx h jr
  replace HX:=zh (HX.out.later hy)
  replace FA:=zh (FA.out.later hy)
  replace FB:=zh (FB.out.later hy)
  replace GX:=zh (GX.out.later hy)
  replace GY:=zh (GY.out.later hy)
  replace F1:=zh (F1.out.later hy)
  replace F2:=zh (F2.out.later hy)
  replace F3:=zh (F3.out.later hy)
  replace HB:=zh (Bt HB.out hy)
  clear hy
  have F4:=zh hm
  clear hm
  have cHX:=HX.out.cell
  have lHX:=HX.out.lt
  have cGX:=GX.out.cell
  have lGX:=GX.out.lt
  have cGY:=GY.out.cell
  have lGY:=GY.out.lt
  repeat (first|(apply wk_skip;(rfl);(rfl);(rfl);(intro J hJ;go_simp;(with_reducible refine hJ _ ?_);clear hJ J))|(apply wk_len;(rfl);(rfl);(rfl);(rfl);(exact zk);(intro J hJ;go_simp;(with_reducible refine hJ _ ?_);clear hJ J))|(apply wk_pure;(rfl);(rfl);(intro J hJ;go_simp;(with_reducible refine hJ _ ?_);clear hJ J))|(apply wk_load;(rfl);(rfl);(rfl);(rfl);(intro J hJ;go_simp;(with_reducible refine hJ _ ?_);clear hJ J;try go_simp)))
  clear cHX lHX
  clear cGX lGX
  clear cGY lGY
  refine wk_ext rfl rfl (fun we hbe J hJ=>?_)
  go_simp
  have hx:Below u7.heap.size u7 we:=belA
  have jr:=zh (Bt HB.out hx)
  refine (H5.out _ jr.out).mono ?_
  rintro e u8 ⟨b5,d5,rfl,h,hm⟩
  have hy:=Bt hx h
  refine hJ _ _ h ?_
  clear hJ J hbe hx h jr
  replace HX:=zh (HX.out.later hy)
  replace FA:=zh (FA.out.later hy)
  replace FB:=zh (FB.out.later hy)
  replace GX:=zh (GX.out.later hy)
  replace GY:=zh (GY.out.later hy)
  replace F1:=zh (F1.out.later hy)
  replace F2:=zh (F2.out.later hy)
  replace F3:=zh (F3.out.later hy)
  replace F4:=zh (F4.out.later hy)
  replace HB:=zh (Bt HB.out hy)
  clear hy
  have F5:=zh hm
  clear hm
  repeat (first|(apply wk_skip;(rfl);(rfl);(rfl);(intro J hJ;go_simp;(with_reducible refine hJ _ ?_);clear hJ J))|(apply wk_len;(rfl);(rfl);(rfl);(rfl);(exact zk);(intro J hJ;go_simp;(with_reducible refine hJ _ ?_);clear hJ J))|(apply wk_pure;(rfl);(rfl);(intro J hJ;go_simp;(with_reducible refine hJ _ ?_);clear hJ J))|(apply wk_load;(rfl);(rfl);(rfl);(rfl);(intro J hJ;go_simp;(with_reducible refine hJ _ ?_);clear hJ J;try go_simp)))
  refine wk_ext rfl rfl (fun wc hbc J hJ=>?_);go_simp
  have z2:Below u8.heap.size u8 wc:=belA
  refine hJ _ _ belA ?_
  clear hJ J
  have hbx:=ah.new wc #[.slice ba na da,.slice bb nb db,.slice b1 n1 d1,.slice b2 n2 d2,.slice b3 n1 d3,.slice b4 n4 d4,.slice b5 n5 d5,.slice bb nb db] 43
  refine wk_fin [_] rfl (fun wf hbf=>?_)
  have zf:Below u8.heap.size u8 wf:=Bt (Bt z2 belA) hbf
  have X:=hbx.later hbf
  go_wp2_with fail
  go_ret
  exact ⟨_,rfl,Bt HB.out zf,wc.heap.size,rfl,X.lt,⟨_,_,_,_,_,_,(X.cell 0).trans rfl,(X.cell 1).trans rfl,FA.out.later zf,FB.out.later zf⟩,⟨_,_,_,_,_,_,(X.cell 2).trans rfl,(X.cell 3).trans rfl,F1.out.later zf,F2.out.later zf⟩,⟨_,_,_,_,_,_,(X.cell 4).trans rfl,(X.cell 5).trans rfl,F3.out.later zf,F4.out.later zf⟩,⟨_,_,_,_,_,_,(X.cell 6).trans rfl,(X.cell 7).trans rfl,F5.out.later zf,FB.out.later zf⟩⟩
 case o2 =>
  repeat (first|(apply wk_skip;(rfl);(rfl);(rfl);(intro J hJ;go_simp;(with_reducible refine hJ _ ?_);clear hJ J))|(apply wk_len;(rfl);(rfl);(rfl);(rfl);(exact zk);(intro J hJ;go_simp;(with_reducible refine hJ _ ?_);clear hJ J))|(apply wk_pure;(rfl);(rfl);(intro J hJ;go_simp;(with_reducible refine hJ _ ?_);clear hJ J))|(apply wk_load;(rfl);(rfl);(rfl);(rfl);(intro J hJ;go_simp;(with_reducible refine hJ _ ?_);clear hJ J;try go_simp)))
  refine wk_alloc rfl (fun q wg hbg hq1 hq2 hq3 PU=>?_);go_simp
  replace PU:ah wg q #[.int .u8 0,.int .u8 0,.slice none 0 0] 26:=PU
  refine wk_alloc rfl (fun p wk hbk hp1 hp2 hp3 hx8=>?_);go_simp
  replace hx8:ah wk p #[.int .u8 0,.int .u8 0,.slice none 0 0] 26:=hx8
  refine wk_fin [_,_,_] rfl (fun wh hbh=>?_)
  have z0:=Bt (Bt hbg hbk) hbh
  have hd:Below u3.heap.size u3 u3.drew:=belA
  have XH:=(HX.out.later hd).later z0
  have cX:=XH.cell
  have lX:=XH.lt
  have nq:w.heap.size≠q:=by have:=(HX.out.later hd).lt;omega
  have np:w.heap.size≠p:=by have:=(HX.out.later hd).lt;omega
  have nq2:q≠w.heap.size:=fun e=>nq e.symm
  have np2:p≠w.heap.size:=fun e=>np e.symm
  have Y:=(PU.later hbk).later hbh
  have Z:=hx8.later hbh
  have ne:q≠p:=by simp at hp3;omega
  have ne2:p≠q:=fun e=>ne e.symm
  have cY:=Y.cell
  have lY:=Y.lt
  have fY:=Y.free
  have cZ:=Z.cell
  have lZ:=Z.lt
  have fZ:=Z.free
  have HQ:=zh (((((((Y.set 0 (.int .u8 r)).set 1 (.int .u8 c)).set 2 (.slice a0 nd cap)).setOther (a:=⟨p,0,none⟩) (.int .u8 r1) ne).setOther (a:=⟨p,1,none⟩) (.int .u8 c1) ne).setOther (a:=⟨p,2,none⟩) (.slice a1 nd1 aG6) ne).setOther (a:=⟨p,0,none⟩) (.int .u8 c) ne)
  have HR:=zh (((((((Z.setOther (a:=⟨q,0,none⟩) (.int .u8 r) ne2).setOther (a:=⟨q,1,none⟩) (.int .u8 c) ne2).setOther (a:=⟨q,2,none⟩) (.slice a0 nd cap) ne2).set 0 (.int .u8 r1)).set 1 (.int .u8 c1)).set 2 (.slice a1 nd1 aG6)).set 0 (.int .u8 c))
  have HZ:=zh (((((((z0.setCell (p:=⟨q,0,none⟩) hq1 (.int .u8 r)).setCell (p:=⟨q,1,none⟩) hq1 (.int .u8 c)).setCell (p:=⟨q,2,none⟩) hq1 (.slice a0 nd cap)).setCell (p:=⟨p,0,none⟩) hp1 (.int .u8 r1)).setCell (p:=⟨p,1,none⟩) hp1 (.int .u8 c1)).setCell (p:=⟨p,2,none⟩) hp1 (.slice a1 nd1 aG6)).setCell (p:=⟨p,0,none⟩) hp1 (.int .u8 c))
  clear cHX lHX hbg hbk hbh PU hx8 z0 Y Z hq2 hq3 hp2 hp3 hq1 hp1 XH
  go_wp2_with fail
  clear cY lY fY cZ lZ fZ ne ne2 cX lX nq np nq2 np2
  obtain ⟨W9,EW⟩:∃ y,((((((wh.setCell ⟨q,0,none⟩ (.int .u8 r)).setCell ⟨q,1,none⟩ (.int .u8 c)).setCell ⟨q,2,none⟩ (.slice a0 nd cap)).setCell ⟨p,0,none⟩ (.int .u8 r1)).setCell ⟨p,1,none⟩ (.int .u8 c1)).setCell ⟨p,2,none⟩ (.slice a1 nd1 aG6)).setCell ⟨p,0,none⟩ (.int .u8 c)=y:=⟨_,rfl⟩
  rw [EW] at HQ HR HZ ⊢
  have GX:Hid (ah W9 q #[.int .u8 r,.int .u8 c,.slice a0 nd cap] 26):=HQ
  have GY:Hid (ah W9 p #[.int .u8 c,.int .u8 c1,.slice a1 nd1 aG6] 26):=HR
  have hz:=Bt hd HZ.out
  clear EW HQ HR HZ hd
  replace HX:=zh (HX.out.later hz)
  replace FA:=zh (FA.out.later hz)
  replace FB:=zh (FB.out.later hz)
  replace HB:=zh (Bt HB.out hz)
  clear hz
  have Po:=zh (Below.refl W9.heap.size W9)
  refine aD [(.pure,0),(.pure,1),(.pure,2),(.pure,3),(.read,4),(.pure,6),(.read,7),(.read,10),(.read,12),(.pure,15),(.read,16),(.pure,18),(.ext,5),(.ext,8),(.pure,9),(.ext,11),(.ext,13),(.pure,14),(.ext,17),(.pure,19),(.ext,20),(.fin,21)] zk zk zR zP ?_
  refine Wk.out ?_
  have cHX:=HX.out.cell
  have lHX:=HX.out.lt
  have cGX:=GX.out.cell
  have lGX:=GX.out.lt
  have cGY:=GY.out.cell
  have lGY:=GY.out.lt
  repeat (first|(apply wk_skip;(rfl);(rfl);(rfl);(intro J hJ;go_simp;(with_reducible refine hJ _ ?_);clear hJ J))|(apply wk_len;(rfl);(rfl);(rfl);(rfl);(exact zk);(intro J hJ;go_simp;(with_reducible refine hJ _ ?_);clear hJ J))|(apply wk_pure;(rfl);(rfl);(intro J hJ;go_simp;(with_reducible refine hJ _ ?_);clear hJ J))|(apply wk_load;(rfl);(rfl);(rfl);(rfl);(intro J hJ;go_simp;(with_reducible refine hJ _ ?_);clear hJ J;try go_simp)))
  clear cHX lHX
  clear cGX lGX
  clear cGY lGY
  refine wk_ext rfl rfl (fun we hbe J hJ=>?_)
  go_simp
  have hx:Below W9.heap.size W9 we:=belA
  have jr:=zh (Bt HB.out hx)
  refine (H1.out _ jr.out).mono ?_
  rintro e u4 ⟨b1,d1,rfl,h,hm⟩
  have hy:=Bt hx h
  refine hJ _ _ h ?_
  clear hJ J hbe hx h jr
  replace HX:=zh (HX.out.later hy)
  replace FA:=zh (FA.out.later hy)
  replace FB:=zh (FB.out.later hy)
  replace GX:=zh (GX.out.later hy)
  replace GY:=zh (GY.out.later hy)
  replace HB:=zh (Bt HB.out hy)
  clear hy
  have F1:=zh hm
  clear hm
  have cHX:=HX.out.cell
  have lHX:=HX.out.lt
  have cGX:=GX.out.cell
  have lGX:=GX.out.lt
  have cGY:=GY.out.cell
  have lGY:=GY.out.lt
  repeat (first|(apply wk_skip;(rfl);(rfl);(rfl);(intro J hJ;go_simp;(with_reducible refine hJ _ ?_);clear hJ J))|(apply wk_len;(rfl);(rfl);(rfl);(rfl);(exact zk);(intro J hJ;go_simp;(with_reducible refine hJ _ ?_);clear hJ J))|(apply wk_pure;(rfl);(rfl);(intro J hJ;go_simp;(with_reducible refine hJ _ ?_);clear hJ J))|(apply wk_load;(rfl);(rfl);(rfl);(rfl);(intro J hJ;go_simp;(with_reducible refine hJ _ ?_);clear hJ J;try go_simp)))
  clear cHX lHX
  clear cGX lGX
  clear cGY lGY
  refine wk_ext rfl rfl (fun we hbe J hJ=>?_)
  go_simp
  have hx:Below u4.heap.size u4 we:=belA
  have jr:=zh (Bt HB.out hx)
  refine (H2.out _ jr.out).mono ?_
  rintro e u5 ⟨b2,d2,rfl,h,hm⟩
  have hy:=Bt hx h
  refine hJ _ _ h ?_
  clear hJ J hbe hx h jr
  replace HX:=zh (HX.out.later hy)
  replace FA:=zh (FA.out.later hy)
  replace FB:=zh (FB.out.later hy)
  replace GX:=zh (GX.out.later hy)
  replace GY:=zh (GY.out.later hy)
  replace F1:=zh (F1.out.later hy)
  replace HB:=zh (Bt HB.out hy)
  clear hy
  have F2:=zh hm
  clear hm
  have cHX:=HX.out.cell
  have lHX:=HX.out.lt
  have cGX:=GX.out.cell
  have lGX:=GX.out.lt
  have cGY:=GY.out.cell
  have lGY:=GY.out.lt
  repeat (first|(apply wk_skip;(rfl);(rfl);(rfl);(intro J hJ;go_simp;(with_reducible refine hJ _ ?_);clear hJ J))|(apply wk_len;(rfl);(rfl);(rfl);(rfl);(exact zk);(intro J hJ;go_simp;(with_reducible refine hJ _ ?_);clear hJ J))|(apply wk_pure;(rfl);(rfl);(intro J hJ;go_simp;(with_reducible refine hJ _ ?_);clear hJ J))|(apply wk_load;(rfl);(rfl);(rfl);(rfl);(intro J hJ;go_simp;(with_reducible refine hJ _ ?_);clear hJ J;try go_simp)))
  clear cHX lHX
  clear cGX lGX
  clear cGY lGY
  refine wk_ext rfl rfl (fun we hbe J hJ=>?_)
  go_simp
  have hx:Below u5.heap.size u5 we:=belA
  have jr:=zh (Bt HB.out hx)
  refine (H1.out _ jr.out).mono ?_
  rintro e u6 ⟨b3,d3,rfl,h,hm⟩
  have hy:=Bt hx h
  refine hJ _ _ h ?_
  clear hJ J hbe hx h jr
  replace HX:=zh (HX.out.later hy)
  replace FA:=zh (FA.out.later hy)
  replace FB:=zh (FB.out.later hy)
  replace GX:=zh (GX.out.later hy)
  replace GY:=zh (GY.out.later hy)
  replace F1:=zh (F1.out.later hy)
  replace F2:=zh (F2.out.later hy)
  replace HB:=zh (Bt HB.out hy)
  clear hy
  have F3:=zh hm
  clear hm
  have cHX:=HX.out.cell
  have lHX:=HX.out.lt
  have cGX:=GX.out.cell
  have lGX:=GX.out.lt
  have cGY:=GY.out.cell
  have lGY:=GY.out.lt
  repeat (first|(apply wk_skip;(rfl);(rfl);(rfl);(intro J hJ;go_simp;(with_reducible refine hJ _ ?_);clear hJ J))|(apply wk_len;(rfl);(rfl);(rfl);(rfl);(exact zk);(intro J hJ;go_simp;(with_reducible refine hJ _ ?_);clear hJ J))|(apply wk_pure;(rfl);(rfl);(intro J hJ;go_simp;(with_reducible refine hJ _ ?_);clear hJ J))|(apply wk_load;(rfl);(rfl);(rfl);(rfl);(intro J hJ;go_simp;(with_reducible refine hJ _ ?_);clear hJ J;try go_simp)))
  clear cHX lHX
  clear cGX lGX
  clear cGY lGY
  refine wk_ext rfl rfl (fun we hbe J hJ=>?_)
  go_simp
  have hx:Below u6.heap.size u6 we:=belA
  have jr:=zh (Bt HB.out hx)
  refine (H4.out _ jr.out).mono ?_
  rintro e u7 ⟨b4,d4,rfl,h,hm⟩
  have hy:=Bt hx h
  refine hJ _ _ h ?_
  clear hJ J hbe hx h jr
  replace HX:=zh (HX.out.later hy)
  replace FA:=zh (FA.out.later hy)
  replace FB:=zh (FB.out.later hy)
  replace GX:=zh (GX.out.later hy)
  replace GY:=zh (GY.out.later hy)
  replace F1:=zh (F1.out.later hy)
  replace F2:=zh (F2.out.later hy)
  replace F3:=zh (F3.out.later hy)
  replace HB:=zh (Bt HB.out hy)
  clear hy
  have F4:=zh hm
  clear hm
  have cHX:=HX.out.cell
  have lHX:=HX.out.lt
  have cGX:=GX.out.cell
  have lGX:=GX.out.lt
  have cGY:=GY.out.cell
  have lGY:=GY.out.lt
  repeat (first|(apply wk_skip;(rfl);(rfl);(rfl);(intro J hJ;go_simp;(with_reducible refine hJ _ ?_);clear hJ J))|(apply wk_len;(rfl);(rfl);(rfl);(rfl);(exact zk);(intro J hJ;go_simp;(with_reducible refine hJ _ ?_);clear hJ J))|(apply wk_pure;(rfl);(rfl);(intro J hJ;go_simp;(with_reducible refine hJ _ ?_);clear hJ J))|(apply wk_load;(rfl);(rfl);(rfl);(rfl);(intro J hJ;go_simp;(with_reducible refine hJ _ ?_);clear hJ J;try go_simp)))
  clear cHX lHX
  clear cGX lGX
  clear cGY lGY
  refine wk_ext rfl rfl (fun we hbe J hJ=>?_)
  go_simp
  have hx:Below u7.heap.size u7 we:=belA
  have jr:=zh (Bt HB.out hx)
  refine (H5.out _ jr.out).mono ?_
  rintro e u8 ⟨b5,d5,rfl,h,hm⟩
  have hy:=Bt hx h
  refine hJ _ _ h ?_
  clear hJ J hbe hx h jr
  replace HX:=zh (HX.out.later hy)
  replace FA:=zh (FA.out.later hy)
  replace FB:=zh (FB.out.later hy)
  replace GX:=zh (GX.out.later hy)
  replace GY:=zh (GY.out.later hy)
  replace F1:=zh (F1.out.later hy)
  replace F2:=zh (F2.out.later hy)
  replace F3:=zh (F3.out.later hy)
  replace F4:=zh (F4.out.later hy)
  replace HB:=zh (Bt HB.out hy)
  clear hy
  have F5:=zh hm
  clear hm
  repeat (first|(apply wk_skip;(rfl);(rfl);(rfl);(intro J hJ;go_simp;(with_reducible refine hJ _ ?_);clear hJ J))|(apply wk_len;(rfl);(rfl);(rfl);(rfl);(exact zk);(intro J hJ;go_simp;(with_reducible refine hJ _ ?_);clear hJ J))|(apply wk_pure;(rfl);(rfl);(intro J hJ;go_simp;(with_reducible refine hJ _ ?_);clear hJ J))|(apply wk_load;(rfl);(rfl);(rfl);(rfl);(intro J hJ;go_simp;(with_reducible refine hJ _ ?_);clear hJ J;try go_simp)))
  refine wk_ext rfl rfl (fun wc hbc J hJ=>?_);go_simp
  have z2:Below u8.heap.size u8 wc:=belA
  refine hJ _ _ belA ?_
  clear hJ J
  have hbx:=ah.new wc #[.slice ba na da,.slice bb nb db,.slice b1 n1 d1,.slice b2 n2 d2,.slice b3 n1 d3,.slice b4 n4 d4,.slice b5 n5 d5,.slice bb nb db] 43
  refine wk_fin [_] rfl (fun wf hbf=>?_)
  have zf:Below u8.heap.size u8 wf:=Bt (Bt z2 belA) hbf
  have X:=hbx.later hbf
  go_wp2_with fail
  go_ret
  exact ⟨_,rfl,Bt HB.out zf,wc.heap.size,rfl,X.lt,⟨_,_,_,_,_,_,(X.cell 0).trans rfl,(X.cell 1).trans rfl,FA.out.later zf,FB.out.later zf⟩,⟨_,_,_,_,_,_,(X.cell 2).trans rfl,(X.cell 3).trans rfl,F1.out.later zf,F2.out.later zf⟩,⟨_,_,_,_,_,_,(X.cell 4).trans rfl,(X.cell 5).trans rfl,F3.out.later zf,F4.out.later zf⟩,⟨_,_,_,_,_,_,(X.cell 6).trans rfl,(X.cell 7).trans rfl,F5.out.later zf,FB.out.later zf⟩⟩
end Go.Proofs.verdigrislaw05
namespace Go.Proofs.verdigrislaw05
open Go Go.RowKit Go.SW Go.Num Go.Mem Go.Proofs Go.Dec Go.dF Go.Proofs.matrix Go.Proofs.aI
def PrC (w:World) (T:Value) (MA MB M1 M2 M4 M5:List (List Fr)):Prop:=∀ W,Below w.heap.size w W→Calls Tryz.prog 20 #[T] W (fun e w'=>∃ v',e= .returned v'∧Below W.heap.size W w'∧Pairs w' v' MA MB M1 M2 M4 M5)
theorem maR_sl {w:World} {v:Value} {m:List (List Fr)} (h:MaR w v m):∃ a n c,v= .slice a n c:=by
 obtain ⟨a,cap,h, -⟩:=h
 exact ⟨a,_,cap,h⟩
theorem pairs_ok (r c r1 c1:Int) (A B v v1:Value) (mA mB:List (List Fr)) (w:World) (hr:0≤r∧r≤255) (hc:0≤c∧c≤255) (hr1:0≤r1∧r1≤255) (hc1:0≤c1∧c1≤255) (hA:MaR w A mA) (hB:MaR w B mB) (hv:jw w v) (hv1:jw w v1) :
  ∃ M1 M2 M4 M5,(Little M1∧Little M2∧Little M4∧Little M5)∧PrC w (.agg #[A,B,.int .u8 r,.int .u8 c,v,.int .u8 r1,.int .u8 c1,v1]) (pE mA) (pE mB) M1 M2 M4 M5:=by
 obtain ⟨G,hG⟩:=DrG.of r c hv
 obtain ⟨G1,hG1⟩:=DrG.of r1 c1 hv1
 obtain ⟨G2,hG2⟩:=DrG.of c c1 hv1
 obtain ⟨n,hn⟩:∃ n:Nat,1+r%4=(n:Int):=⟨(1+r%4).toNat,by omega⟩
 obtain ⟨k,hk⟩:∃ n:Nat,1+c%4=(n:Int):=⟨(1+c%4).toNat,by omega⟩
 obtain ⟨m,hm⟩:∃ n:Nat,1+r1%4=(n:Int):=⟨(1+r1%4).toNat,by omega⟩
 obtain ⟨p,hp⟩:∃ n:Nat,1+c1%4=(n:Int):=⟨(1+c1%4).toNat,by omega⟩
 have n1:n≤4:=by omega
 have k1:k≤4:=by omega
 have m1:m≤4:=by omega
 have p1:p≤4:=by omega
 have fs:∀ i j,Sm (G (4*i+j)):=fun i j=>hG.1 _
 have gs:∀ i j,Sm (G1 (4*i+j)):=fun i j=>hG1.1 _
 have ks:∀ i j,Sm (G2 (4*i+j)):=fun i j=>hG2.1 _
 refine ⟨(mkR n k fun i j=>G (4*i+j)).fr,(mkR m p fun i j=>G1 (4*i+j)).fr,(mkR k p fun i j=>G2 (4*i+j)).fr,(mkR n n fun i j=>G (4*i+j)).fr,
  ⟨(little_mk n1 k1 fs).1,(little_mk m1 p1 gs).1,(little_mk k1 p1 ks).1,(little_mk n1 n1 fs).1⟩,fun W hW=>?_⟩
 exact pairs_main r c r1 c1 A B v v1 _ _ n m k n _ _ _ _ _ _ W (maR_sl hA) (maR_sl hB) (hv.later hW) (hv1.later hW)
  (zh fun W2 h2=>own_ok A mA W2 (hA.later (Bt hW h2)))
  (zh fun W2 h2=>own_ok B mB W2 (hB.later (Bt hW h2)))
  (zh fun W2 h2=>mat_G (G:=G) hr hc hv n k hn hk _ (fun W hW=>sized_G hG hv n k n1 k1 W hW) W2 (Bt hW h2))
  (zh fun W2 h2=>mat_G (G:=G1) hr1 hc1 hv1 m p hm hp _ (fun W hW=>sized_G hG1 hv1 m p m1 p1 W hW) W2 (Bt hW h2))
  (zh fun W2 h2=>mat_G (G:=G2) hc hc1 hv1 k p hk hp _ (fun W hW=>sized_G hG2 hv1 k p k1 p1 W hW) W2 (Bt hW h2))
  (zh fun W2 h2=>square_G (c:=c) (G:=G) hr hv n hn _ (fun W hW=>sized_G hG hv n n n1 n1 W hW) W2 (Bt hW h2))
end Go.Proofs.verdigrislaw05
namespace Go.Proofs.aI
open Go Go.RowKit Go.SW Go.Num Go.Mem Go.Proofs Go.Dec Go.dF Go.Proofs.aL Go.Proofs.matrix
theorem okL_yes {l:List Fr} (h:gN l=0):Vo l=true:=by rw [Lg,h];rfl
theorem okL_no {l:List Fr} (h:¬ gN l=0):Vo l=false:=by rw [Lg];simpa using h
theorem chkL20 {l:List Fr} (h:¬ gN l=0):gN l=20:=by unfold gN at h ⊢;split<;>simp_all
theorem diag_arg (v:Value) (l:List Fr) (M:List (List Fr)) (T:TypeId) (w:World) (h:gH w T v l) (hn:l.length<1∨4<l.length) :
  Calls Tryz.prog 19 #[v] w (MatPost w 2 M):=by
 obtain ⟨a,cap,rfl, -⟩:=h.read
 clear h
 generalize l.length=n at *
 go_enter Tryz.func19,Tryz.ntmps19
 rcases hn with hn|hn
 ·have q1:decide ((n:Int)<1)=true:=by simp;omega
  go_wp2_with fail
  go_ret2
  exact MatPost.no (Below.refl _ _) zd
 ·have q1:decide ((n:Int)<1)=false:=by simp;omega
  have q2:decide ((4:Int)<(n:Int))=true:=by simp;omega
  go_wp2_with fail
  go_ret2
  exact MatPost.no (Below.refl _ _) zd
theorem diag_bad (v:Value) (l:List Fr) (M:List (List Fr)) (T:TypeId) (w:World) (h:gH w T v l) (hn:¬ (l.length<1∨4<l.length)) (fl:∀ x∈l,Fits x) (hc:¬ gN l=0) :
  Calls Tryz.prog 19 #[v] w (MatPost w 20 M):=by
 have HL:=zh (Yn v l T w h fl)
 rw [okL_no hc] at HL
 obtain ⟨a,cap,rfl, -⟩:=h.read
 clear h hc fl
 generalize l.length=n at *
 have q1:decide ((n:Int)<1)=false:=by simp;omega
 have q2:decide ((4:Int)<(n:Int))=false:=by simp;omega
 go_enter Tryz.func19,Tryz.ntmps19
 go_wp2_with fail
 refine HL.out.mono ?_
 rintro e v1 ⟨rfl,hc1⟩
 go_wp2_with fail
 go_ret2
 exact MatPost.no hc1 zd
theorem Diagonal_any (v:Value) (l:List Fr) (T:TypeId) (w:World) (h:gH w T v l) (fl:∀ x∈l,Fits x) :
  Calls Tryz.prog 19 #[v] w (MatPost w (GQ l) (kE l)):=by
 unfold GQ
 by_cases hn:l.length<1∨4<l.length
 ·rw [if_pos hn]
  exact diag_arg v l _ T w h hn
 ·rw [if_neg hn]
  by_cases hc:gN l=0
  ·rw [hc]
   exact DiagV_ok v l T w h zo zo (okL_yes hc) fl
  ·rw [chkL20 hc]
   exact diag_bad v l _ T w h hn fl hc
theorem id_arg (n:Int) (M:List (List Fr)) (w:World) (hn:n<1∨4<n) :
  Calls Tryz.prog 14 #[.int .i64 n] w (MatPost w 2 M):=by
 go_enter Tryz.func14,Tryz.ntmps14
 rcases hn with hn|hn
 ·have q1:decide (n<1)=true:=by simp;omega
  go_wp2_with fail
  go_ret2
  exact MatPost.no (Below.refl _ _) zd
 ·have q1:decide (n<1)=false:=by simp;omega
  have q2:decide ((4:Int)<n)=true:=by simp;omega
  go_wp2_with fail
  go_ret2
  exact MatPost.no (Below.refl _ _) zd
theorem ones (n:Nat):(∀ x∈List.replicate n Fr.one,Fits x)∧gN (List.replicate n Fr.one)=0:=by
 have e:Fr.one=Fr.of 1:=by decide+kernel
 constructor
 ·intro x hx
  rw [List.eq_of_mem_replicate hx,e]
  exact fits_of (by decide+kernel)
 ·have:List.replicate n Fr.one=(List.replicate n (1:Rat)).map Fr.of:=by rw [List.map_replicate,e]
  rw [this]
  exact LX fun q hq=>by rw [List.eq_of_mem_replicate hq];decide+kernel
theorem id_main (n:Nat) (w:World) (h1:1≤n) (h4:n≤4) :
  Calls Tryz.prog 14 #[.int .i64 (n:Int)] w (MatPost w 0 (kE (List.replicate n Fr.one))):=by
 obtain ⟨i0,hi,hz0,hz1,hz2⟩:=info_parts qE
 have q1:decide ((n:Int)<1)=false:=by simp;omega
 have q2:decide ((4:Int)<(n:Int))=false:=by simp;omega
 have DG:=zh (fun v W (h:gH W 59 v (List.replicate n Fr.one))=>DiagV_ok v (List.replicate n Fr.one) 59 W h (by simpa using h1) (by simpa using h4) (okL_yes (ones n).2) (ones n).1)
 go_enter Tryz.func14,Tryz.ntmps14
 go_wp2_with fail
 go_loopw [4,5] (fun ov iv wr=>∃ k:Nat,iv= .int .i64 (k:Int)∧k≤n∧Hid (dQ wr w.heap.size 59 2 RFr ov (List.replicate k Fr.one))∧Below w.heap.size w wr) (fun _ iv _=>n - (intOf iv).toNat)
 case atStart=>exact ⟨0,rfl,by omega,zh (dQ.nil _ _ _ _ _),Below.refl _ _⟩
 case round =>
  obtain ⟨k,rfl,hk,HG,hb⟩:=hrel
  obtain ⟨av,cv,rfl⟩:=HG.out.at (n:=k) zi
  rcases Nat.lt_or_ge k n with hlt|hge
  ·have HB:=zh hb
   clear hb
   go_wp2_with (at_builtin;refine wpList_grow (w0:=w) rfl (.tmp 17) (.tmp 19) 29 rfl 59 i0 (.agg #[.string ⟨#[]⟩,.string ⟨#[]⟩]) 2 32 Tryz.underlying29 hi hz0 hz1 hz2 rfl zd RFr _ (List.replicate k Fr.one) rfl (HG.out.later belA (RFr.stay _)) (Bt HB.out belA) _ [.string ⟨#[49]⟩,.string ⟨#[49]⟩] Fr.one rfl (ah.new _ _ _) rfl ?c1 rfl (RFr.stay _) ?c2 zo ?_)
   case c1=>intro u hu;simp only [List.mem_cons,List.not_mem_nil,or_false] at hu;rcases hu with rfl|rfl<;>rfl
   case c2=>simp;omega
   intro v' w2 hg hb2 _
   have HG2:Hid (dQ w2 w.heap.size 59 2 RFr v' (List.replicate (k+1) Fr.one)):=zh (by rw [List.replicate_succ'];exact hg)
   clear hg HG HB
   go_wp2_with fail
   go_roundw
   case rel=>exact ⟨k+1,by go_num,by omega,HG2,hb2⟩
   case measure=>exact zM
  ·obtain rfl:k=n:=by omega
   have HV:=zh HG.out.YG.PW
   go_wp2_with fail
   refine (DG.out _ _ HV.out).mono ?_
   rintro e w2 ⟨hb2,v,rfl,h5,h6⟩
   have hz:=h5 rfl
   obtain ⟨vb,vc,rfl⟩:=aP.sl hz
   have HZ:=zh hz
   clear h5 h6 hz
   go_wp2_with fail
   go_ret2
   exact MatPost.yes (Bt hb hb2) HZ.out
theorem Identity_any (n:Int) (w:World):Calls Tryz.prog 14 #[.int .i64 n] w (MatPost w (idE n) (kE (List.replicate n.toNat Fr.one))):=by
 unfold idE
 by_cases h:n<1∨4<n
 ·rw [if_pos h]
  exact id_arg n _ w h
 ·rw [if_neg h]
  obtain ⟨k,rfl⟩:∃ k:Nat,n=(k:Int):=⟨n.toNat,by omega⟩
  rw [Int.toNat_natCast]
  exact id_main k w zo zo
end Go.Proofs.aI
namespace Go.Proofs.verdigrislaw05
open Go Go.RowKit Go.SW Go.Num Go.Mem Go.Proofs Go.Dec Go.dF Go.Proofs.matrix Go.Proofs.aI
def LitL (l:List Fr):Prop:=l.length≤5∧∀ x∈l,x.n.size≤40∧x.d.size≤40
theorem LitL.fits {l:List Fr} (h:LitL l):∀ x∈l,aL.Fits x:=fun x hx=>by
 have:=h.2 x hx
 exact ⟨by omega,by omega⟩
def GivL (w:World) (f:FuncId) (args:Array Value) (n:Nat) (L:List Fr):Prop:=∀ W,Below w.heap.size w W→Calls Tryz.prog f args W (fun e w'=>∃ a c,e= .returned (.slice a n c)∧Below W.heap.size W w'∧gH w' 59 (.slice a n c) L)
theorem cut_giv {v:Value} {l:List Fr} {w:World} (h:FrR w v l):GivL w 16 #[v] (capL l).length (capL l)∧LitL (capL l):=⟨fun W hW=>cutL_ok v l W (h.later hW),capL_len l,capL_small⟩
theorem list_giv {w:World} {r c:Int} {v:Value} (hv:jw w v) (n:Nat) (hn:n≤5):∃ L,(LitL L∧L.length=n)∧GivL w 17 #[.agg #[.int .u8 r,.int .u8 c,v],.int .i64 (n:Int)] n L:=by
 obtain ⟨G,hG⟩:=DrG.of r c hv
 refine ⟨((List.range n).map fun i=>G (5*i+3)).map Fr.of,⟨⟨by simp;omega,fun x hx=>?_⟩,by simp⟩,fun W hW=>list_G hG hv n hn W hW⟩
 obtain ⟨q,hq,rfl⟩:=List.mem_map.1 hx
 obtain ⟨i, -, rfl⟩:=List.mem_map.1 hq
 exact sm_short (hG.1 _)
theorem Pairs.at {w:World} {v:Value} {MA MB M1 M2 M4 M5:List (List Fr)} (h:Pairs w v MA MB M1 M2 M4 M5) (hL:∀ M,M∈[MA,MB,M1,M2,M4,M5]→Little M) :
  ∃ b o,v= .slice (some ⟨b,o,none⟩) 4 4∧b<w.heap.size∧∀ k,k<4→∃ a n c a' n' c' M N,w.cell? ⟨b,o+k*2,none⟩=some (.slice a n c)∧w.cell? ⟨b,o+k*2+1,none⟩=some (.slice a' n' c')∧aP w (.slice a n c) M∧aP w (.slice a' n' c') N∧Little M∧Little N∧M.length=n∧N.length=n':=by
 obtain ⟨b,rfl,hb,h0,h2,h4,h6⟩:=h
 refine ⟨b,0,rfl,hb,fun k hk=>?_⟩
 have key:∀ {M N:List (List Fr)},PairAt w b (k*2) M N→Little M→Little N→∃ a n c a' n' c' M N,w.cell? ⟨b,0+k*2,none⟩=some (.slice a n c)∧w.cell? ⟨b,0+k*2+1,none⟩=some (.slice a' n' c')∧aP w (.slice a n c) M∧aP w (.slice a' n' c') N∧Little M∧Little N∧M.length=n∧N.length=n':=fun {M N} h lm ln=>by
  obtain ⟨a,n,c,a',n',c',e1,e2,e3,e4⟩:=h
  rw [Nat.zero_add]
  refine ⟨a,n,c,a',n',c',M,N,e1,e2,e3,e4,lm,ln,?_,?_⟩
  ·obtain ⟨x,y,e⟩:=aP.sl e3
   simp only [Value.slice.injEq] at e
   exact e.2.1.symm
  ·obtain ⟨x,y,e⟩:=aP.sl e4
   simp only [Value.slice.injEq] at e
   exact e.2.1.symm
 have:k=0∨k=1∨k=2∨k=3:=by omega
 rcases this with rfl|rfl|rfl|rfl
 ·exact key h0 (hL _ zi) (hL _ zi)
 ·exact key h2 (hL _ zi) (hL _ zi)
 ·exact key h4 (hL _ zi) (hL _ zi)
 ·exact key h6 (hL _ zi) (hL _ zi)
end Go.Proofs.verdigrislaw05
