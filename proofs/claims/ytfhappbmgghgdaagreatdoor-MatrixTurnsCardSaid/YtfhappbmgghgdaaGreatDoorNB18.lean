/- Lemmas for the proof. No condition. -/
import Derived.Test.YtfhappbmgghgdaaGreatDoorNB01
import Derived.Test.YtfhappbmgghgdaaGreatDoorNB03
import Derived.Test.YtfhappbmgghgdaaGreatDoorNB05
import Derived.Test.YtfhappbmgghgdaaGreatDoorNB06
import Derived.Test.YtfhappbmgghgdaaGreatDoorNB11
import Derived.Test.YtfhappbmgghgdaaGreatDoorNB12
import Derived.Test.YtfhappbmgghgdaaGreatDoorNB13
import Derived.Test.YtfhappbmgghgdaaGreatDoorNB16
import Derived.Test.YtfhappbmgghgdaaGreatDoorNB17
import Derived.ChangeSame
import Derived.ChangeVars
import Derived.ChangeArms
import Derived.ChangeMaps5
import Derived.Carry
set_option linter.unusedVariables false
set_option linter.unusedSimpArgs false
set_option maxRecDepth 100000
set_option maxHeartbeats 16000000
namespace Go.Proofs.verdigrisref05
open Go Go.RowKit Go.SW Go.Num Go.Mem Go.Proofs Go.Dec Go.Fra Go.Proofs.verdigrisref02 Go.Proofs.matrix
theorem RasV.at {w:World} {v:Value} {qs:List Rat} (h:RasV w v qs):∃ a cap,v= .slice a qs.length cap∧qs.length≤cap∧cap≤9223372036854775807 ∧
  ∀ k (_:k<qs.length),∃ b off bn pn ln cn bd pd ld cd,a=some ⟨b,off,none⟩∧b<w.heap.size∧w.cell? ⟨b,off+k*4,none⟩=some (.bool bn)∧w.cell? ⟨b,off+k*4+1,none⟩=some (.slice pn ln cn)∧w.cell? ⟨b,off+k*4+2,none⟩=some (.bool bd)∧w.cell? ⟨b,off+k*4+3,none⟩=some (.slice pd ld cd) ∧
   Ra w (.agg #[.bool bn,.slice pn ln cn,.bool bd,.slice pd ld cd]) qs[k]:=by
 obtain ⟨a,cap,h1,h2,h3,h4⟩:=SlV.read h
 refine ⟨a,cap,h1,h2,h3,fun k hk=>?_⟩
 obtain ⟨b,off,c,k1,k2,⟨bn,pn,ln,cn,bd,pd,ld,cd,rfl,k3⟩, -, k5⟩:=h4 k hk
 exact ⟨b,off,bn,pn,ln,cn,bd,pd,ld,cd,k1,k2,k5 0 zo,k5 1 zo,k5 2 zo,k5 3 zo,k3⟩
theorem MasV.at {w:World} {v:Value} {m:RM} (h:MasV w v m):∃ a cap,v= .slice a m.length cap∧m.length≤cap∧cap≤9223372036854775807 ∧
  ∀ k (_:k<m.length),∃ b off a' c',a=some ⟨b,off,none⟩∧b<w.heap.size∧w.cell? ⟨b,off+k,none⟩=some (.slice a' m[k].length c')∧RasV w (.slice a' m[k].length c') m[k]:=by
 obtain ⟨a,cap,h1,h2,h3,h4⟩:=SlV.read h
 refine ⟨a,cap,h1,h2,h3,fun k hk=>?_⟩
 obtain ⟨b,off,c,k1,k2,⟨x,rfl,k3⟩, -, k5⟩:=h4 k hk
 obtain ⟨a',c',rfl⟩:=SlV.slice k3
 have:=k5 0 zo
 rw [Nat.mul_one,Nat.add_zero] at this
 exact ⟨b,off,a',c',k1,k2,this,k3⟩
def Sz1 (q:Rat):Prop:=szq 100000000 q
theorem Sz1.four {q:Rat} (h:Sz1 q):sz 10000 q.num.natAbs≤1073741824∧sz 10000 q.den≤1073741824:=by
 have h1:=sz4_of h.1
 have h2:=sz4_of h.2
 exact ⟨by omega,by omega⟩
theorem infoFr:(Tryz.prog.info? 59).map (fun i=>(i.zero,i.size,i.bytes))=some (some (.agg #[.string ⟨#[]⟩,.string ⟨#[]⟩]),2,32):=by kernel_rfl
theorem infoFrs:(Tryz.prog.info? 29).map (fun i=>(i.zero,i.size,i.bytes))=some (some (.slice none 0 0),1,24):=by kernel_rfl
def RFrs:Rl (List Fr):=RRow fun w v l=>Frs w 59 v l
theorem RFrs.stay {m:List TypeId} (h:59∉m):Stay m RFrs:=fun w w' a c k hr=>by
 obtain ⟨v,e,h1⟩:=hr
 exact ⟨v,e,Frs.kept h1 k h⟩
theorem psum_sz {f:Nat→Rat} (h:∀ i,szq 134 (f i)):∀ k,szq (200*2^k - 1) (psumQ f k)
 | 0=>by
  show szq 199 0
  exact ⟨by decide+kernel,by decide+kernel⟩
 | k+1=>by
  have hp:1≤2^k:=Nat.one_le_two_pow
  have:=szq_add (psum_sz h k) ((h k).mono (show 134≤200*2^k - 1 by omega))
  exact this.mono (by rw [Nat.pow_succ];omega)
theorem itoa_len (z:Int):(Lib.itoa z).length≤(Lib.decDigits z.natAbs).length+1:=by
 unfold Lib.itoa
 split
 ·simp
 ·rw [show z.toNat=z.natAbs by omega];omega
theorem range_snoc {α:Type} (f:Nat→α) (n:Nat):(List.range (n+1)).map f=(List.range n).map f++[f n]:=by
 rw [List.range_succ,List.map_append,List.map_singleton]
end Go.Proofs.verdigrisref05
namespace Go.Proofs.verdigrisref05
open Go Go.RowKit Go.SW Go.Num Go.Mem Go.Proofs Go.Dec Go.Fra Go.Proofs.verdigrisref02 Go.Proofs.verdigrisref01
def Drafts (w:World) (v:Value):Prop:=∃ (a:Option Addr) (n cap:Nat),v= .slice a n cap∧n≤9223372036854775807∧∀ k,k<n→∃ b off f1 a1 n1 c1 z1 f2 a2 n2 c2 z2,a=some ⟨b,off,none⟩∧b<w.heap.size ∧
  w.cell? ⟨b,off+k*6,none⟩=some (.bool f1)∧w.cell? ⟨b,off+k*6+1,none⟩=some (.slice a1 n1 c1)∧w.cell? ⟨b,off+k*6+2,none⟩=some (.int .u16 z1) ∧
  w.cell? ⟨b,off+k*6+3,none⟩=some (.bool f2)∧w.cell? ⟨b,off+k*6+4,none⟩=some (.slice a2 n2 c2)∧w.cell? ⟨b,off+k*6+5,none⟩=some (.int .u16 z2)∧Words w (.slice a1 n1 c1)∧Words w (.slice a2 n2 c2)
theorem Drafts.later {w w':World} {v:Value} (h:Drafts w v) (hb:Below w.heap.size w w'):Drafts w' v:=by
 obtain ⟨a,n,cap,rfl,hn,h⟩:=h
 refine ⟨a,n,cap,rfl,hn,fun k hk=>?_⟩
 obtain ⟨b,off,f1,a1,n1,c1,z1,f2,a2,n2,c2,z2,rfl,h0,x0,x1,x2,x3,x4,x5,h1,h2⟩:=h k hk
 exact ⟨b,off,f1,a1,n1,c1,z1,f2,a2,n2,c2,z2,rfl,Nat.lt_of_lt_of_le h0 hb.size,(hb.cell (p:=⟨b,off+k*6,none⟩) h0).trans x0,(hb.cell (p:=⟨b,off+k*6+1,none⟩) h0).trans x1,(hb.cell (p:=⟨b,off+k*6+2,none⟩) h0).trans x2,
  (hb.cell (p:=⟨b,off+k*6+3,none⟩) h0).trans x3,(hb.cell (p:=⟨b,off+k*6+4,none⟩) h0).trans x4,(hb.cell (p:=⟨b,off+k*6+5,none⟩) h0).trans x5,h1.later hb,h2.later hb⟩
theorem element_sm (r c:Int) (v:Value) (k:Nat) (hk:k≤1000) (w0:World) (h:Drafts w0 v):∃ q:Rat,(okq q=true∧q.num.natAbs≤999∧q.den≤60)∧∀ w,Below w0.heap.size w0 w →
  Calls Tryz.prog 53 #[.agg #[.int .u8 r,.int .u8 c,v],.int .i64 (k:Int)] w (fun e w'=>e= .returned (Fr.of q).v∧Below w.heap.size w w'):=by
 have W0:∀ z:Int,0≤z∧z≤1000000000→IntKind.i64.wrap z=z:=fun z h=>by unfold IntKind.wrap;simp [IntKind.bits,IntKind.signed];omega
 obtain ⟨a,n,cap,rfl,hn,hread⟩:=h
 rcases Nat.eq_zero_or_pos n with rfl|h0
 ·refine ⟨1,by decide+kernel,fun w hW=>?_⟩
  rw [show Fr.of 1=⟨⟨#[49]⟩,⟨#[49]⟩⟩ by decide+kernel]
  clear hread hW w0 W0
  go_enter Tryz.func53,Tryz.ntmps53
  go_wp2_with fail
  refine ret_c rfl rfl boxA Tryz.underlying59 rfl zk ?_
  exact ⟨rfl,belA⟩
 ·obtain ⟨mm,hmm,m0,m1,m2⟩:∃ mm:Nat,min (n:Int) 16=(mm:Int)∧0<mm∧mm≤16∧mm≤n:=⟨min n 16,by omega,by omega,by omega,by omega⟩
  have hlt:=Nat.mod_lt k m0
  obtain ⟨j,Ej⟩:∃ j:Nat,k%mm=j:=⟨_,rfl⟩
  rw [Ej] at hlt
  obtain ⟨b,off,f1,a1,n1,c1,z1,f2,a2,n2,c2,z2,rfl,lb,x0,x1,x2,x3,x4,x5,y1,y2⟩:=hread j zo
  obtain ⟨q,hq,HS⟩:=Short_sm f1 f2 _ _ z1 z2 w0 y1 y2
  refine ⟨q,hq,fun w hW=>?_⟩
  have H1:=zh (fun W (h:Below w.heap.size w W)=>HS W (Bt hW h))
  have e0:=(hW.cell (p:=⟨b,off+j*6,none⟩) lb).trans x0
  have e1:=(hW.cell (p:=⟨b,off+j*6+1,none⟩) lb).trans x1
  have e2:=(hW.cell (p:=⟨b,off+j*6+2,none⟩) lb).trans x2
  have e3:=(hW.cell (p:=⟨b,off+j*6+3,none⟩) lb).trans x3
  have e4:=(hW.cell (p:=⟨b,off+j*6+4,none⟩) lb).trans x4
  have e5:=(hW.cell (p:=⟨b,off+j*6+5,none⟩) lb).trans x5
  have lw:b<w.heap.size:=Nat.lt_of_lt_of_le lb hW.size
  have E:=zh (And.intro e0 (And.intro e1 (And.intro e2 (And.intro e3 (And.intro e4 e5)))))
  have LW:=zh lw
  have tm:(k:Int).tmod (mm:Int)=(j:Int):=by rw [Int.tmod_eq_emod_of_nonneg zo,← Ej];rfl
  have wj:=W0 (j:Int) zo
  have wmm:=W0 (mm:Int) zo
  have nz:((n:Int) == 0)=false:=by simp;omega
  have mz:(mm:Int)≠0:=by omega
  have mz1:¬ mm=0:=by omega
  have mz2:((mm:Int) == 0)=false:=by simp;omega
  have jn:j<n:=by omega
  clear hread HS W0 x0 x1 x2 x3 x4 x5 y1 y2 hq e0 e1 e2 e3 e4 e5 lw lb hW
  obtain ⟨⟨s1,s2⟩,EQ⟩:∃ y,Fr.of q=y:=⟨_,rfl⟩
  rw [EQ] at H1 ⊢
  unfold Fr.v at *
  clear EQ
  go_enter Tryz.func53,Tryz.ntmps53
  go_wp2_with fail
  obtain ⟨wq1,EW,hz,X1,X2⟩:=al2 w #[.int .u8 r,.int .u8 c,.slice (some ⟨b,off,none⟩) n cap] 26 #[.string ⟨#[]⟩,.string ⟨#[]⟩] 59
  rw [EW]
  have hk2:=Bt (Below.refl _ _) hz
  clear EW hz
  obtain ⟨cX1,lX1,fX1⟩:=X1.clf
  have d0:=(hk2.cell (p:=⟨b,off+j*6,none⟩) LW.out).trans E.out.1
  have d1:=(hk2.cell (p:=⟨b,off+j*6+1,none⟩) LW.out).trans E.out.2.1
  have d2:=(hk2.cell (p:=⟨b,off+j*6+2,none⟩) LW.out).trans E.out.2.2.1
  have d3:=(hk2.cell (p:=⟨b,off+j*6+3,none⟩) LW.out).trans E.out.2.2.2.1
  have d4:=(hk2.cell (p:=⟨b,off+j*6+4,none⟩) LW.out).trans E.out.2.2.2.2.1
  have d5:=(hk2.cell (p:=⟨b,off+j*6+5,none⟩) LW.out).trans E.out.2.2.2.2.2
  have db:b<wq1.heap.size:=Nat.lt_of_lt_of_le LW.out hk2.size
  refine wp_region_walk [(.pure,0),(.read,1),(.pure,2),(.pure,3),(.read,4),(.pure,5),(.pure,6),(.pure,7),(.pure,8),(.read,9),(.ext,10),(.fin,11)] zk zk zR zP ?_
  repeat (first|(refine walk_pure0 rfl rfl fun J h=>?_;go_simp;refine h _ ?_;clear h J)|(refine walk_load rfl rfl rfl rfl fun J h=>?_;go_simp;refine h _ ?_;clear h J;try go_simp))
  refine walk_ext rfl rfl (fun we3 hb3 J hJ=>?_);go_simp
  have hh3:Below wq1.heap.size wq1 we3:=belA
  clear hb3
  refine (H1.out _ (Bt hk2 hh3)).mono ?_
  rintro e wc4 ⟨rfl,hb4⟩
  refine hJ _ _ hb4 ?_
  clear hJ J
  have hh4:=Bt hh3 hb4
  clear hh3 hb4
  repeat (first|(refine walk_pure0 rfl rfl fun J h=>?_;go_simp;refine h _ ?_;clear h J)|(refine walk_load rfl rfl rfl rfl fun J h=>?_;go_simp;refine h _ ?_;clear h J;try go_simp))
  refine walk_fin [_] rfl (fun wf6 hf6=>?_)
  have hh6:Below wq1.heap.size wq1 wf6:=Bt hh4 belA
  clear hf6 hh4
  clear cX1 lX1 fX1
  replace X1:=X1.bl hh6
  replace X2:=X2.bl hh6
  have hk7:=Bt hk2 hh6
  clear hk2
  clear hh6
  obtain ⟨cX2,lX2,fX2⟩:=X2.clf
  have hres:=X2.out
  have cres:=hres.cell
  have fres:=hres.free
  go_wp2_with fail
  refine ret_c rfl rfl boxA Tryz.underlying59 rfl zk ?_
  exact ⟨rfl,belA⟩
theorem sized_walk (r c:Int) (v:Value) (n m:Nat) (K:Nat→Nat→Fr) (w:World) (hv:Drafts w v) (hn:n≤4) (hm:m≤4)
  (hE:∀ i j:Nat,i<4→j<4→∀ W,Below w.heap.size w W→Calls Tryz.prog 53 #[.agg #[.int .u8 r,.int .u8 c,v],.int .i64 (4*(i:Int)+(j:Int))] W (fun e w'=>e= .returned (K i j).v∧Below W.heap.size W w')) :
  Calls Tryz.prog 34 #[.agg #[.int .u8 r,.int .u8 c,v],.int .i64 (n:Int),.int .i64 (m:Int)] w
   (fun e w'=>∃ v',e= .returned v'∧Below w.heap.size w w'∧MatV w' v' ((List.range n).map fun i=>(List.range m).map (K i))):=by
 obtain ⟨i0,hi,hz0,hz1,hz2⟩:=info_parts infoFr
 obtain ⟨i1,hi',hy0,hy1,hy2⟩:=info_parts infoFrs
 obtain ⟨a,nd,cap,rfl, -, -⟩:=hv
 have EL:=zh hE
 have HW:Hid (∀ z:Int,0≤z∧z≤1000000000→IntKind.i64.wrap z=z):=zh fun z h=>by unfold IntKind.wrap;simp [IntKind.bits,IntKind.signed];omega
 clear hE
 go_enter Tryz.func34,Tryz.ntmps34
 go_wp2_with fail
 have hb1:Below w.heap.size w (w.alloc (.cells #[.int .u8 r,.int .u8 c,.slice a nd cap] 26)):=belA
 have HD:Hid (Box (w.alloc (.cells #[.int .u8 r,.int .u8 c,.slice a nd cap] 26)) w.heap.size #[.int .u8 r,.int .u8 c,.slice a nd cap] 26):=zh (Box.new _ _ _)
 obtain ⟨w1,EW⟩:∃ y,w.alloc (.cells #[.int .u8 r,.int .u8 c,.slice a nd cap] 26)=y:=⟨_,rfl⟩
 rw [EW] at hb1 HD ⊢
 have HB1:=zh hb1
 clear EW hb1
 go_loopw [7,8] (fun ov iv wr=>∃ k:Nat,iv= .int .i64 (k:Int)∧k≤n∧Hid (Grows wr w1.heap.size 29 1 RFrs ov ((List.range k).map fun i=>(List.range m).map (K i)))∧Below w1.heap.size w1 wr) (fun _ iv _=>n - (intOf iv).toNat)
 case atStart=>exact ⟨0,rfl,by omega,zh (Grows.nil _ _ _ _ _),Below.refl _ _⟩
 case round =>
  obtain ⟨k,rfl,hk,HG,hb⟩:=hrel
  rcases Nat.lt_or_ge k n with hlt|hge
  ·obtain ⟨wo,rfl⟩:∃ wo:World,wo=wr:=⟨_,rfl⟩
   obtain ⟨ov,cv,rfl⟩:=HG.out.at (n:=k) zi
   have HBo:=zh hb
   have HDo:=zh (HD.out.later hb)
   clear hb
   go_wp2_with fail
   go_loopw [9,10] (fun rv jv wr=>∃ j:Nat,jv= .int .i64 (j:Int)∧j≤m∧Hid (Grows wr wo.heap.size 59 2 RFr rv ((List.range j).map (K k)))∧Below wo.heap.size wo wr) (fun _ jv _=>m - (intOf jv).toNat)
   case atStart=>exact ⟨0,rfl,by omega,zh (Grows.nil _ _ _ _ _),Below.refl _ _⟩
   case round =>
    obtain ⟨j,rfl,hj,HR,hbi⟩:=hrel
    rcases Nat.lt_or_ge j m with hjlt|hjge
    ·obtain ⟨rv,rc,rfl⟩:=HR.out.at (n:=j) zi
     have hdi:=HDo.out.later hbi
     have cD:=hdi.cell
     have lD:=hdi.lt
     have HBi:=zh hbi
     have EC:=EL.out k j zo zo wr (Bt HB1.out (Bt HBo.out hbi))
     have w1':=HW.out (4*(k:Int)) zo
     have w2':=HW.out (4*(k:Int)+(j:Int)) zo
     obtain ⟨⟨s,t⟩,EK⟩:∃ y,Hid (K k j=y):=⟨_,zh rfl⟩
     rw [EK.out] at EC
     unfold Fr.v at EC
     have HEC:=zh EC
     clear EC hbi hdi
     go_wp2_with fail
     refine HEC.out.mono ?_
     rintro e w2 ⟨rfl,hb2⟩
     have HB2:=zh (Bt HBi.out hb2)
     replace HR:=zh (HR.out.later hb2 (RFr.stay _))
     clear hb2 HEC HBi cD lD w1' w2'
     go_wp2_with (at_builtin;refine wpList_grow (w0:=wo) rfl (.tmp 21) (.tmp 28) 29 rfl 59 i0 (.agg #[.string ⟨#[]⟩,.string ⟨#[]⟩]) 2 32 Tryz.underlying29 hi hz0 hz1 hz2 rfl zd RFr _ ((List.range j).map (K k)) rfl (HR.out.later belA (RFr.stay _)) (Bt HB2.out belA) _ [.string s,.string t] ⟨s,t⟩ rfl (Box.new _ _ _) rfl ?c1 rfl (RFr.stay _) ?c2 zo ?_)
     case c1=>intro u hu;simp only [List.mem_cons,List.not_mem_nil,or_false] at hu;rcases hu with rfl|rfl<;>rfl
     case c2=>simp;omega
     intro v' w3 hg hb3 _
     have HG2:Hid (Grows w3 wo.heap.size 59 2 RFr v' ((List.range (j+1)).map (K k))):=zh (by rw [range_snoc,EK.out];exact hg)
     clear hg HR HB2
     go_wp2_with fail
     go_roundw
     case rel=>exact ⟨j+1,by go_num,by omega,HG2,hb3⟩
     case measure=>exact zM
    ·obtain rfl:j=m:=by omega
     have HFR:=zh HR.out.slV.frs
     obtain ⟨rv,rc,rfl⟩:=HR.out.at (n:=j) zi
     have HB3:=zh (Bt HBo.out hbi)
     replace HG:=zh (HG.out.later hbi (RFrs.stay zi))
     clear hbi HR
     go_wp2_with (at_builtin;refine wpList_grow (w0:=w1) rfl (.tmp 30) (.tmp 32) 23 rfl 29 i1 (.slice none 0 0) 1 24 Tryz.underlying23 hi' hy0 hy1 hy2 rfl zd RFrs _ ((List.range k).map fun i=>(List.range j).map (K i)) rfl (HG.out.later belA (RFrs.stay zi)) (Bt HB3.out belA) _ [.slice rv j rc] ((List.range j).map (K k)) rfl (Box.new _ _ _) rfl ?c1 ⟨_,rfl,HFR.out.later belA⟩ (RFrs.stay zi) ?c2 zo ?_)
     case c1=>intro u hu;simp only [List.mem_cons,List.not_mem_nil,or_false] at hu;rcases hu with rfl;rfl
     case c2=>simp;omega
     intro v' w2 hg hb2 _
     have HG2:Hid (Grows w2 w1.heap.size 29 1 RFrs v' ((List.range (k+1)).map fun i=>(List.range j).map (K i))):=zh (by rw [range_snoc];exact hg)
     clear hg HG HFR
     go_wp2_with fail
     go_roundw
     case rel=>exact ⟨k+1,by go_num,by omega,HG2,hb2⟩
     case measure=>exact zM
  ·obtain rfl:k=n:=by omega
   obtain ⟨ov,cv,rfl⟩:=HG.out.at (n:=k) zi
   go_wp2_with fail
   go_ret
   exact ⟨_,rfl,Bt HB1.out hb,HG.out.slV.matV⟩
end Go.Proofs.verdigrisref05
namespace Go.Proofs.verdigrisref05
open Go Go.RowKit Go.SW Go.Num Go.Mem Go.Proofs Go.Dec Go.Fra Go.Proofs.verdigrisref02 Go.Proofs.matrix
theorem MasV.get {w:World} {v:Value} {m:RM} (h:MasV w v m) {n:Nat} (hm:∀ r∈m,r.length=n) (h0:0<m.length):∃ b off cap,v= .slice (some ⟨b,off,none⟩) m.length cap∧b<w.heap.size ∧
  ∀ k (_:k<m.length),∃ a' c',w.cell? ⟨b,off+k,none⟩=some (.slice a' n c')∧RasV w (.slice a' n c') m[k]:=by
 obtain ⟨a,cap,rfl, -, -, hat⟩:=MasV.at h
 obtain ⟨b,off, -, -, rfl,lb, -, -⟩:=hat 0 h0
 refine ⟨b,off,cap,rfl,lb,fun k hk=>?_⟩
 obtain ⟨b',off',a',c',e, -, k1,k2⟩:=hat k hk
 simp only [Option.some.injEq,Addr.mk.injEq,and_true] at e
 obtain ⟨rfl,rfl⟩:=e
 rw [hm _ (List.getElem_mem hk)] at k1 k2
 exact ⟨a',c',k1,k2⟩
def cutR (j:Nat) (r:List Rat):List Rat:=r.take j++r.drop (j+1)
def withoutQ (m:RM) (i j:Nat):RM:=(m.take i++m.drop (i+1)).map (cutR j)
theorem RasV.first {w:World} {a:Option Addr} {n c:Nat} {r:List Rat} (h:RasV w (.slice a n c) r) (hl:r.length=n) (h0:0<n):∃ b off,a=some ⟨b,off,none⟩∧n≤c∧c≤9223372036854775807:=by
 obtain ⟨a',c',e,h1,h2,hat⟩:=RasV.at h
 simp only [Value.slice.injEq] at e
 obtain ⟨rfl, -, rfl⟩:=e
 obtain ⟨b,off, -, -, -, -, -, -, -, -, e, -⟩:=hat 0 zo
 exact ⟨b,off,e,by omega,h2⟩
def minT (f:RM→Rat) (m:RM) (j:Nat):Rat:=if j%2=1 then -((m.getD 0 []).getD j 0*f (withoutQ m 0 j)) else (m.getD 0 []).getD j 0*f (withoutQ m 0 j)
def minorF:Nat→RM→Rat
 | 0,_=>1
 | n+1,m=>psumQ (minT (minorF n) m) (n+1)
def adjT (m:RM) (n i j:Nat):Rat:=if (i+j)%2=1 then -(minorF (n - 1) (withoutQ m j i) / minorF n m) else minorF (n - 1) (withoutQ m j i) / minorF n m
end Go.Proofs.verdigrisref05
namespace Go.Proofs.matrix
open Go Go.Num Go.Proofs Go.Fra Go.Proofs.verdigrisref05
def mkR (r c:Nat) (f:Nat→Nat→Rat):RM:=(List.range r).map fun i=>(List.range c).map (f i)
def atR (m:RM) (i j:Nat):Rat:=(m.getD i []).getD j 0
theorem mkR_len (r c:Nat) (f:Nat→Nat→Rat):(mkR r c f).length=r:=by simp [mkR]
theorem mkR_row {r c:Nat} {f:Nat→Nat→Rat} {x:List Rat} (h:x∈mkR r c f):x.length=c:=by
 obtain ⟨i, -, rfl⟩:=List.mem_map.1 h
 simp
theorem mkR_get {r c:Nat} {f:Nat→Nat→Rat} {i:Nat} (hi:i<r):(mkR r c f).getD i []=(List.range c).map (f i):=by simp [mkR,hi]
theorem mkR_at {r c:Nat} {f:Nat→Nat→Rat} {i j:Nat} (hi:i<r) (hj:j<c):atR (mkR r c f) i j=f i j:=by
 unfold atR
 rw [mkR_get hi]
 simp [hj]
theorem mkR_congr {r c:Nat} {f g:Nat→Nat→Rat} (h:∀ i,i<r→∀ j,j<c→f i j=g i j):mkR r c f=mkR r c g:=by
 unfold mkR
 refine List.map_congr_left fun i hi=>List.map_congr_left fun j hj=>h i (List.mem_range.1 hi) j (List.mem_range.1 hj)
theorem range_of (l:List Rat):l=(List.range l.length).map fun j=>l.getD j 0:=by
 refine List.ext_getElem zi fun i h1 h2=>?_
 simp [h1]
theorem mkR_of {m:RM} {n:Nat} (h:∀ r∈m,r.length=n):m=mkR m.length n (atR m):=by
 refine List.ext_getElem (by simp [mkR]) fun i h1 h2=>?_
 have e:(mkR m.length n (atR m))[i]=(mkR m.length n (atR m)).getD i []:=by simp [h2]
 have e2:m.getD i []=m[i]:=by simp [h1]
 rw [e,mkR_get h1]
 have e3:(fun j=>atR m i j)=fun j=>m[i].getD j 0:=by
  funext j
  unfold atR
  rw [e2]
 show m[i]=(List.range n).map (fun j=>atR m i j)
 rw [e3,← h m[i] (List.getElem_mem _)]
 exact range_of _
theorem psum_smR {k:Nat} (hk:1≤k∧k≤4) (f:Nat→Rat):psumQ f k=smR k f:=by
 have:k=1∨k=2∨k=3∨k=4:=by omega
 rcases this with rfl|rfl|rfl|rfl<;>simp [psumQ,smR,Rat.zero_add]
theorem dot_smR {k:Nat} (hk:1≤k∧k≤4) (u v:Nat→Rat):dotQ ((List.range k).map u) ((List.range k).map v)=smR k fun i=>u i*v i:=by
 rw [dotQ_psum zi,← psum_smR hk]
 simp only [List.length_map,List.length_range]
 refine psumQ_congr fun i hi=>?_
 simp [hi]
theorem colQ_mk {r c:Nat} {f:Nat→Nat→Rat} {j:Nat} (hj:j<c):colQ (mkR r c f) j=(List.range r).map fun i=>f i j:=by
 unfold colQ mkR
 rw [List.map_map]
 refine List.map_congr_left fun i _=>?_
 simp [hj]
theorem mulQ_mk {r k c:Nat} (hk:1≤k∧k≤4) (f g:Nat→Nat→Rat):mulQ (mkR r k f) (mkR k c g) c=mkR r c fun i j=>smR k fun l=>f i l*g l j:=by
 unfold mulQ
 rw [show mkR r k f=(List.range r).map fun i=>(List.range k).map (f i) from rfl,List.map_map]
 show _=(List.range r).map fun i=>(List.range c).map fun j=>smR k fun l=>f i l*g l j
 refine List.map_congr_left fun i _=>List.map_congr_left fun j hj=>?_
 rw [colQ_mk (List.mem_range.1 hj)]
 exact dot_smR hk _ _
theorem colsQ_mk {r c:Nat} (f:Nat→Nat→Rat):colsQ (mkR r c f) c=mkR c r fun i j=>f j i:=by
 unfold colsQ
 conv=>rhs;unfold mkR
 exact List.map_congr_left fun j hj=>colQ_mk (List.mem_range.1 hj)
theorem RM.ok.mk {m:RM} {n:Nat} (h:m.ok n):m=mkR m.length n (atR m):=mkR_of fun r hr=>(h.2.2.2.2 r hr).1
theorem ok_mk {r c:Nat} {f:Nat→Nat→Rat} (hr:1≤r∧r≤4) (hc:1≤c∧c≤4) (h:∀ i,i<r→∀ j,j<c→okq (f i j)=true):(mkR r c f).ok c:=by
 refine ⟨by rw [mkR_len];exact hr.1,by rw [mkR_len];exact hr.2,hc.1,hc.2,fun x hx=>⟨mkR_row hx,fun q hq=>?_⟩⟩
 obtain ⟨i,hi,rfl⟩:=List.mem_map.1 hx
 obtain ⟨j,hj,rfl⟩:=List.mem_map.1 hq
 exact h i (List.mem_range.1 hi) j (List.mem_range.1 hj)
theorem allQ_mk {r c:Nat} {f:Nat→Nat→Rat} (h:∀ i,i<r→∀ j,j<c→okq (f i j)=true):allQ (mkR r c f)=true:=by
 unfold allQ
 rw [List.all_eq_true]
 intro x hx
 rw [List.all_eq_true]
 intro q hq
 obtain ⟨i,hi,rfl⟩:=List.mem_map.1 hx
 obtain ⟨j,hj,rfl⟩:=List.mem_map.1 hq
 exact h i (List.mem_range.1 hi) j (List.mem_range.1 hj)
theorem bprod_prD {m:RM} {n:Nat} (hn:1≤n∧n≤4):((bprod m n:Nat):Rat)=prD n fun i=>((cden (m.getD i []):Nat):Rat):=by
 have:n=1∨n=2∨n=3∨n=4:=by omega
 rcases this with rfl|rfl|rfl|rfl<;>simp [bprod,prD,Rat.natCast_mul]
theorem rtop_at {m:RM} {n i j:Nat} (hm:∀ r∈m,r.length=n) (hi:i<m.length) (hj:j<n):((IM.at (m.map rtop) i j:Int):Rat)=atR m i j*((cden (m.getD i []):Nat):Rat):=by
 have e:m.getD i []=m[i]:=by simp [hi]
 have hl:=hm m[i] (List.getElem_mem _)
 have hj2:j<m[i].length:=by omega
 unfold IM.at atR
 rw [e]
 have e1:((m.map rtop).getD i [])=rtop m[i]:=by simp [hi]
 rw [e1]
 unfold rtop
 have e2:(m[i].map (ctop (cden m[i]))).getD j 0=ctop (cden m[i]) m[i][j]:=by simp [hj2]
 have e3:m[i].getD j 0=m[i][j]:=by simp [hj2]
 rw [e2,e3]
 obtain ⟨k1,k2⟩:=cden_facts m[i]
 have:=ctop_eq k1 (k2 m[i][j] (List.getElem_mem _))
 have hne:((cden m[i]:Nat):Rat)≠0:=by
  rw [Ne,Rat.natCast_eq_zero_iff]
  omega
 generalize ((cden m[i]:Nat):Rat)=d at *
 generalize ((ctop (cden m[i]) m[i][j]:Int):Rat)=x at *
 rw [← this]
 grind
theorem rtop_rows {m:RM} {n:Nat} (hm:∀ r∈m,r.length=n):∀ i,i<m.length→((m.map rtop).getD i []).length=n:=fun i hi=>by
 have e1:((m.map rtop).getD i [])=rtop m[i]:=by simp [hi]
 rw [e1]
 unfold rtop
 rw [List.length_map]
 exact hm _ (List.getElem_mem _)
theorem detQ_eq {m:RM} {n:Nat} (h:m.ok n) (hm:m.length=n):detQ m=dR n (atR m):=by
 obtain ⟨h1,h2,h3,h4,h5⟩:=h
 have hl:∀ r∈m,r.length=n:=fun r hr=>(h5 r hr).1
 have:=det_rat (n:=n) ⟨h3,h4⟩ (f:=atR m) (D:=fun i=>cden (m.getD i [])) (fun i _=>(cden_facts _).1) (rs:=m.map rtop) (by simp [hm]) (fun i hi=>rtop_rows hl i zo) (fun i hi j hj=>rtop_at (m:=m) hl zo hj) rfl
 unfold detQ detT
 rw [hm,bprod_prD ⟨h3,h4⟩,← this]
theorem invQ_eq {m:RM} {n:Nat} (h:m.ok n) (hm:m.length=n):((elimQ m).1=0↔dR n (atR m)=0)∧((elimQ m).1≠0→∀ i,i<n→∀ c,c<n→smR n (fun k=>atR m i k*invQ m k c)=dl i c):=by
 obtain ⟨h1,h2,h3,h4,h5⟩:=h
 have hl:∀ r∈m,r.length=n:=fun r hr=>(h5 r hr).1
 have:=inv_rat (n:=n) ⟨h3,h4⟩ (f:=atR m) (D:=fun i=>cden (m.getD i [])) (fun i _=>(cden_facts _).1) (rs:=m.map rtop) (by simp [hm]) (fun i hi j hj=>rtop_at (m:=m) hl zo hj) rfl
 unfold invQ elimQ
 rw [hm]
 exact this
theorem invM_mk (m:RM):invM m=mkR m.length m.length (invQ m):=rfl
theorem inv_one {n:Nat} (hn:1≤n∧n≤4) {f g h:Nat→Nat→Rat} (hd:dR n f≠0) (h1:∀ i,i<n→∀ c,c<n→smR n (fun k=>f i k*g k c)=dl i c) (h2:∀ i,i<n→∀ c,c<n→smR n (fun k=>f i k*h k c)=dl i c):∀ i,i<n→∀ c,c<n→g i c=h i c:=fun i hi c hc=>by
 have k1:=left_inv hn hd h1
 have e:=smR_swap hn (g i) f (fun l=>h l c)
 have e1:smR n (fun k=>g i k*smR n (fun l=>f k l*h l c))=g i c:=by
  rw [← smR_dl2 hn hc (g i)]
  exact smR_congr hn fun k hk=>by rw [h2 k hk c hc]
 have e2:smR n (fun l=>smR n (fun k=>g i k*f k l)*h l c)=h i c:=by
  rw [← smR_dl hn hi (fun l=>h l c)]
  exact smR_congr hn fun l hl=>by rw [k1 i hi l hl]
 rw [← e1,e,e2]
theorem mk1 (f:Nat→Nat→Rat):mkR 1 1 f=[[f 0 0]]:=rfl
theorem mk2 (f:Nat→Nat→Rat):mkR 2 2 f=[[f 0 0,f 0 1],[f 1 0,f 1 1]]:=rfl
theorem mk3' (f:Nat→Nat→Rat):mkR 3 3 f=[[f 0 0,f 0 1,f 0 2],[f 1 0,f 1 1,f 1 2],[f 2 0,f 2 1,f 2 2]]:=rfl
theorem mk4 (f:Nat→Nat→Rat):mkR 4 4 f=[[f 0 0,f 0 1,f 0 2,f 0 3],[f 1 0,f 1 1,f 1 2,f 1 3],[f 2 0,f 2 1,f 2 2,f 2 3],[f 3 0,f 3 1,f 3 2,f 3 3]]:=rfl
theorem min1 (a:Rat):minorF 1 [[a]]=a:=by
 simp [minorF,minT,psumQ,withoutQ,cutR,Rat.zero_add,Rat.mul_one]
theorem min2 (a b c d:Rat):minorF 2 [[a,b],[c,d]]=a*d - b*c:=by
 have e:minorF 2 [[a,b],[c,d]]=0+a*minorF 1 [[d]]+ -(b*minorF 1 [[c]]):=rfl
 rw [e,min1,min1]
 grind
theorem min3 (a b c d e f g h i:Rat):minorF 3 [[a,b,c],[d,e,f],[g,h,i]]=a*(e*i - f*h) - b*(d*i - f*g)+c*(d*h - e*g):=by
 have k:minorF 3 [[a,b,c],[d,e,f],[g,h,i]]=0+a*minorF 2 [[e,f],[h,i]]+ -(b*minorF 2 [[d,f],[g,i]])+c*minorF 2 [[d,e],[g,h]]:=rfl
 rw [k,min2,min2,min2]
 grind
theorem min4 (a b c d:Rat) (e0 e1 e2 e3 f0 f1 f2 f3 g0 g1 g2 g3:Rat):minorF 4 [[a,b,c,d],[e0,e1,e2,e3],[f0,f1,f2,f3],[g0,g1,g2,g3]]=a*minorF 3 [[e1,e2,e3],[f1,f2,f3],[g1,g2,g3]] - b*minorF 3 [[e0,e2,e3],[f0,f2,f3],[g0,g2,g3]]+c*minorF 3 [[e0,e1,e3],[f0,f1,f3],[g0,g1,g3]] - d*minorF 3 [[e0,e1,e2],[f0,f1,f2],[g0,g1,g2]]:=by
 have k:minorF 4 [[a,b,c,d],[e0,e1,e2,e3],[f0,f1,f2,f3],[g0,g1,g2,g3]]=0+a*minorF 3 [[e1,e2,e3],[f1,f2,f3],[g1,g2,g3]]+ -(b*minorF 3 [[e0,e2,e3],[f0,f2,f3],[g0,g2,g3]])+c*minorF 3 [[e0,e1,e3],[f0,f1,f3],[g0,g1,g3]]+ -(d*minorF 3 [[e0,e1,e2],[f0,f1,f2],[g0,g1,g2]]):=rfl
 rw [k]
 generalize minorF 3 [[e1,e2,e3],[f1,f2,f3],[g1,g2,g3]]=x
 generalize minorF 3 [[e0,e2,e3],[f0,f2,f3],[g0,g2,g3]]=y
 generalize minorF 3 [[e0,e1,e3],[f0,f1,f3],[g0,g1,g3]]=z
 generalize minorF 3 [[e0,e1,e2],[f0,f1,f2],[g0,g1,g2]]=u
 grind
theorem minor_dR {n:Nat} (hn:1≤n∧n≤4) (f:Nat→Nat→Rat):minorF n (mkR n n f)=dR n f:=by
 have:n=1∨n=2∨n=3∨n=4:=by omega
 rcases this with rfl|rfl|rfl|rfl
 ·rw [mk1,min1];simp [dR]
 ·rw [mk2,min2];simp [dR,R2];grind
 ·rw [mk3',min3];simp [dR,R3];grind
 ·rw [mk4,min4,min3,min3,min3,min3];simp [dR,R4,R3];grind
theorem adj_inv {n:Nat} (hn:1≤n∧n≤4) {f:Nat→Nat→Rat} (hd:dR n f≠0):∀ i,i<n→∀ c,c<n→smR n (fun k=>f i k*adjT (mkR n n f) n k c)=dl i c:=by
 have key:∀ i,i<n→∀ c,c<n→smR n (fun k=>f i k*(if (k+c)%2=1 then -minorF (n - 1) (withoutQ (mkR n n f) c k) else minorF (n - 1) (withoutQ (mkR n n f) c k)))=dl i c*dR n f:=by
  rw [← minor_dR hn]
  have:n=1∨n=2∨n=3∨n=4:=by omega
  rcases this with rfl|rfl|rfl|rfl
  ·intro i hi c hc
   obtain rfl:i=0:=by omega
   obtain rfl:c=0:=by omega
   rw [mk1,min1]
   simp [smR,minorF,withoutQ,dl,Rat.mul_one,Rat.one_mul]
  ·intro i hi c hc
   rw [mk2,min2]
   have hi':i=0∨i=1:=by omega
   have hc':c=0∨c=1:=by omega
   rcases hi' with rfl|rfl<;>rcases hc' with rfl|rfl<;>simp [smR,withoutQ,cutR,dl,min1]<;>grind
  ·intro i hi c hc
   rw [mk3',min3]
   have hi':i=0∨i=1∨i=2:=by omega
   have hc':c=0∨c=1∨c=2:=by omega
   rcases hi' with rfl|rfl|rfl<;>rcases hc' with rfl|rfl|rfl<;>simp [smR,withoutQ,cutR,dl,min2]<;>grind
  ·intro i hi c hc
   rw [mk4,min4,min3,min3,min3,min3]
   have hi':i=0∨i=1∨i=2∨i=3:=by omega
   have hc':c=0∨c=1∨c=2∨c=3:=by omega
   rcases hi' with rfl|rfl|rfl|rfl<;>rcases hc' with rfl|rfl|rfl|rfl<;>simp [smR,withoutQ,cutR,dl,min3]<;>grind
 intro i hi c hc
 have h1:=key i hi c hc
 have h2:∀ k,adjT (mkR n n f) n k c=(if (k+c)%2=1 then -minorF (n - 1) (withoutQ (mkR n n f) c k) else minorF (n - 1) (withoutQ (mkR n n f) c k))*(dR n f)⁻¹:=fun k=>by
  unfold adjT
  rw [minor_dR hn]
  split<;>grind
 have h3:smR n (fun k=>f i k*adjT (mkR n n f) n k c)=smR n (fun k=>(f i k*(if (k+c)%2=1 then -minorF (n - 1) (withoutQ (mkR n n f) c k) else minorF (n - 1) (withoutQ (mkR n n f) c k)))*(dR n f)⁻¹):=smR_congr hn fun k _=>by rw [h2 k];grind
 rw [h3,smR_mul hn (fun k=>f i k*(if (k+c)%2=1 then -minorF (n - 1) (withoutQ (mkR n n f) c k) else minorF (n - 1) (withoutQ (mkR n n f) c k))),h1]
 generalize dR n f=d at *
 generalize dl i c=e at *
 grind
def Ht (k:Nat) (q:Rat):Prop:=∃ n d:Int,0<d∧d.natAbs≤tenTo k∧n.natAbs≤tenTo k∧q=(n:Rat) / (d:Rat)
theorem tenTo_pos (k:Nat):0<tenTo k:=Nat.pow_pos zo
theorem tenTo_mul (a b:Nat):tenTo (a+b)=tenTo a*tenTo b:=Nat.pow_add _ _ _
theorem tenTo_mono {a b:Nat} (h:a≤b):tenTo a≤tenTo b:=Nat.pow_le_pow_right zo h
theorem tenTo_lt {a b:Nat} (h:a<b):tenTo a<tenTo b:=Nat.pow_lt_pow_right zo h
theorem Ht.mono {a b:Nat} {q:Rat} (h:Ht a q) (k:a≤b):Ht b q:=by
 obtain ⟨n,d,h1,h2,h3,h4⟩:=h
 have:=tenTo_mono k
 exact ⟨n,d,h1,by omega,by omega,h4⟩
theorem Ht.ok {a:Nat} {q:Rat} (h:Ht a q) (k:a<600):okq q=true:=by
 obtain ⟨n,d,h1,h2,h3,rfl⟩:=h
 obtain ⟨l1,l2⟩:=verdigrisref02.low_le (n:=n) (d:=d) zo
 have:=tenTo_lt k
 unfold okq okn
 generalize tenTo 600=X at *
 rw [Bool.and_eq_true]
 exact ⟨decide_eq_true zo,decide_eq_true zo⟩
theorem cast_ne {d:Int} (h:0<d):(d:Rat)≠0:=fun e=>by
 have:d=0:=by exact_mod_cast e
 omega
theorem Ht.mul {a b:Nat} {p q:Rat} (h:Ht a p) (k:Ht b q):Ht (a+b) (p*q):=by
 obtain ⟨n,d,h1,h2,h3,rfl⟩:=h
 obtain ⟨n',d',k1,k2,k3,rfl⟩:=k
 refine ⟨n*n',d*d',Int.mul_pos h1 k1,?_,?_,?_⟩
 ·rw [tenTo_mul,Int.natAbs_mul];exact Nat.mul_le_mul h2 k2
 ·rw [tenTo_mul,Int.natAbs_mul];exact Nat.mul_le_mul h3 k3
 ·have e1:=cast_ne h1
  have e2:=cast_ne k1
  rw [Rat.intCast_mul,Rat.intCast_mul]
  grind
theorem Ht.add {a b:Nat} {p q:Rat} (h:Ht a p) (k:Ht b q):Ht (a+b+1) (p+q):=by
 obtain ⟨n,d,h1,h2,h3,rfl⟩:=h
 obtain ⟨n',d',k1,k2,k3,rfl⟩:=k
 have t:tenTo (a+b+1)=10*(tenTo a*tenTo b):=by rw [tenTo_mul,tenTo_mul];show _*10=_;omega
 refine ⟨n*d'+n'*d,d*d',Int.mul_pos h1 k1,?_,?_,?_⟩
 ·have:=Nat.mul_le_mul h2 k2
  rw [t,Int.natAbs_mul];omega
 ·have x1:=Nat.mul_le_mul h3 k2
  have x2:=Nat.mul_le_mul k3 h2
  rw [Nat.mul_comm (tenTo b)] at x2
  have x3:=Int.natAbs_add_le (n*d') (n'*d)
  rw [Int.natAbs_mul,Int.natAbs_mul] at x3
  rw [t];omega
 ·have e1:=cast_ne h1
  have e2:=cast_ne k1
  rw [Rat.intCast_add,Rat.intCast_mul,Rat.intCast_mul,Rat.intCast_mul]
  grind
theorem Ht.neg {a:Nat} {p:Rat} (h:Ht a p):Ht a (-p):=by
 obtain ⟨n,d,h1,h2,h3,rfl⟩:=h
 exact ⟨-n,d,h1,h2,by rw [Int.natAbs_neg];exact h3,by rw [Rat.intCast_neg];grind⟩
theorem Ht.sub {a b:Nat} {p q:Rat} (h:Ht a p) (k:Ht b q):Ht (a+b+1) (p - q):=by
 rw [Rat.sub_eq_add_neg]
 exact h.add k.neg
theorem Ht.zero:Ht 0 0:=⟨0,1,by omega,by decide,by decide,by decide+kernel⟩
theorem Ht.one:Ht 0 1:=⟨1,1,by omega,by decide,by decide,by decide+kernel⟩
theorem Ht.inv {a:Nat} {p:Rat} (h:Ht a p):Ht a (p⁻¹):=by
 obtain ⟨n,d,h1,h2,h3,rfl⟩:=h
 have e1:=cast_ne h1
 rcases Int.lt_trichotomy n 0 with h|rfl|h
 ·have e2:((-n:Int):Rat)≠0:=cast_ne zo
  rw [Rat.intCast_neg] at e2
  refine ⟨-d, -n,by omega,by omega,by omega,?_⟩
  rw [Rat.intCast_neg,Rat.intCast_neg]
  grind
 ·exact ⟨0,1,by omega,by have:=tenTo_pos a;omega,by have:=tenTo_pos a;omega,by simp [Rat.div_def]⟩
 ·have e2:=cast_ne h
  exact ⟨d,n,h,h3,h2,by grind⟩
theorem Ht.div {a b:Nat} {p q:Rat} (h:Ht a p) (k:Ht b q):Ht (a+b) (p / q):=by
 rw [Rat.div_def]
 exact h.mul k.inv
theorem Ht.of_parts {q:Rat} {k:Nat} (h1:q.num.natAbs≤tenTo k) (h2:q.den≤tenTo k):Ht k q :=
 ⟨q.num,q.den,by have:=q.den_pos;omega,by simpa using h2,h1,by have:=Rat.mkRat_self q;rw [Rat.mkRat_eq_div] at this;exact this.symm⟩
def Sm (q:Rat):Prop:=okq q=true∧q.num.natAbs≤999∧q.den≤60
theorem Sm.ht {q:Rat} (h:Sm q):Ht 3 q:=Ht.of_parts (by have:=h.2.1;show _≤1000;omega) (by have:=h.2.2;show _≤1000;omega)
theorem smR_ht {k a:Nat} (hk:1≤k∧k≤4) {f:Nat→Rat} (h:∀ i,i<k→Ht a (f i)):Ht (4*a+3) (smR k f):=by
 have:k=1∨k=2∨k=3∨k=4:=by omega
 rcases this with rfl|rfl|rfl|rfl
 ·exact (h 0 zo).mono zo
 ·exact ((h 0 zo).add (h 1 zo)).mono zo
 ·exact (((h 0 zo).add (h 1 zo)).add (h 2 zo)).mono zo
 ·exact ((((h 0 zo).add (h 1 zo)).add (h 2 zo)).add (h 3 zo)).mono zo
theorem R2_ht {a:Nat} {U:Nat→Nat→Rat} {N:Nat} (h:∀ i,i<N→∀ j,j<N→Ht a (U i j)) {r s i j:Nat} (hr:r<N) (hs:s<N) (hi:i<N) (hj:j<N):Ht (4*a+1) (R2 U r s i j) :=
 (((h r hr i hi).mul (h s hs j hj)).sub ((h s hs i hi).mul (h r hr j hj))).mono zo
theorem R3_ht {a:Nat} {U:Nat→Nat→Rat} {N:Nat} (h:∀ i,i<N→∀ j,j<N→Ht a (U i j)) {r s q i j k:Nat} (hr:r<N) (hs:s<N) (hq:q<N) (hi:i<N) (hj:j<N) (hk:k<N):Ht (15*a+5) (R3 U r s q i j k):=by
 have m:∀ x y,x<N→y<N→Ht (4*a+1) (U s x*U q y - U q x*U s y):=fun x y hx hy=>(((h s hs x hx).mul (h q hq y hy)).sub ((h q hq x hx).mul (h s hs y hy))).mono zo
 unfold R3
 exact ((((h r hr i hi).mul (m j k hj hk)).sub ((h r hr j hj).mul (m i k hi hk))).add ((h r hr k hk).mul (m i j hi hj))).mono zo
theorem dR_ht {n a:Nat} (hn:1≤n∧n≤4) {f:Nat→Nat→Rat} (h:∀ i,i<n→∀ j,j<n→Ht a (f i j)):Ht (64*a+23) (dR n f):=by
 have:n=1∨n=2∨n=3∨n=4:=by omega
 rcases this with rfl|rfl|rfl|rfl
 ·exact (h 0 zo 0 zo).mono zo
 ·exact (R2_ht h zo zo zo zo).mono zo
 ·exact (R3_ht h zo zo zo zo zo zo).mono zo
 ·have m:∀ x y z,x<4→y<4→z<4→Ht (15*a+5) (R3 f 1 2 3 x y z):=fun x y z hx hy hz=>R3_ht h zo zo zo hx hy hz
  show Ht _ (R4 f 0 1 2 3)
  unfold R4
  exact (((((h 0 zo 0 zo).mul (m 1 2 3 zo zo zo)).sub ((h 0 zo 1 zo).mul (m 0 2 3 zo zo zo))).add ((h 0 zo 2 zo).mul (m 0 1 3 zo zo zo))).sub ((h 0 zo 3 zo).mul (m 0 1 2 zo zo zo))).mono zo
theorem minor_ht:∀ n,n≤3→∀ m:RM,m.length=n→(∀ r∈m,r.length=n∧∀ q∈r,Ht 3 q)→Ht 54 (minorF n m)
 | 0,_,_,_,_=>Ht.one.mono zo
 | 1,_,m,hm,h=>by
  have k:=mkR_of fun r hr=>(h r hr).1
  rw [hm] at k
  rw [k,mk1,min1]
  exact (at_ht h hm zo zo).mono zo
 | 2,_,m,hm,h=>by
  have k:=mkR_of fun r hr=>(h r hr).1
  rw [hm] at k
  rw [k,minor_dR zo]
  exact (R2_ht (N:=2) (fun i hi j hj=>at_ht h hm hi hj) zo zo zo zo).mono zo
 | 3,_,m,hm,h=>by
  have k:=mkR_of fun r hr=>(h r hr).1
  rw [hm] at k
  rw [k,minor_dR zo]
  exact (R3_ht (N:=3) (fun i hi j hj=>at_ht h hm hi hj) zo zo zo zo zo zo).mono zo
where
 at_ht {m:RM} {n:Nat} (h:∀ r∈m,r.length=n∧∀ q∈r,Ht 3 q) (hm:m.length=n) {i j:Nat} (hi:i<n) (hj:j<n):Ht 3 (atR m i j):=by
  subst hm
  have e:m.getD i []=m[i]:=by simp [hi]
  have h1:=h m[i] (List.getElem_mem _)
  have hj2:j<m[i].length:=by omega
  unfold atR
  rw [e]
  have e3:m[i].getD j 0=m[i][j]:=by simp [hj2]
  rw [e3]
  exact h1.2 _ (List.getElem_mem _)
theorem without_ht {m:RM} {n i j:Nat} (hr:∀ r∈m,r.length=n+1∧∀ q∈r,Ht 3 q) (hi:i<m.length) (hm:m.length=n+1) (hj:j<n+1):(withoutQ m i j).length=n∧∀ r∈withoutQ m i j,r.length=n∧∀ q∈r,Ht 3 q:=by
 unfold withoutQ
 refine ⟨by simp;omega,fun r hx=>?_⟩
 obtain ⟨s,hs,rfl⟩:=List.mem_map.1 hx
 have hs2:s∈m:=by
  rcases List.mem_append.1 hs with h|h
  ·exact List.mem_of_mem_take h
  ·exact List.mem_of_mem_drop h
 have h2:=hr s hs2
 unfold cutR
 refine ⟨by simp;omega,fun q hq=>h2.2 q ?_⟩
 rcases List.mem_append.1 hq with h|h
 ·exact List.mem_of_mem_take h
 ·exact List.mem_of_mem_drop h
def smM (r c:Nat) (f:Nat→Nat→Rat):Prop:=(1≤r∧r≤4)∧(1≤c∧c≤4)∧∀ i j,Sm (f i j)
theorem smM.ok {r c:Nat} {f:Nat→Nat→Rat} (h:smM r c f):(mkR r c f).ok c:=ok_mk h.1 h.2.1 fun i _ j _=>(h.2.2 i j).1
theorem okM_RM {m:RM} {n:Nat} (h:m.ok n):okM m.fr=true:=by
 have:=h.chk
 unfold chkM at this
 cases hk:okM m.fr with
 | true=>rfl
 | false=>rw [hk] at this;simp at this
theorem head_RM {m:RM} {n:Nat} (h:m.ok n):(m.fr.headD []).length=n:=by
 cases m with
 | nil=>have:=h.1;simp at this
 | cons r t=>unfold RM.fr;simpa using (h.2.2.2.2 r zi).1
theorem fr_len (m:RM):m.fr.length=m.length:=List.length_map _
theorem mulE_mk {r k c:Nat} {f g:Nat→Nat→Rat} (hr:1≤r∧r≤4) (hk:1≤k∧k≤4) (hc:1≤c∧c≤4) (hf:∀ i,i<r→∀ j,j<k→okq (f i j)=true) (hg:∀ i,i<k→∀ j,j<c→okq (g i j)=true) (h:∀ i,i<r→∀ j,j<c→okq (smR k fun l=>f i l*g l j)=true) :
  mulE (mkR r k f).fr (mkR k c g).fr=0∧mulM (mkR r k f).fr (mkR k c g).fr=(mkR r c fun i j=>smR k fun l=>f i l*g l j).fr:=by
 have o1:=ok_mk hr hk hf
 have o2:=ok_mk hk hc hg
 unfold mulE mulM
 rw [rmQ_fr o1,rmQ_fr o2,head_RM o1,head_RM o2,mulQ_mk hk,if_pos ⟨okM_RM o1,okM_RM o2⟩,fr_len,mkR_len,if_pos rfl,if_pos (allQ_mk h)]
 exact ⟨rfl,rfl⟩
theorem trans_mk {r c:Nat} {f:Nat→Nat→Rat} (hr:1≤r∧r≤4) (hc:1≤c∧c≤4) (hf:∀ i,i<r→∀ j,j<c→okq (f i j)=true):chkM (mkR r c f).fr=0∧transM (mkR r c f).fr (((mkR r c f).fr.headD []).length)=(mkR c r fun i j=>f j i).fr:=by
 have o1:=ok_mk hr hc hf
 refine ⟨o1.chk,?_⟩
 rw [head_RM o1,transM_fr o1,colsQ_mk]
theorem detE_mk {n:Nat} {f:Nat→Nat→Rat} (hn:1≤n∧n≤4) (hf:∀ i,i<n→∀ j,j<n→okq (f i j)=true):detE (mkR n n f).fr=Fra.wr (dR n f):=by
 have o1:=ok_mk hn hn hf
 unfold detE
 rw [if_pos (okM_RM o1),fr_len,mkR_len,head_RM o1,if_pos rfl,rmQ_fr o1,detQ_eq o1 (mkR_len _ _ _)]
 rw [dR_congr hn fun i hi j hj=>mkR_at hi hj]
end Go.Proofs.matrix
namespace Go.Proofs.verdigrisref05
open Go Go.RowKit Go.SW Go.Num Go.Mem Go.Proofs Go.Dec Go.Fra Go.Proofs.verdigrisref02 Go.Proofs.verdigrisref01 Go.Proofs.matrix
def DrG (w:World) (r c:Int) (v:Value) (G:Nat→Rat):Prop:=(∀ k,Sm (G k))∧∀ k:Nat,k≤1000→∀ W,Below w.heap.size w W →
 Calls Tryz.prog 53 #[.agg #[.int .u8 r,.int .u8 c,v],.int .i64 (k:Int)] W (fun e w'=>e= .returned (Fr.of (G k)).v∧Below W.heap.size W w')
theorem DrG.of {w:World} {v:Value} (r c:Int) (h:Drafts w v):∃ G,DrG w r c v G:=by
 obtain ⟨g,hg⟩:=Classical.skolem.1 fun k:Nat=>(by
  by_cases hk:k≤1000
  ·obtain ⟨q,hq,h⟩:=element_sm r c v k hk w h
   exact ⟨q,hq,fun _=>h⟩
  ·exact ⟨0,by unfold Sm;decide+kernel,fun h=>absurd h hk⟩:∃ q:Rat,Sm q∧(k≤1000→∀ W,Below w.heap.size w W→Calls Tryz.prog 53 #[.agg #[.int .u8 r,.int .u8 c,v],.int .i64 (k:Int)] W (fun e w'=>e= .returned (Fr.of q).v∧Below W.heap.size W w')))
 exact ⟨g,fun k=>(hg k).1,fun k hk=>(hg k).2 hk⟩
def SqPost (W:World) (n:Nat) (M:RM) (e:Ending) (w':World):Prop:=∃ a c,e= .returned (.slice a n c)∧Below W.heap.size W w'∧MatV w' (.slice a n c) M.fr
theorem sized_G {w:World} {r c:Int} {v:Value} {G:Nat→Rat} (h:DrG w r c v G) (hv:Drafts w v) (n m:Nat) (hn:n≤4) (hm:m≤4) (W:World) (hW:Below w.heap.size w W) :
  Calls Tryz.prog 34 #[.agg #[.int .u8 r,.int .u8 c,v],.int .i64 (n:Int),.int .i64 (m:Int)] W (SqPost W n (mkR n m fun i j=>G (4*i+j))):=by
 refine (sized_walk r c v n m (fun i j=>Fr.of (G (4*i+j))) W (hv.later hW) hn hm fun i j hi hj W2 h2=>?_).mono ?_
 ·have:=h.2 (4*i+j) zo W2 (Bt hW h2)
  rw [show (((4*i+j:Nat)):Int)=4*(i:Int)+(j:Int) by omega] at this
  exact this
 ·rintro e w' ⟨v',rfl,hb,hM⟩
  have e1:((List.range n).map fun i=>(List.range m).map fun j=>Fr.of (G (4*i+j)))=(mkR n m fun i j=>G (4*i+j)).fr:=by
   unfold RM.fr mkR
   rw [List.map_map]
   refine List.map_congr_left fun i _=>?_
   simp
  rw [e1] at hM
  obtain ⟨a,cc,rfl⟩:=MatV.sl hM
  have e2:(mkR n m fun i j=>G (4*i+j)).fr.length=n:=by rw [fr_len,mkR_len]
  rw [e2] at hM ⊢
  exact ⟨a,cc,rfl,hb,hM⟩
theorem square_G {w:World} {r c:Int} {v:Value} {G:Nat→Rat} (hr:0≤r∧r≤255) (hv:Drafts w v) (n:Nat) (hn:1+r%4=(n:Int)) (M:RM) (H:∀ W,Below w.heap.size w W→Calls Tryz.prog 34 #[.agg #[.int .u8 r,.int .u8 c,v],.int .i64 (n:Int),.int .i64 (n:Int)] W (SqPost W n M)) (W:World) (hW:Below w.heap.size w W) :
  Calls Tryz.prog 33 #[.agg #[.int .u8 r,.int .u8 c,v]] W (SqPost W n M):=by
 have SZ:=zh H
 have h1:r.tmod 4=r%4:=Int.tmod_eq_emod_of_nonneg hr.1
 have h3:IntKind.u8.wrap (r%4)=r%4:=by unfold IntKind.wrap;simp [IntKind.bits,IntKind.signed];omega
 have h5:IntKind.i64.wrap (r%4)=r%4:=by unfold IntKind.wrap;simp [IntKind.bits,IntKind.signed];omega
 have h7:IntKind.i64.wrap (1+r%4)=(n:Int):=by rw [← hn];unfold IntKind.wrap;simp [IntKind.bits,IntKind.signed];omega
 obtain ⟨a,nd,cap,rfl, -, -⟩:=hv
 have HW:=zh hW
 clear hW hn H
 go_enter Tryz.func33,Tryz.ntmps33
 go_wp2_with fail
 refine (SZ.out _ (Bt HW.out belA)).mono ?_
 rintro e w2 ⟨pa,ca,rfl,hb2,hm⟩
 have HM:=zh hm
 have hb3:=Bt (show Below W.heap.size W (W.alloc (.cells #[.int .u8 r,.int .u8 c,.slice a nd cap] 26)) from belA) hb2
 clear hm hb2
 go_wp2_with fail
 go_ret
 exact ⟨_,_,rfl,hb3,HM.out⟩
theorem mat_G {w:World} {r c:Int} {v:Value} {G:Nat→Rat} (hr:0≤r∧r≤255) (hc:0≤c∧c≤255) (hv:Drafts w v) (n m:Nat) (hn:1+r%4=(n:Int)) (hm:1+c%4=(m:Int)) (M:RM) (H:∀ W,Below w.heap.size w W→Calls Tryz.prog 34 #[.agg #[.int .u8 r,.int .u8 c,v],.int .i64 (n:Int),.int .i64 (m:Int)] W (SqPost W n M)) (W:World) (hW:Below w.heap.size w W) :
  Calls Tryz.prog 32 #[.agg #[.int .u8 r,.int .u8 c,v]] W (SqPost W n M):=by
 have SZ:=zh H
 have h1:r.tmod 4=r%4:=Int.tmod_eq_emod_of_nonneg hr.1
 have h2:c.tmod 4=c%4:=Int.tmod_eq_emod_of_nonneg hc.1
 have h3:IntKind.u8.wrap (r%4)=r%4:=by unfold IntKind.wrap;simp [IntKind.bits,IntKind.signed];omega
 have h4:IntKind.u8.wrap (c%4)=c%4:=by unfold IntKind.wrap;simp [IntKind.bits,IntKind.signed];omega
 have h5:IntKind.i64.wrap (r%4)=r%4:=by unfold IntKind.wrap;simp [IntKind.bits,IntKind.signed];omega
 have h6:IntKind.i64.wrap (c%4)=c%4:=by unfold IntKind.wrap;simp [IntKind.bits,IntKind.signed];omega
 have h7:IntKind.i64.wrap (1+r%4)=(n:Int):=by rw [← hn];unfold IntKind.wrap;simp [IntKind.bits,IntKind.signed];omega
 have h8:IntKind.i64.wrap (1+c%4)=(m:Int):=by rw [← hm];unfold IntKind.wrap;simp [IntKind.bits,IntKind.signed];omega
 obtain ⟨a,nd,cap,rfl, -, -⟩:=hv
 have HW:=zh hW
 clear hW hn hm H
 go_enter Tryz.func32,Tryz.ntmps32
 go_wp2_with fail
 refine (SZ.out _ (Bt HW.out belA)).mono ?_
 rintro e w2 ⟨pa,ca,rfl,hb2,hm⟩
 have HM:=zh hm
 have hb3:=Bt (show Below W.heap.size W (W.alloc (.cells #[.int .u8 r,.int .u8 c,.slice a nd cap] 26)) from belA) hb2
 clear hm hb2
 go_wp2_with fail
 go_ret
 exact ⟨_,_,rfl,hb3,HM.out⟩
def LiPost (W:World) (n:Nat) (l:List Rat) (e:Ending) (w':World):Prop:=∃ a c,e= .returned (.slice a n c)∧Below W.heap.size W w'∧Frs w' 59 (.slice a n c) (l.map Fr.of)
theorem list_G {w:World} {r c:Int} {v:Value} {G:Nat→Rat} (h:DrG w r c v G) (hv:Drafts w v) (n:Nat) (hn:n≤5) (W:World) (hW:Below w.heap.size w W) :
  Calls Tryz.prog 17 #[.agg #[.int .u8 r,.int .u8 c,v],.int .i64 (n:Int)] W (LiPost W n ((List.range n).map fun i=>G (5*i+3))):=by
 obtain ⟨i0,hi,hz0,hz1,hz2⟩:=info_parts infoFr
 obtain ⟨a,nd,cap,rfl, -, -⟩:=hv
 obtain ⟨K,EK⟩:∃ K:Nat→Fr,Hid ((fun i=>Fr.of (G (5*i+3)))=K):=⟨_,zh rfl⟩
 have EL:Hid (∀ i:Nat,i<5→∀ W',Below W.heap.size W W'→Calls Tryz.prog 53 #[.agg #[.int .u8 r,.int .u8 c,.slice a nd cap],.int .i64 (5*(i:Int)+3)] W' (fun e w'=>e= .returned (K i).v∧Below W'.heap.size W' w')):=zh fun i hi W' hW'=>by
  have:=h.2 (5*i+3) zo W' (Bt hW hW')
  rw [show (((5*i+3:Nat)):Int)=5*(i:Int)+3 by omega] at this
  rw [← EK.out]
  exact this
 have HW:Hid (∀ z:Int,0≤z∧z≤1000000000→IntKind.i64.wrap z=z):=zh fun z h=>by unfold IntKind.wrap;simp [IntKind.bits,IntKind.signed];omega
 clear h hW
 go_enter Tryz.func17,Tryz.ntmps17
 go_wp2_with fail
 obtain ⟨w1,EW,hz,HD⟩:=al1 W #[.int .u8 r,.int .u8 c,.slice a nd cap] 26
 rw [EW]
 have HB1:=zh hz
 clear EW hz
 go_loopw [5,6] (fun ov iv wr=>∃ k:Nat,iv= .int .i64 (k:Int)∧k≤n∧Hid (Grows wr w1.heap.size 59 2 RFr ov ((List.range k).map K))∧Below w1.heap.size w1 wr) (fun _ iv _=>n - (intOf iv).toNat)
 case atStart=>exact ⟨0,rfl,by omega,zh (Grows.nil _ _ _ _ _),Below.refl _ _⟩
 case round =>
  obtain ⟨k,rfl,hk,HG,hb⟩:=hrel
  rcases Nat.lt_or_ge k n with hlt|hge
  ·obtain ⟨ov,cv,rfl⟩:=HG.out.at (n:=k) zi
   have HBo:=zh hb
   have hdi:=HD.out.later hb
   have cD:=hdi.cell
   have lD:=hdi.lt
   have EC:=EL.out k zo wr (Bt HB1.out hb)
   have w1':=HW.out (5*(k:Int)) zo
   have w2':=HW.out (5*(k:Int)+3) zo
   obtain ⟨⟨s,t⟩,EKk⟩:∃ y,Hid (K k=y):=⟨_,zh rfl⟩
   rw [EKk.out] at EC
   unfold Fr.v at EC
   have HEC:=zh EC
   clear EC hb hdi
   go_wp2_with fail
   refine HEC.out.mono ?_
   rintro e w2 ⟨rfl,hb2⟩
   have HB2:=zh (Bt HBo.out hb2)
   replace HG:=zh (HG.out.later hb2 (RFr.stay _))
   clear hb2 HEC cD lD w1' w2'
   go_wp2_with (at_builtin;refine wpList_grow (w0:=w1) rfl (.tmp 12) (.tmp 18) 29 rfl 59 i0 (.agg #[.string ⟨#[]⟩,.string ⟨#[]⟩]) 2 32 Tryz.underlying29 hi hz0 hz1 hz2 rfl zd RFr _ ((List.range k).map K) rfl (HG.out.later belA (RFr.stay _)) (Bt HB2.out belA) _ [.string s,.string t] ⟨s,t⟩ rfl (Box.new _ _ _) rfl ?c1 rfl (RFr.stay _) ?c2 zo ?_)
   case c1=>intro u hu;simp only [List.mem_cons,List.not_mem_nil,or_false] at hu;rcases hu with rfl|rfl<;>rfl
   case c2=>simp;omega
   intro v' w3 hg hb3 _
   have HG2:Hid (Grows w3 w1.heap.size 59 2 RFr v' ((List.range (k+1)).map K)):=zh (by rw [range_snoc,EKk.out];exact hg)
   clear hg HG HB2
   go_wp2_with fail
   go_roundw
   case rel=>exact ⟨k+1,by go_num,by omega,HG2,hb3⟩
   case measure=>exact zM
  ·obtain rfl:k=n:=by omega
   obtain ⟨ov,cv,rfl⟩:=HG.out.at (n:=k) zi
   have HF:Hid (Frs wr 59 (.slice ov k cv) (((List.range k).map fun i=>G (5*i+3)).map Fr.of)):=zh (by
    have:=HG.out.slV.frs
    rw [← EK.out] at this
    rw [List.map_map]
    exact this)
   have HB3:=zh (Bt HB1.out hb)
   clear hb HG
   go_wp2_with fail
   go_ret
   exact ⟨_,_,rfl,HB3.out,HF.out⟩
end Go.Proofs.verdigrisref05
namespace Go.Proofs.matrix
open Go Go.Num Go.Proofs Go.Fra Go.Proofs.verdigrisref05
theorem of_zero {q:Rat} (h:(Fr.of q).n=⟨#[48]⟩) (hq:okq q=true):q=0:=by
 unfold okq at hq
 rw [Bool.and_eq_true,okn_len,okn_len] at hq
 have e1:Dec.whole (Fr.of q).n.data.toList=some q.num:=Dec.whole_of_itoa hq.1
 rw [h] at e1
 have e2:Dec.whole (⟨#[48]⟩:ByteArray).data.toList=some 0:=by decide+kernel
 rw [e2] at e1
 exact Rat.num_eq_zero.1 (Option.some.inj e1).symm
theorem one_mk {n:Nat} (hn:1≤n∧n≤4):diagM (List.replicate n Fr.one)=(mkR n n dl).fr:=by
 have:n=1∨n=2∨n=3∨n=4:=by omega
 rcases this with rfl|rfl|rfl|rfl<;>decide+kernel
theorem dl_ok (i j:Nat):okq (dl i j)=true:=by unfold dl;split<;>decide+kernel
theorem idE_ok {n:Nat} (hn:1≤n∧n≤4):idE (n:Int)=0:=by unfold idE;rw [if_neg zo]
theorem dot_ht {k a b:Nat} (hk:1≤k∧k≤4) {u v:Nat→Rat} (hu:∀ i,i<k→Ht a (u i)) (hv:∀ i,i<k→Ht b (v i)):Ht (4*(a+b)+3) (smR k fun l=>u l*v l):=smR_ht hk fun i hi=>(hu i hi).mul (hv i hi)
theorem inv_small {n:Nat} {f:Nat→Nat→Rat} (hn:1≤n∧n≤4) (hf:∀ i j,Sm (f i j)) (hd:dR n f≠0) :
  ∃ g:Nat→Nat→Rat,invE (mkR n n f)=0∧invM (mkR n n f)=mkR n n g∧(∀ i,i<n→∀ j,j<n→okq (g i j)=true)∧(∀ i,i<n→∀ c,c<n→smR n (fun k=>f i k*g k c)=dl i c)∧(∀ i,i<n→∀ c,c<n→smR n (fun k=>g i k*f k c)=dl i c):=by
 have o1:=ok_mk (f:=f) hn hn fun i _ j _=>(hf i j).1
 have hl:=mkR_len n n f
 have hat:∀ i,i<n→∀ j,j<n→atR (mkR n n f) i j=f i j:=fun i hi j hj=>mkR_at hi hj
 have e1:=dR_congr hn hat
 obtain ⟨h1,h2⟩:=invQ_eq o1 hl
 rw [e1] at h1
 have h0:(elimQ (mkR n n f)).1≠0:=fun e=>hd (h1.1 e)
 have h3:∀ i,i<n→∀ c,c<n→smR n (fun k=>f i k*invQ (mkR n n f) k c)=dl i c:=fun i hi c hc=>by
  rw [← h2 h0 i hi c hc]
  exact smR_congr hn fun k hk=>by rw [hat i hi k hk]
 have hmd:minorF n (mkR n n f)≠0:=by rw [minor_dR hn];exact hd
 have h4:=adj_inv hn hd
 have h5:=inv_one hn hd h3 h4
 have hrows:∀ r∈mkR n n f,r.length=n∧∀ q∈r,Ht 3 q:=fun r hr=>⟨mkR_row hr,fun q hq=>by
  obtain ⟨i, -, rfl⟩:=List.mem_map.1 hr
  obtain ⟨j, -, rfl⟩:=List.mem_map.1 hq
  exact (hf i j).ht⟩
 have hdh:Ht 215 (dR n f):=(dR_ht (a:=3) hn fun i _ j _=>(hf i j).ht).mono zo
 have hok:∀ i,i<n→∀ j,j<n→okq (invQ (mkR n n f) i j)=true:=fun i hi j hj=>by
  rw [h5 i hi j hj]
  have hm:Ht 54 (minorF (n - 1) (withoutQ (mkR n n f) j i)):=by
   have hn':n - 1+1=n:=by omega
   have:=without_ht (n:=n - 1) (m:=mkR n n f) (i:=j) (j:=i) (by rw [hn'];exact hrows) (by rw [hl];exact hj) (by rw [hn'];exact hl) zo
   exact minor_ht (n - 1) zo _ this.1 this.2
  have hd2:Ht (54+215) (minorF (n - 1) (withoutQ (mkR n n f) j i) / minorF n (mkR n n f)):=by
   rw [minor_dR hn]
   exact hm.div hdh
  unfold adjT
  split
  ·exact hd2.neg.ok zo
  ·exact hd2.ok zo
 refine ⟨invQ (mkR n n f),?_,?_,hok,h3,left_inv hn hd h3⟩
 ·unfold invE
  rw [if_neg h0,invM_mk,hl,if_pos (allQ_mk hok)]
 ·rw [invM_mk,hl]
theorem inv_none {n:Nat} {f:Nat→Nat→Rat} (hn:1≤n∧n≤4) (hf:∀ i,i<n→∀ j,j<n→okq (f i j)=true) (hd:dR n f=0):invE (mkR n n f)=7:=by
 have o1:=ok_mk hn hn hf
 have h1:=(invQ_eq o1 (mkR_len n n f)).1
 rw [dR_congr hn fun i hi j hj=>mkR_at hi hj] at h1
 unfold invE
 rw [if_pos (h1.2 hd)]
theorem app_mk {r k:Nat} (hk:1≤k∧k≤4) (f:Nat→Nat→Rat) (x:Nat→Rat):((mkR r k f).map fun s=>dotQ s ((List.range k).map x))=(List.range r).map fun i=>smR k fun l=>f i l*x l:=by
 unfold mkR
 rw [List.map_map]
 exact List.map_congr_left fun i _=>dot_smR hk _ _
theorem back_eq {n:Nat} (hn:1≤n∧n≤4) {f g:Nat→Nat→Rat} (h:∀ i,i<n→∀ c,c<n→smR n (fun k=>g i k*f k c)=dl i c) (x:Nat→Rat):((List.range n).map fun i=>smR n fun k=>g i k*smR n fun l=>f k l*x l)=(List.range n).map x:=by
 refine List.map_congr_left fun i hi=>?_
 have hi':=List.mem_range.1 hi
 rw [smR_swap hn (g i) f x,← smR_dl hn hi' x]
 exact smR_congr hn fun l hl=>by rw [h i hi' l hl]
end Go.Proofs.matrix
namespace Go.Proofs.verdigrislaw05
open Go Go.RowKit Go.SW Go.Num Go.Mem Go.Proofs Go.Dec Go.Fra Go.Proofs.matrix Go.Proofs.verdigrisref05
def YesN (W:World) (n:Nat) (R:List (List Fr)) (e:Ending) (w':World):Prop:=∃ a c,e= .returned (.tuple #[.slice a n c,.int .i64 0])∧Below W.heap.size W w'∧MatV w' (.slice a n c) R
def YesK (W:World) (n:Nat) (R:List Fr) (e:Ending) (w':World):Prop:=∃ a c,e= .returned (.tuple #[.slice a n c,.int .i64 0])∧Below W.heap.size W w'∧Frs w' 59 (.slice a n c) R
theorem YesM.n {W w':World} {n:Nat} {R:List (List Fr)} {e:Ending} (h:YesM W R e w') (hn:R.length=n):YesN W n R e w':=by subst hn;exact h
theorem YesL.n {W w':World} {n:Nat} {R:List Fr} {e:Ending} (h:YesL W R e w') (hn:R.length=n):YesK W n R e w':=by subst hn;exact h
theorem undoes_zero (r c:Int) (v:Value) (n:Nat) (M:List (List Fr)) (w:World) (ht:Bld.Pow w) (he:whole.Er w) (hv:Drafts w v)
  (HS:Hid (∀ W,Below w.heap.size w W→Calls Tryz.prog 33 #[.agg #[.int .u8 r,.int .u8 c,v]] W (fun e w'=>∃ a c,e= .returned (.slice a n c)∧Below W.heap.size W w'∧MatV w' (.slice a n c) M)))
  (HD:Hid (∀ v W,MatV W v M→Bld.Pow W→Calls Tryz.prog 35 #[v] W (fun e w'=>e= .returned (.tuple #[.agg #[.string ⟨#[48]⟩,.string ⟨#[49]⟩],.int .i64 0])∧Below W.heap.size W w')))
  (HI:Hid (∀ v W,MatV W v M→Bld.Pow W→Calls Tryz.prog 37 #[v] W (NoM W 7))) :
  Calls Tryz.prog 7 #[.agg #[.int .u8 r,.int .u8 c,v]] w (fun e w'=>e= .returned (.bool true)∧Below w.heap.size w w'):=by
 have HP:=zh ht
 have HE:=zh he
 have HW:=zh (fun W (h1:Bld.Pow W) (h2:whole.Er W)=>works_ok W h1 h2)
 obtain ⟨a0,nd,cap,rfl, -, -⟩:=hv
 clear ht he
 go_enter Tryz.func7,Tryz.ntmps7
 go_wp2_with fail
 obtain ⟨u0,EW,hz,HX⟩:=al1 w #[.int .u8 r,.int .u8 c,.slice a0 nd cap] 26
 rw [EW]
 have HB:=zh hz
 clear EW hz
 refine (HW.out _ (HP.out.later HB.out) (HE.out.later HB.out)).mono ?_
 rintro e u1 ⟨rfl,h⟩
 replace HX:=zh (HX.out.later h)
 replace HB:=zh (Bt HB.out h)
 clear h
 have cHX:=HX.out.cell
 have lHX:=HX.out.lt
 go_wp2_with fail
 clear cHX lHX
 refine (HS.out _ HB.out).mono ?_
 rintro e u2 ⟨am,cm,rfl,h,hm⟩
 replace HX:=zh (HX.out.later h)
 replace HB:=zh (Bt HB.out h)
 clear h
 have FM:=zh hm
 clear hm
 go_wp2_with fail
 refine (HD.out _ _ FM.out (HP.out.later HB.out)).mono ?_
 rintro e u3 ⟨rfl,h⟩
 replace HX:=zh (HX.out.later h)
 replace FM:=zh (FM.out.later h)
 replace HB:=zh (Bt HB.out h)
 clear h
 go_wp2_with fail
 obtain ⟨wd,EW,h,HDX⟩:=al1 u3 #[.string ⟨#[48]⟩,.string ⟨#[49]⟩] 59
 rw [EW]
 clear EW
 obtain ⟨bd,eb⟩:∃ y,u3.heap.size=y:=⟨_,rfl⟩
 rw [eb] at HDX ⊢
 clear eb
 replace HX:=zh (HX.out.later h)
 replace FM:=zh (FM.out.later h)
 replace HB:=zh (Bt HB.out h)
 clear h
 refine (HI.out _ _ FM.out (HP.out.later HB.out)).mono ?_
 rintro e u4 ⟨rfl,h⟩
 replace HX:=zh (HX.out.later h)
 replace FM:=zh (FM.out.later h)
 replace HDX:=zh (HDX.out.later h)
 replace HB:=zh (Bt HB.out h)
 clear h
 have cHDX:=HDX.out.cell
 have lHDX:=HDX.out.lt
 go_wp2_with fail
 clear cHDX lHDX
 refine (fails_ok 7 _).mono ?_
 rintro e u5 ⟨⟨_,rfl,af,rfl,ha⟩,h⟩
 replace HX:=zh (HX.out.later h)
 replace FM:=zh (FM.out.later h)
 replace HDX:=zh (HDX.out.later h)
 replace HB:=zh (Bt HB.out h)
 clear h
 have FA:=zh ha
 clear ha
 go_wp2_with fail
 refine (fails1_ok 7 af _ FA.out).mono ?_
 rintro e u6 ⟨rfl,h⟩
 replace HX:=zh (HX.out.later h)
 replace FM:=zh (FM.out.later h)
 replace HDX:=zh (HDX.out.later h)
 replace FA:=zh (FA.out.later h)
 replace HB:=zh (Bt HB.out h)
 clear h
 go_wp2_with fail
 go_ret
 exact ⟨rfl,HB.out⟩
theorem undoes_main (r c:Int) (v:Value) (n:Nat) (x y:ByteArray) (M I J:List (List Fr)) (L V:List Fr) (w:World) (ht:Bld.Pow w) (he:whole.Er w) (hv:Drafts w v) (hx:(x.toList == ([48]:List UInt8))=false)
  (HS:Hid (∀ W,Below w.heap.size w W→Calls Tryz.prog 33 #[.agg #[.int .u8 r,.int .u8 c,v]] W (fun e w'=>∃ a c,e= .returned (.slice a n c)∧Below W.heap.size W w'∧MatV w' (.slice a n c) M)))
  (HD:Hid (∀ v W,MatV W v M→Bld.Pow W→Calls Tryz.prog 35 #[v] W (fun e w'=>e= .returned (.tuple #[.agg #[.string x,.string y],.int .i64 0])∧Below W.heap.size W w')))
  (HI:Hid (∀ v W,MatV W v M→Bld.Pow W→Calls Tryz.prog 37 #[v] W (YesN W n J)))
  (H1:Hid (∀ W,Calls Tryz.prog 13 #[.int .i64 (n:Int)] W (YesN W n I)))
  (HM:Hid (∀ a b W,MatV W a M→MatV W b J→Bld.Pow W→Calls Tryz.prog 27 #[a,b] W (YesN W n I)))
  (HN:Hid (∀ a b W,MatV W a J→MatV W b M→Bld.Pow W→Calls Tryz.prog 27 #[a,b] W (YesN W n I)))
  (HL:Hid (∀ W,Below w.heap.size w W→Calls Tryz.prog 17 #[.agg #[.int .u8 r,.int .u8 c,v],.int .i64 (n:Int)] W (fun e w'=>∃ a c,e= .returned (.slice a n c)∧Below W.heap.size W w'∧Frs w' 59 (.slice a n c) L)))
  (HA:Hid (∀ a b W,MatV W a M→Frs W 59 b L→Bld.Pow W→Calls Tryz.prog 29 #[a,b] W (YesK W n V)))
  (HC:Hid (∀ a b W,MatV W a J→Frs W 59 b V→Bld.Pow W→Calls Tryz.prog 29 #[a,b] W (YesK W n L))) :
  Calls Tryz.prog 7 #[.agg #[.int .u8 r,.int .u8 c,v]] w (fun e w'=>e= .returned (.bool true)∧Below w.heap.size w w'):=by
 have HP:=zh ht
 have HE:=zh he
 have HW:=zh (fun W (h1:Bld.Pow W) (h2:whole.Er W)=>works_ok W h1 h2)
 obtain ⟨a0,nd,cap,rfl, -, -⟩:=hv
 clear ht he
 go_enter Tryz.func7,Tryz.ntmps7
 go_wp2_with fail
 obtain ⟨u0,EW,hz,HX⟩:=al1 w #[.int .u8 r,.int .u8 c,.slice a0 nd cap] 26
 rw [EW]
 have HB:=zh hz
 clear EW hz
 refine (HW.out _ (HP.out.later HB.out) (HE.out.later HB.out)).mono ?_
 rintro e u1 ⟨rfl,h⟩
 replace HX:=zh (HX.out.later h)
 replace HB:=zh (Bt HB.out h)
 clear h
 have cHX:=HX.out.cell
 have lHX:=HX.out.lt
 go_wp2_with fail
 clear cHX lHX
 refine (HS.out _ HB.out).mono ?_
 rintro e u2 ⟨am,cm,rfl,h,hm⟩
 replace HX:=zh (HX.out.later h)
 replace HB:=zh (Bt HB.out h)
 clear h
 have FM:=zh hm
 clear hm
 go_wp2_with fail
 refine (HD.out _ _ FM.out (HP.out.later HB.out)).mono ?_
 rintro e u3 ⟨rfl,h⟩
 replace HX:=zh (HX.out.later h)
 replace FM:=zh (FM.out.later h)
 replace HB:=zh (Bt HB.out h)
 clear h
 go_wp2_with fail
 obtain ⟨wd,EW,h,HDX⟩:=al1 u3 #[.string x,.string y] 59
 rw [EW]
 clear EW
 obtain ⟨bd,eb⟩:∃ y,u3.heap.size=y:=⟨_,rfl⟩
 rw [eb] at HDX ⊢
 clear eb
 replace HX:=zh (HX.out.later h)
 replace FM:=zh (FM.out.later h)
 replace HB:=zh (Bt HB.out h)
 clear h
 refine (HI.out _ _ FM.out (HP.out.later HB.out)).mono ?_
 rintro e u4 ⟨aj,cj,rfl,h,hm⟩
 replace HX:=zh (HX.out.later h)
 replace FM:=zh (FM.out.later h)
 replace HDX:=zh (HDX.out.later h)
 replace HB:=zh (Bt HB.out h)
 clear h
 have FJ:=zh hm
 clear hm
 have cHDX:=HDX.out.cell
 have lHDX:=HDX.out.lt
 go_wp2_with fail
 clear cHDX lHDX
 refine (H1.out _).mono ?_
 rintro e u5 ⟨ai,ci,rfl,h,hm⟩
 replace HX:=zh (HX.out.later h)
 replace FM:=zh (FM.out.later h)
 replace HDX:=zh (HDX.out.later h)
 replace FJ:=zh (FJ.out.later h)
 replace HB:=zh (Bt HB.out h)
 clear h
 have FI:=zh hm
 clear hm
 go_wp2_with fail
 refine (HM.out _ _ _ FM.out FJ.out (HP.out.later HB.out)).mono ?_
 rintro e u6 ⟨ap,cp,rfl,h,hm⟩
 replace HX:=zh (HX.out.later h)
 replace FM:=zh (FM.out.later h)
 replace HDX:=zh (HDX.out.later h)
 replace FJ:=zh (FJ.out.later h)
 replace FI:=zh (FI.out.later h)
 replace HB:=zh (Bt HB.out h)
 clear h
 have FP:=zh hm
 clear hm
 go_wp2_with fail
 refine (HN.out _ _ _ FJ.out FM.out (HP.out.later HB.out)).mono ?_
 rintro e u7 ⟨aq,cq,rfl,h,hm⟩
 replace HX:=zh (HX.out.later h)
 replace FM:=zh (FM.out.later h)
 replace HDX:=zh (HDX.out.later h)
 replace FJ:=zh (FJ.out.later h)
 replace FI:=zh (FI.out.later h)
 replace FP:=zh (FP.out.later h)
 replace HB:=zh (Bt HB.out h)
 clear h
 have FQ:=zh hm
 clear hm
 have cHX:=HX.out.cell
 have lHX:=HX.out.lt
 go_wp2_with fail
 clear cHX lHX
 refine (HL.out _ HB.out).mono ?_
 rintro e u8 ⟨al,cl,rfl,h,hm⟩
 replace HX:=zh (HX.out.later h)
 replace FM:=zh (FM.out.later h)
 replace HDX:=zh (HDX.out.later h)
 replace FJ:=zh (FJ.out.later h)
 replace FI:=zh (FI.out.later h)
 replace FP:=zh (FP.out.later h)
 replace FQ:=zh (FQ.out.later h)
 replace HB:=zh (Bt HB.out h)
 clear h
 have FL:=zh hm
 clear hm
 go_wp2_with fail
 refine (HA.out _ _ _ FM.out FL.out (HP.out.later HB.out)).mono ?_
 rintro e u9 ⟨av,cv,rfl,h,hm⟩
 replace HX:=zh (HX.out.later h)
 replace FM:=zh (FM.out.later h)
 replace HDX:=zh (HDX.out.later h)
 replace FJ:=zh (FJ.out.later h)
 replace FI:=zh (FI.out.later h)
 replace FP:=zh (FP.out.later h)
 replace FQ:=zh (FQ.out.later h)
 replace FL:=zh (FL.out.later h)
 replace HB:=zh (Bt HB.out h)
 clear h
 have FV:=zh hm
 clear hm
 go_wp2_with fail
 refine (HC.out _ _ _ FJ.out FV.out (HP.out.later HB.out)).mono ?_
 rintro e u10 ⟨ab,cb,rfl,h,hm⟩
 replace HX:=zh (HX.out.later h)
 replace FM:=zh (FM.out.later h)
 replace HDX:=zh (HDX.out.later h)
 replace FJ:=zh (FJ.out.later h)
 replace FI:=zh (FI.out.later h)
 replace FP:=zh (FP.out.later h)
 replace FQ:=zh (FQ.out.later h)
 replace FL:=zh (FL.out.later h)
 replace FV:=zh (FV.out.later h)
 replace HB:=zh (Bt HB.out h)
 clear h
 have FB:=zh hm
 clear hm
 go_wp2_with fail
 refine (matrix.Same_ok _ _ I _ FP.out FI.out).mono ?_
 rintro e u11 ⟨rfl,h⟩
 replace HX:=zh (HX.out.later h)
 replace FM:=zh (FM.out.later h)
 replace HDX:=zh (HDX.out.later h)
 replace FJ:=zh (FJ.out.later h)
 replace FI:=zh (FI.out.later h)
 replace FP:=zh (FP.out.later h)
 replace FQ:=zh (FQ.out.later h)
 replace FL:=zh (FL.out.later h)
 replace FV:=zh (FV.out.later h)
 replace FB:=zh (FB.out.later h)
 replace HB:=zh (Bt HB.out h)
 clear h
 go_wp2_with fail
 refine (matrix.Same_ok _ _ I _ FQ.out FI.out).mono ?_
 rintro e u12 ⟨rfl,h⟩
 replace HX:=zh (HX.out.later h)
 replace FM:=zh (FM.out.later h)
 replace HDX:=zh (HDX.out.later h)
 replace FJ:=zh (FJ.out.later h)
 replace FI:=zh (FI.out.later h)
 replace FP:=zh (FP.out.later h)
 replace FQ:=zh (FQ.out.later h)
 replace FL:=zh (FL.out.later h)
 replace FV:=zh (FV.out.later h)
 replace FB:=zh (FB.out.later h)
 replace HB:=zh (Bt HB.out h)
 clear h
 go_wp2_with fail
 refine (verdigrisref05.SameList_ok _ _ L _ FB.out FL.out).mono ?_
 rintro e u13 ⟨rfl,h⟩
 replace HX:=zh (HX.out.later h)
 replace FM:=zh (FM.out.later h)
 replace HDX:=zh (HDX.out.later h)
 replace FJ:=zh (FJ.out.later h)
 replace FI:=zh (FI.out.later h)
 replace FP:=zh (FP.out.later h)
 replace FQ:=zh (FQ.out.later h)
 replace FL:=zh (FL.out.later h)
 replace FV:=zh (FV.out.later h)
 replace FB:=zh (FB.out.later h)
 replace HB:=zh (Bt HB.out h)
 clear h
 go_wp2_with fail
 go_ret
 exact ⟨rfl,HB.out⟩
theorem itoa_zero {q:Rat} (hq:okq q=true) (h0:q≠0):((Fr.of q).n.toList == ([48]:List UInt8))=false:=by
 cases h:((Fr.of q).n.toList == ([48]:List UInt8)) with
 | false=>rfl
 | true =>
  exfalso
  refine h0 (of_zero (ba_ext ?_) hq)
  have h1:(Fr.of q).n.toList=[48]:=by simpa using h
  rw [ByteArray.toList_eq] at h1
  exact h1
theorem wr_yes {q:Rat} (h:okq q=true):Fra.wr q=(Fr.of q,0):=by unfold Fra.wr;rw [if_pos h]
theorem undoes_ok (r c:Int) (v:Value) (w:World) (hr:0≤r∧r≤255) (ht:Bld.Pow w) (he:whole.Er w) (hv:Drafts w v) :
  Calls Tryz.prog 7 #[.agg #[.int .u8 r,.int .u8 c,v]] w (fun e w'=>e= .returned (.bool true)∧Below w.heap.size w w'):=by
 obtain ⟨G,hG⟩:=DrG.of r c hv
 obtain ⟨n,hn⟩:∃ n:Nat,1+r%4=(n:Int):=⟨(1+r%4).toNat,by omega⟩
 have n1:1≤n∧n≤4:=by omega
 obtain ⟨f,hf⟩:∃ f:Nat→Nat→Rat,f=fun i j=>G (4*i+j):=⟨_,rfl⟩
 have fs:∀ i j,Sm (f i j):=fun i j=>by rw [hf];exact hG.1 _
 have fo:∀ i,i<n→∀ j,j<n→okq (f i j)=true:=fun i _ j _=>(fs i j).1
 have HS:=zh (square_G (c:=c) (G:=G) hr hv n hn (mkR n n f) fun W hW=>by rw [hf];exact sized_G hG hv n n n1.2 n1.2 W hW)
 have hok:okq (dR n f)=true:=((dR_ht (a:=3) n1 fun i _ j _=>(fs i j).ht).mono (show 64*3+23≤215 by omega)).ok zo
 have hdet:detE (mkR n n f).fr=(⟨(Fr.of (dR n f)).n,(Fr.of (dR n f)).d⟩,0):=by rw [detE_mk n1 fo,wr_yes hok]
 have o1:=ok_mk n1 n1 fo
 have hi1:inverseE (mkR n n f).fr=invE (mkR n n f):=by
  unfold inverseE
  rw [if_pos (okM_RM o1),fr_len,mkR_len,head_RM o1,if_pos rfl,rmQ_fr o1]
 by_cases hd:dR n f=0
 ·rw [hd] at hdet
  refine undoes_zero r c v n _ w ht he hv HS (zh (det_is (x:=⟨#[48]⟩) (y:=⟨#[49]⟩) (k:=0) (hdet.trans (by decide+kernel)))) (zh (inv_no (k:=7) (by rw [hi1];exact inv_none n1 fo hd) zd))
 ·obtain ⟨g,g1,g2,g3,g4,g5⟩:=inv_small n1 fs hd
  have gl:(mkR n n g).fr.length=n:=by rw [fr_len,mkR_len]
  have il:(mkR n n dl).fr.length=n:=by rw [fr_len,mkR_len]
  have hI:∀ {F:Nat→Nat→Rat},(∀ i,i<n→∀ j,j<n→F i j=dl i j)→mkR n n F=mkR n n dl:=fun h=>mkR_congr h
  obtain ⟨m1,m2⟩:=mulE_mk n1 n1 n1 fo g3 (fun i hi j hj=>by rw [g4 i hi j hj];exact dl_ok i j)
  obtain ⟨m3,m4⟩:=mulE_mk n1 n1 n1 g3 fo (fun i hi j hj=>by rw [g5 i hi j hj];exact dl_ok i j)
  rw [mkR_congr g4] at m2
  rw [mkR_congr g5] at m4
  obtain ⟨x,hx⟩:∃ x:Nat→Rat,x=fun i=>G (5*i+3):=⟨_,rfl⟩
  have xs:∀ i,Sm (x i):=fun i=>by rw [hx];exact hG.1 _
  have o2:=ok_mk n1 n1 g3
  have happ:∀ (F:Nat→Nat→Rat) (z:Nat→Rat),(∀ i,i<n→∀ j,j<n→okq (F i j)=true)→(∀ i,i<n→okq (z i)=true)→(∀ i,i<n→okq (smR n fun l=>F i l*z l)=true)→appE (mkR n n F).fr (((List.range n).map z).map Fr.of)=0∧appL (mkR n n F).fr (((List.range n).map z).map Fr.of)=((List.range n).map fun i=>smR n fun l=>F i l*z l).map Fr.of:=fun F z hF hz hs=>by
   have o:=ok_mk n1 n1 hF
   have hq:∀ q∈(List.range n).map z,okq q=true:=fun q hq=>by
    obtain ⟨i,hi,rfl⟩:=List.mem_map.1 hq
    exact hz i (List.mem_range.1 hi)
   have e1:(((List.range n).map z).map Fr.of).map qF=(List.range n).map z:=by
    rw [List.map_map]
    conv=>rhs;rw [← List.map_id ((List.range n).map z)]
    refine List.map_congr_left fun q h=>?_
    show qF (Fr.of q)=q
    unfold qF
    rw [rd_of (hq q h)]
    rfl
   have e2:appQ (mkR n n F).fr (((List.range n).map z).map Fr.of)=(List.range n).map fun i=>smR n fun l=>F i l*z l:=by
    unfold appQ
    rw [rmQ_fr o,e1]
    exact app_mk n1 F z
   unfold appE appL
   rw [e2,if_pos (okM_RM o),if_pos (chkL_of hq),head_RM o,if_pos zi,if_pos]
   ·exact ⟨rfl,rfl⟩
   ·rw [List.all_eq_true]
    intro q hq
    obtain ⟨i,hi,rfl⟩:=List.mem_map.1 hq
    exact hs i (List.mem_range.1 hi)
  obtain ⟨a1,a2⟩:=happ f x fo (fun i _=>(xs i).1) (fun i hi=>(dot_ht (a:=3) (b:=3) n1 (fun l _=>(fs i l).ht) (fun l _=>(xs l).ht)).ok zo)
  obtain ⟨b1,b2⟩:=happ g (fun i=>smR n fun l=>f i l*x l) g3 (fun i hi=>(dot_ht (a:=3) (b:=3) n1 (fun l _=>(fs i l).ht) (fun l _=>(xs l).ht)).ok zo) (fun i hi=>by
   have:=congrArg (fun l=>l.getD i 0) (back_eq n1 g5 x)
   simp only [List.getD_eq_getElem?_getD,List.getElem?_map,List.getElem?_range hi,Option.map_some,Option.getD_some] at this
   rw [this]
   exact (xs i).1)
  rw [back_eq n1 g5 x] at b2
  refine undoes_main r c v n _ _ _ (mkR n n dl).fr (mkR n n g).fr (((List.range n).map x).map Fr.of) (((List.range n).map fun i=>smR n fun l=>f i l*x l).map Fr.of) w ht he hv (itoa_zero hok hd) HS (zh (det_is hdet)) ?_ ?_ ?_ ?_ ?_ ?_ ?_
  ·exact zh fun v W h1 h2=>(inv_yes (R:=(mkR n n g).fr) (by rw [hi1];exact g1) (by unfold inverseM;rw [rmQ_fr o1,g2]) v W h1 h2).mono fun _ _ h=>h.n gl
  ·exact zh fun W=>(id_yes (R:=(mkR n n dl).fr) (idE_ok n1) (by rw [Int.toNat_natCast];exact one_mk n1) W).mono fun _ _ h=>h.n il
  ·exact zh fun a b W h1 h2 h3=>(mul_yes m1 m2 a b W h1 h2 h3).mono fun _ _ h=>h.n il
  ·exact zh fun a b W h1 h2 h3=>(mul_yes m3 m4 a b W h1 h2 h3).mono fun _ _ h=>h.n il
  ·exact zh fun W hW=>by rw [hx];exact list_G hG hv n zo W hW
  ·exact zh fun a b W h1 h2 h3=>(app_yes a1 a2 a b W h1 h2 h3).mono fun _ _ h=>h.n zi
  ·exact zh fun a b W h1 h2 h3=>(app_yes b1 b2 a b W h1 h2 h3).mono fun _ _ h=>h.n zi
end Go.Proofs.verdigrislaw05
namespace Go.Proofs.YtfhappbmgghgdaaGreatDoor
open Go Go.ChangeShapes Go.WideShapes Go.RowKit Go.Proofs Go.Proofs.verdigrisref01 Go.Proofs.verdigrisref05
theorem u16_wf {n:Int} (h:(Lit.int .u16 n).wf=true):0≤n∧n≤65535:=by
 simp [Lit.wf,IntKind.min,IntKind.max,IntKind.signed,IntKind.bits] at h
 omega
section
variable {H:Type} {enc:TypeId × Value→H} {P:Program} {w:World} {base:Nat} {spare:Nat→Bool} {held:Bool}
theorem trod_struct3 {t:TypeId} {f0 f1 f2:Field} {fuel:Nat} {cs:List Value} {x:DataW H × List MemPlace} (ht:P.underlying t=some (.struct #[f0,f1,f2])) (h:DataW.trod enc P w base spare held fuel t cs=some x) :
  ∃ y0 y1 y2 n,cs.length=P.cellsOf t∧DataW.trod enc P w base spare held n f0.type ((cs.drop f0.offset).take (P.cellsOf f0.type))=some y0 ∧
   DataW.trod enc P w base spare held n f1.type ((cs.drop f1.offset).take (P.cellsOf f1.type))=some y1∧DataW.trod enc P w base spare held n f2.type ((cs.drop f2.offset).take (P.cellsOf f2.type))=some y2:=by
 obtain ⟨xs,n,_,rfl,hl,hlen,hf⟩:=DataW.trod_struct ht h
 match xs,hlen with
 | [y0,y1,y2],_=>exact ⟨y0,y1,y2,n,hl,by simpa using hf 0 f0 rfl,by simpa using hf 1 f1 rfl,by simpa using hf 2 f2 rfl⟩
theorem cells_at {a:Addr} {n:Nat} {cs:List Value} (h:w.cells? base a n=some cs):cs.length=n∧∀ i,i<n→w.cell? (a.add i)=cs[i]? :=by
 unfold World.cells? at h
 split at h
 ·exact ⟨by simpa using mapM_some_length h,fun i hi=>mapM_some_get h i i (by simp [hi])⟩
 ·cases h
theorem cell_lt {a:Addr} {v:Value} (h:w.cell? a=some v):a.block<w.heap.size:=by
 unfold World.cell? at h
 rcases Nat.lt_or_ge a.block w.heap.size with h1|h1
 ·exact h1
 ·rw [Array.getElem?_eq_none h1] at h
  cases h
end
theorem trod_words {H:Type} {enc:TypeId × Value→H} {W:World} {base:Nat} {sp:Nat→Bool} {held:Bool} {fuel:Nat} {cs:List Value} {x:DataW H × List MemPlace} (h:DataW.trod enc Tryz.prog W base sp held fuel 182 cs=some x) :
  ∃ a n cap,cs=[.slice a n cap]∧Words W (.slice a n cap):=by
 have ue:Tryz.prog.underlying 183=some (.int .u16):=Tryz.underlying183
 have ce:Tryz.prog.cellsOf 183=1:=by kernel_rfl
 rcases DataW.trod_slice Tryz.underlying182 h with ⟨rfl, -⟩|⟨a,len,cap,elems,rest,n, -, rfl, -, -, h1,h2,h3,h4, -⟩
 ·exact ⟨none,0,0,rfl,none,0,0,fun _=>0,rfl,by omega,fun k hk=>by omega⟩
 ·unfold maxLen at h2
  have hc:∀ k,k<len→∃ u:Int,W.cell? (a.add k)=some (.int .u16 u)∧0≤u∧u≤65535:=fun k hk=>by
   have e:=h4 k hk
   rw [List.getElem?_eq_getElem zo,ce,Nat.mul_one,Option.bind_eq_some_iff] at e
   obtain ⟨cs',k1,k2⟩:=e
   obtain ⟨u,rfl, -, hw⟩:=DataW.trod_int ue k2
   obtain ⟨-, k3⟩:=cells_at k1
   have k4:=k3 0 zo
   rw [show (a.add k).add 0=a.add k by simp [Addr.add]] at k4
   exact ⟨u,k4,u16_wf hw⟩
  refine ⟨some a,len,cap,rfl,some a,len,cap,fun k=>if h:k<len then (hc k h).choose else 0,rfl,by omega,fun k hk=>?_⟩
  obtain ⟨u0,z0, -⟩:=hc 0 zo
  have hs:a.spot=none:=World.cell?_spot (by simpa [Addr.add] using z0)
  have hl:=cell_lt z0
  have hsp:=(hc k hk).choose_spec
  obtain ⟨b,off,sp⟩:=a
  simp only at hs
  subst hs
  have hl':b<W.heap.size:=by rw [Addr.add_lit] at hl;exact hl
  have hx:W.cell? ⟨b,off+k,none⟩=some (.int .u16 (hc k hk).choose):=by rw [← Addr.add_lit];exact hsp.1
  simp only [hk,dif_pos]
  exact ⟨b,off,rfl,hl',hx,hsp.2⟩
theorem trod_d1 {H:Type} {enc:TypeId × Value→H} {W:World} {base:Nat} {sp:Nat→Bool} {held:Bool} {fuel:Nat} {cs:List Value} {x:DataW H × List MemPlace} (h:DataW.trod enc Tryz.prog W base sp held fuel 185 cs=some x) :
  ∃ f a n cap z,cs=[.bool f,.slice a n cap,.int .u16 z]∧Words W (.slice a n cap):=by
 have u0:Tryz.prog.underlying 4=some .bool:=Tryz.underlying4
 have u2:Tryz.prog.underlying 183=some (.int .u16):=Tryz.underlying183
 have c0:Tryz.prog.cellsOf 4=1:=by kernel_rfl
 have c1:Tryz.prog.cellsOf 182=1:=by kernel_rfl
 have c2:Tryz.prog.cellsOf 183=1:=by kernel_rfl
 have ct:Tryz.prog.cellsOf 185=3:=by kernel_rfl
 obtain ⟨y0,y1,y2,m,hl,h0,h1,h2⟩:=trod_struct3 Tryz.underlying185 h
 rw [ct] at hl
 simp only [c0,c1,c2] at h0 h1 h2
 obtain ⟨x0,x1,x2,rfl⟩:∃ x0 x1 x2,cs=[x0,x1,x2]:=by
  match cs,hl with
  | [x0,x1,x2],_=>exact ⟨x0,x1,x2,rfl⟩
 obtain ⟨f,e0, -⟩:=DataW.trod_bool u0 h0
 obtain ⟨a,n,cap,e1,hw⟩:=trod_words h1
 obtain ⟨z,e2, -⟩:=DataW.trod_int u2 h2
 replace e0:[x0]=[Value.bool f]:=e0
 replace e1:[x1]=[Value.slice a n cap]:=e1
 replace e2:[x2]=[Value.int .u16 z]:=e2
 simp only [List.cons.injEq,and_true] at e0 e1 e2
 subst e0 e1 e2
 exact ⟨f,a,n,cap,z,rfl,hw⟩
theorem trod_d2 {H:Type} {enc:TypeId × Value→H} {W:World} {base:Nat} {sp:Nat→Bool} {held:Bool} {fuel:Nat} {cs:List Value} {x:DataW H × List MemPlace} (h:DataW.trod enc Tryz.prog W base sp held fuel 187 cs=some x) :
  ∃ f1 a1 n1 c1 z1 f2 a2 n2 c2 z2,cs=[.bool f1,.slice a1 n1 c1,.int .u16 z1,.bool f2,.slice a2 n2 c2,.int .u16 z2]∧Words W (.slice a1 n1 c1)∧Words W (.slice a2 n2 c2):=by
 have c0:Tryz.prog.cellsOf 185=3:=by kernel_rfl
 have ct:Tryz.prog.cellsOf 187=6:=by kernel_rfl
 obtain ⟨y0,y1,m, -, hl,h0,h1⟩:=trod_struct2 Tryz.underlying187 h
 rw [ct] at hl
 simp only [c0] at h0 h1
 obtain ⟨x0,x1,x2,x3,x4,x5,rfl⟩:∃ x0 x1 x2 x3 x4 x5,cs=[x0,x1,x2,x3,x4,x5]:=by
  match cs,hl with
  | [x0,x1,x2,x3,x4,x5],_=>exact ⟨x0,x1,x2,x3,x4,x5,rfl⟩
 obtain ⟨f1,a1,n1,c1,z1,e1,w1⟩:=trod_d1 h0
 obtain ⟨f2,a2,n2,c2,z2,e2,w2⟩:=trod_d1 h1
 replace e1:[x0,x1,x2]=[.bool f1,.slice a1 n1 c1,.int .u16 z1]:=e1
 replace e2:[x3,x4,x5]=[.bool f2,.slice a2 n2 c2,.int .u16 z2]:=e2
 simp only [List.cons.injEq,and_true] at e1 e2
 obtain ⟨rfl,rfl,rfl⟩:=e1
 obtain ⟨rfl,rfl,rfl⟩:=e2
 exact ⟨f1,a1,n1,c1,z1,f2,a2,n2,c2,z2,rfl,w1,w2⟩
theorem trod_ds {H:Type} {enc:TypeId × Value→H} {W:World} {base:Nat} {sp:Nat→Bool} {held:Bool} {fuel:Nat} {cs:List Value} {x:DataW H × List MemPlace} (h:DataW.trod enc Tryz.prog W base sp held fuel 24 cs=some x) :
  ∃ a n cap,cs=[.slice a n cap]∧Drafts W (.slice a n cap):=by
 have ce:Tryz.prog.cellsOf 187=6:=by kernel_rfl
 rcases DataW.trod_slice Tryz.underlying24 h with ⟨rfl, -⟩|⟨a,len,cap,elems,rest,n, -, rfl, -, -, h1,h2,h3,h4, -⟩
 ·exact ⟨none,0,0,rfl,none,0,0,rfl,by omega,fun k hk=>by omega⟩
 ·unfold maxLen at h2
  have hc:∀ k,k<len→∃ f1 a1 n1 c1 z1 f2 a2 n2 c2 z2,(∀ i,i<6→W.cell? ((a.add (k*6)).add i)=[Value.bool f1,.slice a1 n1 c1,.int .u16 z1,.bool f2,.slice a2 n2 c2,.int .u16 z2][i]?)∧Words W (.slice a1 n1 c1)∧Words W (.slice a2 n2 c2):=fun k hk=>by
   have e:=h4 k hk
   rw [List.getElem?_eq_getElem zo,ce,Option.bind_eq_some_iff] at e
   obtain ⟨cs',k1,k2⟩:=e
   obtain ⟨f1,a1,n1,c1,z1,f2,a2,n2,c2,z2,rfl,w1,w2⟩:=trod_d2 k2
   exact ⟨f1,a1,n1,c1,z1,f2,a2,n2,c2,z2,(cells_at k1).2,w1,w2⟩
  refine ⟨some a,len,cap,rfl,some a,len,cap,rfl,by omega,fun k hk=>?_⟩
  obtain ⟨_,_,_,_,_,_,_,_,_,_,z0, -⟩:=hc 0 zo
  have y0:=z0 0 zo
  have hs:a.spot=none:=World.cell?_spot (by simpa [Addr.add] using y0)
  have hl:=cell_lt y0
  obtain ⟨f1,a1,n1,c1,z1,f2,a2,n2,c2,z2,hx,w1,w2⟩:=hc k hk
  obtain ⟨b,off,sp⟩:=a
  simp only at hs
  subst hs
  simp only [Addr.add_lit] at hx hl
  exact ⟨b,off,f1,a1,n1,c1,z1,f2,a2,n2,c2,z2,rfl,hl,hx 0 zo,hx 1 zo,hx 2 zo,hx 3 zo,hx 4 zo,hx 5 zo,w1,w2⟩
theorem opn_draft {H:Type} {enc:TypeId × Value→H} {W:World} {b0 base:Nat} {sp:Nat→Bool} {held:Bool} {v:Value} {d:DataW H} {p:List MemPlace}
  (hval:Value.okWide Tryz.prog W .any b0 26 v) (h:DataW.Trod enc Tryz.prog W base sp held 26 v d p) :
  ∃ r c a n cap,v= .agg #[.int .u8 r,.int .u8 c,.slice a n cap]∧(0≤r∧r≤255)∧(0≤c∧c≤255)∧Drafts W (.slice a n cap):=by
 have u1:Tryz.prog.underlying 5=some (.int .u8):=Tryz.underlying5
 have ut:=Tryz.underlying26
 have c1:Tryz.prog.cellsOf 5=1:=by kernel_rfl
 have c2:Tryz.prog.cellsOf 24=1:=by kernel_rfl
 have ct:Tryz.prog.cellsOf 26=3:=by kernel_rfl
 obtain ⟨cs,rfl,hsz, -⟩:∃ cs,v= .agg cs∧cs.size=Tryz.prog.cellsOf 26∧Row.okWide Tryz.prog W .any b0 26 cs:=by
  simpa [Value.okWide,ut] using hval
 rw [ct] at hsz
 obtain ⟨l⟩:=cs
 obtain ⟨x0,x1,x2,rfl⟩:∃ x0 x1 x2,l=[x0,x1,x2]:=by
  match l,hsz with
  | [x0,x1,x2],_=>exact ⟨x0,x1,x2,rfl⟩
 obtain ⟨fuel,hf⟩:=h
 obtain ⟨y0,y1,y2,m, -, h0,h1,h2⟩:=trod_struct3 ut hf
 simp only [c1,c2] at h0 h1 h2
 obtain ⟨r,e0, -, w0⟩:=DataW.trod_int u1 h0
 obtain ⟨c,e1, -, w1⟩:=DataW.trod_int u1 h1
 obtain ⟨a,n,cap,e2,hd⟩:=trod_ds h2
 replace e0:[x0]=[Value.int .u8 r]:=e0
 replace e1:[x1]=[Value.int .u8 c]:=e1
 replace e2:[x2]=[Value.slice a n cap]:=e2
 simp only [List.cons.injEq,and_true] at e0 e1 e2
 subst e0 e1 e2
 exact ⟨r,c,a,n,cap,rfl,u8_wf w0,u8_wf w1,hd⟩
end Go.Proofs.YtfhappbmgghgdaaGreatDoor
