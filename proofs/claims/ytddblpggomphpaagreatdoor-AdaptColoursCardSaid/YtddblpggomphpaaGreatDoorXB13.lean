/- Lemmas for the proof. No condition. -/
import Derived.Test.YtddblpggomphpaaGreatDoorXB01
import Derived.Test.YtddblpggomphpaaGreatDoorXB02
import Derived.Test.YtddblpggomphpaaGreatDoorXB06
import Derived.Test.YtddblpggomphpaaGreatDoorXB09
import Derived.Test.YtddblpggomphpaaGreatDoorXB11
import Derived.Test.YtddblpggomphpaaGreatDoorXB12
import Derived.ChangeSame
import Derived.ChangeVars
import Derived.ChangeArms
import Derived.Carry
set_option linter.unusedVariables false
set_option linter.unusedSimpArgs false
set_option maxRecDepth 100000
set_option maxHeartbeats 16000000
namespace Go.Proofs.aI
open Go Go.RowKit Go.SW Go.Num Go.Mem Go.Proofs Go.Dec Go.dB Go.Proofs.aG Go.Proofs.aF
def rR (w:World) (v:Value):Prop:=∃ (a:Option Addr) (n cap:Nat),v= .slice a n cap∧n≤9223372036854775807∧∀ k,k<n→∃ b off f1 a1 n1 c1 z1 f2 a2 n2 c2 z2,a=some ⟨b,off,none⟩∧b<w.heap.size ∧
  w.cell? ⟨b,off+k*6,none⟩=some (.bool f1)∧w.cell? ⟨b,off+k*6+1,none⟩=some (.slice a1 n1 c1)∧w.cell? ⟨b,off+k*6+2,none⟩=some (.int .u16 z1) ∧
  w.cell? ⟨b,off+k*6+3,none⟩=some (.bool f2)∧w.cell? ⟨b,off+k*6+4,none⟩=some (.slice a2 n2 c2)∧w.cell? ⟨b,off+k*6+5,none⟩=some (.int .u16 z2)∧Words w (.slice a1 n1 c1)∧Words w (.slice a2 n2 c2)
theorem rR.later {w w':World} {v:Value} (h:rR w v) (hb:Below w.heap.size w w'):rR w' v:=by
 obtain ⟨a,n,cap,rfl,hn,h⟩:=h
 refine ⟨a,n,cap,rfl,hn,fun k hk=>?_⟩
 obtain ⟨b,off,f1,a1,n1,c1,z1,f2,a2,n2,c2,z2,rfl,h0,x0,x1,x2,x3,x4,x5,h1,h2⟩:=h k hk
 exact ⟨b,off,f1,a1,n1,c1,z1,f2,a2,n2,c2,z2,rfl,Nat.lt_of_lt_of_le h0 hb.size,(hb.cell (p:=⟨b,off+k*6,none⟩) h0).trans x0,(hb.cell (p:=⟨b,off+k*6+1,none⟩) h0).trans x1,(hb.cell (p:=⟨b,off+k*6+2,none⟩) h0).trans x2,
  (hb.cell (p:=⟨b,off+k*6+3,none⟩) h0).trans x3,(hb.cell (p:=⟨b,off+k*6+4,none⟩) h0).trans x4,(hb.cell (p:=⟨b,off+k*6+5,none⟩) h0).trans x5,h1.later hb,h2.later hb⟩
theorem LK (r c:Int) (v:Value) (k:Nat) (hk:k≤1000) (w0:World) (h:rR w0 v):∃ q:Rat,dA q=true∧∀ w,Below w0.heap.size w0 w →
  Calls Tryz.prog 108 #[.agg #[.int .u8 r,.int .u8 c,v],.int .i64 (k:Int)] w (fun e w'=>e= .returned (Fr.of q).v∧Below w.heap.size w w'):=by
 have W0:∀ z:Int,0≤z∧z≤1000000000→IntKind.i64.wrap z=z:=fun z h=>by unfold IntKind.wrap;simp [IntKind.bits,IntKind.signed];omega
 obtain ⟨a,n,cap,rfl,hn,hread⟩:=h
 rcases Nat.eq_zero_or_pos n with rfl|h0
 ·refine ⟨1,by decide+kernel,fun w hW=>?_⟩
  rw [show Fr.of 1=⟨⟨#[49]⟩,⟨#[49]⟩⟩ by decide+kernel]
  clear hread hW w0 W0
  go_enter Tryz.func108,Tryz.ntmps108
  go_wp2_with fail
  refine bP rfl rfl aL Tryz.underlying36 rfl zk ?_
  exact ⟨rfl,aA⟩
 ·obtain ⟨mm,hmm,m0,m1,m2⟩:∃ mm:Nat,min (n:Int) 16=(mm:Int)∧0<mm∧mm≤16∧mm≤n:=⟨min n 16,by omega,by omega,by omega,by omega⟩
  have hlt:=Nat.mod_lt k m0
  obtain ⟨j,Ej⟩:∃ j:Nat,k%mm=j:=⟨_,rfl⟩
  rw [Ej] at hlt
  obtain ⟨b,off,f1,a1,n1,c1,z1,f2,a2,n2,c2,z2,rfl,lb,x0,x1,x2,x3,x4,x5,y1,y2⟩:=hread j zo
  obtain ⟨q,hq,HS⟩:=Un f1 f2 _ _ z1 z2 w0 y1 y2
  refine ⟨q,hq,fun w hW=>?_⟩
  have H1:=zh (fun W (h:Below w.heap.size w W)=>HS W (Bt hW h))
  have e0:=(hW.cell (p:=⟨b,off+j*6,none⟩) lb).trans x0
  have e1:=(hW.cell (p:=⟨b,off+j*6+1,none⟩) lb).trans x1
  have e2:=(hW.cell (p:=⟨b,off+j*6+2,none⟩) lb).trans x2
  have e3:=(hW.cell (p:=⟨b,off+j*6+3,none⟩) lb).trans x3
  have e4:=(hW.cell (p:=⟨b,off+j*6+4,none⟩) lb).trans x4
  have e5:=(hW.cell (p:=⟨b,off+j*6+5,none⟩) lb).trans x5
  have lw:b<w.heap.size:=Nat.lt_of_lt_of_le lb hW.size
  have E:=zh (And.intro e0 (And.intro e1 (And.intro e2 (And.intro e3 (And.intro e4 e5)))))
  have LW:=zh lw
  have tm:(k:Int).tmod (mm:Int)=(j:Int):=by rw [Int.tmod_eq_emod_of_nonneg zo,← Ej];rfl
  have wj:=W0 (j:Int) zo
  have wmm:=W0 (mm:Int) zo
  have nz:((n:Int) == 0)=false:=by simp;omega
  have mz:(mm:Int)≠0:=by omega
  have mz1:¬ mm=0:=by omega
  have mz2:((mm:Int) == 0)=false:=by simp;omega
  have jn:j<n:=by omega
  clear hread HS W0 x0 x1 x2 x3 x4 x5 y1 y2 hq e0 e1 e2 e3 e4 e5 lw lb hW
  obtain ⟨⟨s1,s2⟩,EQ⟩:∃ y,Fr.of q=y:=⟨_,rfl⟩
  rw [EQ] at H1 ⊢
  unfold Fr.v at *
  clear EQ
  go_enter Tryz.func108,Tryz.ntmps108
  go_wp2_with fail
  obtain ⟨cO,EW,hz,X1,X2⟩:=zU w #[.int .u8 r,.int .u8 c,.slice (some ⟨b,off,none⟩) n cap] 53 #[.string ⟨#[]⟩,.string ⟨#[]⟩] 36
  rw [EW]
  have hk2:=Bt (Below.refl _ _) hz
  clear EW hz
  obtain ⟨dW,dU,fG⟩:=X1.dx
  have d0:=(hk2.cell (p:=⟨b,off+j*6,none⟩) LW.out).trans E.out.1
  have d1:=(hk2.cell (p:=⟨b,off+j*6+1,none⟩) LW.out).trans E.out.2.1
  have d2:=(hk2.cell (p:=⟨b,off+j*6+2,none⟩) LW.out).trans E.out.2.2.1
  have d3:=(hk2.cell (p:=⟨b,off+j*6+3,none⟩) LW.out).trans E.out.2.2.2.1
  have d4:=(hk2.cell (p:=⟨b,off+j*6+4,none⟩) LW.out).trans E.out.2.2.2.2.1
  have d5:=(hk2.cell (p:=⟨b,off+j*6+5,none⟩) LW.out).trans E.out.2.2.2.2.2
  have db:b<cO.heap.size:=Nat.lt_of_lt_of_le LW.out hk2.size
  refine aC [(.pure,0),(.read,1),(.pure,2),(.pure,3),(.read,4),(.pure,5),(.pure,6),(.pure,7),(.pure,8),(.read,9),(.ext,10),(.fin,11)] zk zk zR zP ?_
  repeat (first|(refine ah rfl rfl fun J h=>?_;go_simp;refine h _ ?_;clear h J)|(refine au rfl rfl rfl rfl fun J h=>?_;go_simp;refine h _ ?_;clear h J;try go_simp))
  refine aD rfl rfl (fun uO hb3 J hJ=>?_);go_simp
  have hh3:Below cO.heap.size cO uO:=aA
  clear hb3
  refine (H1.out _ (Bt hk2 hh3)).mono ?_
  rintro e rT ⟨rfl,hb4⟩
  refine hJ _ _ hb4 ?_
  clear hJ J
  have nG:=Bt hh3 hb4
  clear hh3 hb4
  repeat (first|(refine ah rfl rfl fun J h=>?_;go_simp;refine h _ ?_;clear h J)|(refine au rfl rfl rfl rfl fun J h=>?_;go_simp;refine h _ ?_;clear h J;try go_simp))
  refine aJ [_] rfl (fun JX Wo=>?_)
  have ig:Below cO.heap.size cO JX:=Bt nG aA
  clear Wo nG
  clear dW dU fG
  replace X1:=X1.bl ig
  replace X2:=X2.bl ig
  have Cx:=Bt hk2 ig
  clear hk2
  clear ig
  obtain ⟨dV,dS,gM⟩:=X2.dx
  have hres:=X2.out
  have gW:=hres.cell
  have gV:=hres.free
  go_wp2_with fail
  refine bP rfl rfl aL Tryz.underlying36 rfl zk ?_
  exact ⟨rfl,aA⟩
end Go.Proofs.aI
namespace Go.Proofs.YtddblpggomphpaaGreatDoor
open Go Go.ChangeShapes Go.WideShapes Go.RowKit Go.Proofs Go.Proofs.aF Go.Proofs.aI
def az4 (v:Value) (k:Int) (s t:ByteArray):Prop:=v= .agg #[.int .u8 k,.string s,.string t]∧(0≤k∧k≤255)
theorem RJ {H:Type} {enc:TypeId × Value→H} {W:World} {b0 base:Nat} {sp:Nat→Bool} {held:Bool} {v:Value} {d:DataW H} {p:List MemPlace}
  (hval:Value.okWide Tryz.prog W .any b0 28 v) (h:DataW.Trod enc Tryz.prog W base sp held 28 v d p) :
  ∃ k s t,az4 v k s t∧p=[]∧∀ (W':World) (base':Nat) (sp':Nat→Bool) (held':Bool),DataW.Trod enc Tryz.prog W' base' sp' held' 28 v d []:=by
 have u1:Tryz.prog.underlying 5=some (.int .u8):=Tryz.underlying5
 have us:Tryz.prog.underlying 9=some .string:=Tryz.underlying9
 have uo:=Tryz.underlying26
 have ut:=Tryz.underlying28
 have c1:Tryz.prog.cellsOf 5=1:=by kernel_rfl
 have c2:Tryz.prog.cellsOf 9=1:=by kernel_rfl
 have co:Tryz.prog.cellsOf 26=2:=by kernel_rfl
 have ct:Tryz.prog.cellsOf 28=3:=by kernel_rfl
 obtain ⟨cs,rfl,hsz, -⟩:∃ cs,v= .agg cs∧cs.size=Tryz.prog.cellsOf 28∧Row.okWide Tryz.prog W .any b0 28 cs:=by
  simpa [Value.okWide,ut] using hval
 rw [ct] at hsz
 obtain ⟨l⟩:=cs
 obtain ⟨x0,x1,x2,rfl⟩:∃ x0 x1 x2,l=[x0,x1,x2]:=by
  match l,hsz with
  | [x0,x1,x2],_=>exact ⟨x0,x1,x2,rfl⟩
 obtain ⟨fuel,hf⟩:=h
 obtain ⟨y0,y1,m,hx,hl,hy0,hy1⟩:=trod_struct2 ut hf
 simp only [c1,co] at hy0 hy1
 obtain ⟨y2,y3,m2,hx2,hl2,hy2,hy3⟩:=trod_struct2 uo hy1
 simp only [c2] at hy2 hy3
 obtain ⟨z0,e0,rfl,w0⟩:=DataW.trod_int u1 hy0
 obtain ⟨z1,e1,rfl,w1⟩:=DataW.trod_string us hy2
 obtain ⟨z2,e2,rfl,w2⟩:=DataW.trod_string us hy3
 replace e0:[x0]=[Value.int .u8 z0]:=e0
 replace e1:[x1]=[Value.string z1]:=e1
 replace e2:[x2]=[Value.string z2]:=e2
 simp only [List.cons.injEq,and_true] at e0 e1 e2
 subst e0 e1 e2
 subst hx2
 simp only [Prod.mk.injEq] at hx
 obtain ⟨rfl,rfl⟩:=hx
 refine ⟨z0,z1,z2,⟨rfl,MP w0⟩,by simp,fun W' base' sp' held'=>⟨3,?_⟩⟩
 have ho:=trod_struct2_mk (enc:=enc) (w:=W') (base:=base') (spare:=sp') (held:=held') (n:=1) (cs:=[.string z1,.string z2]) (y0:=(.lit (.string z1.data.toList),[])) (y1:=(.lit (.string z2.data.toList),[])) uo (by simp [co])
  (by simp [c2,DataW.trod,us,w1]) (by simp [c2,DataW.trod,us,w2])
 have:=trod_struct2_mk (enc:=enc) (w:=W') (base:=base') (spare:=sp') (held:=held') (n:=2) (cs:=[.int .u8 z0,.string z1,.string z2]) (y0:=(.lit (.int .u8 z0),[])) (y1:=(.agg [.lit (.string z1.data.toList),.lit (.string z2.data.toList)],[]++[])) ut (by simp [ct])
  (by simpa [c1] using trod_int_mk (enc:=enc) (w:=W') (base:=base') (spare:=sp') (held:=held') 1 u1 w0) (by simpa [co] using ho)
 simp at this
 exact this
theorem ag3 {H:Type} {enc:TypeId × Value→H} {P:Program} {w:World} {base:Nat} {sp:Nat→Bool} {held:Bool} {t t1 t2 t3 t4 t5:TypeId} {args:Array Value} {ds:List (DataW H)} {ps:List MemPlace} (h:DataW.TrodAll enc P w base sp held [t,t1,t2,t3,t4,t5] args.toList ds ps) :
  ∃ v v1 v2 v3 v4 v5 d d1 d2 d3 d4 d5 p p1 p2 p3 p4 p5,args=#[v,v1,v2,v3,v4,v5]∧ds=[d,d1,d2,d3,d4,d5]∧ps=p++p1++p2++p3++p4++p5∧DataW.Trod enc P w base sp held t v d p∧DataW.Trod enc P w base sp held t1 v1 d1 p1∧DataW.Trod enc P w base sp held t2 v2 d2 p2∧DataW.Trod enc P w base sp held t3 v3 d3 p3∧DataW.Trod enc P w base sp held t4 v4 d4 p4∧DataW.Trod enc P w base sp held t5 v5 d5 p5:=by
 obtain ⟨v,vs,d,ds1,p,q,hargs,rfl,rfl,hd,hrest⟩:=trodAll_cons h
 obtain ⟨v1,vs1,d1,ds2,p1,q1,rfl,rfl,rfl,hd1,ZP⟩:=trodAll_cons hrest
 obtain ⟨v2,vs2,d2,ds3,p2,q2,rfl,rfl,rfl,hd2,ZO⟩:=trodAll_cons ZP
 obtain ⟨v3,vs3,d3,ds4,p3,q3,rfl,rfl,rfl,hd3,hrest3⟩:=trodAll_cons ZO
 obtain ⟨v4,vs4,d4,ds5,p4,q4,rfl,rfl,rfl,hd4,ZM⟩:=trodAll_cons hrest3
 obtain ⟨v5,vs5,d5,ds6,p5,q5,rfl,rfl,rfl,hd5,ZK⟩:=trodAll_cons ZM
 obtain ⟨rfl,rfl,rfl⟩:=trodAll_nil ZK
 exact ⟨v,v1,v2,v3,v4,v5,d,d1,d2,d3,d4,d5,p,p1,p2,p3,p4,p5,by cases args;simp_all,rfl,by simp,hd,hd1,hd2,hd3,hd4,hd5⟩
section
variable {H:Type} {enc:TypeId × Value→H} {P:Program} {w:World} {base:Nat} {spare:Nat→Bool} {held:Bool}
theorem trod_struct3 {t:TypeId} {f0 f1 f2:Field} {fuel:Nat} {cs:List Value} {x:DataW H × List MemPlace} (ht:P.underlying t=some (.struct #[f0,f1,f2])) (h:DataW.trod enc P w base spare held fuel t cs=some x) :
  ∃ y0 y1 y2 n,cs.length=P.cellsOf t∧DataW.trod enc P w base spare held n f0.type ((cs.drop f0.offset).take (P.cellsOf f0.type))=some y0 ∧
   DataW.trod enc P w base spare held n f1.type ((cs.drop f1.offset).take (P.cellsOf f1.type))=some y1∧DataW.trod enc P w base spare held n f2.type ((cs.drop f2.offset).take (P.cellsOf f2.type))=some y2:=by
 obtain ⟨xs,n,_,rfl,hl,hlen,hf⟩:=DataW.trod_struct ht h
 match xs,hlen with
 | [y0,y1,y2],_=>exact ⟨y0,y1,y2,n,hl,by simpa using hf 0 f0 rfl,by simpa using hf 1 f1 rfl,by simpa using hf 2 f2 rfl⟩
theorem Js {a:Addr} {n:Nat} {cs:List Value} (h:w.cells? base a n=some cs):cs.length=n∧∀ i,i<n→w.cell? (a.add i)=cs[i]? :=by
 unfold World.cells? at h
 split at h
 ·exact ⟨by simpa using mapM_some_length h,fun i hi=>mapM_some_get h i i (by simp [hi])⟩
 ·cases h
theorem N8 {a:Addr} {v:Value} (h:w.cell? a=some v):a.block<w.heap.size:=by
 unfold World.cell? at h
 rcases Nat.lt_or_ge a.block w.heap.size with h1|h1
 ·exact h1
 ·rw [Array.getElem?_eq_none h1] at h
  cases h
end
theorem Ke {H:Type} {enc:TypeId × Value→H} {W:World} {base:Nat} {sp:Nat→Bool} {held:Bool} {fuel:Nat} {cs:List Value} {x:DataW H × List MemPlace} (h:DataW.trod enc Tryz.prog W base sp held fuel 207 cs=some x) :
  ∃ a n cap,cs=[.slice a n cap]∧Words W (.slice a n cap):=by
 have ue:Tryz.prog.underlying 22=some (.int .u16):=Tryz.underlying22
 have ce:Tryz.prog.cellsOf 22=1:=by kernel_rfl
 rcases DataW.trod_slice Tryz.underlying207 h with ⟨rfl, -⟩|⟨a,len,cap,elems,rest,n, -, rfl, -, -, h1,h2,h3,h4, -⟩
 ·exact ⟨none,0,0,rfl,none,0,0,fun _=>0,rfl,by omega,fun k hk=>by omega⟩
 ·unfold maxLen at h2
  have hc:∀ k,k<len→∃ u:Int,W.cell? (a.add k)=some (.int .u16 u)∧0≤u∧u≤65535:=fun k hk=>by
   have e:=h4 k hk
   rw [List.getElem?_eq_getElem zo,ce,Nat.mul_one,Option.bind_eq_some_iff] at e
   obtain ⟨cs',k1,k2⟩:=e
   obtain ⟨u,rfl, -, hw⟩:=DataW.trod_int ue k2
   obtain ⟨-, k3⟩:=Js k1
   have k4:=k3 0 zo
   rw [show (a.add k).add 0=a.add k by simp [Addr.add]] at k4
   exact ⟨u,k4,Fh hw⟩
  refine ⟨some a,len,cap,rfl,some a,len,cap,fun k=>if h:k<len then (hc k h).choose else 0,rfl,by omega,fun k hk=>?_⟩
  obtain ⟨u0,z0, -⟩:=hc 0 zo
  have hs:a.spot=none:=World.cell?_spot (by simpa [Addr.add] using z0)
  have hl:=N8 z0
  have hsp:=(hc k hk).choose_spec
  obtain ⟨b,off,sp⟩:=a
  simp only at hs
  subst hs
  have hl':b<W.heap.size:=by rw [Addr.add_lit] at hl;exact hl
  have hx:W.cell? ⟨b,off+k,none⟩=some (.int .u16 (hc k hk).choose):=by rw [← Addr.add_lit];exact hsp.1
  simp only [hk,dif_pos]
  exact ⟨b,off,rfl,hl',hx,hsp.2⟩
theorem MU {H:Type} {enc:TypeId × Value→H} {W:World} {base:Nat} {sp:Nat→Bool} {held:Bool} {fuel:Nat} {cs:List Value} {x:DataW H × List MemPlace} (h:DataW.trod enc Tryz.prog W base sp held fuel 209 cs=some x) :
  ∃ f a n cap z,cs=[.bool f,.slice a n cap,.int .u16 z]∧Words W (.slice a n cap):=by
 have u0:Tryz.prog.underlying 4=some .bool:=Tryz.underlying4
 have u2:Tryz.prog.underlying 22=some (.int .u16):=Tryz.underlying22
 have c0:Tryz.prog.cellsOf 4=1:=by kernel_rfl
 have c1:Tryz.prog.cellsOf 207=1:=by kernel_rfl
 have c2:Tryz.prog.cellsOf 22=1:=by kernel_rfl
 have ct:Tryz.prog.cellsOf 209=3:=by kernel_rfl
 obtain ⟨y0,y1,y2,m,hl,h0,h1,h2⟩:=trod_struct3 Tryz.underlying209 h
 rw [ct] at hl
 simp only [c0,c1,c2] at h0 h1 h2
 obtain ⟨x0,x1,x2,rfl⟩:∃ x0 x1 x2,cs=[x0,x1,x2]:=by
  match cs,hl with
  | [x0,x1,x2],_=>exact ⟨x0,x1,x2,rfl⟩
 obtain ⟨f,e0, -⟩:=DataW.trod_bool u0 h0
 obtain ⟨a,n,cap,e1,hw⟩:=Ke h1
 obtain ⟨z,e2, -⟩:=DataW.trod_int u2 h2
 replace e0:[x0]=[Value.bool f]:=e0
 replace e1:[x1]=[Value.slice a n cap]:=e1
 replace e2:[x2]=[Value.int .u16 z]:=e2
 simp only [List.cons.injEq,and_true] at e0 e1 e2
 subst e0 e1 e2
 exact ⟨f,a,n,cap,z,rfl,hw⟩
theorem Vn {H:Type} {enc:TypeId × Value→H} {W:World} {base:Nat} {sp:Nat→Bool} {held:Bool} {fuel:Nat} {cs:List Value} {x:DataW H × List MemPlace} (h:DataW.trod enc Tryz.prog W base sp held fuel 211 cs=some x) :
  ∃ f1 a1 n1 c1 z1 f2 a2 n2 c2 z2,cs=[.bool f1,.slice a1 n1 c1,.int .u16 z1,.bool f2,.slice a2 n2 c2,.int .u16 z2]∧Words W (.slice a1 n1 c1)∧Words W (.slice a2 n2 c2):=by
 have c0:Tryz.prog.cellsOf 209=3:=by kernel_rfl
 have ct:Tryz.prog.cellsOf 211=6:=by kernel_rfl
 obtain ⟨y0,y1,m, -, hl,h0,h1⟩:=trod_struct2 Tryz.underlying211 h
 rw [ct] at hl
 simp only [c0] at h0 h1
 obtain ⟨x0,x1,x2,x3,x4,x5,rfl⟩:∃ x0 x1 x2 x3 x4 x5,cs=[x0,x1,x2,x3,x4,x5]:=by
  match cs,hl with
  | [x0,x1,x2,x3,x4,x5],_=>exact ⟨x0,x1,x2,x3,x4,x5,rfl⟩
 obtain ⟨f1,a1,n1,c1,z1,e1,w1⟩:=MU h0
 obtain ⟨f2,a2,n2,c2,z2,e2,w2⟩:=MU h1
 replace e1:[x0,x1,x2]=[.bool f1,.slice a1 n1 c1,.int .u16 z1]:=e1
 replace e2:[x3,x4,x5]=[.bool f2,.slice a2 n2 c2,.int .u16 z2]:=e2
 simp only [List.cons.injEq,and_true] at e1 e2
 obtain ⟨rfl,rfl,rfl⟩:=e1
 obtain ⟨rfl,rfl,rfl⟩:=e2
 exact ⟨f1,a1,n1,c1,z1,f2,a2,n2,c2,z2,rfl,w1,w2⟩
theorem Vm {H:Type} {enc:TypeId × Value→H} {W:World} {base:Nat} {sp:Nat→Bool} {held:Bool} {fuel:Nat} {cs:List Value} {x:DataW H × List MemPlace} (h:DataW.trod enc Tryz.prog W base sp held fuel 51 cs=some x) :
  ∃ a n cap,cs=[.slice a n cap]∧rR W (.slice a n cap):=by
 have ce:Tryz.prog.cellsOf 211=6:=by kernel_rfl
 rcases DataW.trod_slice Tryz.underlying51 h with ⟨rfl, -⟩|⟨a,len,cap,elems,rest,n, -, rfl, -, -, h1,h2,h3,h4, -⟩
 ·exact ⟨none,0,0,rfl,none,0,0,rfl,by omega,fun k hk=>by omega⟩
 ·unfold maxLen at h2
  have hc:∀ k,k<len→∃ f1 a1 n1 c1 z1 f2 a2 n2 c2 z2,(∀ i,i<6→W.cell? ((a.add (k*6)).add i)=[Value.bool f1,.slice a1 n1 c1,.int .u16 z1,.bool f2,.slice a2 n2 c2,.int .u16 z2][i]?)∧Words W (.slice a1 n1 c1)∧Words W (.slice a2 n2 c2):=fun k hk=>by
   have e:=h4 k hk
   rw [List.getElem?_eq_getElem zo,ce,Option.bind_eq_some_iff] at e
   obtain ⟨cs',k1,k2⟩:=e
   obtain ⟨f1,a1,n1,c1,z1,f2,a2,n2,c2,z2,rfl,w1,w2⟩:=Vn k2
   exact ⟨f1,a1,n1,c1,z1,f2,a2,n2,c2,z2,(Js k1).2,w1,w2⟩
  refine ⟨some a,len,cap,rfl,some a,len,cap,rfl,by omega,fun k hk=>?_⟩
  obtain ⟨_,_,_,_,_,_,_,_,_,_,z0, -⟩:=hc 0 zo
  have y0:=z0 0 zo
  have hs:a.spot=none:=World.cell?_spot (by simpa [Addr.add] using y0)
  have hl:=N8 y0
  obtain ⟨f1,a1,n1,c1,z1,f2,a2,n2,c2,z2,hx,w1,w2⟩:=hc k hk
  obtain ⟨b,off,sp⟩:=a
  simp only at hs
  subst hs
  simp only [Addr.add_lit] at hx hl
  exact ⟨b,off,f1,a1,n1,c1,z1,f2,a2,n2,c2,z2,rfl,hl,hx 0 zo,hx 1 zo,hx 2 zo,hx 3 zo,hx 4 zo,hx 5 zo,w1,w2⟩
theorem Pm {H:Type} {enc:TypeId × Value→H} {W:World} {b0 base:Nat} {sp:Nat→Bool} {held:Bool} {v:Value} {d:DataW H} {p:List MemPlace}
  (hval:Value.okWide Tryz.prog W .any b0 53 v) (h:DataW.Trod enc Tryz.prog W base sp held 53 v d p) :
  ∃ r c a n cap,v= .agg #[.int .u8 r,.int .u8 c,.slice a n cap]∧(0≤r∧r≤255)∧(0≤c∧c≤255)∧rR W (.slice a n cap):=by
 have u1:Tryz.prog.underlying 5=some (.int .u8):=Tryz.underlying5
 have ut:=Tryz.underlying53
 have c1:Tryz.prog.cellsOf 5=1:=by kernel_rfl
 have c2:Tryz.prog.cellsOf 51=1:=by kernel_rfl
 have ct:Tryz.prog.cellsOf 53=3:=by kernel_rfl
 obtain ⟨cs,rfl,hsz, -⟩:∃ cs,v= .agg cs∧cs.size=Tryz.prog.cellsOf 53∧Row.okWide Tryz.prog W .any b0 53 cs:=by
  simpa [Value.okWide,ut] using hval
 rw [ct] at hsz
 obtain ⟨l⟩:=cs
 obtain ⟨x0,x1,x2,rfl⟩:∃ x0 x1 x2,l=[x0,x1,x2]:=by
  match l,hsz with
  | [x0,x1,x2],_=>exact ⟨x0,x1,x2,rfl⟩
 obtain ⟨fuel,hf⟩:=h
 obtain ⟨y0,y1,y2,m, -, h0,h1,h2⟩:=trod_struct3 ut hf
 simp only [c1,c2] at h0 h1 h2
 obtain ⟨r,e0, -, w0⟩:=DataW.trod_int u1 h0
 obtain ⟨c,e1, -, w1⟩:=DataW.trod_int u1 h1
 obtain ⟨a,n,cap,e2,hd⟩:=Vm h2
 replace e0:[x0]=[Value.int .u8 r]:=e0
 replace e1:[x1]=[Value.int .u8 c]:=e1
 replace e2:[x2]=[Value.slice a n cap]:=e2
 simp only [List.cons.injEq,and_true] at e0 e1 e2
 subst e0 e1 e2
 exact ⟨r,c,a,n,cap,rfl,MP w0,MP w1,hd⟩
end Go.Proofs.YtddblpggomphpaaGreatDoor
namespace Go.Proofs.aI
open Go Go.RowKit Go.SW Go.Num Go.Mem Go.Proofs Go.Dec Go.dB Go.Proofs.aG
def K6 (l:List Fr):Bool:=l.all fun a=>(rd a).isSome
theorem FN (l:List Fr):K6 l=(dP l == 0):=by
 unfold K6 dP
 split<;>rename_i h
 ·rw [h];rfl
 ·rw [Bool.not_eq_true] at h;rw [h];rfl
theorem GH (v:Value) (l:List Fr) (T:TypeId) (w:World) (h:jI w T v l) (hf:∀ x∈l,Fits x) :
  Calls Tryz.prog 105 #[v] w (fun e w'=>e= .returned (.bool (K6 l))∧Below w.heap.size w w'):=by
 obtain ⟨a,cap,rfl,hc1,hc2,hread⟩:=h.read
 have H:=zh hread
 have HF:=zh hf
 clear h hread hf
 go_enter Tryz.func105,Tryz.ntmps105
 go_wp2_with fail
 go_loopw [3] (fun iv wr=>∃ k:Nat,iv= .int .i64 (k:Int)∧k≤l.length∧Hid (∀ j (h:j<l.length),j<k→(rd l[j]).isSome=true)∧Below w.heap.size w wr) (fun iv _=>l.length - (intOf iv).toNat)
 case atStart=>exact ⟨0,rfl,by omega,zh (fun j _ h=>by omega),Below.refl _ _⟩
 case round =>
  obtain ⟨k,rfl,hk,HK,hb⟩:=hrel
  rcases Nat.lt_or_ge k l.length with hlt|hge
  ·obtain ⟨b,off,rfl,hbl,hx1,hx2⟩:=H.out k hlt
   have hc1:=(hb.cell (p:=⟨b,off+k*2,none⟩) hbl).trans hx1
   have hc2:=(hb.cell (p:=⟨b,off+k*2+1,none⟩) hbl).trans hx2
   clear hx1 hx2
   have HRT:=zh (fun W b (h:(rd l[k]).isSome=b)=>iD h (HF.out _ (List.getElem_mem hlt)) W)
   generalize hlk:l[k]=lk at *
   have HLK:=zh hlk
   obtain ⟨s,t⟩:=lk
   cases hv:(rd ⟨s,t⟩).isSome with
   | true =>
    have rV:Hid (∀ w,Calls Tryz.prog 149 #[.agg #[.string s,.string t]] w (fun e w'=>e= .returned (.bool true)∧Below w.heap.size w w')):=zh (fun W=>HRT.out W _ hv)
    have HV:=zh hv
    clear hlk hv
    go_wp2_with fail
    refine (rV.out _).mono ?_
    rintro e v1 ⟨rfl,hc1⟩
    go_wp2_with fail
    go_roundw
    case rel =>
     refine ⟨k+1,by go_num,by omega,zh fun j hj hjk=>?_,Bt hb aA⟩
     rcases Nat.lt_or_ge j k with h|h
     ·exact HK.out j hj h
     ·obtain rfl:j=k:=by omega
      rw [HLK.out]
      exact HV.out
    case measure=>exact zM
   | false =>
    have rV:Hid (∀ w,Calls Tryz.prog 149 #[.agg #[.string s,.string t]] w (fun e w'=>e= .returned (.bool false)∧Below w.heap.size w w')):=zh (fun W=>HRT.out W _ hv)
    have hno:K6 l=false:=by
     rw [Bool.eq_false_iff]
     intro h
     have:=List.all_eq_true.1 h l[k] (List.getElem_mem _)
     rw [hlk,hv] at this
     cases this
    have QO:=zh hno
    clear hlk hv hno
    go_wp2_with fail
    refine (rV.out _).mono ?_
    rintro e v1 ⟨rfl,hc1⟩
    go_wp2_with fail
    go_ret
    exact ⟨by rw [QO.out];rfl,Bt hb aA⟩
  ·have hyes:K6 l=true:=by
    unfold K6
    rw [List.all_eq_true]
    intro x hx
    obtain ⟨j,hj,rfl⟩:=List.getElem_of_mem hx
    exact HK.out j hj zo
   have Dr:=zh hyes
   clear hyes
   obtain rfl:k=l.length:=by omega
   go_wp2_with fail
   go_ret
   exact ⟨by rw [Dr.out];rfl,hb⟩
theorem bO.read {w:World} {v:Value} {m:List (List Fr)} (h:bO w v m):∃ a cap,v= .slice a m.length cap∧m.length≤cap∧cap≤9223372036854775807 ∧
  ∀ k (_:k<m.length),∃ b off a' c',a=some ⟨b,off,none⟩∧b<w.heap.size∧w.cell? ⟨b,off+k,none⟩=some (.slice a' m[k].length c')∧jI w 36 (.slice a' m[k].length c') m[k]:=by
 obtain ⟨rs,hR,hl,hF⟩:=h
 have hR2:=hR
 obtain ⟨a,cap,rfl,h1,h2,h3,h4⟩:=hR2
 refine ⟨a,cap,by rw [hl],by omega,h2,fun k hk=>?_⟩
 have hk':k<rs.length:=by omega
 rcases hR.cases with ⟨-, e⟩|⟨b,off,cap',arr,e, -, -, hx,hc⟩
 ·rw [e] at hk';cases hk'
 ·simp only [Value.slice.injEq] at e
  have hf:=hF k hk' hk
  obtain ⟨a',c',e', -⟩:=hf.read
  rw [e'] at hf
  exact ⟨b,off,a',c',e.1,hx.lt,by rw [hx.cell,hc k hk',e'],hf⟩
def ao4 (n0:Nat) (r:List Fr):Bool:=r.length == n0&&dP r == 0
theorem Zi {m:List (List Fr)} (h1:1≤m.length) (h4:m.length≤4):FL m=(decide (1≤(m.headD []).length)&&decide ((m.headD []).length≤4)&&m.all (ao4 (m.headD []).length)):=by
 unfold FL
 rw [decide_eq_true h1,decide_eq_true h4]
 rfl
theorem Nr {m:List (List Fr)} (h:0<m.length):(m.headD [])=m[0]:=by
 cases m with
 | nil=>cases h
 | cons r t=>rfl
theorem Zh {m:List (List Fr)} {k:Nat} (hk:k<m.length) (h:m[k].length<1∨4<m[k].length∨m[k].length≠(m.headD []).length∨K6 m[k]=false):FL m=false:=by
 rw [Bool.eq_false_iff]
 intro e
 unfold FL at e
 simp only [Bool.and_eq_true,decide_eq_true_eq] at e
 obtain ⟨⟨⟨⟨e1,e2⟩,e3⟩,e4⟩,e5⟩:=e
 have:=List.all_eq_true.1 e5 m[k] (List.getElem_mem _)
 simp only [Bool.and_eq_true,beq_iff_eq] at this
 rw [FN,beq_eq_false_iff_ne] at h
 omega
theorem VG {m:List (List Fr)} (h1:1≤m.length) (h4:m.length≤4) (h:∀ k (hk:k<m.length),1≤m[k].length∧m[k].length≤4∧m[k].length=(m.headD []).length∧K6 m[k]=true):FL m=true:=by
 rw [Zi h1 h4]
 have h0:=h 0 zo
 rw [← Nr (m:=m) zo] at h0
 rw [decide_eq_true h0.1,decide_eq_true h0.2.1,Bool.true_and,Bool.true_and,List.all_eq_true]
 intro r hr
 obtain ⟨j,hj,rfl⟩:=List.getElem_of_mem hr
 obtain ⟨-, -, k3,k4⟩:=h j hj
 rw [FN] at k4
 unfold ao4
 rw [k4,beq_iff_eq.2 k3]
 rfl
def pQ (m:List (List Fr)):Prop:=∀ r∈m,∀ x∈r,Fits x
theorem oK (v:Value) (m:List (List Fr)) (w:World) (h:bO w v m) (hf:pQ m) :
  Calls Tryz.prog 98 #[v] w (fun e w'=>e= .returned (.bool (FL m))∧Below w.heap.size w w'):=by
 obtain ⟨a,cap,rfl,hc1,hc2,hread⟩:=bO.read h
 by_cases hl:m.length<1∨4<m.length
 ·have e:FL m=false:=by
   unfold FL
   rcases hl with hl|hl
   ·rw [decide_eq_false (by omega:¬ 1≤m.length)];rfl
   ·rw [decide_eq_false (by omega:¬ m.length≤4),Bool.and_false];rfl
  rw [e]
  clear hread h hf e
  generalize m.length=n at *
  rcases hl with hl|hl
  ·have q1:decide ((n:Int)<1)=true:=by simp;omega
   clear hl
   go_enter Tryz.func98,Tryz.ntmps98
   go_wp2_with fail
   go_ret
   exact ⟨rfl,aA⟩
  ·have q1:decide ((n:Int)<1)=false:=by simp;omega
   have q2:decide ((4:Int)<(n:Int))=true:=by simp;omega
   clear hl
   go_enter Tryz.func98,Tryz.ntmps98
   go_wp2_with fail
   go_ret
   exact ⟨rfl,aA⟩
 have h1:1≤m.length:=by omega
 have h4:m.length≤4:=by omega
 obtain ⟨b,off,a0,c0,rfl,lb,cell0, -⟩:=hread 0 zo
 have ME:Hid (∀ k (_:k<m.length),∃ a' c',w.cell? ⟨b,off+k,none⟩=some (.slice a' m[k].length c')∧jI w 36 (.slice a' m[k].length c') m[k]):=zh fun k hk=>by
  obtain ⟨b',off',a',c',e, -, k1,k2⟩:=hread k hk
  simp only [Option.some.injEq,Addr.mk.injEq,and_true] at e
  obtain ⟨rfl,rfl⟩:=e
  exact ⟨a',c',k1,k2⟩
 have QO:=zh (fun k hk h=>Zh (m:=m) (k:=k) hk h)
 have Dr:=zh (fun h=>VG h1 h4 h)
 have HF:=zh hf
 have h0m:0<m.length:=by omega
 have q1:decide ((m.length:Int)<1)=false:=by simp;omega
 have q2:decide ((4:Int)<(m.length:Int))=false:=by simp;omega
 clear h hf hread
 rw [← Nr (m:=m) zo] at cell0
 obtain ⟨n0,hn0⟩:∃ n0,(m.headD []).length=n0:=⟨_,rfl⟩
 rw [hn0] at cell0 QO Dr
 generalize FL m=z at *
 clear hn0 hl
 go_enter Tryz.func98,Tryz.ntmps98
 go_wp2_with fail
 go_loopw [3] (fun iv wr=>∃ k:Nat,iv= .int .i64 (k:Int)∧k≤m.length∧Hid (∀ j (h:j<m.length),j<k→1≤m[j].length∧m[j].length≤4∧m[j].length=n0∧K6 m[j]=true)∧Below w.heap.size w wr) (fun iv _=>m.length - (intOf iv).toNat)
 case atStart=>exact ⟨0,rfl,by omega,zh (fun j _ h=>by omega),Below.refl _ _⟩
 case round =>
  obtain ⟨k,rfl,hk,HK,hb⟩:=hrel
  rcases Nat.lt_or_ge k m.length with hlt|hge
  ·obtain ⟨a',c',hx1,hx2⟩:=ME.out k hlt
   have ck:=(hb.cell (p:=⟨b,off+k,none⟩) lb).trans hx1
   have c0:=(hb.cell (p:=⟨b,off,none⟩) lb).trans cell0
   have lb':b<wr.heap.size:=Nat.lt_of_lt_of_le lb hb.size
   have NO:=zh (QO.out k hlt)
   have LI:=zh (fun W (hW:Below wr.heap.size wr W)=>GH _ m[k] 36 W ((hx2.later hb).later hW) (HF.out _ (List.getElem_mem hlt)))
   clear hx1 hx2 cell0
   generalize hn:m[k].length=n at *
   have HN:=zh hn
   clear hn
   rcases Nat.lt_or_ge n 1 with h1|h1
   ·have g1:decide ((n:Int)<1)=true:=by simp;omega
    have HZ:=zh (NO.out (.inl h1))
    clear h1
    go_wp2_with fail
    refine aC ((.pure,0)::(.pure,1)::(.pure,2)::(.read,3)::(.pure,4)::(.pure,5)::(.pure,6)::(.pure,7)::(.pure,8)::(.pure,9)::(.read,10)::(.pure,11)::(.pure,12)::(.pure,13)::(.pure,14)::(.pure,15)::(.pure,16)::(.pure,17)::(.read,18)::(.pure,19)::(.pure,20)::(.pure,21)::(.read,22)::(.pure,23)::(.pure,24)::(.pure,25)::(.pure,26)::(.pure,27)::(.pure,28)::(.pure,29)::(.read,30)::(.ext,31)::(.pure,32)::(.pure,33)::[]) zk zk zR zP ?_;refine Wk.out ?_;(iterate 34 (first|(apply jE;(rfl);(rfl);(rfl);(intro J hJ;go_simp;(with_reducible refine hJ _ ?_);clear hJ J))|(apply lg;(rfl);(rfl);(rfl);(rfl);(exact zk);(intro J hJ;go_simp;(with_reducible refine hJ _ ?_);clear hJ J))|(apply ji;(rfl);(rfl);(intro J hJ;go_simp;(with_reducible refine hJ _ ?_);clear hJ J))|(apply jF;(rfl);(rfl);(rfl);(rfl);(intro J hJ;go_simp;(with_reducible refine hJ _ ?_);clear hJ J;try go_simp))));refine Aj fun wf hf=>?_
    go_wp2_with fail
    go_ret
    exact ⟨by rw [HZ.out];rfl,Bt hb aA⟩
   have g1:decide ((n:Int)<1)=false:=by simp;omega
   rcases Nat.lt_or_ge 4 n with h4|h4
   ·have g2:decide ((4:Int)<(n:Int))=true:=by simp;omega
    have HZ:=zh (NO.out (.inr (.inl h4)))
    clear h1 h4
    go_wp2_with fail
    refine aC ((.pure,0)::(.pure,1)::(.pure,2)::(.read,3)::(.pure,4)::(.pure,5)::(.pure,6)::(.pure,7)::(.pure,8)::(.pure,9)::(.read,10)::(.pure,11)::(.pure,12)::(.pure,13)::(.pure,14)::(.pure,15)::(.pure,16)::(.pure,17)::(.read,18)::(.pure,19)::(.pure,20)::(.pure,21)::(.read,22)::(.pure,23)::(.pure,24)::(.pure,25)::(.pure,26)::(.pure,27)::(.pure,28)::(.pure,29)::(.read,30)::(.ext,31)::(.pure,32)::(.pure,33)::[]) zk zk zR zP ?_;refine Wk.out ?_;(iterate 34 (first|(apply jE;(rfl);(rfl);(rfl);(intro J hJ;go_simp;(with_reducible refine hJ _ ?_);clear hJ J))|(apply lg;(rfl);(rfl);(rfl);(rfl);(exact zk);(intro J hJ;go_simp;(with_reducible refine hJ _ ?_);clear hJ J))|(apply ji;(rfl);(rfl);(intro J hJ;go_simp;(with_reducible refine hJ _ ?_);clear hJ J))|(apply jF;(rfl);(rfl);(rfl);(rfl);(intro J hJ;go_simp;(with_reducible refine hJ _ ?_);clear hJ J;try go_simp))));refine Aj fun wf hf=>?_
    go_wp2_with fail
    go_ret
    exact ⟨by rw [HZ.out];rfl,Bt hb aA⟩
   have g2:decide ((4:Int)<(n:Int))=false:=by simp;omega
   by_cases he:n=n0
   rotate_left
   ·have g3:((n:Int) != (n0:Int))=true:=by rw [bne_iff_ne];omega
    have HZ:=zh (NO.out (.inr (.inr (.inl he))))
    clear h1 h4 he
    go_wp2_with fail
    refine aC ((.pure,0)::(.pure,1)::(.pure,2)::(.read,3)::(.pure,4)::(.pure,5)::(.pure,6)::(.pure,7)::(.pure,8)::(.pure,9)::(.read,10)::(.pure,11)::(.pure,12)::(.pure,13)::(.pure,14)::(.pure,15)::(.pure,16)::(.pure,17)::(.read,18)::(.pure,19)::(.pure,20)::(.pure,21)::(.read,22)::(.pure,23)::(.pure,24)::(.pure,25)::(.pure,26)::(.pure,27)::(.pure,28)::(.pure,29)::(.read,30)::(.ext,31)::(.pure,32)::(.pure,33)::[]) zk zk zR zP ?_;refine Wk.out ?_;(iterate 34 (first|(apply jE;(rfl);(rfl);(rfl);(intro J hJ;go_simp;(with_reducible refine hJ _ ?_);clear hJ J))|(apply lg;(rfl);(rfl);(rfl);(rfl);(exact zk);(intro J hJ;go_simp;(with_reducible refine hJ _ ?_);clear hJ J))|(apply ji;(rfl);(rfl);(intro J hJ;go_simp;(with_reducible refine hJ _ ?_);clear hJ J))|(apply jF;(rfl);(rfl);(rfl);(rfl);(intro J hJ;go_simp;(with_reducible refine hJ _ ?_);clear hJ J;try go_simp))));refine Aj fun wf hf=>?_
    go_wp2_with fail
    go_ret
    exact ⟨by rw [HZ.out];rfl,Bt hb aA⟩
   have g3:((n:Int) != (n0:Int))=false:=by rw [bne_eq_false_iff_eq];omega
   have HE:=zh he
   have H1:=zh h1
   have H4:=zh h4
   clear h1 h4 he
   cases hv:K6 m[k] with
   | false =>
    rw [hv] at LI
    have HZ:=zh (NO.out (.inr (.inr (.inr hv))))
    clear hv
    go_wp2_with fail
    refine aC ((.pure,0)::(.pure,1)::(.pure,2)::(.read,3)::(.pure,4)::(.pure,5)::(.pure,6)::(.pure,7)::(.pure,8)::(.pure,9)::(.read,10)::(.pure,11)::(.pure,12)::(.pure,13)::(.pure,14)::(.pure,15)::(.pure,16)::(.pure,17)::(.read,18)::(.pure,19)::(.pure,20)::(.pure,21)::(.read,22)::(.pure,23)::(.pure,24)::(.pure,25)::(.pure,26)::(.pure,27)::(.pure,28)::(.pure,29)::(.read,30)::(.ext,31)::(.pure,32)::(.pure,33)::[]) zk zk zR zP ?_;refine Wk.out ?_;(iterate 31 (first|(apply jE;(rfl);(rfl);(rfl);(intro J hJ;go_simp;(with_reducible refine hJ _ ?_);clear hJ J))|(apply lg;(rfl);(rfl);(rfl);(rfl);(exact zk);(intro J hJ;go_simp;(with_reducible refine hJ _ ?_);clear hJ J))|(apply ji;(rfl);(rfl);(intro J hJ;go_simp;(with_reducible refine hJ _ ?_);clear hJ J))|(apply jF;(rfl);(rfl);(rfl);(rfl);(intro J hJ;go_simp;(with_reducible refine hJ _ ?_);clear hJ J;try go_simp))))
    refine jY rfl rfl (fun wa hba J hJ=>?_);go_simp
    refine (LI.out _ aA).mono ?_
    rintro e wb ⟨rfl,hbb⟩
    refine hJ _ _ hbb ?_
    clear hJ J
    (iterate 2 (first|(apply jE;(rfl);(rfl);(rfl);(intro J hJ;go_simp;(with_reducible refine hJ _ ?_);clear hJ J))|(apply lg;(rfl);(rfl);(rfl);(rfl);(exact zk);(intro J hJ;go_simp;(with_reducible refine hJ _ ?_);clear hJ J))|(apply ji;(rfl);(rfl);(intro J hJ;go_simp;(with_reducible refine hJ _ ?_);clear hJ J))|(apply jF;(rfl);(rfl);(rfl);(rfl);(intro J hJ;go_simp;(with_reducible refine hJ _ ?_);clear hJ J;try go_simp))));refine Aj fun wf hf=>?_
    go_wp2_with fail
    go_ret
    exact ⟨by rw [HZ.out];rfl,Bt hb (Bt (Bt aA hbb) aA)⟩
   | true =>
    rw [hv] at LI
    have HV:=zh hv
    clear hv
    go_wp2_with fail
    refine aC ((.pure,0)::(.pure,1)::(.pure,2)::(.read,3)::(.pure,4)::(.pure,5)::(.pure,6)::(.pure,7)::(.pure,8)::(.pure,9)::(.read,10)::(.pure,11)::(.pure,12)::(.pure,13)::(.pure,14)::(.pure,15)::(.pure,16)::(.pure,17)::(.read,18)::(.pure,19)::(.pure,20)::(.pure,21)::(.read,22)::(.pure,23)::(.pure,24)::(.pure,25)::(.pure,26)::(.pure,27)::(.pure,28)::(.pure,29)::(.read,30)::(.ext,31)::(.pure,32)::(.pure,33)::[]) zk zk zR zP ?_;refine Wk.out ?_;(iterate 31 (first|(apply jE;(rfl);(rfl);(rfl);(intro J hJ;go_simp;(with_reducible refine hJ _ ?_);clear hJ J))|(apply lg;(rfl);(rfl);(rfl);(rfl);(exact zk);(intro J hJ;go_simp;(with_reducible refine hJ _ ?_);clear hJ J))|(apply ji;(rfl);(rfl);(intro J hJ;go_simp;(with_reducible refine hJ _ ?_);clear hJ J))|(apply jF;(rfl);(rfl);(rfl);(rfl);(intro J hJ;go_simp;(with_reducible refine hJ _ ?_);clear hJ J;try go_simp))))
    refine jY rfl rfl (fun wa hba J hJ=>?_);go_simp
    refine (LI.out _ aA).mono ?_
    rintro e wb ⟨rfl,hbb⟩
    refine hJ _ _ hbb ?_
    clear hJ J
    (iterate 2 (first|(apply jE;(rfl);(rfl);(rfl);(intro J hJ;go_simp;(with_reducible refine hJ _ ?_);clear hJ J))|(apply lg;(rfl);(rfl);(rfl);(rfl);(exact zk);(intro J hJ;go_simp;(with_reducible refine hJ _ ?_);clear hJ J))|(apply ji;(rfl);(rfl);(intro J hJ;go_simp;(with_reducible refine hJ _ ?_);clear hJ J))|(apply jF;(rfl);(rfl);(rfl);(rfl);(intro J hJ;go_simp;(with_reducible refine hJ _ ?_);clear hJ J;try go_simp))));refine Aj fun wf hf=>?_
    have hbz:Below w.heap.size w wf:=Bt hb (Bt (Bt aA hbb) aA)
    go_wp2_with fail
    go_roundw
    case rel =>
     refine ⟨k+1,by go_num,by omega,zh fun j hj hjk=>?_,hbz⟩
     rcases Nat.lt_or_ge j k with h|h
     ·exact HK.out j hj h
     ·obtain rfl:j=k:=by omega
      rw [HN.out]
      exact ⟨H1.out,H4.out,HE.out,HV.out⟩
    case measure=>exact zM
  ·have HZ:=zh (Dr.out fun j hj=>HK.out j hj zo)
   obtain rfl:k=m.length:=by omega
   clear cell0
   go_wp2_with fail
   go_ret
   exact ⟨by rw [HZ.out];rfl,hb⟩
theorem gD (v:Value) (m:List (List Fr)) (w:World) (h:bO w v m) (hf:pQ m) :
  Calls Tryz.prog 53 #[v] w (fun e w'=>e= .returned (.int .i64 (oI m))∧Below w.heap.size w w'):=by
 obtain ⟨a,cap,rfl, -⟩:=bO.read h
 have R:=zh (oK _ m w h hf)
 unfold oI
 clear h hf
 cases hv:FL m with
 | false =>
  rw [hv] at R
  clear hv
  go_enter Tryz.func53,Tryz.ntmps53
  go_wp2_with fail
  refine R.out.mono ?_
  rintro e wb ⟨rfl,hb⟩
  go_wp2_with fail
  go_ret
  exact ⟨rfl,hb⟩
 | true =>
  rw [hv] at R
  clear hv
  go_enter Tryz.func53,Tryz.ntmps53
  go_wp2_with fail
  refine R.out.mono ?_
  rintro e wb ⟨rfl,hb⟩
  go_wp2_with fail
  go_ret
  exact ⟨rfl,hb⟩
end Go.Proofs.aI
namespace Go.Proofs.aI
open Go Go.RowKit Go.SW Go.Num Go.Mem Go.Proofs Go.Dec Go.dB Go.Proofs.aG Go.Proofs.matrix
theorem Pl.kept {l:List TypeId} {w w':World} {v:Value} {z:Int} (h:Pl w v z) (k:Keep l w w') (hT:3∉l):Pl w' v z:=by
 obtain ⟨pa,n,c,h1,h2⟩:=h
 exact ⟨pa,n,c,h1,Row.kept h2 k hT⟩
theorem Ra.kept {l:List TypeId} {w w':World} {v:Value} {q:Rat} (h:Ra w v q) (k:Keep l w w') (hT:3∉l):Ra w' v q:=by
 obtain ⟨bn,pn,ln,cn,bd,pd,ld,cd,e,h1,h2⟩:=h
 exact ⟨bn,pn,ln,cn,bd,pd,ld,cd,e,Pl.kept h1 k hT,Pl.kept h2 k hT⟩
def pK:Rl Rat:=fun w q c=>∃ bn pn ln cn bd pd ld cd,c=[.bool bn,.slice pn ln cn,.bool bd,.slice pd ld cd]∧Ra w (.agg #[.bool bn,.slice pn ln cn,.bool bd,.slice pd ld cd]) q
theorem pK.stay {m:List TypeId} (h:3∉m):tL m pK:=fun w w' a c k hr=>by
 obtain ⟨bn,pn,ln,cn,bd,pd,ld,cd,e,h1⟩:=hr
 exact ⟨bn,pn,ln,cn,bd,pd,ld,cd,e,Ra.kept h1 k h⟩
def kT (w:World) (v:Value) (qs:List Rat):Prop:=tO w 152 4 pK v qs
def jU:Rl (List Rat):=ag6 kT
theorem jU.stay {m:List TypeId} (h:3∉m) (h2:152∉m):tL m jU:=fun w w' a c k hr=>by
 obtain ⟨v,e,h1⟩:=hr
 exact ⟨v,e,tO.kept h1 k h2 (pK.stay h)⟩
def mX (w:World) (v:Value) (m:RM):Prop:=tO w 154 1 jU v m
theorem kT.later {w w':World} {v:Value} {qs:List Rat} (h:kT w v qs) (hb:Below w.heap.size w w'):kT w' v qs:=tO.later h hb (pK.stay zi)
theorem mX.later {w w':World} {v:Value} {m:RM} (h:mX w v m) (hb:Below w.heap.size w w'):mX w' v m:=tO.later h hb (jU.stay zi zi)
def Xf (w:World) (qs:List Rat) (e:Ending) (w':World):Prop:=∃ v,e= .returned v∧Below w.heap.size w w'∧kT w' v qs
def Ad (w:World) (m:RM) (e:Ending) (w':World):Prop:=∃ v,e= .returned v∧Below w.heap.size w w'∧mX w' v m
theorem Bl:(Tryz.prog.info? 152).map (fun i=>(i.zero,i.size,i.bytes))=some (some (.agg #[.bool false,.slice none 0 0,.bool false,.slice none 0 0]),4,64):=by kernel_rfl
theorem Aa:(Tryz.prog.info? 154).map (fun i=>(i.zero,i.size,i.bytes))=some (some (.slice none 0 0),1,24):=by kernel_rfl
theorem EJ (v:Value) (qs:List Rat) (T:TypeId) (w:World) (h:jI w T v (qs.map Fr.of)) (hq:∀ q∈qs,dA q=true) (hn:qs.length≤1000) :
  Calls Tryz.prog 116 #[v] w (Xf w qs):=by
 obtain ⟨i0,hi,hz0,hz1,hz2⟩:=info_parts Bl
 obtain ⟨a,cap,rfl,hc1,hc2,hread⟩:=h.read
 have H:Hid (∀ k (_:k<qs.length),∃ b off,a=some ⟨b,off,none⟩∧b<w.heap.size∧w.cell? ⟨b,off+k*2,none⟩=some (.string (Fr.of qs[k]).n)∧w.cell? ⟨b,off+k*2+1,none⟩=some (.string (Fr.of qs[k]).d)):=zh fun k hk=>by
  have:=hread k (by simpa using hk)
  simp only [List.getElem_map] at this
  exact this
 have HQ:=zh hq
 rw [List.length_map] at hc1 ⊢
 clear h hread hq
 go_enter Tryz.func116,Tryz.ntmps116
 go_wp2_with fail
 go_loopw [3,4] (fun ov iv wr=>∃ k:Nat,iv= .int .i64 (k:Int)∧k≤qs.length∧Hid (aX wr w.heap.size 152 4 pK ov (qs.take k))∧Below w.heap.size w wr) (fun _ iv _=>qs.length - (intOf iv).toNat)
 case atStart=>exact ⟨0,rfl,by omega,zh (aX.nil _ _ _ _ _),Below.refl _ _⟩
 case round =>
  obtain ⟨k,rfl,hk,HG,hb⟩:=hrel
  rcases Nat.lt_or_ge k qs.length with hlt|hge
  ·obtain ⟨b,off,rfl,hbl,hx1,hx2⟩:=H.out k hlt
   have hc1:=(hb.cell (p:=⟨b,off+k*2,none⟩) hbl).trans hx1
   have hc2:=(hb.cell (p:=⟨b,off+k*2+1,none⟩) hbl).trans hx2
   clear hx1 hx2
   have IN:=zh (fun W=>vD (iX (HQ.out _ (List.getElem_mem hlt))) W)
   generalize Fr.of qs[k]=lk at *
   obtain ⟨s,t⟩:=lk
   unfold Fr.v at IN
   obtain ⟨av,cv,rfl⟩:=HG.out.at (n:=k) (by simp;omega)
   go_wp2_with fail
   refine (IN.out _).mono ?_
   rintro e w1 ⟨v,rfl,hb1,hra⟩
   obtain ⟨bn,pn,ln,cn,bd,pd,ld,cd,rfl, -, -⟩:=id hra
   have HA:=zh hra
   have HB:=zh (Bt hb hb1)
   replace HG:=zh (HG.out.later hb1 (pK.stay zi))
   clear hra hb hb1 hc1 hc2
   go_wp2_with (at_builtin;refine bN (w0:=w) rfl (.tmp 11) (.tmp 17) 154 rfl 152 i0 (.agg #[.bool false,.slice none 0 0,.bool false,.slice none 0 0]) 4 64 Tryz.underlying154 hi hz0 hz1 hz2 rfl zd pK _ (qs.take k) rfl (HG.out.later aA (pK.stay zi)) (Bt HB.out aA) _ [.bool bn,.slice pn ln cn,.bool bd,.slice pd ld cd] qs[k] rfl (aB.new _ _ _) rfl ?c1 ⟨_,_,_,_,_,_,_,_,rfl,HA.out.later aA⟩ (pK.stay zi) ?c2 zo ?_)
   case c1=>intro u hu;simp only [List.mem_cons,List.not_mem_nil,or_false] at hu;rcases hu with rfl|rfl|rfl|rfl<;>rfl
   case c2=>simp;omega
   intro v' w2 hg hb2 _
   have HG2:=zh hg
   clear hg HG HA HB
   go_wp2_with fail
   go_roundw
   case rel=>exact ⟨k+1,by go_num,by omega,HG2,hb2⟩
   case measure=>exact zM
  ·obtain rfl:k=qs.length:=by omega
   rw [List.take_length] at HG
   obtain ⟨av,cv,rfl⟩:=HG.out.slice
   go_wp2_with fail
   go_ret
   exact ⟨_,rfl,hb,HG.out.Dy⟩
theorem tZ (v:Value) (m:RM) (w:World) (h:bO w v m.fr) (hq:∀ r∈m,∀ q∈r,dA q=true) (hn:m.length≤1000∧∀ r∈m,r.length≤1000) :
  Calls Tryz.prog 99 #[v] w (Ad w m):=by
 obtain ⟨i0,hi,hz0,hz1,hz2⟩:=info_parts Aa
 obtain ⟨a,cap,rfl,hc1,hc2,hread⟩:=bO.read h
 have hl:m.fr.length=m.length:=List.length_map _
 have H:Hid (∀ k (_:k<m.length),∃ b off a' c',a=some ⟨b,off,none⟩∧b<w.heap.size∧w.cell? ⟨b,off+k,none⟩=some (.slice a' m[k].length c')∧jI w 36 (.slice a' m[k].length c') (m[k].map Fr.of)):=zh fun k hk=>by
  have:=hread k zo
  simp only [RM.fr,List.getElem_map,List.length_map] at this
  exact this
 have HQ:=zh hq
 have HN:=zh hn.2
 have hn1:=hn.1
 rw [hl] at hc1 ⊢
 clear h hread hq hl hn
 go_enter Tryz.func99,Tryz.ntmps99
 go_wp2_with fail
 go_loopw [3,4] (fun ov iv wr=>∃ k:Nat,iv= .int .i64 (k:Int)∧k≤m.length∧Hid (aX wr w.heap.size 154 1 jU ov (m.take k))∧Below w.heap.size w wr) (fun _ iv _=>m.length - (intOf iv).toNat)
 case atStart=>exact ⟨0,rfl,by omega,zh (aX.nil _ _ _ _ _),Below.refl _ _⟩
 case round =>
  obtain ⟨k,rfl,hk,HG,hb⟩:=hrel
  rcases Nat.lt_or_ge k m.length with hlt|hge
  ·obtain ⟨b,off,a',c',rfl,hbl,hx1,hx2⟩:=H.out k hlt
   have hc1:=(hb.cell (p:=⟨b,off+k,none⟩) hbl).trans hx1
   have IN:=zh (EJ _ m[k] 36 wr (hx2.later hb) (HQ.out _ (List.getElem_mem hlt)) (HN.out _ (List.getElem_mem hlt)))
   clear hx1 hx2
   generalize m[k].length=n at *
   obtain ⟨av,cv,rfl⟩:=HG.out.at (n:=k) (by simp;omega)
   go_wp2_with fail
   refine IN.out.mono ?_
   rintro e w1 ⟨v,rfl,hb1,hra⟩
   have HA:=zh hra
   obtain ⟨ax,cx,rfl⟩:=tO.slice hra
   have HB:=zh (Bt hb hb1)
   replace HG:=zh (HG.out.later hb1 (jU.stay zi zi))
   clear hra hb hb1 hc1
   go_wp2_with (at_builtin;refine bN (w0:=w) rfl (.tmp 11) (.tmp 17) 146 rfl 154 i0 (.slice none 0 0) 1 24 Tryz.underlying146 hi hz0 hz1 hz2 rfl zd jU _ (m.take k) rfl (HG.out.later aA (jU.stay zi zi)) (Bt HB.out aA) _ [.slice ax m[k].length cx] m[k] rfl (aB.new _ _ _) rfl ?c1 ⟨_,rfl,HA.out.later aA⟩ (jU.stay zi zi) ?c2 zo ?_)
   case c1=>intro u hu;simp only [List.mem_cons,List.not_mem_nil,or_false] at hu;rcases hu with rfl;rfl
   case c2=>simp;omega
   intro v' w2 hg hb2 _
   have HG2:=zh hg
   clear hg HG HA HB
   go_wp2_with fail
   go_roundw
   case rel=>exact ⟨k+1,by go_num,by omega,HG2,hb2⟩
   case measure=>exact zM
  ·obtain rfl:k=m.length:=by omega
   rw [List.take_length] at HG
   obtain ⟨av,cv,rfl⟩:=HG.out.slice
   go_wp2_with fail
   go_ret
   exact ⟨_,rfl,hb,HG.out.Dy⟩
theorem kT.at {w:World} {v:Value} {qs:List Rat} (h:kT w v qs):∃ a cap,v= .slice a qs.length cap∧qs.length≤cap∧cap≤9223372036854775807 ∧
  ∀ k (_:k<qs.length),∃ b off bn pn ln cn bd pd ld cd,a=some ⟨b,off,none⟩∧b<w.heap.size∧w.cell? ⟨b,off+k*4,none⟩=some (.bool bn)∧w.cell? ⟨b,off+k*4+1,none⟩=some (.slice pn ln cn)∧w.cell? ⟨b,off+k*4+2,none⟩=some (.bool bd)∧w.cell? ⟨b,off+k*4+3,none⟩=some (.slice pd ld cd) ∧
   Ra w (.agg #[.bool bn,.slice pn ln cn,.bool bd,.slice pd ld cd]) qs[k]:=by
 obtain ⟨a,cap,h1,h2,h3,h4⟩:=tO.read h
 refine ⟨a,cap,h1,h2,h3,fun k hk=>?_⟩
 obtain ⟨b,off,c,k1,k2,⟨bn,pn,ln,cn,bd,pd,ld,cd,rfl,k3⟩, -, k5⟩:=h4 k hk
 exact ⟨b,off,bn,pn,ln,cn,bd,pd,ld,cd,k1,k2,k5 0 zo,k5 1 zo,k5 2 zo,k5 3 zo,k3⟩
theorem mX.at {w:World} {v:Value} {m:RM} (h:mX w v m):∃ a cap,v= .slice a m.length cap∧m.length≤cap∧cap≤9223372036854775807 ∧
  ∀ k (_:k<m.length),∃ b off a' c',a=some ⟨b,off,none⟩∧b<w.heap.size∧w.cell? ⟨b,off+k,none⟩=some (.slice a' m[k].length c')∧kT w (.slice a' m[k].length c') m[k]:=by
 obtain ⟨a,cap,h1,h2,h3,h4⟩:=tO.read h
 refine ⟨a,cap,h1,h2,h3,fun k hk=>?_⟩
 obtain ⟨b,off,c,k1,k2,⟨x,rfl,k3⟩, -, k5⟩:=h4 k hk
 obtain ⟨a',c',rfl⟩:=tO.slice k3
 have:=k5 0 zo
 rw [Nat.mul_one,Nat.add_zero] at this
 exact ⟨b,off,a',c',k1,k2,this,k3⟩
def QM (q:Rat):Prop:=eP 100000000 q
theorem QM.four {q:Rat} (h:QM q):sz 10000 q.num.natAbs≤1073741824∧sz 10000 q.den≤1073741824:=by
 have h1:=vF h.1
 have h2:=vF h.2
 exact ⟨by omega,by omega⟩
theorem ny:(Tryz.prog.info? 36).map (fun i=>(i.zero,i.size,i.bytes))=some (some (.agg #[.string ⟨#[]⟩,.string ⟨#[]⟩]),2,32):=by kernel_rfl
theorem uE:(Tryz.prog.info? 56).map (fun i=>(i.zero,i.size,i.bytes))=some (some (.slice none 0 0),1,24):=by kernel_rfl
theorem Q7 {qs:List Rat} {k:Nat} (hk:k<qs.length) (h:∀ q∈qs.take k,dA q=true) (hq:dA qs[k]=true):∀ q∈qs.take (k+1),dA q=true:=fun q hm=>by
 rw [List.take_succ_eq_append_getElem hk,List.mem_append] at hm
 rcases hm with hm|hm
 ·exact h q hm
 ·rw [List.mem_singleton.1 hm];exact hq
theorem Us {q:Rat} (h:QM q) (x:Value) (W:World) (hx:Ra W x q):Calls Tryz.prog 109 #[x] W (oM W (wr q)):=qm x q W hx h.four.1 h.four.2
theorem Vz {q:Rat} (h:QM q) (hq:dA q=true) (x:Value) (W:World) (hx:Ra W x q):Calls Tryz.prog 109 #[x] W (fun e w'=>e= .returned (.tuple #[(Fr.of q).v,.int .i64 0])∧Below W.heap.size W w'):=by
 have:=Us h x W hx
 rw [show wr q=(Fr.of q,0) by unfold wr;rw [if_pos hq]] at this
 exact this
theorem Zd {q:Rat} (h:QM q) (hq:dA q=false) (x:Value) (W:World) (hx:Ra W x q):Calls Tryz.prog 109 #[x] W (fun e w'=>e= .returned (.tuple #[.agg #[.string ⟨#[]⟩,.string ⟨#[]⟩],.int .i64 6])∧Below W.heap.size W w'):=by
 have:=Us h x W hx
 rw [show wr q=(Fr.no,6) by unfold wr;rw [if_neg (by simp [hq])]] at this
 exact this
theorem ag4 {qs:List Rat} {k:Nat} (hk:k<qs.length) (h:dA qs[k]=false):qs.all dA=false:=by
 rw [Bool.eq_false_iff]
 intro e
 have:=List.all_eq_true.1 e _ (List.getElem_mem hk)
 rw [h] at this
 cases this
theorem Og (v:Value) (qs:List Rat) (w:World) (h:kT w v qs) (hs:∀ q∈qs,QM q) (hn:qs.length≤1000) :
  Calls Tryz.prog 117 #[v] w (tY w qs):=by
 obtain ⟨i0,hi,hz0,hz1,hz2⟩:=info_parts ny
 obtain ⟨a,cap,rfl,hc1,hc2,hread⟩:=kT.at h
 have H:=zh hread
 have HS:=zh hs
 clear h hread hs
 go_enter Tryz.func117,Tryz.ntmps117
 go_wp2_with fail
 go_loopw [4,5] (fun ov iv wr=>∃ k:Nat,iv= .int .i64 (k:Int)∧k≤qs.length∧Hid (aX wr w.heap.size 36 2 rM ov ((qs.take k).map Fr.of))∧Hid (∀ q∈qs.take k,dA q=true)∧Below w.heap.size w wr) (fun _ iv _=>qs.length - (intOf iv).toNat)
 case atStart=>exact ⟨0,rfl,by omega,zh (aX.nil _ _ _ _ _),zh (fun q h=>by cases h),Below.refl _ _⟩
 case round =>
  obtain ⟨k,rfl,hk,HG,HK,hb⟩:=hrel
  rcases Nat.lt_or_ge k qs.length with hlt|hge
  ·obtain ⟨b,off,bn,pn,ln,cn,bd,pd,ld,cd,rfl,hbl,x0,x1,x2,x3,hra⟩:=H.out k hlt
   have c0:=(hb.cell (p:=⟨b,off+k*4,none⟩) hbl).trans x0
   have c1:=(hb.cell (p:=⟨b,off+k*4+1,none⟩) hbl).trans x1
   have c2:=(hb.cell (p:=⟨b,off+k*4+2,none⟩) hbl).trans x2
   have c3:=(hb.cell (p:=⟨b,off+k*4+3,none⟩) hbl).trans x3
   have RA:=zh (hra.later hb)
   have SQ:=zh (HS.out _ (List.getElem_mem hlt))
   clear x0 x1 x2 x3 hra
   obtain ⟨av,cv,rfl⟩:=HG.out.at (n:=k) (by simp;omega)
   cases hv:dA qs[k] with
   | true =>
    have HV:=zh hv
    have OU:=zh (Vz SQ.out hv _ wr RA.out)
    obtain ⟨⟨s,t⟩,hf⟩:∃ y,Fr.of qs[k]=y:=⟨_,rfl⟩
    rw [hf] at OU
    have HF:=zh hf
    replace OU:Hid (Calls Tryz.prog 109 #[.agg #[.bool bn,.slice pn ln cn,.bool bd,.slice pd ld cd]] wr (fun e w'=>e= .returned (.tuple #[.agg #[.string s,.string t],.int .i64 0])∧Below wr.heap.size wr w')):=OU
    clear hv hf
    go_wp2_with fail
    refine OU.out.mono ?_
    rintro e w1 ⟨rfl,hb1⟩
    have HB:=zh (Bt hb hb1)
    replace HG:=zh (HG.out.later hb1 (rM.stay _))
    clear hb hb1 c0 c1 c2 c3 OU
    go_wp2_with (at_builtin;refine bN (w0:=w) rfl (.tmp 25) (.tmp 27) 56 rfl 36 i0 (.agg #[.string ⟨#[]⟩,.string ⟨#[]⟩]) 2 32 Tryz.underlying56 hi hz0 hz1 hz2 rfl zd rM _ ((qs.take k).map Fr.of) rfl (HG.out.later aA (rM.stay _)) (Bt HB.out aA) _ [.string s,.string t] ⟨s,t⟩ rfl (aL) rfl ?c1 rfl (rM.stay _) ?c2 zo ?_)
    case c1=>intro u hu;simp only [List.mem_cons,List.not_mem_nil,or_false] at hu;rcases hu with rfl|rfl<;>rfl
    case c2=>simp;omega
    intro v' w2 hg hb2 _
    have HG2:Hid (aX w2 w.heap.size 36 2 rM v' ((qs.take (k+1)).map Fr.of)):=zh (by rw [List.take_succ_eq_append_getElem hlt,List.map_append,List.map_singleton,HF.out,List.map_take];exact hg)
    clear hg HG
    go_wp2_with fail
    go_roundw
    case rel=>exact ⟨k+1,by go_num,by omega,HG2,zh (Q7 hlt HK.out HV.out),hb2⟩
    case measure=>exact zM
   | false =>
    have HN:=zh (ag4 hlt hv)
    have OU:=zh (Zd SQ.out hv _ wr RA.out)
    clear hv
    go_wp2_with fail
    refine OU.out.mono ?_
    rintro e w1 ⟨rfl,hb1⟩
    have HB:=zh (Bt hb hb1)
    go_wp2_with fail
    go_ret2
    exact .inr ⟨HN.out,rfl,Bt HB.out aA⟩
  ·obtain rfl:k=qs.length:=by omega
   rw [List.take_length] at HG HK
   obtain ⟨av,cv,rfl⟩:=HG.out.slice
   have HY:Hid (qs.all dA=true):=zh (List.all_eq_true.2 HK.out)
   go_wp2_with fail
   go_ret2
   exact .inl ⟨HY.out,_,rfl,hb,HG.out.Dy.zL⟩
def jV:Rl (List Fr):=ag6 fun w v l=>jI w 36 v l
theorem jV.stay {m:List TypeId} (h:36∉m):tL m jV:=fun w w' a c k hr=>by
 obtain ⟨v,e,h1⟩:=hr
 exact ⟨v,e,jI.kept h1 k h⟩
theorem Xc {m:RM} {k:Nat} (hk:k<m.length) (h:m[k].all dA=false):gX m=false:=by
 unfold gX
 rw [Bool.eq_false_iff]
 intro e
 have:=List.all_eq_true.1 e _ (List.getElem_mem hk)
 rw [h] at this
 cases this
theorem OO {m:RM} {k:Nat} (hk:k<m.length) (h:∀ r∈m.take k,r.all dA=true) (hq:m[k].all dA=true):∀ r∈m.take (k+1),r.all dA=true:=fun q hm=>by
 rw [List.take_succ_eq_append_getElem hk,List.mem_append] at hm
 rcases hm with hm|hm
 ·exact h q hm
 ·rw [List.mem_singleton.1 hm];exact hq
theorem Ol (v:Value) (m:RM) (w:World) (h:mX w v m) (hs:∀ r∈m,∀ q∈r,QM q) (hn:m.length≤1000∧∀ r∈m,r.length≤1000) :
  Calls Tryz.prog 104 #[v] w (aS w (if gX m then 0 else 6) m.fr):=by
 obtain ⟨i0,hi,hz0,hz1,hz2⟩:=info_parts uE
 obtain ⟨a,cap,rfl,hc1,hc2,hread⟩:=mX.at h
 have H:=zh hread
 have HS:=zh hs
 have HN:=zh hn.2
 have hn1:=hn.1
 have NO:=zh (fun k hk h=>show (if gX m then (0:Int) else 6)=6 by rw [Xc (m:=m) (k:=k) hk h];rfl)
 have YES:Hid ((∀ r∈m,r.all dA=true)→(if gX m then (0:Int) else 6)=0):=zh fun h=>by rw [show gX m=true from List.all_eq_true.2 h];rfl
 generalize (if gX m then (0:Int) else 6)=z at *
 clear h hread hs hn
 go_enter Tryz.func104,Tryz.ntmps104
 go_wp2_with fail
 go_loopw [4,5] (fun ov iv wr=>∃ k:Nat,iv= .int .i64 (k:Int)∧k≤m.length∧Hid (aX wr w.heap.size 56 1 jV ov ((m.take k).map fun r=>r.map Fr.of))∧Hid (∀ r∈m.take k,r.all dA=true)∧Below w.heap.size w wr) (fun _ iv _=>m.length - (intOf iv).toNat)
 case atStart=>exact ⟨0,rfl,by omega,zh (aX.nil _ _ _ _ _),zh (fun q h=>by cases h),Below.refl _ _⟩
 case round =>
  obtain ⟨k,rfl,hk,HG,HK,hb⟩:=hrel
  rcases Nat.lt_or_ge k m.length with hlt|hge
  ·obtain ⟨b,off,a',c',rfl,hbl,hx1,hx2⟩:=H.out k hlt
   have hc1:=(hb.cell (p:=⟨b,off+k,none⟩) hbl).trans hx1
   have TO:=zh (Og _ m[k] wr (hx2.later hb) (HS.out _ (List.getElem_mem hlt)) (HN.out _ (List.getElem_mem hlt)))
   clear hx1 hx2
   generalize m[k].length=n at *
   obtain ⟨av,cv,rfl⟩:=HG.out.at (n:=k) (by simp;omega)
   go_wp2_with fail
   refine TO.out.mono ?_
   rintro e w1 (⟨hy,vo,rfl,hb1,hf⟩|⟨hy,rfl,hb1⟩)
   ·obtain ⟨ax,cx,rfl, -⟩:=hf.read
    have HF:=zh hf
    have HY:=zh hy
    have HB:=zh (Bt hb hb1)
    replace HG:=zh (HG.out.later hb1 (jV.stay zi))
    clear hf hy hb hb1 hc1
    have hl:(m[k].map Fr.of).length=m[k].length:=List.length_map _
    rw [hl] at HF ⊢
    clear hl
    generalize m[k].length=n2 at *
    go_wp2_with (at_builtin;refine bN (w0:=w) rfl (.tmp 25) (.tmp 27) 44 rfl 56 i0 (.slice none 0 0) 1 24 Tryz.underlying44 hi hz0 hz1 hz2 rfl zd jV _ ((m.take k).map fun r=>r.map Fr.of) rfl (HG.out.later aA (jV.stay zi)) (Bt HB.out aA) _ [.slice ax n2 cx] (m[k].map Fr.of) rfl (aB.new _ _ _) rfl ?c1 ⟨_,rfl,HF.out.later aA⟩ (jV.stay zi) ?c2 zo ?_)
    case c1=>intro u hu;simp only [List.mem_cons,List.not_mem_nil,or_false] at hu;rcases hu with rfl;rfl
    case c2=>simp;omega
    intro v' w2 hg hb2 _
    have HG2:Hid (aX w2 w.heap.size 56 1 jV v' ((m.take (k+1)).map fun r=>r.map Fr.of)):=zh (by rw [List.take_succ_eq_append_getElem hlt,List.map_append,List.map_singleton];first|exact hg|(rw [List.map_take];exact hg))
    clear hg HG
    go_wp2_with fail
    go_roundw
    case rel=>exact ⟨k+1,by go_num,by omega,HG2,zh (OO hlt HK.out HY.out),hb2⟩
    case measure=>exact zM
   ·have HZ:=zh (NO.out k hlt hy)
    have HB:=zh (Bt hb hb1)
    clear hy
    go_wp2_with fail
    go_ret2
    rw [HZ.out]
    exact aS.no HB.out zd
  ·obtain rfl:k=m.length:=by omega
   rw [List.take_length] at HG HK
   have HZ:=zh (YES.out HK.out)
   obtain ⟨av,cv,rfl⟩:=HG.out.slice
   go_wp2_with fail
   go_ret2
   rw [HZ.out]
   exact aS.yes hb HG.out.Dy.zC
def Il (p q:List Rat) (i:Nat):Rat:=p.getD i 0*q.getD i 0
theorem AX {p q:List Rat} (hp:∀ x∈p,eP 67 x) (hq:∀ x∈q,eP 67 x) (i:Nat):eP 134 (Il p q i):=by
 have h0:eP 67 0:=⟨by decide+kernel,by decide+kernel⟩
 have e:∀ l:List Rat,(∀ x∈l,eP 67 x)→eP 67 (l.getD i 0):=fun l h=>by
  rw [List.getD_eq_getElem?_getD]
  rcases Nat.lt_or_ge i l.length with hi|hi
  ·rw [List.getElem?_eq_getElem hi];exact h _ (List.getElem_mem hi)
  ·rw [List.getElem?_eq_none hi];exact h0
 exact qU (e p hp) (e q hq)
theorem oV {f:Nat→Rat} (h:∀ i,eP 134 (f i)):∀ k,eP (200*2^k - 1) (jP f k)
 | 0=>by
  show eP 199 0
  exact ⟨by decide+kernel,by decide+kernel⟩
 | k+1=>by
  have hp:1≤2^k:=Nat.one_le_two_pow
  have:=uj (oV h k) ((h k).mono (show 134≤200*2^k - 1 by omega))
  exact this.mono (by rw [Nat.pow_succ];omega)
theorem Ik {f:Nat→Rat} (h:∀ i,eP 134 (f i)) {k:Nat} (hk:k≤4):QM (jP f k):=(oV h k).mono (by
 have:2^k≤2^4:=Nat.pow_le_pow_right zo hk
 omega)
theorem Ur (W:World):Calls Tryz.prog 110 #[.int .i64 0,.int .i64 1] W (dH W 0):=by
 have:=tT 0 1 zo zo zo zo zo W
 rwa [QX] at this
theorem UM (v1 v2:Value) (p q:List Rat) (w:World) (h1:kT w v1 p) (h2:kT w v2 q) (hl:q.length=p.length) (hn:p.length≤4) (hp:∀ x∈p,eP 67 x) (hq:∀ x∈q,eP 67 x) :
  Calls Tryz.prog 107 #[v1,v2] w (dH w (dK p q)):=by
 rw [yF hl]
 have hf:=oV (AX hp hq)
 have hfe:(fun i=>p.getD i 0*q.getD i 0)=Il p q:=rfl
 rw [hfe]
 obtain ⟨a1,aW5,rfl, -, hc1,hr1⟩:=kT.at h1
 obtain ⟨a2,cap2,rfl, -, hc2,hr2⟩:=kT.at h2
 have H1:Hid (∀ k (_:k<p.length),∃ b off bn pn ln cn bd pd ld cd,a1=some ⟨b,off,none⟩∧b<w.heap.size∧w.cell? ⟨b,off+k*4,none⟩=some (.bool bn)∧w.cell? ⟨b,off+k*4+1,none⟩=some (.slice pn ln cn)∧w.cell? ⟨b,off+k*4+2,none⟩=some (.bool bd)∧w.cell? ⟨b,off+k*4+3,none⟩=some (.slice pd ld cd) ∧
   Ra w (.agg #[.bool bn,.slice pn ln cn,.bool bd,.slice pd ld cd]) (p.getD k 0)):=zh fun k hk=>by
  have:=hr1 k hk
  rw [show p[k]=p.getD k 0 by simp [hk]] at this
  exact this
 have H2:Hid (∀ k (_:k<p.length),∃ b off bn pn ln cn bd pd ld cd,a2=some ⟨b,off,none⟩∧b<w.heap.size∧w.cell? ⟨b,off+k*4,none⟩=some (.bool bn)∧w.cell? ⟨b,off+k*4+1,none⟩=some (.slice pn ln cn)∧w.cell? ⟨b,off+k*4+2,none⟩=some (.bool bd)∧w.cell? ⟨b,off+k*4+3,none⟩=some (.slice pd ld cd) ∧
   Ra w (.agg #[.bool bn,.slice pn ln cn,.bool bd,.slice pd ld cd]) (q.getD k 0)):=zh fun k hk=>by
  have hk':k<q.length:=by omega
  have:=hr2 k hk'
  rw [show q[k]=q.getD k 0 by simp [hk']] at this
  exact this
 rw [hl]
 have PS:Hid (∀ i,eP 134 (Il p q i)):=zh (AX hp hq)
 have TI:Hid (∀ k x y W,Ra W x (p.getD k 0)→Ra W y (q.getD k 0)→Calls Tryz.prog 156 #[x,y] W (dH W (Il p q k))):=zh fun k x y W hx hy=>iM x y _ _ W hx hy (by
  have e:∀ l:List Rat,(∀ x∈l,eP 67 x)→eP 67 (l.getD k 0):=fun l h=>by
   rw [List.getD_eq_getElem?_getD]
   rcases Nat.lt_or_ge k l.length with hi|hi
   ·rw [List.getElem?_eq_getElem hi];exact h _ (List.getElem_mem hi)
   ·rw [List.getElem?_eq_none hi];exact ⟨by decide+kernel,by decide+kernel⟩
  exact (e p hp).mono zo) (by
  have e:∀ l:List Rat,(∀ x∈l,eP 67 x)→eP 67 (l.getD k 0):=fun l h=>by
   rw [List.getD_eq_getElem?_getD]
   rcases Nat.lt_or_ge k l.length with hi|hi
   ·rw [List.getElem?_eq_getElem hi];exact h _ (List.getElem_mem hi)
   ·rw [List.getElem?_eq_none hi];exact ⟨by decide+kernel,by decide+kernel⟩
  exact (e q hq).mono zo)
 generalize Il p q=F at *
 have PL:Hid (∀ k,k<4→∀ x y W,Ra W x (jP F k)→Ra W y (F k)→Calls Tryz.prog 157 #[x,y] W (dH W (jP F (k+1)))):=zh fun k hk x y W hx hy=>rO x y _ _ W hx hy ((Ik PS.out zo).mono zo) ((PS.out k).mono zo)
 clear h1 h2 hr1 hr2 hp hq hf hfe
 generalize p.length=n at *
 clear hl
 go_enter Tryz.func107,Tryz.ntmps107
 go_wp2_with fail
 obtain ⟨w0,E0⟩:∃ y,w.alloc (.cells #[.bool false,.slice none 0 0,.bool false,.slice none 0 0] 152)=y:=⟨_,rfl⟩
 have hb0:Below w.heap.size w w0:=by rw [← E0];exact aA
 have X4:Hid (aB w0 w.heap.size #[.bool false,.slice none 0 0,.bool false,.slice none 0 0] 152):=zh (by rw [← E0];exact aB.new _ _ _)
 rw [E0]
 clear E0
 refine (Ur _).mono ?_
 rintro e w1 ⟨v,rfl,hb1,hra⟩
 obtain ⟨bn,pn,ln,cn,bd,pd,ld,cd,rfl, -, -⟩:=id hra
 replace X4:=X4.bl hb1
 have HB1:=zh (Bt hb0 hb1)
 obtain ⟨p4,E4⟩:∃ y,w.heap.size=y:=⟨_,rfl⟩
 have WA:w.heap.size≤p4:=by omega
 rw [E4] at X4 ⊢
 clear E4
 have hne:=X4.out.lt
 go_wp2_with fail
 have h12:Below w1.heap.size w1 (w1.alloc (.cells #[.bool bn,.slice pn ln cn,.bool bd,.slice pd ld cd] 152)):=aA
 have hx5:=aB.new w1 #[.bool bn,.slice pn ln cn,.bool bd,.slice pd ld cd] 152
 obtain ⟨w2,E2⟩:∃ y,w1.alloc (.cells #[.bool bn,.slice pn ln cn,.bool bd,.slice pd ld cd] 152)=y:=⟨_,rfl⟩
 rw [E2] at h12 hx5 ⊢
 replace X4:=X4.bl h12
 have xP:=zh (hra.later h12)
 have HB2:Hid (Below w.heap.size w w2):=zh (Bt HB1.out h12)
 have zK:=HB1.out.size
 obtain ⟨p5,E5⟩:∃ y,w1.heap.size=y:=⟨_,rfl⟩
 rw [E5] at hx5 hne zK ⊢
 have X5:=zh hx5
 clear E2 E5 hx5 h12 hb1 hra HB1 hb0
 go_loopw [6] (fun iv wr=>∃ (k:Nat) (bn:Bool) (pn:Option Addr) (ln cn:Nat) (bd:Bool) (pd:Option Addr) (ld cd:Nat),iv= .int .i64 (k:Int)∧k≤n∧Hid (aB wr p5 #[.bool bn,.slice pn ln cn,.bool bd,.slice pd ld cd] 152)∧Hid (aB wr p4 #[.bool false,.slice none 0 0,.bool false,.slice none 0 0] 152)∧Hid (Ra wr (.agg #[.bool bn,.slice pn ln cn,.bool bd,.slice pd ld cd]) (jP F k))∧Hid (Below w.heap.size w wr)) (fun iv _=>n - (intOf iv).toNat)
 case atStart=>exact ⟨0,_,_,_,_,_,_,_,_,rfl,by omega,X5,X4,xP,HB2⟩
 case round =>
  obtain ⟨k,bn,pn,ln,cn,bd,pd,ld,cd,rfl,hk,X5,X4,xP,hb⟩:=hrel
  have c5:=X5.out.cell
  have l5:=X5.out.lt
  rcases Nat.lt_or_ge k n with hlt|hge
  ·obtain ⟨b,off,s1,s2,s3,s4,s5,s6,s7,s8,rfl,hbl,x0,x1,x2,x3,r1⟩:=H1.out k hlt
   obtain ⟨b',off',t1,t2,t3,t4,t5,t6,t7,t8,rfl,Lu,y0,y1,y2,y3,r2⟩:=H2.out k hlt
   replace x0:=(hb.out.cell (p:=⟨b,off+k*4,none⟩) hbl).trans x0
   replace y0:=(hb.out.cell (p:=⟨b',off'+k*4,none⟩) Lu).trans y0
   replace x1:=(hb.out.cell (p:=⟨b,off+k*4+1,none⟩) hbl).trans x1
   replace y1:=(hb.out.cell (p:=⟨b',off'+k*4+1,none⟩) Lu).trans y1
   replace x2:=(hb.out.cell (p:=⟨b,off+k*4+2,none⟩) hbl).trans x2
   replace y2:=(hb.out.cell (p:=⟨b',off'+k*4+2,none⟩) Lu).trans y2
   replace x3:=(hb.out.cell (p:=⟨b,off+k*4+3,none⟩) hbl).trans x3
   replace y3:=(hb.out.cell (p:=⟨b',off'+k*4+3,none⟩) Lu).trans y3
   have R1:=zh (r1.later hb.out)
   have R2:=zh (r2.later hb.out)
   have b1:b<wr.heap.size:=Nat.lt_of_lt_of_le hbl hb.out.size
   have b2:b'<wr.heap.size:=Nat.lt_of_lt_of_le Lu hb.out.size
   clear r1 r2 hbl Lu
   go_wp2_with fail
   refine aC [(.read,0),(.pure,1),(.pure,2),(.pure,3),(.read,4),(.pure,5),(.pure,6),(.pure,7),(.read,8),(.ext,9),(.ext,10),(.fin,11)] zk zk zR zP ?_;refine Wk.out ?_;(iterate 9 (first|(apply jE;(rfl);(rfl);(rfl);(intro J hJ;go_simp;(with_reducible refine hJ _ ?_);clear hJ J))|(apply lg;(rfl);(rfl);(rfl);(rfl);(exact zk);(intro J hJ;go_simp;(with_reducible refine hJ _ ?_);clear hJ J))|(apply ji;(rfl);(rfl);(intro J hJ;go_simp;(with_reducible refine hJ _ ?_);clear hJ J))|(apply jF;(rfl);(rfl);(rfl);(rfl);(intro J hJ;go_simp;(with_reducible refine hJ _ ?_);clear hJ J;try go_simp))))
   refine jY rfl rfl (fun wa hba J hJ=>?_);go_simp
   have z1:Below wr.heap.size wr wa:=aA
   refine (TI.out k _ _ _ (R1.out.later z1) (R2.out.later z1)).mono ?_
   rintro e wb ⟨v,rfl,hbb,hrt⟩
   obtain ⟨u1,u2,u3,u4,u5,u6,u7,u8,rfl, -, -⟩:=id hrt
   have HT:=zh hrt
   refine hJ _ _ hbb ?_
   clear hJ J hrt
   refine jY rfl rfl (fun wc hbc J hJ=>?_);go_simp
   have z2:Below wb.heap.size wb wc:=aA
   have z3:Below wr.heap.size wr wc:=Bt (Bt z1 hbb) z2
   refine (PL.out k zo _ _ _ (xP.out.later z3) (HT.out.later z2)).mono ?_
   rintro e wd ⟨v,rfl,hbd,hrs⟩
   obtain ⟨v1,v2,v3,v4,v5,v6,v7,v8,rfl, -, -⟩:=id hrs
   have HS:=zh hrs
   refine hJ _ _ hbd ?_
   clear hJ J hrs
   refine Ak [_] rfl (fun wf hbf=>?_)
   have z4:Below wd.heap.size wd wf:=aA
   have z5:Below wr.heap.size wr wf:=Bt (Bt z3 hbd) z4
   have Y5:=X5.out.later z5
   have d5:=Y5.cell
   have e5:=Y5.lt
   have f5:=Y5.free
   have g4:=X4.out.later z5
   have HS4:=zh (Ra.kJ (HS.out.later z4) Y5 zd (.bool v1) (.slice v2 v3 v4) (.bool v5) (.slice v6 v7 v8))
   have YC:Hid (Below w.heap.size w wf):=zh (Bt hb.out z5)
   have GX:p4≠p5:=by omega
   clear hba hbb hbc hbd hbf z1 z2 z3 z4 z5 c5 l5 x0 x1 x2 x3 y0 y1 y2 y3
   go_wp2_with fail
   go_roundw
   case rel=>exact ⟨k+1,v1,v2,v3,v4,v5,v6,v7,v8,by go_num,by omega,zh ((((Y5.set 0 _).set 1 _).set 2 _).set 3 _),zh ((((g4.setOther _ GX).setOther _ GX).setOther _ GX).setOther _ GX),HS4,zh ((((YC.out.setCell zK _).setCell zK _).setCell zK _).setCell zK _)⟩
   case measure=>exact zM
  ·obtain rfl:k=n:=by omega
   have c4:=X4.out.cell
   have l4:=X4.out.lt
   have f4:=X4.out.free
   have h04:=hb.out.size
   go_wp2_with fail
   have Y4:=(((X4.out.set 0 (.bool bn)).set 1 (.slice pn ln cn)).set 2 (.bool bd)).set 3 (.slice pd ld cd)
   refine bP rfl rfl Y4 Tryz.underlying152 rfl zk ?_
   exact ⟨_,rfl,(((hb.out.setCell WA _).setCell WA _).setCell WA _).setCell WA _,Ra.kJ xP.out X4.out zd _ _ _ _⟩
theorem wS (z:Int):(Lib.itoa z).length≤(Lib.decDigits z.natAbs).length+1:=by
 unfold Lib.itoa
 split
 ·simp
 ·rw [show z.toNat=z.natAbs by omega];omega
theorem eY {q:Rat} (h:dA q=true):Fits (Fr.of q):=by
 unfold dA at h
 rw [Bool.and_eq_true] at h
 have h1:=fE.1 h.1
 have h2:=fE.1 h.2
 have h3:=wS q.num
 have h4:=wS (q.den:Int)
 rw [Int.natAbs_natCast] at h4
 exact ⟨by show (Lib.itoa q.num).length≤_;omega,by show (Lib.itoa (q.den:Int)).length≤_;omega⟩
theorem Yi {qs:List Rat} (h:∀ q∈qs,dA q=true):∀ x∈qs.map Fr.of,Fits x:=fun x hx=>by
 obtain ⟨q,hq,rfl⟩:=List.mem_map.1 hx
 exact eY (h q hq)
theorem Zj {qs:List Rat} (h:∀ q∈qs,dA q=true):K6 (qs.map Fr.of)=true:=by rw [FN,Gt h];rfl
theorem RQ {m:RM} {n:Nat} (h:m.ok n):FL m.fr=true:=by
 have:=h.zn
 unfold oI at this
 cases e:FL m.fr with
 | true=>rfl
 | false=>rw [e] at this;cases this
theorem Yh {m:RM} {n:Nat} (h:m.ok n):pQ m.fr:=fun r hr=>by
 obtain ⟨s,hs,rfl⟩:=List.mem_map.1 hr
 exact Yi (h.2.2.2.2 s hs).2
theorem szM {m:RM} {n:Nat} (h:m.ok n):∀ r∈m,∀ q∈r,eP 67 q:=fun r hr q hq=>gL ((h.2.2.2.2 r hr).2 q hq)
theorem uI (v:Value) (m:RM) (n:Nat) (w:World) (h:bO w v m.fr) (hm:m.ok n):Calls Tryz.prog 98 #[v] w (fun e w'=>e= .returned (.bool true)∧Below w.heap.size w w'):=RQ hm ▸ oK v m.fr w h (Yh hm)
theorem Nw {p q:List Rat} (hl:q.length=p.length) (hn:p.length≤4) (hp:∀ x∈p,eP 67 x) (hq:∀ x∈q,eP 67 x):QM (dK p q):=by
 rw [yF hl]
 exact Ik (AX hp hq) hn
theorem JV (v vl:Value) (m:RM) (qs:List Rat) (T:TypeId) (w:World) (h:bO w v m.fr) (hl:jI w T vl (qs.map Fr.of)) (hm:m.ok qs.length) (hq:∀ q∈qs,dA q=true) :
  Calls Tryz.prog 55 #[v,vl] w (tY w (m.map fun r=>dK r qs)):=by
 obtain ⟨i0,hi,hz0,hz1,hz2⟩:=info_parts Bl
 have RI:=zh (fun W (hW:Below w.heap.size w W)=>uI v m _ W (h.later hW) hm)
 have LI:Hid (∀ W,Below w.heap.size w W→Calls Tryz.prog 105 #[vl] W (fun e w'=>e= .returned (.bool true)∧Below W.heap.size W w')):=zh fun W hW=>Zj hq ▸ GH vl _ T W (hl.later hW) (Yi hq)
 obtain ⟨m1,m4,n1,n4,hrows⟩:=id hm
 have IN:=zh (fun W (hW:Below w.heap.size w W)=>tZ v m W (h.later hW) (fun r hr=>(hrows r hr).2) ⟨by omega,fun r hr=>by rw [(hrows r hr).1];omega⟩)
 have VA:=zh (fun W (hW:Below w.heap.size w W)=>EJ vl qs T W (hl.later hW) hq zo)
 have hd:∀ r∈m,r.length=qs.length∧(∀ x∈r,eP 67 x):=fun r hr=>⟨(hrows r hr).1,szM hm r hr⟩
 have HD:=zh hd
 have HQ:Hid (∀ x∈qs,eP 67 x):=zh fun x hx=>gL (hq x hx)
 have TO:Hid (∀ v W,kT W v (m.map fun r=>dK r qs)→Calls Tryz.prog 117 #[v] W (tY W (m.map fun r=>dK r qs))):=zh fun v W hv=>Og v _ W hv (fun q hq'=>by
  obtain ⟨r,hr,rfl⟩:=List.mem_map.1 hq'
  exact Nw (hd r hr).1.symm (by rw [(hd r hr).1];omega) (hd r hr).2 HQ.out) (by rw [List.length_map];omega)
 obtain ⟨a,cap,rfl, -, -, hread⟩:=bO.read h
 have hfl:m.fr.length=m.length:=List.length_map _
 obtain ⟨b,off,a0,c0,rfl,lb,cell0, -⟩:=hread 0 zo
 have e0:(m.fr[0]'zo).length=qs.length:=by
  simp only [RM.fr,List.getElem_map,List.length_map]
  exact (hd _ (List.getElem_mem _)).1
 rw [e0] at cell0
 obtain ⟨al,cl,rfl, -, -, -⟩:=hl.read
 have hll:(qs.map Fr.of).length=qs.length:=List.length_map _
 rw [hll] at LI VA ⊢
 rw [hfl] at RI IN ⊢
 have h0m:0<m.length:=by omega
 clear h hl hm hq hrows hread hd e0 hfl hll
 go_enter Tryz.func55,Tryz.ntmps55
 go_wp2_with fail
 refine (RI.out _ (Below.refl _ _)).mono ?_
 rintro e w1 ⟨rfl,hb1⟩
 go_wp2_with fail
 refine (LI.out _ hb1).mono ?_
 rintro e w2 ⟨rfl,hb2⟩
 have h2:=Bt hb1 hb2
 have ck:=(h2.cell (p:=⟨b,off,none⟩) lb).trans cell0
 have l2:b<w2.heap.size:=Nat.lt_of_lt_of_le lb h2.size
 go_wp2_with fail
 refine (IN.out _ h2).mono ?_
 rintro e w3 ⟨v,rfl,hb3,hmv⟩
 have h3:=Bt h2 hb3
 obtain ⟨ax,cx,rfl⟩:=tO.slice hmv
 clear ck l2
 go_wp2_with fail
 refine (VA.out _ h3).mono ?_
 rintro e w4 ⟨v,rfl,hb4,hrv⟩
 obtain ⟨ay,cy,rfl⟩:=tO.slice hrv
 have HM:=zh (hmv.later hb4)
 have HR:=zh hrv
 have HB:=zh (Bt h3 hb4)
 have H:Hid (∀ k (_:k<m.length),∃ b off a' c',ax=some ⟨b,off,none⟩∧b<w4.heap.size∧w4.cell? ⟨b,off+k,none⟩=some (.slice a' m[k].length c')∧kT w4 (.slice a' m[k].length c') m[k]):=zh (by
  obtain ⟨a',c',e1, -, -, hat⟩:=mX.at HM.out
  simp only [Value.slice.injEq,true_and] at e1
  obtain ⟨rfl,rfl⟩:=e1
  exact hat)
 clear hmv hrv hb1 hb2 hb3 hb4 h2 h3 cell0 lb RI LI IN VA HM
 obtain ⟨nq,enq⟩:∃ y,qs.length=y:=⟨_,rfl⟩
 have ENQ:=zh enq
 rw [enq] at HD HR n1 n4 ⊢
 clear enq
 go_wp2_with fail
 go_loopw [8,9] (fun ov iv wr=>∃ k:Nat,iv= .int .i64 (k:Int)∧k≤m.length∧Hid (aX wr w4.heap.size 152 4 pK ov ((m.take k).map fun r=>dK r qs))∧Below w4.heap.size w4 wr) (fun _ iv _=>m.length - (intOf iv).toNat)
 case atStart=>exact ⟨0,rfl,by omega,zh (aX.nil _ _ _ _ _),Below.refl _ _⟩
 case round =>
  obtain ⟨k,rfl,hk,HG,hb⟩:=hrel
  rcases Nat.lt_or_ge k m.length with hlt|hge
  ·obtain ⟨b,off,a',c',rfl,hbl,hx1,hx2⟩:=H.out k hlt
   have hc1:=(hb.cell (p:=⟨b,off+k,none⟩) hbl).trans hx1
   have DO:=zh (UM _ _ m[k] qs wr (hx2.later hb) (HR.out.later hb) (ENQ.out.trans (HD.out _ (List.getElem_mem hlt)).1.symm) (by rw [(HD.out _ (List.getElem_mem hlt)).1];omega) (HD.out _ (List.getElem_mem hlt)).2 HQ.out)
   clear hx1 hx2
   generalize m[k].length=n at *
   obtain ⟨av,cv,rfl⟩:=HG.out.at (n:=k) (by simp;omega)
   go_wp2_with fail
   refine DO.out.mono ?_
   rintro e w1 ⟨v,rfl,hb1,hra⟩
   obtain ⟨bn,pn,ln,cn,bd,pd,ld,cd,rfl, -, -⟩:=id hra
   have HA:=zh hra
   have HB1:=zh (Bt hb hb1)
   replace HG:=zh (HG.out.later hb1 (pK.stay zi))
   clear hra hb hb1 hc1
   go_wp2_with (at_builtin;refine bN (w0:=w4) rfl (.tmp 33) (.tmp 40) 154 rfl 152 i0 (.agg #[.bool false,.slice none 0 0,.bool false,.slice none 0 0]) 4 64 Tryz.underlying154 hi hz0 hz1 hz2 rfl zd pK _ ((m.take k).map fun r=>dK r qs) rfl (HG.out.later aA (pK.stay zi)) (Bt HB1.out aA) _ [.bool bn,.slice pn ln cn,.bool bd,.slice pd ld cd] (dK m[k] qs) rfl (aB.new _ _ _) rfl ?c1 ⟨_,_,_,_,_,_,_,_,rfl,HA.out.later aA⟩ (pK.stay zi) ?c2 zo ?_)
   case c1=>intro u hu;simp only [List.mem_cons,List.not_mem_nil,or_false] at hu;rcases hu with rfl|rfl|rfl|rfl<;>rfl
   case c2=>simp;omega
   intro v' w2 hg hb2 _
   have HG2:Hid (aX w2 w4.heap.size 152 4 pK v' ((m.take (k+1)).map fun r=>dK r qs)):=zh (by rw [List.take_succ_eq_append_getElem hlt,List.map_append,List.map_singleton];first|exact hg|(rw [List.map_take];exact hg))
   clear hg HG HA HB1
   go_wp2_with fail
   go_roundw
   case rel=>exact ⟨k+1,by go_num,by omega,HG2,hb2⟩
   case measure=>exact zM
  ·obtain rfl:k=m.length:=by omega
   rw [List.take_length] at HG
   obtain ⟨av,cv,rfl⟩:=HG.out.at (n:=m.length) zi
   have TOV:=zh (TO.out _ _ HG.out.Dy)
   have HB2:=zh (Bt HB.out hb)
   go_wp2_with fail
   refine TOV.out.mono ?_
   rintro e w5 (⟨hy,vo,rfl,hb5,hf⟩|⟨hy,rfl,hb5⟩)
   ·have HF:=zh hf
    have HY:=zh hy
    clear hf hy
    go_wp2_with fail
    go_ret2
    exact .inl ⟨HY.out,_,rfl,Bt HB2.out hb5,HF.out⟩
   ·have HY:=zh hy
    clear hy
    go_wp2_with fail
    go_ret2
    exact .inr ⟨HY.out,rfl,Bt HB2.out hb5⟩
theorem fV {α:Type} (f:Nat→α) (n:Nat):(List.range (n+1)).map f=(List.range n).map f++[f n]:=by
 rw [List.range_succ,List.map_append,List.map_singleton]
def dg (l:List Fr) (i j:Nat):Fr:=if j=i then l.getD i Fr.no else Fr.zero
theorem uf (v:Value) (l:List Fr) (T:TypeId) (w:World) (h:jI w T v l) (h1:1≤l.length) (h4:l.length≤4) (hok:K6 l=true) (hf:∀ x∈l,Fits x) :
  Calls Tryz.prog 42 #[v] w (aS w 0 (oG l)):=by
 obtain ⟨i0,hi,hz0,hz1,hz2⟩:=info_parts ny
 obtain ⟨i1,hi',hy0,hy1,hy2⟩:=info_parts uE
 have LI:=zh (hok ▸ GH v l T w h hf)
 obtain ⟨a,cap,rfl, -, -, hread⟩:=h.read
 have H:Hid (∀ k (_:k<l.length),∃ b off,a=some ⟨b,off,none⟩∧b<w.heap.size∧w.cell? ⟨b,off+k*2,none⟩=some (.string (l.getD k Fr.no).n)∧w.cell? ⟨b,off+k*2+1,none⟩=some (.string (l.getD k Fr.no).d)):=zh fun k hk=>by
  have:=hread k hk
  rw [show l.getD k Fr.no=l[k] by simp [hk]]
  exact this
 have hD:oG l=(List.range l.length).map fun i=>(List.range l.length).map (dg l i):=rfl
 rw [hD]
 clear hD h hread hok hf
 generalize hn:l.length=n at *
 have q1:decide ((n:Int)<1)=false:=by simp;omega
 have q2:decide ((4:Int)<(n:Int))=false:=by simp;omega
 clear hn
 obtain ⟨G,hG⟩:∃ G:Nat→Nat→Fr,Hid (G=dg l):=⟨_,zh rfl⟩
 rw [← hG.out]
 go_enter Tryz.func42,Tryz.ntmps42
 go_wp2_with fail
 refine LI.out.mono ?_
 rintro e w1 ⟨rfl,hb1⟩
 have HB1:=zh hb1
 clear hb1
 go_wp2_with fail
 go_loopw [4,5] (fun ov iv wr=>∃ k:Nat,iv= .int .i64 (k:Int)∧k≤n∧Hid (aX wr w.heap.size 56 1 jV ov ((List.range k).map fun i=>(List.range n).map (G i)))∧Below w.heap.size w wr) (fun _ iv _=>n - (intOf iv).toNat)
 case atStart=>exact ⟨0,rfl,by omega,zh (aX.nil _ _ _ _ _),HB1.out⟩
 case round =>
  obtain ⟨k,rfl,hk,HG,hb⟩:=hrel
  rcases Nat.lt_or_ge k n with hlt|hge
  ·obtain ⟨wo,rfl⟩:∃ wo:World,wo=wr:=⟨_,rfl⟩
   obtain ⟨ov,cv,rfl⟩:=HG.out.at (n:=k) zi
   obtain ⟨b,off,rfl,lb,hx1,hx2⟩:=H.out k hlt
   have X1:=zh ((hb.cell (p:=⟨b,off+k*2,none⟩) lb).trans hx1)
   have X2:=zh ((hb.cell (p:=⟨b,off+k*2+1,none⟩) lb).trans hx2)
   have Zu:b<wo.heap.size:=Nat.lt_of_lt_of_le lb hb.size
   have GK:Hid (l.getD k Fr.no=G k k):=zh (by rw [hG.out];unfold dg;rw [if_pos rfl])
   have GZ:Hid (∀ j,j≠k→G k j=Fr.zero):=zh (fun j hj=>by rw [hG.out];unfold dg;rw [if_neg hj])
   have J7:=zh hb
   clear hx1 hx2 hb
   generalize l.getD k Fr.no=lk at *
   obtain ⟨s,t⟩:=lk
   simp only at X1 X2
   go_wp2_with fail
   go_loopw [6,7] (fun rv jv wr=>∃ j:Nat,jv= .int .i64 (j:Int)∧j≤n∧Hid (aX wr wo.heap.size 36 2 rM rv ((List.range j).map (G k)))∧Below wo.heap.size wo wr) (fun _ jv _=>n - (intOf jv).toNat)
   case atStart=>exact ⟨0,rfl,by omega,zh (aX.nil _ _ _ _ _),Below.refl _ _⟩
   case round =>
    obtain ⟨j,rfl,hj,HR,hbi⟩:=hrel
    rcases Nat.lt_or_ge j n with hjlt|SY
    ·obtain ⟨rv,rc,rfl⟩:=HR.out.at (n:=j) zi
     have EO:=zh hbi
     clear hbi
     by_cases he:j=k
     ·subst he
      have g1:((j:Int) == (j:Int))=true:=by simp
      have c1:=(EO.out.cell (p:=⟨b,off+j*2,none⟩) Zu).trans X1.out
      have c2:=(EO.out.cell (p:=⟨b,off+j*2+1,none⟩) Zu).trans X2.out
      have lbi:b<wr.heap.size:=Nat.lt_of_lt_of_le Zu EO.out.size
      go_wp2_with (at_builtin;refine bN (w0:=wo) rfl (.tmp 40) (.tmp 42) 56 rfl 36 i0 (.agg #[.string ⟨#[]⟩,.string ⟨#[]⟩]) 2 32 Tryz.underlying56 hi hz0 hz1 hz2 rfl zd rM _ ((List.range j).map (G j)) rfl (HR.out.later aA (rM.stay _)) (Bt EO.out aA) _ [.string s,.string t] ⟨s,t⟩ rfl (aB.mg _ _ _ _) rfl ?c1 rfl (rM.stay _) ?c2 zo ?_)
      case c1=>intro u hu;simp only [List.mem_cons,List.not_mem_nil,or_false] at hu;rcases hu with rfl|rfl<;>rfl
      case c2=>simp;omega
      intro v' w2 hg hb2 _
      have HG2:Hid (aX w2 wo.heap.size 36 2 rM v' ((List.range (j+1)).map (G j))):=zh (by rw [fV,← GK.out];exact hg)
      clear hg HR c1 c2
      go_wp2_with fail
      go_roundw
      case rel=>exact ⟨j+1,by go_num,by omega,HG2,hb2⟩
      case measure=>exact zM
     ·have g1:((k:Int) == (j:Int))=false:=by simp;omega
      go_wp2_with (at_builtin;refine bN (w0:=wo) rfl (.tmp 40) (.tmp 42) 56 rfl 36 i0 (.agg #[.string ⟨#[]⟩,.string ⟨#[]⟩]) 2 32 Tryz.underlying56 hi hz0 hz1 hz2 rfl zd rM _ ((List.range j).map (G k)) rfl (HR.out.later aA (rM.stay _)) (Bt EO.out aA) _ [.string ⟨#[48]⟩,.string ⟨#[49]⟩] Fr.zero rfl (aB.mg _ _ _ _) rfl ?c1 rfl (rM.stay _) ?c2 zo ?_)
      case c1=>intro u hu;simp only [List.mem_cons,List.not_mem_nil,or_false] at hu;rcases hu with rfl|rfl<;>rfl
      case c2=>simp;omega
      intro v' w2 hg hb2 _
      have HG2:Hid (aX w2 wo.heap.size 36 2 rM v' ((List.range (j+1)).map (G k))):=zh (by rw [fV,GZ.out j he];exact hg)
      clear hg HR
      go_wp2_with fail
      go_roundw
      case rel=>exact ⟨j+1,by go_num,by omega,HG2,hb2⟩
      case measure=>exact zM
    ·obtain rfl:j=n:=by omega
     have wD:=zh HR.out.Dy.zL
     obtain ⟨rv,rc,rfl⟩:=HR.out.at (n:=j) zi
     have HB3:=zh (Bt J7.out hbi)
     replace HG:=zh (HG.out.later hbi (jV.stay zi))
     clear hbi HR
     go_wp2_with (at_builtin;refine bN (w0:=w) rfl (.tmp 44) (.tmp 46) 44 rfl 56 i1 (.slice none 0 0) 1 24 Tryz.underlying44 hi' hy0 hy1 hy2 rfl zd jV _ ((List.range k).map fun i=>(List.range j).map (G i)) rfl (HG.out.later aA (jV.stay zi)) (Bt HB3.out aA) _ [.slice rv j rc] ((List.range j).map (G k)) rfl (aB.new _ _ _) rfl ?c1 ⟨_,rfl,wD.out.later aA⟩ (jV.stay zi) ?c2 zo ?_)
     case c1=>intro u hu;simp only [List.mem_cons,List.not_mem_nil,or_false] at hu;rcases hu with rfl;rfl
     case c2=>simp;omega
     intro v' w2 hg hb2 _
     have HG2:Hid (aX w2 w.heap.size 56 1 jV v' ((List.range (k+1)).map fun i=>(List.range j).map (G i))):=zh (by rw [fV];exact hg)
     clear hg HG wD
     go_wp2_with fail
     go_roundw
     case rel=>exact ⟨k+1,by go_num,by omega,HG2,hb2⟩
     case measure=>exact zM
  ·obtain rfl:k=n:=by omega
   obtain ⟨ov,cv,rfl⟩:=HG.out.at (n:=k) zi
   go_wp2_with fail
   go_ret2
   exact aS.yes hb HG.out.Dy.zC
end Go.Proofs.aI
namespace Go.Proofs.aI
open Go Go.RowKit Go.SW Go.Num Go.Mem Go.Proofs Go.Dec Go.dB Go.Proofs.aG Go.Proofs.aF
theorem Oo {w:World} {v:Value} {m:List (List Fr)} (h:bO w v m):∃ pa l ca,v= .slice pa l ca:=by
 obtain ⟨a,c,e, -⟩:=bO.read h
 exact ⟨_,_,_,e⟩
theorem Km (r c:Int) (v:Value) (n m:Nat) (K:Nat→Nat→Fr) (w:World) (hv:rR w v) (hn:n≤4) (hm:m≤4)
  (hE:∀ i j:Nat,i<4→j<4→∀ W,Below w.heap.size w W→Calls Tryz.prog 108 #[.agg #[.int .u8 r,.int .u8 c,v],.int .i64 (4*(i:Int)+(j:Int))] W (fun e w'=>e= .returned (K i j).v∧Below W.heap.size W w')) :
  Calls Tryz.prog 45 #[.agg #[.int .u8 r,.int .u8 c,v],.int .i64 (n:Int),.int .i64 (m:Int)] w
   (fun e w'=>∃ v',e= .returned v'∧Below w.heap.size w w'∧bO w' v' ((List.range n).map fun i=>(List.range m).map (K i))):=by
 obtain ⟨i0,hi,hz0,hz1,hz2⟩:=info_parts ny
 obtain ⟨i1,hi',hy0,hy1,hy2⟩:=info_parts uE
 obtain ⟨a,nd,cap,rfl, -, -⟩:=hv
 have EL:=zh hE
 have HW:Hid (∀ z:Int,0≤z∧z≤1000000000→IntKind.i64.wrap z=z):=zh fun z h=>by unfold IntKind.wrap;simp [IntKind.bits,IntKind.signed];omega
 clear hE
 go_enter Tryz.func45,Tryz.ntmps45
 go_wp2_with fail
 have hb1:Below w.heap.size w (w.alloc (.cells #[.int .u8 r,.int .u8 c,.slice a nd cap] 53)):=aA
 have HD:Hid (aB (w.alloc (.cells #[.int .u8 r,.int .u8 c,.slice a nd cap] 53)) w.heap.size #[.int .u8 r,.int .u8 c,.slice a nd cap] 53):=zh (aB.new _ _ _)
 obtain ⟨w1,EW⟩:∃ y,w.alloc (.cells #[.int .u8 r,.int .u8 c,.slice a nd cap] 53)=y:=⟨_,rfl⟩
 rw [EW] at hb1 HD ⊢
 have HB1:=zh hb1
 clear EW hb1
 go_loopw [7,8] (fun ov iv wr=>∃ k:Nat,iv= .int .i64 (k:Int)∧k≤n∧Hid (aX wr w1.heap.size 56 1 jV ov ((List.range k).map fun i=>(List.range m).map (K i)))∧Below w1.heap.size w1 wr) (fun _ iv _=>n - (intOf iv).toNat)
 case atStart=>exact ⟨0,rfl,by omega,zh (aX.nil _ _ _ _ _),Below.refl _ _⟩
 case round =>
  obtain ⟨k,rfl,hk,HG,hb⟩:=hrel
  rcases Nat.lt_or_ge k n with hlt|hge
  ·obtain ⟨wo,rfl⟩:∃ wo:World,wo=wr:=⟨_,rfl⟩
   obtain ⟨ov,cv,rfl⟩:=HG.out.at (n:=k) zi
   have J7:=zh hb
   have HDo:=zh (HD.out.later hb)
   clear hb
   go_wp2_with fail
   go_loopw [9,10] (fun rv jv wr=>∃ j:Nat,jv= .int .i64 (j:Int)∧j≤m∧Hid (aX wr wo.heap.size 36 2 rM rv ((List.range j).map (K k)))∧Below wo.heap.size wo wr) (fun _ jv _=>m - (intOf jv).toNat)
   case atStart=>exact ⟨0,rfl,by omega,zh (aX.nil _ _ _ _ _),Below.refl _ _⟩
   case round =>
    obtain ⟨j,rfl,hj,HR,hbi⟩:=hrel
    rcases Nat.lt_or_ge j m with hjlt|SY
    ·obtain ⟨rv,rc,rfl⟩:=HR.out.at (n:=j) zi
     have hdi:=HDo.out.later hbi
     have cD:=hdi.cell
     have lD:=hdi.lt
     have EO:=zh hbi
     have EC:=EL.out k j zo zo wr (Bt HB1.out (Bt J7.out hbi))
     have w1':=HW.out (4*(k:Int)) zo
     have w2':=HW.out (4*(k:Int)+(j:Int)) zo
     obtain ⟨⟨s,t⟩,EK⟩:∃ y,Hid (K k j=y):=⟨_,zh rfl⟩
     rw [EK.out] at EC
     unfold Fr.v at EC
     have HEC:=zh EC
     clear EC hbi hdi
     go_wp2_with fail
     refine HEC.out.mono ?_
     rintro e w2 ⟨rfl,hb2⟩
     have HB2:=zh (Bt EO.out hb2)
     replace HR:=zh (HR.out.later hb2 (rM.stay _))
     clear hb2 HEC EO cD lD w1' w2'
     go_wp2_with (at_builtin;refine bN (w0:=wo) rfl (.tmp 21) (.tmp 28) 56 rfl 36 i0 (.agg #[.string ⟨#[]⟩,.string ⟨#[]⟩]) 2 32 Tryz.underlying56 hi hz0 hz1 hz2 rfl zd rM _ ((List.range j).map (K k)) rfl (HR.out.later aA (rM.stay _)) (Bt HB2.out aA) _ [.string s,.string t] ⟨s,t⟩ rfl (aB.new _ _ _) rfl ?c1 rfl (rM.stay _) ?c2 zo ?_)
     case c1=>intro u hu;simp only [List.mem_cons,List.not_mem_nil,or_false] at hu;rcases hu with rfl|rfl<;>rfl
     case c2=>simp;omega
     intro v' w3 hg hb3 _
     have HG2:Hid (aX w3 wo.heap.size 36 2 rM v' ((List.range (j+1)).map (K k))):=zh (by rw [fV,EK.out];exact hg)
     clear hg HR HB2
     go_wp2_with fail
     go_roundw
     case rel=>exact ⟨j+1,by go_num,by omega,HG2,hb3⟩
     case measure=>exact zM
    ·obtain rfl:j=m:=by omega
     have wD:=zh HR.out.Dy.zL
     obtain ⟨rv,rc,rfl⟩:=HR.out.at (n:=j) zi
     have HB3:=zh (Bt J7.out hbi)
     replace HG:=zh (HG.out.later hbi (jV.stay zi))
     clear hbi HR
     go_wp2_with (at_builtin;refine bN (w0:=w1) rfl (.tmp 30) (.tmp 32) 44 rfl 56 i1 (.slice none 0 0) 1 24 Tryz.underlying44 hi' hy0 hy1 hy2 rfl zd jV _ ((List.range k).map fun i=>(List.range j).map (K i)) rfl (HG.out.later aA (jV.stay zi)) (Bt HB3.out aA) _ [.slice rv j rc] ((List.range j).map (K k)) rfl (aB.new _ _ _) rfl ?c1 ⟨_,rfl,wD.out.later aA⟩ (jV.stay zi) ?c2 zo ?_)
     case c1=>intro u hu;simp only [List.mem_cons,List.not_mem_nil,or_false] at hu;rcases hu with rfl;rfl
     case c2=>simp;omega
     intro v' w2 hg hb2 _
     have HG2:Hid (aX w2 w1.heap.size 56 1 jV v' ((List.range (k+1)).map fun i=>(List.range j).map (K i))):=zh (by rw [fV];exact hg)
     clear hg HG wD
     go_wp2_with fail
     go_roundw
     case rel=>exact ⟨k+1,by go_num,by omega,HG2,hb2⟩
     case measure=>exact zM
  ·obtain rfl:k=n:=by omega
   obtain ⟨ov,cv,rfl⟩:=HG.out.at (n:=k) zi
   go_wp2_with fail
   go_ret
   exact ⟨_,rfl,Bt HB1.out hb,HG.out.Dy.zC⟩
theorem ag8 (r c:Int) (v:Value) (w:World) (hr:0≤r∧r≤255) (hc:0≤c∧c≤255) (hv:rR w v):∃ (n m:Nat) (G:Nat→Nat→Rat),1≤n∧n≤4∧1≤m∧m≤4∧(∀ i j,dA (G i j)=true)∧∀ W,Below w.heap.size w W →
  Calls Tryz.prog 17 #[.agg #[.int .u8 r,.int .u8 c,v]] W
   (fun e w'=>∃ v',e= .returned v'∧Below W.heap.size W w'∧bO w' v' ((List.range n).map fun i=>(List.range m).map fun j=>Fr.of (G i j))):=by
 obtain ⟨g,hg⟩:=Classical.skolem.1 fun k:Nat=>(by
  by_cases hk:k≤1000
  ·obtain ⟨q,hq,h⟩:=LK r c v k hk w hv
   exact ⟨q,hq,fun _=>h⟩
  ·exact ⟨0,by decide+kernel,fun h=>absurd h hk⟩:∃ q:Rat,dA q=true∧(k≤1000→∀ W,Below w.heap.size w W→Calls Tryz.prog 108 #[.agg #[.int .u8 r,.int .u8 c,v],.int .i64 (k:Int)] W (fun e w'=>e= .returned (Fr.of q).v∧Below W.heap.size W w')))
 obtain ⟨n,en⟩:∃ n:Nat,1+r%4=(n:Int):=⟨(1+r%4).toNat,by omega⟩
 obtain ⟨m,em⟩:∃ m:Nat,1+c%4=(m:Int):=⟨(1+c%4).toNat,by omega⟩
 refine ⟨n,m,fun i j=>g (4*i+j),by omega,by omega,by omega,by omega,fun i j=>(hg _).1,fun W hW=>?_⟩
 have SZ:=zh (fun W' (h:Below W.heap.size W W')=>Km r c v n m (fun i j=>Fr.of (g (4*i+j))) W' ((hv.later hW).later h) zo zo fun i j hi hj W2 h2=>by
  have:=(hg (4*i+j)).2 zo W2 (Bt hW (Bt h h2))
  rw [show (((4*i+j:Nat)):Int)=4*(i:Int)+(j:Int) by omega] at this
  exact this)
 have h1:r.tmod 4=r%4:=Int.tmod_eq_emod_of_nonneg hr.1
 have h2:c.tmod 4=c%4:=Int.tmod_eq_emod_of_nonneg hc.1
 have h3:IntKind.u8.wrap (r%4)=r%4:=by unfold IntKind.wrap;simp [IntKind.bits,IntKind.signed];omega
 have h4:IntKind.u8.wrap (c%4)=c%4:=by unfold IntKind.wrap;simp [IntKind.bits,IntKind.signed];omega
 have h5:IntKind.i64.wrap (r%4)=r%4:=by unfold IntKind.wrap;simp [IntKind.bits,IntKind.signed];omega
 have h6:IntKind.i64.wrap (c%4)=c%4:=by unfold IntKind.wrap;simp [IntKind.bits,IntKind.signed];omega
 have h7:IntKind.i64.wrap (1+r%4)=(n:Int):=by rw [← en];unfold IntKind.wrap;simp [IntKind.bits,IntKind.signed];omega
 have h8:IntKind.i64.wrap (1+c%4)=(m:Int):=by rw [← em];unfold IntKind.wrap;simp [IntKind.bits,IntKind.signed];omega
 obtain ⟨a,nd,cap,rfl, -, -⟩:=hv
 generalize ((List.range n).map fun i=>(List.range m).map fun j=>Fr.of (g (4*i+j)))=M at *
 clear hg hW en em
 go_enter Tryz.func17,Tryz.ntmps17
 go_wp2_with fail
 refine (SZ.out _ aA).mono ?_
 rintro e w2 ⟨v,rfl,hb2,hm⟩
 have HM:=zh hm
 have hb3:=Bt (show Below W.heap.size W (W.alloc (.cells #[.int .u8 r,.int .u8 c,.slice a nd cap] 53)) from aA) hb2
 obtain ⟨pa,l,ca,rfl⟩:=Oo hm
 clear hm hb2
 go_wp2_with fail
 go_ret
 exact ⟨_,rfl,hb3,HM.out⟩
end Go.Proofs.aI
namespace Go.Proofs.aI
open Go Go.RowKit Go.SW Go.Num Go.Mem Go.Proofs Go.Dec Go.dB Go.Proofs.aG Go.Proofs.matrix
theorem Gx (v:Value) (m:List (List Fr)) (n:Nat) (w:World) (h:bO w v m) (hok:FL m=true) (hf:pQ m) (h1:1≤m.length) (h4:m.length≤4) (n4:n≤4) (hr:∀ r∈m,r.length=n) :
  Calls Tryz.prog 106 #[v] w (aS w 0 (kI m n)):=by
 obtain ⟨i0,hi,hz0,hz1,hz2⟩:=info_parts ny
 obtain ⟨i1,hi',hy0,hy1,hy2⟩:=info_parts uE
 have RI:=zh (hok ▸ oK v m w h hf)
 obtain ⟨a,cap,rfl, -, -, hread⟩:=bO.read h
 obtain ⟨b,off,a0,c0,rfl,lb,cell0, -⟩:=hread 0 zo
 rw [hr _ (List.getElem_mem _)] at cell0
 have H:Hid (∀ k (_:k<m.length),∃ a' c',w.cell? ⟨b,off+k,none⟩=some (.slice a' n c')∧∀ i,i<n→∃ b2 off2,a'=some ⟨b2,off2,none⟩∧b2<w.heap.size∧w.cell? ⟨b2,off2+i*2,none⟩=some (.string (m[k].getD i Fr.no).n)∧w.cell? ⟨b2,off2+i*2+1,none⟩=some (.string (m[k].getD i Fr.no).d)):=zh fun k hk=>by
  obtain ⟨b',off',a',c',e, -, k1,k2⟩:=hread k hk
  simp only [Option.some.injEq,Addr.mk.injEq,and_true] at e
  obtain ⟨rfl,rfl⟩:=e
  have hl:=hr _ (List.getElem_mem hk)
  rw [hl] at k1
  refine ⟨a',c',k1,fun i hi=>?_⟩
  obtain ⟨a2,c2,e2, -, -, hat⟩:=k2.read
  simp only [Value.slice.injEq] at e2
  obtain ⟨rfl, -, rfl⟩:=e2
  obtain ⟨b2,off2,k3,k4,k5,k6⟩:=hat i zo
  rw [show m[k].getD i Fr.no=m[k][i] by simp [hl,hi]]
  exact ⟨b2,off2,k3,k4,k5,k6⟩
 have h0m:0<m.length:=by omega
 have hT:kI m n=(List.range n).map fun i=>m.map fun r=>r.getD i Fr.no:=rfl
 rw [hT]
 clear hT h hread hok hf hr
 go_enter Tryz.func106,Tryz.ntmps106
 go_wp2_with fail
 refine RI.out.mono ?_
 rintro e w1 ⟨rfl,hb1⟩
 have HB1:=zh hb1
 clear hb1
 go_wp2_with fail
 go_loopw [4,5] (fun ov iv wr=>∃ k:Nat,iv= .int .i64 (k:Int)∧k≤n∧Hid (aX wr w.heap.size 56 1 jV ov ((List.range k).map fun i=>m.map fun r=>r.getD i Fr.no))∧Below w.heap.size w wr) (fun _ iv _=>n - (intOf iv).toNat)
 case atStart=>exact ⟨0,rfl,by omega,zh (aX.nil _ _ _ _ _),HB1.out⟩
 case round =>
  obtain ⟨k,rfl,hk,HG,hb⟩:=hrel
  have ck:=(hb.cell (p:=⟨b,off,none⟩) lb).trans cell0
  rcases Nat.lt_or_ge k n with hlt|hge
  ·obtain ⟨wo,rfl⟩:∃ wo:World,wo=wr:=⟨_,rfl⟩
   obtain ⟨ov,cv,rfl⟩:=HG.out.at (n:=k) zi
   have Zu:b<wo.heap.size:=Nat.lt_of_lt_of_le lb hb.size
   have J7:=zh hb
   clear hb
   go_wp2_with fail
   clear ck
   go_loopw [6,7] (fun rv jv wr=>∃ j:Nat,jv= .int .i64 (j:Int)∧j≤m.length∧Hid (aX wr wo.heap.size 36 2 rM rv ((m.take j).map fun r=>r.getD k Fr.no))∧Below wo.heap.size wo wr) (fun _ jv _=>m.length - (intOf jv).toNat)
   case atStart=>exact ⟨0,rfl,by omega,zh (aX.nil _ _ _ _ _),Below.refl _ _⟩
   case round =>
    obtain ⟨j,rfl,hj,HR,hbi⟩:=hrel
    rcases Nat.lt_or_ge j m.length with hjlt|SY
    ·obtain ⟨rv,rc,rfl⟩:=HR.out.at (n:=j) (by simp;omega)
     have EO:=zh hbi
     clear hbi
     obtain ⟨a',c',x1,hat⟩:=H.out j hjlt
     obtain ⟨b2,off2,rfl,FV,y1,y2⟩:=hat k hlt
     have hbw:=Bt J7.out EO.out
     have d1:=(hbw.cell (p:=⟨b,off+j,none⟩) lb).trans x1
     have d2:=(hbw.cell (p:=⟨b2,off2+k*2,none⟩) FV).trans y1
     have d3:=(hbw.cell (p:=⟨b2,off2+k*2+1,none⟩) FV).trans y2
     have lb3:b2<wr.heap.size:=Nat.lt_of_lt_of_le FV hbw.size
     have lb4:b<wr.heap.size:=Nat.lt_of_lt_of_le lb hbw.size
     clear x1 y1 y2 hat hbw FV
     obtain ⟨f,hfe⟩:∃ f,m[j].getD k Fr.no=f:=⟨_,rfl⟩
     have HFE:=zh hfe
     rw [hfe] at d2 d3
     clear hfe
     obtain ⟨s,t⟩:=f
     go_wp2_with (at_builtin;refine bN (w0:=wo) rfl (.tmp 25) (.tmp 33) 56 rfl 36 i0 (.agg #[.string ⟨#[]⟩,.string ⟨#[]⟩]) 2 32 Tryz.underlying56 hi hz0 hz1 hz2 rfl zd rM _ ((m.take j).map fun r=>r.getD k Fr.no) rfl (HR.out.later aA (rM.stay _)) (Bt EO.out aA) _ [.string s,.string t] ⟨s,t⟩ rfl (aB.new _ _ _) rfl ?c1 rfl (rM.stay _) ?c2 zo ?_)
     case c1=>first|exact ⟨rfl,rfl⟩|(intro u hu;simp only [List.mem_cons,List.not_mem_nil,or_false] at hu;rcases hu with rfl|rfl<;>rfl)
     case c2=>first|omega|(simp;omega)
     intro v' w2 hg hb2 _
     have HG2:Hid (aX w2 wo.heap.size 36 2 rM v' ((m.take (j+1)).map fun r=>r.getD k Fr.no)):=zh (by rw [List.take_succ_eq_append_getElem hjlt,List.map_append,List.map_singleton,HFE.out];first|exact hg|(rw [List.map_take];exact hg))
     clear hg HR d1 d2 d3
     go_wp2_with fail
     go_roundw
     case rel=>exact ⟨j+1,by go_num,by omega,HG2,hb2⟩
     case measure=>exact zM
    ·obtain rfl:j=m.length:=by omega
     rw [List.take_length] at HR
     have wD:=zh HR.out.Dy.zL
     obtain ⟨rv,rc,rfl⟩:=HR.out.at (n:=m.length) zi
     have HB3:=zh (Bt J7.out hbi)
     replace HG:=zh (HG.out.later hbi (jV.stay zi))
     clear hbi HR
     go_wp2_with (at_builtin;refine bN (w0:=w) rfl (.tmp 35) (.tmp 37) 44 rfl 56 i1 (.slice none 0 0) 1 24 Tryz.underlying44 hi' hy0 hy1 hy2 rfl zd jV _ ((List.range k).map fun i=>m.map fun r=>r.getD i Fr.no) rfl (HG.out.later aA (jV.stay zi)) (Bt HB3.out aA) _ [.slice rv m.length rc] (m.map fun r=>r.getD k Fr.no) rfl (aB.new _ _ _) rfl ?c1 ⟨_,rfl,wD.out.later aA⟩ (jV.stay zi) ?c2 zo ?_)
     case c1=>intro u hu;simp only [List.mem_cons,List.not_mem_nil,or_false] at hu;rcases hu with rfl;rfl
     case c2=>simp;omega
     intro v' w2 hg hb2 _
     have HG2:Hid (aX w2 w.heap.size 56 1 jV v' ((List.range (k+1)).map fun i=>m.map fun r=>r.getD i Fr.no)):=zh (by rw [fV];exact hg)
     clear hg HG wD
     go_wp2_with fail
     go_roundw
     case rel=>exact ⟨k+1,by go_num,by omega,HG2,hb2⟩
     case measure=>exact zM
  ·obtain rfl:k=n:=by omega
   obtain ⟨ov,cv,rfl⟩:=HG.out.at (n:=k) zi
   go_wp2_with fail
   go_ret2
   exact aS.yes hb HG.out.Dy.zC
theorem mX.get {w:World} {v:Value} {m:RM} (h:mX w v m) {n:Nat} (hm:∀ r∈m,r.length=n) (h0:0<m.length):∃ b off cap,v= .slice (some ⟨b,off,none⟩) m.length cap∧b<w.heap.size ∧
  ∀ k (_:k<m.length),∃ a' c',w.cell? ⟨b,off+k,none⟩=some (.slice a' n c')∧kT w (.slice a' n c') m[k]:=by
 obtain ⟨a,cap,rfl, -, -, hat⟩:=mX.at h
 obtain ⟨b,off, -, -, rfl,lb, -, -⟩:=hat 0 h0
 refine ⟨b,off,cap,rfl,lb,fun k hk=>?_⟩
 obtain ⟨b',off',a',c',e, -, k1,k2⟩:=hat k hk
 simp only [Option.some.injEq,Addr.mk.injEq,and_true] at e
 obtain ⟨rfl,rfl⟩:=e
 rw [hm _ (List.getElem_mem hk)] at k1 k2
 exact ⟨a',c',k1,k2⟩
theorem tV (va vb:Value) (ma mb:RM) (n:Nat) (w:World) (ha:bO w va ma.fr) (hb:bO w vb mb.fr) (RO:ma.ok mb.length) (UW:mb.ok n) :
  Calls Tryz.prog 43 #[va,vb] w (aS w (if gX (iY ma mb n) then 0 else 6) (iY ma mb n).fr):=by
 obtain ⟨i0,hi,hz0,hz1,hz2⟩:=info_parts Bl
 obtain ⟨i1,hi',hy0,hy1,hy2⟩:=info_parts Aa
 have M7:=Jo UW
 obtain ⟨a1,a4,b1,b4,xH⟩:=id RO
 obtain ⟨-, -, n1,n4,Yp⟩:=id UW
 have R1:=zh (fun W (hW:Below w.heap.size w W)=>uI va ma _ W (ha.later hW) RO)
 have R2:=zh (fun W (hW:Below w.heap.size w W)=>uI vb mb _ W (hb.later hW) UW)
 have TR:=zh (fun W (hW:Below w.heap.size w W)=>Gx vb mb.fr n W (hb.later hW) (RQ UW) (Yh UW) (by rw [RM.fr,List.length_map];omega) (by rw [RM.fr,List.length_map];omega) n4 (fun r hr=>by
  obtain ⟨s,hs,rfl⟩:=List.mem_map.1 hr
  rw [List.length_map];exact (Yp s hs).1))
 rw [Dv UW] at TR
 have I1:=zh (fun W (hW:Below w.heap.size w W)=>tZ va ma W (ha.later hW) (fun r hr=>(xH r hr).2) ⟨by omega,fun r hr=>by rw [(xH r hr).1];omega⟩)
 have hcl:(jM mb n).length=n:=by simp [jM]
 have hcg:∀ c (h:c<(jM mb n).length),(jM mb n)[c]=Gr mb c:=fun c hc=>by simp [jM]
 have hml:(iY ma mb n)=ma.map fun r=>(List.range n).map fun c=>dK r (Gr mb c):=rfl
 have hsz:∀ r∈iY ma mb n,∀ q∈r,QM q:=fun r hr q hq=>by
  obtain ⟨x,hx,rfl⟩:=List.mem_map.1 hr
  obtain ⟨c,hc,rfl⟩:=List.mem_map.1 hq
  have hc':c<(jM mb n).length:=by rw [hcl];exact List.mem_range.1 hc
  have hm:=List.getElem_mem hc'
  rw [hcg c hc'] at hm
  exact Nw (((M7.2.2.2.2 _ hm).1).trans (xH x hx).1.symm) (by rw [(xH x hx).1];omega) (szM RO x hx) (szM M7 _ hm)
 have OU:=zh (fun v W h=>Ol v (iY ma mb n) W h hsz ⟨by rw [hml,List.length_map];omega,fun r hr=>by
  obtain ⟨x,hx,rfl⟩:=List.mem_map.1 hr
  simp;omega⟩)
 generalize (if gX (iY ma mb n) then (0:Int) else 6)=er at *
 have I2:=zh (fun v W (h:bO W v (jM mb n).fr)=>tZ v (jM mb n) W h (fun r hr=>(M7.2.2.2.2 r hr).2) ⟨by omega,fun r hr=>by rw [(M7.2.2.2.2 r hr).1];omega⟩)
 have DT:Hid (∀ x (_:x<ma.length) c (_:c<(jM mb n).length) (v1 v2:Value) W,kT W v1 ma[x]→kT W v2 (jM mb n)[c]→Calls Tryz.prog 107 #[v1,v2] W (dH W (dK ma[x] (Gr mb c)))):=zh fun x hx c hc v1 v2 W h1 h2=>by
  have hmx:=List.getElem_mem hx
  have hmc:=List.getElem_mem hc
  have e:=UM v1 v2 ma[x] (jM mb n)[c] W h1 h2 ((M7.2.2.2.2 _ hmc).1.trans (xH _ hmx).1.symm) (by rw [(xH _ hmx).1];omega) (szM RO _ hmx) (szM M7 _ hmc)
  rw [hcg c hc] at e
  exact e
 have AR:Hid (∀ r∈ma,r.length=mb.length):=zh fun r hr=>(xH r hr).1
 have CR:Hid (∀ r∈jM mb n,r.length=mb.length):=zh fun r hr=>(M7.2.2.2.2 r hr).1
 obtain ⟨a,cap,rfl, -, -, hread⟩:=bO.read ha
 have hfl:ma.fr.length=ma.length:=List.length_map _
 obtain ⟨b,off,a0,c0,rfl,lb,cell0, -⟩:=hread 0 zo
 have e0:(ma.fr[0]'zo).length=mb.length:=by
  simp only [RM.fr,List.getElem_map,List.length_map]
  exact (xH _ (List.getElem_mem _)).1
 rw [e0] at cell0
 obtain ⟨a2,cap2,rfl, -, -, -⟩:=bO.read hb
 have hbl:mb.fr.length=mb.length:=List.length_map _
 rw [hbl] at R2 TR ⊢
 rw [hfl] at R1 I1 ⊢
 rw [hml] at OU ⊢
 have h0m:0<ma.length:=by omega
 have hc0:0<(jM mb n).length:=by omega
 obtain ⟨C,HC⟩:∃ C:Nat→List Rat,Hid (Gr mb=C):=⟨_,zh rfl⟩
 rw [HC.out] at OU DT ⊢
 generalize jM mb n=mc at *
 generalize mb.length=l at *
 clear hml ha hb hread M7 RO UW xH Yp hsz hcg e0 hfl hbl HC
 subst hcl
 go_enter Tryz.func43,Tryz.ntmps43
 go_wp2_with fail
 refine (R1.out _ (Below.refl _ _)).mono ?_
 rintro e w1 ⟨rfl,hb1⟩
 go_wp2_with fail
 refine (R2.out _ hb1).mono ?_
 rintro e w2 ⟨rfl,hb2⟩
 have h2:=Bt hb1 hb2
 have ck:=(h2.cell (p:=⟨b,off,none⟩) lb).trans cell0
 have l2:b<w2.heap.size:=Nat.lt_of_lt_of_le lb h2.size
 have g1:((l:Int) != (l:Int))=false:=by simp
 go_wp2_with fail
 refine (TR.out _ h2).mono ?_
 rintro e w3 ⟨hb3,vt,rfl,hmt, -⟩
 replace hmt:=hmt rfl
 have h3:=Bt h2 hb3
 clear ck l2 cell0 lb
 obtain ⟨at',ct,rfl, -⟩:=bO.read hmt
 generalize mc.fr.length=nt at *
 go_wp2_with fail
 refine (I1.out _ h3).mono ?_
 rintro e w4 ⟨vx,rfl,hb4,hx⟩
 obtain ⟨bx,ox,cx,rfl,lx,ap7⟩:=mX.get hx AR.out h0m
 go_wp2_with fail
 refine (I2.out _ _ (hmt.later hb4)).mono ?_
 rintro e w5 ⟨vy,rfl,hb5,hy⟩
 obtain ⟨bY,oy,cy,rfl,ly,ap4⟩:=mX.get hy CR.out hc0
 have HB:=zh (Bt (Bt h3 hb4) hb5)
 have HX:Hid (∀ k (_:k<ma.length),∃ a' c',w5.cell? ⟨bx,ox+k,none⟩=some (.slice a' l c')∧kT w5 (.slice a' l c') ma[k]):=zh fun k hk=>by
  obtain ⟨a',c',k1,k2⟩:=ap7 k hk
  exact ⟨a',c',(hb5.cell (p:=⟨bx,ox+k,none⟩) lx).trans k1,k2.later hb5⟩
 have HY:=zh ap4
 have lx5:bx<w5.heap.size:=Nat.lt_of_lt_of_le lx hb5.size
 clear hx hy ap7 ap4 hmt hb1 hb2 hb3 hb4 hb5 h2 h3 lx R1 R2 TR I1 I2
 go_wp2_with fail
 go_loopw [10,11] (fun ov iv wr=>∃ k:Nat,iv= .int .i64 (k:Int)∧k≤ma.length∧Hid (aX wr w5.heap.size 154 1 jU ov ((ma.take k).map fun r=>(List.range mc.length).map fun c=>dK r (C c)))∧Below w5.heap.size w5 wr) (fun _ iv _=>ma.length - (intOf iv).toNat)
 case atStart=>exact ⟨0,rfl,by omega,zh (aX.nil _ _ _ _ _),Below.refl _ _⟩
 case round =>
  obtain ⟨k,rfl,hk,HG,hb⟩:=hrel
  rcases Nat.lt_or_ge k ma.length with hlt|hge
  ·obtain ⟨wo,rfl⟩:∃ wo:World,wo=wr:=⟨_,rfl⟩
   obtain ⟨ov,cv,rfl⟩:=HG.out.at (n:=k) (by simp;omega)
   obtain ⟨a',c',x1,qP⟩:=HX.out k hlt
   have HXR:=zh qP
   have J7:=zh hb
   clear hb qP
   go_wp2_with fail
   go_loopw [12,13] (fun rv jv wr=>∃ j:Nat,jv= .int .i64 (j:Int)∧j≤mc.length∧Hid (aX wr wo.heap.size 152 4 pK rv ((List.range j).map fun c=>dK ma[k] (C c)))∧Below wo.heap.size wo wr) (fun _ jv _=>mc.length - (intOf jv).toNat)
   case atStart=>exact ⟨0,rfl,by omega,zh (aX.nil _ _ _ _ _),Below.refl _ _⟩
   case round =>
    obtain ⟨j,rfl,hj,HR,hbi⟩:=hrel
    rcases Nat.lt_or_ge j mc.length with hjlt|SY
    ·obtain ⟨rv,rc,rfl⟩:=HR.out.at (n:=j) zi
     obtain ⟨a2,c2,y1,hyr⟩:=HY.out j hjlt
     have hbw:=Bt J7.out hbi
     have d1:=(hbw.cell (p:=⟨bx,ox+k,none⟩) lx5).trans x1
     have d2:=(hbw.cell (p:=⟨bY,oy+j,none⟩) ly).trans y1
     have l1:bx<wr.heap.size:=Nat.lt_of_lt_of_le lx5 hbw.size
     have l2:bY<wr.heap.size:=Nat.lt_of_lt_of_le ly hbw.size
     have DO:=zh (fun W (hW:Below wr.heap.size wr W)=>DT.out k hlt j hjlt _ _ W ((HXR.out.later hbw).later hW) ((hyr.later hbw).later hW))
     have EO:=zh hbi
     clear hbi y1 hyr hbw
     go_wp2_with fail
     refine aC [(.pure,0),(.pure,1),(.pure,2),(.pure,3),(.read,4),(.pure,5),(.pure,6),(.pure,7),(.read,8),(.ext,9),(.ext,10),(.fin,11),(.fin,12)] zk zk zR zP ?_;refine Wk.out ?_;(iterate 9 (first|(apply jE;(rfl);(rfl);(rfl);(intro J hJ;go_simp;(with_reducible refine hJ _ ?_);clear hJ J))|(apply lg;(rfl);(rfl);(rfl);(rfl);(exact zk);(intro J hJ;go_simp;(with_reducible refine hJ _ ?_);clear hJ J))|(apply ji;(rfl);(rfl);(intro J hJ;go_simp;(with_reducible refine hJ _ ?_);clear hJ J))|(apply jF;(rfl);(rfl);(rfl);(rfl);(intro J hJ;go_simp;(with_reducible refine hJ _ ?_);clear hJ J;try go_simp))))
     refine jY rfl rfl (fun wa hba J hJ=>?_);go_simp
     have z1:Below wr.heap.size wr wa:=aA
     refine (DO.out _ z1).mono ?_
     rintro e wb ⟨v,rfl,hbb,hrt⟩
     obtain ⟨u1,u2,u3,u4,u5,u6,u7,u8,rfl, -, -⟩:=id hrt
     have HT:=zh hrt
     refine hJ _ _ hbb ?_
     clear hJ J hrt
     refine jY rfl rfl (fun wc hbc J hJ=>?_);go_simp
     have z2:Below wb.heap.size wb wc:=aA
     have z3:Below wr.heap.size wr wc:=Bt (Bt z1 hbb) z2
     refine hJ _ _ aA ?_
     clear hJ J
     have hbx:=aB.new wc #[.bool u1,.slice u2 u3 u4,.bool u5,.slice u6 u7 u8] 152
     have z4:Below wc.heap.size wc (wc.alloc (.cells #[.bool u1,.slice u2 u3 u4,.bool u5,.slice u6 u7 u8] 152)):=aA
     refine Ak [_,_] rfl (fun wf hbf=>?_)
     have z5:=Bt z4 hbf
     have z6:=Bt z3 z5
     refine bN (w0:=wo) rfl (.tmp 50) (.tmp 60) 154 rfl 152 i0 (.agg #[.bool false,.slice none 0 0,.bool false,.slice none 0 0]) 4 64 Tryz.underlying154 hi hz0 hz1 hz2 rfl zd pK _ ((List.range j).map fun c=>dK ma[k] (C c)) rfl (HR.out.later z6 (pK.stay zi)) (Bt EO.out z6) _ [.bool u1,.slice u2 u3 u4,.bool u5,.slice u6 u7 u8] (dK ma[k] (C j)) rfl (hbx.later hbf) rfl (fun u hu=>by simp only [List.mem_cons,List.not_mem_nil,or_false] at hu;rcases hu with rfl|rfl|rfl|rfl<;>rfl) ⟨_,_,_,_,_,_,_,_,rfl,(HT.out.later z2).later z5⟩ (pK.stay zi) (by simp;omega) zo ?_
     intro v' w2 hg hb2 _
     have HG2:Hid (aX w2 wo.heap.size 152 4 pK v' ((List.range (j+1)).map fun c=>dK ma[k] (C c))):=zh (by rw [fV];exact hg)
     clear hg HR d1 d2 HT hbx z1 z2 z3 z4 z5 z6 hba hbb hbc hbf
     go_wp2_with fail
     go_roundw
     case rel=>exact ⟨j+1,by go_num,by omega,HG2,hb2⟩
     case measure=>exact zM
    ·obtain rfl:j=mc.length:=by omega
     have HRV:Hid (kT wr _ _):=zh HR.out.Dy
     obtain ⟨rv,rc,rfl⟩:=HR.out.at (n:=mc.length) zi
     have HB3:=zh (Bt J7.out hbi)
     replace HG:=zh (HG.out.later hbi (jU.stay zi zi))
     clear hbi HR
     go_wp2_with (at_builtin;refine bN (w0:=w5) rfl (.tmp 62) (.tmp 64) 146 rfl 154 i1 (.slice none 0 0) 1 24 Tryz.underlying146 hi' hy0 hy1 hy2 rfl zd jU _ ((ma.take k).map fun r=>(List.range mc.length).map fun c=>dK r (C c)) rfl (HG.out.later aA (jU.stay zi zi)) (Bt HB3.out aA) _ [.slice rv mc.length rc] ((List.range mc.length).map fun c=>dK ma[k] (C c)) rfl (aB.new _ _ _) rfl ?c1 ⟨_,rfl,HRV.out.later aA⟩ (jU.stay zi zi) ?c2 zo ?_)
     case c1=>first|(intro u hu;simp only [List.mem_cons,List.not_mem_nil,or_false] at hu;rcases hu with rfl;rfl)|rfl
     case c2=>first|omega|(simp;omega)
     intro v' w2 hg hb2 _
     have HG2:Hid (aX w2 w5.heap.size 154 1 jU v' ((ma.take (k+1)).map fun r=>(List.range mc.length).map fun c=>dK r (C c))):=zh (by rw [List.take_succ_eq_append_getElem hlt,List.map_append,List.map_singleton];first|exact hg|(rw [List.map_take];exact hg))
     clear hg HG HRV
     go_wp2_with fail
     go_roundw
     case rel=>exact ⟨k+1,by go_num,by omega,HG2,hb2⟩
     case measure=>exact zM
  ·obtain rfl:k=ma.length:=by omega
   rw [List.take_length] at HG
   obtain ⟨ov,cv,rfl⟩:=HG.out.at (n:=ma.length) zi
   have OUV:=zh (OU.out _ _ HG.out.Dy)
   have HB2:=zh (Bt HB.out hb)
   go_wp2_with fail
   refine OUV.out.mono ?_
   rintro e w6 ⟨hb6,v,rfl,hy1,hy2⟩
   have HP:Hid (aS w er _ (.returned (.tuple #[v,.int .i64 er])) w6):=zh ⟨Bt HB2.out hb6,v,rfl,hy1,hy2⟩
   clear hy1 hy2 hb6
   go_wp2_with fail
   go_ret2
   exact HP.out
def BM (j:Nat) (r:List Rat):List Rat:=r.take j++r.drop (j+1)
def rW (m:RM) (i j k:Nat):RM:=(if k≤i then m.take k else m.take i++(m.take k).drop (i+1)).map (BM j)
def bL (m:RM) (i j:Nat):RM:=(m.take i++m.drop (i+1)).map (BM j)
theorem Jj {m:RM} {i j:Nat} (hi:i<m.length):rW m i j m.length=bL m i j:=by
 unfold rW bL
 rw [if_neg zo,List.take_length]
theorem WM {m:RM} {i j:Nat} (hi:i<m.length):rW m i j (i+1)=rW m i j i:=by
 unfold rW
 rw [if_neg zo,if_pos (Nat.le_refl _)]
 rw [show (m.take (i+1)).drop (i+1)=[] by simp,List.append_nil]
theorem P8 {m:RM} {i j k:Nat} (hk:k<m.length) (hne:k≠i):rW m i j (k+1)=rW m i j k++[BM j m[k]]:=by
 unfold rW
 rw [← List.map_singleton,← List.map_append]
 congr 1
 rcases Nat.lt_or_ge k i with h|h
 ·rw [if_pos zo,if_pos zo,List.take_succ_eq_append_getElem hk]
 ·rw [if_neg zo,if_neg zo,List.take_succ_eq_append_getElem hk,List.drop_append_of_le_length (by simp;omega),List.append_assoc]
theorem Ji {m:RM} {i j k:Nat} (hk:k≤m.length):(rW m i j k).length=if k≤i then k else k - 1:=by
 unfold rW
 rw [List.length_map]
 split
 ·simp;omega
 ·simp;omega
theorem Jh {j n:Nat} {r:List Rat} (h:r.length=n) (hj:j<n):(BM j r).length=n - 1:=by
 unfold BM
 simp
 omega
theorem kT.first {w:World} {a:Option Addr} {n c:Nat} {r:List Rat} (h:kT w (.slice a n c) r) (hl:r.length=n) (h0:0<n):∃ b off,a=some ⟨b,off,none⟩∧n≤c∧c≤9223372036854775807:=by
 obtain ⟨a',c',e,h1,h2,hat⟩:=kT.at h
 simp only [Value.slice.injEq] at e
 obtain ⟨rfl, -, rfl⟩:=e
 obtain ⟨b,off, -, -, -, -, -, -, -, -, e, -⟩:=hat 0 zo
 exact ⟨b,off,e,by omega,h2⟩
theorem Al (v:Value) (m:RM) (n i j:Nat) (w:World) (h:mX w v m) (hr:∀ r∈m,r.length=n) (hi:i<m.length) (hj:j<n) (m4:m.length≤4) (n4:n≤4) :
  Calls Tryz.prog 102 #[v,.int .i64 (i:Int),.int .i64 (j:Int)] w (Ad w (bL m i j)):=by
 obtain ⟨i0,hi0,hz0,hz1,hz2⟩:=info_parts Bl
 obtain ⟨i1,hi1,hy0,hy1,hy2⟩:=info_parts Aa
 rw [← Jj hi]
 obtain ⟨bx,ox,cx,rfl,lx,hat⟩:=mX.get h hr zo
 have HX:=zh hat
 have HR:=zh hr
 have CL:Hid (∀ k,k≤m.length→(rW m i j k).length≤4):=zh fun k hk=>by rw [Ji hk];split<;>omega
 have CA:=zh (WM (j:=j) hi)
 have CS:=zh (fun k hk hne=>P8 (m:=m) (i:=i) (j:=j) (k:=k) hk hne)
 clear h hat hr
 go_enter Tryz.func102,Tryz.ntmps102
 go_wp2_with fail
 go_loopw [7,8] (fun ov iv wr=>∃ k:Nat,iv= .int .i64 (k:Int)∧k≤m.length∧Hid (aX wr w.heap.size 154 1 jU ov (rW m i j k))∧Below w.heap.size w wr) (fun _ iv _=>m.length - (intOf iv).toNat)
 case atStart=>exact ⟨0,rfl,by omega,zh (by unfold rW;exact aX.nil _ _ _ _ _),Below.refl _ _⟩
 case round =>
  obtain ⟨k,rfl,hk,HG,hb⟩:=hrel
  obtain ⟨nc,hnc⟩:∃ nc,(rW m i j k).length=nc:=⟨_,rfl⟩
  obtain ⟨ov,cv,rfl⟩:=HG.out.at hnc
  have aU1:nc≤4:=by have:=CL.out k hk;omega
  have HNC:=zh hnc
  clear hnc
  rcases Nat.lt_or_ge k m.length with hlt|hge
  ·by_cases he:k=i
   ·subst he
    have g1:((k:Int) == (k:Int))=true:=by simp
    go_wp2_with fail
    go_roundw
    case rel=>exact ⟨k+1,by go_num,by omega,zh (by rw [CA.out];exact HG.out),hb⟩
    case measure=>exact zM
   ·have g1:((k:Int) == (i:Int))=false:=by simp;omega
    have CSK:=zh (CS.out k hlt he)
    obtain ⟨a',c',x1,qP⟩:=HX.out k hlt
    obtain ⟨b2,off2,rfl,hc1,hc2⟩:=kT.first qP (HR.out _ (List.getElem_mem hlt)) zo
    have d1:=(hb.cell (p:=⟨bx,ox+k,none⟩) lx).trans x1
    have l1:bx<wr.heap.size:=Nat.lt_of_lt_of_le lx hb.size
    have HXR:=zh (qP.later hb)
    clear x1 qP
    have hrl:=HR.out _ (List.getElem_mem hlt)
    have HCL:=zh (Jh hrl hj)
    have OC:Hid (∀ (W:World) l cs,jl (fun a c=>pK W a c∧c.length=4) l cs→∀ u∈cs.flatten,u.oneCell'=true):=zh fun W l cs h u hu=>by
     obtain ⟨c,hc,hu⟩:=List.mem_flatten.1 hu
     obtain ⟨x,hx⟩:=tK (S:=fun c=>∃ x,pK W x c) h (fun a b hab=>⟨a,hab.1⟩) c hc
     obtain ⟨bn,pn,ln,cn,bd,pd,ld,cd,rfl, -⟩:=hx
     simp only [List.mem_cons,List.not_mem_nil,or_false] at hu
     rcases hu with rfl|rfl|rfl|rfl<;>rfl
    have S1:Hid (∃ cs:List (List Value),jl (fun a c=>pK wr a c∧c.length=4) (m[k].take j) cs∧∀ t u,cs.flatten[t]? =some u→wr.cell? ((⟨b2,off2,none⟩:Addr).add t)=some u):=zh (by
     have:=tO.src HXR.out hrl zo 0 j zo
     rw [Nat.zero_mul,Nat.add_zero,List.drop_zero] at this
     exact this)
    have T1:Hid ((m[k].take j).length=j):=zh (by simp;omega)
    have T2:Hid ((m[k].drop (j+1)).length=n - (j+1)):=zh (by simp;omega)
    obtain ⟨cs1,k1,k2⟩:=S1.out
    have K1:=zh k1
    have K2:=zh k2
    have HB:=zh hb
    have CSE:Hid (BM j m[k]=m[k].take j++m[k].drop (j+1)):=zh rfl
    clear k1 k2 S1 hrl hb
    have HJN:=zh hj
    rcases Nat.lt_or_ge (j+1) c' with hca|hca
    ·skip
     go_wp2_with (at_builtin;refine kG (w0:=wr) rfl (.tmp 19) (.tmp 25) 154 rfl 152 i0 (.agg #[.bool false,.slice none 0 0,.bool false,.slice none 0 0]) 4 64 Tryz.underlying154 hi0 hz0 hz1 hz2 rfl zd pK _ [] rfl (aX.nil _ _ _ _ _) (Below.refl _ _) ⟨b2,off2,none⟩ j c' (m[k].take j) cs1 T1.out rfl K1.out K2.out (OC.out _ _ _ K1.out) (pK.stay zi) ?c2 zo ?_)
     case c2=>simp;omega
     intro v1 w2 hg1 hb2 hk2
     try rw [List.nil_append] at hg1
     obtain ⟨rv,rc,rfl⟩:=hg1.at T1.out
     have Ov:=zh hg1
     have d2:=(hb2.cell (p:=⟨bx,ox+k,none⟩) l1).trans d1
     have l2:bx<w2.heap.size:=Nat.lt_of_lt_of_le l1 hb2.size
     have HB2:=zh hb2
     have S2:Hid (∃ cs:List (List Value),jl (fun a c=>pK w2 a c∧c.length=4) (m[k].drop (j+1)) cs∧∀ t u,cs.flatten[t]? =some u→w2.cell? ((⟨b2,off2+(j+1)*4,none⟩:Addr).add t)=some u):=zh (by (have h:=tO.src (tO.later HXR.out HB2.out (pK.stay zi)) (HR.out _ (List.getElem_mem hlt)) zo (j+1) (n - (j+1)) (by have:=HJN.out;omega));rw [List.take_of_length_le (by have:=T2.out;omega)] at h;exact h)
     obtain ⟨cs2,k1,k2⟩:=S2.out
     have K3:=zh k1
     have K4:=zh k2
     clear hg1 hb2 hk2 k1 k2 S2 d1 l1
     go_wp2_with (at_builtin;refine kG (w0:=wr) rfl (.tmp 27) (.tmp 34) 154 rfl 152 i0 (.agg #[.bool false,.slice none 0 0,.bool false,.slice none 0 0]) 4 64 Tryz.underlying154 hi0 hz0 hz1 hz2 rfl zd pK _ (m[k].take j) rfl Ov.out HB2.out ⟨b2,off2+(j+1)*4,none⟩ (n - (j+1)) (c' - (j+1)) (m[k].drop (j+1)) cs2 T2.out rfl K3.out K4.out (OC.out _ _ _ K3.out) (pK.stay zi) ?c2 zo ?_)
     case c2=>have:=T1.out;omega
     intro v2 w3 hg2 hb3 hk3
     rw [← CSE.out] at hg2
     obtain ⟨rv2,rc2,rfl⟩:=hg2.at HCL.out
     have HV:Hid (kT w3 _ (BM j m[k])):=zh hg2.Dy
     have HB3:=zh (Bt HB.out hb3)
     replace HG:=zh (HG.out.later hb3 (jU.stay zi zi))
     clear hg2 hb3 hk3 Ov HB2 d2 l2
     go_wp2_with (at_builtin;refine bN (w0:=w) rfl (.tmp 36) (.tmp 38) 146 rfl 154 i1 (.slice none 0 0) 1 24 Tryz.underlying146 hi1 hy0 hy1 hy2 rfl zd jU _ (rW m i j k) rfl (HG.out.later aA (jU.stay zi zi)) (Bt HB3.out aA) _ [.slice rv2 (n - 1) rc2] (BM j m[k]) rfl (aB.new _ _ _) rfl ?c1 ⟨_,rfl,HV.out.later aA⟩ (jU.stay zi zi) ?c2 zo ?_)
     case c1=>first|(intro u hu;simp only [List.mem_cons,List.not_mem_nil,or_false] at hu;rcases hu with rfl;rfl)|rfl
     case c2=>rw [HNC.out];omega
     intro v' w4 hg hb4 _
     have HG2:Hid (aX w4 w.heap.size 154 1 jU v' (rW m i j (k+1))):=zh (by rw [CSK.out];exact hg)
     clear hg HG HV
     go_wp2_with fail
     go_roundw
     case rel=>exact ⟨k+1,by go_num,by omega,HG2,hb4⟩
     case measure=>exact zM
    ·(have hcj:c'=j+1:=by omega);subst hcj
     go_wp2_with (at_builtin;refine kG (w0:=wr) rfl (.tmp 19) (.tmp 25) 154 rfl 152 i0 (.agg #[.bool false,.slice none 0 0,.bool false,.slice none 0 0]) 4 64 Tryz.underlying154 hi0 hz0 hz1 hz2 rfl zd pK _ [] rfl (aX.nil _ _ _ _ _) (Below.refl _ _) ⟨b2,off2,none⟩ j (j+1) (m[k].take j) cs1 T1.out rfl K1.out K2.out (OC.out _ _ _ K1.out) (pK.stay zi) ?c2 zo ?_)
     case c2=>simp;omega
     intro v1 w2 hg1 hb2 hk2
     try rw [List.nil_append] at hg1
     obtain ⟨rv,rc,rfl⟩:=hg1.at T1.out
     have Ov:=zh hg1
     have d2:=(hb2.cell (p:=⟨bx,ox+k,none⟩) l1).trans d1
     have l2:bx<w2.heap.size:=Nat.lt_of_lt_of_le l1 hb2.size
     have HB2:=zh hb2
     have S2:Hid (∃ cs:List (List Value),jl (fun a c=>pK w2 a c∧c.length=4) (m[k].drop (j+1)) cs∧∀ t u,cs.flatten[t]? =some u→w2.cell? ((⟨b2,off2,none⟩:Addr).add t)=some u):=zh (by refine ⟨[],?_,fun t u hu=>by cases hu⟩;rw [List.length_eq_zero_iff.1 (T2.out.trans zo:(m[k].drop (j+1)).length=0)];exact jl.nil)
     obtain ⟨cs2,k1,k2⟩:=S2.out
     have K3:=zh k1
     have K4:=zh k2
     clear hg1 hb2 hk2 k1 k2 S2 d1 l1
     go_wp2_with (at_builtin;refine kG (w0:=wr) rfl (.tmp 27) (.tmp 34) 154 rfl 152 i0 (.agg #[.bool false,.slice none 0 0,.bool false,.slice none 0 0]) 4 64 Tryz.underlying154 hi0 hz0 hz1 hz2 rfl zd pK _ (m[k].take j) rfl Ov.out HB2.out ⟨b2,off2,none⟩ 0 0 (m[k].drop (j+1)) cs2 (T2.out.trans zo) rfl K3.out K4.out (OC.out _ _ _ K3.out) (pK.stay zi) ?c2 zo ?_)
     case c2=>have:=T1.out;omega
     intro v2 w3 hg2 hb3 hk3
     rw [← CSE.out] at hg2
     obtain ⟨rv2,rc2,rfl⟩:=hg2.at HCL.out
     have HV:Hid (kT w3 _ (BM j m[k])):=zh hg2.Dy
     have HB3:=zh (Bt HB.out hb3)
     replace HG:=zh (HG.out.later hb3 (jU.stay zi zi))
     clear hg2 hb3 hk3 Ov HB2 d2 l2
     go_wp2_with (at_builtin;refine bN (w0:=w) rfl (.tmp 36) (.tmp 38) 146 rfl 154 i1 (.slice none 0 0) 1 24 Tryz.underlying146 hi1 hy0 hy1 hy2 rfl zd jU _ (rW m i j k) rfl (HG.out.later aA (jU.stay zi zi)) (Bt HB3.out aA) _ [.slice rv2 (n - 1) rc2] (BM j m[k]) rfl (aB.new _ _ _) rfl ?c1 ⟨_,rfl,HV.out.later aA⟩ (jU.stay zi zi) ?c2 zo ?_)
     case c1=>first|(intro u hu;simp only [List.mem_cons,List.not_mem_nil,or_false] at hu;rcases hu with rfl;rfl)|rfl
     case c2=>rw [HNC.out];omega
     intro v' w4 hg hb4 _
     have HG2:Hid (aX w4 w.heap.size 154 1 jU v' (rW m i j (k+1))):=zh (by rw [CSK.out];exact hg)
     clear hg HG HV
     go_wp2_with fail
     go_roundw
     case rel=>exact ⟨k+1,by go_num,by omega,HG2,hb4⟩
     case measure=>exact zM
  ·obtain rfl:k=m.length:=by omega
   go_wp2_with fail
   go_ret
   exact ⟨_,rfl,hb,HG.out.Dy⟩
def wO (f:RM→Rat) (m:RM) (j:Nat):Rat:=if j%2=1 then -((m.getD 0 []).getD j 0*f (bL m 0 j)) else (m.getD 0 []).getD j 0*f (bL m 0 j)
def bW:Nat→RM→Rat
 | 0,_=>1
 | n+1,m=>jP (wO (bW n) m) (n+1)
def MB:Nat→Nat
 | 0=>67
 | n+1=>(2*MB n+1)*2^(n+1)
theorem Oq:∀ n,67≤MB n
 | 0=>Nat.le_refl _
 | n+1=>by
  have h1:=Oq n
  have h2:1≤2^(n+1):=Nat.one_le_two_pow
  have:=Nat.mul_le_mul (show 67≤2*MB n+1 by omega) h2
  show 67≤(2*MB n+1)*2^(n+1)
  omega
theorem JO {n:Nat} (h:n≤4):MB n≤1200000:=by
 have hc:n=0∨n=1∨n=2∨n=3∨n=4:=by omega
 rcases hc with rfl|rfl|rfl|rfl|rfl<;>decide
theorem AU {P:Nat} {f:Nat→Rat} (h0:1≤P):∀ k,(∀ i,i<k→eP P (f i))→eP ((P+1)*2^k - 1) (jP f k)
 | 0,_=>by
  show eP _ 0
  refine eP.mono (k:=1) ⟨by decide+kernel,by decide+kernel⟩ ?_
  rw [Nat.pow_zero];omega
 | k+1,h=>by
  have hp:1≤2^k:=Nat.one_le_two_pow
  have h2:=Nat.mul_le_mul_left (P+1) hp
  have:=uj (AU h0 k fun i hi=>h i zo) ((h k zo).mono (show P≤(P+1)*2^k - 1 by omega))
  exact this.mono (by rw [Nat.pow_succ,← Nat.mul_assoc];omega)
theorem fD {m:RM} {n i j:Nat} (hr:∀ r∈m,r.length=n+1∧∀ q∈r,eP 67 q) (hi:i<m.length) (hm:m.length=n+1) (hj:j<n+1):(bL m i j).length=n∧∀ r∈bL m i j,r.length=n∧∀ q∈r,eP 67 q:=by
 refine ⟨?_,fun r h=>?_⟩
 ·rw [← Jj hi,Ji (Nat.le_refl _),if_neg zo];omega
 ·unfold bL at h
  obtain ⟨s,hs,rfl⟩:=List.mem_map.1 h
  have hs':s∈m:=by
   rcases List.mem_append.1 hs with h|h
   ·exact List.mem_of_mem_take h
   ·exact List.mem_of_mem_drop h
  refine ⟨by have:=Jh (hr s hs').1 hj;omega,fun q hq=>?_⟩
  unfold BM at hq
  rcases List.mem_append.1 hq with h|h
  ·exact (hr s hs').2 q (List.mem_of_mem_take h)
  ·exact (hr s hs').2 q (List.mem_of_mem_drop h)
theorem Yq {l:List Rat} (h:∀ q∈l,eP 67 q) (j:Nat):eP 67 (l.getD j 0):=by
 rw [List.getD_eq_getElem?_getD]
 rcases Nat.lt_or_ge j l.length with hi|hi
 ·rw [List.getElem?_eq_getElem hi];exact h _ (List.getElem_mem hi)
 ·rw [List.getElem?_eq_none hi];exact ⟨by decide+kernel,by decide+kernel⟩
theorem Ng {n:Nat} {m:RM} {f:RM→Rat} (hr:∀ r∈m,r.length=n+1∧∀ q∈r,eP 67 q) (hm:m.length=n+1) (hf:∀ j,j<n+1→eP (MB n) (f (bL m 0 j))) (j:Nat) (hj:j<n+1) :
  eP (2*MB n) ((m.getD 0 []).getD j 0*f (bL m 0 j))∧eP (2*MB n) (wO f m j):=by
 have h0:eP 67 ((m.getD 0 []).getD j 0):=by
  refine Yq (fun q hq=>?_) j
  have e:m.getD 0 []=m[0]'zo:=by simp [hm]
  rw [e] at hq
  exact (hr _ (List.getElem_mem _)).2 q hq
 have h1:=qU (h0.mono (Oq n)) (hf j hj)
 refine ⟨h1,?_⟩
 unfold wO
 split
 ·exact qR h1
 ·exact h1
theorem nV:∀ (n:Nat) (m:RM),m.length=n→(∀ r∈m,r.length=n∧∀ q∈r,eP 67 q)→eP (MB n) (bW n m)
 | 0,_,_,_=>by
  show eP 67 1
  exact ⟨by decide+kernel,by decide+kernel⟩
 | n+1,m,hm,hr=>by
  have h:∀ j,j<n+1→eP (2*MB n) (wO (bW n) m j):=fun j hj=>(Ng hr hm (fun j hj=>nV n _ (fD hr zo hm hj).1 (fD hr zo hm hj).2) j hj).2
  have:=AU (P:=2*MB n) (by have:=Oq n;omega) (n+1) h
  exact this.mono (by show _≤(2*MB n+1)*2^(n+1);omega)
theorem ag7 (W:World):Calls Tryz.prog 110 #[.int .i64 1,.int .i64 1] W (dH W 1):=by
 have:=tT 1 1 zo zo zo zo zo W
 rwa [show ((1:Int):Rat) / ((1:Int):Rat)=1 by decide+kernel] at this
theorem JM (v:Value) (w:World) (h:mX w v []):Calls Tryz.prog 100 #[v] w (dH w 1):=by
 obtain ⟨a,cap,rfl, -⟩:=mX.at h
 clear h
 go_enter Tryz.func100,Tryz.ntmps100
 go_wp2_with fail
 have hx:=aB.new w #[.bool false,.slice none 0 0,.bool false,.slice none 0 0] 152
 have hb0:Below w.heap.size w (w.alloc (.cells #[.bool false,.slice none 0 0,.bool false,.slice none 0 0] 152)):=aA
 refine (ag7 _).mono ?_
 rintro e w1 ⟨v,rfl,hb1,hra⟩
 obtain ⟨bn,pn,ln,cn,bd,pd,ld,cd,rfl, -, -⟩:=id hra
 have X:=hx.later hb1
 have xP:=zh hra
 have cx:=X.cell
 have lx:=X.lt
 have fx:=X.free
 have HX:=zh X
 have HB:=zh (Bt hb0 hb1)
 have hw:w.heap.size≤w.heap.size:=Nat.le_refl _
 clear hx hb0 hb1 hra X
 go_wp2_with fail
 have Y4:=(((HX.out.set 0 (.bool bn)).set 1 (.slice pn ln cn)).set 2 (.bool bd)).set 3 (.slice pd ld cd)
 refine bP rfl rfl Y4 Tryz.underlying152 rfl zk ?_
 exact ⟨_,rfl,(((HB.out.setCell hw _).setCell hw _).setCell hw _).setCell hw _,Ra.kJ xP.out HX.out zd _ _ _ _⟩
theorem JN (n:Nat) (n4:n+1≤4) (ih:∀ (v:Value) (m:RM) (w:World),mX w v m→m.length=n→(∀ r∈m,r.length=n∧∀ q∈r,eP 67 q)→Calls Tryz.prog 100 #[v] w (dH w (bW n m)))
  (v:Value) (m:RM) (w:World) (h:mX w v m) (hm:m.length=n+1) (hr:∀ r∈m,r.length=n+1∧∀ q∈r,eP 67 q):Calls Tryz.prog 100 #[v] w (dH w (bW (n+1) m)):=by
 have hrl:∀ r∈m,r.length=n+1:=fun r h=>(hr r h).1
 have hmn:∀ j,j<n+1→eP (MB n) (bW n (bL m 0 j)):=fun j hj=>nV n _ (fD hr zo hm hj).1 (fD hr zo hm hj).2
 have hlim:MB n≤1200000:=JO zo
 have WO:Hid (∀ j,j<n+1→∀ W,Below w.heap.size w W→Calls Tryz.prog 102 #[v,.int .i64 0,.int .i64 (j:Int)] W (Ad W (bL m 0 j))):=zh fun j hj W hW=>by
  have:=Al v m (n+1) 0 j W (h.later hW) hrl zo hj zo zo
  simpa using this
 have MI:Hid (∀ j,j<n+1→∀ x W,mX W x (bL m 0 j)→Calls Tryz.prog 100 #[x] W (dH W (bW n (bL m 0 j)))):=zh fun j hj x W hx=>ih x _ W hx (fD hr zo hm hj).1 (fD hr zo hm hj).2
 have TI:Hid (∀ j,j<n+1→∀ x y W,Ra W x ((m.getD 0 []).getD j 0)→Ra W y (bW n (bL m 0 j))→Calls Tryz.prog 156 #[x,y] W (dH W ((m.getD 0 []).getD j 0*bW n (bL m 0 j)))):=zh fun j hj x y W hx hy=>iM x y _ _ W hx hy (by
  refine (Yq (fun q hq=>?_) j).mono zo
  have e:m.getD 0 []=m[0]'zo:=by simp [hm]
  rw [e] at hq
  exact (hr _ (List.getElem_mem _)).2 q hq) ((hmn j hj).mono zo)
 have hT:∀ j,j<n+1→eP (2*MB n) (wO (bW n) m j):=fun j hj=>(Ng hr hm hmn j hj).2
 have PL:Hid (∀ k,k<n+1→∀ x y W,Ra W x (jP (wO (bW n) m) k)→Ra W y (wO (bW n) m k)→Calls Tryz.prog 157 #[x,y] W (dH W (jP (wO (bW n) m) (k+1)))):=zh fun k hk x y W hx hy=>rO x y _ _ W hx hy ((AU (P:=2*MB n) (by have:=Oq n;omega) k fun i hi=>hT i zo).mono (by
  have h1:2^k≤2^4:=Nat.pow_le_pow_right zo zo
  have h2:=Nat.mul_le_mul (show 2*MB n+1≤2400001 by omega) h1
  omega)) ((hT k hk).mono zo)
 have hodd:∀ j,j%2=1→wO (bW n) m j= -((m.getD 0 []).getD j 0*bW n (bL m 0 j)):=fun j hj=>by unfold wO;rw [if_pos hj]
 have Ya:∀ j,j%2≠1→wO (bW n) m j=(m.getD 0 []).getD j 0*bW n (bL m 0 j):=fun j hj=>by unfold wO;rw [if_neg hj]
 have HO:=zh hodd
 have HE:=zh Ya
 obtain ⟨bx,ox,cx,rfl,lx,hat⟩:=mX.get h hrl zo
 obtain ⟨a0,c0,x0,hx0⟩:=hat 0 zo
 rw [Nat.add_zero] at x0
 have e0:m.getD 0 []=m[0]'zo:=by simp [hm]
 rw [e0] at TI HO HE
 have hl0:=hrl _ (List.getElem_mem (show 0<m.length by omega))
 obtain ⟨ay,cy,ey, -, -, aw2⟩:=kT.at hx0
 simp only [Value.slice.injEq] at ey
 obtain ⟨rfl, -, rfl⟩:=ey
 have H0:Hid (∀ k (_:k<n+1),∃ b off bn pn ln cn bd pd ld cd,a0=some ⟨b,off,none⟩∧b<w.heap.size∧w.cell? ⟨b,off+k*4,none⟩=some (.bool bn)∧w.cell? ⟨b,off+k*4+1,none⟩=some (.slice pn ln cn)∧w.cell? ⟨b,off+k*4+2,none⟩=some (.bool bd)∧w.cell? ⟨b,off+k*4+3,none⟩=some (.slice pd ld cd) ∧
   Ra w (.agg #[.bool bn,.slice pn ln cn,.bool bd,.slice pd ld cd]) ((m[0]'zo).getD k 0)):=zh fun k hk=>by
  have:=aw2 k zo
  rw [show (m[0]'zo)[k]'zo=(m[0]'zo).getD k 0 by simp [hl0,hk]] at this
  exact this
 show Calls _ _ _ _ (dH w (jP (wO (bW n) m) (n+1)))
 clear aw2 hx0 hat e0 hr hrl hmn hT hodd Ya h ih hlim
 generalize wO (bW n) m=F at *
 obtain ⟨X0,EX0⟩:∃ X0:Nat→Rat,Hid ((fun j=>(m[0]'zo).getD j 0)=X0):=⟨_,zh rfl⟩
 have ex:∀ j,(m[0]'zo).getD j 0=X0 j:=fun j=>by rw [← EX0.out]
 obtain ⟨MN,EMN⟩:∃ MN:Nat→Rat,Hid ((fun j=>bW n (bL m 0 j))=MN):=⟨_,zh rfl⟩
 have em:∀ j,bW n (bL m 0 j)=MN j:=fun j=>by rw [← EMN.out]
 simp only [ex,em] at TI HO HE H0 MI
 clear ex em EX0 EMN hl0
 generalize m.length=l at *
 subst hm
 have h0n:0<n+1:=by omega
 go_enter Tryz.func100,Tryz.ntmps100
 go_wp2_with fail
 obtain ⟨w0,E0⟩:∃ y,w.alloc (.cells #[.bool false,.slice none 0 0,.bool false,.slice none 0 0] 152)=y:=⟨_,rfl⟩
 have hb0:Below w.heap.size w w0:=by rw [← E0];exact aA
 have X4:Hid (aB w0 w.heap.size #[.bool false,.slice none 0 0,.bool false,.slice none 0 0] 152):=zh (by rw [← E0];exact aB.new _ _ _)
 rw [E0]
 clear E0
 refine (Ur _).mono ?_
 rintro e w1 ⟨v,rfl,hb1,hra⟩
 obtain ⟨bn,pn,ln,cn,bd,pd,ld,cd,rfl, -, -⟩:=id hra
 replace X4:=X4.bl hb1
 have HB1:=zh (Bt hb0 hb1)
 obtain ⟨p4,E4⟩:∃ y,w.heap.size=y:=⟨_,rfl⟩
 have WA:w.heap.size≤p4:=by omega
 rw [E4] at X4 ⊢
 clear E4
 have hne:=X4.out.lt
 go_wp2_with fail
 have h12:Below w1.heap.size w1 (w1.alloc (.cells #[.bool bn,.slice pn ln cn,.bool bd,.slice pd ld cd] 152)):=aA
 have hx5:=aB.new w1 #[.bool bn,.slice pn ln cn,.bool bd,.slice pd ld cd] 152
 obtain ⟨w2,E2⟩:∃ y,w1.alloc (.cells #[.bool bn,.slice pn ln cn,.bool bd,.slice pd ld cd] 152)=y:=⟨_,rfl⟩
 rw [E2] at h12 hx5 ⊢
 replace X4:=X4.bl h12
 have xP:=zh (hra.later h12)
 have HB2:Hid (Below w.heap.size w w2):=zh (Bt HB1.out h12)
 have zK:=HB1.out.size
 obtain ⟨p5,E5⟩:∃ y,w1.heap.size=y:=⟨_,rfl⟩
 rw [E5] at hx5 hne zK ⊢
 have X5:=zh hx5
 clear E2 E5 hx5 h12 hb1 hra HB1 hb0
 go_loopw [4] (fun iv wr=>∃ (k:Nat) (bn:Bool) (pn:Option Addr) (ln cn:Nat) (bd:Bool) (pd:Option Addr) (ld cd:Nat),iv= .int .i64 (k:Int)∧k≤n+1∧Hid (aB wr p5 #[.bool bn,.slice pn ln cn,.bool bd,.slice pd ld cd] 152)∧Hid (aB wr p4 #[.bool false,.slice none 0 0,.bool false,.slice none 0 0] 152)∧Hid (Ra wr (.agg #[.bool bn,.slice pn ln cn,.bool bd,.slice pd ld cd]) (jP F k))∧Hid (Below w.heap.size w wr)) (fun iv _=>n+1 - (intOf iv).toNat)
 case atStart=>exact ⟨0,_,_,_,_,_,_,_,_,rfl,by omega,X5,X4,xP,HB2⟩
 case round =>
  obtain ⟨k,bn,pn,ln,cn,bd,pd,ld,cd,rfl,hk,X5,X4,xP,hb⟩:=hrel
  have c5:=X5.out.cell
  have l5:=X5.out.lt
  rcases Nat.lt_or_ge k (n+1) with hlt|hge
  ·obtain ⟨b,off,s1,s2,s3,s4,s5,s6,s7,s8,rfl,hbl,y0,y1,y2,y3,r1⟩:=H0.out k hlt
   replace y0:=(hb.out.cell (p:=⟨b,off+k*4,none⟩) hbl).trans y0
   replace y1:=(hb.out.cell (p:=⟨b,off+k*4+1,none⟩) hbl).trans y1
   replace y2:=(hb.out.cell (p:=⟨b,off+k*4+2,none⟩) hbl).trans y2
   replace y3:=(hb.out.cell (p:=⟨b,off+k*4+3,none⟩) hbl).trans y3
   have z0:=(hb.out.cell (p:=⟨bx,ox,none⟩) lx).trans x0
   have R1:=zh (r1.later hb.out)
   have b1:b<wr.heap.size:=Nat.lt_of_lt_of_le hbl hb.out.size
   have b2:bx<wr.heap.size:=Nat.lt_of_lt_of_le lx hb.out.size
   clear r1 hbl
   go_wp2_with fail
   refine aC [(.pure,0),(.pure,1),(.read,2),(.pure,3),(.pure,4),(.read,5),(.pure,6),(.pure,7),(.ext,8),(.ext,9),(.ext,10),(.alloc #[.bool false,.slice none 0 0,.bool false,.slice none 0 0] 152,11),(.fin,12)] zk zk zR zP ?_;refine Wk.out ?_;(iterate 8 (first|(apply jE;(rfl);(rfl);(rfl);(intro J hJ;go_simp;(with_reducible refine hJ _ ?_);clear hJ J))|(apply lg;(rfl);(rfl);(rfl);(rfl);(exact zk);(intro J hJ;go_simp;(with_reducible refine hJ _ ?_);clear hJ J))|(apply ji;(rfl);(rfl);(intro J hJ;go_simp;(with_reducible refine hJ _ ?_);clear hJ J))|(apply jF;(rfl);(rfl);(rfl);(rfl);(intro J hJ;go_simp;(with_reducible refine hJ _ ?_);clear hJ J;try go_simp))))
   refine jY rfl rfl (fun wa hba J hJ=>?_);go_simp
   have z1:Below wr.heap.size wr wa:=aA
   refine (WO.out k hlt _ (Bt hb.out z1)).mono ?_
   rintro e wb ⟨v,rfl,hbb,hmw⟩
   obtain ⟨qa,qc,rfl⟩:=tO.slice hmw
   have HM:=zh hmw
   have z2:=Bt z1 hbb
   refine hJ _ _ hbb ?_
   clear hJ J hmw hba hbb
   refine jY rfl rfl (fun wc hbc J hJ=>?_);go_simp
   have z3:Below wb.heap.size wb wc:=aA
   refine (MI.out k hlt _ _ (HM.out.later z3)).mono ?_
   rintro e wd ⟨v,rfl,hbd,hrt⟩
   obtain ⟨u1,u2,u3,u4,u5,u6,u7,u8,rfl, -, -⟩:=id hrt
   have HT:=zh hrt
   have z4:=Bt (Bt z2 z3) hbd
   refine hJ _ _ hbd ?_
   clear hJ J hrt hbc hbd z1 z2 z3 HM
   refine jY rfl rfl (fun we hbe J hJ=>?_);go_simp
   have z5:Below wd.heap.size wd we:=aA
   have z6:=Bt z4 z5
   refine (TI.out k hlt _ _ _ (R1.out.later z6) (HT.out.later z5)).mono ?_
   rintro e wf ⟨v,rfl,hbf,hrs⟩
   obtain ⟨v1,v2,v3,v4,v5,v6,v7,v8,rfl, -, -⟩:=id hrs
   have HS:=zh hrs
   have z7:=Bt z6 hbf
   refine hJ _ _ hbf ?_
   clear hJ J hrs hbe hbf z4 z5 z6 HT
   refine Hy rfl (fun q wg hbg hq1 hq2 hq3 J2=>?_);go_simp
   replace J2:aB wg q #[.bool false,.slice none 0 0,.bool false,.slice none 0 0] 152:=J2
   refine Ak [_] rfl (fun wh QH=>?_)
   have z8:=Bt (Bt z7 hbg) QH
   have Y9:=J2.later QH
   have c9:=Y9.cell
   have l9:=Y9.lt
   have f9:=Y9.free
   have g5:=X5.out.later z8
   have g4:=X4.out.later z8
   have l4:=X4.out.lt
   have XU:p5≠q:=by omega
   have GX:p4≠q:=by omega
   have Yv:=zh (Ra.kJ ((HS.out.later hbg).later QH) Y9 zd (.bool v1) (.slice v2 v3 v4) (.bool v5) (.slice v6 v7 v8))
   have HR9:=zh (Ra.kJ (xP.out.later z8) Y9 zd (.bool v1) (.slice v2 v3 v4) (.bool v5) (.slice v6 v7 v8))
   have hwq:w.heap.size≤q:=Nat.le_trans hb.out.size hq1
   have HB9:Hid (Below w.heap.size w wh):=zh (Bt hb.out z8)
   have HY9:=zh Y9
   have G5:=zh g5
   have G4:=zh g4
   clear hbg QH J2 z7 z8 c5 l5 y0 y1 y2 y3 z0 b1 b2 g5 g4 l4 Y9 HS xP X5 X4 hb hq1 hq2 hq3
   go_upto_region 8 with fail
   have hQ:=(((HY9.out.set 0 (.bool v1)).set 1 (.slice v2 v3 v4)).set 2 (.bool v5)).set 3 (.slice v6 v7 v8)
   have h5:=(((G5.out.setOther (a:=⟨q,0,none⟩) (.bool v1) XU).setOther (a:=⟨q,1,none⟩) (.slice v2 v3 v4) XU).setOther (a:=⟨q,2,none⟩) (.bool v5) XU).setOther (a:=⟨q,3,none⟩) (.slice v6 v7 v8) XU
   have h4:=(((G4.out.setOther (a:=⟨q,0,none⟩) (.bool v1) GX).setOther (a:=⟨q,1,none⟩) (.slice v2 v3 v4) GX).setOther (a:=⟨q,2,none⟩) (.bool v5) GX).setOther (a:=⟨q,3,none⟩) (.slice v6 v7 v8) GX
   have hB:=(((HB9.out.setCell (p:=⟨q,0,none⟩) hwq (.bool v1)).setCell (p:=⟨q,1,none⟩) hwq (.slice v2 v3 v4)).setCell (p:=⟨q,2,none⟩) hwq (.bool v5)).setCell (p:=⟨q,3,none⟩) hwq (.slice v6 v7 v8)
   have hs:=Yv.out
   have hr:=HR9.out
   obtain ⟨W9,EW⟩:∃ y,((((wh.setCell ⟨q,0,none⟩ (.bool v1)).setCell ⟨q,1,none⟩ (.slice v2 v3 v4)).setCell ⟨q,2,none⟩ (.bool v5)).setCell ⟨q,3,none⟩ (.slice v6 v7 v8))=y:=⟨_,rfl⟩
   rw [EW] at hQ h5 h4 hB hs hr ⊢
   have Q9:Hid (aB W9 q #[.bool v1,.slice v2 v3 v4,.bool v5,.slice v6 v7 v8] 152):=zh hQ
   replace G5:=zh h5
   replace G4:=zh h4
   have HBW:=zh hB
   replace Yv:=zh hs
   replace HR9:=zh hr
   clear hQ h5 h4 hB hs hr EW HY9 HB9 c9 l9 f9
   have t2:(k:Int).tmod 2=(k:Int)%2:=Int.tmod_eq_emod_of_nonneg zo
   have w2:IntKind.i64.wrap ((k:Int)%2)=(k:Int)%2:=by unfold IntKind.wrap;simp [IntKind.bits];omega
   have c9:=Q9.out.cell
   have l9:=Q9.out.lt
   have f9:=Q9.out.free
   by_cases hp:k%2=1
   ·have hpi:(k:Int)%2=1:=by omega
    have HF:=zh (HO.out k hp)
    clear hp
    go_wp2_with fail
    refine (aG.pJ _ _ _ Yv.out).mono ?_
    rintro e wi ⟨v,rfl,hbi,hrn⟩
    obtain ⟨n1,n2,n3,n4',n5,n6,n7,n8,rfl, -, -⟩:=id hrn
    rw [← HF.out] at hrn
    have Y9:=Q9.out.later hbi
    have d9:=Y9.cell
    have e9:=Y9.lt
    have g9:=Y9.free
    have hN:=zh (Ra.kJ hrn Y9 zd (.bool n1) (.slice n2 n3 n4') (.bool n5) (.slice n6 n7 n8))
    have hR:=zh (Ra.kJ (HR9.out.later hbi) Y9 zd (.bool n1) (.slice n2 n3 n4') (.bool n5) (.slice n6 n7 n8))
    have hB:=zh (((((HBW.out.trans (Below.mono hbi HBW.out.size)).setCell (p:=⟨q,0,none⟩) hwq (.bool n1)).setCell (p:=⟨q,1,none⟩) hwq (.slice n2 n3 n4')).setCell (p:=⟨q,2,none⟩) hwq (.bool n5)).setCell (p:=⟨q,3,none⟩) hwq (.slice n6 n7 n8))
    have hQ:=zh ((((Y9.set 0 (.bool n1)).set 1 (.slice n2 n3 n4')).set 2 (.bool n5)).set 3 (.slice n6 n7 n8))
    have h5:=zh (((((G5.out.later hbi).setOther (a:=⟨q,0,none⟩) (.bool n1) XU).setOther (a:=⟨q,1,none⟩) (.slice n2 n3 n4') XU).setOther (a:=⟨q,2,none⟩) (.bool n5) XU).setOther (a:=⟨q,3,none⟩) (.slice n6 n7 n8) XU)
    have h4:=zh (((((G4.out.later hbi).setOther (a:=⟨q,0,none⟩) (.bool n1) GX).setOther (a:=⟨q,1,none⟩) (.slice n2 n3 n4') GX).setOther (a:=⟨q,2,none⟩) (.bool n5) GX).setOther (a:=⟨q,3,none⟩) (.slice n6 n7 n8) GX)
    clear hrn hbi c9 l9 f9 Y9
    go_upto_region 10 with fail
    clear d9 e9 g9
    obtain ⟨Wx,EW⟩:∃ y,((((wi.setCell ⟨q,0,none⟩ (.bool n1)).setCell ⟨q,1,none⟩ (.slice n2 n3 n4')).setCell ⟨q,2,none⟩ (.bool n5)).setCell ⟨q,3,none⟩ (.slice n6 n7 n8))=y:=⟨_,rfl⟩
    rw [EW] at hN hR hB hQ h5 h4 ⊢
    have Q9x:Hid (aB Wx q #[.bool n1,.slice n2 n3 n4',.bool n5,.slice n6 n7 n8] 152):=hQ
    have Xw:Hid (aB Wx p5 #[.bool bn,.slice pn ln cn,.bool bd,.slice pd ld cd] 152):=h5
    have G4x:=h4
    have HBx:=hB
    have HRx:=hR
    have HFx:=hN
    have c9:=Q9x.out.cell
    have l9:=Q9x.out.lt
    clear hN hR hB hQ h5 h4 EW
    have c5:=Xw.out.cell
    have l5:=Xw.out.lt
    have f5:=Xw.out.free
    go_wp2_with fail
    refine (PL.out k hlt _ _ _ HRx.out HFx.out).mono ?_
    rintro e wy ⟨v,rfl,hby,ZJ⟩
    obtain ⟨m1,m2,m3,m4,m5,m6,m7,m8,rfl, -, -⟩:=id ZJ
    have Y5:=Xw.out.later hby
    have d5:=Y5.cell
    have e5:=Y5.lt
    have g5:=Y5.free
    have hN:=Ra.kJ ZJ Y5 zd (.bool m1) (.slice m2 m3 m4) (.bool m5) (.slice m6 m7 m8)
    have hbz:=(((((HBx.out.trans (Below.mono hby HBx.out.size)).setCell (p:=⟨p5,0,none⟩) zK (.bool m1)).setCell (p:=⟨p5,1,none⟩) zK (.slice m2 m3 m4)).setCell (p:=⟨p5,2,none⟩) zK (.bool m5)).setCell (p:=⟨p5,3,none⟩) zK (.slice m6 m7 m8))
    have NN:=zh hN
    have BZ:=zh hbz
    have Z5:=zh ((((Y5.set 0 (.bool m1)).set 1 (.slice m2 m3 m4)).set 2 (.bool m5)).set 3 (.slice m6 m7 m8))
    have hn45:p4≠p5:=by omega
    have Z4:=zh (((((G4x.out.later hby).setOther (a:=⟨p5,0,none⟩) (.bool m1) hn45).setOther (a:=⟨p5,1,none⟩) (.slice m2 m3 m4) hn45).setOther (a:=⟨p5,2,none⟩) (.bool m5) hn45).setOther (a:=⟨p5,3,none⟩) (.slice m6 m7 m8) hn45)
    clear ZJ hN hbz hby c5 l5 f5 Y5
    go_wp2_with fail
    go_roundw
    case rel=>exact ⟨k+1,m1,m2,m3,m4,m5,m6,m7,m8,by go_num,by omega,Z5,Z4,NN,BZ⟩
    case measure=>exact zM
   ·have hpi:(k:Int)%2=0:=by omega
    have HF:=zh (HE.out k hp)
    clear hp
    have Xw:=G5
    have G4x:=G4
    have HBx:=HBW
    have HRx:=HR9
    have HFx:Hid (Ra W9 (.agg #[.bool v1,.slice v2 v3 v4,.bool v5,.slice v6 v7 v8]) (F k)):=zh (by rw [HF.out];exact Yv.out)
    have c5:=Xw.out.cell
    have l5:=Xw.out.lt
    have f5:=Xw.out.free
    go_wp2_with fail
    refine (PL.out k hlt _ _ _ HRx.out HFx.out).mono ?_
    rintro e wy ⟨v,rfl,hby,ZJ⟩
    obtain ⟨m1,m2,m3,m4,m5,m6,m7,m8,rfl, -, -⟩:=id ZJ
    have Y5:=Xw.out.later hby
    have d5:=Y5.cell
    have e5:=Y5.lt
    have g5:=Y5.free
    have hN:=Ra.kJ ZJ Y5 zd (.bool m1) (.slice m2 m3 m4) (.bool m5) (.slice m6 m7 m8)
    have hbz:=(((((HBx.out.trans (Below.mono hby HBx.out.size)).setCell (p:=⟨p5,0,none⟩) zK (.bool m1)).setCell (p:=⟨p5,1,none⟩) zK (.slice m2 m3 m4)).setCell (p:=⟨p5,2,none⟩) zK (.bool m5)).setCell (p:=⟨p5,3,none⟩) zK (.slice m6 m7 m8))
    have NN:=zh hN
    have BZ:=zh hbz
    have Z5:=zh ((((Y5.set 0 (.bool m1)).set 1 (.slice m2 m3 m4)).set 2 (.bool m5)).set 3 (.slice m6 m7 m8))
    have hn45:p4≠p5:=by omega
    have Z4:=zh (((((G4x.out.later hby).setOther (a:=⟨p5,0,none⟩) (.bool m1) hn45).setOther (a:=⟨p5,1,none⟩) (.slice m2 m3 m4) hn45).setOther (a:=⟨p5,2,none⟩) (.bool m5) hn45).setOther (a:=⟨p5,3,none⟩) (.slice m6 m7 m8) hn45)
    clear ZJ hN hbz hby c5 l5 f5 Y5
    go_wp2_with fail
    go_roundw
    case rel=>exact ⟨k+1,m1,m2,m3,m4,m5,m6,m7,m8,by go_num,by omega,Z5,Z4,NN,BZ⟩
    case measure=>exact zM
  ·obtain rfl:k=n+1:=by omega
   have c4:=X4.out.cell
   have l4:=X4.out.lt
   have f4:=X4.out.free
   go_wp2_with fail
   have Y4:=(((X4.out.set 0 (.bool bn)).set 1 (.slice pn ln cn)).set 2 (.bool bd)).set 3 (.slice pd ld cd)
   refine bP rfl rfl Y4 Tryz.underlying152 rfl zk ?_
   exact ⟨_,rfl,(((hb.out.setCell WA _).setCell WA _).setCell WA _).setCell WA _,Ra.kJ xP.out X4.out zd _ _ _ _⟩
theorem yO:∀ (n:Nat),n≤4→∀ (v:Value) (m:RM) (w:World),mX w v m→m.length=n→(∀ r∈m,r.length=n∧∀ q∈r,eP 67 q)→Calls Tryz.prog 100 #[v] w (dH w (bW n m))
 | 0,_,v,m,w,h,hm,_=>by
  have:m=[]:=List.length_eq_zero_iff.1 hm
  subst this
  exact JM v w h
 | n+1,h4,v,m,w,h,hm,hr=>JN n h4 (yO n zo) v m w h hm hr
end Go.Proofs.aI
