/- Lemmas for the proof. No condition. -/
import Derived.Test.YtddblpggomphpaaGreatDoorXB01
import Derived.Test.YtddblpggomphpaaGreatDoorXB02
import Derived.Test.YtddblpggomphpaaGreatDoorXB08
import Derived.Test.YtddblpggomphpaaGreatDoorXB09
import Derived.Test.YtddblpggomphpaaGreatDoorXB11
import Derived.Test.YtddblpggomphpaaGreatDoorXB12
import Derived.Test.YtddblpggomphpaaGreatDoorXB13
import Derived.Test.YtddblpggomphpaaGreatDoorXB14
set_option linter.unusedVariables false
set_option linter.unusedSimpArgs false
set_option maxRecDepth 100000
set_option maxHeartbeats 16000000
namespace Go.Proofs.verdigrislaw25
open Go Go.RowKit Go.SW Go.Num Go.Mem Go.Proofs Go.Dec Go.dB Go.Proofs.aG Go.Proofs.aI
def iW (w:World) (N m:Nat) (v:Value):Prop:=∃ (g cap:Nat) (arr:Array Value),v= .slice (some ⟨g,0,none⟩) m cap∧N≤g∧m≤cap∧cap≤9223372036854775807∧aB w g arr 36∧∀ j,j<2*m→∃ s,arr[j]? =some (.string s)∧s.size≤4611686018427387904
def Gy (N m:Nat):Rl Unit:=fun w _ c=>∃ v,c=[v]∧iW w N m v
theorem iW.kept {l:List TypeId} {w w':World} {N m:Nat} {v:Value} (h:iW w N m v) (k:Keep l w w') (hT:36∉l):iW w' N m v:=by
 obtain ⟨g,cap,arr,h1,h2,h3,h4,h5,h6⟩:=h
 exact ⟨g,cap,arr,h1,h2,h3,h4,k _ _ _ hT h5,h6⟩
theorem iW.later {w w':World} {N m:Nat} {v:Value} (h:iW w N m v) (hb:Below w.heap.size w w'):iW w' N m v:=h.kept (l:=[]) (Keep.of_below hb) zi
theorem iW.le {w:World} {N N' m:Nat} {v:Value} (h:iW w N m v) (hN:N'≤N):iW w N' m v:=by
 obtain ⟨g,cap,arr,h1,h2,h3⟩:=h
 exact ⟨g,cap,arr,h1,Nat.le_trans hN h2,h3⟩
theorem Gy.stay {l:List TypeId} {N m:Nat} (h:36∉l):tL l (Gy N m):=fun w w' a c k hr=>by
 obtain ⟨v,e,h1⟩:=hr
 exact ⟨v,e,h1.kept k h⟩
theorem iW.of {w:World} {N:Nat} {v:Value} {l:List Fr} (h:aX w N 36 2 rM v l) (h0:0<l.length) (hf:∀ x∈l,Fits x):iW w N l.length v:=by
 obtain ⟨xs,⟨h1,⟨rfl,h2⟩|⟨g,cap,cur,rfl,h3,h4,h5,h6,h7,h8⟩⟩,hall⟩:=h
 ·omega
 ·unfold maxLen at h6
  refine ⟨g,cap,cur,rfl,h3,h5,h6,h4,fun j hj=>?_⟩
  obtain ⟨i,r,rfl,hr⟩:∃ i r,j=i*2+r∧r<2:=⟨j / 2,j%2,by omega,by omega⟩
  have hi:i<l.length:=by omega
  have hix:i<xs.length:=by have:=hall.1;omega
  have e:=xq (tK (S:=fun c=>c.length=2) hall fun _ _ h=>h.2) hix hr
  obtain ⟨k1, -⟩:=hall.2 i hi hix
  have k2:xs[i]=[.string l[i].n,.string l[i].d]:=k1
  rw [k2] at e
  have hk:=hf _ (List.getElem_mem hi)
  have e2:cur[i*2+r]? =xs.flatten[i*2+r]? :=by
   rw [← h8,← Array.getElem?_toList,List.getElem?_take_of_lt zo]
  rcases (by omega:r=0∨r=1) with rfl|rfl
  ·exact ⟨_,e2.trans e,hk.1⟩
  ·exact ⟨_,e2.trans e,hk.2⟩
theorem iW.set {w:World} {N m:Nat} {v:Value} (h:iW w N m v) {g:Nat} {arr:Array Value} (hb:aB w g arr 36) (k:Nat) (f:ByteArray) (hf:f.size≤4611686018427387904):iW (w.setCell ⟨g,k,none⟩ (.string f)) N m v:=by
 obtain ⟨g',cap,arr',h1,h2,h3,h4,h5,h6⟩:=h
 by_cases e:g'=g
 ·subst e
  refine ⟨g',cap,_,h1,h2,h3,h4,h5.set k _,fun j hj=>?_⟩
  obtain ⟨s,k1,k2⟩:=h6 j hj
  by_cases ej:k=j
  ·subst ej
   refine ⟨f,?_,hf⟩
   rw [Array.getElem?_setIfInBounds,if_pos rfl,if_pos (Array.getElem?_eq_some_iff.1 k1).1]
  ·refine ⟨s,?_,k2⟩
   rw [Array.getElem?_setIfInBounds,if_neg ej]
   exact k1
 ·exact ⟨g',cap,arr',h1,h2,h3,h4,h5.setOther _ e,h6⟩
theorem iW.zL {w:World} {N m:Nat} {v:Value} (h:iW w N m v):∃ l:List Fr,l.length=m∧jI w 36 v l∧∀ x∈l,Fits x:=by
 obtain ⟨g,cap,arr,rfl,h2,h3,h4,h5,h6⟩:=h
 have hs:∀ i:Fin m,∃ f:Fr,Fits f∧arr[i.1*2]? =some (.string f.n)∧arr[i.1*2+1]? =some (.string f.d):=fun i=>by
  obtain ⟨s,k1,k2⟩:=h6 (i.1*2) zo
  obtain ⟨t,k3,k4⟩:=h6 (i.1*2+1) zo
  exact ⟨⟨s,t⟩,⟨k2,k4⟩,k1,k3⟩
 refine ⟨List.ofFn fun i=>(hs i).choose,by simp,?_,fun x hx=>?_⟩
 ·refine ⟨some ⟨g,0,none⟩,cap,by simp,by simpa using h3,h4,(fun h=>by cases h),fun ad had=>?_⟩
  cases had
  refine ⟨rfl,arr,h5,fun i hi=>?_⟩
  have hi':i<m:=by simpa using hi
  have:=(hs ⟨i,hi'⟩).choose_spec.2
  simpa using this
 ·obtain ⟨i,rfl⟩:=List.mem_ofFn.1 hx
  exact (hs i).choose_spec.1
def Ce (w:World) (N m n:Nat) (v:Value):Prop:=∃ (g cap:Nat) (arr:Array Value),v= .slice (some ⟨g,0,none⟩) n cap∧n≤cap∧cap≤9223372036854775807∧aB w g arr 56∧∀ i,i<n→∃ x,arr[i]? =some x∧iW w N m x
theorem Ce.later {w w':World} {N m n:Nat} {v:Value} (h:Ce w N m n v) (hb:Below w.heap.size w w'):Ce w' N m n v:=by
 obtain ⟨g,cap,arr,h1,h2,h3,h4,h5⟩:=h
 refine ⟨g,cap,arr,h1,h2,h3,h4.later hb,fun i hi=>?_⟩
 obtain ⟨x,k1,k2⟩:=h5 i hi
 exact ⟨x,k1,k2.later hb⟩
theorem Ce.of {w:World} {N m n:Nat} {v:Value} (h:aX w N 56 1 (Gy N m) v (List.replicate n ())) (h0:0<n):Ce w N m n v:=by
 obtain ⟨xs,⟨h1,⟨rfl,h2⟩|⟨g,cap,cur,rfl,h3,h4,h5,h6,h7,h8⟩⟩,hall⟩:=h
 ·simp at h2;omega
 ·unfold maxLen at h6
  rw [List.length_replicate] at *
  refine ⟨g,cap,cur,rfl,h5,h6,h4,fun i hi=>?_⟩
  have hix:i<xs.length:=by have:=hall.1;simp at this;omega
  have e:=xq (tK (S:=fun c=>c.length=1) hall fun _ _ h=>h.2) hix (j:=0) zo
  obtain ⟨⟨x,k1,k2⟩, -⟩:=hall.2 i (by simpa using hi) hix
  rw [k1] at e
  refine ⟨x,?_,k2⟩
  have e2:cur[i]? =xs.flatten[i]? :=by
   rw [← h8,← Array.getElem?_toList,List.getElem?_take_of_lt zo]
  rw [e2]
  simpa using e
theorem Ce.set {w:World} {N m n:Nat} {v:Value} (h:Ce w N m n v) {g:Nat} {arr:Array Value} (hb:aB w g arr 36) (k:Nat) (f:ByteArray) (hf:f.size≤4611686018427387904):Ce (w.setCell ⟨g,k,none⟩ (.string f)) N m n v:=by
 obtain ⟨g',cap,arr',h1,h2,h3,h4,h5⟩:=h
 refine ⟨g',cap,arr',h1,h2,h3,h4.setOther _ (h4.ne hb zd),fun i hi=>?_⟩
 obtain ⟨x,k1,k2⟩:=h5 i hi
 exact ⟨x,k1,k2.set hb k f hf⟩
theorem Ce.mat {w:World} {N m n:Nat} {v:Value} (h:Ce w N m n v):∃ B,bO w v B∧pQ B:=by
 obtain ⟨g,cap,arr,rfl,h2,h3,h4,h5⟩:=h
 have hx:∀ i:Fin n,∃ (x:Value) (l:List Fr),arr[i.1]? =some x∧jI w 36 x l∧∀ y∈l,Fits y:=fun i=>by
  obtain ⟨x,k1,k2⟩:=h5 i.1 i.2
  obtain ⟨l, -, k3,k4⟩:=k2.zL
  exact ⟨x,l,k1,k3,k4⟩
 refine ⟨List.ofFn fun i=>(hx i).choose_spec.choose,?_,fun r hr=>?_⟩
 ·refine tO.zC ⟨some ⟨g,0,none⟩,cap,by simp,by simpa using h2,h3,(fun h=>by cases h),fun ad had=>?_⟩
  cases had
  refine ⟨rfl,arr,h4,fun i hi=>?_⟩
  have hi':i<n:=by simpa using hi
  have hs:=(hx ⟨i,hi'⟩).choose_spec.choose_spec
  refine ⟨[(hx ⟨i,hi'⟩).choose],⟨_,rfl,?_⟩,rfl,fun j hj=>?_⟩
  ·simpa using hs.2.1
  ·obtain rfl:j=0:=by omega
   simpa using hs.1
 ·obtain ⟨i,rfl⟩:=List.mem_ofFn.1 hr
  exact (hx i).choose_spec.choose_spec.2.2
theorem jI.src {w:World} {T:TypeId} {b off n c:Nat} {l:List Fr} (h:jI w T (.slice (some ⟨b,off,none⟩) n c) l):∃ cs:List (List Value),jl (fun a c=>rM w a c∧c.length=2) l cs∧(∀ j u,cs.flatten[j]? =some u→w.cell? ((⟨b,off,none⟩:Addr).add j)=some u)∧∀ u∈cs.flatten,u.oneCell'=true:=by
 obtain ⟨a',c',e, -, -, hat⟩:=h.read
 simp only [Value.slice.injEq] at e
 obtain ⟨rfl,rfl,rfl⟩:=e
 refine ⟨l.map fun f=>[.string f.n,.string f.d],⟨by simp,fun i hi hi'=>?_⟩,fun j u hu=>?_,fun u hu=>?_⟩
 ·simp only [List.getElem_map]
  exact ⟨rfl,rfl⟩
 ·have hlen:∀ c∈(l.map fun f=>[Value.string f.n,Value.string f.d]),c.length=2:=fun c hc=>by
   obtain ⟨x, -, rfl⟩:=List.mem_map.1 hc
   rfl
  have hj:j<l.length*2:=by
   have:=(List.getElem?_eq_some_iff.1 hu).1
   rw [BI hlen,List.length_map] at this
   exact this
  obtain ⟨i,r,rfl,hr⟩:∃ i r,j=i*2+r∧r<2:=⟨j / 2,j%2,by omega,by omega⟩
  have hi:i<l.length:=by omega
  rw [xq hlen (by simpa using hi) hr] at hu
  simp only [List.getElem_map] at hu
  obtain ⟨b',off',e, -, k2,k3⟩:=hat i hi
  simp only [Option.some.injEq,Addr.mk.injEq,and_true] at e
  obtain ⟨rfl,rfl⟩:=e
  rw [Addr.add_lit]
  rcases (by omega:r=0∨r=1) with rfl|rfl
  ·rw [← hu];exact k2
  ·rw [← hu,← Nat.add_assoc];exact k3
 ·obtain ⟨c,hc,hu⟩:=List.mem_flatten.1 hu
  obtain ⟨x, -, rfl⟩:=List.mem_map.1 hc
  simp only [List.mem_cons,List.not_mem_nil,or_false] at hu
  rcases hu with rfl|rfl<;>rfl
end Go.Proofs.verdigrislaw25
namespace Go.Proofs.verdigrislaw25
open Go Go.RowKit Go.SW Go.Num Go.Mem Go.Proofs Go.Dec Go.dB
def q2 (n d:Int):Rat:=(n:Rat) / (d:Rat)
def sm (n d:Int):Bool:=decide (-1000000≤n)&&decide (n≤1000000)&&decide (1≤d)&&decide (d≤1000000)&&dA (q2 n d)
theorem A9 (n d:Int) (h:sm n d=true) (w:World) (ht:pR.Pow w) :
  Calls Tryz.prog 22 #[.int .i64 n,.int .i64 d] w (fun e w'=>e= .returned (Fr.of (q2 n d)).v∧Below w.heap.size w w'):=by
 have h':=h
 unfold sm at h'
 simp only [Bool.and_eq_true,decide_eq_true_eq] at h'
 obtain ⟨⟨⟨⟨h1,h2⟩,h3⟩,h4⟩,h5⟩:=h'
 have HO:=fun w' hb=>dJ.vC n d zo zo zo zo w' (ht.later hb)
 have e1:Fr.res (zY n d)= .tuple #[(Fr.of (q2 n d)).v,.int .i64 0]:=by
  unfold zY
  rw [if_neg zo]
  show Fr.res (dB.wr (q2 n d))=_
  unfold dB.wr
  rw [if_pos h5]
  rfl
 rw [e1] at HO
 have Qo:=zh HO
 obtain ⟨⟨s,t⟩,E⟩:∃ y:Fr,Hid (Fr.of (q2 n d)=y):=⟨_,zh rfl⟩
 rw [E.out] at Qo ⊢
 unfold Fr.v at Qo ⊢
 have h0:Below w.heap.size w (w.alloc (.cells #[.string ⟨#[]⟩,.string ⟨#[]⟩] 36)):=aA
 have hx:=aB.new w #[.string ⟨#[]⟩,.string ⟨#[]⟩] 36
 clear HO h h1 h2 h3 h4 h5 e1 ht E
 go_enter Tryz.func22,Tryz.ntmps22
 go_wp2_with fail
 refine (Qo.out _ h0).mono ?_
 rintro e w1 ⟨rfl,hb1⟩
 have hr:=hx.later hb1
 have cr:=hr.cell
 have fr:=hr.free
 have lr:=hr.lt
 go_wp2_with fail
 refine bP rfl rfl aL Tryz.underlying36 rfl zk ?_
 exact ⟨rfl,aA⟩
def tq (x y z d:Int):light.aY:=⟨Fr.of (q2 x d),Fr.of (q2 y d),Fr.of (q2 z d)⟩
theorem YP (x y z d:Int) (hx:sm x d=true) (hy:sm y d=true) (hz:sm z d=true) (w:World) (ht:pR.Pow w) :
  Calls Tryz.prog 26 #[.int .i64 x,.int .i64 y,.int .i64 z,.int .i64 d] w (fun e w'=>e= .returned (tq x y z d).v∧Below w.heap.size w w'):=by
 have H1:=zh (fun w' (hb:Below w.heap.size w w')=>A9 x d hx w' (ht.later hb))
 have H2:=zh (fun w' (hb:Below w.heap.size w w')=>A9 y d hy w' (ht.later hb))
 have H3:=zh (fun w' (hb:Below w.heap.size w w')=>A9 z d hz w' (ht.later hb))
 unfold tq
 obtain ⟨⟨s1,s2⟩,E1⟩:∃ y:Fr,Hid (Fr.of (q2 x d)=y):=⟨_,zh rfl⟩
 obtain ⟨⟨s3,s4⟩,E2⟩:∃ u:Fr,Hid (Fr.of (q2 y d)=u):=⟨_,zh rfl⟩
 obtain ⟨⟨s5,s6⟩,E3⟩:∃ y:Fr,Hid (Fr.of (q2 z d)=y):=⟨_,zh rfl⟩
 rw [E1.out,E2.out,E3.out]
 rw [E1.out] at H1
 rw [E2.out] at H2
 rw [E3.out] at H3
 unfold Fr.v at H1 H2 H3
 unfold light.aY.v light.aY.cells
 have h0:Below w.heap.size w (w.alloc (.cells #[.string ⟨#[]⟩,.string ⟨#[]⟩,.string ⟨#[]⟩,.string ⟨#[]⟩,.string ⟨#[]⟩,.string ⟨#[]⟩] 38)):=aA
 have hb:=aB.new w #[.string ⟨#[]⟩,.string ⟨#[]⟩,.string ⟨#[]⟩,.string ⟨#[]⟩,.string ⟨#[]⟩,.string ⟨#[]⟩] 38
 clear hx hy hz ht E1 E2 E3
 go_enter Tryz.func26,Tryz.ntmps26
 go_wp2_with fail
 refine (H1.out _ h0).mono ?_
 rintro e w1 ⟨rfl,hb1⟩
 have h1:=Bt h0 hb1
 go_wp2_with fail
 refine (H2.out _ h1).mono ?_
 rintro e w2 ⟨rfl,hb2⟩
 have h2:=Bt h1 hb2
 go_wp2_with fail
 refine (H3.out _ h2).mono ?_
 rintro e w3 ⟨rfl,hb3⟩
 have h3:=Bt h2 hb3
 have hr:=((hb.later hb1).later hb2).later hb3
 have cr:=hr.cell
 have fr:=hr.free
 have lr:=hr.lt
 clear h0 h1 h2 hb1 hb2 hb3 hb H1 H2 H3
 go_wp2_with fail
 refine bP rfl rfl ((((((hr.set 0 _).set 1 _).set 2 _).set 3 _).set 4 _).set 5 _) Tryz.underlying38 rfl zk ?_
 exact ⟨rfl,(((((h3.setCell (Nat.le_refl _) _).setCell (Nat.le_refl _) _).setCell (Nat.le_refl _) _).setCell (Nat.le_refl _) _).setCell (Nat.le_refl _) _).setCell (Nat.le_refl _) _⟩
end Go.Proofs.verdigrislaw25
namespace Go.Proofs.aK
open Go Go.RowKit Go.SW Go.Num Go.Mem Go.Proofs Go.Dec Go.dB
theorem vC (n d:Int) (h1: -9223372036854775808≤n) (h2:n≤9223372036854775807) (h3: -9223372036854775808≤d) (h4:d≤9223372036854775807) (w:World) :
  Calls Tryz.prog 18 #[.int .i64 n,.int .i64 d] w (fun e w'=>e= .returned (zY n d).1.v∧Below w.heap.size w w'):=by
 have H1:=zh (fun W=>aG.vC n d h1 h2 h3 h4 W)
 obtain ⟨⟨⟨s1,s2⟩,k⟩,E⟩:∃ y,zY n d=y:=⟨_,rfl⟩
 rw [E] at H1 ⊢
 replace H1:Hid (∀ W,Calls Tryz.prog 46 #[.int .i64 n,.int .i64 d] W (fun e w'=>e= .returned (.tuple #[.agg #[.string s1,.string s2],.int .i64 k])∧Below W.heap.size W w')):=H1
 clear E h1 h2 h3 h4
 go_enter Tryz.func18,Tryz.ntmps18
 go_wp2_with fail
 obtain ⟨cO,EW,hz,X1⟩:=G7 w #[.string ⟨#[]⟩,.string ⟨#[]⟩] 36
 rw [EW]
 have hk2:=Bt (Below.refl _ _) hz
 clear EW hz
 refine (H1.out _).mono ?_
 rintro e iN ⟨rfl,hb3⟩
 replace X1:=X1.bl hb3
 have hk5:=Bt hk2 hb3
 clear hk2
 clear hb3
 obtain ⟨dW,dU,fG⟩:=X1.dx
 have hres:=X1.out
 have gW:=hres.cell
 have gV:=hres.free
 go_wp2_with fail
 refine bP rfl rfl aL Tryz.underlying36 rfl zk ?_
 exact ⟨rfl,aA⟩
theorem R9 {k:Nat} (h:4≤k):2000<gK k:=by
 unfold gK
 have:=Nat.pow_le_pow_right (n:=10) zo h
 omega
theorem RN {q:Rat} (h1:q.num.natAbs≤2000) (h2:q.den≤2000):dA q=true:=by
 have ht:2000<gK 600:=R9 zo
 unfold dA JY
 rw [Bool.and_eq_true]
 exact ⟨decide_eq_true zo,decide_eq_true zo⟩
theorem RS {n:Int} (h1:1≤n) (h2:n≤2000) (w:World):Calls Tryz.prog 18 #[.int .i64 n,.int .i64 1000] w (fun e w'=>e= .returned (Fr.of (verdigrislaw25.q2 n 1000)).v∧Below w.heap.size w w'):=by
 have h:=vC n 1000 zo zo zo zo w
 have e:(zY n 1000).1=Fr.of (verdigrislaw25.q2 n 1000):=by
  unfold zY wr verdigrislaw25.q2
  rw [if_neg zo]
  have hk:dA ((n:Rat) / (1000:Int))=true:=by
   obtain ⟨l1,l2⟩:=aG.yx (n:=n) (d:=1000) zo
   exact RN zo zo
  rw [if_pos hk]
 rw [e] at h
 exact h
theorem JJ (a b c:Int) (ha:0≤a∧a≤65535) (hb:0≤b∧b≤65535) (hc:0≤c∧c≤65535) (w:World) :
  Calls Tryz.prog 10 #[.agg #[.int .u16 a,.int .u16 b,.int .u16 c]] w (fun e w'=>e= .returned (verdigrislaw25.tq (1+a%2000) (1+b%2000) (1+c%2000) 1000).v∧Below w.heap.size w w'):=by
 have H1:=zh (fun W=>RS (n:=1+a%2000) zo zo W)
 have H2:=zh (fun W=>RS (n:=1+b%2000) zo zo W)
 have H3:=zh (fun W=>RS (n:=1+c%2000) zo zo W)
 have W0:∀ z:Int,0≤z∧z≤65535→IntKind.i64.wrap z=z:=fun z h=>by unfold IntKind.wrap;simp [IntKind.bits];omega
 have wa:=W0 a ha
 have wb:=W0 b hb
 have wc:=W0 c hc
 have wa1:=W0 (1+a%2000) zo
 have wb1:=W0 (1+b%2000) zo
 have wc1:=W0 (1+c%2000) zo
 have ta:=Int.tmod_eq_emod_of_nonneg (b:=2000) ha.1
 have tb:=Int.tmod_eq_emod_of_nonneg (b:=2000) hb.1
 have tc:=Int.tmod_eq_emod_of_nonneg (b:=2000) hc.1
 obtain ⟨⟨⟨s1,t1⟩,⟨s2,t2⟩,⟨s3,t3⟩⟩,E⟩:∃ y,verdigrislaw25.tq (1+a%2000) (1+b%2000) (1+c%2000) 1000=y:=⟨_,rfl⟩
 rw [E]
 unfold verdigrislaw25.tq at E
 injection E with E1 E2 E3
 rw [E1] at H1
 rw [E2] at H2
 rw [E3] at H3
 unfold Fr.v at H1 H2 H3
 clear E1 E2 E3 ha hb hc W0
 go_enter Tryz.func10,Tryz.ntmps10
 go_wp2_with fail
 obtain ⟨cO,EW,hz,X1,X2⟩:=zU w #[.int .u16 a,.int .u16 b,.int .u16 c] 24 #[.string ⟨#[]⟩,.string ⟨#[]⟩,.string ⟨#[]⟩,.string ⟨#[]⟩,.string ⟨#[]⟩,.string ⟨#[]⟩] 38
 rw [EW]
 have hk2:=Bt (Below.refl _ _) hz
 clear EW hz
 obtain ⟨dW,dU,fG⟩:=X1.dx
 refine aC [(.pure,0),(.read,1),(.pure,2),(.pure,3),(.pure,4),(.pure,6),(.read,7),(.pure,8),(.pure,9),(.pure,10),(.pure,12),(.read,13),(.pure,14),(.pure,15),(.pure,16),(.ext,5),(.ext,11),(.ext,17),(.pure,18),(.fin,19)] zk zk zR zP ?_
 repeat (first|(refine ah rfl rfl fun J h=>?_;go_simp;refine h _ ?_;clear h J)|(refine au rfl rfl rfl rfl fun J h=>?_;go_simp;refine h _ ?_;clear h J;try go_simp))
 refine aD rfl rfl (fun uO hb3 J hJ=>?_);go_simp
 have hh3:Below cO.heap.size cO uO:=aA
 clear hb3
 refine (H1.out _).mono ?_
 rintro e rT ⟨rfl,hb4⟩
 refine hJ _ _ hb4 ?_
 clear hJ J
 have nG:=Bt hh3 hb4
 clear hh3 hb4
 repeat (first|(refine ah rfl rfl fun J h=>?_;go_simp;refine h _ ?_;clear h J)|(refine au rfl rfl rfl rfl fun J h=>?_;go_simp;refine h _ ?_;clear h J;try go_simp))
 refine aD rfl rfl (fun qQ hb6 J hJ=>?_);go_simp
 have ig:Below cO.heap.size cO qQ:=Bt nG aA
 clear hb6 nG
 refine (H2.out _).mono ?_
 rintro e kC ⟨rfl,dY⟩
 refine hJ _ _ dY ?_
 clear hJ J
 have o9:=Bt ig dY
 clear ig dY
 repeat (first|(refine ah rfl rfl fun J h=>?_;go_simp;refine h _ ?_;clear h J)|(refine au rfl rfl rfl rfl fun J h=>?_;go_simp;refine h _ ?_;clear h J;try go_simp))
 refine aD rfl rfl (fun oU gQ J hJ=>?_);go_simp
 have gI:Below cO.heap.size cO oU:=Bt o9 aA
 clear gQ o9
 refine (H3.out _).mono ?_
 rintro e dN ⟨rfl,dh⟩
 refine hJ _ _ dh ?_
 clear hJ J
 have fF:=Bt gI dh
 clear gI dh
 repeat (first|(refine ah rfl rfl fun J h=>?_;go_simp;refine h _ ?_;clear h J)|(refine au rfl rfl rfl rfl fun J h=>?_;go_simp;refine h _ ?_;clear h J;try go_simp))
 refine aJ [_] rfl (fun mZ yC=>?_)
 have hh12:Below cO.heap.size cO mZ:=Bt fF aA
 clear yC fF
 clear dW dU fG
 replace X1:=X1.bl hh12
 replace X2:=X2.bl hh12
 have Lj:=Bt hk2 hh12
 clear hk2
 clear hh12
 obtain ⟨dV,dS,gM⟩:=X2.dx
 have hres:=X2.out
 have gW:=hres.cell
 have gV:=hres.free
 go_wp2_with fail
 refine bP rfl rfl aL Tryz.underlying38 rfl zk ?_
 exact ⟨rfl,aA⟩
end Go.Proofs.aK
namespace Go.Proofs.aV
open Go Go.RowKit Go.SW Go.Num Go.Mem Go.Proofs Go.Dec Go.dB Go.Proofs.aG Go.Proofs.aI
theorem VJ {z:Int} (h1: -1000000≤z) (h2:z≤1000000) (W:World):Calls Tryz.prog 18 #[.int .i64 z,.int .i64 100000] W (fun e w'=>e= .returned (Fr.of ((z:Rat) / ((100000:Int):Rat))).v∧Below W.heap.size W w'):=by
 have h:=aK.vC z 100000 zo zo zo zo W
 have e:(zY z 100000).1=Fr.of ((z:Rat) / ((100000:Int):Rat)):=by
  unfold zY
  rw [if_neg zo]
  unfold dB.wr
  have ht:(1000000:Nat)≤gK 10:=by decide
  have hq:adapt.Ht 10 ((z:Rat) / ((100000:Int):Rat)):=⟨z,100000,by omega,by omega,by omega,rfl⟩
  rw [if_pos (hq.ok zo)]
 rw [e] at h
 exact h
theorem uN (m:Nat) (hm:m<4) (w:World):Calls Tryz.prog 40 #[.int .i64 ((m:Int)+1)] w (aS w 0 (adapt.bg m).fr):=by
 obtain ⟨i0,hi,hz0,hz1,hz2⟩:=info_parts ny
 obtain ⟨i1,hi',hy0,hy1,hy2⟩:=info_parts uE
 obtain ⟨C,HC⟩:∃ C:Nat→Nat→Int,Hid (C=fun i j=>adapt.lW.getD (m*9+i*3+j) 0):=⟨_,zh rfl⟩
 have OF:Hid (∀ i,i<3→∀ j,j<3→∀ W,Calls Tryz.prog 18 #[.int .i64 (C i j),.int .i64 100000] W (fun e w'=>e= .returned (Fr.of ((C i j:Rat) / ((100000:Int):Rat))).v∧Below W.heap.size W w')):=zh fun i hi j hj W=>by
  have:=adapt.xD (m*9+i*3+j) zo
  rw [HC.out]
  exact VJ this.1 this.2 W
 have hT:(adapt.bg m).fr=(List.range 3).map fun i=>(List.range 3).map fun j=>Fr.of ((C i j:Rat) / ((100000:Int):Rat)):=by
  rw [HC.out]
  simp [matrix.RM.fr,adapt.bg,adapt.kS]
 rw [hT]
 obtain ⟨G,HG0⟩:∃ G:Nat→Nat→Fr,Hid (G=fun i j=>Fr.of ((C i j:Rat) / ((100000:Int):Rat))):=⟨_,zh rfl⟩
 have OG:Hid (∀ i,i<3→∀ j,j<3→∀ W,Calls Tryz.prog 18 #[.int .i64 (C i j),.int .i64 100000] W (fun e w'=>e= .returned (G i j).v∧Below W.heap.size W w')):=by rw [HG0.out];exact OF
 rw [show (fun i=>(List.range 3).map fun j=>Fr.of ((C i j:Rat) / ((100000:Int):Rat)))=fun i=>(List.range 3).map (G i) by rw [HG0.out]]
 clear hT OF HG0
 rcases (by omega:m=0∨m=1∨m=2∨m=3) with rfl|rfl|rfl|rfl
 show Calls Tryz.prog 40 #[.int .i64 1] w _
 rotate_left
 show Calls Tryz.prog 40 #[.int .i64 2] w _
 rotate_left
 show Calls Tryz.prog 40 #[.int .i64 3] w _
 rotate_left
 show Calls Tryz.prog 40 #[.int .i64 4] w _
 rotate_left
 all_goals
  go_enter Tryz.func40,Tryz.ntmps40
  go_upto_region 12 with fail
 have X:=zh (aB.new w #[.int .i64 100000,.int .i64 0,.int .i64 0,.int .i64 0,.int .i64 100000,.int .i64 0,.int .i64 0,.int .i64 0,.int .i64 100000] 116)
 have hB:Below w.heap.size w (w.alloc (.cells #[.int .i64 100000,.int .i64 0,.int .i64 0,.int .i64 0,.int .i64 100000,.int .i64 0,.int .i64 0,.int .i64 0,.int .i64 100000] 116)):=aA
 obtain ⟨W1,EW⟩:∃ y,w.alloc (.cells #[.int .i64 100000,.int .i64 0,.int .i64 0,.int .i64 0,.int .i64 100000,.int .i64 0,.int .i64 0,.int .i64 0,.int .i64 100000] 116)=y:=⟨_,rfl⟩
 rw [EW] at X hB ⊢
 have XC:Hid (∀ i,i<3→∀ j,j<3→W1.cell? ⟨w.heap.size,i*3+j,none⟩=some (.int .i64 (C i j))):=zh fun i hi j hj=>by
  rw [X.out.cell,HC.out]
  rcases (by omega:i=0∨i=1∨i=2) with rfl|rfl|rfl<;>rcases (by omega:j=0∨j=1∨j=2) with rfl|rfl|rfl<;>rfl
 have l1:=X.out.lt
 clear EW
 rotate_left
 have X:=zh (aB.new w #[.int .i64 40024,.int .i64 70760,.int .i64 (-8081),.int .i64 (-22630),.int .i64 116532,.int .i64 4570,.int .i64 0,.int .i64 0,.int .i64 91822] 116)
 have hB:Below w.heap.size w (w.alloc (.cells #[.int .i64 40024,.int .i64 70760,.int .i64 (-8081),.int .i64 (-22630),.int .i64 116532,.int .i64 4570,.int .i64 0,.int .i64 0,.int .i64 91822] 116)):=aA
 obtain ⟨W1,EW⟩:∃ y,w.alloc (.cells #[.int .i64 40024,.int .i64 70760,.int .i64 (-8081),.int .i64 (-22630),.int .i64 116532,.int .i64 4570,.int .i64 0,.int .i64 0,.int .i64 91822] 116)=y:=⟨_,rfl⟩
 rw [EW] at X hB ⊢
 have XC:Hid (∀ i,i<3→∀ j,j<3→W1.cell? ⟨w.heap.size,i*3+j,none⟩=some (.int .i64 (C i j))):=zh fun i hi j hj=>by
  rw [X.out.cell,HC.out]
  rcases (by omega:i=0∨i=1∨i=2) with rfl|rfl|rfl<;>rcases (by omega:j=0∨j=1∨j=2) with rfl|rfl|rfl<;>rfl
 have l1:=X.out.lt
 clear EW
 rotate_left
 have X:=zh (aB.new w #[.int .i64 89510,.int .i64 26640,.int .i64 (-16140),.int .i64 (-75020),.int .i64 171350,.int .i64 3670,.int .i64 3890,.int .i64 (-6850),.int .i64 102960] 116)
 have hB:Below w.heap.size w (w.alloc (.cells #[.int .i64 89510,.int .i64 26640,.int .i64 (-16140),.int .i64 (-75020),.int .i64 171350,.int .i64 3670,.int .i64 3890,.int .i64 (-6850),.int .i64 102960] 116)):=aA
 obtain ⟨W1,EW⟩:∃ y,w.alloc (.cells #[.int .i64 89510,.int .i64 26640,.int .i64 (-16140),.int .i64 (-75020),.int .i64 171350,.int .i64 3670,.int .i64 3890,.int .i64 (-6850),.int .i64 102960] 116)=y:=⟨_,rfl⟩
 rw [EW] at X hB ⊢
 have XC:Hid (∀ i,i<3→∀ j,j<3→W1.cell? ⟨w.heap.size,i*3+j,none⟩=some (.int .i64 (C i j))):=zh fun i hi j hj=>by
  rw [X.out.cell,HC.out]
  rcases (by omega:i=0∨i=1∨i=2) with rfl|rfl|rfl<;>rcases (by omega:j=0∨j=1∨j=2) with rfl|rfl|rfl<;>rfl
 have l1:=X.out.lt
 clear EW
 rotate_left
 have X:=zh (aB.new w #[.int .i64 89500,.int .i64 26640,.int .i64 (-16140),.int .i64 (-75020),.int .i64 171350,.int .i64 3670,.int .i64 3890,.int .i64 (-6850),.int .i64 102960] 116)
 have hB:Below w.heap.size w (w.alloc (.cells #[.int .i64 89500,.int .i64 26640,.int .i64 (-16140),.int .i64 (-75020),.int .i64 171350,.int .i64 3670,.int .i64 3890,.int .i64 (-6850),.int .i64 102960] 116)):=aA
 obtain ⟨W1,EW⟩:∃ y,w.alloc (.cells #[.int .i64 89500,.int .i64 26640,.int .i64 (-16140),.int .i64 (-75020),.int .i64 171350,.int .i64 3670,.int .i64 3890,.int .i64 (-6850),.int .i64 102960] 116)=y:=⟨_,rfl⟩
 rw [EW] at X hB ⊢
 have XC:Hid (∀ i,i<3→∀ j,j<3→W1.cell? ⟨w.heap.size,i*3+j,none⟩=some (.int .i64 (C i j))):=zh fun i hi j hj=>by
  rw [X.out.cell,HC.out]
  rcases (by omega:i=0∨i=1∨i=2) with rfl|rfl|rfl<;>rcases (by omega:j=0∨j=1∨j=2) with rfl|rfl|rfl<;>rfl
 have l1:=X.out.lt
 clear EW
 rotate_left
 all_goals
  clear HC
  have HB:=zh hB
  obtain ⟨p,ep⟩:∃ y,w.heap.size=y:=⟨_,rfl⟩
  rw [ep] at X XC l1 ⊢
  clear hB ep
  go_wp2_with fail
  go_loopw [5,6] (fun ov iv wr=>∃ k:Nat,iv= .int .i64 (k:Int)∧k≤3∧Hid (aX wr W1.heap.size 56 1 jV ov ((List.range k).map fun i=>(List.range 3).map (G i)))∧Below W1.heap.size W1 wr) (fun _ iv _=>3 - (intOf iv).toNat)
  case atStart=>exact ⟨0,rfl,by omega,zh (aX.nil _ _ _ _ _),Below.refl _ _⟩
  case round =>
   obtain ⟨k,rfl,hk,HG,hb⟩:=hrel
   rcases Nat.lt_or_ge k 3 with hlt|hge
   ·obtain ⟨wo,rfl⟩:∃ wo:World,wo=wr:=⟨_,rfl⟩
    obtain ⟨ov,cv,rfl⟩:=HG.out.at (n:=k) zi
    have J7:=zh hb
    clear hb
    have q3:decide ((k:Int)<3)=true:=by simp;omega
    go_wp2_with fail
    go_loopw [7,8] (fun rv jv wr=>∃ j:Nat,jv= .int .i64 (j:Int)∧j≤3∧Hid (aX wr wo.heap.size 36 2 rM rv ((List.range j).map (G k)))∧Below wo.heap.size wo wr) (fun _ jv _=>3 - (intOf jv).toNat)
    case atStart=>exact ⟨0,rfl,by omega,zh (aX.nil _ _ _ _ _),Below.refl _ _⟩
    case round =>
     obtain ⟨j,rfl,hj,HR,hbi⟩:=hrel
     rcases Nat.lt_or_ge j 3 with hjlt|SY
     ·obtain ⟨rv,rc,rfl⟩:=HR.out.at (n:=j) zi
      have hbw:=Bt J7.out hbi
      have d1:=(hbw.cell (p:=⟨p,k*3+j,none⟩) l1).trans (XC.out k hlt j hjlt)
      have l2:p<wr.heap.size:=Nat.lt_of_lt_of_le l1 hbw.size
      have OGk:=zh (OG.out k hlt j hjlt)
      have EO:=zh hbi
      clear hbi hbw
      obtain ⟨⟨s,t⟩,hg⟩:∃ y,G k j=y:=⟨_,rfl⟩
      rw [hg] at OGk
      have Yz:=zh hg
      unfold Fr.v at OGk
      clear hg
      generalize C k j=z at *
      go_wp2_with fail
      refine (OGk.out _).mono ?_
      rintro e w2 ⟨rfl,hb2⟩
      have z1:=zh (Bt EO.out hb2)
      replace HR:=zh (HR.out.later hb2 (rM.stay _))
      clear hb2 d1 l2
      go_wp2_with (at_builtin;refine bN (w0:=wo) rfl (.tmp 42) (.tmp 49) 56 rfl 36 i0 (.agg #[.string ⟨#[]⟩,.string ⟨#[]⟩]) 2 32 Tryz.underlying56 hi hz0 hz1 hz2 rfl zd rM _ ((List.range j).map (G k)) rfl (HR.out.later aA (rM.stay _)) (Bt z1.out aA) _ [.string s,.string t] ⟨s,t⟩ rfl (aB.new _ _ _) rfl ?c1 rfl (rM.stay _) ?c2 zo ?_)
      case c1=>first|exact ⟨rfl,rfl⟩|(intro u hu;simp only [List.mem_cons,List.not_mem_nil,or_false] at hu;rcases hu with rfl|rfl<;>rfl)
      case c2=>first|omega|(simp;omega)
      intro v' w3 hg hb3 _
      have HG2:Hid (aX w3 wo.heap.size 36 2 rM v' ((List.range (j+1)).map (G k))):=zh (by rw [fV,Yz.out];exact hg)
      clear hg HR
      go_wp2_with fail
      go_roundw
      case rel=>exact ⟨j+1,by go_num,by omega,HG2,hb3⟩
      case measure=>exact zM
     ·obtain rfl:j=3:=by omega
      have wD:=zh HR.out.Dy.zL
      obtain ⟨rv,rc,rfl⟩:=HR.out.at (n:=3) zi
      have HB3:=zh (Bt J7.out hbi)
      replace HG:=zh (HG.out.later hbi (jV.stay zi))
      clear hbi HR
      go_wp2_with (at_builtin;refine bN (w0:=W1) rfl (.tmp 51) (.tmp 53) 44 rfl 56 i1 (.slice none 0 0) 1 24 Tryz.underlying44 hi' hy0 hy1 hy2 rfl zd jV _ ((List.range k).map fun i=>(List.range 3).map (G i)) rfl (HG.out.later aA (jV.stay zi)) (Bt HB3.out aA) _ [.slice rv 3 rc] ((List.range 3).map (G k)) rfl (aB.new _ _ _) rfl ?c1 ⟨_,rfl,wD.out.later aA⟩ (jV.stay zi) ?c2 zo ?_)
      case c1=>first|(intro u hu;simp only [List.mem_cons,List.not_mem_nil,or_false] at hu;rcases hu with rfl;rfl)|rfl
      case c2=>first|omega|(simp;omega)
      intro v' w3 hg hb3 _
      have HG2:Hid (aX w3 W1.heap.size 56 1 jV v' ((List.range (k+1)).map fun i=>(List.range 3).map (G i))):=zh (by rw [fV];exact hg)
      clear hg HG wD
      go_wp2_with fail
      go_roundw
      case rel=>exact ⟨k+1,by go_num,by omega,HG2,hb3⟩
      case measure=>exact zM
   ·obtain rfl:k=3:=by omega
    obtain ⟨ov,cv,rfl⟩:=HG.out.at (n:=3) zi
    have YC:=zh (Bt HB.out hb)
    go_wp2_with fail
    go_ret2
    exact aS.yes YC.out HG.out.Dy.zC
end Go.Proofs.aV
namespace Go.Proofs.aK
open Go Go.RowKit Go.SW Go.Num Go.Mem Go.Proofs Go.Dec Go.dB Go.Proofs.aG
theorem Rp {w:World} {b:Nat} {v:Value} {T:TypeId} (h:aB w b #[v] T):w.setCell ⟨b,0,none⟩ v=w:=by
 have e:(w.setCell ⟨b,0,none⟩ v).heap=w.heap:=Array.ext_getElem? fun i=>by
  by_cases hi:i=b
  ·subst hi
   have h2:=aB.set h 0 v
   unfold aB at h h2
   rw [h2,h]
   rfl
  ·exact sQ _ _ hi
 have e2:w.setCell ⟨b,0,none⟩ v={ w with heap:=(w.setCell ⟨b,0,none⟩ v).heap }:=rfl
 rw [e2,e]
theorem GQ (b:Nat) (s t:ByteArray) (w:World) (hx:aB w b #[.int .i64 0] 142) :
  Calls Tryz.prog 151 #[.pointer (some ⟨b,0,none⟩),.agg #[.string s,.string t],.int .i64 0] w (fun e w'=>e= .returned (.agg #[.string s,.string t])∧Below w.heap.size w w'):=by
 have hl:=hx.lt
 have hc:=hx.cell
 have hf:=hx.free
 have hs:∀ o1 o2,((w.alloc o1).alloc o2).setCell ⟨b,0,none⟩ (.int .i64 0)=(w.alloc o1).alloc o2:=fun o1 o2=>Rp ((hx.alloc o1).alloc o2)
 have hr:=aB.mg w (.cells #[.string s,.string t] 36) #[.string ⟨#[]⟩,.string ⟨#[]⟩] 36
 have cr:=hr.cell
 have fr:=hr.free
 clear hx
 go_enter Tryz.func151,Tryz.ntmps151
 go_wp2_with fail
 refine bP rfl rfl aL Tryz.underlying36 rfl zk ?_
 exact ⟨rfl,aA⟩
theorem Cv (b:Nat) (x y z:Fr) (w:World) (hx:aB w b #[.int .i64 0] 142) (e:JI x y=(z,0)) (hf:aG.Fits x) (hg:aG.Fits y) :
  Calls Tryz.prog 95 #[.pointer (some ⟨b,0,none⟩),x.v,y.v] w (fun e w'=>e= .returned z.v∧Below w.heap.size w w'):=by
 have H1:=zh (fun W=>aG.Cv x y W hf hg)
 rw [e] at H1
 obtain ⟨x1,x2⟩:=x
 obtain ⟨y1,y2⟩:=y
 obtain ⟨z1,z2⟩:=z
 have H2:=zh (fun W (h:aB W b #[.int .i64 0] 142)=>GQ b z1 z2 W h)
 have B0:=zh hx
 replace H1:Hid (∀ W,Calls Tryz.prog 153 #[.agg #[.string x1,.string x2],.agg #[.string y1,.string y2]] W (fun e w'=>e= .returned (.tuple #[.agg #[.string z1,.string z2],.int .i64 0])∧Below W.heap.size W w')):=H1
 unfold Fr.v
 clear e hf hg hx
 go_enter Tryz.func95,Tryz.ntmps95
 go_wp2_with fail
 obtain ⟨cO,EW,hz,X1,X2,X3⟩:=yM w #[.string x1,.string x2] 36 #[.string y1,.string y2] 36 #[.string ⟨#[]⟩,.string ⟨#[]⟩] 36
 rw [EW]
 replace B0:=zh (B0.out.later hz)
 have hk2:=Bt (Below.refl _ _) hz
 clear EW hz
 refine (H1.out _).mono ?_
 rintro e iN ⟨rfl,hb3⟩
 replace B0:=zh (B0.out.later hb3)
 replace X1:=X1.bl hb3
 replace X2:=X2.bl hb3
 replace X3:=X3.bl hb3
 have hk5:=Bt hk2 hb3
 clear hk2
 clear hb3
 go_wp2_with fail
 obtain ⟨wq6,EW,hz,X4⟩:=G7 iN #[.string z1,.string z2] 36
 rw [EW]
 replace B0:=zh (B0.out.later hz)
 clear X1
 clear X2
 replace X3:=X3.bl hz
 have Cx:=Bt hk5 hz
 clear hk5
 clear EW hz
 generalize iN.heap.size=pq6 at *
 refine (H2.out _ B0.out).mono ?_
 rintro e wc8 ⟨rfl,kE⟩
 replace B0:=zh (B0.out.later kE)
 replace X3:=X3.bl kE
 replace X4:=X4.bl kE
 have hk10:=Bt Cx kE
 clear Cx
 clear kE
 obtain ⟨mF,mD,pz⟩:=X3.dx
 have hres:=X3.out
 have gW:=hres.cell
 have gV:=hres.free
 go_wp2_with fail
 refine bP rfl rfl aL Tryz.underlying36 rfl zk ?_
 exact ⟨rfl,aA⟩
theorem Ch (b:Nat) (x y z:Fr) (w:World) (hx:aB w b #[.int .i64 0] 142) (e:Fw x y=(z,0)) (hf:aG.Fits x) (hg:aG.Fits y) :
  Calls Tryz.prog 93 #[.pointer (some ⟨b,0,none⟩),x.v,y.v] w (fun e w'=>e= .returned z.v∧Below w.heap.size w w'):=by
 have H1:=zh (fun W=>aG.Ch x y W hf hg)
 rw [e] at H1
 obtain ⟨x1,x2⟩:=x
 obtain ⟨y1,y2⟩:=y
 obtain ⟨z1,z2⟩:=z
 have H2:=zh (fun W (h:aB W b #[.int .i64 0] 142)=>GQ b z1 z2 W h)
 have B0:=zh hx
 replace H1:Hid (∀ W,Calls Tryz.prog 150 #[.agg #[.string x1,.string x2],.agg #[.string y1,.string y2]] W (fun e w'=>e= .returned (.tuple #[.agg #[.string z1,.string z2],.int .i64 0])∧Below W.heap.size W w')):=H1
 unfold Fr.v
 clear e hf hg hx
 go_enter Tryz.func93,Tryz.ntmps93
 go_wp2_with fail
 obtain ⟨cO,EW,hz,X1,X2,X3⟩:=yM w #[.string x1,.string x2] 36 #[.string y1,.string y2] 36 #[.string ⟨#[]⟩,.string ⟨#[]⟩] 36
 rw [EW]
 replace B0:=zh (B0.out.later hz)
 have hk2:=Bt (Below.refl _ _) hz
 clear EW hz
 refine (H1.out _).mono ?_
 rintro e iN ⟨rfl,hb3⟩
 replace B0:=zh (B0.out.later hb3)
 replace X1:=X1.bl hb3
 replace X2:=X2.bl hb3
 replace X3:=X3.bl hb3
 have hk5:=Bt hk2 hb3
 clear hk2
 clear hb3
 go_wp2_with fail
 obtain ⟨wq6,EW,hz,X4⟩:=G7 iN #[.string z1,.string z2] 36
 rw [EW]
 replace B0:=zh (B0.out.later hz)
 clear X1
 clear X2
 replace X3:=X3.bl hz
 have Cx:=Bt hk5 hz
 clear hk5
 clear EW hz
 generalize iN.heap.size=pq6 at *
 refine (H2.out _ B0.out).mono ?_
 rintro e wc8 ⟨rfl,kE⟩
 replace B0:=zh (B0.out.later kE)
 replace X3:=X3.bl kE
 replace X4:=X4.bl kE
 have hk10:=Bt Cx kE
 clear Cx
 clear kE
 obtain ⟨mF,mD,pz⟩:=X3.dx
 have hres:=X3.out
 have gW:=hres.cell
 have gV:=hres.free
 go_wp2_with fail
 refine bP rfl rfl aL Tryz.underlying36 rfl zk ?_
 exact ⟨rfl,aA⟩
theorem tV (b:Nat) (x y z:Fr) (w:World) (hx:aB w b #[.int .i64 0] 142) (e:IC x y=(z,0)) (hf:aG.Fits x) (hg:aG.Fits y) :
  Calls Tryz.prog 96 #[.pointer (some ⟨b,0,none⟩),x.v,y.v] w (fun e w'=>e= .returned z.v∧Below w.heap.size w w'):=by
 have H1:=zh (fun W=>aG.tV x y W hf hg)
 rw [e] at H1
 obtain ⟨x1,x2⟩:=x
 obtain ⟨y1,y2⟩:=y
 obtain ⟨z1,z2⟩:=z
 have H2:=zh (fun W (h:aB W b #[.int .i64 0] 142)=>GQ b z1 z2 W h)
 have B0:=zh hx
 replace H1:Hid (∀ W,Calls Tryz.prog 154 #[.agg #[.string x1,.string x2],.agg #[.string y1,.string y2]] W (fun e w'=>e= .returned (.tuple #[.agg #[.string z1,.string z2],.int .i64 0])∧Below W.heap.size W w')):=H1
 unfold Fr.v
 clear e hf hg hx
 go_enter Tryz.func96,Tryz.ntmps96
 go_wp2_with fail
 obtain ⟨cO,EW,hz,X1,X2,X3⟩:=yM w #[.string x1,.string x2] 36 #[.string y1,.string y2] 36 #[.string ⟨#[]⟩,.string ⟨#[]⟩] 36
 rw [EW]
 replace B0:=zh (B0.out.later hz)
 have hk2:=Bt (Below.refl _ _) hz
 clear EW hz
 refine (H1.out _).mono ?_
 rintro e iN ⟨rfl,hb3⟩
 replace B0:=zh (B0.out.later hb3)
 replace X1:=X1.bl hb3
 replace X2:=X2.bl hb3
 replace X3:=X3.bl hb3
 have hk5:=Bt hk2 hb3
 clear hk2
 clear hb3
 go_wp2_with fail
 obtain ⟨wq6,EW,hz,X4⟩:=G7 iN #[.string z1,.string z2] 36
 rw [EW]
 replace B0:=zh (B0.out.later hz)
 clear X1
 clear X2
 replace X3:=X3.bl hz
 have Cx:=Bt hk5 hz
 clear hk5
 clear EW hz
 generalize iN.heap.size=pq6 at *
 refine (H2.out _ B0.out).mono ?_
 rintro e wc8 ⟨rfl,kE⟩
 replace B0:=zh (B0.out.later kE)
 replace X3:=X3.bl kE
 replace X4:=X4.bl kE
 have hk10:=Bt Cx kE
 clear Cx
 clear kE
 obtain ⟨mF,mD,pz⟩:=X3.dx
 have hres:=X3.out
 have gW:=hres.cell
 have gV:=hres.free
 go_wp2_with fail
 refine bP rfl rfl aL Tryz.underlying36 rfl zk ?_
 exact ⟨rfl,aA⟩
theorem Ct (b:Nat) (x y z:Fr) (w:World) (hx:aB w b #[.int .i64 0] 142) (e:zN x y=(z,0)) (hf:aG.Fits x) (hg:aG.Fits y) :
  Calls Tryz.prog 97 #[.pointer (some ⟨b,0,none⟩),x.v,y.v] w (fun e w'=>e= .returned z.v∧Below w.heap.size w w'):=by
 have H1:=zh (fun W=>aG.Ct x y W hf hg)
 rw [e] at H1
 obtain ⟨x1,x2⟩:=x
 obtain ⟨y1,y2⟩:=y
 obtain ⟨z1,z2⟩:=z
 have H2:=zh (fun W (h:aB W b #[.int .i64 0] 142)=>GQ b z1 z2 W h)
 have B0:=zh hx
 replace H1:Hid (∀ W,Calls Tryz.prog 155 #[.agg #[.string x1,.string x2],.agg #[.string y1,.string y2]] W (fun e w'=>e= .returned (.tuple #[.agg #[.string z1,.string z2],.int .i64 0])∧Below W.heap.size W w')):=H1
 unfold Fr.v
 clear e hf hg hx
 go_enter Tryz.func97,Tryz.ntmps97
 go_wp2_with fail
 obtain ⟨cO,EW,hz,X1,X2,X3⟩:=yM w #[.string x1,.string x2] 36 #[.string y1,.string y2] 36 #[.string ⟨#[]⟩,.string ⟨#[]⟩] 36
 rw [EW]
 replace B0:=zh (B0.out.later hz)
 have hk2:=Bt (Below.refl _ _) hz
 clear EW hz
 refine (H1.out _).mono ?_
 rintro e iN ⟨rfl,hb3⟩
 replace B0:=zh (B0.out.later hb3)
 replace X1:=X1.bl hb3
 replace X2:=X2.bl hb3
 replace X3:=X3.bl hb3
 have hk5:=Bt hk2 hb3
 clear hk2
 clear hb3
 go_wp2_with fail
 obtain ⟨wq6,EW,hz,X4⟩:=G7 iN #[.string z1,.string z2] 36
 rw [EW]
 replace B0:=zh (B0.out.later hz)
 clear X1
 clear X2
 replace X3:=X3.bl hz
 have Cx:=Bt hk5 hz
 clear hk5
 clear EW hz
 generalize iN.heap.size=pq6 at *
 refine (H2.out _ B0.out).mono ?_
 rintro e wc8 ⟨rfl,kE⟩
 replace B0:=zh (B0.out.later kE)
 replace X3:=X3.bl kE
 replace X4:=X4.bl kE
 have hk10:=Bt Cx kE
 clear Cx
 clear kE
 obtain ⟨mF,mD,pz⟩:=X3.dx
 have hres:=X3.out
 have gW:=hres.cell
 have gV:=hres.free
 go_wp2_with fail
 refine bP rfl rfl aL Tryz.underlying36 rfl zk ?_
 exact ⟨rfl,aA⟩
end Go.Proofs.aK
namespace Go.Proofs.aK
open Go Go.RowKit Go.SW Go.Num Go.Mem Go.Proofs Go.Dec Go.dB Go.Proofs.aG Go.Proofs.light
theorem jX (a:Fr) (w:World) (hf:Fits a):Calls Tryz.prog 94 #[a.v] w (fun e w'=>e= .returned (.int .i64 (fI a).1)∧Below w.heap.size w w'):=by
 have H1:=zh (fun W=>aG.jX a W hf)
 obtain ⟨⟨k,j⟩,E⟩:∃ y,fI a=y:=⟨_,rfl⟩
 rw [E] at H1 ⊢
 obtain ⟨s,t⟩:=a
 unfold Fr.v at *
 clear E hf
 go_enter Tryz.func94,Tryz.ntmps94
 go_wp2_with fail
 obtain ⟨cO,EW,hz,X1⟩:=G7 w #[.string s,.string t] 36
 rw [EW]
 have hk2:=Bt (Below.refl _ _) hz
 clear EW hz
 refine (H1.out _).mono ?_
 rintro e iN ⟨rfl,hb3⟩
 replace X1:=X1.bl hb3
 have hk5:=Bt hk2 hb3
 clear hk2
 clear hb3
 go_wp2_with fail
 go_ret
 exact ⟨rfl,hk5⟩
theorem UK (v:Value) (l:List Fr) (T:TypeId) (w:World) (h:jI w T v l) (hf:∀ x∈l,Fits x) :
  Calls Tryz.prog 115 #[v] w (fun e w'=>e= .returned (.int .i64 (dP l))∧Below w.heap.size w w'):=by
 obtain ⟨a,cap,rfl,hc1,hc2,hread⟩:=h.read
 have H:=zh hread
 have HF:=zh hf
 clear h hread hf
 go_enter Tryz.func115,Tryz.ntmps115
 go_wp2_with fail
 go_loopw [3] (fun iv wr=>∃ k:Nat,iv= .int .i64 (k:Int)∧k≤l.length∧Hid (∀ j (h:j<l.length),j<k→(rd l[j]).isSome=true)∧Below w.heap.size w wr) (fun iv _=>l.length - (intOf iv).toNat)
 case atStart=>exact ⟨0,rfl,by omega,zh (fun j _ h=>by omega),Below.refl _ _⟩
 case round =>
  obtain ⟨k,rfl,hk,HK,hb⟩:=hrel
  rcases Nat.lt_or_ge k l.length with hlt|hge
  ·obtain ⟨b,off,rfl,hbl,hx1,hx2⟩:=H.out k hlt
   have hc1:=(hb.cell (p:=⟨b,off+k*2,none⟩) hbl).trans hx1
   have hc2:=(hb.cell (p:=⟨b,off+k*2+1,none⟩) hbl).trans hx2
   clear hx1 hx2
   have hck:=fun W=>gD l[k] W (HF.out _ (List.getElem_mem hlt))
   generalize hlk:l[k]=lk at *
   obtain ⟨s,t⟩:=lk
   cases hv:(rd ⟨s,t⟩).isSome with
   | true =>
    rw [tF hv] at hck
    have rV:Hid (∀ w,Calls Tryz.prog 92 #[.agg #[.string s,.string t]] w (fun e w'=>e= .returned (.int .i64 0)∧Below w.heap.size w w')):=zh hck
    have HLK:=zh hlk
    have HV:=zh hv
    clear hck hlk hv
    go_wp2_with fail
    refine (rV.out _).mono ?_
    rintro e v1 ⟨rfl,hc1⟩
    go_wp2_with fail
    go_roundw
    case rel =>
     refine ⟨k+1,by go_num,by omega,zh fun j hj hjk=>?_,Bt hb aA⟩
     rcases Nat.lt_or_ge j k with h|h
     ·exact HK.out j hj h
     ·obtain rfl:j=k:=by omega
      rw [HLK.out]
      exact HV.out
    case measure=>exact zM
   | false =>
    rw [LV hv] at hck
    have rV:Hid (∀ w,Calls Tryz.prog 92 #[.agg #[.string s,.string t]] w (fun e w'=>e= .returned (.int .i64 20)∧Below w.heap.size w w')):=zh hck
    have hno:dP l=20:=by
     unfold dP
     rw [if_neg]
     intro h
     have:=List.all_eq_true.1 h l[k] (List.getElem_mem _)
     rw [hlk,hv] at this
     cases this
    have QO:=zh hno
    clear hck hlk hv hno
    go_wp2_with fail
    refine (rV.out _).mono ?_
    rintro e v1 ⟨rfl,hc1⟩
    go_wp2_with fail
    go_ret
    exact ⟨by rw [QO.out];rfl,Bt hb aA⟩
  ·have hyes:dP l=0:=by
    unfold dP
    rw [if_pos]
    rw [List.all_eq_true]
    intro x hx
    obtain ⟨j,hj,rfl⟩:=List.getElem_of_mem hx
    exact HK.out j hj zo
   have Dr:=zh hyes
   clear hyes
   obtain rfl:k=l.length:=by omega
   go_wp2_with fail
   go_ret
   exact ⟨by rw [Dr.out];rfl,hb⟩
def zA (t:aY):Prop:=∀ i,i<3→Fits (t.get i)
theorem zA.mem {t:aY} (h:zA t):∀ x∈t.list,Fits x:=fun x hx=>by
 simp only [aY.list,List.mem_cons,List.not_mem_nil,or_false] at hx
 rcases hx with rfl|rfl|rfl
 ·exact h 0 zo
 ·exact h 1 zo
 ·exact h 2 zo
theorem aY.at {w:World} {b:Nat} {t:aY} {T:TypeId} (h:aB w b t.cells T) {k:Nat} (hk:k<3):w.cell? ⟨b,k*2,none⟩=some (.string (t.get k).n)∧w.cell? ⟨b,k*2+1,none⟩=some (.string (t.get k).d):=by
 have hc:k=0∨k=1∨k=2:=by omega
 rcases hc with rfl|rfl|rfl<;>exact ⟨h.cell _,h.cell _⟩
theorem Qw {t:aY} (h:∀ i,i<3→decide ((fun f:Fr=>0≤(fI f).1) (t.get i))=true):t.list.all (fun f=>decide (0≤(fI f).1))=true:=by
 have h0:=h 0 zo
 have h1:=h 1 zo
 have h2:=h 2 zo
 simp only [aY.list,List.all_cons,List.all_nil,Bool.and_true,Bool.and_eq_true]
 exact ⟨h0,h1,h2⟩
theorem UO {t:aY} {i:Nat} (hi:i<3) (h:decide ((fun f:Fr=>0≤(fI f).1) (t.get i))=false):t.list.all (fun f=>decide (0≤(fI f).1))=false:=by
 have hc:i=0∨i=1∨i=2:=by omega
 simp only [aY.list,List.all_cons,List.all_nil,Bool.and_true]
 rcases hc with rfl|rfl|rfl
 ·have h:decide ((fun f:Fr=>0≤(fI f).1) t.x)=false:=h
  simp only at h
  rw [h];rfl
 ·have h:decide ((fun f:Fr=>0≤(fI f).1) t.y)=false:=h
  simp only at h
  rw [h];simp
 ·have h:decide ((fun f:Fr=>0≤(fI f).1) t.z)=false:=h
  simp only at h
  rw [h];simp
theorem Qk {t:aY} (h:∀ i,i<3→decide ((fun f:Fr=>(fI f).1≠0) (t.get i))=true):t.list.all (fun f=>decide ((fI f).1≠0))=true:=by
 have h0:=h 0 zo
 have h1:=h 1 zo
 have h2:=h 2 zo
 simp only [aY.list,List.all_cons,List.all_nil,Bool.and_true,Bool.and_eq_true]
 exact ⟨h0,h1,h2⟩
theorem Um {t:aY} {i:Nat} (hi:i<3) (h:decide ((fun f:Fr=>(fI f).1≠0) (t.get i))=false):t.list.all (fun f=>decide ((fI f).1≠0))=false:=by
 have hc:i=0∨i=1∨i=2:=by omega
 simp only [aY.list,List.all_cons,List.all_nil,Bool.and_true]
 rcases hc with rfl|rfl|rfl
 ·have h:decide ((fun f:Fr=>(fI f).1≠0) t.x)=false:=h
  simp only at h
  rw [h];rfl
 ·have h:decide ((fun f:Fr=>(fI f).1≠0) t.y)=false:=h
  simp only at h
  rw [h];simp
 ·have h:decide ((fun f:Fr=>(fI f).1≠0) t.z)=false:=h
  simp only at h
  rw [h];simp
theorem N7 {t:aY} (h:dP t.list≠0):iU t=20∧dP t.list=20:=by
 unfold iU
 rw [if_neg h]
 refine ⟨rfl,?_⟩
 unfold dP at *
 split at h
 ·exact absurd rfl h
 ·rename_i h2;rw [if_neg h2]
def JU (t:aY):Prop:=dP t.list=0
def JR (t:aY):Prop:=iU t=0
theorem Xx {t:aY} (h0:JU t) {G:Nat→Fr} (hG:∀ k,k<3→t.get k=G k):(∀ k,k<3→decide ((fun f:Fr=>0≤(fI f).1) (G k))=false→iU t=2)∧((∀ k,k<3→decide ((fun f:Fr=>0≤(fI f).1) (G k))=true)→iU t=0):=by
 unfold iU
 unfold JU at h0
 rw [if_pos h0]
 refine ⟨fun k hk h=>?_,fun h=>?_⟩
 ·rw [if_neg]
  rw [UO hk (by rw [hG k hk];exact h)]
  simp
 ·rw [if_pos]
  exact Qw fun i hi=>by rw [hG i hi];exact h i hi
theorem Xe {t:aY} (h0:JR t) {G:Nat→Fr} (hG:∀ k,k<3→t.get k=G k):(∀ k,k<3→decide ((fun f:Fr=>(fI f).1≠0) (G k))=false→jG t=2)∧((∀ k,k<3→decide ((fun f:Fr=>(fI f).1≠0) (G k))=true)→jG t=0):=by
 unfold jG
 unfold JR at h0
 rw [if_pos h0]
 refine ⟨fun k hk h=>?_,fun h=>?_⟩
 ·rw [if_neg]
  rw [Um hk (by rw [hG k hk];exact h)]
  simp
 ·rw [if_pos]
  exact Qk fun i hi=>by rw [hG i hi];exact h i hi
theorem gD (t:aY) (w:World) (hf:zA t):Calls Tryz.prog 54 #[t.v] w (fun e w'=>e= .returned (.int .i64 (iU t))∧Below w.heap.size w w'):=by
 have FR:=zh (fun W b (h:aB W b t.cells 36)=>UK _ _ _ W (aY.zL h) hf.mem)
 by_cases hc:dP t.list=0
 rotate_left
 ·rw [(N7 hc).1]
  rw [(N7 hc).2] at FR
  obtain ⟨⟨x1,x2⟩,⟨x3,x4⟩,⟨x5,x6⟩⟩:=t
  unfold aY.cells at FR
  unfold aY.v aY.cells
  clear hc hf
  go_enter Tryz.func54,Tryz.ntmps54
  go_wp2_with fail
  refine (FR.out _ _ (aB.mg _ _ _ _)).mono ?_
  rintro e w1 ⟨rfl,hb⟩
  go_wp2_with fail
  go_ret
  exact ⟨rfl,Bt aA hb⟩
 rw [hc] at FR
 obtain ⟨G,eG⟩:∃ G,t.get=G:=⟨_,rfl⟩
 have hG:∀ k,k<3→t.get k=G k:=fun k _=>by rw [eG]
 obtain ⟨h2,h0⟩:=Xx hc hG
 have H2:=zh h2
 have H0:=zh h0
 have SG:Hid (∀ k,k<3→∀ W,Calls Tryz.prog 94 #[(G k).v] W (fun e w'=>e= .returned (.int .i64 (fI (G k)).1)∧Below W.heap.size W w')):=zh fun k hk W=>by rw [← hG k hk];exact jX _ W (hf k hk)
 have AT:Hid (∀ (W:World) b,aB W b t.cells 38→∀ k,k<3→W.cell? ⟨b,k*2,none⟩=some (.string (G k).n)∧W.cell? ⟨b,k*2+1,none⟩=some (.string (G k).d)):=zh fun W b h k hk=>by rw [← hG k hk];exact aY.at h hk
 generalize iU t=z at *
 obtain ⟨⟨x1,x2⟩,⟨x3,x4⟩,⟨x5,x6⟩⟩:=t
 unfold aY.cells at FR AT
 unfold aY.v aY.cells
 clear hc hf hG eG h2 h0
 have X:=zh (aB.new w #[.string x1,.string x2,.string x3,.string x4,.string x5,.string x6] 38)
 go_enter Tryz.func54,Tryz.ntmps54
 go_wp2_with fail
 refine (FR.out _ _ (aB.mg _ _ _ _)).mono ?_
 rintro e wl ⟨rfl,hb⟩
 have HB:=zh (Bt (w:=w) aA hb)
 replace X:=zh ((X.out.alloc _).later hb)
 generalize w.heap.size=p at X
 clear hb
 go_wp2_with fail
 go_loopw [4] (fun iv wr=>∃ k:Nat,iv= .int .i64 (k:Int)∧k≤3∧Hid (∀ j,j<k→decide ((fun f:Fr=>0≤(fI f).1) (G j))=true)∧Below wl.heap.size wl wr) (fun iv _=>3 - (intOf iv).toNat)
 case atStart=>exact ⟨0,rfl,by omega,zh (fun j h=>by omega),Below.refl _ _⟩
 case round =>
  obtain ⟨k,rfl,hk,HK,hb⟩:=hrel
  rcases Nat.lt_or_ge k 3 with hlt|hge
  ·obtain ⟨c1,c2⟩:=AT.out wr p (X.out.later hb) k hlt
   have l1:=(X.out.later hb).lt
   have hs:=SG.out k hlt
   have H2K:=zh (H2.out k hlt)
   generalize hgk:G k=g at *
   have Yy:=zh hgk
   obtain ⟨s,t⟩:=g
   generalize hsg:(fI ⟨s,t⟩).1=sg at *
   have EN:=zh hsg
   have S:Hid (∀ W,Calls Tryz.prog 94 #[.agg #[.string s,.string t]] W (fun e w'=>e= .returned (.int .i64 sg)∧Below W.heap.size W w')):=zh hs
   clear hs hsg hgk
   by_cases hn:sg<0
   ·have HN:=zh hn
    clear hn;have hn1:decide (sg<0)=true:=decide_eq_true HN.out
    go_wp2_with fail
    refine (S.out _).mono ?_
    rintro e v1 ⟨rfl,hc1⟩
    go_wp2_with fail
    go_ret
    exact ⟨by rw [H2K.out (by rw [decide_eq_false_iff_not];have:=HN.out;have:=EN.out;omega)];rfl,Bt HB.out (Bt hb aA)⟩
   ·have HN:=zh hn
    clear hn;have hn1:decide (sg<0)=false:=decide_eq_false HN.out
    go_wp2_with fail
    refine (S.out _).mono ?_
    rintro e v1 ⟨rfl,hc1⟩
    go_wp2_with fail
    go_roundw
    case rel =>
     refine ⟨k+1,by go_num,by omega,zh fun j hj=>?_,Bt hb aA⟩
     rcases Nat.lt_or_ge j k with h|h
     ·exact HK.out j h
     ·obtain rfl:j=k:=by omega
      rw [Yy.out,decide_eq_true_iff]
      have:=HN.out
      have:=EN.out
      omega
    case measure=>exact zM
  ·obtain rfl:k=3:=by omega
   have HZ:=zh (H0.out HK.out)
   go_wp2_with fail
   go_ret
   exact ⟨by rw [HZ.out];rfl,Bt HB.out hb⟩
theorem tN (t:aY) (w:World) (hf:zA t):Calls Tryz.prog 91 #[t.v] w (fun e w'=>e= .returned (.int .i64 (jG t))∧Below w.heap.size w w'):=by
 have CK:=zh (fun W=>gD t W hf)
 by_cases hc:iU t=0
 rotate_left
 ·rw [show jG t=iU t by unfold jG;rw [if_neg hc]]
  have hz:(iU t == 0)=false:=beq_eq_false_iff_ne.2 hc
  obtain ⟨⟨x1,x2⟩,⟨x3,x4⟩,⟨x5,x6⟩⟩:=t
  unfold aY.v aY.cells at *
  generalize iU ⟨⟨x1,x2⟩,⟨x3,x4⟩,⟨x5,x6⟩⟩=z at *
  have HC:=zh hc
  clear hc hf
  go_enter Tryz.func91,Tryz.ntmps91
  go_wp2_with fail
  refine (CK.out _).mono ?_
  rintro e w1 ⟨rfl,hb⟩
  go_wp2_with fail
  go_ret
  exact ⟨rfl,Bt aA hb⟩
 rw [hc] at CK
 obtain ⟨G,eG⟩:∃ G,t.get=G:=⟨_,rfl⟩
 have hG:∀ k,k<3→t.get k=G k:=fun k _=>by rw [eG]
 obtain ⟨h2,h0⟩:=Xe hc hG
 have H2:=zh h2
 have H0:=zh h0
 have SG:Hid (∀ k,k<3→∀ W,Calls Tryz.prog 94 #[(G k).v] W (fun e w'=>e= .returned (.int .i64 (fI (G k)).1)∧Below W.heap.size W w')):=zh fun k hk W=>by rw [← hG k hk];exact jX _ W (hf k hk)
 have AT:Hid (∀ (W:World) b,aB W b t.cells 38→∀ k,k<3→W.cell? ⟨b,k*2,none⟩=some (.string (G k).n)∧W.cell? ⟨b,k*2+1,none⟩=some (.string (G k).d)):=zh fun W b h k hk=>by rw [← hG k hk];exact aY.at h hk
 generalize jG t=z at *
 obtain ⟨⟨x1,x2⟩,⟨x3,x4⟩,⟨x5,x6⟩⟩:=t
 unfold aY.cells at AT
 unfold aY.v aY.cells at *
 clear hc hf hG eG h2 h0
 have X:=zh (aB.new w #[.string x1,.string x2,.string x3,.string x4,.string x5,.string x6] 38)
 go_enter Tryz.func91,Tryz.ntmps91
 go_wp2_with fail
 refine (CK.out _).mono ?_
 rintro e wl ⟨rfl,hb⟩
 have HB:=zh (Bt (w:=w) aA hb)
 replace X:=zh (X.out.later hb)
 generalize w.heap.size=p at X
 clear hb CK
 go_wp2_with fail
 go_loopw [4] (fun iv wr=>∃ k:Nat,iv= .int .i64 (k:Int)∧k≤3∧Hid (∀ j,j<k→decide ((fun f:Fr=>(fI f).1≠0) (G j))=true)∧Below wl.heap.size wl wr) (fun iv _=>3 - (intOf iv).toNat)
 case atStart=>exact ⟨0,rfl,by omega,zh (fun j h=>by omega),Below.refl _ _⟩
 case round =>
  obtain ⟨k,rfl,hk,HK,hb⟩:=hrel
  rcases Nat.lt_or_ge k 3 with hlt|hge
  ·obtain ⟨c1,c2⟩:=AT.out wr p (X.out.later hb) k hlt
   have l1:=(X.out.later hb).lt
   have hs:=SG.out k hlt
   have H2K:=zh (H2.out k hlt)
   generalize hgk:G k=g at *
   have Yy:=zh hgk
   obtain ⟨s,t⟩:=g
   generalize hsg:(fI ⟨s,t⟩).1=sg at *
   have EN:=zh hsg
   have S:Hid (∀ W,Calls Tryz.prog 94 #[.agg #[.string s,.string t]] W (fun e w'=>e= .returned (.int .i64 sg)∧Below W.heap.size W w')):=zh hs
   clear hs hsg hgk
   by_cases hn:sg=0
   ·have HN:=zh hn
    clear hn;have hn1:(sg == 0)=true:=beq_iff_eq.2 HN.out
    go_wp2_with fail
    refine (S.out _).mono ?_
    rintro e v1 ⟨rfl,hc1⟩
    go_wp2_with fail
    go_ret
    exact ⟨by rw [H2K.out (by rw [decide_eq_false_iff_not];have:=HN.out;have:=EN.out;omega)];rfl,Bt HB.out (Bt hb aA)⟩
   ·have HN:=zh hn
    clear hn;have hn1:(sg == 0)=false:=beq_eq_false_iff_ne.2 HN.out
    go_wp2_with fail
    refine (S.out _).mono ?_
    rintro e v1 ⟨rfl,hc1⟩
    go_wp2_with fail
    go_roundw
    case rel =>
     refine ⟨k+1,by go_num,by omega,zh fun j hj=>?_,Bt hb aA⟩
     rcases Nat.lt_or_ge j k with h|h
     ·exact HK.out j h
     ·obtain rfl:j=k:=by omega
      rw [Yy.out,decide_eq_true_iff]
      have:=HN.out
      have:=EN.out
      omega
    case measure=>exact zM
  ·obtain rfl:k=3:=by omega
   have HZ:=zh (H0.out HK.out)
   go_wp2_with fail
   go_ret
   exact ⟨by rw [HZ.out];rfl,Bt HB.out hb⟩
end Go.Proofs.aK
namespace Go.Proofs.aV
open Go Go.RowKit Go.SW Go.Num Go.Mem Go.Proofs Go.Dec Go.dB Go.Proofs.aG Go.Proofs.aI Go.Proofs.aK
theorem RL (W:World):Calls Tryz.prog 18 #[.int .i64 1,.int .i64 1] W (fun e w'=>e= .returned (Fr.of 1).v∧Below W.heap.size W w'):=by
 have h:=aK.vC 1 1 zo zo zo zo W
 rw [show (zY 1 1).1=Fr.of 1 by decide+kernel] at h
 exact h
def Cq (w:World) (er:Int) (t:light.aY) (e:Ending) (w':World):Prop:=e= .returned (.tuple #[t.v,.int .i64 er])∧Below w.heap.size w w'
def noT:light.aY:=⟨⟨⟨#[]⟩,⟨#[]⟩⟩,⟨⟨#[]⟩,⟨#[]⟩⟩,⟨⟨#[]⟩,⟨#[]⟩⟩⟩
theorem oL {w:World} {v:Value} {m:List (List Fr)} (h:bO w v m):∃ pa l ca,v= .slice pa l ca:=by
 obtain ⟨a,c,e, -⟩:=bO.read h
 exact ⟨_,_,_,e⟩
theorem sub_one {q:Rat} (hq:adapt.Ht 10 q):Fw (Fr.of 1) (Fr.of q)=(Fr.of (1 - q),0):=by
 rw [adapt.MV (adapt.Ht.one.ok zo) (hq.ok zo)]
 unfold dB.wr
 rw [if_pos ((adapt.Ht.one.sub hq).ok zo)]
theorem Rk {q:Rat} (h:dA q=true) (h0:0≤q):∃ c,fI (Fr.of q)=(c,0)∧decide (c<0)=false:=by
 refine ⟨iA q 0,adapt.mh h,decide_eq_false (adapt.NI h0)⟩
def YW (t:light.aY) (k:Nat) (f:Fr):light.aY:=if k=0 then ⟨f,t.y,t.z⟩ else if k=1 then ⟨t.x,f,t.z⟩ else ⟨t.x,t.y,f⟩
theorem KE (t:light.aY) {k:Nat} (hk:k<3) (f:Fr):(t.cells.setIfInBounds (k*2) (.string f.n)).setIfInBounds (k*2+1) (.string f.d)=(YW t k f).cells:=by
 rcases (by omega:k=0∨k=1∨k=2) with rfl|rfl|rfl<;>rfl
theorem Rw {t:light.aY} {k j:Nat} {f:Fr} (hk:k<3) (hj:j≤k):(YW t k f).get j=if j=k then f else t.get j:=by
 rcases (by omega:k=0∨k=1∨k=2) with rfl|rfl|rfl<;>rcases (by omega:j=0∨j=1∨j=2) with rfl|rfl|rfl<;>first|rfl|omega
theorem MJ (m:Nat) (hm:m<4) (s t:Nat→Rat) (q:Rat) (w:World) (fs:adapt.dL s=true) (ft:adapt.dL t=true) (ha:light.jG (adapt.bH s)=0) (hb:light.jG (adapt.bH t)=0) (q0:0≤q) (q1:q≤1) (hq:adapt.Ht 10 q)
  (P R:Nat→Rat) (hP:P=adapt.fC (adapt.bg m) s) (hR:R=adapt.fC (adapt.bg m) t) (ra:adapt.dL P=true) (rb:adapt.dL R=true) (hg:adapt.fH P=false→∀ i,i<3→adapt.gU q (P i) (R i)=true) :
  Calls Tryz.prog 39 #[.int .i64 ((m:Int)+1),(adapt.bH s).v,(adapt.bH t).v,(Fr.of q).v] w (Cq w (if adapt.fH P then 7 else 0) (if adapt.fH P then noT else adapt.bH fun i=>adapt.jR q (P i) (R i))):=by
 have fits:∀ u:Nat→Rat,adapt.dL u=true→zA (adapt.bH u)∧∀ x∈[u 0,u 1,u 2],dA x=true:=fun u h=>by
  unfold adapt.dL at h
  simp only [Bool.and_eq_true] at h
  refine ⟨fun i hi=>?_,fun x hx=>?_⟩
  ·rcases (by omega:i=0∨i=1∨i=2) with rfl|rfl|rfl
   ·exact eY h.1.1
   ·exact eY h.1.2
   ·exact eY h.2
  ·simp only [List.mem_cons,List.not_mem_nil,or_false] at hx
   rcases hx with rfl|rfl|rfl
   ·exact h.1.1
   ·exact h.1.2
   ·exact h.2
 have CO:=zh (fun W=>uN m hm W)
 have SA:=zh (fun W=>tN _ W (fits s fs).1)
 have SB:=zh (fun W=>tN _ W (fits t ft).1)
 rw [ha] at SA
 rw [hb] at SB
 have oq:=hq.ok (show 10<600 by omega)
 have o1:=(adapt.Ht.one.sub hq).ok (show 0+10+1<600 by omega)
 have CK:=zh (fun W=>aG.gD (Fr.of q) W (eY oq))
 rw [tF (by rw [iX oq];rfl)] at CK
 have ON:=zh RL
 have SU:=zh (fun b W hx=>aK.Ch b (Fr.of 1) (Fr.of q) (Fr.of (1 - q)) W hx (sub_one hq) (eY (adapt.Ht.one.ok zo)) (eY oq))
 obtain ⟨c1,e1,g1⟩:=Rk oq q0
 obtain ⟨c2,e2,g2⟩:=Rk o1 (by grind)
 have S1:=zh (fun W=>aK.jX (Fr.of q) W (eY oq))
 have S2:=zh (fun W=>aK.jX (Fr.of (1 - q)) W (eY o1))
 rw [e1] at S1
 rw [e2] at S2
 have LP:∀ (u:Nat→Rat) (U:Nat→Rat),U=adapt.fC (adapt.bg m) u→adapt.dL u=true→adapt.dL U=true→∀ v vl T W,bO W v (adapt.bg m).fr→jI W T vl [Fr.of (u 0),Fr.of (u 1),Fr.of (u 2)]→Calls Tryz.prog 55 #[v,vl] W (fun e W'=>∃ vo,e= .returned (.tuple #[vo,.int .i64 0])∧Below W.heap.size W W'∧jI W' 36 vo [Fr.of (U 0),Fr.of (U 1),Fr.of (U 2)]):=fun u U hU hu hUo v vl T W h1 h2=>by
  refine (aI.JV v vl (adapt.bg m) [u 0,u 1,u 2] T W h1 h2 (adapt.tC m hm) (fits u hu).2).mono ?_
  have e:((adapt.bg m).map fun r=>dK r [u 0,u 1,u 2])=[U 0,U 1,U 2]:=by rw [hU];rfl
  rw [e]
  unfold adapt.dL at hUo
  simp only [Bool.and_eq_true] at hUo
  rintro e W' (⟨-, vo,rfl,hb,hf⟩|⟨h, -⟩)
  ·exact ⟨vo,rfl,hb,hf⟩
  ·simp [hUo.1.1,hUo.1.2,hUo.2] at h
 have A1:=zh (LP s P hP fs ra)
 have A2:=zh (LP t R hR ft rb)
 have TG:Hid (adapt.fH P=false→∀ i,i<3→∀ (b:Nat) W,aB W b #[.int .i64 0] 142→∃ x y:Fr,Calls Tryz.prog 97 #[.pointer (some ⟨b,0,none⟩),(Fr.of (R i)).v,(Fr.of (P i)).v] W (fun e w'=>e= .returned x.v∧Below W.heap.size W w') ∧
   (∀ W,aB W b #[.int .i64 0] 142→Calls Tryz.prog 96 #[.pointer (some ⟨b,0,none⟩),(Fr.of q).v,x.v] W (fun e w'=>e= .returned y.v∧Below W.heap.size W w')) ∧
   (∀ W,aB W b #[.int .i64 0] 142→Calls Tryz.prog 95 #[.pointer (some ⟨b,0,none⟩),y.v,(Fr.of (1 - q)).v] W (fun e w'=>e= .returned (Fr.of (adapt.jR q (P i) (R i))).v∧Below W.heap.size W w'))):=zh fun hz i hi b W hx=>by
  have h:=hg hz i hi
  unfold adapt.gU at h
  simp only [Bool.and_eq_true] at h
  obtain ⟨⟨⟨k1,k2⟩,k3⟩,k4⟩:=h
  have op:dA (P i)=true:=by
   unfold adapt.dL at ra
   simp only [Bool.and_eq_true] at ra
   rcases (by omega:i=0∨i=1∨i=2) with rfl|rfl|rfl
   ·exact ra.1.1
   ·exact ra.1.2
   ·exact ra.2
  have or:dA (R i)=true:=by
   unfold adapt.dL at rb
   simp only [Bool.and_eq_true] at rb
   rcases (by omega:i=0∨i=1∨i=2) with rfl|rfl|rfl
   ·exact rb.1.1
   ·exact rb.1.2
   ·exact rb.2
  have wy:∀ x,dA x=true→dB.wr x=(Fr.of x,0):=fun x hx=>by unfold dB.wr;rw [if_pos hx]
  refine ⟨Fr.of (R i / P i),Fr.of (q*(R i / P i)),aK.Ct b _ _ _ W hx ?_ (eY or) (eY op),fun W hx=>aK.tV b _ _ _ W hx ?_ (eY oq) (eY k1),fun W hx=>aK.Cv b _ _ _ W hx ?_ (eY k2) (eY o1)⟩
  ·rw [adapt.Ny or op (adapt.Hf hz i hi),wy _ k1]
  ·rw [adapt.Nc oq k1,wy _ k2]
  ·rw [adapt.Od k2 o1];exact wy _ k4
 have SP:Hid (∀ i,i<3→∀ W,Calls Tryz.prog 94 #[(Fr.of (P i)).v] W (fun e w'=>e= .returned (.int .i64 (iA (P i) 0))∧Below W.heap.size W w')):=zh fun i hi W=>by
  have op:dA (P i)=true:=by
   unfold adapt.dL at ra
   simp only [Bool.and_eq_true] at ra
   rcases (by omega:i=0∨i=1∨i=2) with rfl|rfl|rfl
   ·exact ra.1.1
   ·exact ra.1.2
   ·exact ra.2
  have:=aK.jX (Fr.of (P i)) W (eY op)
  rwa [adapt.mh op] at this
 have ZN:Hid (∀ i,i<3→P i=0→adapt.fH P=true):=zh fun i hi h=>by
  cases hz:adapt.fH P with
  | true=>rfl
  | false=>exact absurd h (adapt.Hf hz i hi)
 have ZY:Hid ((∀ i,i<3→P i≠0)→adapt.fH P=false):=zh fun h=>by
  cases hz:adapt.fH P with
  | false=>rfl
  | true =>
   obtain ⟨i,hi,e⟩:=adapt.OB hz
   exact absurd e (h i hi)
 obtain ⟨ez,EZ⟩:∃ y:Int,Hid ((if adapt.fH P then 7 else 0)=y):=⟨_,zh rfl⟩
 obtain ⟨tz,TZ⟩:∃ y:light.aY,Hid ((if adapt.fH P then noT else adapt.bH fun i=>adapt.jR q (P i) (R i))=y):=⟨_,zh rfl⟩
 rw [EZ.out,TZ.out]
 generalize (adapt.bg m).fr=C at *
 clear LP fits ra rb hg ha hb fs ft hP hR hm q0 q1 hq e1 e2 oq o1
 obtain ⟨⟨⟨a1,a2⟩,⟨a3,a4⟩,⟨a5,a6⟩⟩,E⟩:∃ y:light.aY,adapt.bH s=y:=⟨_,rfl⟩
 have es0:Fr.of (s 0)=⟨a1,a2⟩:=congrArg light.aY.x E
 have es1:Fr.of (s 1)=⟨a3,a4⟩:=congrArg light.aY.y E
 have es2:Fr.of (s 2)=⟨a5,a6⟩:=congrArg light.aY.z E
 rw [es0,es1,es2] at A1
 simp only [E] at SA ⊢
 clear E es0 es1 es2
 obtain ⟨⟨⟨b1,b2⟩,⟨b3,b4⟩,⟨b5,b6⟩⟩,E⟩:∃ y:light.aY,adapt.bH t=y:=⟨_,rfl⟩
 have es0:Fr.of (t 0)=⟨b1,b2⟩:=congrArg light.aY.x E
 have es1:Fr.of (t 1)=⟨b3,b4⟩:=congrArg light.aY.y E
 have es2:Fr.of (t 2)=⟨b5,b6⟩:=congrArg light.aY.z E
 rw [es0,es1,es2] at A2
 simp only [E] at SB ⊢
 clear E es0 es1 es2
 obtain ⟨⟨d1,d2⟩,E⟩:∃ y:Fr,Fr.of q=y:=⟨_,rfl⟩
 simp only [E] at CK SU S1 TG ⊢
 clear E
 obtain ⟨⟨r1,r2⟩,E⟩:∃ y:Fr,Fr.of (1 - q)=y:=⟨_,rfl⟩
 simp only [E] at SU S2 TG
 clear E
 obtain ⟨⟨o1,o2⟩,E⟩:∃ y:Fr,Fr.of 1=y:=⟨_,rfl⟩
 simp only [E] at ON SU
 clear E
 generalize (m:Int)+1=k at *
 unfold light.aY.v light.aY.cells at SA SB
 unfold Fr.v at CK ON SU S1 S2 TG
 unfold light.aY.v light.aY.cells Fr.v
 go_enter Tryz.func39,Tryz.ntmps39
 go_wp2_with fail
 obtain ⟨cO,EW,hz,X1,X2,X3,X4,X5⟩:=al5 w #[.string a1,.string a2,.string a3,.string a4,.string a5,.string a6] 38 #[.string b1,.string b2,.string b3,.string b4,.string b5,.string b6] 38 #[.string d1,.string d2] 36 #[.string ⟨#[]⟩,.string ⟨#[]⟩,.string ⟨#[]⟩,.string ⟨#[]⟩,.string ⟨#[]⟩,.string ⟨#[]⟩] 37 #[.string ⟨#[]⟩,.string ⟨#[]⟩,.string ⟨#[]⟩,.string ⟨#[]⟩,.string ⟨#[]⟩,.string ⟨#[]⟩] 37
 rw [EW]
 have hk2:=Bt (Below.refl _ _) hz
 clear EW hz
 refine (CO.out _).mono ?_
 rintro e iN ⟨hb3,v,rfl,hm, -⟩
 replace hm:=hm rfl
 obtain ⟨paM,lM,caM,rfl⟩:=oL hm
 replace X1:=X1.bl hb3
 replace X2:=X2.bl hb3
 replace X3:=X3.bl hb3
 replace X4:=X4.bl hb3
 replace X5:=X5.bl hb3
 have hk5:=Bt hk2 hb3
 clear hk2
 have NM:=zh hm
 clear hb3 hm
 obtain ⟨dW,dU,fG⟩:=X1.dx
 go_wp2_with fail
 clear dW dU fG
 refine (SA.out _).mono ?_
 rintro e fQ ⟨rfl,hb6⟩
 replace X1:=X1.bl hb6
 replace X2:=X2.bl hb6
 replace X3:=X3.bl hb6
 replace X4:=X4.bl hb6
 replace X5:=X5.bl hb6
 replace NM:=zh (NM.out.later hb6)
 have jW:=Bt hk5 hb6
 clear hk5
 clear hb6
 obtain ⟨dV,dS,gM⟩:=X2.dx
 go_wp2_with fail
 clear dV dS gM
 refine (SB.out _).mono ?_
 rintro e wc9 ⟨rfl,gQ⟩
 replace X1:=X1.bl gQ
 replace X2:=X2.bl gQ
 replace X3:=X3.bl gQ
 replace X4:=X4.bl gQ
 replace X5:=X5.bl gQ
 replace NM:=zh (NM.out.later gQ)
 have vR:=Bt jW gQ
 clear jW
 clear gQ
 obtain ⟨mF,mD,pz⟩:=X3.dx
 go_wp2_with fail
 clear mF mD pz
 refine (CK.out _).mono ?_
 rintro e Fa ⟨rfl,eZ⟩
 replace X1:=X1.bl eZ
 replace X2:=X2.bl eZ
 replace X3:=X3.bl eZ
 replace X4:=X4.bl eZ
 replace X5:=X5.bl eZ
 replace NM:=zh (NM.out.later eZ)
 have Gc:=Bt vR eZ
 clear vR
 clear eZ
 go_wp2_with fail
 obtain ⟨xS,EW,hz,X6⟩:=G7 Fa #[.int .i64 0] 142
 rw [EW]
 replace X1:=X1.bl hz
 replace X2:=X2.bl hz
 replace X3:=X3.bl hz
 replace X4:=X4.bl hz
 replace X5:=X5.bl hz
 replace NM:=zh (NM.out.later hz)
 have Pz:=Bt Gc hz
 clear Gc
 clear EW hz
 generalize Fa.heap.size=aC2 at *
 obtain ⟨mF,mD,pz⟩:=X3.dx
 refine aC [(.read,1),(.ext,0),(.ext,2),(.alloc #[.string ⟨#[]⟩,.string ⟨#[]⟩] 36,3),(.fin,4)] zk zk zR zP ?_
 repeat (first|(refine ah rfl rfl fun J h=>?_;go_simp;refine h _ ?_;clear h J)|(refine au rfl rfl rfl rfl fun J h=>?_;go_simp;refine h _ ?_;clear h J;try go_simp))
 refine aD rfl rfl (fun aB3 oP J hJ=>?_);go_simp
 have sP:Below xS.heap.size xS aB3:=aA
 clear oP
 refine (ON.out _).mono ?_
 rintro e aO1 ⟨rfl,mU⟩
 refine hJ _ _ mU ?_
 clear hJ J
 have oO:=Bt sP mU
 clear sP mU
 repeat (first|(refine ah rfl rfl fun J h=>?_;go_simp;refine h _ ?_;clear h J)|(refine au rfl rfl rfl rfl fun J h=>?_;go_simp;refine h _ ?_;clear h J;try go_simp))
 refine aD rfl rfl (fun aB2 sS J hJ=>?_);go_simp
 have PN:Below xS.heap.size xS aB2:=Bt oO aA
 clear sS oO
 refine (SU.out _ _ (X6.out.later PN)).mono ?_
 rintro e aO0 ⟨rfl,LA⟩
 refine hJ _ _ LA ?_
 clear hJ J
 have jg:=Bt PN LA
 clear PN LA
 repeat (first|(refine ah rfl rfl fun J h=>?_;go_simp;refine h _ ?_;clear h J)|(refine au rfl rfl rfl rfl fun J h=>?_;go_simp;refine h _ ?_;clear h J;try go_simp))
 refine aQ rfl (fun Xb aO6 aq1 Gl Wi ae3 F4=>?_);go_simp;replace F4:aB _ _ _ _:=F4;have ad5:w.heap.size≤Xb:=(by first|omega|exact Nat.le_trans (Below.size (B:=w.heap.size) aA) Gl)
 refine aJ [_] rfl (fun an8 au7=>?_)
 have PK:Below xS.heap.size xS an8:=Bt jg aA
 have hq0:=F4.later au7;have TW:=hq0.cell;have TA:=hq0.free
 clear F4 au7 jg
 clear mF mD pz
 go_upto_region 16 with fail
 obtain ⟨YL,EW⟩:∃ y,((an8.setCell ⟨Xb,0,none⟩ (.string r1)).setCell ⟨Xb,1,none⟩ (.string r2))=y:=⟨_,rfl⟩
 have hz:Below xS.heap.size xS YL:=by rw [← EW];exact ((PK.setCell Gl _).setCell Gl _)
 have X7:Hid (aB YL Xb #[.string r1,.string r2] 36):=zh (by rw [← EW];exact ((hq0.set 0 _).set 1 _))
 rw [EW]
 clear EW hq0 TW TA PK
 replace X1:=X1.bl hz
 replace X2:=X2.bl hz
 replace X3:=X3.bl hz
 replace X4:=X4.bl hz
 replace X5:=X5.bl hz
 replace NM:=zh (NM.out.later hz)
 replace X6:=X6.bl hz
 have Z0:=Bt Pz hz
 clear Pz
 clear hz
 clear aq1 Gl Wi ae3 ad5
 obtain ⟨cX6,lX6,fX6⟩:=X6.dx
 obtain ⟨mF,mD,pz⟩:=X3.dx
 go_wp2_with fail
 clear cX6 lX6 fX6 mF mD pz
 refine (S1.out _).mono ?_
 rintro e aB7 ⟨rfl,xg⟩
 replace X1:=X1.bl xg
 replace X2:=X2.bl xg
 replace X3:=X3.bl xg
 replace X4:=X4.bl xg
 replace X5:=X5.bl xg
 replace NM:=zh (NM.out.later xg)
 replace X6:=X6.bl xg
 replace X7:=X7.bl xg
 have ar7:=Bt Z0 xg
 clear Z0
 clear xg
 obtain ⟨cX7,lX7,fX7⟩:=X7.dx
 go_wp2_with fail
 clear cX7 lX7 fX7
 refine (S2.out _).mono ?_
 rintro e aB6 ⟨rfl,Di⟩
 replace X1:=X1.bl Di
 replace X2:=X2.bl Di
 replace X3:=X3.bl Di
 replace X4:=X4.bl Di
 replace X5:=X5.bl Di
 replace NM:=zh (NM.out.later Di)
 replace X6:=X6.bl Di
 replace X7:=X7.bl Di
 have aE5:=Bt ar7 Di
 clear ar7
 clear Di
 have HK:=zh aE5
 obtain ⟨wl,Ewl⟩:∃ y,y=aB6:=⟨_,rfl⟩
 subst Ewl
 have xc1:=X1.out.cell
 have xl1:=X1.out.lt
 go_wp2_with fail
 have hbx:Below wl.heap.size wl (wl.alloc (.cells #[.string a1,.string a2,.string a3,.string a4,.string a5,.string a6] 36)):=aA
 refine (A1.out _ _ 36 _ (NM.out.later hbx) (light.aY.zL (t:=⟨⟨a1,a2⟩,⟨a3,a4⟩,⟨a5,a6⟩⟩) (aB.new _ _ _))).mono ?_
 rintro e w1 ⟨vo,rfl,hb1,hf⟩
 obtain ⟨ao,co,rfl, -⟩:=hf.read
 have Qq:=zh hf
 have z1:=Bt hbx hb1
 clear hf hbx hb1 xc1 xl1
 have xc2:=(X2.out.later z1).cell
 have xl2:=(X2.out.later z1).lt
 go_wp2_with fail
 have hbx:Below w1.heap.size w1 (w1.alloc (.cells #[.string b1,.string b2,.string b3,.string b4,.string b5,.string b6] 36)):=aA
 refine (A2.out _ _ 36 _ (NM.out.later (Bt z1 hbx)) (light.aY.zL (t:=⟨⟨b1,b2⟩,⟨b3,b4⟩,⟨b5,b6⟩⟩) (aB.new _ _ _))).mono ?_
 rintro e w2 ⟨vo,rfl,hb2,hf⟩
 obtain ⟨ap,cp,rfl, -⟩:=hf.read
 have HF2:=zh hf
 have z2:=Bt hbx hb2
 replace Qq:=zh (Qq.out.later z2)
 have ZL:=zh (Bt z1 z2)
 clear hf hbx hb2 xc2 xl2 z1 z2
 replace X3:=zh (X3.out.later ZL.out)
 replace X4:=zh (X4.out.later ZL.out)
 replace X5:=zh (X5.out.later ZL.out)
 replace X6:=zh (X6.out.later ZL.out)
 replace X7:=zh (X7.out.later ZL.out)
 have HW:=zh (Bt HK.out ZL.out)
 clear X1 X2 NM ZL HK A1 A2 CO SA SB CK ON SU S1 S2
 go_wp2_with fail
 go_loopw [20] (fun iv wr=>∃ k:Nat,iv= .int .i64 (k:Int)∧k≤3∧Hid (∀ j,j<k→P j≠0)∧Below w2.heap.size w2 wr) (fun iv _=>3 - (intOf iv).toNat)
 case atStart=>exact ⟨0,rfl,by omega,zh (fun j h=>by omega),Below.refl _ _⟩
 case round =>
  obtain ⟨k,rfl,hk,HKK,hb⟩:=hrel
  rcases Nat.lt_or_ge k 3 with hlt|hge
  ·have S:=zh (SP.out k hlt)
   obtain ⟨a',cap',e1, -, -, hat⟩:=(Qq.out.later hb).read
   obtain ⟨b,off,e2,lb,y1,y2⟩:=hat k hlt
   simp only [Value.slice.injEq] at e1
   obtain ⟨rfl, -, rfl⟩:=e1
   subst e2
   have ek:([Fr.of (P 0),Fr.of (P 1),Fr.of (P 2)]:List Fr)[k]'hlt=Fr.of (P k):=by
    rcases (by omega:k=0∨k=1∨k=2) with rfl|rfl|rfl<;>rfl
   rw [ek] at y1 y2
   clear hat ek
   obtain ⟨⟨s1,s2⟩,E⟩:∃ y,Fr.of (P k)=y:=⟨_,rfl⟩
   rw [E] at y1 y2 S
   unfold Fr.v at S
   simp only at y1 y2
   clear E
   by_cases hz:P k=0
   ·have HZ:=zh (ZN.out k hlt hz)
    have hc:iA (P k) 0=0:=adapt.ku.2 hz
    rw [hc] at S
    clear hz hc
    go_wp2_with fail
    refine (S.out _).mono ?_
    rintro e w3 ⟨rfl,hb3⟩
    have hb4:=Bt hb hb3
    have hres:=X4.out.later hb4
    have gW:=hres.cell
    have gV:=hres.free
    have VO:=hres.lt
    have hno:=X5.out.later hb4
    have cno:=hno.cell
    have lno:=hno.lt
    have HW4:=zh (Bt HW.out hb4)
    go_wp2_with fail
    rw [show ez=7 by rw [← EZ.out,HZ.out];rfl,show tz=noT by rw [← TZ.out,HZ.out];rfl]
    have hw4:=HW4.out
    refine aP rfl rfl aL Tryz.underlying37 rfl zk ?_
    exact ⟨rfl,aA⟩
   ·have hc:(iA (P k) 0 == 0)=false:=beq_eq_false_iff_ne.2 fun h=>hz (adapt.ku.1 h)
    have HZ:=zh hz
    generalize iA (P k) 0=cc at *
    clear hz
    go_wp2_with fail
    refine (S.out _).mono ?_
    rintro e w3 ⟨rfl,hb3⟩
    go_wp2_with fail
    go_roundw
    case rel =>
     refine ⟨k+1,by go_num,by omega,zh fun j hj=>?_,Bt hb hb3⟩
     rcases Nat.lt_or_ge j k with h|h
     ·exact HKK.out j h
     ·obtain rfl:j=k:=by omega
      exact HZ.out
    case measure=>exact zM
  ·obtain rfl:k=3:=by omega
   rw [show ((3:Nat):Int)=3 from rfl]
   have HZ:=zh (ZY.out HKK.out)
   have TGZ:=zh (TG.out HZ.out)
   replace Qq:=zh (Qq.out.later hb)
   replace HF2:=zh (HF2.out.later hb)
   replace X3:=X3.bl hb
   replace X4:=X4.bl hb
   replace X5:=X5.bl hb
   replace X6:=X6.bl hb
   replace X7:=X7.bl hb
   replace HW:=zh (Bt HW.out hb)
   obtain ⟨G,HG⟩:∃ G:Nat→Fr,Hid ((fun i=>Fr.of (adapt.jR q (P i) (R i)))=G):=⟨_,zh rfl⟩
   have HT:Hid (adapt.bH (fun i=>adapt.jR q (P i) (R i))=⟨G 0,G 1,G 2⟩):=zh (by rw [← HG.out];rfl)
   have eg:∀ i,Fr.of (adapt.jR q (P i) (R i))=G i:=fun i=>by rw [← HG.out]
   simp only [eg] at TGZ
   clear eg HG TG SP ZN ZY HKK hb
   have hpost:∀ e w',Cq w 0 ⟨G 0,G 1,G 2⟩ e w'→Cq w ez tz e w':=fun e w' h=>by
    rw [← EZ.out,← TZ.out,HZ.out,if_neg zi,if_neg zi,HT.out];exact h
   have Yw:=zh hpost
   clear hpost HZ HT
   obtain ⟨wv,rfl⟩:∃ wv:World,wv=wr:=⟨_,rfl⟩
   go_wp2_with fail
   have h3:Below wv.heap.size wv (wv.alloc (.cells noT.cells 37)):=aA
   have hx:=aB.new wv noT.cells 37
   obtain ⟨w4,E4⟩:∃ y,wv.alloc (.cells noT.cells 37)=y:=⟨_,rfl⟩
   rw [E4] at h3 hx
   have hE:wv.alloc (.cells #[.string ⟨#[]⟩,.string ⟨#[]⟩,.string ⟨#[]⟩,.string ⟨#[]⟩,.string ⟨#[]⟩,.string ⟨#[]⟩] 37)=w4:=E4
   rw [hE]
   obtain ⟨p9,E9⟩:∃ y,wv.heap.size=y:=⟨_,rfl⟩
   have h9:wv.heap.size≤p9:=by omega
   have hw9:w.heap.size≤p9:=by have:=HW.out.size;omega
   rw [E9] at hx ⊢
   have X9:=zh hx
   have HB9:=zh h3
   clear E4 E9 hE hx h3
   go_loopw [22] (fun iv wr=>∃ (k:Nat) (T:light.aY),iv= .int .i64 (k:Int)∧k≤3∧Hid (aB wr p9 T.cells 37)∧Hid (∀ j,j<k→T.get j=G j)∧Below wv.heap.size wv wr) (fun iv _=>3 - (intOf iv).toNat)
   case atStart=>exact ⟨0,noT,rfl,by omega,X9,zh (fun j h=>by omega),HB9.out⟩
   case round =>
    obtain ⟨k,T,rfl,hk,XB,XT,hb⟩:=hrel
    rcases Nat.lt_or_ge k 3 with hlt|hge
    ·have el:∀ U:Nat→Rat,([Fr.of (U 0),Fr.of (U 1),Fr.of (U 2)]:List Fr)[k]'hlt=Fr.of (U k):=fun U=>by
      rcases (by omega:k=0∨k=1∨k=2) with rfl|rfl|rfl<;>rfl
     obtain ⟨a',cap',e1, -, -, hat⟩:=(Qq.out.later hb).read
     obtain ⟨b1',off1,e2,lb1,y1,y2⟩:=hat k hlt
     simp only [Value.slice.injEq] at e1
     obtain ⟨rfl, -, rfl⟩:=e1
     subst e2
     rw [el P] at y1 y2
     clear hat
     obtain ⟨a',cap',e1, -, -, hat⟩:=(HF2.out.later hb).read
     obtain ⟨b2',off2,e2,FV,y3,y4⟩:=hat k hlt
     simp only [Value.slice.injEq] at e1
     obtain ⟨rfl, -, rfl⟩:=e1
     subst e2
     rw [el R] at y3 y4
     clear hat el
     have TGK:=zh (TGZ.out k hlt)
     obtain ⟨⟨p1,p2⟩,EP⟩:∃ y,Fr.of (P k)=y:=⟨_,rfl⟩
     obtain ⟨⟨r3,r4⟩,ER⟩:∃ y,Fr.of (R k)=y:=⟨_,rfl⟩
     rw [EP] at y1 y2 TGK
     rw [ER] at y3 y4 TGK
     simp only at y1 y2 y3 y4
     obtain ⟨⟨g1',g2'⟩,EG⟩:∃ y,G k=y:=⟨_,rfl⟩
     rw [EG] at TGK
     have Yz:=zh EG
     have x3:=(X3.out.later hb).cell
     have l3:=(X3.out.later hb).lt
     have x7:=(X7.out.later hb).cell
     have l7:=(X7.out.later hb).lt
     have X6':=zh (X6.out.later hb)
     obtain ⟨d1',d2'⟩:=aY.at XB.out hlt
     clear EP ER EG d1' d2'
     go_wp2_with fail
     refine aC [(.pure,0),(.read,1),(.pure,2),(.pure,3),(.pure,4),(.read,5),(.pure,6),(.pure,7),(.pure,8),(.read,9),(.read,12),(.ext,10),(.ext,11),(.ext,13),(.pure,14),(.fin,15)] zk zk zR zP ?_;refine Wk.out ?_;(iterate 11 (first|(apply jE;(rfl);(rfl);(rfl);(intro J hJ;go_simp;(with_reducible refine hJ _ ?_);clear hJ J))|(apply lg;(rfl);(rfl);(rfl);(rfl);(exact zk);(intro J hJ;go_simp;(with_reducible refine hJ _ ?_);clear hJ J))|(apply ji;(rfl);(rfl);(intro J hJ;go_simp;(with_reducible refine hJ _ ?_);clear hJ J))|(apply jF;(rfl);(rfl);(rfl);(rfl);(intro J hJ;go_simp;(with_reducible refine hJ _ ?_);clear hJ J;try go_simp))))
     refine jY rfl rfl (fun wa hba J hJ=>?_);go_simp
     have z1:Below wr.heap.size wr wa:=aA
     obtain ⟨⟨t1,t2⟩,⟨t3,t4⟩,DV,ML,AD⟩:=TGK.out _ wa (X6'.out.later z1)
     have Cm:=zh ML
     have HAD:=zh AD
     clear ML AD
     dsimp only at DV Cm HAD
     refine DV.mono ?_
     rintro e wb ⟨rfl,hbb⟩
     have z2:=Bt z1 hbb
     refine hJ _ _ hbb ?_
     clear hJ J DV hba hbb z1
     refine jY rfl rfl (fun wc hbc J hJ=>?_);go_simp
     have z3:=Bt z2 (show Below wb.heap.size wb wc from aA)
     refine (Cm.out _ (X6'.out.later z3)).mono ?_
     rintro e wd ⟨rfl,hbd⟩
     have z4:=Bt z3 hbd
     refine hJ _ _ hbd ?_
     clear hJ J hbc hbd z2 z3
     refine jY rfl rfl (fun we hbe J hJ=>?_);go_simp
     have z5:=Bt z4 (show Below wd.heap.size wd we from aA)
     refine (HAD.out _ (X6'.out.later z5)).mono ?_
     rintro e wf ⟨rfl,hbf⟩
     have z6:=Bt z5 hbf
     refine hJ _ _ hbf ?_
     clear hJ J hbe hbf z4 z5 Cm HAD
     (iterate 1 (first|(apply jE;(rfl);(rfl);(rfl);(intro J hJ;go_simp;(with_reducible refine hJ _ ?_);clear hJ J))|(apply lg;(rfl);(rfl);(rfl);(rfl);(exact zk);(intro J hJ;go_simp;(with_reducible refine hJ _ ?_);clear hJ J))|(apply ji;(rfl);(rfl);(intro J hJ;go_simp;(with_reducible refine hJ _ ?_);clear hJ J))|(apply jF;(rfl);(rfl);(rfl);(rfl);(intro J hJ;go_simp;(with_reducible refine hJ _ ?_);clear hJ J;try go_simp))))
     refine Ak [_] rfl (fun wh QH=>?_)
     have z7:=Bt z6 QH
     have Y9:=XB.out.later z7
     obtain ⟨c1',c2'⟩:=aY.at Y9 hlt
     have l9:=Y9.lt
     have f9:=Y9.free
     have hN:=(Y9.set (k*2) (.string g1')).set (k*2+1) (.string g2')
     rw [KE T hlt ⟨g1',g2'⟩] at hN
     have NB:=zh hN
     have BN:Hid (Below wv.heap.size wv ((wh.setCell ⟨p9,k*2,none⟩ (.string g1')).setCell ⟨p9,k*2+1,none⟩ (.string g2'))):=zh (((Bt hb z7).setCell (p:=⟨p9,k*2,none⟩) h9 (.string g1')).setCell (p:=⟨p9,k*2+1,none⟩) h9 (.string g2'))
     clear hN QH z6 z7 x3 l3 x7 l7 y1 y2 y3 y4
     go_wp2_with fail
     go_roundw
     case rel =>
      refine ⟨k+1,YW T k ⟨g1',g2'⟩,by go_num,by omega,NB,zh fun j hj=>?_,BN.out⟩
      rw [Rw hlt zo]
      split
      ·rename_i h;rw [h,Yz.out]
      ·rename_i h;exact XT.out j zo
     case measure=>exact zM
    ·obtain rfl:k=3:=by omega
     have e0:=XT.out 0 zo
     have e1:=XT.out 1 zo
     have e2:=XT.out 2 zo
     obtain ⟨⟨x1,x2⟩,⟨x3,x4⟩,⟨x5,x6⟩⟩:=T
     have HE:Hid ((⟨G 0,G 1,G 2⟩:light.aY)=⟨⟨x1,x2⟩,⟨x3,x4⟩,⟨x5,x6⟩⟩):=zh (by rw [← e0,← e1,← e2];rfl)
     clear e0 e1 e2
     have xb:aB wr p9 #[.string x1,.string x2,.string x3,.string x4,.string x5,.string x6] 37:=XB.out
     have cb:=xb.cell
     have lb:=xb.lt
     have hs:=X6.out.later hb
     have cs:=hs.cell
     have ls:=hs.lt
     have hres:=X4.out.later hb
     have gW:=hres.cell
     have gV:=hres.free
     have VO:=hres.lt
     have hw4:=Bt HW.out hb
     rw [HE.out] at Yw
     go_wp2_with fail
     refine aP rfl rfl aL Tryz.underlying37 rfl zk ?_
     exact Yw.out _ _ ⟨rfl,aA⟩
theorem Me {m:matrix.RM} (h:m.length=3) (f:Nat→Rat):(m.map fun r=>dK r [f 0,f 1,f 2])=[adapt.fC m f 0,adapt.fC m f 1,adapt.fC m f 2]:=by
 obtain ⟨r0,r1,r2,rfl⟩:∃ r0 r1 r2,m=[r0,r1,r2]:=by
  match m,h with
  | [a,b,c],_=>exact ⟨a,b,c,rfl⟩
 rfl
theorem UQ (va:Value) (m:List (List Fr)) (t:light.aY) (w:World) (hm:bO w va m) (hf:pQ m) (ht:zA t) :
  Calls Tryz.prog 21 #[va,t.v] w (adapt.fO w (adapt.iV m t) (adapt.oJ m t)):=by
 have C1:=zh (fun W (hW:Below w.heap.size w W)=>aI.gD va m W (hm.later hW) hf)
 have C2:=zh (fun W=>aK.gD t W ht)
 obtain ⟨am,cm,rfl, -, -, hread⟩:=bO.read hm
 by_cases h1:oI m=0
 ·rw [h1] at C1
  by_cases h2:light.iU t=0
  ·rw [h2] at C2
   by_cases h3:m.length=3∧(m.headD []).length=3
   ·have MQ:=adapt.R6 h1
    have TQ:=adapt.NZ h2
    have hl:(adapt.mQ m).length=3:=by unfold adapt.mQ;rw [List.length_map];exact h3.1
    have e:adapt.iV m t=if adapt.dL (adapt.fC (adapt.mQ m) (adapt.qT t)) then 0 else 6:=by
     unfold adapt.iV
     rw [if_neg zo,if_neg zo,if_neg zo]
    have A1:Hid (∀ v vl T W,bO W v m→jI W T vl [Fr.of (adapt.qT t 0),Fr.of (adapt.qT t 1),Fr.of (adapt.qT t 2)]→Calls Tryz.prog 55 #[v,vl] W (matrix.tY W [adapt.fC (adapt.mQ m) (adapt.qT t) 0,adapt.fC (adapt.mQ m) (adapt.qT t) 1,adapt.fC (adapt.mQ m) (adapt.qT t) 2])):=zh fun v vl T W k1 k2=>by
     have:=aI.JV v vl (adapt.mQ m) [adapt.qT t 0,adapt.qT t 1,adapt.qT t 2] T W (by rw [← MQ.1];exact k1) k2 (by have:=MQ.2;rw [h3.2] at this;exact this) (fun x hx=>by
      have h:=TQ.2
      unfold adapt.dL at h
      simp only [Bool.and_eq_true] at h
      simp only [List.mem_cons,List.not_mem_nil,or_false] at hx
      rcases hx with rfl|rfl|rfl
      ·exact h.1.1
      ·exact h.1.2
      ·exact h.2)
     rw [Me hl] at this
     exact this
    have ha:adapt.oJ m t=adapt.bH (adapt.fC (adapt.mQ m) (adapt.qT t)):=rfl
    rw [e,ha]
    have et:=TQ.1
    obtain ⟨b,off,a0,c0,rfl,lb,cell0, -⟩:=hread 0 zo
    rw [show m[0].length=3 by rw [← Nr zo];exact h3.2] at cell0
    rw [h3.1] at hm C1 ⊢
    have HM:=zh hm
    have HC:=zh cell0
    have LB:=zh lb
    clear e ha h1 h2 h3 MQ TQ hl hf ht hread hm cell0 lb
    generalize adapt.fC (adapt.mQ m) (adapt.qT t)=U at *
    generalize adapt.qT t=f at *
    subst et
    obtain ⟨⟨⟨a1,a2⟩,⟨a3,a4⟩,⟨a5,a6⟩⟩,E⟩:∃ y:light.aY,adapt.bH f=y:=⟨_,rfl⟩
    have es0:Fr.of (f 0)=⟨a1,a2⟩:=congrArg light.aY.x E
    have es1:Fr.of (f 1)=⟨a3,a4⟩:=congrArg light.aY.y E
    have es2:Fr.of (f 2)=⟨a5,a6⟩:=congrArg light.aY.z E
    rw [es0,es1,es2] at A1
    rw [E] at C2 ⊢
    clear E es0 es1 es2
    unfold light.aY.v light.aY.cells at C2 ⊢
    have key:∀ ok:Bool,adapt.dL U=ok→Calls Tryz.prog 21 #[.slice (some ⟨b,off,none⟩) 3 cm,.agg #[.string a1,.string a2,.string a3,.string a4,.string a5,.string a6]] w (adapt.fO w (if ok then 0 else 6) (adapt.bH U)):=fun ok hok=>by
     obtain ⟨⟨⟨u1,u2⟩,⟨u3,u4⟩,⟨u5,u6⟩⟩,E⟩:∃ y:light.aY,adapt.bH U=y:=⟨_,rfl⟩
     have es0:Fr.of (U 0)=⟨u1,u2⟩:=congrArg light.aY.x E
     have es1:Fr.of (U 1)=⟨u3,u4⟩:=congrArg light.aY.y E
     have es2:Fr.of (U 2)=⟨u5,u6⟩:=congrArg light.aY.z E
     have HU:Hid ([U 0,U 1,U 2].map Fr.of=[⟨u1,u2⟩,⟨u3,u4⟩,⟨u5,u6⟩]):=zh (by simp only [List.map_cons,List.map_nil,es0,es1,es2])
     have CB:Hid ([U 0,U 1,U 2].all dA=ok):=zh (by rw [← hok];unfold adapt.dL;simp [Bool.and_assoc])
     rw [E]
     clear E es0 es1 es2 hok
     generalize [U 0,U 1,U 2]=us at *
     unfold adapt.fO adapt.qz Fr.no light.aY.v light.aY.cells
     go_enter Tryz.func21,Tryz.ntmps21
     go_wp2_with fail
     obtain ⟨cO,EW,hz,X1,X2⟩:=zU w #[.string a1,.string a2,.string a3,.string a4,.string a5,.string a6] 38 #[.string ⟨#[]⟩,.string ⟨#[]⟩,.string ⟨#[]⟩,.string ⟨#[]⟩,.string ⟨#[]⟩,.string ⟨#[]⟩] 38
     rw [EW]
     have hk2:=Bt (Below.refl _ _) hz
     clear EW hz
     refine (C1.out _ hk2).mono ?_
     rintro e iN ⟨rfl,hb3⟩
     replace X1:=X1.bl hb3
     replace X2:=X2.bl hb3
     have hk5:=Bt hk2 hb3
     clear hk2
     clear hb3
     obtain ⟨dW,dU,fG⟩:=X1.dx
     go_wp2_with fail
     clear dW dU fG
     refine (C2.out _).mono ?_
     rintro e fQ ⟨rfl,hb6⟩
     replace X1:=X1.bl hb6
     replace X2:=X2.bl hb6
     have jW:=Bt hk5 hb6
     clear hk5
     clear hb6
     have k0:=(jW.cell (p:=⟨b,off,none⟩) LB.out).trans HC.out
     have l0:b<fQ.heap.size:=Nat.lt_of_lt_of_le LB.out jW.size
     have HK:=zh jW
     obtain ⟨wl,Ewl⟩:∃ y,y=fQ:=⟨_,rfl⟩
     subst Ewl
     have xc1:=X1.out.cell
     have xl1:=X1.out.lt
     go_wp2_with fail
     have hbx:Below wl.heap.size wl (wl.alloc (.cells #[.string a1,.string a2,.string a3,.string a4,.string a5,.string a6] 36)):=aA
     refine (A1.out _ _ 36 _ (HM.out.later (Bt HK.out hbx)) (light.aY.zL (t:=⟨⟨a1,a2⟩,⟨a3,a4⟩,⟨a5,a6⟩⟩) (aB.new _ _ _))).mono ?_
     cases ok with
     | true =>
      rintro e w1 (⟨-, vo,rfl,hb1,hf⟩|⟨h, -⟩)
      ·rw [HU.out] at hf
       obtain ⟨ao,co,rfl, -, -, hat⟩:=hf.read
       have z1:=Bt hbx hb1
       obtain ⟨b1,o1,rfl,l1,y0,y1⟩:=hat 0 zi
       obtain ⟨b2,o2,e2, -, y2,y3⟩:=hat 1 zi
       obtain ⟨b3,o3,e3, -, y4,y5⟩:=hat 2 zi
       simp only [Option.some.injEq,Addr.mk.injEq,and_true] at e2 e3
       obtain ⟨rfl,rfl⟩:=e2
       obtain ⟨rfl,rfl⟩:=e3
       simp only [Nat.zero_mul,Nat.one_mul,Nat.add_zero,List.getElem_cons_zero,List.getElem_cons_succ,Nat.reduceMul] at y0 y1 y2 y3 y4 y5
       have hres:=X2.out.later z1
       have HR:=zh hres
       have HKZ:=zh (Bt HK.out z1)
       clear hf hbx hb1 xc1 xl1 hat z1 hres X1 X2
       simp only [List.length_cons,List.length_nil,Nat.zero_add,Nat.reduceAdd]
       have gW:=HR.out.cell
       have VO:=HR.out.lt
       have gV:=HR.out.free
       go_wp2_with fail
       refine aC [(.pure,0),(.pure,1),(.read,2),(.pure,3),(.pure,4),(.read,5),(.pure,6),(.pure,7),(.read,8),(.pure,9),(.fin,10),(.fin,11)] zk zk zR zP ?_
       repeat (first|(refine ah rfl rfl fun J h=>?_;go_simp;refine h _ ?_;clear h J)|(refine au rfl rfl rfl rfl fun J h=>?_;go_simp;refine h _ ?_;clear h J;try go_simp))
       refine aJ [_,_] rfl (fun wf hbf=>?_)
       have hz:Below w1.heap.size w1 wf:=aA
       have hres:=HR.out.later hz
       have gW:=hres.cell
       have gV:=hres.free
       have VO:=hres.lt
       have hw:=Bt HKZ.out hz
       go_wp2_with fail
       refine aP rfl rfl aL Tryz.underlying38 rfl zk ?_
       exact ⟨aA,rfl⟩
      ·rw [CB.out] at h;cases h
     | false =>
      rintro e w1 (⟨h, -⟩|⟨-, rfl,hb1⟩)
      ·rw [CB.out] at h;cases h
      ·have z1:=Bt hbx hb1
       have hres:=X2.out.later z1
       have gW:=hres.cell
       have VO:=hres.lt
       have gV:=hres.free
       have hw:=Bt HK.out z1
       clear hbx hb1 xc1 xl1
       go_wp2_with fail
       refine aP rfl rfl aL Tryz.underlying38 rfl zk ?_
       exact ⟨aA,rfl⟩
    exact key _ rfl
   ·have e:adapt.iV m t=2:=by
     unfold adapt.iV
     rw [if_neg zo,if_neg zo,if_pos zo]
    unfold adapt.fO
    rw [e,if_neg zo]
    obtain ⟨⟨a1,a2⟩,⟨a3,a4⟩,⟨a5,a6⟩⟩:=t
    have hok:1≤m.length:=by
     have:=(adapt.R6 h1).2.1
     unfold adapt.mQ at this
     rwa [List.length_map] at this
    obtain ⟨b,off,a0,c0,rfl,lb,cell0, -⟩:=hread 0 zo
    have h3':¬ (m.length=3∧m[0].length=3):=by rw [← Nr zo];exact h3
    have HC:=zh cell0
    have LB:=zh lb
    clear e h1 h2 h3 hf ht hread hm cell0 lb
    generalize m[0].length=n0 at *
    generalize m.length=n at *
    unfold adapt.qz Fr.no light.aY.v light.aY.cells at *
    by_cases hn:n=3
    ·subst hn
     have g0:((n0:Int) == 3)=false:=by simp;omega
     go_enter Tryz.func21,Tryz.ntmps21
     go_wp2_with fail
     obtain ⟨cO,EW,hz,X1,X2⟩:=zU w #[.string a1,.string a2,.string a3,.string a4,.string a5,.string a6] 38 #[.string ⟨#[]⟩,.string ⟨#[]⟩,.string ⟨#[]⟩,.string ⟨#[]⟩,.string ⟨#[]⟩,.string ⟨#[]⟩] 38
     rw [EW]
     have hk2:=Bt (Below.refl _ _) hz
     clear EW hz
     refine (C1.out _ hk2).mono ?_
     rintro e iN ⟨rfl,hb3⟩
     replace X1:=X1.bl hb3
     replace X2:=X2.bl hb3
     have hk5:=Bt hk2 hb3
     clear hk2
     clear hb3
     obtain ⟨dW,dU,fG⟩:=X1.dx
     go_wp2_with fail
     clear dW dU fG
     refine (C2.out _).mono ?_
     rintro e fQ ⟨rfl,hb6⟩
     replace X1:=X1.bl hb6
     replace X2:=X2.bl hb6
     have jW:=Bt hk5 hb6
     clear hk5
     clear hb6
     obtain ⟨dV,dS,gM⟩:=X2.dx
     have k0:=(jW.cell (p:=⟨b,off,none⟩) LB.out).trans HC.out
     have l0:b<fQ.heap.size:=Nat.lt_of_lt_of_le LB.out jW.size
     have hres:=X2.out
     have gW:=hres.cell
     have gV:=hres.free
     go_wp2_with fail
     refine aP rfl rfl aL Tryz.underlying38 rfl zk ?_
     exact ⟨aA,rfl⟩
    ·have g0:((n:Int) == 3)=false:=by simp;omega
     go_enter Tryz.func21,Tryz.ntmps21
     go_wp2_with fail
     obtain ⟨cO,EW,hz,X1,X2⟩:=zU w #[.string a1,.string a2,.string a3,.string a4,.string a5,.string a6] 38 #[.string ⟨#[]⟩,.string ⟨#[]⟩,.string ⟨#[]⟩,.string ⟨#[]⟩,.string ⟨#[]⟩,.string ⟨#[]⟩] 38
     rw [EW]
     have hk2:=Bt (Below.refl _ _) hz
     clear EW hz
     refine (C1.out _ hk2).mono ?_
     rintro e iN ⟨rfl,hb3⟩
     replace X1:=X1.bl hb3
     replace X2:=X2.bl hb3
     have hk5:=Bt hk2 hb3
     clear hk2
     clear hb3
     obtain ⟨dW,dU,fG⟩:=X1.dx
     go_wp2_with fail
     clear dW dU fG
     refine (C2.out _).mono ?_
     rintro e fQ ⟨rfl,hb6⟩
     replace X1:=X1.bl hb6
     replace X2:=X2.bl hb6
     have jW:=Bt hk5 hb6
     clear hk5
     clear hb6
     obtain ⟨dV,dS,gM⟩:=X2.dx
     have hres:=X2.out
     have gW:=hres.cell
     have gV:=hres.free
     go_wp2_with fail
     refine aP rfl rfl aL Tryz.underlying38 rfl zk ?_
     exact ⟨aA,rfl⟩
  ·have e:adapt.iV m t=light.iU t:=by
    unfold adapt.iV
    rw [if_neg zo,if_pos h2]
   unfold adapt.fO
   rw [e,if_neg h2]
   obtain ⟨⟨a1,a2⟩,⟨a3,a4⟩,⟨a5,a6⟩⟩:=t
   clear e h1 hf ht hread hm
   generalize light.iU _=er at *
   generalize m.length=n at *
   have g0:(er == 0)=false:=by simp;omega
   unfold adapt.qz Fr.no light.aY.v light.aY.cells at *
   clear h2
   go_enter Tryz.func21,Tryz.ntmps21
   go_wp2_with fail
   obtain ⟨cO,EW,hz,X1,X2⟩:=zU w #[.string a1,.string a2,.string a3,.string a4,.string a5,.string a6] 38 #[.string ⟨#[]⟩,.string ⟨#[]⟩,.string ⟨#[]⟩,.string ⟨#[]⟩,.string ⟨#[]⟩,.string ⟨#[]⟩] 38
   rw [EW]
   have hk2:=Bt (Below.refl _ _) hz
   clear EW hz
   refine (C1.out _ hk2).mono ?_
   rintro e iN ⟨rfl,hb3⟩
   replace X1:=X1.bl hb3
   replace X2:=X2.bl hb3
   have hk5:=Bt hk2 hb3
   clear hk2
   clear hb3
   obtain ⟨dW,dU,fG⟩:=X1.dx
   go_wp2_with fail
   clear dW dU fG
   refine (C2.out _).mono ?_
   rintro e fQ ⟨rfl,hb6⟩
   replace X1:=X1.bl hb6
   replace X2:=X2.bl hb6
   have jW:=Bt hk5 hb6
   clear hk5
   clear hb6
   obtain ⟨dV,dS,gM⟩:=X2.dx
   have hres:=X2.out
   have gW:=hres.cell
   have gV:=hres.free
   go_wp2_with fail
   refine aP rfl rfl aL Tryz.underlying38 rfl zk ?_
   exact ⟨aA,rfl⟩
 ·have e:adapt.iV m t=oI m:=by
   unfold adapt.iV
   rw [if_pos h1]
  unfold adapt.fO
  rw [e,if_neg h1]
  obtain ⟨⟨a1,a2⟩,⟨a3,a4⟩,⟨a5,a6⟩⟩:=t
  clear e hf ht hread hm C2
  generalize oI m=er at *
  generalize m.length=n at *
  have g0:(er == 0)=false:=by simp;omega
  unfold adapt.qz Fr.no light.aY.v light.aY.cells at *
  clear h1
  go_enter Tryz.func21,Tryz.ntmps21
  go_wp2_with fail
  obtain ⟨cO,EW,hz, -, X2⟩:=zU w #[.string a1,.string a2,.string a3,.string a4,.string a5,.string a6] 38 #[.string ⟨#[]⟩,.string ⟨#[]⟩,.string ⟨#[]⟩,.string ⟨#[]⟩,.string ⟨#[]⟩,.string ⟨#[]⟩] 38
  rw [EW]
  have hk2:=Bt (Below.refl _ _) hz
  clear EW hz
  refine (C1.out _ hk2).mono ?_
  rintro e iN ⟨rfl,hb3⟩
  replace X2:=X2.bl hb3
  have hk5:=Bt hk2 hb3
  clear hk2
  clear hb3
  obtain ⟨dV,dS,gM⟩:=X2.dx
  have hres:=X2.out
  have gW:=hres.cell
  have gV:=hres.free
  go_wp2_with fail
  refine aP rfl rfl aL Tryz.underlying38 rfl zk ?_
  exact ⟨aA,rfl⟩
end Go.Proofs.aV
namespace Go.Proofs.verdigrislaw25
open Go Go.RowKit Go.SW Go.Num Go.Mem Go.Proofs Go.Dec Go.dB
theorem bO.row0 {w:World} {v:Value} {m:List (List Fr)} {x y z:Fr} (h:bO w v m) (h3:m.length=3) (h0:m.headD []=[x,y,z]) :
  ∃ b off cap b2 off2 cap2,v= .slice (some ⟨b,off,none⟩) 3 cap∧b<w.heap.size∧w.cell? ⟨b,off,none⟩=some (.slice (some ⟨b2,off2,none⟩) 3 cap2)∧b2<w.heap.size ∧
   w.cell? ⟨b2,off2,none⟩=some (.string x.n)∧w.cell? ⟨b2,off2+1,none⟩=some (.string x.d)∧w.cell? ⟨b2,off2+2,none⟩=some (.string y.n)∧w.cell? ⟨b2,off2+3,none⟩=some (.string y.d) ∧
   w.cell? ⟨b2,off2+4,none⟩=some (.string z.n)∧w.cell? ⟨b2,off2+5,none⟩=some (.string z.d):=by
 obtain ⟨rs,hR,hl,hF⟩:=h
 rw [h3] at hl
 match rs,hl with
 | [r0,r1,r2],_ =>
  have hf:=hF 0 zi zo
  have e0:m[0]=[x,y,z]:=by
   match m,h3,h0 with
   | [a,b,c],_,h0=>exact h0
  rw [e0] at hf
  obtain ⟨a2,cap2,e2, -⟩:=id hf
  simp only [List.getElem_cons_zero] at e2 hf
  subst e2
  obtain ⟨-, b2,off2,rfl,FV,hc⟩:=adapt.jI.cells hf zi
  have k0:=hc 0 zi
  have k1:=hc 1 zi
  have k2:=hc 2 zi
  rcases hR.cases with ⟨-, h1⟩|⟨b,off,cap,arr,rfl,k3, -, k4,k6⟩
  ·cases h1
  ·refine ⟨b,off,cap,b2,off2,cap2,rfl,k4.lt,?_,FV,k0.1,k0.2,k1.1,k1.2,k2.1,k2.2⟩
   have:=k6 0 zi
   rw [k4.cell]
   simpa using this
theorem YS (va:Value) (m:List (List Fr)) (t:light.aY) (w:World) (h:bO w va m) (h3:m.length=3) (h0:m.headD []=t.list) :
  Calls Tryz.prog 31 #[va,t.v] w (fun e w'=>e= .returned (.bool true)∧Below w.heap.size w w'):=by
 obtain ⟨⟨a1,a2⟩,⟨a3,a4⟩,⟨a5,a6⟩⟩:=t
 obtain ⟨b,off,cap,b2,off2,cap2,rfl,lb,hc,FV,k1,k2,k3,k4,k5,k6⟩:=bO.row0 h h3 h0
 unfold light.aY.v light.aY.cells
 have hb0:Below w.heap.size w (w.alloc (.cells #[.string a1,.string a2,.string a3,.string a4,.string a5,.string a6] 38)):=aA
 have hx:=aB.new w #[.string a1,.string a2,.string a3,.string a4,.string a5,.string a6] 38
 obtain ⟨w0,kF⟩:∃ y,w.alloc (.cells #[.string a1,.string a2,.string a3,.string a4,.string a5,.string a6] 38)=y:=⟨_,rfl⟩
 rw [kF] at hb0 hx
 replace hc:=(hb0.cell (p:=⟨b,off,none⟩) lb).trans hc
 replace k1:=(hb0.cell (p:=⟨b2,off2,none⟩) FV).trans k1
 replace k2:=(hb0.cell (p:=⟨b2,off2+1,none⟩) FV).trans k2
 replace k3:=(hb0.cell (p:=⟨b2,off2+2,none⟩) FV).trans k3
 replace k4:=(hb0.cell (p:=⟨b2,off2+3,none⟩) FV).trans k4
 replace k5:=(hb0.cell (p:=⟨b2,off2+4,none⟩) FV).trans k5
 replace k6:=(hb0.cell (p:=⟨b2,off2+5,none⟩) FV).trans k6
 have cx:=hx.cell
 have lx:=hx.lt
 replace lb:b<w0.heap.size:=Nat.lt_of_lt_of_le lb hb0.size
 replace FV:b2<w0.heap.size:=Nat.lt_of_lt_of_le FV hb0.size
 clear h h3 h0
 go_enter Tryz.func31,Tryz.ntmps31
 go_wp2_with fail
 try rw [kF]
 refine aC ((.pure,0)::(.pure,1)::(.pure,2)::(.pure,3)::(.pure,4)::(.pure,5)::(.read,6)::(.pure,7)::(.pure,8)::(.pure,9)::(.pure,10)::(.pure,11)::(.pure,12)::(.read,13)::(.pure,14)::(.read,15)::(.pure,16)::(.read,17)::(.pure,18)::(.pure,19)::(.pure,20)::(.pure,21)::(.pure,22)::(.read,23)::(.pure,24)::(.read,25)::(.pure,26)::(.read,27)::(.pure,28)::(.pure,29)::(.pure,30)::(.pure,31)::(.pure,32)::(.read,33)::(.pure,34)::(.read,35)::(.pure,36)::(.read,37)::(.pure,38)::(.pure,39)::(.fin,40)::[]) zk zk zR zP ?_
 repeat (first|(refine ah rfl rfl fun J h=>?_;go_simp;refine h _ ?_;clear h J)|(refine au rfl rfl rfl rfl fun J h=>?_;go_simp;refine h _ ?_;clear h J;try go_simp)|(refine iB rfl rfl fun J h=>?_;go_simp;refine h _ ?_;clear h J)|(refine iC rfl rfl rfl rfl fun J h=>?_;go_simp;refine h _ ?_;clear h J;try go_simp))
 refine aJ [_] rfl (fun w5 hb5=>?_)
 have h5:Below w.heap.size w w5:=Bt hb0 aA
 go_wp2_with fail
 go_ret
 exact ⟨rfl,h5⟩
def J5 (w:World) (f:FuncId) (args:Array Value) (v:Value):Prop:=∀ W,Below w.heap.size w W→Calls Tryz.prog f args W (fun e W'=>e= .returned v∧Below W.heap.size W W')
def Uo (w:World) (f:FuncId) (args:Array Value) (er:Int) (m:List (List Fr)):Prop:=∀ W,Below w.heap.size w W→Calls Tryz.prog f args W (aS W er m)
theorem Ko (n d:Int) (h:sm n d=true) (w:World) (ht:pR.Pow w):J5 w 22 #[.int .i64 n,.int .i64 d] (Fr.of (q2 n d)).v:=fun W hW=>A9 n d h W (ht.later hW)
theorem qY (x y z d:Int) (h:(sm x d&&sm y d&&sm z d)=true) (w:World) (ht:pR.Pow w):J5 w 26 #[.int .i64 x,.int .i64 y,.int .i64 z,.int .i64 d] (tq x y z d).v:=fun W hW=>by
 simp only [Bool.and_eq_true] at h
 exact YP x y z d h.1.1 h.1.2 h.2 W (ht.later hW)
theorem um (k:Int) (a b:light.aY) (d:Fr) (er:Int) (g:light.aY) (he:adapt.jh k a b d=er) (hg:(if er=0 then adapt.bH (adapt.iJ k a b d) else adapt.qz)=g) (w:World) (ht:pR.Pow w) (hc:adapt.kU w) :
  J5 w 27 #[.int .i64 k,a.v,b.v,d.v] (.tuple #[g.v,.int .i64 er]):=fun W hW=>(adapt.UH k a b d W (ht.later hW) (hc.later hW)).mono (by
 subst he
 subst hg
 exact fun _ _ h=>⟨h.2,h.1⟩)
theorem Kq (k:Int) (a b:light.aY) (d:Fr) (er:Int) (he:adapt.yu k a b d=er) (w:World) (ht:pR.Pow w) (hc:adapt.kU w) :
  Uo w 13 #[.int .i64 k,a.v,b.v,d.v] er (adapt.pX k a b d).fr:=fun W hW=>he ▸ adapt.Ql k a b d W (ht.later hW) (hc.later hW)
theorem AQ (k:Int) (er:Int) (he:adapt.jL k=er) (w:World) (ht:pR.Pow w) (hc:adapt.kU w) :
  Uo w 30 #[.int .i64 k] er (adapt.bg (k - 1).toNat).fr:=fun W hW=>he ▸ adapt.uN k W (ht.later hW) (hc.later hW)
theorem OZ (va:Value) (m:List (List Fr)) (t:light.aY) (er:Int) (g:light.aY) (he:adapt.iV m t=er) (hg:(if er=0 then adapt.oJ m t else adapt.qz)=g) (w:World) (hm:bO w va m) (ht:pR.Pow w) :
  J5 w 20 #[va,t.v] (.tuple #[g.v,.int .i64 er]):=fun W hW=>(adapt.JW va m t W (hm.later hW) (ht.later hW)).mono (by
 subst he
 subst hg
 exact fun _ _ h=>⟨h.2,h.1⟩)
theorem FC (va:Value) (m:List (List Fr)) (t:light.aY) (w:World) (hm:bO w va m) (h3:m.length=3) (h0:m.headD []=t.list):J5 w 31 #[va,t.v] (.bool true):=fun W hW=>YS va m t W (hm.later hW) h3 h0
theorem J5.later {w w':World} {f:FuncId} {args:Array Value} {v:Value} (h:J5 w f args v) (hb:Below w.heap.size w w'):J5 w' f args v:=fun W hW=>h W (Bt hb hW)
theorem Uo.later {w w':World} {f:FuncId} {args:Array Value} {er:Int} {m:List (List Fr)} (h:Uo w f args er m) (hb:Below w.heap.size w w'):Uo w' f args er m:=fun W hW=>h W (Bt hb hW)
theorem Fp {f:Nat→Rat} {x y z d:Int} (h:(decide (f 0=q2 x d)&&decide (f 1=q2 y d)&&decide (f 2=q2 z d))=true):adapt.bH f=tq x y z d:=by
 simp only [Bool.and_eq_true,decide_eq_true_eq] at h
 unfold adapt.bH tq
 rw [h.1.1,h.1.2,h.2]
theorem Gg {m:matrix.RM} {x y z d:Int} (h:m.headD []=[q2 x d,q2 y d,q2 z d]):m.fr.headD []=(tq x y z d).list:=by
 cases m with
 | nil=>cases h
 | cons r t =>
  have h':r=[q2 x d,q2 y d,q2 z d]:=h
  show r.map Fr.of=_
  rw [h']
  rfl
def Fst (m:List (List Fr)) (t:light.aY):Prop:=m.length=3∧m.headD []=t.list
theorem QY (w:World) (ht:pR.Pow w) (hc:adapt.kU w):Calls Tryz.prog 9 #[] w (fun e w'=>e= .returned (.bool true)∧Below w.heap.size w w'):=by
 have T1:=zh (qY 1 1 1 1 (by decide+kernel) w ht)
 have T2:=zh (qY 4 2 1 2 (by decide+kernel) w ht)
 have T3:=zh (qY 1 0 1 1 (by decide+kernel) w ht)
 have T4:=zh (qY 1 0 0 1 (by decide+kernel) w ht)
 have T5:=zh (qY 8951 2664 (-1614) 10000 (by decide+kernel) w ht)
 have T6:=zh (qY 6 4 3 4 (by decide+kernel) w ht)
 have T7:=zh (qY 2 0 0 1 (by decide+kernel) w ht)
 have O1:=zh (Ko 1 1 (by decide+kernel) w ht)
 have O2:=zh (Ko 1 2 (by decide+kernel) w ht)
 have O3:=zh (Ko 2 1 (by decide+kernel) w ht)
 have C1:=zh (AQ 1 0 rfl w ht hc)
 have C3:=zh (AQ 3 0 rfl w ht hc)
 have C5:=zh (AQ 5 2 rfl w ht hc)
 have G1:=zh (um 1 (tq 1 1 1 1) (tq 4 2 1 2) (Fr.of (q2 1 1)) 0 (tq 4 2 1 2) (by decide+kernel) (by rw [if_pos rfl];exact Fp (by decide+kernel)) w ht hc)
 have G2:=zh (um 1 (tq 1 1 1 1) (tq 4 2 1 2) (Fr.of (q2 1 2)) 0 (tq 6 4 3 4) (by decide+kernel) (by rw [if_pos rfl];exact Fp (by decide+kernel)) w ht hc)
 have G3:=zh (um 1 (tq 1 1 1 1) (tq 4 2 1 2) (Fr.of (q2 2 1)) 2 adapt.qz (by decide+kernel) (if_neg zd) w ht hc)
 have G4:=zh (um 1 (tq 1 0 1 1) (tq 4 2 1 2) (Fr.of (q2 1 1)) 2 adapt.qz (by decide+kernel) (if_neg zd) w ht hc)
 have M1:=zh (Kq 1 (tq 1 1 1 1) (tq 4 2 1 2) (Fr.of (q2 1 1)) 0 (by decide+kernel) w ht hc)
 have F1:Hid (Fst (adapt.bg ((1:Int) - 1).toNat).fr (tq 1 0 0 1)):=zh ⟨rfl,Gg (by decide+kernel)⟩
 have F3:Hid (Fst (adapt.bg ((3:Int) - 1).toNat).fr (tq 8951 2664 (-1614) 10000)):=zh ⟨rfl,Gg (by decide+kernel)⟩
 have FM:Hid (Fst (adapt.pX 1 (tq 1 1 1 1) (tq 4 2 1 2) (Fr.of (q2 1 1))).fr (tq 2 0 0 1)):=zh ⟨rfl,Gg (by decide+kernel)⟩
 have A1:Hid (∀ va W,Below w.heap.size w W→bO W va (adapt.pX 1 (tq 1 1 1 1) (tq 4 2 1 2) (Fr.of (q2 1 1))).fr→J5 W 20 #[va,(tq 1 1 1 1).v] (.tuple #[(tq 4 2 1 2).v,.int .i64 0])):=zh fun va W hW hm =>
  OZ va _ (tq 1 1 1 1) 0 (tq 4 2 1 2) (by decide+kernel) (by rw [if_pos rfl];exact Fp (by decide+kernel)) W hm (ht.later hW)
 obtain ⟨m1,E⟩:∃ y,(adapt.bg ((1:Int) - 1).toNat).fr=y:=⟨_,rfl⟩
 rw [E] at C1 F1
 clear E
 obtain ⟨m3,E⟩:∃ y,(adapt.bg ((3:Int) - 1).toNat).fr=y:=⟨_,rfl⟩
 rw [E] at C3 F3
 clear E
 obtain ⟨m5,E⟩:∃ y,(adapt.bg ((5:Int) - 1).toNat).fr=y:=⟨_,rfl⟩
 rw [E] at C5
 clear E
 obtain ⟨mm,E⟩:∃ y,(adapt.pX 1 (tq 1 1 1 1) (tq 4 2 1 2) (Fr.of (q2 1 1))).fr=y:=⟨_,rfl⟩
 rw [E] at M1 FM A1
 clear E
 obtain ⟨⟨⟨k1,k2⟩,⟨k3,k4⟩,⟨k5,k6⟩⟩,E⟩:∃ y:light.aY,adapt.qz=y:=⟨_,rfl⟩
 simp only [E] at G3 G4
 clear E
 obtain ⟨⟨⟨a1,a2⟩,⟨a3,a4⟩,⟨a5,a6⟩⟩,E⟩:∃ y:light.aY,tq 1 1 1 1=y:=⟨_,rfl⟩
 simp only [E] at T1 G1 G2 G3 M1 A1
 clear E
 obtain ⟨⟨⟨b1,b2⟩,⟨b3,b4⟩,⟨b5,b6⟩⟩,E⟩:∃ y:light.aY,tq 4 2 1 2=y:=⟨_,rfl⟩
 simp only [E] at T2 G1 G2 G3 G4 M1 A1
 clear E
 obtain ⟨⟨⟨c1,c2⟩,⟨c3,c4⟩,⟨c5,c6⟩⟩,E⟩:∃ y:light.aY,tq 1 0 1 1=y:=⟨_,rfl⟩
 simp only [E] at T3 G4
 clear E
 obtain ⟨⟨⟨d1,d2⟩,⟨d3,d4⟩,⟨d5,d6⟩⟩,E⟩:∃ y:light.aY,tq 1 0 0 1=y:=⟨_,rfl⟩
 simp only [E] at T4 F1
 clear E
 obtain ⟨⟨⟨e1,e2⟩,⟨e3,e4⟩,⟨e5,e6⟩⟩,E⟩:∃ y:light.aY,tq 8951 2664 (-1614) 10000=y:=⟨_,rfl⟩
 simp only [E] at T5 F3
 clear E
 obtain ⟨⟨⟨f1,f2⟩,⟨f3,f4⟩,⟨f5,f6⟩⟩,E⟩:∃ y:light.aY,tq 6 4 3 4=y:=⟨_,rfl⟩
 simp only [E] at T6 G2
 clear E
 obtain ⟨⟨⟨g1,g2⟩,⟨g3,g4⟩,⟨g5,g6⟩⟩,E⟩:∃ y:light.aY,tq 2 0 0 1=y:=⟨_,rfl⟩
 simp only [E] at T7 FM
 clear E
 obtain ⟨⟨h1,h2⟩,E⟩:∃ y:Fr,Fr.of (q2 1 1)=y:=⟨_,rfl⟩
 rw [E] at O1 G1 G4 M1
 clear E
 obtain ⟨⟨i1,i2⟩,E⟩:∃ y:Fr,Fr.of (q2 1 2)=y:=⟨_,rfl⟩
 rw [E] at O2 G2
 clear E
 obtain ⟨⟨j1,j2⟩,E⟩:∃ y:Fr,Fr.of (q2 2 1)=y:=⟨_,rfl⟩
 rw [E] at O3 G3
 clear E
 unfold light.aY.v light.aY.cells Fr.v at *
 dsimp only at T1 T2 T3 T4 T5 T6 T7 G1 G2 G3 G4 M1 A1 O1 O2 O3
 clear ht hc
 go_enter Tryz.func9,Tryz.ntmps9
 have YA:= @sH
 go_wp2_with fail
 refine (T1.out _ (Below.refl _ _)).mono ?_
 rintro e wc1 ⟨rfl,hb1⟩
 have hk2:=Bt (Below.refl _ _) hb1
 clear hb1
 go_wp2_with fail
 refine (T2.out _ hk2).mono ?_
 rintro e iN ⟨rfl,hb3⟩
 have hk4:=Bt hk2 hb3
 clear hk2
 clear hb3
 go_wp2_with fail
 have hz:Below iN.heap.size iN ((iN.alloc (.cells #[.string a1,.string a2,.string a3,.string a4,.string a5,.string a6] 38)).alloc (.cells #[.string b1,.string b2,.string b3,.string b4,.string b5,.string b6] 38)):=aA
 obtain ⟨wq5,EW⟩:∃ y,((iN.alloc (.cells #[.string a1,.string a2,.string a3,.string a4,.string a5,.string a6] 38)).alloc (.cells #[.string b1,.string b2,.string b3,.string b4,.string b5,.string b6] 38))=y:=⟨_,rfl⟩
 have X1:Hid (aB wq5 (iN.heap.size) #[.string a1,.string a2,.string a3,.string a4,.string a5,.string a6] 38):=zh (by rw [← EW];exact aB.alloc (aB.new _ _ _) _)
 have X2:Hid (aB wq5 (iN.heap.size+1) #[.string b1,.string b2,.string b3,.string b4,.string b5,.string b6] 38):=zh (by rw [← EW];exact aB.mg _ _ _ _)
 rw [EW] at hz ⊢
 have hk6:=Bt hk4 hz
 clear hk4
 clear EW hz
 generalize iN.heap.size=pq5 at *
 refine (C1.out _ hk6).mono ?_
 rintro e kC ⟨dY,v,rfl,hy, -⟩
 have kD:=hy rfl
 obtain ⟨rs,hR, -⟩:=id kD
 obtain ⟨vm8,qm8,rfl, -⟩:=hR
 generalize rs.length=nm8 at kD
 clear hy
 replace X1:=X1.bl dY
 replace X2:=X2.bl dY
 have hk9:=Bt hk6 dY
 clear hk6
 have qo:=zh kD
 clear kD
 clear dY
 go_wp2_with fail
 refine (C3.out _ hk9).mono ?_
 rintro e dN ⟨dh,v,rfl,hy, -⟩
 have gy:=hy rfl
 obtain ⟨rs,hR, -⟩:=id gy
 obtain ⟨aP0,aP3,rfl, -⟩:=hR
 generalize rs.length=aS3 at gy
 clear hy
 replace X1:=X1.bl dh
 replace X2:=X2.bl dh
 replace qo:=zh (qo.out.later dh)
 have PD:=Bt hk9 dh
 clear hk9
 have rQ:=zh gy
 clear gy
 clear dh
 go_wp2_with fail
 refine (C5.out _ PD).mono ?_
 rintro e iR ⟨fA,v,rfl, -, hy⟩
 have hz:=hy zd
 subst hz
 clear hy
 replace X1:=X1.bl fA
 replace X2:=X2.bl fA
 replace qo:=zh (qo.out.later fA)
 replace rQ:=zh (rQ.out.later fA)
 have CZ:=Bt PD fA
 clear PD
 clear fA
 go_wp2_with fail
 obtain ⟨dW,dU⟩:=X1.cl
 obtain ⟨dV,dS⟩:=X2.cl
 refine aC [(.read,0),(.read,1),(.ext,2),(.ext,3),(.pure,4),(.pure,5),(.pure,6),(.alloc #[.string ⟨#[]⟩,.string ⟨#[]⟩,.string ⟨#[]⟩,.string ⟨#[]⟩,.string ⟨#[]⟩,.string ⟨#[]⟩] 37,7),(.fin,8),(.fin,9)] zk zk zR zP ?_
 repeat (first|(refine ah rfl rfl fun J h=>?_;go_simp;refine h _ ?_;clear h J)|(refine au rfl rfl rfl rfl fun J h=>?_;go_simp;refine h _ ?_;clear h J;try go_simp))
 refine aD rfl rfl (fun YN iZ J hJ=>?_);go_simp
 have oC:Below iR.heap.size iR YN:=aA
 clear iZ
 refine (O1.out _ (Bt CZ oC)).mono ?_
 rintro e OH ⟨rfl,oP⟩
 refine hJ _ _ oP ?_
 clear hJ J
 have sP:=Bt oC oP
 clear oC oP
 repeat (first|(refine ah rfl rfl fun J h=>?_;go_simp;refine h _ ?_;clear h J)|(refine au rfl rfl rfl rfl fun J h=>?_;go_simp;refine h _ ?_;clear h J;try go_simp))
 refine aD rfl rfl (fun nY mU J hJ=>?_);go_simp
 have oO:Below iR.heap.size iR nY:=Bt sP aA
 clear sP
 clear mU
 refine (G1.out _ (Bt CZ oO)).mono ?_
 rintro e jZ ⟨rfl,iO⟩
 refine hJ _ _ iO ?_
 clear hJ J
 have pY:=Bt oO iO
 clear oO iO
 repeat (first|(refine ah rfl rfl fun J h=>?_;go_simp;refine h _ ?_;clear h J)|(refine au rfl rfl rfl rfl fun J h=>?_;go_simp;refine h _ ?_;clear h J;try go_simp))
 refine aQ rfl (fun JB aO7 aq2 sZ Wj ae4 F5=>?_);go_simp;replace F5:aB _ _ _ _:=F5;have ad6:w.heap.size≤JB:=(by first|omega|exact Nat.le_trans (Below.size (B:=w.heap.size) aA) sZ)
 refine aJ [_,_] rfl (fun mI zG=>?_)
 have jg:Below iR.heap.size iR mI:=Bt pY aA
 have hq:=F5.later zG
 have cq:=hq.cell
 have fq:=hq.free
 clear F5 zG pY
 clear dW dU dV dS
 go_wp2_with fail
 obtain ⟨CF,EW⟩:∃ y,((((((mI.setCell ⟨JB,0,none⟩ (.string b1)).setCell ⟨JB,1,none⟩ (.string b2)).setCell ⟨JB,2,none⟩ (.string b3)).setCell ⟨JB,3,none⟩ (.string b4)).setCell ⟨JB,4,none⟩ (.string b5)).setCell ⟨JB,5,none⟩ (.string b6))=y:=⟨_,rfl⟩
 have hz:Below iR.heap.size iR CF:=by rw [← EW];exact ((((((jg.setCell sZ _).setCell sZ _).setCell sZ _).setCell sZ _).setCell sZ _).setCell sZ _)
 have X3:Hid (aB CF JB #[.string b1,.string b2,.string b3,.string b4,.string b5,.string b6] 37):=zh (by rw [← EW];exact ((((((hq.set 0 _).set 1 _).set 2 _).set 3 _).set 4 _).set 5 _))
 rw [EW]
 clear EW hq cq fq jg
 replace X1:=X1.bl hz
 replace X2:=X2.bl hz
 replace qo:=zh (qo.out.later hz)
 replace rQ:=zh (rQ.out.later hz)
 have SX:=Bt CZ hz
 clear CZ
 clear hz
 clear aq2 sZ Wj ae4 ad6
 go_wp2_with fail
 obtain ⟨dW,dU⟩:=X1.cl
 obtain ⟨dV,dS⟩:=X2.cl
 refine aC [(.read,0),(.read,1),(.ext,2),(.ext,3),(.pure,4),(.pure,5),(.pure,6),(.alloc #[.string ⟨#[]⟩,.string ⟨#[]⟩,.string ⟨#[]⟩,.string ⟨#[]⟩,.string ⟨#[]⟩,.string ⟨#[]⟩] 37,7),(.fin,8),(.fin,9)] zk zk zR zP ?_
 repeat (first|(refine ah rfl rfl fun J h=>?_;go_simp;refine h _ ?_;clear h J)|(refine au rfl rfl rfl rfl fun J h=>?_;go_simp;refine h _ ?_;clear h J;try go_simp))
 refine aD rfl rfl (fun aB1 Wz J hJ=>?_);go_simp
 have PK:Below CF.heap.size CF aB1:=aA
 clear Wz
 refine (O2.out _ (Bt SX PK)).mono ?_
 rintro e aN8 ⟨rfl,PV⟩
 refine hJ _ _ PV ?_
 clear hJ J
 have au0:=Bt PK PV
 clear PK PV
 repeat (first|(refine ah rfl rfl fun J h=>?_;go_simp;refine h _ ?_;clear h J)|(refine au rfl rfl rfl rfl fun J h=>?_;go_simp;refine h _ ?_;clear h J;try go_simp))
 refine aD rfl rfl (fun aB0 Wy J hJ=>?_);go_simp
 have ab1:Below CF.heap.size CF aB0:=Bt au0 aA
 clear au0
 clear Wy
 refine (G2.out _ (Bt SX ab1)).mono ?_
 rintro e aB7 ⟨rfl,xg⟩
 refine hJ _ _ xg ?_
 clear hJ J
 have at7:=Bt ab1 xg
 clear ab1 xg
 repeat (first|(refine ah rfl rfl fun J h=>?_;go_simp;refine h _ ?_;clear h J)|(refine au rfl rfl rfl rfl fun J h=>?_;go_simp;refine h _ ?_;clear h J;try go_simp))
 refine aQ rfl (fun JA aO5 aq0 sW Wd ae2 FZ=>?_);go_simp;replace FZ:aB _ _ _ _:=FZ;have ad4:w.heap.size≤JA:=(by first|omega|exact Nat.le_trans (Below.size (B:=w.heap.size) aA) sW)
 refine aJ [_,_] rfl (fun an7 au6=>?_)
 have at6:Below CF.heap.size CF an7:=Bt at7 aA
 have hq:=FZ.later au6
 have cq:=hq.cell
 have fq:=hq.free
 clear FZ au6 at7
 clear dW dU dV dS
 go_wp2_with fail
 obtain ⟨Ho,EW⟩:∃ y,((((((an7.setCell ⟨JA,0,none⟩ (.string f1)).setCell ⟨JA,1,none⟩ (.string f2)).setCell ⟨JA,2,none⟩ (.string f3)).setCell ⟨JA,3,none⟩ (.string f4)).setCell ⟨JA,4,none⟩ (.string f5)).setCell ⟨JA,5,none⟩ (.string f6))=y:=⟨_,rfl⟩
 have hz:Below CF.heap.size CF Ho:=by rw [← EW];exact ((((((at6.setCell sW _).setCell sW _).setCell sW _).setCell sW _).setCell sW _).setCell sW _)
 have X4:Hid (aB Ho JA #[.string f1,.string f2,.string f3,.string f4,.string f5,.string f6] 37):=zh (by rw [← EW];exact ((((((hq.set 0 _).set 1 _).set 2 _).set 3 _).set 4 _).set 5 _))
 rw [EW]
 clear EW hq cq fq at6
 replace X1:=X1.bl hz
 replace X2:=X2.bl hz
 replace qo:=zh (qo.out.later hz)
 replace rQ:=zh (rQ.out.later hz)
 replace X3:=X3.bl hz
 have hk31:=Bt SX hz
 clear SX
 clear hz
 clear aq0 sW Wd ae2 ad4
 go_wp2_with fail
 obtain ⟨dW,dU⟩:=X1.cl
 obtain ⟨dV,dS⟩:=X2.cl
 refine aC [(.read,0),(.read,1),(.ext,2),(.ext,3),(.pure,4),(.pure,5),(.pure,6),(.fin,7),(.fin,8)] zk zk zR zP ?_
 repeat (first|(refine ah rfl rfl fun J h=>?_;go_simp;refine h _ ?_;clear h J)|(refine au rfl rfl rfl rfl fun J h=>?_;go_simp;refine h _ ?_;clear h J;try go_simp))
 refine aD rfl rfl (fun aA9 ad1 J hJ=>?_);go_simp
 have ab0:Below Ho.heap.size Ho aA9:=aA
 clear ad1
 refine (O1.out _ (Bt hk31 ab0)).mono ?_
 rintro e aN7 ⟨rfl,Lx⟩
 refine hJ _ _ Lx ?_
 clear hJ J
 have at5:=Bt ab0 Lx
 clear ab0 Lx
 repeat (first|(refine ah rfl rfl fun J h=>?_;go_simp;refine h _ ?_;clear h J)|(refine au rfl rfl rfl rfl fun J h=>?_;go_simp;refine h _ ?_;clear h J;try go_simp))
 refine aD rfl rfl (fun aA8 Tm J hJ=>?_);go_simp
 have aa9:Below Ho.heap.size Ho aA8:=Bt at5 aA
 clear at5
 clear Tm
 refine (M1.out _ (Bt hk31 aa9)).mono ?_
 rintro e aN6 ⟨Ww,v,rfl,hy, -⟩
 have V4:=hy rfl
 obtain ⟨rs,hR, -⟩:=id V4
 obtain ⟨aO9,aP2,rfl, -⟩:=hR
 generalize rs.length=aS2 at V4 hJ
 clear hy
 refine hJ _ _ Ww ?_
 clear hJ J
 have at0:=Bt aa9 Ww
 have aE3:=Ww
 clear aa9 Ww
 clear aE3
 repeat (first|(refine ah rfl rfl fun J h=>?_;go_simp;refine h _ ?_;clear h J)|(refine au rfl rfl rfl rfl fun J h=>?_;go_simp;refine h _ ?_;clear h J;try go_simp))
 refine aJ [_,_] rfl (fun an6 aE9=>?_)
 have IX:Below Ho.heap.size Ho an6:=Bt at0 aA
 have zV:=zh (V4.later (w':=an6) aA)
 clear V4
 clear aE9 at0
 clear dW dU dV dS
 replace X1:=X1.bl IX
 replace X2:=X2.bl IX
 replace qo:=zh (qo.out.later IX)
 replace rQ:=zh (rQ.out.later IX)
 replace X3:=X3.bl IX
 replace X4:=X4.bl IX
 have ZV:=Bt hk31 IX
 clear hk31
 clear IX
 obtain ⟨dW,dU⟩:=X1.cl
 go_wp2_with fail
 clear dW dU
 refine (A1.out _ _ ZV zV.out _ (Below.refl _ _)).mono ?_
 rintro e OE ⟨rfl,Gi⟩
 replace X1:=X1.bl Gi
 replace X2:=X2.bl Gi
 replace qo:=zh (qo.out.later Gi)
 replace rQ:=zh (rQ.out.later Gi)
 replace X3:=X3.bl Gi
 replace X4:=X4.bl Gi
 replace zV:=zh (zV.out.later Gi)
 have ar5:=Bt ZV Gi
 clear ZV
 clear Gi
 go_wp2_with fail
 have hz:Below OE.heap.size OE (OE.alloc (.cells #[.string b1,.string b2,.string b3,.string b4,.string b5,.string b6] 38)):=aA
 obtain ⟨EY,EW⟩:∃ y,(OE.alloc (.cells #[.string b1,.string b2,.string b3,.string b4,.string b5,.string b6] 38))=y:=⟨_,rfl⟩
 have X5:Hid (aB EY (OE.heap.size) #[.string b1,.string b2,.string b3,.string b4,.string b5,.string b6] 38):=zh (by rw [← EW];exact aB.new _ _ _)
 rw [EW] at hz ⊢
 replace X1:=X1.bl hz
 replace X2:=X2.bl hz
 replace qo:=zh (qo.out.later hz)
 replace rQ:=zh (rQ.out.later hz)
 replace X3:=X3.bl hz
 replace X4:=X4.bl hz
 replace zV:=zh (zV.out.later hz)
 have Wn:=Bt ar5 hz
 clear ar5
 clear EW hz
 generalize OE.heap.size=aP4 at *
 obtain ⟨dW,dU⟩:=X1.cl
 obtain ⟨dV,dS⟩:=X2.cl
 refine aC [(.read,0),(.read,1),(.ext,2),(.ext,3),(.pure,4),(.pure,5),(.pure,6),(.alloc #[.string ⟨#[]⟩,.string ⟨#[]⟩,.string ⟨#[]⟩,.string ⟨#[]⟩,.string ⟨#[]⟩,.string ⟨#[]⟩] 37,7),(.fin,8),(.fin,9)] zk zk zR zP ?_
 repeat (first|(refine ah rfl rfl fun J h=>?_;go_simp;refine h _ ?_;clear h J)|(refine au rfl rfl rfl rfl fun J h=>?_;go_simp;refine h _ ?_;clear h J;try go_simp))
 refine aD rfl rfl (fun aA7 aH0 J hJ=>?_);go_simp
 have aa8:Below EY.heap.size EY aA7:=aA
 clear aH0
 refine (O3.out _ (Bt Wn aa8)).mono ?_
 rintro e aN5 ⟨rfl,ac9⟩
 refine hJ _ _ ac9 ?_
 clear hJ J
 have as9:=Bt aa8 ac9
 clear aa8 ac9
 repeat (first|(refine ah rfl rfl fun J h=>?_;go_simp;refine h _ ?_;clear h J)|(refine au rfl rfl rfl rfl fun J h=>?_;go_simp;refine h _ ?_;clear h J;try go_simp))
 refine aD rfl rfl (fun aA6 aG9 J hJ=>?_);go_simp
 have aa7:Below EY.heap.size EY aA6:=Bt as9 aA
 clear as9
 clear aG9
 refine (G3.out _ (Bt Wn aa7)).mono ?_
 rintro e aN4 ⟨rfl,ac8⟩
 refine hJ _ _ ac8 ?_
 clear hJ J
 have as8:=Bt aa7 ac8
 clear aa7 ac8
 repeat (first|(refine ah rfl rfl fun J h=>?_;go_simp;refine h _ ?_;clear h J)|(refine au rfl rfl rfl rfl fun J h=>?_;go_simp;refine h _ ?_;clear h J;try go_simp))
 refine aQ rfl (fun L8 aO4 ap9 sV V9 ae1 FY=>?_);go_simp;replace FY:aB _ _ _ _:=FY;have ad3:w.heap.size≤L8:=(by first|omega|exact Nat.le_trans (Below.size (B:=w.heap.size) aA) sV)
 refine aJ [_,_] rfl (fun an5 au5=>?_)
 have as7:Below EY.heap.size EY an5:=Bt as8 aA
 have hq:=FY.later au5
 have cq:=hq.cell
 have fq:=hq.free
 clear FY au5 as8
 clear dW dU dV dS
 go_wp2_with fail
 obtain ⟨Ag,EW⟩:∃ y,((((((an5.setCell ⟨L8,0,none⟩ (.string k1)).setCell ⟨L8,1,none⟩ (.string k2)).setCell ⟨L8,2,none⟩ (.string k3)).setCell ⟨L8,3,none⟩ (.string k4)).setCell ⟨L8,4,none⟩ (.string k5)).setCell ⟨L8,5,none⟩ (.string k6))=y:=⟨_,rfl⟩
 have hz:Below EY.heap.size EY Ag:=by rw [← EW];exact ((((((as7.setCell sV _).setCell sV _).setCell sV _).setCell sV _).setCell sV _).setCell sV _)
 rw [EW]
 clear EW hq cq fq as7
 replace X1:=X1.bl hz
 replace X2:=X2.bl hz
 replace qo:=zh (qo.out.later hz)
 replace rQ:=zh (rQ.out.later hz)
 replace X3:=X3.bl hz
 replace X4:=X4.bl hz
 replace zV:=zh (zV.out.later hz)
 replace X5:=X5.bl hz
 have SV:=Bt Wn hz
 clear Wn
 clear hz
 clear ap9 sV V9 ae1 ad3
 go_wp2_with fail
 obtain ⟨dV,dS⟩:=X2.cl
 refine aC [(.read,1),(.ext,0),(.ext,2),(.ext,3),(.pure,4),(.pure,5),(.pure,6),(.alloc #[.string ⟨#[]⟩,.string ⟨#[]⟩,.string ⟨#[]⟩,.string ⟨#[]⟩,.string ⟨#[]⟩,.string ⟨#[]⟩] 37,7),(.fin,8),(.fin,9)] zk zk zR zP ?_
 repeat (first|(refine ah rfl rfl fun J h=>?_;go_simp;refine h _ ?_;clear h J)|(refine au rfl rfl rfl rfl fun J h=>?_;go_simp;refine h _ ?_;clear h J;try go_simp))
 refine aD rfl rfl (fun aA5 aG8 J hJ=>?_);go_simp
 have aa6:Below Ag.heap.size Ag aA5:=aA
 clear aG8
 refine (T3.out _ (Bt SV aa6)).mono ?_
 rintro e aN3 ⟨rfl,ac7⟩
 refine hJ _ _ ac7 ?_
 clear hJ J
 have as6:=Bt aa6 ac7
 clear aa6 ac7
 repeat (first|(refine ah rfl rfl fun J h=>?_;go_simp;refine h _ ?_;clear h J)|(refine au rfl rfl rfl rfl fun J h=>?_;go_simp;refine h _ ?_;clear h J;try go_simp))
 refine aD rfl rfl (fun aA4 aG7 J hJ=>?_);go_simp
 have aa5:Below Ag.heap.size Ag aA4:=Bt as6 aA
 clear as6
 clear aG7
 refine (O1.out _ (Bt SV aa5)).mono ?_
 rintro e aN2 ⟨rfl,ac6⟩
 refine hJ _ _ ac6 ?_
 clear hJ J
 have as5:=Bt aa5 ac6
 clear aa5 ac6
 repeat (first|(refine ah rfl rfl fun J h=>?_;go_simp;refine h _ ?_;clear h J)|(refine au rfl rfl rfl rfl fun J h=>?_;go_simp;refine h _ ?_;clear h J;try go_simp))
 refine aD rfl rfl (fun aA3 aG6 J hJ=>?_);go_simp
 have aa4:Below Ag.heap.size Ag aA3:=Bt as5 aA
 clear as5
 clear aG6
 refine (G4.out _ (Bt SV aa4)).mono ?_
 rintro e aN1 ⟨rfl,Lv⟩
 refine hJ _ _ Lv ?_
 clear hJ J
 have as4:=Bt aa4 Lv
 clear aa4 Lv
 repeat (first|(refine ah rfl rfl fun J h=>?_;go_simp;refine h _ ?_;clear h J)|(refine au rfl rfl rfl rfl fun J h=>?_;go_simp;refine h _ ?_;clear h J;try go_simp))
 refine aQ rfl (fun L6 aO3 ap8 sU V8 ae0 FX=>?_);go_simp;replace FX:aB _ _ _ _:=FX;have ad2:w.heap.size≤L6:=(by first|omega|exact Nat.le_trans (Below.size (B:=w.heap.size) aA) sU)
 refine aJ [_,_] rfl (fun an4 au4=>?_)
 have as3:Below Ag.heap.size Ag an4:=Bt as4 aA
 have hq:=FX.later au4
 have cq:=hq.cell
 have fq:=hq.free
 clear FX au4 as4
 clear dV dS
 go_wp2_with fail
 obtain ⟨rZ,EW⟩:∃ y,((((((an4.setCell ⟨L6,0,none⟩ (.string k1)).setCell ⟨L6,1,none⟩ (.string k2)).setCell ⟨L6,2,none⟩ (.string k3)).setCell ⟨L6,3,none⟩ (.string k4)).setCell ⟨L6,4,none⟩ (.string k5)).setCell ⟨L6,5,none⟩ (.string k6))=y:=⟨_,rfl⟩
 have hz:Below Ag.heap.size Ag rZ:=by rw [← EW];exact ((((((as3.setCell sU _).setCell sU _).setCell sU _).setCell sU _).setCell sU _).setCell sU _)
 rw [EW]
 clear EW hq cq fq as3
 clear X1
 replace X2:=X2.bl hz
 replace qo:=zh (qo.out.later hz)
 replace rQ:=zh (rQ.out.later hz)
 replace X3:=X3.bl hz
 replace X4:=X4.bl hz
 replace zV:=zh (zV.out.later hz)
 replace X5:=X5.bl hz
 have Py:=Bt SV hz
 clear SV
 clear hz
 clear ap8 sU V8 ae0 ad2
 go_wp2_with fail
 obtain ⟨mF,mD⟩:=X3.cl
 obtain ⟨dV,dS⟩:=X2.cl
 obtain ⟨zT,zF⟩:=X4.cl
 obtain ⟨zS,zD⟩:=X5.cl
 refine aC ((.pure,0)::(.pure,1)::(.pure,2)::(.pure,3)::(.ext,4)::(.ext,5)::(.pure,6)::(.pure,7)::(.pure,8)::(.pure,9)::(.pure,10)::(.pure,11)::(.pure,12)::(.ext,13)::(.ext,14)::(.pure,15)::(.pure,16)::(.pure,17)::(.pure,18)::(.pure,19)::(.pure,20)::(.pure,21)::(.pure,22)::(.pure,23)::(.pure,24)::(.read,25)::(.read,26)::(.pure,27)::(.pure,28)::(.pure,29)::(.pure,30)::(.pure,31)::(.pure,32)::(.pure,33)::(.read,34)::(.ext,35)::(.pure,36)::(.pure,37)::(.pure,38)::(.pure,39)::(.pure,40)::(.pure,41)::(.pure,42)::(.pure,43)::(.ext,44)::(.ext,45)::(.pure,46)::(.pure,47)::(.pure,48)::(.pure,49)::(.pure,50)::(.pure,51)::(.read,52)::(.read,53)::(.pure,54)::(.pure,55)::(.pure,56)::(.pure,57)::(.pure,58)::(.pure,59)::(.pure,60)::(.pure,61)::(.pure,62)::(.pure,63)::(.fin,64)::[]) zk zk zR zP ?_
 repeat (first|(refine ah rfl rfl fun J h=>?_;go_simp;refine h _ ?_;clear h J)|(refine au rfl rfl rfl rfl fun J h=>?_;go_simp;refine h _ ?_;clear h J;try go_simp)|(refine iB rfl rfl fun J h=>?_;go_simp;refine h _ ?_;clear h J)|(refine iC rfl rfl rfl rfl fun J h=>?_;go_simp;refine h _ ?_;clear h J;try go_simp))
 refine j6 rfl rfl (fun aA2 aG5 J hJ=>?_);go_simp
 have aa3:Below rZ.heap.size rZ aA2:=aA
 clear aG5
 refine (T4.out _ (Bt Py aa3)).mono ?_
 rintro e aN0 ⟨rfl,ac5⟩
 refine hJ _ _ ac5 ?_
 clear hJ J
 have Df:=Bt aa3 ac5
 clear aa3 ac5
 clear mF mD dV dS zT zF zS zD
 have mF:=(X3.out.later Df).cell;have mD:=(X3.out.later Df).lt
 have dV:=(X2.out.later Df).cell;have dS:=(X2.out.later Df).lt
 have zT:=(X4.out.later Df).cell;have zF:=(X4.out.later Df).lt
 have zS:=(X5.out.later Df).cell;have zD:=(X5.out.later Df).lt
 repeat (first|(refine ah rfl rfl fun J h=>?_;go_simp;refine h _ ?_;clear h J)|(refine au rfl rfl rfl rfl fun J h=>?_;go_simp;refine h _ ?_;clear h J;try go_simp)|(refine iB rfl rfl fun J h=>?_;go_simp;refine h _ ?_;clear h J)|(refine iC rfl rfl rfl rfl fun J h=>?_;go_simp;refine h _ ?_;clear h J;try go_simp))
 refine j6 rfl rfl (fun aA1 aG4 J hJ=>?_);go_simp
 have aa2:Below rZ.heap.size rZ aA1:=Bt Df aA
 clear Df
 clear aG4
 refine (FC _ _ ⟨⟨d1,d2⟩,⟨d3,d4⟩,⟨d5,d6⟩⟩ _ (qo.out.later aa2) F1.out.1 F1.out.2 _ (Below.refl _ _)).mono ?_
 rintro e aM9 ⟨rfl,ac4⟩
 refine hJ _ _ ac4 ?_
 clear hJ J
 have Dc:=Bt aa2 ac4
 clear aa2 ac4
 clear mF mD dV dS zT zF zS zD
 have mF:=(X3.out.later Dc).cell;have mD:=(X3.out.later Dc).lt
 have dV:=(X2.out.later Dc).cell;have dS:=(X2.out.later Dc).lt
 have zT:=(X4.out.later Dc).cell;have zF:=(X4.out.later Dc).lt
 have zS:=(X5.out.later Dc).cell;have zD:=(X5.out.later Dc).lt
 repeat (first|(refine ah rfl rfl fun J h=>?_;go_simp;refine h _ ?_;clear h J)|(refine au rfl rfl rfl rfl fun J h=>?_;go_simp;refine h _ ?_;clear h J;try go_simp)|(refine iB rfl rfl fun J h=>?_;go_simp;refine h _ ?_;clear h J)|(refine iC rfl rfl rfl rfl fun J h=>?_;go_simp;refine h _ ?_;clear h J;try go_simp))
 refine j6 rfl rfl (fun aA0 aG3 J hJ=>?_);go_simp
 have aa1:Below rZ.heap.size rZ aA0:=Bt Dc aA
 clear Dc
 clear aG3
 refine (T5.out _ (Bt Py aa1)).mono ?_
 rintro e aM8 ⟨rfl,ac3⟩
 refine hJ _ _ ac3 ?_
 clear hJ J
 have Db:=Bt aa1 ac3
 clear aa1 ac3
 clear mF mD dV dS zT zF zS zD
 have mF:=(X3.out.later Db).cell;have mD:=(X3.out.later Db).lt
 have dV:=(X2.out.later Db).cell;have dS:=(X2.out.later Db).lt
 have zT:=(X4.out.later Db).cell;have zF:=(X4.out.later Db).lt
 have zS:=(X5.out.later Db).cell;have zD:=(X5.out.later Db).lt
 repeat (first|(refine ah rfl rfl fun J h=>?_;go_simp;refine h _ ?_;clear h J)|(refine au rfl rfl rfl rfl fun J h=>?_;go_simp;refine h _ ?_;clear h J;try go_simp)|(refine iB rfl rfl fun J h=>?_;go_simp;refine h _ ?_;clear h J)|(refine iC rfl rfl rfl rfl fun J h=>?_;go_simp;refine h _ ?_;clear h J;try go_simp))
 refine j6 rfl rfl (fun az9 aG2 J hJ=>?_);go_simp
 have aa0:Below rZ.heap.size rZ az9:=Bt Db aA
 clear Db
 clear aG2
 refine (FC _ _ ⟨⟨e1,e2⟩,⟨e3,e4⟩,⟨e5,e6⟩⟩ _ (rQ.out.later aa0) F3.out.1 F3.out.2 _ (Below.refl _ _)).mono ?_
 rintro e aM7 ⟨rfl,ac2⟩
 refine hJ _ _ ac2 ?_
 clear hJ J
 have Da:=Bt aa0 ac2
 clear aa0 ac2
 clear mF mD dV dS zT zF zS zD
 have mF:=(X3.out.later Da).cell;have mD:=(X3.out.later Da).lt
 have dV:=(X2.out.later Da).cell;have dS:=(X2.out.later Da).lt
 have zT:=(X4.out.later Da).cell;have zF:=(X4.out.later Da).lt
 have zS:=(X5.out.later Da).cell;have zD:=(X5.out.later Da).lt
 repeat (first|(refine ah rfl rfl fun J h=>?_;go_simp;refine h _ ?_;clear h J)|(refine au rfl rfl rfl rfl fun J h=>?_;go_simp;refine h _ ?_;clear h J;try go_simp)|(refine iB rfl rfl fun J h=>?_;go_simp;refine h _ ?_;clear h J)|(refine iC rfl rfl rfl rfl fun J h=>?_;go_simp;refine h _ ?_;clear h J;try go_simp))
 refine j6 rfl rfl (fun az8 aG1 J hJ=>?_);go_simp
 have Z9:Below rZ.heap.size rZ az8:=Bt Da aA
 clear Da
 clear aG1
 refine (T6.out _ (Bt Py Z9)).mono ?_
 rintro e aM6 ⟨rfl,ac1⟩
 refine hJ _ _ ac1 ?_
 clear hJ J
 have PI:=Bt Z9 ac1
 clear Z9 ac1
 clear mF mD dV dS zT zF zS zD
 have zS:=(X5.out.later PI).cell;have zD:=(X5.out.later PI).lt
 have dV:=(X2.out.later PI).cell;have dS:=(X2.out.later PI).lt
 repeat (first|(refine ah rfl rfl fun J h=>?_;go_simp;refine h _ ?_;clear h J)|(refine au rfl rfl rfl rfl fun J h=>?_;go_simp;refine h _ ?_;clear h J;try go_simp)|(refine iB rfl rfl fun J h=>?_;go_simp;refine h _ ?_;clear h J)|(refine iC rfl rfl rfl rfl fun J h=>?_;go_simp;refine h _ ?_;clear h J;try go_simp))
 refine j6 rfl rfl (fun az7 aF9 J hJ=>?_);go_simp
 have Z8:Below rZ.heap.size rZ az7:=Bt PI aA
 clear PI
 clear aF9
 refine (T7.out _ (Bt Py Z8)).mono ?_
 rintro e aM5 ⟨rfl,ac0⟩
 refine hJ _ _ ac0 ?_
 clear hJ J
 have PG:=Bt Z8 ac0
 clear Z8 ac0
 clear zS zD dV dS
 have zS:=(X5.out.later PG).cell;have zD:=(X5.out.later PG).lt
 have dV:=(X2.out.later PG).cell;have dS:=(X2.out.later PG).lt
 repeat (first|(refine ah rfl rfl fun J h=>?_;go_simp;refine h _ ?_;clear h J)|(refine au rfl rfl rfl rfl fun J h=>?_;go_simp;refine h _ ?_;clear h J;try go_simp)|(refine iB rfl rfl fun J h=>?_;go_simp;refine h _ ?_;clear h J)|(refine iC rfl rfl rfl rfl fun J h=>?_;go_simp;refine h _ ?_;clear h J;try go_simp))
 refine j6 rfl rfl (fun az6 aF8 J hJ=>?_);go_simp
 have Z7:Below rZ.heap.size rZ az6:=Bt PG aA
 clear PG
 clear aF8
 refine (FC _ _ ⟨⟨g1,g2⟩,⟨g3,g4⟩,⟨g5,g6⟩⟩ _ (zV.out.later Z7) FM.out.1 FM.out.2 _ (Below.refl _ _)).mono ?_
 rintro e aM4 ⟨rfl,ab9⟩
 refine hJ _ _ ab9 ?_
 clear hJ J
 have PE:=Bt Z7 ab9
 clear Z7 ab9
 clear zS zD dV dS
 have zS:=(X5.out.later PE).cell;have zD:=(X5.out.later PE).lt
 have dV:=(X2.out.later PE).cell;have dS:=(X2.out.later PE).lt
 repeat (first|(refine ah rfl rfl fun J h=>?_;go_simp;refine h _ ?_;clear h J)|(refine au rfl rfl rfl rfl fun J h=>?_;go_simp;refine h _ ?_;clear h J;try go_simp)|(refine iB rfl rfl fun J h=>?_;go_simp;refine h _ ?_;clear h J)|(refine iC rfl rfl rfl rfl fun J h=>?_;go_simp;refine h _ ?_;clear h J;try go_simp))
 refine aJ [_] rfl (fun az5 aE8=>?_)
 have Gf:Below rZ.heap.size rZ az5:=Bt PE aA
 clear aE8 PE
 clear zS zD dV dS
 replace X2:=X2.bl Gf
 replace qo:=zh (qo.out.later Gf)
 replace rQ:=zh (rQ.out.later Gf)
 replace X3:=X3.bl Gf
 replace X4:=X4.bl Gf
 replace zV:=zh (zV.out.later Gf)
 replace X5:=X5.bl Gf
 have aE4:=Bt Py Gf
 clear Py
 clear Gf
 go_wp2_with fail
 go_ret
 exact ⟨rfl,aE4⟩
end Go.Proofs.verdigrislaw25
