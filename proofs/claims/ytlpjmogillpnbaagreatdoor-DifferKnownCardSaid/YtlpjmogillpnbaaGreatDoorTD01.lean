/- Lemmas for the proof. No condition. -/
import Derived.Test.YtlpjmogillpnbaaGreatDoorTB40
set_option linter.unusedVariables false
set_option linter.unusedSimpArgs false
set_option maxRecDepth 100000
set_option maxHeartbeats 16000000
open Bool renaming and_eq_true → aF
open Go.Ending renaming returned → ah
open Go.IntKind renaming i64 → I
open Go.Value renaming agg → au, bool → ay, int → Z, pointer → aA, string → O
open Nat renaming le_refl → aI
namespace Go.Fx
open Go Go.RowKit Go.SW Go.Num Go.Mem Go.Proofs
section
variable {P:Program} {n:Nat} {R:Post} {w0:World} {p:Pos} {S:Sl} {L:Mm} {ops:Array Oper} {k:List Kt}
theorem JB {bZ:World→World→Prop} {Q:Exit→Act→World→Prop} {a:Act} {w:World} (is:List (K × Nat)) (hZ:zu.Rp w.heap.size bZ) (hc:yO ops is=true) (hal:mJ P ops is)
  (hQ:∀ c (a s:Act) w,s.defers=a.defers→Q (.panic c) a w→Q (.panic c) s w)
  (h:zu.walk bZ P ops Q w.heap.size is [] a w):Vg P ops Q a w:=⟨fun t=>by
 unfold yO at hc;simp only [aF,decide_eq_true_eq] at hc;obtain ⟨⟨⟨⟨⟨h1,h2⟩,h3⟩,h4⟩,h5⟩,h6⟩:=hc;unfold Region.linearise;refine wpAny_sound _ _ _ _ _ ?_;refine zu.rW (bZ:=bZ) h1 (Nh h2) hQ w.heap.size hZ ops.size is [] [] [] _ a a w ?_ ?_ h3 h4 zi zi hal ?_ h
 ·rw [kX];exact h5
 ·refine ⟨by simp,fun i hi=>?_,fun j o hj hl=>?_,rfl,rfl,fun t _ _=>rfl,by simp,by simp,by simp,by simp⟩
  ·have hmem:i∈is.map (·.2):=by simpa using List.all_eq_true.1 h6 i (List.mem_range.2 hi)
   simp [hi]
   simpa using hmem
  ·have hj':=(Array.getElem?_eq_some_iff.1 hj).1;simp [hj'] at hl
 ·exact ⟨by simp,by simp,by simp,by simp,aI _⟩⟩
structure GD (P:Program) (n:Nat) (R:Post) (w0:World) (ops:Array Oper) (S:Sl) (L:Mm):Prop where
 out:∀ w,Mem w0 [] L w→∀ a,rD n S a→Vg P ops (lift n R) a w
theorem rM (x y:Nat) (hxy:x≠y) (h1:GD P n R w0 (gU x y ops) S L) (h2:GD P n R w0 (gU y x ops) S L):GD P n R w0 ops S L :=
 ⟨fun w hM a ha=>sS x y hxy (h1.out w hM a ha) (h2.out w hM a ha)⟩
theorem lS (l:List Nat) (hc:G P n R w0 [] (.pW ops [] (plan P ops l) [] []) S L) (hd:yO ops (plan P ops l)=true:=by kernel_rfl) (hq:(plan P ops l).map (probe P ops)=(plan P ops l).map want:=by kernel_rfl):GD P n R w0 ops S L :=
 ⟨fun w hM a ha=>JB (plan P ops l) (lax (H:=[]) zi) hd (pO hq) (fun c a s w hs h=>yg c a s w hs h)
  (hc.out w w.heap.size [] hM ⟨fun _=>hM.Bz.size,fun _ j x hx=>.inl (hM.all j x hx).lt,by simp,rfl,by simp⟩ a ha)⟩
def Zl (A:Nat→Nat→Sl) (B:Nat→Nat→Mm) (w0:World) (S0:Sl) (L0:Mm):Post:=fun e S' w'=>e= .normal∧∃ x y,(∀ i v,look (A x y++S0) i=some v→look S' i=some v)∧Mem w0 [] (L0++B x y) w'
theorem ae9 (m:Nat) (hs:List Nat) (St:Sl) (U:List (Nat × Array Value)) (A:Nat→Nat→Sl) (B:Nat→Nat→Mm) {id:Nat} {c:Code} (hq:(tr m hs p).2= .code (.region id ops true) (.seq c::k))
  (h1:GD P n (Zl A B w0 (St++S) (upd L U)) w0 ops (St++S) (upd L U))
  (h2:∀ x y,G P n R w0 [] (.code c k) (A x y++(St++S)) (upd L U++B x y))
  (hm:P.follows .mixedOrders=true:=by kernel_rfl) (h:yZ P n w0 (tr m hs p).1 S L St (upd L U):=by intro _;kernel_rfl):G P n R w0 [] p S L:=by
 refine go hs St _ h (by rw [hq];rfl) ?_;rw [hq];refine ⟨fun w N H hM _ a ha=>?_⟩;refine wp_mono (FK hm (h1.out w.drew (hM.later (Below.drew (Below.refl _ _))) a ha)) fun e a' w' hq'=>?_;cases e with
 | normal =>
  obtain ⟨S',hs', -, x,y,hl,hM'⟩:=hq';exact ⟨S',hs',fun a2 ha2=>(h2 x y).out w' 0 [] hM' trivial a2 (ha2.of hl)⟩
 | panic ch=>obtain ⟨-, S',he, -⟩:=hq';cases he
 | exit id=>obtain ⟨S', -, he, -⟩:=hq';cases he
 | goto id=>obtain ⟨S', -, he, -⟩:=hq';cases he
 | ret=>obtain ⟨S', -, he, -⟩:=hq';cases he
 | outgrown=>obtain ⟨S', -, he, -⟩:=hq';cases he
theorem lT.refl (S:Sl):∀ i v,look S i=some v→look S i=some v:=fun _ _ h=>h
theorem lT.cons {S' S:Sl} {d:Nat} {u:Value} (h:∀ i v,look S' i=some v→look S i=some v):∀ i v,look ((d,u)::S') i=some v→look ((d,u)::S) i=some v:=kD h d u
theorem lT.skip {S' S:Sl} {d:Nat} {u:Value} (h:∀ i v,look S' i=some v→look S i=some v) (hn:look S' d=none):∀ i v,look S' i=some v→look ((d,u)::S) i=some v:=fun i v hv=>by
 rw [mE];cases hb:Nat.beq i d with
 | true=>rw [Nat.eq_of_beq_eq_true hb,hn] at hv;cases hv
 | false=>simp only [cond_false,hb];exact h i v hv
theorem jP (hs:List Nat) (U:List (Nat × Array Value)) (x y:Nat) {A:Nat→Nat→Sl} {B:Nat→Nat→Mm} {S0:Sl} {L0:Mm} (hS:∀ i v,look (A x y++S0) i=some v→look S i=some v)
  (h:yZ P n w0 (tr 4000 hs p).1 S L [] (upd L U):=by intro _;kernel_rfl) (hL:upd L U=L0++B x y:=by kernel_rfl) (hq:(tr 4000 hs p).2= .nx .normal []:=by kernel_rfl):G P n (Zl A B w0 S0 L0) w0 [] p S L:=by
 refine O7 hs [] _ h ?_;rw [hq,hL];exact ⟨fun w N H hM _=>⟨rfl,x,y,fun i v hv=>h.sub i v (hS i v hv),hM⟩⟩
end
end Go.Fx
namespace Go.Proofs.verdigrislaw27
open Go Go.RowKit Go.SW Go.Num Go.Mem Go.Proofs Go.Dec Go.gW Go.Fx Go.Proofs.iR
theorem Nj (w:World) (ht:gJ.Pow w) (he:whole.Er w):Calls Tryz.prog 6 #[] w (fun e w'=>e= ah (ay true)∧Below w.heap.size w w'):=by
 have HP:=zh ht;have HE:=zh he;obtain ⟨⟨fA,fu⟩,zw⟩:∃ y,Hid (Fr.of (q2 1 1)=y):=⟨_,zh rfl⟩;have C0:=zh (fun W h=>nX zw.out (by decide+kernel) W h);obtain ⟨⟨zK,zJ⟩,VD⟩:∃ y,Hid (Fr.of (q2 0 1)=y):=⟨_,zh rfl⟩;have C1:=zh (fun W h=>nX VD.out (by decide+kernel) W h);obtain ⟨⟨⟨gy,gu⟩,⟨gq,fZ⟩,⟨fV,fU⟩⟩,Cb⟩:∃ y,Hid (tq 50 3 4 1=y):=⟨_,zh rfl⟩;have C2:=zh (fun W h=>lJ Cb.out (by decide+kernel) W h);have C3:=zh (fun W ht he=>differ.dO (kind:=0) (x:=0) (y:=0) (k:=2) (show differ.oh 0 ⟨⟨⟨#[]⟩,⟨#[]⟩⟩,⟨⟨#[]⟩,⟨#[]⟩⟩,⟨⟨#[]⟩,⟨#[]⟩⟩⟩ ⟨⟨⟨#[]⟩,⟨#[]⟩⟩,⟨⟨#[]⟩,⟨#[]⟩⟩,⟨⟨#[]⟩,⟨#[]⟩⟩⟩ ⟨⟨#[]⟩,⟨#[]⟩⟩ ⟨⟨#[]⟩,⟨#[]⟩⟩=((0,0),2) by decide+kernel) W ht he)
 have C4:=zh (fun W ht he=>differ.dO (kind:=1) (x:=0) (y:=0) (k:=20) (show differ.oh 1 ⟨⟨gy,gu⟩,⟨gq,fZ⟩,⟨fV,fU⟩⟩ ⟨⟨gy,gu⟩,⟨gq,fZ⟩,⟨fV,fU⟩⟩ ⟨⟨#[]⟩,⟨#[]⟩⟩ ⟨zK,zJ⟩=((0,0),20) by rw [← Cb.out,← VD.out];decide+kernel) W ht he);have C5:=zh (fun W ht he=>differ.dO (kind:=1) (x:=0) (y:=0) (k:=20) (show differ.oh 1 ⟨⟨⟨#[]⟩,⟨#[]⟩⟩,⟨⟨#[]⟩,⟨#[]⟩⟩,⟨⟨#[]⟩,⟨#[]⟩⟩⟩ ⟨⟨gy,gu⟩,⟨gq,fZ⟩,⟨fV,fU⟩⟩ ⟨zK,zJ⟩ ⟨zK,zJ⟩=((0,0),20) by rw [← Cb.out,← VD.out];decide+kernel) W ht he);obtain ⟨⟨NM,NK⟩,VB⟩:∃ y,Hid (Fr.of (q2 (-1) 2)=y):=⟨_,zh rfl⟩;have C6:=zh (fun W h=>nX VB.out (by decide+kernel) W h)
 have C7:=zh (fun W ht he=>differ.dO (kind:=1) (x:=0) (y:=0) (k:=2) (show differ.oh 1 ⟨⟨gy,gu⟩,⟨gq,fZ⟩,⟨fV,fU⟩⟩ ⟨⟨gy,gu⟩,⟨gq,fZ⟩,⟨fV,fU⟩⟩ ⟨fA,fu⟩ ⟨NM,NK⟩=((0,0),2) by rw [← Cb.out,← zw.out,← VB.out];decide+kernel) W ht he);obtain ⟨⟨⟨oJ,oI⟩,⟨oH,oG⟩,⟨oF,oD⟩⟩,KV⟩:∃ y,Hid (tq 2000000 0 0 1=y):=⟨_,zh rfl⟩;have C8:=zh (fun W h=>lJ KV.out (by decide+kernel) W h);have C9:=zh (fun W ht he=>differ.dO (kind:=1) (x:=0) (y:=0) (k:=6) (show differ.oh 1 ⟨⟨oJ,oI⟩,⟨oH,oG⟩,⟨oF,oD⟩⟩ ⟨⟨gy,gu⟩,⟨gq,fZ⟩,⟨fV,fU⟩⟩ ⟨fA,fu⟩ ⟨fA,fu⟩=((0,0),6) by rw [← KV.out,← Cb.out,← zw.out];decide+kernel) W ht he);obtain ⟨⟨⟨BL,BK⟩,⟨BJ,BI⟩,⟨BH,BG⟩⟩,VA⟩:∃ y,Hid (tq 50 400 0 1=y):=⟨_,zh rfl⟩;have C10:=zh (fun W h=>lJ VA.out (by decide+kernel) W h)
 have C11:=zh (fun W ht he=>differ.dO (kind:=3) (x:=0) (y:=0) (k:=6) (show differ.oh 3 ⟨⟨BL,BK⟩,⟨BJ,BI⟩,⟨BH,BG⟩⟩ ⟨⟨gy,gu⟩,⟨gq,fZ⟩,⟨fV,fU⟩⟩ ⟨fA,fu⟩ ⟨fA,fu⟩=((0,0),6) by rw [← VA.out,← Cb.out,← zw.out];decide+kernel) W ht he);have C12:=zh (fun W ht he=>differ.iZ (kind:=9) (v:=0) (k:=2) (show differ.vU 9 ⟨⟨gy,gu⟩,⟨gq,fZ⟩,⟨fV,fU⟩⟩ ⟨⟨gy,gu⟩,⟨gq,fZ⟩,⟨fV,fU⟩⟩ ⟨fA,fu⟩ ⟨fA,fu⟩ ⟨⟨#[]⟩,⟨#[]⟩⟩=(0,2) by rw [← Cb.out,← zw.out];decide+kernel) W ht he);have C13:=zh (fun W ht he=>differ.iZ (kind:=1) (v:=0) (k:=20) (show differ.vU 1 ⟨⟨gy,gu⟩,⟨gq,fZ⟩,⟨fV,fU⟩⟩ ⟨⟨gy,gu⟩,⟨gq,fZ⟩,⟨fV,fU⟩⟩ ⟨fA,fu⟩ ⟨fA,fu⟩ ⟨⟨#[]⟩,⟨#[]⟩⟩=(0,20) by rw [← Cb.out,← zw.out];decide+kernel) W ht he)
 have C14:=zh (fun W ht he=>differ.iZ (kind:=1) (v:=0) (k:=2) (show differ.vU 1 ⟨⟨gy,gu⟩,⟨gq,fZ⟩,⟨fV,fU⟩⟩ ⟨⟨gy,gu⟩,⟨gq,fZ⟩,⟨fV,fU⟩⟩ ⟨fA,fu⟩ ⟨fA,fu⟩ ⟨NM,NK⟩=(0,2) by rw [← Cb.out,← zw.out,← VB.out];decide+kernel) W ht he);have C15:=zh (fun W ht he=>differ.iZ (kind:=1) (v:=0) (k:=2) (show differ.vU 1 ⟨⟨oJ,oI⟩,⟨oH,oG⟩,⟨oF,oD⟩⟩ ⟨⟨gy,gu⟩,⟨gq,fZ⟩,⟨fV,fU⟩⟩ ⟨fA,fu⟩ ⟨fA,fu⟩ ⟨NM,NK⟩=(0,2) by rw [← KV.out,← Cb.out,← zw.out,← VB.out];decide+kernel) W ht he);have C16:=zh (fun W ht he=>differ.iZ (kind:=1) (v:=1) (k:=0) (show differ.vU 1 ⟨⟨gy,gu⟩,⟨gq,fZ⟩,⟨fV,fU⟩⟩ ⟨⟨gy,gu⟩,⟨gq,fZ⟩,⟨fV,fU⟩⟩ ⟨fA,fu⟩ ⟨fA,fu⟩ ⟨zK,zJ⟩=(1,0) by rw [← Cb.out,← zw.out,← VD.out];decide+kernel) W ht he)
 obtain ⟨⟨⟨Ve,Vd⟩,⟨Vb,Va⟩,⟨U9,U8⟩⟩,Zk⟩:∃ y,Hid (tq 50 0 30 1=y):=⟨_,zh rfl⟩;have C17:=zh (fun W h=>lJ Zk.out (by decide+kernel) W h);obtain ⟨⟨⟨U7,U6⟩,⟨U5,U4⟩,⟨U3,U2⟩⟩,Zj⟩:∃ y,Hid (tq 50 1 30 1=y):=⟨_,zh rfl⟩;have C18:=zh (fun W h=>lJ Zj.out (by decide+kernel) W h);have C19:=zh (fun W ht he=>differ.dO (kind:=3) (x:=842448260589) (y:=842448260596) (k:=0) (show differ.oh 3 ⟨⟨Ve,Vd⟩,⟨Vb,Va⟩,⟨U9,U8⟩⟩ ⟨⟨U7,U6⟩,⟨U5,U4⟩,⟨U3,U2⟩⟩ ⟨fA,fu⟩ ⟨fA,fu⟩=((842448260589,842448260596),0) by rw [← Zk.out,← Zj.out,← zw.out];decide+kernel) W ht he);obtain ⟨⟨⟨ah2,ah1⟩,⟨ah0,ag9⟩,⟨ag8,ag7⟩⟩,ET5⟩:∃ y,Hid (tq 50 0 (-30) 1=y):=⟨_,zh rfl⟩;have C20:=zh (fun W h=>lJ ET5.out (by decide+kernel) W h);obtain ⟨⟨⟨wE,wD⟩,⟨wC,wB⟩,⟨qH,qG⟩⟩,ET6⟩:∃ y,Hid (tq 50 1 (-30) 1=y):=⟨_,zh rfl⟩
 have C21:=zh (fun W h=>lJ ET6.out (by decide+kernel) W h);have C22:=zh (fun W ht he=>differ.dO (kind:=3) (x:=825465835944) (y:=825465835952) (k:=0) (show differ.oh 3 ⟨⟨ah2,ah1⟩,⟨ah0,ag9⟩,⟨ag8,ag7⟩⟩ ⟨⟨wE,wD⟩,⟨wC,wB⟩,⟨qH,qG⟩⟩ ⟨fA,fu⟩ ⟨fA,fu⟩=((825465835944,825465835952),0) by rw [← ET5.out,← ET6.out,← zw.out];decide+kernel) W ht he);clear ht he;refine Fx.door Tryz.func6 rfl (.nil w []) ?_;refine Fx.call [] 21 [] [] (fun W M=>wV _ (HP.out.later M.below) (HE.out.later M.below)) ?_;refine Fx.call [2] 23 [] [] (fun W M=>C0.out _ (HP.out.later M.below)) ?_;refine Fx.call [] 24 [] [] (fun W M=>C1.out _ (HP.out.later M.below)) ?_;refine Fx.bq [] 1 29 [(25,au #[O ⟨#[]⟩,O ⟨#[]⟩])] [] fun gV=>?_;refine Fx.bq [] 2 29 [] [] fun iD=>?_;refine Fx.bq [] 3 29 [] [] fun iL=>?_
 refine Fx.ae9 6 [3,4,5] [] [(0,#[O fA,O fu]),(1,#[O zK,O zJ]),(2,#[O ⟨#[]⟩,O ⟨#[]⟩])] (fun x y=>[(5,aA (some ⟨y,0,none⟩)),(4,aA (some ⟨x,0,none⟩)),(26,au #[O gy,O gu,O gq,O fZ,O fV,O fU])]) (fun x y=>[⟨x,#[O gy,O gu,O gq,O fZ,O fV,O fU],32,true⟩,⟨y,#[O ⟨#[]⟩,O ⟨#[]⟩,O ⟨#[]⟩,O ⟨#[]⟩,O ⟨#[]⟩,O ⟨#[]⟩],32,true⟩]) rfl ?_ ?_
 ·skip
  refine Fx.rM 7 1 zd ?_ ?_
  ·skip
   refine Fx.rM 7 2 zd ?_ ?_
   ·skip
    refine Fx.rM 7 3 zd ?_ ?_
    ·skip
     refine Fx.rM 2 1 zd ?_ ?_
     ·skip
      refine Fx.rM 3 2 zd ?_ ?_
      ·skip
       refine Fx.lS [0,5,6,7,5003,5002,5001,5004,8] ?_;refine Fx.call [] 26 [] [] (fun W M=>C2.out _ (HP.out.later M.below)) ?_;refine Fx.cK [] 4 32 [] [] fun vo=>?_;refine Fx.cK [] 5 32 [] [] fun rz=>?_;exact Fx.jP [6,5,5,5,7] [(3,#[O gy,O gu,O gq,O fZ,O fV,O fU]),(4,#[O ⟨#[]⟩,O ⟨#[]⟩,O ⟨#[]⟩,O ⟨#[]⟩,O ⟨#[]⟩,O ⟨#[]⟩])] vo rz (by repeat first|exact Fx.lT.refl _|refine Fx.lT.cons ?_|refine Fx.lT.skip ?_ zk)
      ·skip
       refine Fx.rM 3 1 zd ?_ ?_
       ·skip
        refine Fx.lS [0,5,6,7,5002,5003,5001,5004,8] ?_;refine Fx.call [] 26 [] [] (fun W M=>C2.out _ (HP.out.later M.below)) ?_;refine Fx.cK [] 4 32 [] [] fun Ja=>?_;refine Fx.cK [] 5 32 [] [] fun Aq=>?_;exact Fx.jP [6,5,5,5,7] [(3,#[O gy,O gu,O gq,O fZ,O fV,O fU]),(4,#[O ⟨#[]⟩,O ⟨#[]⟩,O ⟨#[]⟩,O ⟨#[]⟩,O ⟨#[]⟩,O ⟨#[]⟩])] Ja Aq (by repeat first|exact Fx.lT.refl _|refine Fx.lT.cons ?_|refine Fx.lT.skip ?_ zk)
       ·skip
        refine Fx.lS [0,5,6,7,5002,5001,5003,5004,8] ?_;refine Fx.call [] 26 [] [] (fun W M=>C2.out _ (HP.out.later M.below)) ?_;refine Fx.cK [] 4 32 [] [] fun Le=>?_;refine Fx.cK [] 5 32 [] [] fun YI=>?_;exact Fx.jP [6,5,5,5,7] [(3,#[O gy,O gu,O gq,O fZ,O fV,O fU]),(4,#[O ⟨#[]⟩,O ⟨#[]⟩,O ⟨#[]⟩,O ⟨#[]⟩,O ⟨#[]⟩,O ⟨#[]⟩])] Le YI (by repeat first|exact Fx.lT.refl _|refine Fx.lT.cons ?_|refine Fx.lT.skip ?_ zk)
     ·skip
      refine Fx.rM 3 1 zd ?_ ?_
      ·skip
       refine Fx.lS [0,5,6,7,5003,5001,5002,5004,8] ?_;refine Fx.call [] 26 [] [] (fun W M=>C2.out _ (HP.out.later M.below)) ?_;refine Fx.cK [] 4 32 [] [] fun Ov=>?_;refine Fx.cK [] 5 32 [] [] fun Kk=>?_;exact Fx.jP [6,5,5,5,7] [(3,#[O gy,O gu,O gq,O fZ,O fV,O fU]),(4,#[O ⟨#[]⟩,O ⟨#[]⟩,O ⟨#[]⟩,O ⟨#[]⟩,O ⟨#[]⟩,O ⟨#[]⟩])] Ov Kk (by repeat first|exact Fx.lT.refl _|refine Fx.lT.cons ?_|refine Fx.lT.skip ?_ zk)
      ·skip
       refine Fx.rM 3 2 zd ?_ ?_
       ·skip
        refine Fx.lS [0,5,6,7,5001,5003,5002,5004,8] ?_;refine Fx.call [] 26 [] [] (fun W M=>C2.out _ (HP.out.later M.below)) ?_;refine Fx.cK [] 4 32 [] [] fun Kj=>?_;refine Fx.cK [] 5 32 [] [] fun Gy=>?_;exact Fx.jP [6,5,5,5,7] [(3,#[O gy,O gu,O gq,O fZ,O fV,O fU]),(4,#[O ⟨#[]⟩,O ⟨#[]⟩,O ⟨#[]⟩,O ⟨#[]⟩,O ⟨#[]⟩,O ⟨#[]⟩])] Kj Gy (by repeat first|exact Fx.lT.refl _|refine Fx.lT.cons ?_|refine Fx.lT.skip ?_ zk)
       ·skip
        refine Fx.lS [0,5,6,7,5001,5002,5003,5004,8] ?_;refine Fx.call [] 26 [] [] (fun W M=>C2.out _ (HP.out.later M.below)) ?_;refine Fx.cK [] 4 32 [] [] fun UM=>?_;refine Fx.cK [] 5 32 [] [] fun EF=>?_;exact Fx.jP [6,5,5,5,7] [(3,#[O gy,O gu,O gq,O fZ,O fV,O fU]),(4,#[O ⟨#[]⟩,O ⟨#[]⟩,O ⟨#[]⟩,O ⟨#[]⟩,O ⟨#[]⟩,O ⟨#[]⟩])] UM EF (by repeat first|exact Fx.lT.refl _|refine Fx.lT.cons ?_|refine Fx.lT.skip ?_ zk)
    ·skip
     refine Fx.rM 2 1 zd ?_ ?_
     ·skip
      refine Fx.lS [3,0,5,6,7,5002,5001,5004,8] ?_;refine Fx.call [5] 26 [(29,au #[O ⟨#[]⟩,O ⟨#[]⟩])] [] (fun W M=>C2.out _ (HP.out.later M.below)) ?_;refine Fx.cK [] 4 32 [] [] fun UL=>?_;refine Fx.cK [] 5 32 [] [] fun ag5=>?_;exact Fx.jP [6,5,5,7] [(3,#[O gy,O gu,O gq,O fZ,O fV,O fU]),(4,#[O ⟨#[]⟩,O ⟨#[]⟩,O ⟨#[]⟩,O ⟨#[]⟩,O ⟨#[]⟩,O ⟨#[]⟩])] UL ag5 (by repeat first|exact Fx.lT.refl _|refine Fx.lT.cons ?_|refine Fx.lT.skip ?_ zk)
     ·skip
      refine Fx.lS [3,0,5,6,7,5001,5002,5004,8] ?_;refine Fx.call [5] 26 [(29,au #[O ⟨#[]⟩,O ⟨#[]⟩])] [] (fun W M=>C2.out _ (HP.out.later M.below)) ?_;refine Fx.cK [] 4 32 [] [] fun YN=>?_;refine Fx.cK [] 5 32 [] [] fun Ou=>?_;exact Fx.jP [6,5,5,7] [(3,#[O gy,O gu,O gq,O fZ,O fV,O fU]),(4,#[O ⟨#[]⟩,O ⟨#[]⟩,O ⟨#[]⟩,O ⟨#[]⟩,O ⟨#[]⟩,O ⟨#[]⟩])] YN Ou (by repeat first|exact Fx.lT.refl _|refine Fx.lT.cons ?_|refine Fx.lT.skip ?_ zk)
   ·skip
    refine Fx.rM 7 3 zd ?_ ?_
    ·skip
     refine Fx.rM 3 1 zd ?_ ?_
     ·skip
      refine Fx.lS [2,0,5,6,7,5003,5001,5004,8] ?_;refine Fx.call [5] 26 [(28,au #[O ⟨#[]⟩,O ⟨#[]⟩])] [] (fun W M=>C2.out _ (HP.out.later M.below)) ?_;refine Fx.cK [] 4 32 [] [] fun YM=>?_;refine Fx.cK [] 5 32 [] [] fun Q7=>?_;exact Fx.jP [6,5,5,7] [(3,#[O gy,O gu,O gq,O fZ,O fV,O fU]),(4,#[O ⟨#[]⟩,O ⟨#[]⟩,O ⟨#[]⟩,O ⟨#[]⟩,O ⟨#[]⟩,O ⟨#[]⟩])] YM Q7 (by repeat first|exact Fx.lT.refl _|refine Fx.lT.cons ?_|refine Fx.lT.skip ?_ zk)
     ·skip
      refine Fx.lS [2,0,5,6,7,5001,5003,5004,8] ?_;refine Fx.call [5] 26 [(28,au #[O ⟨#[]⟩,O ⟨#[]⟩])] [] (fun W M=>C2.out _ (HP.out.later M.below)) ?_;refine Fx.cK [] 4 32 [] [] fun Ot=>?_;refine Fx.cK [] 5 32 [] [] fun ag4=>?_;exact Fx.jP [6,5,5,7] [(3,#[O gy,O gu,O gq,O fZ,O fV,O fU]),(4,#[O ⟨#[]⟩,O ⟨#[]⟩,O ⟨#[]⟩,O ⟨#[]⟩,O ⟨#[]⟩,O ⟨#[]⟩])] Ot ag4 (by repeat first|exact Fx.lT.refl _|refine Fx.lT.cons ?_|refine Fx.lT.skip ?_ zk)
    ·skip
     refine Fx.lS [2,3,0,5,6,7,5001,5004,8] ?_;refine Fx.call [5,5] 26 [(28,au #[O ⟨#[]⟩,O ⟨#[]⟩]),(29,au #[O ⟨#[]⟩,O ⟨#[]⟩])] [] (fun W M=>C2.out _ (HP.out.later M.below)) ?_;refine Fx.cK [] 4 32 [] [] fun YL=>?_;refine Fx.cK [] 5 32 [] [] fun Q6=>?_;exact Fx.jP [6,5,7] [(3,#[O gy,O gu,O gq,O fZ,O fV,O fU]),(4,#[O ⟨#[]⟩,O ⟨#[]⟩,O ⟨#[]⟩,O ⟨#[]⟩,O ⟨#[]⟩,O ⟨#[]⟩])] YL Q6 (by repeat first|exact Fx.lT.refl _|refine Fx.lT.cons ?_|refine Fx.lT.skip ?_ zk)
  ·skip
   refine Fx.rM 7 2 zd ?_ ?_
   ·skip
    refine Fx.rM 7 3 zd ?_ ?_
    ·skip
     refine Fx.rM 3 2 zd ?_ ?_
     ·skip
      refine Fx.lS [1,0,5,6,7,5003,5002,5004,8] ?_;refine Fx.call [5] 26 [(27,au #[O ⟨#[]⟩,O ⟨#[]⟩])] [] (fun W M=>C2.out _ (HP.out.later M.below)) ?_;refine Fx.cK [] 4 32 [] [] fun YK=>?_;refine Fx.cK [] 5 32 [] [] fun Oq=>?_;exact Fx.jP [6,5,5,7] [(3,#[O gy,O gu,O gq,O fZ,O fV,O fU]),(4,#[O ⟨#[]⟩,O ⟨#[]⟩,O ⟨#[]⟩,O ⟨#[]⟩,O ⟨#[]⟩,O ⟨#[]⟩])] YK Oq (by repeat first|exact Fx.lT.refl _|refine Fx.lT.cons ?_|refine Fx.lT.skip ?_ zk)
     ·skip
      refine Fx.lS [1,0,5,6,7,5002,5003,5004,8] ?_;refine Fx.call [5] 26 [(27,au #[O ⟨#[]⟩,O ⟨#[]⟩])] [] (fun W M=>C2.out _ (HP.out.later M.below)) ?_;refine Fx.cK [] 4 32 [] [] fun ag3=>?_;refine Fx.cK [] 5 32 [] [] fun UK=>?_;exact Fx.jP [6,5,5,7] [(3,#[O gy,O gu,O gq,O fZ,O fV,O fU]),(4,#[O ⟨#[]⟩,O ⟨#[]⟩,O ⟨#[]⟩,O ⟨#[]⟩,O ⟨#[]⟩,O ⟨#[]⟩])] ag3 UK (by repeat first|exact Fx.lT.refl _|refine Fx.lT.cons ?_|refine Fx.lT.skip ?_ zk)
    ·skip
     refine Fx.lS [1,3,0,5,6,7,5002,5004,8] ?_;refine Fx.call [5,5] 26 [(27,au #[O ⟨#[]⟩,O ⟨#[]⟩]),(29,au #[O ⟨#[]⟩,O ⟨#[]⟩])] [] (fun W M=>C2.out _ (HP.out.later M.below)) ?_;refine Fx.cK [] 4 32 [] [] fun ag2=>?_;refine Fx.cK [] 5 32 [] [] fun YJ=>?_;exact Fx.jP [6,5,7] [(3,#[O gy,O gu,O gq,O fZ,O fV,O fU]),(4,#[O ⟨#[]⟩,O ⟨#[]⟩,O ⟨#[]⟩,O ⟨#[]⟩,O ⟨#[]⟩,O ⟨#[]⟩])] ag2 YJ (by repeat first|exact Fx.lT.refl _|refine Fx.lT.cons ?_|refine Fx.lT.skip ?_ zk)
   ·skip
    refine Fx.rM 7 3 zd ?_ ?_
    ·skip
     refine Fx.lS [1,2,0,5,6,7,5003,5004,8] ?_;refine Fx.call [5,5] 26 [(27,au #[O ⟨#[]⟩,O ⟨#[]⟩]),(28,au #[O ⟨#[]⟩,O ⟨#[]⟩])] [] (fun W M=>C2.out _ (HP.out.later M.below)) ?_;refine Fx.cK [] 4 32 [] [] fun Q0=>?_;refine Fx.cK [] 5 32 [] [] fun ag1=>?_;exact Fx.jP [6,5,7] [(3,#[O gy,O gu,O gq,O fZ,O fV,O fU]),(4,#[O ⟨#[]⟩,O ⟨#[]⟩,O ⟨#[]⟩,O ⟨#[]⟩,O ⟨#[]⟩,O ⟨#[]⟩])] Q0 ag1 (by repeat first|exact Fx.lT.refl _|refine Fx.lT.cons ?_|refine Fx.lT.skip ?_ zk)
    ·skip
     refine Fx.lS [1,2,3,4,0,5,6,7,8] ?_;refine Fx.call [5,5,5] 26 [(30,au #[O ⟨#[]⟩,O ⟨#[]⟩,O ⟨#[]⟩,O ⟨#[]⟩,O ⟨#[]⟩,O ⟨#[]⟩])] [] (fun W M=>C2.out _ (HP.out.later M.below)) ?_;refine Fx.cK [] 4 32 [] [] fun ag0=>?_;refine Fx.cK [] 5 32 [] [] fun QZ=>?_;exact Fx.jP [6,7] [(3,#[O gy,O gu,O gq,O fZ,O fV,O fU]),(4,#[O ⟨#[]⟩,O ⟨#[]⟩,O ⟨#[]⟩,O ⟨#[]⟩,O ⟨#[]⟩,O ⟨#[]⟩])] ag0 QZ (by repeat first|exact Fx.lT.refl _|refine Fx.lT.cons ?_|refine Fx.lT.skip ?_ zk)
 ·intro Ki av3;refine Fx.draw [] [1,2,3,4,0,5,6,7,8,9,11,12,13,14,10,15,16,17,18,19,20,22,23,24,25,21,26,27,28,29,30,31,33,34,35,32,36,37,38,39,40,41,5042] [] [] [] ?_;refine Fx.ow [7,7,5,5] 31 [(32,au #[O ⟨#[]⟩,O ⟨#[]⟩,O ⟨#[]⟩,O ⟨#[]⟩,O ⟨#[]⟩,O ⟨#[]⟩]),(33,au #[O ⟨#[]⟩,O ⟨#[]⟩,O ⟨#[]⟩,O ⟨#[]⟩,O ⟨#[]⟩,O ⟨#[]⟩]),(34,au #[O ⟨#[]⟩,O ⟨#[]⟩]),(35,au #[O ⟨#[]⟩,O ⟨#[]⟩])] [] (fun W M=>nK 2 _) ?_;rintro W am7 e M ⟨b1,rfl,B38,X1⟩;refine ⟨B38,fun M38=>?_⟩;have M:=M38;have Vq:=M.below;refine Fx.call [] 36 [] [] (fun W M=>C3.out _ (HP.out.later (Bt Vq M.below)) (HE.out.later (Bt Vq M.below))) ?_;refine Fx.call [] 39 [] [] (fun W M=>j4 _ (X1.later M.below)) ?_
  refine Fx.ow [6,6,5,4] 41 [(40,ay true),(42,au #[O gy,O gu,O gq,O fZ,O fV,O fU]),(43,au #[O gy,O gu,O gq,O fZ,O fV,O fU]),(44,au #[O ⟨#[]⟩,O ⟨#[]⟩]),(45,au #[O zK,O zJ])] [] (fun W M=>nK 20 _) ?_;rintro W am6 e M ⟨b2,rfl,B39,X2⟩;refine ⟨B39,fun M39=>?_⟩;have M:=M39;replace X1:=X1.later M.below;have Vp:=(Bt Vq M.below);refine Fx.call [] 46 [] [] (fun W M=>C4.out _ (HP.out.later (Bt Vp M.below)) (HE.out.later (Bt Vp M.below))) ?_;refine Fx.call [] 49 [] [] (fun W M=>j4 _ (X2.later M.below)) ?_
  refine Fx.ow [7,6,4,4] 52 [(51,ay true),(53,au #[O ⟨#[]⟩,O ⟨#[]⟩,O ⟨#[]⟩,O ⟨#[]⟩,O ⟨#[]⟩,O ⟨#[]⟩]),(54,au #[O gy,O gu,O gq,O fZ,O fV,O fU]),(55,au #[O zK,O zJ]),(56,au #[O zK,O zJ])] [] (fun W M=>nK 20 _) ?_;rintro W am5 e M ⟨b3,rfl,B40,X3⟩;refine ⟨B40,fun M40=>?_⟩;have M:=M40;replace X1:=X1.later M.below;replace X2:=X2.later M.below;have Vo:=(Bt Vp M.below);refine Fx.call [] 57 [] [] (fun W M=>C5.out _ (HP.out.later (Bt Vo M.below)) (HE.out.later (Bt Vo M.below))) ?_;refine Fx.call [] 60 [] [] (fun W M=>j4 _ (X3.later M.below)) ?_
  refine Fx.ow [6,6,3] 63 [(62,ay true),(64,au #[O gy,O gu,O gq,O fZ,O fV,O fU]),(65,au #[O gy,O gu,O gq,O fZ,O fV,O fU]),(66,au #[O fA,O fu])] [] (fun W M=>nK 2 _) ?_;rintro W am4 e M ⟨b4,rfl,B41,X4⟩;refine ⟨B41,fun M41=>?_⟩;have M:=M41;replace X1:=X1.later M.below;replace X2:=X2.later M.below;replace X3:=X3.later M.below;have Rw:=(Bt Vo M.below);refine Fx.call [] 67 [] [] (fun W M=>C6.out _ (HP.out.later (Bt Rw M.below))) ?_;refine Fx.call [] 68 [] [] (fun W M=>C7.out _ (HP.out.later (Bt Rw M.below)) (HE.out.later (Bt Rw M.below))) ?_;refine Fx.call [] 71 [] [] (fun W M=>j4 _ (X4.later M.below)) ?_;refine Fx.draw [] [0,1,4,5,6,2,3,7,8,9,10,11,12,15,16,17,13,14,18,19,20,21,22,5023] [] [(6,ay true)] [] ?_
  refine Fx.ow [6,3,3] 75 [(74,ay true),(77,au #[O gy,O gu,O gq,O fZ,O fV,O fU]),(78,au #[O fA,O fu]),(79,au #[O fA,O fu])] [] (fun W M=>nK 6 _) ?_;rintro W am3 e M ⟨b5,rfl,B42,X5⟩;refine ⟨B42,fun M42=>?_⟩;have M:=M42;replace X1:=X1.later M.below;replace X2:=X2.later M.below;replace X3:=X3.later M.below;replace X4:=X4.later M.below;have Rv:=(Bt Rw M.below);refine Fx.call [] 76 [] [] (fun W M=>C8.out _ (HP.out.later (Bt Rv M.below))) ?_;refine Fx.call [] 80 [] [] (fun W M=>C9.out _ (HP.out.later (Bt Rv M.below)) (HE.out.later (Bt Rv M.below))) ?_;refine Fx.call [] 83 [] [] (fun W M=>j4 _ (X5.later M.below)) ?_
  refine Fx.ow [6,3,3] 86 [(85,ay true),(88,au #[O gy,O gu,O gq,O fZ,O fV,O fU]),(89,au #[O fA,O fu]),(90,au #[O fA,O fu])] [] (fun W M=>nK 6 _) ?_;rintro W am2 e M ⟨b6,rfl,B43,X6⟩;refine ⟨B43,fun M43=>?_⟩;have M:=M43;replace X1:=X1.later M.below;replace X2:=X2.later M.below;replace X3:=X3.later M.below;replace X4:=X4.later M.below;replace X5:=X5.later M.below;have lM:=(Bt Rv M.below);refine Fx.call [] 87 [] [] (fun W M=>C10.out _ (HP.out.later (Bt lM M.below))) ?_;refine Fx.call [] 91 [] [] (fun W M=>C11.out _ (HP.out.later (Bt lM M.below)) (HE.out.later (Bt lM M.below))) ?_;refine Fx.call [] 94 [] [] (fun W M=>j4 _ (X6.later M.below)) ?_
  refine Fx.call [6,6,3,3,5] 102 [(6,ay true)] [] (fun W M=>C12.out _ (HP.out.later (Bt lM M.below)) (HE.out.later (Bt lM M.below))) ?_;refine Fx.call [6,6,3,3,5] 111 [(8,Z I 2)] [] (fun W M=>C13.out _ (HP.out.later (Bt lM M.below)) (HE.out.later (Bt lM M.below))) ?_;refine Fx.draw [] [0,1,2,3,4,5,6,7,8,5009,5010] [] [(10,Z I 20)] [] ?_;refine Fx.call [6,6,3,3] 119 [(115,au #[O gy,O gu,O gq,O fZ,O fV,O fU]),(116,au #[O gy,O gu,O gq,O fZ,O fV,O fU]),(117,au #[O fA,O fu]),(118,au #[O fA,O fu])] [] (fun W M=>C6.out _ (HP.out.later (Bt lM M.below))) ?_;refine Fx.call [] 120 [] [] (fun W M=>C14.out _ (HP.out.later (Bt lM M.below)) (HE.out.later (Bt lM M.below))) ?_
  refine Fx.draw [] [1,2,3,0,4,5,6,7,8,5009,5010] [] [(12,Z I 2)] [] ?_;refine Fx.call [6,3,3] 124 [(125,au #[O gy,O gu,O gq,O fZ,O fV,O fU]),(126,au #[O fA,O fu]),(127,au #[O fA,O fu])] [] (fun W M=>C8.out _ (HP.out.later (Bt lM M.below))) ?_;refine Fx.call [] 128 [] [] (fun W M=>C6.out _ (HP.out.later (Bt lM M.below))) ?_;refine Fx.call [] 129 [] [] (fun W M=>C15.out _ (HP.out.later (Bt lM M.below)) (HE.out.later (Bt lM M.below))) ?_;refine Fx.call [6,6,3,3,4] 138 [(14,Z I 2)] [] (fun W M=>C16.out _ (HP.out.later (Bt lM M.below)) (HE.out.later (Bt lM M.below))) ?_;refine Fx.draw [] [2,3,0,1,4,5,6,7,8,9,5010] [] [(15,Z I 1),(16,Z I 0)] [] ?_
  refine Fx.call [3,3] 142 [(144,au #[O fA,O fu]),(145,au #[O fA,O fu])] [] (fun W M=>C17.out _ (HP.out.later (Bt lM M.below))) ?_;refine Fx.call [] 143 [] [] (fun W M=>C18.out _ (HP.out.later (Bt lM M.below))) ?_;refine Fx.call [] 146 [] [] (fun W M=>C19.out _ (HP.out.later (Bt lM M.below)) (HE.out.later (Bt lM M.below))) ?_;refine Fx.cK [] 17 35 [(147,au #[Z I 842448260589,Z I 842448260596]),(148,Z I 0)] [] fun av1=>?_;refine Fx.draw [8] [2,3,0,1,4,5,6,7,8,9,5010] [] [(18,Z I 0)] [(5,#[Z I 842448260589,Z I 842448260596])] ?_;refine Fx.call [3,3] 150 [(152,au #[O fA,O fu]),(153,au #[O fA,O fu])] [] (fun W M=>C20.out _ (HP.out.later (Bt lM M.below))) ?_;refine Fx.call [] 151 [] [] (fun W M=>C21.out _ (HP.out.later (Bt lM M.below))) ?_
  refine Fx.call [] 154 [] [] (fun W M=>C22.out _ (HP.out.later (Bt lM M.below)) (HE.out.later (Bt lM M.below))) ?_;refine Fx.cK [] 19 35 [(155,au #[Z I 825465835944,Z I 825465835952]),(156,Z I 0)] [] fun av0=>?_;exact Fx.jU [9,9,8] [(6,#[Z I 825465835944,Z I 825465835952])] (fun W M=>⟨rfl,(Bt lM M.below)⟩)
end Go.Proofs.verdigrislaw27
