/- Lemmas for the proof. No condition. -/
import Derived.Test.YtbngfhgoeoncmaaGreatDoorTB40
import Derived.Test.YtbngfhgoeoncmaaGreatDoorTB41
set_option linter.unusedVariables false
set_option linter.unusedSimpArgs false
set_option maxRecDepth 100000
set_option maxHeartbeats 16000000
open Go.Ending renaming returned → ah
open Go.IntKind renaming i64 → I
open Go.Value renaming agg → aB, int → Z, pointer → au, string → O, tuple → aF
namespace Go.Proofs.view
open Go Go.RowKit Go.SW Go.Num Go.Mem Go.Proofs Go.d9 Go.Fx
theorem lF.later {w w':World} (h:lF w) (hb:Below w.heap.size w w'):lF w':=h.imp fun _ h=>aA.later h hb
theorem Jg {W:light.gJ} {la yb:Fr} {s:Int} {r:light.gJ} (h:jw W la yb s=(r,0)):∃ q,rd la=some q∧1≤q:=by
 unfold jw at h;obtain ⟨_, -, h⟩:=fU h;obtain ⟨_, -, h⟩:=fU h;obtain ⟨_, -, h⟩:=fU h;obtain ⟨_, -, h⟩:=fU h;have bad:∀ {r:light.gJ},Bp=(r,0)→False:=fun h=>absurd (show (280:Int)=0 from congrArg Prod.snd h) zd
 obtain ⟨_, -, h⟩:=fU h;split at h
 ·exact (bad h).elim
 obtain ⟨_, -, h⟩:=fU h;split at h
 ·exact (bad h).elim
 obtain ⟨_, -, h⟩:=fU h;split at h
 ·exact (bad h).elim
 obtain ⟨lo,h1,h⟩:=fU h;obtain ⟨hi,h2,h⟩:=fU h;obtain ⟨b,h3,h⟩:=fU h;split at h
 ·exact (bad h).elim
 ·rename_i hb;exact XT h1 h3 (by simpa using hb)
theorem MR {a1 a2 a3 a4 a5 a6 l1 l2 y1 y2:ByteArray} {f1 f2 n1 n2 c1 c2 m1 m2 d1 d2 g1 g2 g3 g4 g5 g6:ByteArray} {nu de v1 v2 p1 p2 q1 q2:Int} {bv:Nat} {k:Int} (hx:bY (kM ⟨⟨a1,a2⟩,⟨a3,a4⟩,⟨a5,a6⟩⟩ ⟨l1,l2⟩ ⟨y1,y2⟩ 1) ((⟨f1,f2⟩,⟨n1,n2⟩,⟨c1,c2⟩,⟨m1,m2⟩,⟨d1,d2⟩),(nu,de),⟨⟨g1,g2⟩,⟨g3,g4⟩,⟨g5,g6⟩⟩,(v1,v2),(p1,p2),(q1,q2)) k) (w:World) (hv:aA w bv #[O a1,O a2,O a3,O a4,O a5,O a6,O l1,O l2,O y1,O y2,Z I 1] 42) (ht:iA.Pow w) (he:whole.Er w) (hc:adapt.fM w) (hs:lF w) :
  Calls Tryz.prog 32 #[au (some ⟨bv,0,none⟩)] w (Try w (aB #[O f1,O f2,O n1,O n2,O c1,O c2,O m1,O m2,O d1,O d2,Z I nu,Z I de,O g1,O g2,O g3,O g4,O g5,O g6,Z I v1,Z I v2,Z I p1,Z I p2,Z I q1,Z I q2]) k):=by
 unfold kM at hx;refine Fx.door Tryz.func32 rfl (.ro hv (.nil w [])) ?_;have HR:=hx;refine Fx.bH [] 1 45 [] [] fun iK=>?_;obtain ⟨⟨⟨sZ,sW⟩,⟨sV,sU⟩,⟨sS,sQ⟩⟩,k2,EX,HN⟩:=ak HR;refine Fx.bD dK [3] 3 [] [] (fun W M=>Ah (bY.of EX) _ (ht.later M.below) (hc.later M.below) (hs.later M.below)) HN fun h0 HR=>?_;subst h0;have hl:=Jg EX;obtain ⟨⟨⟨⟨G8,G7⟩,⟨GZ,GY⟩,⟨GX,GV⟩,⟨GU,GR⟩,⟨GQ,GN⟩⟩,⟨xA,xw⟩,⟨⟨xu,xq⟩,⟨xk,xg⟩,⟨wZ,wY⟩⟩,⟨wX,wW⟩,⟨wV,wU⟩,wT,wR⟩,k3,EX,HN⟩:=ak HR
 refine Fx.bD (args:=#[aB #[Z I 1000,Z I 1000,Z I 690,Z I 4,Z I 3,O a1,O a2,O a3,O a4,O a5,O a6,O l1,O l2,O y1,O y2,Z I 1,O sZ,O sW,O sV,O sU,O sS,O sQ]]) dK [] 4 [] [] (fun W M=>rP (bY.of EX) _ (ht.later M.below) (he.later M.below) (hc.later M.below) hl) HN fun h0 HR=>?_;subst h0;obtain ⟨hk,hv⟩:=HR;cases hk
 exact Fx.mU (cs:=#[O G8,O G7,O GZ,O GY,O GX,O GV,O GU,O GR,O GQ,O GN,Z I xA,Z I xw,O xu,O xq,O xk,O xg,O wZ,O wY,Z I wX,Z I wW,Z I wV,Z I wU,Z I wT,Z I wR]) 1 iK [4] [(1,#[O G8,O G7,O GZ,O GY,O GX,O GV,O GU,O GR,O GQ,O GN,Z I xA,Z I xw,O xu,O xq,O xk,O xg,O wZ,O wY,Z I wX,Z I wW,Z I wV,Z I wU,Z I wT,Z I wR])] (fun W M=>⟨M.below,.inl ⟨rfl,by cases hv rfl;rfl⟩⟩)
theorem Gn {a1 a2 a3 a4 a5 a6 l1 l2 y1 y2 r1 r2 r3 r4 r5 r6:ByteArray} {bv:Nat} {k:Int} (hx:bY (jw ⟨⟨a1,a2⟩,⟨a3,a4⟩,⟨a5,a6⟩⟩ ⟨l1,l2⟩ ⟨y1,y2⟩ 1) ⟨⟨r1,r2⟩,⟨r3,r4⟩,⟨r5,r6⟩⟩ k) (w:World) (hv:aA w bv #[O a1,O a2,O a3,O a4,O a5,O a6,O l1,O l2,O y1,O y2,Z I 1] 42) (ht:iA.Pow w) (hc:adapt.fM w) (hs:lF w) :
  Calls Tryz.prog 41 #[au (some ⟨bv,0,none⟩)] w (Try w (aB #[Z I 1000,Z I 1000,Z I 690,Z I 4,Z I 3,O a1,O a2,O a3,O a4,O a5,O a6,O l1,O l2,O y1,O y2,Z I 1,O r1,O r2,O r3,O r4,O r5,O r6]) k):=by
 refine Fx.door Tryz.func41 rfl (.ro hv (.nil w [])) ?_;have HR:=hx;refine Fx.bH [] 1 76 [] [] fun iK=>?_;obtain ⟨⟨⟨sZ,sW⟩,⟨sV,sU⟩,⟨sS,sQ⟩⟩,k2,EX,HN⟩:=lQ HR;refine Fx.bD dK [3] 3 [] [] (fun W M=>Ah (bY.of EX) _ (ht.later M.below) (hc.later M.below) (hs.later M.below)) HN fun h0 HR=>?_;subst h0;obtain ⟨hk,hv⟩:=HR;cases hk
 exact Fx.mU (cs:=#[Z I 1000,Z I 1000,Z I 690,Z I 4,Z I 3,O a1,O a2,O a3,O a4,O a5,O a6,O l1,O l2,O y1,O y2,Z I 1,O sZ,O sW,O sV,O sU,O sS,O sQ]) 1 iK [4] [(1,#[Z I 1000,Z I 1000,Z I 690,Z I 4,Z I 3,O a1,O a2,O a3,O a4,O a5,O a6,O l1,O l2,O y1,O y2,Z I 1,O sZ,O sW,O sV,O sU,O sS,O sQ])] (fun W M=>⟨M.below,.inl ⟨rfl,by cases hv rfl;rfl⟩⟩)
theorem MQ {a1 a2 a3 a4 a5 a6 l1 l2 y1 y2:ByteArray} {f1 f2 n1 n2 c1 c2 m1 m2 d1 d2 g1 g2 g3 g4 g5 g6:ByteArray} {nu de v1 v2 p1 p2 q1 q2:Int} {bv:Nat} {k:Int} (hx:bY (kM ⟨⟨a1,a2⟩,⟨a3,a4⟩,⟨a5,a6⟩⟩ ⟨l1,l2⟩ ⟨y1,y2⟩ 2) ((⟨f1,f2⟩,⟨n1,n2⟩,⟨c1,c2⟩,⟨m1,m2⟩,⟨d1,d2⟩),(nu,de),⟨⟨g1,g2⟩,⟨g3,g4⟩,⟨g5,g6⟩⟩,(v1,v2),(p1,p2),(q1,q2)) k) (w:World) (hv:aA w bv #[O a1,O a2,O a3,O a4,O a5,O a6,O l1,O l2,O y1,O y2,Z I 2] 42) (ht:iA.Pow w) (he:whole.Er w) (hc:adapt.fM w) (hs:lF w) :
  Calls Tryz.prog 32 #[au (some ⟨bv,0,none⟩)] w (Try w (aB #[O f1,O f2,O n1,O n2,O c1,O c2,O m1,O m2,O d1,O d2,Z I nu,Z I de,O g1,O g2,O g3,O g4,O g5,O g6,Z I v1,Z I v2,Z I p1,Z I p2,Z I q1,Z I q2]) k):=by
 unfold kM at hx;refine Fx.door Tryz.func32 rfl (.ro hv (.nil w [])) ?_;have HR:=hx;refine Fx.bH [] 1 45 [] [] fun iK=>?_;obtain ⟨⟨⟨sZ,sW⟩,⟨sV,sU⟩,⟨sS,sQ⟩⟩,k2,EX,HN⟩:=ak HR;refine Fx.bD dK [3] 3 [] [] (fun W M=>Ag (bY.of EX) _ (ht.later M.below) (hc.later M.below) (hs.later M.below)) HN fun h0 HR=>?_;subst h0;have hl:=Jg EX;obtain ⟨⟨⟨⟨G8,G7⟩,⟨GZ,GY⟩,⟨GX,GV⟩,⟨GU,GR⟩,⟨GQ,GN⟩⟩,⟨xA,xw⟩,⟨⟨xu,xq⟩,⟨xk,xg⟩,⟨wZ,wY⟩⟩,⟨wX,wW⟩,⟨wV,wU⟩,wT,wR⟩,k3,EX,HN⟩:=ak HR
 refine Fx.bD (args:=#[aB #[Z I 900,Z I 950,Z I 590,Z I 7,Z I 6,O a1,O a2,O a3,O a4,O a5,O a6,O l1,O l2,O y1,O y2,Z I 2,O sZ,O sW,O sV,O sU,O sS,O sQ]]) dK [] 4 [] [] (fun W M=>rP (bY.of EX) _ (ht.later M.below) (he.later M.below) (hc.later M.below) hl) HN fun h0 HR=>?_;subst h0;obtain ⟨hk,hv⟩:=HR;cases hk
 exact Fx.mU (cs:=#[O G8,O G7,O GZ,O GY,O GX,O GV,O GU,O GR,O GQ,O GN,Z I xA,Z I xw,O xu,O xq,O xk,O xg,O wZ,O wY,Z I wX,Z I wW,Z I wV,Z I wU,Z I wT,Z I wR]) 1 iK [4] [(1,#[O G8,O G7,O GZ,O GY,O GX,O GV,O GU,O GR,O GQ,O GN,Z I xA,Z I xw,O xu,O xq,O xk,O xg,O wZ,O wY,Z I wX,Z I wW,Z I wV,Z I wU,Z I wT,Z I wR])] (fun W M=>⟨M.below,.inl ⟨rfl,by cases hv rfl;rfl⟩⟩)
theorem Gm {a1 a2 a3 a4 a5 a6 l1 l2 y1 y2 r1 r2 r3 r4 r5 r6:ByteArray} {bv:Nat} {k:Int} (hx:bY (jw ⟨⟨a1,a2⟩,⟨a3,a4⟩,⟨a5,a6⟩⟩ ⟨l1,l2⟩ ⟨y1,y2⟩ 2) ⟨⟨r1,r2⟩,⟨r3,r4⟩,⟨r5,r6⟩⟩ k) (w:World) (hv:aA w bv #[O a1,O a2,O a3,O a4,O a5,O a6,O l1,O l2,O y1,O y2,Z I 2] 42) (ht:iA.Pow w) (hc:adapt.fM w) (hs:lF w) :
  Calls Tryz.prog 41 #[au (some ⟨bv,0,none⟩)] w (Try w (aB #[Z I 900,Z I 950,Z I 590,Z I 7,Z I 6,O a1,O a2,O a3,O a4,O a5,O a6,O l1,O l2,O y1,O y2,Z I 2,O r1,O r2,O r3,O r4,O r5,O r6]) k):=by
 refine Fx.door Tryz.func41 rfl (.ro hv (.nil w [])) ?_;have HR:=hx;refine Fx.bH [] 1 76 [] [] fun iK=>?_;obtain ⟨⟨⟨sZ,sW⟩,⟨sV,sU⟩,⟨sS,sQ⟩⟩,k2,EX,HN⟩:=lQ HR;refine Fx.bD dK [3] 3 [] [] (fun W M=>Ag (bY.of EX) _ (ht.later M.below) (hc.later M.below) (hs.later M.below)) HN fun h0 HR=>?_;subst h0;obtain ⟨hk,hv⟩:=HR;cases hk
 exact Fx.mU (cs:=#[Z I 900,Z I 950,Z I 590,Z I 7,Z I 6,O a1,O a2,O a3,O a4,O a5,O a6,O l1,O l2,O y1,O y2,Z I 2,O sZ,O sW,O sV,O sU,O sS,O sQ]) 1 iK [4] [(1,#[Z I 900,Z I 950,Z I 590,Z I 7,Z I 6,O a1,O a2,O a3,O a4,O a5,O a6,O l1,O l2,O y1,O y2,Z I 2,O sZ,O sW,O sV,O sU,O sS,O sQ])] (fun W M=>⟨M.below,.inl ⟨rfl,by cases hv rfl;rfl⟩⟩)
theorem MP {a1 a2 a3 a4 a5 a6 l1 l2 y1 y2:ByteArray} {f1 f2 n1 n2 c1 c2 m1 m2 d1 d2 g1 g2 g3 g4 g5 g6:ByteArray} {nu de v1 v2 p1 p2 q1 q2:Int} {bv:Nat} {k:Int} (hx:bY (kM ⟨⟨a1,a2⟩,⟨a3,a4⟩,⟨a5,a6⟩⟩ ⟨l1,l2⟩ ⟨y1,y2⟩ 3) ((⟨f1,f2⟩,⟨n1,n2⟩,⟨c1,c2⟩,⟨m1,m2⟩,⟨d1,d2⟩),(nu,de),⟨⟨g1,g2⟩,⟨g3,g4⟩,⟨g5,g6⟩⟩,(v1,v2),(p1,p2),(q1,q2)) k) (w:World) (hv:aA w bv #[O a1,O a2,O a3,O a4,O a5,O a6,O l1,O l2,O y1,O y2,Z I 3] 42) (ht:iA.Pow w) (he:whole.Er w) (hc:adapt.fM w) (hs:lF w) :
  Calls Tryz.prog 32 #[au (some ⟨bv,0,none⟩)] w (Try w (aB #[O f1,O f2,O n1,O n2,O c1,O c2,O m1,O m2,O d1,O d2,Z I nu,Z I de,O g1,O g2,O g3,O g4,O g5,O g6,Z I v1,Z I v2,Z I p1,Z I p2,Z I q1,Z I q2]) k):=by
 unfold kM at hx;refine Fx.door Tryz.func32 rfl (.ro hv (.nil w [])) ?_;have HR:=hx;refine Fx.bH [] 1 45 [] [] fun iK=>?_;obtain ⟨⟨⟨sZ,sW⟩,⟨sV,sU⟩,⟨sS,sQ⟩⟩,k2,EX,HN⟩:=ak HR;refine Fx.bD dK [3] 3 [] [] (fun W M=>Af (bY.of EX) _ (ht.later M.below) (hc.later M.below) (hs.later M.below)) HN fun h0 HR=>?_;subst h0;have hl:=Jg EX;obtain ⟨⟨⟨⟨G8,G7⟩,⟨GZ,GY⟩,⟨GX,GV⟩,⟨GU,GR⟩,⟨GQ,GN⟩⟩,⟨xA,xw⟩,⟨⟨xu,xq⟩,⟨xk,xg⟩,⟨wZ,wY⟩⟩,⟨wX,wW⟩,⟨wV,wU⟩,wT,wR⟩,k3,EX,HN⟩:=ak HR
 refine Fx.bD (args:=#[aB #[Z I 800,Z I 800,Z I 525,Z I 1,Z I 1,O a1,O a2,O a3,O a4,O a5,O a6,O l1,O l2,O y1,O y2,Z I 3,O sZ,O sW,O sV,O sU,O sS,O sQ]]) dK [] 4 [] [] (fun W M=>rP (bY.of EX) _ (ht.later M.below) (he.later M.below) (hc.later M.below) hl) HN fun h0 HR=>?_;subst h0;obtain ⟨hk,hv⟩:=HR;cases hk
 exact Fx.mU (cs:=#[O G8,O G7,O GZ,O GY,O GX,O GV,O GU,O GR,O GQ,O GN,Z I xA,Z I xw,O xu,O xq,O xk,O xg,O wZ,O wY,Z I wX,Z I wW,Z I wV,Z I wU,Z I wT,Z I wR]) 1 iK [4] [(1,#[O G8,O G7,O GZ,O GY,O GX,O GV,O GU,O GR,O GQ,O GN,Z I xA,Z I xw,O xu,O xq,O xk,O xg,O wZ,O wY,Z I wX,Z I wW,Z I wV,Z I wU,Z I wT,Z I wR])] (fun W M=>⟨M.below,.inl ⟨rfl,by cases hv rfl;rfl⟩⟩)
theorem Gl {a1 a2 a3 a4 a5 a6 l1 l2 y1 y2 r1 r2 r3 r4 r5 r6:ByteArray} {bv:Nat} {k:Int} (hx:bY (jw ⟨⟨a1,a2⟩,⟨a3,a4⟩,⟨a5,a6⟩⟩ ⟨l1,l2⟩ ⟨y1,y2⟩ 3) ⟨⟨r1,r2⟩,⟨r3,r4⟩,⟨r5,r6⟩⟩ k) (w:World) (hv:aA w bv #[O a1,O a2,O a3,O a4,O a5,O a6,O l1,O l2,O y1,O y2,Z I 3] 42) (ht:iA.Pow w) (hc:adapt.fM w) (hs:lF w) :
  Calls Tryz.prog 41 #[au (some ⟨bv,0,none⟩)] w (Try w (aB #[Z I 800,Z I 800,Z I 525,Z I 1,Z I 1,O a1,O a2,O a3,O a4,O a5,O a6,O l1,O l2,O y1,O y2,Z I 3,O r1,O r2,O r3,O r4,O r5,O r6]) k):=by
 refine Fx.door Tryz.func41 rfl (.ro hv (.nil w [])) ?_;have HR:=hx;refine Fx.bH [] 1 76 [] [] fun iK=>?_;obtain ⟨⟨⟨sZ,sW⟩,⟨sV,sU⟩,⟨sS,sQ⟩⟩,k2,EX,HN⟩:=lQ HR;refine Fx.bD dK [3] 3 [] [] (fun W M=>Af (bY.of EX) _ (ht.later M.below) (hc.later M.below) (hs.later M.below)) HN fun h0 HR=>?_;subst h0;obtain ⟨hk,hv⟩:=HR;cases hk
 exact Fx.mU (cs:=#[Z I 800,Z I 800,Z I 525,Z I 1,Z I 1,O a1,O a2,O a3,O a4,O a5,O a6,O l1,O l2,O y1,O y2,Z I 3,O sZ,O sW,O sV,O sU,O sS,O sQ]) 1 iK [4] [(1,#[Z I 800,Z I 800,Z I 525,Z I 1,Z I 1,O a1,O a2,O a3,O a4,O a5,O a6,O l1,O l2,O y1,O y2,Z I 3,O sZ,O sW,O sV,O sU,O sS,O sQ])] (fun W M=>⟨M.below,.inl ⟨rfl,by cases hv rfl;rfl⟩⟩)
def am9:Yv→Value
 | ((⟨f1,f2⟩,⟨n1,n2⟩,⟨c1,c2⟩,⟨m1,m2⟩,⟨d1,d2⟩),(nu,de),⟨⟨g1,g2⟩,⟨g3,g4⟩,⟨g5,g6⟩⟩,(v1,v2),(p1,p2),(q1,q2))=>aB #[O f1,O f2,O n1,O n2,O c1,O c2,O m1,O m2,O d1,O d2,Z I nu,Z I de,O g1,O g2,O g3,O g4,O g5,O g6,Z I v1,Z I v2,Z I p1,Z I p2,Z I q1,Z I q2]
theorem Tt {f:FuncId} {args:Array Value} {w:World} {x:Yv} {k0 k:Int} {f1 f2 n1 n2 c1 c2 m1 m2 d1 d2 g1 g2 g3 g4 g5 g6:ByteArray} {nu de v1 v2 p1 p2 q1 q2:Int} (C:Calls Tryz.prog f args w (JE w (am9 x) (aB #[O ⟨#[]⟩,O ⟨#[]⟩,O ⟨#[]⟩,O ⟨#[]⟩,O ⟨#[]⟩,O ⟨#[]⟩,O ⟨#[]⟩,O ⟨#[]⟩,O ⟨#[]⟩,O ⟨#[]⟩,Z I 0,Z I 0,O ⟨#[]⟩,O ⟨#[]⟩,O ⟨#[]⟩,O ⟨#[]⟩,O ⟨#[]⟩,O ⟨#[]⟩,Z I 0,Z I 0,Z I 0,Z I 0,Z I 0,Z I 0]) k0)) (h:cl zI (x,k0)=(((⟨f1,f2⟩,⟨n1,n2⟩,⟨c1,c2⟩,⟨m1,m2⟩,⟨d1,d2⟩),(nu,de),⟨⟨g1,g2⟩,⟨g3,g4⟩,⟨g5,g6⟩⟩,(v1,v2),(p1,p2),(q1,q2)),k)) :
  Calls Tryz.prog f args w (fun e w'=>e= ah (aF #[aB #[O f1,O f2,O n1,O n2,O c1,O c2,O m1,O m2,O d1,O d2,Z I nu,Z I de,O g1,O g2,O g3,O g4,O g5,O g6,Z I v1,Z I v2,Z I p1,Z I p2,Z I q1,Z I q2],Z I k])∧Below w.heap.size w w'):=C.mono fun _ _ ⟨hb,hh⟩=>by
 unfold cl at h
 rcases hh with ⟨h1,rfl⟩|⟨h1,rfl⟩
 ·rw [if_pos h1] at h;cases h
  cases h1
  exact ⟨rfl,hb⟩
 ·rw [if_neg h1] at h;cases h
  exact ⟨rfl,hb⟩
theorem Xc {f:FuncId} {args:Array Value} {w:World} {V dA:Value} (C:Calls Tryz.prog f args w (JE w V dA 0)):Calls Tryz.prog f args w (fun e w'=>e= ah (aF #[V,Z I 0])∧Below w.heap.size w w'):=C.mono fun _ _ ⟨hb,hh⟩=>by
 rcases hh with ⟨-, rfl⟩|⟨h1, -⟩
 ·exact ⟨rfl,hb⟩
 ·exact absurd rfl h1
theorem Tv {f:FuncId} {args:Array Value} {w:World} {V dA:Value} {k:Int} (hk:k≠0) (C:Calls Tryz.prog f args w (JE w V dA k)):Calls Tryz.prog f args w (fun e w'=>e= ah (aF #[dA,Z I k])∧Below w.heap.size w w'):=C.mono fun _ _ ⟨hb,hh⟩=>by
 rcases hh with ⟨h1, -⟩|⟨-, rfl⟩
 ·exact absurd h1 hk
 ·exact ⟨rfl,hb⟩
theorem Qj {W:light.gJ} {la yb:Fr} {s:Int} {r:light.gJ} (h:jw W la yb s=(r,0)):1≤s∧s≤3:=by
 unfold jw at h;have bad:∀ {r:light.gJ},Bp=(r,0)→False:=fun h=>absurd (show (280:Int)=0 from congrArg Prod.snd h) zd
 obtain ⟨_, -, h⟩:=fU h;obtain ⟨_, -, h⟩:=fU h;obtain ⟨_, -, h⟩:=fU h;obtain ⟨_, -, h⟩:=fU h
 iterate 3
  obtain ⟨_, -, h⟩:=fU h;split at h
  ·exact (bad h).elim
 obtain ⟨_, -, h⟩:=fU h;obtain ⟨_, -, h⟩:=fU h
 iterate 3
  obtain ⟨_, -, h⟩:=fU h;split at h
  ·exact (bad h).elim
 split at h
 ·exact (bad h).elim
 split at h
 ·exact (bad h).elim
 omega
theorem MO {a1 a2 a3 a4 a5 a6 l1 l2 y1 y2:ByteArray} {s:Int} {x:Yv} {V:Value} {bv:Nat} {k:Int} (hx:bY (kM ⟨⟨a1,a2⟩,⟨a3,a4⟩,⟨a5,a6⟩⟩ ⟨l1,l2⟩ ⟨y1,y2⟩ s) x k) (w:World) (hv:aA w bv #[O a1,O a2,O a3,O a4,O a5,O a6,O l1,O l2,O y1,O y2,Z I s] 42) (ht:iA.Pow w) (hc:adapt.fM w) (hs:lF w) (hb:s<1∨3<s) :
  Calls Tryz.prog 32 #[au (some ⟨bv,0,none⟩)] w (Try w V k):=by
 unfold kM at hx;refine Fx.door Tryz.func32 rfl (.ro hv (.nil w [])) ?_;have HR:=hx;refine Fx.bH [] 1 45 [] [] fun iK=>?_;obtain ⟨⟨⟨sZ,sW⟩,⟨sV,sU⟩,⟨sS,sQ⟩⟩,k2,EX,HN⟩:=ak HR;refine Fx.bD dK [3] 3 [] [] (fun W M=>Ae (bY.of EX) _ (ht.later M.below) (hc.later M.below) (hs.later M.below) hb V) HN fun h0 HR=>?_;subst h0;exact absurd (Qj EX) zo
theorem Qu {a1 a2 a3 a4 a5 a6 l1 l2 y1 y2:ByteArray} {s:Int} {x:light.gJ} {V:Value} {bv:Nat} {k:Int} (hx:bY (jw ⟨⟨a1,a2⟩,⟨a3,a4⟩,⟨a5,a6⟩⟩ ⟨l1,l2⟩ ⟨y1,y2⟩ s) x k) (w:World) (hv:aA w bv #[O a1,O a2,O a3,O a4,O a5,O a6,O l1,O l2,O y1,O y2,Z I s] 42) (ht:iA.Pow w) (hc:adapt.fM w) (hs:lF w) (hb:s<1∨3<s) :
  Calls Tryz.prog 41 #[au (some ⟨bv,0,none⟩)] w (Try w V k):=by
 refine Fx.door Tryz.func41 rfl (.ro hv (.nil w [])) ?_;have HR:=hx;refine Fx.bH [] 1 76 [] [] fun iK=>?_;obtain ⟨⟨⟨sZ,sW⟩,⟨sV,sU⟩,⟨sS,sQ⟩⟩,k2,EX,HN⟩:=lQ HR;refine Fx.bD dK [3] 3 [] [] (fun W M=>Ae (bY.of EX) _ (ht.later M.below) (hc.later M.below) (hs.later M.below) hb V) HN fun h0 HR=>?_;subst h0;exact absurd (Qj EX) zo
theorem JI {a1 a2 a3 a4 a5 a6 l1 l2 y1 y2:ByteArray} {f1 f2 n1 n2 c1 c2 m1 m2 d1 d2 g1 g2 g3 g4 g5 g6:ByteArray} {nu de v1 v2 p1 p2 q1 q2:Int} {k:Int} (hx:uz ⟨⟨a1,a2⟩,⟨a3,a4⟩,⟨a5,a6⟩⟩ ⟨l1,l2⟩ ⟨y1,y2⟩ 1=(((⟨f1,f2⟩,⟨n1,n2⟩,⟨c1,c2⟩,⟨m1,m2⟩,⟨d1,d2⟩),(nu,de),⟨⟨g1,g2⟩,⟨g3,g4⟩,⟨g5,g6⟩⟩,(v1,v2),(p1,p2),(q1,q2)),k)) (w:World) (ht:iA.Pow w) (he:whole.Er w) (hc:adapt.fM w) (hs:lF w) :
  Calls Tryz.prog 11 #[aB #[O a1,O a2,O a3,O a4,O a5,O a6,O l1,O l2,O y1,O y2,Z I 1]] w (fun e w'=>e= ah (aF #[aB #[O f1,O f2,O n1,O n2,O c1,O c2,O m1,O m2,O d1,O d2,Z I nu,Z I de,O g1,O g2,O g3,O g4,O g5,O g6,Z I v1,Z I v2,Z I p1,Z I p2,Z I q1,Z I q2],Z I k])∧Below w.heap.size w w'):=by
 unfold uz at hx;generalize hE:kM _ _ _ _=r at hx;obtain ⟨⟨⟨⟨F1,F2⟩,⟨N1,N2⟩,⟨C1,C2⟩,⟨M1,M2⟩,⟨D1,D2⟩⟩,⟨NU,DE⟩,⟨⟨G1,G2⟩,⟨G3,G4⟩,⟨G5,G6⟩⟩,⟨V1,V2⟩,⟨P1,P2⟩,Q1,Q2⟩,k0⟩:=r;refine Fx.door Tryz.func11 rfl (.nil w []) ?_;refine Fx.new [] 1 #[O a1,O a2,O a3,O a4,O a5,O a6,O l1,O l2,O y1,O y2,Z I 1] 42 [] [] fun iK=>?_;refine Fx.bH [] 2 45 [] [] fun mM=>?_;refine Fx.call [] 5 [] [] (fun W M=>Tt (qC W (fun V hV=>MR (bY.of hE) V ((M.box (b:=iK) 0).later hV) (ht.later (Bt M.below hV)) (he.later (Bt M.below hV)) (hc.later (Bt M.below hV)) (hs.later (Bt M.below hV))) (fun args W=>by kernel_rfl)) hx) ?_
 exact Fx.lN 1 mM [4] [(1,#[O f1,O f2,O n1,O n2,O c1,O c2,O m1,O m2,O d1,O d2,Z I nu,Z I de,O g1,O g2,O g3,O g4,O g5,O g6,Z I v1,Z I v2,Z I p1,Z I p2,Z I q1,Z I q2])] (fun W M=>⟨rfl,M.below⟩)
theorem Nt {a1 a2 a3 a4 a5 a6 l1 l2 y1 y2:ByteArray} {k:Int} (hx:(jw ⟨⟨a1,a2⟩,⟨a3,a4⟩,⟨a5,a6⟩⟩ ⟨l1,l2⟩ ⟨y1,y2⟩ 1).2=k) (w:World) (ht:iA.Pow w) (hc:adapt.fM w) (hs:lF w) :
  Calls Tryz.prog 16 #[aB #[O a1,O a2,O a3,O a4,O a5,O a6,O l1,O l2,O y1,O y2,Z I 1]] w (fun e w'=>e= ah (Z I k)∧Below w.heap.size w w'):=by
 generalize hE:jw _ _ _ _=r at hx;obtain ⟨⟨⟨r1,r2⟩,⟨r3,r4⟩,⟨r5,r6⟩⟩,k0⟩:=r;cases hx
 by_cases hk:k0=0
 ·subst hk;refine Fx.door Tryz.func16 rfl (.nil w []) ?_;refine Fx.new [] 1 #[O a1,O a2,O a3,O a4,O a5,O a6,O l1,O l2,O y1,O y2,Z I 1] 42 [] [] fun iK=>?_;refine Fx.call [] 7 [] [] (fun W M=>Xc (kD W (fun V hV=>Gn (bY.of hE) V ((M.box (b:=iK) 0).later hV) (ht.later (Bt M.below hV)) (hc.later (Bt M.below hV)) (hs.later (Bt M.below hV))) (fun args W=>by kernel_rfl))) ?_;refine Fx.bH [] 3 76 [(8,aB #[Z I 1000,Z I 1000,Z I 690,Z I 4,Z I 3,O a1,O a2,O a3,O a4,O a5,O a6,O l1,O l2,O y1,O y2,Z I 1,O r1,O r2,O r3,O r4,O r5,O r6]),(9,Z I 0)] [] fun mM=>?_
  exact Fx.xE [4] [(1,#[Z I 1000,Z I 1000,Z I 690,Z I 4,Z I 3,O a1,O a2,O a3,O a4,O a5,O a6,O l1,O l2,O y1,O y2,Z I 1,O r1,O r2,O r3,O r4,O r5,O r6])] (fun W M=>⟨rfl,M.below⟩)
 ·skip
  refine Fx.door Tryz.func16 rfl (.nil w []) ?_;refine Fx.new [] 1 #[O a1,O a2,O a3,O a4,O a5,O a6,O l1,O l2,O y1,O y2,Z I 1] 42 [] [] fun iK=>?_;refine Fx.call [] 7 [] [] (fun W M=>Tv hk (kD W (fun V hV=>Gn (bY.of hE) V ((M.box (b:=iK) 0).later hV) (ht.later (Bt M.below hV)) (hc.later (Bt M.below hV)) (hs.later (Bt M.below hV))) (fun args W=>by kernel_rfl))) ?_;refine Fx.bH [] 3 76 [(8,aB #[Z I 0,Z I 0,Z I 0,Z I 0,Z I 0,O ⟨#[]⟩,O ⟨#[]⟩,O ⟨#[]⟩,O ⟨#[]⟩,O ⟨#[]⟩,O ⟨#[]⟩,O ⟨#[]⟩,O ⟨#[]⟩,O ⟨#[]⟩,O ⟨#[]⟩,Z I 0,O ⟨#[]⟩,O ⟨#[]⟩,O ⟨#[]⟩,O ⟨#[]⟩,O ⟨#[]⟩,O ⟨#[]⟩]),(9,Z I k0)] [] fun mM=>?_
  exact Fx.xE [4] [(1,#[Z I 0,Z I 0,Z I 0,Z I 0,Z I 0,O ⟨#[]⟩,O ⟨#[]⟩,O ⟨#[]⟩,O ⟨#[]⟩,O ⟨#[]⟩,O ⟨#[]⟩,O ⟨#[]⟩,O ⟨#[]⟩,O ⟨#[]⟩,O ⟨#[]⟩,Z I 0,O ⟨#[]⟩,O ⟨#[]⟩,O ⟨#[]⟩,O ⟨#[]⟩,O ⟨#[]⟩,O ⟨#[]⟩])] (fun W M=>⟨rfl,M.below⟩)
theorem JH {a1 a2 a3 a4 a5 a6 l1 l2 y1 y2:ByteArray} {f1 f2 n1 n2 c1 c2 m1 m2 d1 d2 g1 g2 g3 g4 g5 g6:ByteArray} {nu de v1 v2 p1 p2 q1 q2:Int} {k:Int} (hx:uz ⟨⟨a1,a2⟩,⟨a3,a4⟩,⟨a5,a6⟩⟩ ⟨l1,l2⟩ ⟨y1,y2⟩ 2=(((⟨f1,f2⟩,⟨n1,n2⟩,⟨c1,c2⟩,⟨m1,m2⟩,⟨d1,d2⟩),(nu,de),⟨⟨g1,g2⟩,⟨g3,g4⟩,⟨g5,g6⟩⟩,(v1,v2),(p1,p2),(q1,q2)),k)) (w:World) (ht:iA.Pow w) (he:whole.Er w) (hc:adapt.fM w) (hs:lF w) :
  Calls Tryz.prog 11 #[aB #[O a1,O a2,O a3,O a4,O a5,O a6,O l1,O l2,O y1,O y2,Z I 2]] w (fun e w'=>e= ah (aF #[aB #[O f1,O f2,O n1,O n2,O c1,O c2,O m1,O m2,O d1,O d2,Z I nu,Z I de,O g1,O g2,O g3,O g4,O g5,O g6,Z I v1,Z I v2,Z I p1,Z I p2,Z I q1,Z I q2],Z I k])∧Below w.heap.size w w'):=by
 unfold uz at hx;generalize hE:kM _ _ _ _=r at hx;obtain ⟨⟨⟨⟨F1,F2⟩,⟨N1,N2⟩,⟨C1,C2⟩,⟨M1,M2⟩,⟨D1,D2⟩⟩,⟨NU,DE⟩,⟨⟨G1,G2⟩,⟨G3,G4⟩,⟨G5,G6⟩⟩,⟨V1,V2⟩,⟨P1,P2⟩,Q1,Q2⟩,k0⟩:=r;refine Fx.door Tryz.func11 rfl (.nil w []) ?_;refine Fx.new [] 1 #[O a1,O a2,O a3,O a4,O a5,O a6,O l1,O l2,O y1,O y2,Z I 2] 42 [] [] fun iK=>?_;refine Fx.bH [] 2 45 [] [] fun mM=>?_;refine Fx.call [] 5 [] [] (fun W M=>Tt (qC W (fun V hV=>MQ (bY.of hE) V ((M.box (b:=iK) 0).later hV) (ht.later (Bt M.below hV)) (he.later (Bt M.below hV)) (hc.later (Bt M.below hV)) (hs.later (Bt M.below hV))) (fun args W=>by kernel_rfl)) hx) ?_
 exact Fx.lN 1 mM [4] [(1,#[O f1,O f2,O n1,O n2,O c1,O c2,O m1,O m2,O d1,O d2,Z I nu,Z I de,O g1,O g2,O g3,O g4,O g5,O g6,Z I v1,Z I v2,Z I p1,Z I p2,Z I q1,Z I q2])] (fun W M=>⟨rfl,M.below⟩)
theorem Ns {a1 a2 a3 a4 a5 a6 l1 l2 y1 y2:ByteArray} {k:Int} (hx:(jw ⟨⟨a1,a2⟩,⟨a3,a4⟩,⟨a5,a6⟩⟩ ⟨l1,l2⟩ ⟨y1,y2⟩ 2).2=k) (w:World) (ht:iA.Pow w) (hc:adapt.fM w) (hs:lF w) :
  Calls Tryz.prog 16 #[aB #[O a1,O a2,O a3,O a4,O a5,O a6,O l1,O l2,O y1,O y2,Z I 2]] w (fun e w'=>e= ah (Z I k)∧Below w.heap.size w w'):=by
 generalize hE:jw _ _ _ _=r at hx;obtain ⟨⟨⟨r1,r2⟩,⟨r3,r4⟩,⟨r5,r6⟩⟩,k0⟩:=r;cases hx
 by_cases hk:k0=0
 ·subst hk;refine Fx.door Tryz.func16 rfl (.nil w []) ?_;refine Fx.new [] 1 #[O a1,O a2,O a3,O a4,O a5,O a6,O l1,O l2,O y1,O y2,Z I 2] 42 [] [] fun iK=>?_;refine Fx.call [] 7 [] [] (fun W M=>Xc (kD W (fun V hV=>Gm (bY.of hE) V ((M.box (b:=iK) 0).later hV) (ht.later (Bt M.below hV)) (hc.later (Bt M.below hV)) (hs.later (Bt M.below hV))) (fun args W=>by kernel_rfl))) ?_;refine Fx.bH [] 3 76 [(8,aB #[Z I 900,Z I 950,Z I 590,Z I 7,Z I 6,O a1,O a2,O a3,O a4,O a5,O a6,O l1,O l2,O y1,O y2,Z I 2,O r1,O r2,O r3,O r4,O r5,O r6]),(9,Z I 0)] [] fun mM=>?_
  exact Fx.xE [4] [(1,#[Z I 900,Z I 950,Z I 590,Z I 7,Z I 6,O a1,O a2,O a3,O a4,O a5,O a6,O l1,O l2,O y1,O y2,Z I 2,O r1,O r2,O r3,O r4,O r5,O r6])] (fun W M=>⟨rfl,M.below⟩)
 ·skip
  refine Fx.door Tryz.func16 rfl (.nil w []) ?_;refine Fx.new [] 1 #[O a1,O a2,O a3,O a4,O a5,O a6,O l1,O l2,O y1,O y2,Z I 2] 42 [] [] fun iK=>?_;refine Fx.call [] 7 [] [] (fun W M=>Tv hk (kD W (fun V hV=>Gm (bY.of hE) V ((M.box (b:=iK) 0).later hV) (ht.later (Bt M.below hV)) (hc.later (Bt M.below hV)) (hs.later (Bt M.below hV))) (fun args W=>by kernel_rfl))) ?_;refine Fx.bH [] 3 76 [(8,aB #[Z I 0,Z I 0,Z I 0,Z I 0,Z I 0,O ⟨#[]⟩,O ⟨#[]⟩,O ⟨#[]⟩,O ⟨#[]⟩,O ⟨#[]⟩,O ⟨#[]⟩,O ⟨#[]⟩,O ⟨#[]⟩,O ⟨#[]⟩,O ⟨#[]⟩,Z I 0,O ⟨#[]⟩,O ⟨#[]⟩,O ⟨#[]⟩,O ⟨#[]⟩,O ⟨#[]⟩,O ⟨#[]⟩]),(9,Z I k0)] [] fun mM=>?_
  exact Fx.xE [4] [(1,#[Z I 0,Z I 0,Z I 0,Z I 0,Z I 0,O ⟨#[]⟩,O ⟨#[]⟩,O ⟨#[]⟩,O ⟨#[]⟩,O ⟨#[]⟩,O ⟨#[]⟩,O ⟨#[]⟩,O ⟨#[]⟩,O ⟨#[]⟩,O ⟨#[]⟩,Z I 0,O ⟨#[]⟩,O ⟨#[]⟩,O ⟨#[]⟩,O ⟨#[]⟩,O ⟨#[]⟩,O ⟨#[]⟩])] (fun W M=>⟨rfl,M.below⟩)
theorem JG {a1 a2 a3 a4 a5 a6 l1 l2 y1 y2:ByteArray} {f1 f2 n1 n2 c1 c2 m1 m2 d1 d2 g1 g2 g3 g4 g5 g6:ByteArray} {nu de v1 v2 p1 p2 q1 q2:Int} {k:Int} (hx:uz ⟨⟨a1,a2⟩,⟨a3,a4⟩,⟨a5,a6⟩⟩ ⟨l1,l2⟩ ⟨y1,y2⟩ 3=(((⟨f1,f2⟩,⟨n1,n2⟩,⟨c1,c2⟩,⟨m1,m2⟩,⟨d1,d2⟩),(nu,de),⟨⟨g1,g2⟩,⟨g3,g4⟩,⟨g5,g6⟩⟩,(v1,v2),(p1,p2),(q1,q2)),k)) (w:World) (ht:iA.Pow w) (he:whole.Er w) (hc:adapt.fM w) (hs:lF w) :
  Calls Tryz.prog 11 #[aB #[O a1,O a2,O a3,O a4,O a5,O a6,O l1,O l2,O y1,O y2,Z I 3]] w (fun e w'=>e= ah (aF #[aB #[O f1,O f2,O n1,O n2,O c1,O c2,O m1,O m2,O d1,O d2,Z I nu,Z I de,O g1,O g2,O g3,O g4,O g5,O g6,Z I v1,Z I v2,Z I p1,Z I p2,Z I q1,Z I q2],Z I k])∧Below w.heap.size w w'):=by
 unfold uz at hx;generalize hE:kM _ _ _ _=r at hx;obtain ⟨⟨⟨⟨F1,F2⟩,⟨N1,N2⟩,⟨C1,C2⟩,⟨M1,M2⟩,⟨D1,D2⟩⟩,⟨NU,DE⟩,⟨⟨G1,G2⟩,⟨G3,G4⟩,⟨G5,G6⟩⟩,⟨V1,V2⟩,⟨P1,P2⟩,Q1,Q2⟩,k0⟩:=r;refine Fx.door Tryz.func11 rfl (.nil w []) ?_;refine Fx.new [] 1 #[O a1,O a2,O a3,O a4,O a5,O a6,O l1,O l2,O y1,O y2,Z I 3] 42 [] [] fun iK=>?_;refine Fx.bH [] 2 45 [] [] fun mM=>?_;refine Fx.call [] 5 [] [] (fun W M=>Tt (qC W (fun V hV=>MP (bY.of hE) V ((M.box (b:=iK) 0).later hV) (ht.later (Bt M.below hV)) (he.later (Bt M.below hV)) (hc.later (Bt M.below hV)) (hs.later (Bt M.below hV))) (fun args W=>by kernel_rfl)) hx) ?_
 exact Fx.lN 1 mM [4] [(1,#[O f1,O f2,O n1,O n2,O c1,O c2,O m1,O m2,O d1,O d2,Z I nu,Z I de,O g1,O g2,O g3,O g4,O g5,O g6,Z I v1,Z I v2,Z I p1,Z I p2,Z I q1,Z I q2])] (fun W M=>⟨rfl,M.below⟩)
theorem Nr {a1 a2 a3 a4 a5 a6 l1 l2 y1 y2:ByteArray} {k:Int} (hx:(jw ⟨⟨a1,a2⟩,⟨a3,a4⟩,⟨a5,a6⟩⟩ ⟨l1,l2⟩ ⟨y1,y2⟩ 3).2=k) (w:World) (ht:iA.Pow w) (hc:adapt.fM w) (hs:lF w) :
  Calls Tryz.prog 16 #[aB #[O a1,O a2,O a3,O a4,O a5,O a6,O l1,O l2,O y1,O y2,Z I 3]] w (fun e w'=>e= ah (Z I k)∧Below w.heap.size w w'):=by
 generalize hE:jw _ _ _ _=r at hx;obtain ⟨⟨⟨r1,r2⟩,⟨r3,r4⟩,⟨r5,r6⟩⟩,k0⟩:=r;cases hx
 by_cases hk:k0=0
 ·subst hk;refine Fx.door Tryz.func16 rfl (.nil w []) ?_;refine Fx.new [] 1 #[O a1,O a2,O a3,O a4,O a5,O a6,O l1,O l2,O y1,O y2,Z I 3] 42 [] [] fun iK=>?_;refine Fx.call [] 7 [] [] (fun W M=>Xc (kD W (fun V hV=>Gl (bY.of hE) V ((M.box (b:=iK) 0).later hV) (ht.later (Bt M.below hV)) (hc.later (Bt M.below hV)) (hs.later (Bt M.below hV))) (fun args W=>by kernel_rfl))) ?_;refine Fx.bH [] 3 76 [(8,aB #[Z I 800,Z I 800,Z I 525,Z I 1,Z I 1,O a1,O a2,O a3,O a4,O a5,O a6,O l1,O l2,O y1,O y2,Z I 3,O r1,O r2,O r3,O r4,O r5,O r6]),(9,Z I 0)] [] fun mM=>?_
  exact Fx.xE [4] [(1,#[Z I 800,Z I 800,Z I 525,Z I 1,Z I 1,O a1,O a2,O a3,O a4,O a5,O a6,O l1,O l2,O y1,O y2,Z I 3,O r1,O r2,O r3,O r4,O r5,O r6])] (fun W M=>⟨rfl,M.below⟩)
 ·skip
  refine Fx.door Tryz.func16 rfl (.nil w []) ?_;refine Fx.new [] 1 #[O a1,O a2,O a3,O a4,O a5,O a6,O l1,O l2,O y1,O y2,Z I 3] 42 [] [] fun iK=>?_;refine Fx.call [] 7 [] [] (fun W M=>Tv hk (kD W (fun V hV=>Gl (bY.of hE) V ((M.box (b:=iK) 0).later hV) (ht.later (Bt M.below hV)) (hc.later (Bt M.below hV)) (hs.later (Bt M.below hV))) (fun args W=>by kernel_rfl))) ?_;refine Fx.bH [] 3 76 [(8,aB #[Z I 0,Z I 0,Z I 0,Z I 0,Z I 0,O ⟨#[]⟩,O ⟨#[]⟩,O ⟨#[]⟩,O ⟨#[]⟩,O ⟨#[]⟩,O ⟨#[]⟩,O ⟨#[]⟩,O ⟨#[]⟩,O ⟨#[]⟩,O ⟨#[]⟩,Z I 0,O ⟨#[]⟩,O ⟨#[]⟩,O ⟨#[]⟩,O ⟨#[]⟩,O ⟨#[]⟩,O ⟨#[]⟩]),(9,Z I k0)] [] fun mM=>?_
  exact Fx.xE [4] [(1,#[Z I 0,Z I 0,Z I 0,Z I 0,Z I 0,O ⟨#[]⟩,O ⟨#[]⟩,O ⟨#[]⟩,O ⟨#[]⟩,O ⟨#[]⟩,O ⟨#[]⟩,O ⟨#[]⟩,O ⟨#[]⟩,O ⟨#[]⟩,O ⟨#[]⟩,Z I 0,O ⟨#[]⟩,O ⟨#[]⟩,O ⟨#[]⟩,O ⟨#[]⟩,O ⟨#[]⟩,O ⟨#[]⟩])] (fun W M=>⟨rfl,M.below⟩)
theorem JF {a1 a2 a3 a4 a5 a6 l1 l2 y1 y2:ByteArray} {s:Int} {f1 f2 n1 n2 c1 c2 m1 m2 d1 d2 g1 g2 g3 g4 g5 g6:ByteArray} {nu de v1 v2 p1 p2 q1 q2:Int} {k:Int} (hx:uz ⟨⟨a1,a2⟩,⟨a3,a4⟩,⟨a5,a6⟩⟩ ⟨l1,l2⟩ ⟨y1,y2⟩ s=(((⟨f1,f2⟩,⟨n1,n2⟩,⟨c1,c2⟩,⟨m1,m2⟩,⟨d1,d2⟩),(nu,de),⟨⟨g1,g2⟩,⟨g3,g4⟩,⟨g5,g6⟩⟩,(v1,v2),(p1,p2),(q1,q2)),k)) (w:World) (ht:iA.Pow w) (he:whole.Er w) (hc:adapt.fM w) (hs:lF w) (hb:s<1∨3<s) :
  Calls Tryz.prog 11 #[aB #[O a1,O a2,O a3,O a4,O a5,O a6,O l1,O l2,O y1,O y2,Z I s]] w (fun e w'=>e= ah (aF #[aB #[O f1,O f2,O n1,O n2,O c1,O c2,O m1,O m2,O d1,O d2,Z I nu,Z I de,O g1,O g2,O g3,O g4,O g5,O g6,Z I v1,Z I v2,Z I p1,Z I p2,Z I q1,Z I q2],Z I k])∧Below w.heap.size w w'):=by
 unfold uz at hx;generalize hE:kM _ _ _ _=r at hx;obtain ⟨⟨⟨⟨F1,F2⟩,⟨N1,N2⟩,⟨C1,C2⟩,⟨M1,M2⟩,⟨D1,D2⟩⟩,⟨NU,DE⟩,⟨⟨G1,G2⟩,⟨G3,G4⟩,⟨G5,G6⟩⟩,⟨V1,V2⟩,⟨P1,P2⟩,Q1,Q2⟩,k0⟩:=r;refine Fx.door Tryz.func11 rfl (.nil w []) ?_;refine Fx.new [] 1 #[O a1,O a2,O a3,O a4,O a5,O a6,O l1,O l2,O y1,O y2,Z I s] 42 [] [] fun iK=>?_;refine Fx.bH [] 2 45 [] [] fun mM=>?_;refine Fx.call [] 5 [] [] (fun W M=>Tt (qC W (fun V hV=>MO (bY.of hE) V ((M.box (b:=iK) 0).later hV) (ht.later (Bt M.below hV)) (hc.later (Bt M.below hV)) (hs.later (Bt M.below hV)) hb) (fun args W=>by kernel_rfl)) hx) ?_
 exact Fx.lN 1 mM [4] [(1,#[O f1,O f2,O n1,O n2,O c1,O c2,O m1,O m2,O d1,O d2,Z I nu,Z I de,O g1,O g2,O g3,O g4,O g5,O g6,Z I v1,Z I v2,Z I p1,Z I p2,Z I q1,Z I q2])] (fun W M=>⟨rfl,M.below⟩)
theorem Nq {a1 a2 a3 a4 a5 a6 l1 l2 y1 y2:ByteArray} {s:Int} {k:Int} (hx:(jw ⟨⟨a1,a2⟩,⟨a3,a4⟩,⟨a5,a6⟩⟩ ⟨l1,l2⟩ ⟨y1,y2⟩ s).2=k) (w:World) (ht:iA.Pow w) (hc:adapt.fM w) (hs:lF w) (hb:s<1∨3<s) :
  Calls Tryz.prog 16 #[aB #[O a1,O a2,O a3,O a4,O a5,O a6,O l1,O l2,O y1,O y2,Z I s]] w (fun e w'=>e= ah (Z I k)∧Below w.heap.size w w'):=by
 generalize hE:jw _ _ _ _=r at hx;obtain ⟨⟨⟨r1,r2⟩,⟨r3,r4⟩,⟨r5,r6⟩⟩,k0⟩:=r;cases hx
 by_cases hk:k0=0
 ·subst hk;exact absurd (Qj hE) zo
 ·skip
  refine Fx.door Tryz.func16 rfl (.nil w []) ?_;refine Fx.new [] 1 #[O a1,O a2,O a3,O a4,O a5,O a6,O l1,O l2,O y1,O y2,Z I s] 42 [] [] fun iK=>?_;refine Fx.call [] 7 [] [] (fun W M=>Tv hk (kD (s1:=0) (s2:=0) (s3:=0) (s4:=0) (s5:=0) (s16:=0) (s6:=⟨#[]⟩) (s7:=⟨#[]⟩) (s8:=⟨#[]⟩) (s9:=⟨#[]⟩) (s10:=⟨#[]⟩) (s11:=⟨#[]⟩) (s12:=⟨#[]⟩) (s13:=⟨#[]⟩) (oP:=⟨#[]⟩) (s15:=⟨#[]⟩) (oU:=⟨#[]⟩) (pU:=⟨#[]⟩) (oO:=⟨#[]⟩) (s20:=⟨#[]⟩) (qb:=⟨#[]⟩) (oN:=⟨#[]⟩) W (fun V hV=>Qu (bY.of hE) V ((M.box (b:=iK) 0).later hV) (ht.later (Bt M.below hV)) (hc.later (Bt M.below hV)) (hs.later (Bt M.below hV)) hb) (fun args W=>by kernel_rfl))) ?_
  refine Fx.bH [] 3 76 [(8,aB #[Z I 0,Z I 0,Z I 0,Z I 0,Z I 0,O ⟨#[]⟩,O ⟨#[]⟩,O ⟨#[]⟩,O ⟨#[]⟩,O ⟨#[]⟩,O ⟨#[]⟩,O ⟨#[]⟩,O ⟨#[]⟩,O ⟨#[]⟩,O ⟨#[]⟩,Z I 0,O ⟨#[]⟩,O ⟨#[]⟩,O ⟨#[]⟩,O ⟨#[]⟩,O ⟨#[]⟩,O ⟨#[]⟩]),(9,Z I k0)] [] fun mM=>?_;exact Fx.xE [4] [(1,#[Z I 0,Z I 0,Z I 0,Z I 0,Z I 0,O ⟨#[]⟩,O ⟨#[]⟩,O ⟨#[]⟩,O ⟨#[]⟩,O ⟨#[]⟩,O ⟨#[]⟩,O ⟨#[]⟩,O ⟨#[]⟩,O ⟨#[]⟩,O ⟨#[]⟩,Z I 0,O ⟨#[]⟩,O ⟨#[]⟩,O ⟨#[]⟩,O ⟨#[]⟩,O ⟨#[]⟩,O ⟨#[]⟩])] (fun W M=>⟨rfl,M.below⟩)
theorem JX (s:Int):s=1∨s=2∨s=3∨s<1∨3<s:=by omega
theorem sM {a1 a2 a3 a4 a5 a6 l1 l2 y1 y2:ByteArray} {s:Int} {f1 f2 n1 n2 c1 c2 m1 m2 d1 d2 g1 g2 g3 g4 g5 g6:ByteArray} {nu de v1 v2 p1 p2 q1 q2:Int} {k:Int} (hx:uz ⟨⟨a1,a2⟩,⟨a3,a4⟩,⟨a5,a6⟩⟩ ⟨l1,l2⟩ ⟨y1,y2⟩ s=(((⟨f1,f2⟩,⟨n1,n2⟩,⟨c1,c2⟩,⟨m1,m2⟩,⟨d1,d2⟩),(nu,de),⟨⟨g1,g2⟩,⟨g3,g4⟩,⟨g5,g6⟩⟩,(v1,v2),(p1,p2),(q1,q2)),k)) (w:World) (ht:iA.Pow w) (he:whole.Er w) (hc:adapt.fM w) (hs:lF w) :
  Calls Tryz.prog 11 #[aB #[O a1,O a2,O a3,O a4,O a5,O a6,O l1,O l2,O y1,O y2,Z I s]] w (fun e w'=>e= ah (aF #[aB #[O f1,O f2,O n1,O n2,O c1,O c2,O m1,O m2,O d1,O d2,Z I nu,Z I de,O g1,O g2,O g3,O g4,O g5,O g6,Z I v1,Z I v2,Z I p1,Z I p2,Z I q1,Z I q2],Z I k])∧Below w.heap.size w w'):=by
 rcases JX s with rfl|rfl|rfl|h
 ·exact JI hx w ht he hc hs
 ·exact JH hx w ht he hc hs
 ·exact JG hx w ht he hc hs
 ·exact JF hx w ht he hc hs h
theorem jA {a1 a2 a3 a4 a5 a6 l1 l2 y1 y2:ByteArray} {s k:Int} (hx:(jw ⟨⟨a1,a2⟩,⟨a3,a4⟩,⟨a5,a6⟩⟩ ⟨l1,l2⟩ ⟨y1,y2⟩ s).2=k) (w:World) (ht:iA.Pow w) (hc:adapt.fM w) (hs:lF w) :
  Calls Tryz.prog 16 #[aB #[O a1,O a2,O a3,O a4,O a5,O a6,O l1,O l2,O y1,O y2,Z I s]] w (fun e w'=>e= ah (Z I k)∧Below w.heap.size w w'):=by
 rcases JX s with rfl|rfl|rfl|h
 ·exact Nt hx w ht hc hs
 ·exact Ns hx w ht hc hs
 ·exact Nr hx w ht hc hs
 ·exact Nq hx w ht hc hs h
end Go.Proofs.view
