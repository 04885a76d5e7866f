/- Lemmas for the proof. No condition. -/
import Derived.Test.YtneajphgfdlmhaaGreatDoorQB28
import Derived.Test.YtneajphgfdlmhaaGreatDoorQB29
set_option linter.unusedVariables false
set_option linter.unusedSimpArgs false
set_option maxRecDepth 100000
set_option maxHeartbeats 16000000
open Bool renaming and_eq_true → aK
open Go.Ending renaming returned → aj
open Go.IntKind renaming i64 → I
open Go.Value renaming agg → au, bool → ak, int → Z, pointer → aB, slice → ah, string → O, tuple → aG
open List renaming all_cons → gW, all_eq_true → dX, getElem_mem → dY, mem_cons → dR, range → dz
open Nat renaming lt_or_ge → aO
namespace Go.Proofs.aU
open Go Go.RowKit Go.SW Go.Num Go.Mem Go.Proofs Go.gD Go.Proofs.dH Go.Proofs.aH Go.Proofs.ko
theorem iT (lo hi:Int) (w:World):Calls Tryz.prog 162 #[au #[Z I lo,Z I hi]] w (fun e w'=>e= aj (Z I (if iG lo hi then 0 else 30))∧Below w.heap.size w w'):=by
 have C:=fun W=>kV lo hi W;cases hb:iG lo hi<;>rw [hb] at C
 ·rw [if_neg zd];refine Fx.door Tryz.func162 rfl (.nil w []) ?_;refine Fx.new [] 1 #[Z I lo,Z I hi] 40 [] [] fun gM=>?_;refine Fx.dD [3] 4 [] [] C ?_;exact Fx.qP [1] [] (fun W M=>⟨rfl,M.below⟩)
 ·rw [if_pos rfl];refine Fx.door Tryz.func162 rfl (.nil w []) ?_;refine Fx.new [] 1 #[Z I lo,Z I hi] 40 [] [] fun gM=>?_;refine Fx.dD [3] 4 [] [] C ?_;exact Fx.qP [2] [] (fun W M=>⟨rfl,M.below⟩)
theorem yO (x y lo hi:Int) (w:World):Calls Tryz.prog 77 #[au #[Z I x,Z I y],Z I lo,Z I hi] w (fun e w'=>e= aj (d9 (AJ (x,y) lo hi))∧Below w.heap.size w w'):=by
 have C:=fun W=>kV x y W;have D:=fun W=>kV lo hi W;unfold AJ okB XO d9;simp only [gW,List.all_nil,Bool.and_true];cases hb:iG x y<;>rw [hb] at C
 ·rw [if_neg zd];refine Fx.door Tryz.func77 rfl (.nil w []) ?_;refine Fx.new [] 3 #[Z I x,Z I y] 40 [] [] fun gM=>?_;refine Fx.aY [] 6 40 [] [] fun gI=>?_;refine Fx.dD [3] 10 [] [] C ?_;exact Fx.fU 1 gI [1,4] [(1,#[Z I 0,Z I 0])] (fun W M=>⟨rfl,M.below⟩)
 ·rw [if_pos rfl];cases hb2:iG lo hi<;>rw [hb2] at D
  ·rw [if_neg zd];refine Fx.door Tryz.func77 rfl (.nil w []) ?_;refine Fx.new [] 3 #[Z I x,Z I y] 40 [] [] fun gM=>?_;refine Fx.aY [] 6 40 [] [] fun gI=>?_;refine Fx.dD [3] 10 [] [] C ?_;refine Fx.dD [2] 16 [] [] D ?_;exact Fx.fU 1 gI [1,4] [(1,#[Z I 0,Z I 0])] (fun W M=>⟨rfl,M.below⟩)
  ·rw [if_pos rfl];have b1: -1000000000000000000≤x∧x≤y∧y≤1000000000000000000:=by simpa [iG] using hb
   have b2: -1000000000000000000≤lo∧lo≤hi∧hi≤1000000000000000000:=by simpa [iG] using hb2
   have e:gT (min (max x lo) hi) (min (max y lo) hi)=((if hi<(if x<lo then lo else x) then hi else (if x<lo then lo else x),if hi<(if y<lo then lo else y) then hi else (if y<lo then lo else y)),0):=by
    have p1:min (max x lo) hi=if hi<(if x<lo then lo else x) then hi else (if x<lo then lo else x):=by split<;>(try split)<;>omega
    have p2:min (max y lo) hi=if hi<(if y<lo then lo else y) then hi else (if y<lo then lo else y):=by split<;>(try split)<;>omega
    unfold gT;rw [← p1,← p2,if_pos (by unfold iG;rw [decide_eq_true zo,decide_eq_true zo,decide_eq_true zo];rfl)]
   rw [e];refine Fx.door Tryz.func77 rfl (.nil w []) ?_;refine Fx.new [] 3 #[Z I x,Z I y] 40 [] [] fun gM=>?_;refine Fx.aY [] 6 40 [] [] fun gI=>?_;refine Fx.dD [3] 10 [] [] C ?_;refine Fx.dD [2] 16 [] [] D ?_;refine Fx.aY [2,3,3] 8 40 [(27,au #[Z I (if x<lo then lo else x),Z I (if y<lo then lo else y)])] [] fun gH=>?_;exact Fx.fU 1 gI [5,5,5,4] [(1,#[Z I (if hi<(if x<lo then lo else x) then hi else (if x<lo then lo else x)),Z I (if hi<(if y<lo then lo else y) then hi else (if y<lo then lo else y))]),(2,#[Z I (if x<lo then lo else x),Z I (if y<lo then lo else y)])] (fun W M=>⟨rfl,M.below⟩)
end Go.Proofs.aU
namespace Go.Proofs.aH
open Go Go.RowKit Go.SW Go.Num Go.Mem Go.Proofs Go.gD Go.Fx Go.Proofs.aU
end Go.Proofs.aH
namespace Go.Proofs.aQ
open Go Go.RowKit Go.SW Go.Num Go.Mem Go.Proofs Go.gD Go.Fx Go.Proofs.aH Go.Proofs.aT Go.Proofs.lab
def Jw:Fr:=⟨⟨#[49,48,48]⟩,⟨#[49]⟩⟩
theorem GK:qM 100 1=(Jw,0):=by decide+kernel
theorem Bg (W:World):Calls Tryz.prog 40 #[Z I 100,Z I 1] W (fun e w'=>e= aj (au #[O ⟨#[49,48,48]⟩,O ⟨#[49]⟩])∧Below W.heap.size W w'):=by
 have:=aT.oC 100 1 zo zo zo zo W;rw [GK] at this;exact this
theorem uY:Fits Jw:=⟨by decide,by decide⟩
def xU:Fr:=⟨⟨#[49,50,56]⟩,⟨#[49]⟩⟩
theorem GJ:qM 128 1=(xU,0):=by decide+kernel
theorem qp (W:World):Calls Tryz.prog 40 #[Z I 128,Z I 1] W (fun e w'=>e= aj (au #[O ⟨#[49,50,56]⟩,O ⟨#[49]⟩])∧Below W.heap.size W w'):=by
 have:=aT.oC 128 1 zo zo zo zo W;rw [GJ] at this;exact this
theorem mE:Fits xU:=⟨by decide,by decide⟩
def xS:Fr:=⟨⟨#[50,53,54]⟩,⟨#[49]⟩⟩
theorem GI:qM 256 1=(xS,0):=by decide+kernel
theorem qo (W:World):Calls Tryz.prog 40 #[Z I 256,Z I 1] W (fun e w'=>e= aj (au #[O ⟨#[50,53,54]⟩,O ⟨#[49]⟩])∧Below W.heap.size W w'):=by
 have:=aT.oC 256 1 zo zo zo zo W;rw [GI] at this;exact this
theorem mD:Fits xS:=⟨by decide,by decide⟩
theorem OT {r:(Int × Int) × Int} {x:(Int × Int)} {k:Int} (h:got 0 r=(x,k)):r.2=k∧(k=0→r.1=x)∧(k≠0→x=(0,0)):=by
 unfold got at h;rw [if_pos rfl] at h;split at h<;>cases h
 ·rename_i h0;exact ⟨h0,fun _=>rfl,fun h=>absurd rfl h⟩
 ·rename_i h0;exact ⟨rfl,fun h=>absurd h h0,fun _=>rfl⟩
theorem JO {r:Fr × Int} {x:Fr} {k:Int} (h:iW 0 r=(x,k)):r.2=k∧(k=0→r.1=x)∧(k≠0→x=zF):=by
 unfold iW at h;rw [if_pos rfl] at h;split at h<;>cases h
 ·rename_i h0;exact ⟨h0,fun _=>rfl,fun h=>absurd rfl h⟩
 ·rename_i h0;exact ⟨rfl,fun h=>absurd h h0,fun _=>rfl⟩
theorem qV {E:Int} (h:E≠0) (r:(Int × Int) × Int):got E r=((0,0),E):=by unfold got;rw [if_neg h]
theorem pI {E:Int} (h:E≠0) (r:Fr × Int):iW E r=(zF,E):=by unfold iW;rw [if_neg h]
theorem JN {α:Type} (r:α × Int) (f:α→(Int × Int) × Int):got 0 (cK (0,0) r f)=if r.2=0 then got 0 (f r.1) else ((0,0),r.2):=by
 unfold cK;split
 ·rfl
 ·rename_i h;unfold got;rw [if_pos rfl,if_neg h]
theorem JM (r:(Int × Int) × Int):got 0 r=if r.2=0 then (r.1,0) else ((0,0),r.2):=by unfold got;rw [if_pos rfl]
theorem zq (r:Fr × Int):iW 0 r=if r.2=0 then (r.1,0) else (zF,r.2):=by unfold iW;rw [if_pos rfl]
end Go.Proofs.aQ
namespace Go.Proofs.aT
open Go Go.RowKit Go.SW Go.Num Go.Mem Go.Proofs Go.Dec Go.gD Go.Proofs.aH Go.Proofs.light
theorem sG (a:Fr) (w:World) (hf:Fits a):Calls Tryz.prog 107 #[a.v] w (fun e w'=>e= aj (Z I (kF a).1)∧Below w.heap.size w w'):=by
 have H1:=zh (fun W=>aH.sG a W hf);obtain ⟨⟨k,j⟩,E⟩:∃ y,kF a=y:=⟨_,rfl⟩;rw [E] at H1 ⊢;obtain ⟨s,t⟩:=a;unfold Fr.v at *;clear E hf;go_enter Tryz.func107,Tryz.ntmps107
 go_wp2_with fail
 obtain ⟨lZ,EW,hz,X1⟩:=wR w #[O s,O t] 32;rw [EW];have hk2:=Bt (Below.refl _ _) hz;clear EW hz;refine (H1.out _).mono ?_;rintro e oo ⟨rfl,hb3⟩;replace X1:=X1.bl hb3;have hk5:=Bt hk2 hb3;clear hk2;clear hb3;go_wp2_with fail
 go_ret
 exact ⟨rfl,hk5⟩
theorem KJ (v:Value) (l:List Fr) (T:TypeId) (w:World) (h:R6 w T v l) (hf:∀ x∈l,Fits x) :
  Calls Tryz.prog 85 #[v] w (fun e w'=>e= aj (Z I (qG l))∧Below w.heap.size w w'):=by
 obtain ⟨a,cap,rfl,hc1,hc2,hread⟩:=h.read;have H:=zh hread;have HF:=zh hf;clear h hread hf;go_enter Tryz.func85,Tryz.ntmps85
 go_wp2_with fail
 go_loopw [3] (fun iv wr=>∃ k:Nat,iv= Z I (k:Int)∧k≤l.length∧Hid (∀ j (h:j<l.length),j<k→(rd l[j]).isSome=true)∧Below w.heap.size w wr) (fun iv _=>l.length - (intOf iv).toNat)
 case atStart=>exact ⟨0,rfl,by omega,zh (fun j _ h=>by omega),Below.refl _ _⟩
 case round =>
  obtain ⟨k,rfl,hk,HK,hb⟩:=hrel
  rcases aO k l.length with hlt|hge
  ·obtain ⟨b,off,rfl,hbl,hx1,hx2⟩:=H.out k hlt;have hc1:=(hb.cell (p:=⟨b,off+k*2,none⟩) hbl).trans hx1;have hc2:=(hb.cell (p:=⟨b,off+k*2+1,none⟩) hbl).trans hx2;clear hx1 hx2;have hck:=fun W=>iT l[k] W (HF.out _ (dY hlt));generalize hlk:l[k]=lk at *;obtain ⟨s,t⟩:=lk;cases hv:(rd ⟨s,t⟩).isSome with
   | true =>
    rw [J5 hv] at hck;have HCK:Hid (∀ w,Calls Tryz.prog 169 #[au #[O s,O t]] w (fun e w'=>e= aj (Z I 0)∧Below w.heap.size w w')):=zh hck;have HLK:=zh hlk;have HV:=zh hv;clear hck hlk hv;go_wp2_with fail
    refine (HCK.out _).mono ?_;rintro e v1 ⟨rfl,hc1⟩;go_wp2_with fail
    go_roundw
    case rel =>
     refine ⟨k+1,by go_num,by omega,zh fun j hj hjk=>?_,Bt hb aF⟩
     rcases aO j k with h|h
     ·exact HK.out j hj h
     ·obtain rfl:j=k:=by omega
      rw [HLK.out];exact HV.out
    case measure=>exact zM
   | false =>
    rw [U3 hv] at hck;have HCK:Hid (∀ w,Calls Tryz.prog 169 #[au #[O s,O t]] w (fun e w'=>e= aj (Z I 20)∧Below w.heap.size w w')):=zh hck
    have hno:qG l=20:=by
     unfold qG;rw [if_neg];intro h;have:=List.all_eq_true.1 h l[k] (dY _);rw [hlk,hv] at this;cases this
    have HNO:=zh hno;clear hck hlk hv hno;go_wp2_with fail
    refine (HCK.out _).mono ?_;rintro e v1 ⟨rfl,hc1⟩;go_wp2_with fail
    go_ret
    exact ⟨by rw [HNO.out];rfl,Bt hb aF⟩
  ·have hyes:qG l=0:=by
    unfold qG;rw [if_pos];rw [dX];intro x hx;obtain ⟨j,hj,rfl⟩:=List.getElem_of_mem hx;exact HK.out j hj zo
   have ah2:=zh hyes;clear hyes;obtain rfl:k=l.length:=by omega
   go_wp2_with fail
   go_ret
   exact ⟨by rw [ah2.out];rfl,hb⟩
def nY (t:iJ):Prop:=∀ i,i<3→Fits (t.get i)
theorem nY.mem {t:iJ} (h:nY t):∀ x∈t.list,Fits x:=fun x hx=>by
 simp only [iJ.list,dR,List.not_mem_nil,or_false] at hx
 rcases hx with rfl|rfl|rfl
 ·exact h 0 zo
 ·exact h 1 zo
 ·exact h 2 zo
theorem iJ.at {w:World} {b:Nat} {t:iJ} {T:TypeId} (h:aA w b t.cells T) {k:Nat} (hk:k<3):w.cell? ⟨b,k*2,none⟩=some (.string (t.get k).n)∧w.cell? ⟨b,k*2+1,none⟩=some (.string (t.get k).d):=by
 have hc:k=0∨k=1∨k=2:=by omega
 rcases hc with rfl|rfl|rfl<;>exact ⟨h.cell _,h.cell _⟩
theorem RP {t:iJ} (h:∀ i,i<3→decide ((fun f:Fr=>0≤(kF f).1) (t.get i))=true):t.list.all (fun f=>decide (0≤(kF f).1))=true:=by
 have h0:=h 0 zo;have h1:=h 1 zo;have h2:=h 2 zo;simp only [iJ.list,gW,List.all_nil,Bool.and_true,aK];exact ⟨h0,h1,h2⟩
theorem VH {t:iJ} {i:Nat} (hi:i<3) (h:decide ((fun f:Fr=>0≤(kF f).1) (t.get i))=false):t.list.all (fun f=>decide (0≤(kF f).1))=false:=by
 have hc:i=0∨i=1∨i=2:=by omega
 simp only [iJ.list,gW,List.all_nil,Bool.and_true]
 rcases hc with rfl|rfl|rfl
 ·have h:decide ((fun f:Fr=>0≤(kF f).1) t.x)=false:=h;simp only at h;rw [h];rfl
 ·have h:decide ((fun f:Fr=>0≤(kF f).1) t.y)=false:=h;simp only at h;rw [h];simp
 ·have h:decide ((fun f:Fr=>0≤(kF f).1) t.z)=false:=h;simp only at h;rw [h];simp
theorem O9 {t:iJ} (h:qG t.list≠0):sw t=20∧qG t.list=20:=by
 unfold sw;rw [if_neg h];refine ⟨rfl,?_⟩;unfold qG at *;split at h
 ·exact absurd rfl h
 ·rename_i h2;rw [if_neg h2]
def KL (t:iJ):Prop:=qG t.list=0
theorem Yx {t:iJ} (h0:KL t) {G:Nat→Fr} (hG:∀ k,k<3→t.get k=G k):(∀ k,k<3→decide ((fun f:Fr=>0≤(kF f).1) (G k))=false→sw t=2)∧((∀ k,k<3→decide ((fun f:Fr=>0≤(kF f).1) (G k))=true)→sw t=0):=by
 unfold sw;unfold KL at h0;rw [if_pos h0];refine ⟨fun k hk h=>?_,fun h=>?_⟩
 ·rw [if_neg];rw [VH hk (by rw [hG k hk];exact h)];simp
 ·rw [if_pos];exact RP fun i hi=>by rw [hG i hi];exact h i hi
theorem iT (t:iJ) (w:World) (hf:nY t):Calls Tryz.prog 53 #[t.v] w (fun e w'=>e= aj (Z I (sw t))∧Below w.heap.size w w'):=by
 have FR:=zh (fun W b (h:aA W b t.cells 32)=>KJ _ _ _ W (iJ.frs h) hf.mem)
 by_cases hc:qG t.list=0
 rotate_left
 ·rw [(O9 hc).1];rw [(O9 hc).2] at FR;obtain ⟨⟨x1,x2⟩,⟨x3,x4⟩,⟨x5,x6⟩⟩:=t;unfold iJ.cells at FR;unfold iJ.v iJ.cells;clear hc hf;go_enter Tryz.func53,Tryz.ntmps53
  go_wp2_with fail
  refine (FR.out _ _ (aA.pV _ _ _ _)).mono ?_;rintro e w1 ⟨rfl,hb⟩;go_wp2_with fail
  go_ret
  exact ⟨rfl,Bt aF hb⟩
 rw [hc] at FR;obtain ⟨G,eG⟩:∃ G,t.get=G:=⟨_,rfl⟩;have hG:∀ k,k<3→t.get k=G k:=fun k _=>by rw [eG]
 obtain ⟨h2,h0⟩:=Yx hc hG;have H2:=zh h2;have H0:=zh h0;have SG:Hid (∀ k,k<3→∀ W,Calls Tryz.prog 107 #[(G k).v] W (fun e w'=>e= aj (Z I (kF (G k)).1)∧Below W.heap.size W w')):=zh fun k hk W=>by rw [← hG k hk];exact sG _ W (hf k hk)
 have AT:Hid (∀ (W:World) b,aA W b t.cells 34→∀ k,k<3→W.cell? ⟨b,k*2,none⟩=some (.string (G k).n)∧W.cell? ⟨b,k*2+1,none⟩=some (.string (G k).d)):=zh fun W b h k hk=>by rw [← hG k hk];exact iJ.at h hk
 generalize sw t=z at *;obtain ⟨⟨x1,x2⟩,⟨x3,x4⟩,⟨x5,x6⟩⟩:=t;unfold iJ.cells at FR AT;unfold iJ.v iJ.cells;clear hc hf hG eG h2 h0;have X:=zh (aA.new w #[O x1,O x2,O x3,O x4,O x5,O x6] 34);go_enter Tryz.func53,Tryz.ntmps53
 go_wp2_with fail
 refine (FR.out _ _ (aA.pV _ _ _ _)).mono ?_;rintro e wl ⟨rfl,hb⟩;have HB:=zh (Bt (w:=w) aF hb);replace X:=zh ((X.out.alloc _).later hb);generalize w.heap.size=p at X;clear hb;go_wp2_with fail
 go_loopw [4] (fun iv wr=>∃ k:Nat,iv= Z I (k:Int)∧k≤3∧Hid (∀ j,j<k→decide ((fun f:Fr=>0≤(kF f).1) (G j))=true)∧Below wl.heap.size wl wr) (fun iv _=>3 - (intOf iv).toNat)
 case atStart=>exact ⟨0,rfl,by omega,zh (fun j h=>by omega),Below.refl _ _⟩
 case round =>
  obtain ⟨k,rfl,hk,HK,hb⟩:=hrel
  rcases aO k 3 with hlt|hge
  ·obtain ⟨c1,c2⟩:=AT.out wr p (X.out.later hb) k hlt;have l1:=(X.out.later hb).lt;have hs:=SG.out k hlt;have H2K:=zh (H2.out k hlt);generalize hgk:G k=g at *;have HGK:=zh hgk;obtain ⟨s,t⟩:=g;generalize hsg:(kF ⟨s,t⟩).1=sg at *;have R5:=zh hsg;have S:Hid (∀ W,Calls Tryz.prog 107 #[au #[O s,O t]] W (fun e w'=>e= aj (Z I sg)∧Below W.heap.size W w')):=zh hs;clear hs hsg hgk
   by_cases hn:sg<0
   ·have HN:=zh hn;clear hn;have hn1:decide (sg<0)=true:=decide_eq_true HN.out;go_wp2_with fail
    refine (S.out _).mono ?_;rintro e v1 ⟨rfl,hc1⟩;go_wp2_with fail
    go_ret
    exact ⟨by rw [H2K.out (by rw [decide_eq_false_iff_not];have:=HN.out;have:=R5.out;omega)];rfl,Bt HB.out (Bt hb aF)⟩
   ·have HN:=zh hn;clear hn;have hn1:decide (sg<0)=false:=decide_eq_false HN.out;go_wp2_with fail
    refine (S.out _).mono ?_;rintro e v1 ⟨rfl,hc1⟩;go_wp2_with fail
    go_roundw
    case rel =>
     refine ⟨k+1,by go_num,by omega,zh fun j hj=>?_,Bt hb aF⟩
     rcases aO j k with h|h
     ·exact HK.out j h
     ·obtain rfl:j=k:=by omega
      rw [HGK.out,decide_eq_true_iff];have:=HN.out;have:=R5.out;omega
    case measure=>exact zM
  ·obtain rfl:k=3:=by omega
   have HZ:=zh (H0.out HK.out);go_wp2_with fail
   go_ret
   exact ⟨by rw [HZ.out];rfl,Bt HB.out hb⟩
end Go.Proofs.aT
namespace Go.Proofs.aQ
open Go Go.RowKit Go.SW Go.Num Go.Mem Go.Proofs Go.gD Go.Fx Go.Proofs.aH Go.Proofs.aT Go.Proofs.lab
theorem CQ {α:Type} {z:α} {E F:Int} {r:(Int × Int) × Int} {v:Int × Int} {k:Int × Int→α × Int} {R:α × Int} (e:got E r=(v,F)) (hk:(F=0→R=k v)∧(F≠0→R=(z,F))):(E=0→R=cK z r k)∧(E≠0→R=(z,E)):=by
 refine ⟨fun h=>?_,fun h=>?_⟩
 ·subst h;obtain ⟨g1,g2,g3⟩:=OT e;unfold cK;rw [g1]
  by_cases hF:F=0
  ·rw [if_pos hF,g2 hF];exact hk.1 hF
  ·rw [if_neg hF];exact hk.2 hF
 ·rw [qV h] at e;cases e
  exact hk.2 h
theorem oO {α:Type} {z:α} {E F:Int} {r:Fr × Int} {v:Fr} {k:Fr→α × Int} {R:α × Int} (e:iW E r=(v,F)) (hk:(F=0→R=k v)∧(F≠0→R=(z,F))):(E=0→R=cK z r k)∧(E≠0→R=(z,E)):=by
 refine ⟨fun h=>?_,fun h=>?_⟩
 ·subst h;obtain ⟨g1,g2,g3⟩:=JO e;unfold cK;rw [g1]
  by_cases hF:F=0
  ·rw [if_pos hF,g2 hF];exact hk.1 hF
  ·rw [if_neg hF];exact hk.2 hF
 ·rw [pI h] at e;cases e
  exact hk.2 h
theorem Xv {α:Type} {z x:α} (F:Int):(F=0→(if F=0 then ((x,0):α × Int) else (z,F))=nZ x)∧(F≠0→(if F=0 then (x,0) else (z,F))=(z,F)):=⟨fun h=>if_pos h,fun h=>if_neg h⟩
theorem Ux (r:(Int × Int) × Int):got 0 (cK (0,0) r nZ)=got 0 r:=by
 obtain ⟨v,k⟩:=r;rw [JN,JM (v,k)]
 by_cases h:k=0
 ·rw [if_pos h,if_pos h];rfl
 ·rw [if_neg h,if_neg h]
theorem wO {α β:Type} {z v:β} {r:α × Int} {f:α→β × Int} {k:Int} (h:cK z r f=(v,k)):v=z∨∃ x,f x=(v,k):=by
 unfold cK at h;split at h
 ·exact .inr ⟨_,h⟩
 ·cases h;exact .inl rfl
theorem H7 {α β:Type} (z:β) (x:α) (f:α→β × Int):cK z (x,0) f=f x:=rfl
end Go.Proofs.aQ
namespace Go.Proofs.aQ
open Go Go.RowKit Go.SW Go.Num Go.Mem Go.Proofs Go.gD Go.Fx Go.Proofs.lab
theorem Dw {a1 a2 a3 a4 a5 a6 k:Int} (hk:qg ((a1,a2),(a3,a4),(a5,a6))=k) (w:World) (b:Nat) (X:aA w b #[Z I a1,Z I a2,Z I a3,Z I a4,Z I a5,Z I a6] 40) :
  Calls Tryz.prog 75 #[ah (some ⟨b,0,none⟩) 3 3] w (fun e w'=>e= aj (Z I k)∧Below w.heap.size w w'):=by
 have C1:∀ W,Calls Tryz.prog 162 #[au #[Z I a1,Z I a2]] W (fun e w'=>e= aj (Z I (jY (a1,a2)))∧Below W.heap.size W w'):=fun W=>aU.iT a1 a2 W;have C2:∀ W,Calls Tryz.prog 162 #[au #[Z I a3,Z I a4]] W (fun e w'=>e= aj (Z I (jY (a3,a4)))∧Below W.heap.size W w'):=fun W=>aU.iT a3 a4 W;have C3:∀ W,Calls Tryz.prog 162 #[au #[Z I a5,Z I a6]] W (fun e w'=>e= aj (Z I (jY (a5,a6)))∧Below W.heap.size W w'):=fun W=>aU.iT a5 a6 W
 have hk:(jY (a1,a2)≠0∧jY (a1,a2)=k)∨(jY (a1,a2)=0∧((jY (a3,a4)≠0∧jY (a3,a4)=k)∨(jY (a3,a4)=0∧((jY (a5,a6)≠0∧jY (a5,a6)=k)∨(jY (a5,a6)=0∧0=k))))):=by
  subst hk;unfold qg
  dsimp only
  by_cases h1:jY (a1,a2)=0<;>by_cases h2:jY (a3,a4)=0<;>by_cases h3:jY (a5,a6)=0<;>simp [h1,h2,h3]
 generalize jY (a1,a2)=c1 at *;generalize jY (a3,a4)=c2 at *;generalize jY (a5,a6)=c3 at *;refine Fx.door Tryz.func75 rfl (.ro X (.nil w [])) ?_;refine Fx.dD [1,3] 15 [(3,Z I 0)] [] C1 ?_;refine Fx.part 7 [] [(17,ak (!(c1 == 0))),(4,Z I c1)] [] ?_;refine Fx.splitB (fun hf1=>?_) (fun hf1=>?_)
 ·skip
  replace hk:=hk.elim (fun g=>g.2) (fun g=>absurd g.1 (by simpa using hf1));subst hk;exact Fx.qP [1] [] (fun W M=>⟨rfl,M.below⟩)
 ·skip
  replace hk:=hk.elim (fun g=>absurd (by simpa using hf1) g.1) (fun g=>g.2);try subst hk
  refine Fx.dD [2,1,3] 15 [(3,Z I 1)] [] C2 ?_;refine Fx.part 7 [] [(17,ak (!(c2 == 0))),(4,Z I c2)] [] ?_;refine Fx.splitB (fun hf2=>?_) (fun hf2=>?_)
  ·skip
   replace hk:=hk.elim (fun g=>g.2) (fun g=>absurd g.1 (by simpa using hf2));subst hk;exact Fx.qP [1] [] (fun W M=>⟨rfl,M.below⟩)
  ·skip
   replace hk:=hk.elim (fun g=>absurd (by simpa using hf2) g.1) (fun g=>g.2);try subst hk
   refine Fx.dD [2,1,3] 15 [(3,Z I 2)] [] C3 ?_;refine Fx.part 7 [] [(17,ak (!(c3 == 0))),(4,Z I c3)] [] ?_;refine Fx.splitB (fun hf3=>?_) (fun hf3=>?_)
   ·skip
    replace hk:=hk.elim (fun g=>g.2) (fun g=>absurd g.1 (by simpa using hf3));subst hk;exact Fx.qP [1] [] (fun W M=>⟨rfl,M.below⟩)
   ·skip
    replace hk:=hk.elim (fun g=>absurd (by simpa using hf3) g.1) (fun g=>g.2);try subst hk
    exact Fx.qP [2,2] [] (fun W M=>⟨rfl,M.below⟩)
theorem ag7 {E u v F:Int} {l:List (Int × Int)} {V:Value} (h:got E (power.qQ l)=((u,v),F)) {b:Nat} {w:World} (X:aA w b #[Z I E] 100) (hv:∀ W,om [b] w W→wY W 40 V l) :
  Calls Tryz.prog 76 #[aB (some ⟨b,0,none⟩),V] w (fun e w'=>e= aj (au #[Z I u,Z I v])∧om [b] w w'∧aA w' b #[Z I F] 100):=by
 obtain ⟨⟨⟨x,y⟩,k⟩,hr⟩:∃ z,power.qQ l=z:=⟨_,rfl⟩;have C:=fun W H=>fF.Ig V 40 l W H;rw [hr] at C h;refine Fx.door Tryz.func76 rfl (.one X) ?_;refine Fx.aY [] 4 40 [] [] fun gM=>?_;refine Fx.call [] 9 [] [] (fun W M=>C _ (hv _ M.vO)) ?_;refine Fx.aY [] 5 40 [(10,au #[Z I x,Z I y]),(11,Z I k)] [] fun gI=>?_;refine Fx.iI [5,5] 15 0 [] [(2,#[Z I x,Z I y])] (fun W M=>KH h (M.box (b:=b) 0)) ?_;exact Fx.iC 1 gM [4] [(1,#[Z I u,Z I v])] (fun W M=>⟨rfl,M.vO,M.box (b:=b) 0⟩)
def Pj (k:Int) (f:Int × Int) (t:(Int × Int) × (Int × Int) × (Int × Int)):(Int × Int) × (Int × Int) × (Int × Int):=if k%3=0 then (f,t.2) else if k%3=1 then (t.1,f,t.2.2) else (t.1,t.2.1,f)
theorem Bl (k:Int) (hk:0≤k∧k≤255) (s t s1 t1 s2 t2 s3 t3:Int) {x1 y1 x2 y2 x3 y3:Int} (h:Pj k (s,t) ((s1,t1),(s2,t2),(s3,t3))=((x1,y1),(x2,y2),(x3,y3))) (w:World) :
  Calls Tryz.prog 21 #[au #[Z .u8 k,Z I s,Z I t],au #[Z I s1,Z I t1,Z I s2,Z I t2,Z I s3,Z I t3]] w
   (fun e w'=>e= aj (au #[Z I x1,Z I y1,Z I x2,Z I y2,Z I x3,Z I y3])∧Below w.heap.size w w'):=by
 have hm:k.tmod 3=k%3:=Int.tmod_eq_emod_of_nonneg hk.1;have hl:k%3=0∨k%3=1∨k%3=2:=by omega
 unfold Pj at h
 rcases hl with hl|hl|hl
 ·rw [hl] at hm h;cases h
  refine Fx.door Tryz.func21 rfl (.nil w []) ?_;refine Fx.new [] 2 #[Z .u8 k,Z I s,Z I t] 66 [] [] fun gM=>?_;refine Fx.new [] 3 #[Z I s1,Z I t1,Z I s2,Z I t2,Z I s3,Z I t3] 42 [] [] fun gI=>?_;refine Fx.aY [] 4 42 [] [] fun gH=>?_;refine Fx.part 7 [3] [(7,Z .u8 (Int.tmod k 3))] [] ?_;refine Fx.pU (Z .u8 0) (congrArg (Value.int .u8) hm) ?_;exact Fx.iC 2 gH [3,3,4,4,5] [(1,#[Z I s,Z I t,Z I s2,Z I t2,Z I s3,Z I t3]),(2,#[Z I s,Z I t,Z I s2,Z I t2,Z I s3,Z I t3])] (fun W M=>⟨rfl,M.below⟩)
 ·rw [hl] at hm h;cases h
  refine Fx.door Tryz.func21 rfl (.nil w []) ?_;refine Fx.new [] 2 #[Z .u8 k,Z I s,Z I t] 66 [] [] fun gM=>?_;refine Fx.new [] 3 #[Z I s1,Z I t1,Z I s2,Z I t2,Z I s3,Z I t3] 42 [] [] fun gI=>?_;refine Fx.aY [] 4 42 [] [] fun gH=>?_;refine Fx.part 7 [3] [(7,Z .u8 (Int.tmod k 3))] [] ?_;refine Fx.pU (Z .u8 1) (congrArg (Value.int .u8) hm) ?_;exact Fx.iC 2 gH [3,3,4,4,5] [(1,#[Z I s1,Z I t1,Z I s,Z I t,Z I s3,Z I t3]),(2,#[Z I s1,Z I t1,Z I s,Z I t,Z I s3,Z I t3])] (fun W M=>⟨rfl,M.below⟩)
 ·rw [hl] at hm h;cases h
  refine Fx.door Tryz.func21 rfl (.nil w []) ?_;refine Fx.new [] 2 #[Z .u8 k,Z I s,Z I t] 66 [] [] fun gM=>?_;refine Fx.new [] 3 #[Z I s1,Z I t1,Z I s2,Z I t2,Z I s3,Z I t3] 42 [] [] fun gI=>?_;refine Fx.aY [] 4 42 [] [] fun gH=>?_;refine Fx.part 7 [3] [(7,Z .u8 (Int.tmod k 3))] [] ?_;refine Fx.pU (Z .u8 2) (congrArg (Value.int .u8) hm) ?_;exact Fx.iC 2 gH [3,3,4,4,5] [(1,#[Z I s1,Z I t1,Z I s2,Z I t2,Z I s,Z I t]),(2,#[Z I s1,Z I t1,Z I s2,Z I t2,Z I s,Z I t])] (fun W M=>⟨rfl,M.below⟩)
theorem X0 (w:World):Calls Tryz.prog 60 #[Z I 1] w (fun e w'=>e= aj (au #[Z I 1000000000000,Z I 1000000000000])∧Below w.heap.size w w'):=by
 refine Fx.door Tryz.func60 rfl (.nil w []) ?_;refine Fx.aY [] 2 40 [] [] fun gM=>?_;exact Fx.iC 0 gM [3] [(0,#[Z I 1000000000000,Z I 1000000000000])] (fun W M=>⟨rfl,M.below⟩)
theorem Rp {a1 a2 a3 a4 a5 a6 k:Int} (hk:qg ((a1,a2),(a3,a4),(a5,a6))=k) (h0:k≠0) (w:World) :
  Calls Tryz.prog 23 #[au #[Z I a1,Z I a2,Z I a3,Z I a4,Z I a5,Z I a6]] w (fun e w'=>e= aj (aG #[au #[Z I 0,Z I 0],au #[Z I 0,Z I 0,Z I 0,Z I 0],Z I k])∧Below w.heap.size w w'):=by
 refine Fx.door Tryz.func23 rfl (.nil w []) ?_;refine Fx.new [] 1 #[Z I a1,Z I a2,Z I a3,Z I a4,Z I a5,Z I a6] 42 [] [] fun gM=>?_;refine Fx.aY [] 2 40 [] [] fun gI=>?_;refine Fx.aY [] 3 70 [] [] fun gH=>?_;refine Fx.newS [3,3,3] 19 3 3 #[Z I a1,Z I a2,Z I a3,Z I a4,Z I a5,Z I a6] 40 [] [] fun oP=>?_;refine Fx.call [] 20 [] [] (fun W M=>Dw hk _ _ (M.box (b:=oP) 3)) ?_;refine Fx.part 7 [] [(22,ak (!(k == 0))),(5,Z I k)] [] ?_;refine Fx.o7 true (by simp [h0]) ?_;exact Fx.wB 1 gI 2 gH [1,4,5] [(1,#[Z I 0,Z I 0]),(2,#[Z I 0,Z I 0,Z I 0,Z I 0])] (fun W M=>⟨rfl,M.below⟩)
theorem Np {a1 a2:Int} (hk:qg ((a1,a2),(0,0),(0,0))=0) (w:World) :
  Calls Tryz.prog 23 #[au #[Z I a1,Z I a2,Z I 0,Z I 0,Z I 0,Z I 0]] w (fun e w'=>e= aj (aG #[au #[Z I 0,Z I 0],au #[Z I 1000000000000,Z I 1000000000000,Z I 0,Z I 0],Z I 0])∧Below w.heap.size w w'):=by
 refine Fx.door Tryz.func23 rfl (.nil w []) ?_;refine Fx.new [] 1 #[Z I a1,Z I a2,Z I 0,Z I 0,Z I 0,Z I 0] 42 [] [] fun gM=>?_;refine Fx.aY [] 2 40 [] [] fun gI=>?_;refine Fx.aY [] 3 70 [] [] fun gH=>?_;refine Fx.newS [3,3,3] 19 3 3 #[Z I a1,Z I a2,Z I 0,Z I 0,Z I 0,Z I 0] 40 [] [] fun oP=>?_;refine Fx.call [] 20 [] [] (fun W M=>Dw hk _ _ (M.box (b:=oP) 3)) ?_;refine Fx.aY [2] 6 40 [(26,au #[Z I 0,Z I 0])] [] fun Iy=>?_;refine Fx.draw [7,3,7,3,7,1] [0,2,1,3,3004,5,5006] [1] [] [(4,#[Z I 0,Z I 0])] ?_;refine Fx.call [7,7] 38 [(37,au #[Z I 0,Z I 0]),(39,au #[Z I 0,Z I 0])] [] (fun W M=>X0 _) ?_
 exact Fx.wB 1 gI 2 gH [4,5] [(1,#[Z I 0,Z I 0]),(2,#[Z I 1000000000000,Z I 1000000000000,Z I 0,Z I 0])] (fun W M=>⟨rfl,M.below⟩)
theorem ZW {w0 w:World} {H:List Nat} {L:Mm} (M:Mem w0 H L w) (i j:Nat) {b c:Nat} (h:((L[i]?).map (fun x=>(x.b,x.o)),(L[j]?).map (fun x=>x.b),Nat.beq i j)=(some (b,true),some c,false):=by kernel_rfl):c≠b:=by
 simp only [Prod.mk.injEq,Option.map_eq_some_iff] at h;obtain ⟨⟨x,hx,e1,e2⟩,⟨y,hy,e3⟩,hn⟩:=h;subst e1 e3;exact fun e=>M.UW i j x y hx hy (fun g=>by subst g;rw [Nat.beq_refl] at hn;cases hn) e2 e.symm
theorem Nq {a1 a2 a3 a4 a5 a6 c d E1 E2 u1 v1 F1 s1 t1 k1 x1 y1 G1 u2 v2 F2 s2 t2 k2 x2 y2 G2:Int} (hk:qg ((a1,a2),(a3,a4),(a5,a6))=0) (hz:(sS (a3,a4) (0,0)&&sS (a5,a6) (0,0))=false)
  (g0:got 0 (power.qQ [(a3,a4),(a5,a6)])=((c,d),E1)) (hA:E1=0→c≤0→E2=7) (hB:E1≠0→E1=E2) (hC:E1=0→¬ c≤0→E1=E2)
  (d1:got E2 (dH.yA (a3,a4) (c,d))=((u1,v1),F1)) (p1:dH.AJ (u1,v1) (-1000000000000) 1000000000000=((s1,t1),k1)) (q1:got F1 ((s1,t1),k1)=((x1,y1),G1))
  (d2:got G1 (dH.yA (a5,a6) (c,d))=((u2,v2),F2)) (p2:dH.AJ (u2,v2) (-1000000000000) 1000000000000=((s2,t2),k2)) (q2:got F2 ((s2,t2),k2)=((x2,y2),G2)) (w:World) :
  Calls Tryz.prog 23 #[au #[Z I a1,Z I a2,Z I a3,Z I a4,Z I a5,Z I a6]] w (fun e w'=>(G2=0→e= aj (aG #[au #[Z I c,Z I d],au #[Z I x1,Z I y1,Z I x2,Z I y2],Z I 0]))∧(G2≠0→e= aj (aG #[au #[Z I 0,Z I 0],au #[Z I 0,Z I 0,Z I 0,Z I 0],Z I G2]))∧Below w.heap.size w w'):=by
 have P1:=fun W=>aU.yO u1 v1 (-1000000000000) 1000000000000 W;have P2:=fun W=>aU.yO u2 v2 (-1000000000000) 1000000000000 W;rw [p1] at P1;rw [p2] at P2;have r1:=rT a3 a4 0 0;have r2:=rT a5 a6 0 0;generalize sS (a3,a4) (0,0)=f at *;generalize sS (a5,a6) (0,0)=g at *;clear p1 p2;refine Fx.door Tryz.func23 rfl (.nil w []) ?_;refine Fx.new [] 1 #[Z I a1,Z I a2,Z I a3,Z I a4,Z I a5,Z I a6] 42 [] [] fun gM=>?_;refine Fx.aY [] 2 40 [] [] fun gI=>?_;refine Fx.aY [] 3 70 [] [] fun gH=>?_;refine Fx.newS [3,3,3] 19 3 3 #[Z I a1,Z I a2,Z I a3,Z I a4,Z I a5,Z I a6] 40 [] [] fun oP=>?_;refine Fx.call [] 20 [] [] (fun W M=>Dw hk _ _ (M.box (b:=oP) 3)) ?_;refine Fx.aY [2] 6 40 [(26,au #[Z I 0,Z I 0])] [] fun Iy=>?_
 refine Fx.part 9 [7,3,7] [(28,au #[Z I a3,Z I a4]),(29,au #[Z I 0,Z I 0])] [(4,#[Z I 0,Z I 0])] ?_;apply Fx.cut []
 ·intro K6;cases f
  ·skip
   refine Fx.eql 0 [] 30 true false 40 (au #[Z I a3,Z I a4]) (au #[Z I 0,Z I 0]) [] [] (r1) ?_;exact Fx.meet 11 [0,0,2] K6 rfl
  ·skip
   refine Fx.eql 0 [] 30 true true 40 (au #[Z I a3,Z I a4]) (au #[Z I 0,Z I 0]) [] [] (r1) ?_;cases g
   ·skip
    refine Fx.eql 4 [3,7] 35 true false 40 (au #[Z I a5,Z I a6]) (au #[Z I 0,Z I 0]) [(31,ak true)] [] (r2) ?_;exact Fx.meet 6 [2] K6 zk
   ·skip
    cases hz
 ·skip
  refine Fx.aY [] 7 100 [] [] fun Ke=>?_;refine Fx.newS [3,3] 45 2 2 #[Z I a3,Z I a4,Z I a5,Z I a6] 40 [] [] fun VT=>?_;refine Fx.iI [] 46 5 [] [] (fun W M=>ag7 g0 (M.box (b:=Ke) 5) (fun _ h=>wY.two (h.ar6 (M.box (b:=VT) 6) (ZW M 5 6)))) ?_;refine Fx.aY [] 8 40 [] [] fun bz9=>?_;refine Fx.part 8 [10,8] [(48,Z I E1)] [(7,#[Z I c,Z I d])] ?_;apply Fx.cut [(5,#[Z I E2])]
  ·intro K10;refine Fx.part 1 [] [(49,ak (E1 == 0))] [] ?_;refine Fx.splitB (fun hf1=>?_) (fun hf1=>?_)
   ·skip
    have h1:E1=0:=by simpa using hf1
    refine Fx.part 4 [10] [(53,ak (decide (c≤0))),(50,ak true)] [] ?_;refine Fx.splitB (fun hf2=>?_) (fun hf2=>?_)
    ·skip
     obtain rfl:E2=7:=hA h1 (by simpa using hf2);exact Fx.meet 9 [1,8] K10 rfl
    ·skip
     obtain rfl:E1=E2:=hC h1 (by simpa using hf2);exact Fx.meet 6 [2] K10 zk
   ·skip
    obtain rfl:E1=E2:=hB (by simpa using hf1);exact Fx.meet 10 [0,2] K10 zk
  ·skip
   refine Fx.aY [] 9 70 [] [] fun ae6=>?_;refine Fx.draw [1] [0,1,2,3,4,5,6,7,8,9,10,11,5012] [5] [(10,Z I 0)] [] ?_;refine Fx.iI [3,10] 66 5 [] [] (fun W M=>yN d1 (M.box (b:=Ke) 5)) ?_;refine Fx.dD [] 67 [] [] P1 ?_;refine Fx.sK [] 11 40 [(68,au #[Z I s1,Z I t1]),(69,Z I k1)] [] fun Vd=>?_;refine Fx.iI [12,12] 73 5 [(70,Z I 0)] [(9,#[Z I s1,Z I t1])] (fun W M=>KH q1 (M.box (b:=Ke) 5)) ?_;refine Fx.draw [11,1] [0,1,2,3,4,5,6,7,8,9,10,11,5012] [5] [(10,Z I 1)] [(8,#[Z I x1,Z I y1,Z I 0,Z I 0])] ?_;refine Fx.iI [3,10] 66 5 [] [] (fun W M=>yN d2 (M.box (b:=Ke) 5)) ?_;refine Fx.dD [] 67 [] [] P2 ?_;refine Fx.sK [] 11 40 [(68,au #[Z I s2,Z I t2]),(69,Z I k2)] [] fun ar5=>?_
   refine Fx.iI [13,13] 73 5 [(70,Z I 1)] [(10,#[Z I s2,Z I t2])] (fun W M=>KH q2 (M.box (b:=Ke) 5)) ?_;refine Fx.part 30 [11,2,8] [(77,ak (!(G2 == 0))),(10,Z I 2)] [(8,#[Z I x1,Z I y1,Z I x2,Z I y2])] ?_;refine Fx.splitB (fun hf1=>?_) (fun hf1=>?_)
   ·skip
    have hG:G2≠0:=by simpa using hf1
    refine Fx.draw [1] [0,1,2,3,3004,3005,5006] [1,2] [] [] ?_;exact Fx.wB 1 gI 2 gH [7,8,4,5] [(1,#[Z I 0,Z I 0]),(2,#[Z I 0,Z I 0,Z I 0,Z I 0])] (fun W M=>by have HB:=M.below;first|exact ⟨fun h=>absurd h hG,fun _=>rfl,HB⟩|exact ⟨fun _=>rfl,fun h=>absurd hG h,HB⟩)
   ·skip
    have hG:G2=0:=by simpa using hf1
    refine Fx.draw [2] [0,1,3002,3,5004] [1] [] [] ?_;exact Fx.wB 1 gI 2 gH [10,11,4,5] [(1,#[Z I c,Z I d]),(2,#[Z I x1,Z I y1,Z I x2,Z I y2])] (fun W M=>by have HB:=M.below;first|exact ⟨fun h=>absurd h hG,fun _=>rfl,HB⟩|exact ⟨fun _=>rfl,fun h=>absurd hG h,HB⟩)
theorem Fj {b c u v x:Int × Int} {E F k G:Int} (d:got E (dH.yA b c)=(u,F)) (p:dH.AJ u (-1000000000000) 1000000000000=(v,k)) (q:got F (v,k)=(x,G)):got E (vJ b c)=(x,G):=by
 by_cases hE:E=0
 ·subst hE;unfold vJ;rw [JN];rw [JM] at d;split at d
  ·rename_i h;cases d
   rw [if_pos h,Ux,p];exact q
  ·rename_i h;cases d
   rw [if_neg h];rw [qV h] at q;exact q
 ·rw [qV hE] at d;cases d
  rw [qV hE] at q;rw [qV hE];exact q
theorem Jq (l:List Nat) (up:Bool):0≤(sN l up).1:=by
 unfold sN;split
 ·exact Int.natCast_nonneg _
 ·exact Int.le_refl 0
theorem Jm {a b:Int × Int} (h:0≤a.1):0≤(power.Cb a b).1.1:=by
 unfold power.Cb;split
 ·exact Int.le_refl 0
 ·split
  ·exact Int.le_refl 0
  ·split
   ·exact h
   ·exact Int.le_refl 0
theorem LX {l:List (Int × Int)} {r:(Int × Int) × Int} (h:power.qQ l=r):0≤r.1.1:=by
 subst h;unfold power.qQ;split
 ·exact Int.le_refl 0
 ·split
  ·exact Int.le_refl 0
  ·split
   ·exact Int.le_refl 0
   ·exact Jm (Jq _ _)
theorem Tn {t v:(Int × Int) × (Int × Int) × (Int × Int)} {k:Int} (h:DT t=(v,k)) (hk:k≠0):v=z3:=by
 unfold DT at h;split at h
 ·cases h;rfl
 ·unfold xM at h
  rcases wO h with h|⟨_,h⟩
  ·exact h
  ·cases hc:(sS t.2.1 _&&sS t.2.2 _)
   ·rw [hc,cond_false] at h
    rcases wO h with h|⟨_,h⟩
    ·exact h
    ·split at h
     ·cases h;rfl
     ·rcases wO h with h|⟨_,h⟩
      ·exact h
      ·rcases wO h with h|⟨_,h⟩
       ·exact h
       ·cases h
        exact absurd rfl hk
   ·rw [hc,cond_true] at h
    rcases wO h with h|⟨_,h⟩
    ·exact h
    ·cases h
     exact absurd rfl hk
theorem Dq {a1 a2 a3 a4 a5 a6:Int} {v:(Int × Int) × (Int × Int) × (Int × Int)} {k:Int} (h:DT ((a1,a2),(a3,a4),(a5,a6))=(v,k)) (w:World) :
  Calls Tryz.prog 23 #[au #[Z I a1,Z I a2,Z I a3,Z I a4,Z I a5,Z I a6]] w (fun e w'=>e= aj (aG #[au #[Z I v.1.1,Z I v.1.2],au #[Z I v.2.1.1,Z I v.2.1.2,Z I v.2.2.1,Z I v.2.2.2],Z I k])∧Below w.heap.size w w'):=by
 unfold DT at h;split at h
 ·rename_i h0;cases h
  exact Rp rfl h0 w
 ·rename_i h0;have h1:qg ((a1,a2),(a3,a4),(a5,a6))=0:=Decidable.of_not_not h0;have h2:xM (a3,a4) (a5,a6)=(v,k):=h;clear h h0;cases hc:(sS (a3,a4) (0,0)&&sS (a5,a6) (0,0))
  ·obtain ⟨⟨⟨c,d⟩,E1⟩,g0⟩:∃ z,got 0 (power.qQ [(a3,a4),(a5,a6)])=z:=⟨_,rfl⟩;obtain ⟨E2,hE2⟩:∃ z,(if E1=0∧c≤0 then 7 else E1:Int)=z:=⟨_,rfl⟩;obtain ⟨⟨⟨u1,v1⟩,F1⟩,d1⟩:∃ z,got E2 (dH.yA (a3,a4) (c,d))=z:=⟨_,rfl⟩;obtain ⟨⟨⟨s1,t1⟩,k1⟩,p1⟩:∃ z,dH.AJ (u1,v1) (-1000000000000) 1000000000000=z:=⟨_,rfl⟩;obtain ⟨⟨⟨x1,y1⟩,G1⟩,q1⟩:∃ z,got F1 ((s1,t1),k1)=z:=⟨_,rfl⟩;obtain ⟨⟨⟨u2,v2⟩,F2⟩,d2⟩:∃ z,got G1 (dH.yA (a5,a6) (c,d))=z:=⟨_,rfl⟩;obtain ⟨⟨⟨s2,t2⟩,k2⟩,p2⟩:∃ z,dH.AJ (u2,v2) (-1000000000000) 1000000000000=z:=⟨_,rfl⟩;obtain ⟨⟨⟨x2,y2⟩,G2⟩,q2⟩:∃ z,got F2 ((s2,t2),k2)=z:=⟨_,rfl⟩;have C:=Nq h1 hc g0 (fun i j=>by rw [← hE2,if_pos ⟨i,j⟩]) (fun i=>by rw [← hE2,if_neg fun j=>i j.1]) (fun i j=>by rw [← hE2,if_neg fun l=>j l.2]) d1 p1 q1 d2 p2 q2 w
   have key:(if G2=0 then ((((c,d),(x1,y1),(x2,y2)),0):((Int × Int) × (Int × Int) × (Int × Int)) × Int) else (z3,G2))=(v,k):=by
    have n0:=LX (rfl:power.qQ [(a3,a4),(a5,a6)]=_)
    have e:xM (a3,a4) (a5,a6)=cK z3 (power.qQ [(a3,a4),(a5,a6)]) fun c=>if c.1=0 then (z3,7) else cK z3 (vJ (a3,a4) c) fun p=>cK z3 (vJ (a5,a6) c) fun q=>nZ (c,p,q):=by
     unfold xM;rw [show dH.VI (0*1000000000000)=((0,0),0) by decide+kernel,H7,hc];rfl
    rw [← h2,e]
    have ch:(E2=0→(if G2=0 then ((((c,d),(x1,y1),(x2,y2)),0):((Int × Int) × (Int × Int) × (Int × Int)) × Int) else (z3,G2))=cK z3 (vJ (a3,a4) (c,d)) fun p=>cK z3 (vJ (a5,a6) (c,d)) fun q=>nZ ((c,d),p,q))∧(E2≠0→(if G2=0 then ((((c,d),(x1,y1),(x2,y2)),0):((Int × Int) × (Int × Int) × (Int × Int)) × Int) else (z3,G2))=(z3,E2)) :=
     CQ (Fj d1 p1 q1) (CQ (Fj d2 p2 q2) (Xv G2))
    refine (CQ g0 ⟨fun i=>?_,fun i=>?_⟩).1 rfl
    ·obtain ⟨j1,j2,j3⟩:=OT g0;have j4:=j2 i;rw [j4] at n0
     dsimp only at n0 ⊢
     by_cases j:c=0
     ·rw [if_pos j];have:=(if_pos ⟨i,by omega⟩).symm.trans hE2;rw [← this] at ch;exact ch.2 zd
     ·rw [if_neg j];have:=(if_neg (fun h=>j zo)).symm.trans hE2;rw [i] at this;rw [← this] at ch;exact ch.1 rfl
    ·have:=(if_neg (fun h=>i h.1)).symm.trans hE2;rw [← this] at ch;exact ch.2 i
   clear hE2 d1 p1 q1 d2 p2 q2 g0 h2
   by_cases hG:G2=0
   ·rw [if_pos hG] at key;cases key
    exact C.mono fun _ _ g=>⟨g.1 hG,g.2.2⟩
   ·rw [if_neg hG] at key;cases key
    exact C.mono fun _ _ g=>⟨g.2.1 hG,g.2.2⟩
  ·have hz:a3=0∧a4=0∧a5=0∧a6=0:=by simpa [sS,and_assoc] using hc
   obtain ⟨rfl,rfl,rfl,rfl⟩:=hz;have e:xM (0,0) (0,0)=(((0,0),(1000000000000,1000000000000),(0,0)),0):=by decide+kernel
   rw [e] at h2;cases h2
   exact Np h1 w
end Go.Proofs.aQ
namespace Go.Proofs.aQ
open Go Go.RowKit Go.SW Go.Num Go.Mem Go.Proofs Go.gD Go.Fx Go.Proofs.aH Go.Proofs.aT Go.Proofs.lab
theorem U4 (t:light.iJ):qG t.list=lN t:=by
 unfold qG light.iJ.list lN gD.Ak;simp only [gW,List.all_nil]
 by_cases h1:(rd t.x).isSome=true<;>by_cases h2:(rd t.y).isSome=true<;>by_cases h3:(rd t.z).isSome=true<;>simp [h1,h2,h3]
theorem oQ {a1 a2 a3 a4 a5 a6:ByteArray} {k:Int} (hf:nY ⟨⟨a1,a2⟩,⟨a3,a4⟩,⟨a5,a6⟩⟩) (hk:lN ⟨⟨a1,a2⟩,⟨a3,a4⟩,⟨a5,a6⟩⟩=k) (W:World) (b:Nat) (X:aA W b #[O a1,O a2,O a3,O a4,O a5,O a6] 32) :
  Calls Tryz.prog 85 #[ah (some ⟨b,0,none⟩) 3 3] W (fun e w'=>e= aj (Z I k)∧Below W.heap.size W w'):=by
 have:=aT.KJ _ _ _ W (light.iJ.frs (t:=⟨⟨a1,a2⟩,⟨a3,a4⟩,⟨a5,a6⟩⟩) X) hf.mem;rw [U4,hk] at this;exact this
theorem xk {r:Fr × Int} {g:Fr→Fr × Int} {E T F:Int} {p q:Fr} (h:iW E r=(p,T)) (k:iW T (g p)=(q,F)):iW E (cK Fr.no r fun s=>cK Fr.no (g s) nZ)=(q,F):=by
 by_cases hE:E=0
 ·subst hE;obtain ⟨g1,g2,g3⟩:=JO h
  by_cases hT:T=0
  ·subst hT
   have e:cK Fr.no r (fun s=>cK Fr.no (g s) nZ)=cK Fr.no (g p) nZ:=by
    unfold cK;rw [if_pos g1,g2 rfl]
   rw [e,← k];generalize g p=z;obtain ⟨v,j⟩:=z;unfold cK;rw [zq,zq]
   by_cases hj:j=0
   ·subst hj;rfl
   ·simp only [if_neg hj]
  ·have e:cK Fr.no r (fun s=>cK Fr.no (g s) nZ)=(Fr.no,T):=by
    unfold cK;rw [if_neg (by rw [g1];exact hT),g1]
   rw [pI hT] at k;rw [e,zq,if_neg hT];exact k
 ·rw [pI hE] at h;cases h
  rw [pI hE] at k;rw [pI hE];exact k
theorem JQ {α:Type} {z x:α} (F:Int):(F=0→(if F=0 then ((x,0):α × Int) else (z,F))=nZ x)∧(F≠0→(if F=0 then (x,0) else (z,F))=(z,F)):=⟨fun h=>if_pos h,fun h=>if_neg h⟩
theorem NW {a1 a2 a3 a4 a5 a6:ByteArray} {k:Int} (ha:nY ⟨⟨a1,a2⟩,⟨a3,a4⟩,⟨a5,a6⟩⟩) (hk:lN ⟨⟨a1,a2⟩,⟨a3,a4⟩,⟨a5,a6⟩⟩=k) (h0:k≠0) (w:World) :
  Calls Tryz.prog 26 #[au #[O a1,O a2,O a3,O a4,O a5,O a6]] w (fun e w'=>e= aj (aG #[au #[O ⟨#[]⟩,O ⟨#[]⟩,O ⟨#[]⟩,O ⟨#[]⟩,O ⟨#[]⟩,O ⟨#[]⟩],Z I k])∧Below w.heap.size w w'):=by
 refine Fx.door Tryz.func26 rfl (.nil w []) ?_;refine Fx.new [] 1 #[O a1,O a2,O a3,O a4,O a5,O a6] 34 [] [] fun gM=>?_;refine Fx.aY [] 2 34 [] [] fun gI=>?_;refine Fx.newS [3,3,3] 14 3 3 #[O a1,O a2,O a3,O a4,O a5,O a6] 32 [] [] fun gH=>?_;refine Fx.call [] 15 [] [] (fun W M=>oQ ha hk _ _ (M.box (b:=gH) 2)) ?_;refine Fx.part 7 [] [(17,ak (!(k == 0))),(4,Z I k)] [] ?_;refine Fx.o7 true (by simp [h0]) ?_;exact Fx.fU 1 gI [1,4] [(1,#[O ⟨#[]⟩,O ⟨#[]⟩,O ⟨#[]⟩,O ⟨#[]⟩,O ⟨#[]⟩,O ⟨#[]⟩])] (fun W M=>⟨rfl,M.below⟩)
theorem RJ {a1 a2 a3 a4 a5 a6 q0 r0 p1 o1 q1 r1 p2 o2 q2 r2:ByteArray} {S0 T1 S1 T2 S2:Int} (ha:nY ⟨⟨a1,a2⟩,⟨a3,a4⟩,⟨a5,a6⟩⟩) (hk:lN ⟨⟨a1,a2⟩,⟨a3,a4⟩,⟨a5,a6⟩⟩=0)
  (g0:iW 0 (nk ⟨a1,a2⟩ Jw)=(⟨q0,r0⟩,S0)) (h1:iW S0 (qJ ⟨a3,a4⟩ xU)=(⟨p1,o1⟩,T1)) (g1:iW T1 (nk ⟨p1,o1⟩ xS)=(⟨q1,r1⟩,S1)) (h2:iW S1 (qJ ⟨a5,a6⟩ xU)=(⟨p2,o2⟩,T2)) (g2:iW T2 (nk ⟨p2,o2⟩ xS)=(⟨q2,r2⟩,S2))
  (hE:S2≠0) (w:World) :
  Calls Tryz.prog 26 #[au #[O a1,O a2,O a3,O a4,O a5,O a6]] w (fun e w'=>e= aj (aG #[au #[O ⟨#[]⟩,O ⟨#[]⟩,O ⟨#[]⟩,O ⟨#[]⟩,O ⟨#[]⟩,O ⟨#[]⟩],Z I S2])∧Below w.heap.size w w'):=by
 have f0:Fits ⟨a1,a2⟩:=ha 0 zo;have f1:Fits ⟨a3,a4⟩:=ha 1 zo;have f2:Fits ⟨a5,a6⟩:=ha 2 zo;have e1:Fits ⟨p1,o1⟩:=nV (yu _ _) h1;have e2:Fits ⟨p2,o2⟩:=nV (yu _ _) h2;refine Fx.door Tryz.func26 rfl (.nil w []) ?_;refine Fx.new [] 1 #[O a1,O a2,O a3,O a4,O a5,O a6] 34 [] [] fun gM=>?_;refine Fx.aY [] 2 34 [] [] fun gI=>?_;refine Fx.newS [3,3,3] 14 3 3 #[O a1,O a2,O a3,O a4,O a5,O a6] 32 [] [] fun gH=>?_;refine Fx.call [] 15 [] [] (fun W M=>oQ ha hk _ _ (M.box (b:=gH) 2)) ?_;refine Fx.aY [2] 5 130 [] [] fun oP=>?_;refine Fx.draw [] (dz 7) [3] [] [] ?_;refine Fx.call [3] 22 [(21,au #[O a1,O a2])] [] (fun W M=>Bg _) ?_;refine Fx.iI [] 23 3 [] [] (fun W M=>aT.yN g0 f0 uY (M.box (b:=oP) 3)) ?_
 refine Fx.sK [] 6 34 [(24,au #[O q0,O r0,O ⟨#[]⟩,O ⟨#[]⟩,O ⟨#[]⟩,O ⟨#[]⟩])] [] fun Iy=>?_;refine Fx.draw [7,1] (dz 10) [3] [(7,Z I 1)] [(4,#[O q0,O r0,O ⟨#[]⟩,O ⟨#[]⟩,O ⟨#[]⟩,O ⟨#[]⟩])] ?_;refine Fx.call [3] 33 [(29,Z I 1),(32,au #[O a3,O a4])] [] (fun W M=>qp _) ?_;refine Fx.iI [] 34 3 [] [] (fun W M=>aT.PN h1 f1 mE (M.box (b:=oP) 3)) ?_;refine Fx.call [] 35 [] [] (fun W M=>qo _) ?_;refine Fx.iI [] 36 3 [] [] (fun W M=>aT.yN g1 e1 mD (M.box (b:=oP) 3)) ?_;refine Fx.draw [7,1] (dz 10) [3] [(7,Z I 2)] [(4,#[O q0,O r0,O q1,O r1,O ⟨#[]⟩,O ⟨#[]⟩])] ?_;refine Fx.call [3] 33 [(29,Z I 2),(32,au #[O a5,O a6])] [] (fun W M=>qp _) ?_
 refine Fx.iI [] 34 3 [] [] (fun W M=>aT.PN h2 f2 mE (M.box (b:=oP) 3)) ?_;refine Fx.call [] 35 [] [] (fun W M=>qo _) ?_;refine Fx.iI [] 36 3 [] [] (fun W M=>aT.yN g2 e2 mD (M.box (b:=oP) 3)) ?_;refine Fx.part 31 [7,2,6] [(40,ak (!(S2 == 0))),(7,Z I 3)] [(4,#[O q0,O r0,O q1,O r1,O q2,O r2])] ?_;refine Fx.o7 true (by simp [hE]) ?_;refine Fx.draw [1] [0,1,2,3003,5004] [1] [] [] ?_;exact Fx.fU 1 gI [6,4] [(1,#[O ⟨#[]⟩,O ⟨#[]⟩,O ⟨#[]⟩,O ⟨#[]⟩,O ⟨#[]⟩,O ⟨#[]⟩])] (fun W M=>⟨rfl,M.below⟩)
theorem NM {a1 a2 a3 a4 a5 a6 q0 r0 p1 o1 q1 r1 p2 o2 q2 r2:ByteArray} {S0 T1 S1 T2 S2:Int} (ha:nY ⟨⟨a1,a2⟩,⟨a3,a4⟩,⟨a5,a6⟩⟩) (hk:lN ⟨⟨a1,a2⟩,⟨a3,a4⟩,⟨a5,a6⟩⟩=0)
  (g0:iW 0 (nk ⟨a1,a2⟩ Jw)=(⟨q0,r0⟩,S0)) (h1:iW S0 (qJ ⟨a3,a4⟩ xU)=(⟨p1,o1⟩,T1)) (g1:iW T1 (nk ⟨p1,o1⟩ xS)=(⟨q1,r1⟩,S1)) (h2:iW S1 (qJ ⟨a5,a6⟩ xU)=(⟨p2,o2⟩,T2)) (g2:iW T2 (nk ⟨p2,o2⟩ xS)=(⟨q2,r2⟩,S2))
  (hE:S2=0) (w:World) :
  Calls Tryz.prog 26 #[au #[O a1,O a2,O a3,O a4,O a5,O a6]] w (fun e w'=>e= aj (aG #[au #[O q0,O r0,O q1,O r1,O q2,O r2],Z I 0])∧Below w.heap.size w w'):=by
 have f0:Fits ⟨a1,a2⟩:=ha 0 zo;have f1:Fits ⟨a3,a4⟩:=ha 1 zo;have f2:Fits ⟨a5,a6⟩:=ha 2 zo;have e1:Fits ⟨p1,o1⟩:=nV (yu _ _) h1;have e2:Fits ⟨p2,o2⟩:=nV (yu _ _) h2;refine Fx.door Tryz.func26 rfl (.nil w []) ?_;refine Fx.new [] 1 #[O a1,O a2,O a3,O a4,O a5,O a6] 34 [] [] fun gM=>?_;refine Fx.aY [] 2 34 [] [] fun gI=>?_;refine Fx.newS [3,3,3] 14 3 3 #[O a1,O a2,O a3,O a4,O a5,O a6] 32 [] [] fun gH=>?_;refine Fx.call [] 15 [] [] (fun W M=>oQ ha hk _ _ (M.box (b:=gH) 2)) ?_;refine Fx.aY [2] 5 130 [] [] fun oP=>?_;refine Fx.draw [] (dz 7) [3] [] [] ?_;refine Fx.call [3] 22 [(21,au #[O a1,O a2])] [] (fun W M=>Bg _) ?_;refine Fx.iI [] 23 3 [] [] (fun W M=>aT.yN g0 f0 uY (M.box (b:=oP) 3)) ?_
 refine Fx.sK [] 6 34 [(24,au #[O q0,O r0,O ⟨#[]⟩,O ⟨#[]⟩,O ⟨#[]⟩,O ⟨#[]⟩])] [] fun Iy=>?_;refine Fx.draw [7,1] (dz 10) [3] [(7,Z I 1)] [(4,#[O q0,O r0,O ⟨#[]⟩,O ⟨#[]⟩,O ⟨#[]⟩,O ⟨#[]⟩])] ?_;refine Fx.call [3] 33 [(29,Z I 1),(32,au #[O a3,O a4])] [] (fun W M=>qp _) ?_;refine Fx.iI [] 34 3 [] [] (fun W M=>aT.PN h1 f1 mE (M.box (b:=oP) 3)) ?_;refine Fx.call [] 35 [] [] (fun W M=>qo _) ?_;refine Fx.iI [] 36 3 [] [] (fun W M=>aT.yN g1 e1 mD (M.box (b:=oP) 3)) ?_;refine Fx.draw [7,1] (dz 10) [3] [(7,Z I 2)] [(4,#[O q0,O r0,O q1,O r1,O ⟨#[]⟩,O ⟨#[]⟩])] ?_;refine Fx.call [3] 33 [(29,Z I 2),(32,au #[O a5,O a6])] [] (fun W M=>qp _) ?_
 refine Fx.iI [] 34 3 [] [] (fun W M=>aT.PN h2 f2 mE (M.box (b:=oP) 3)) ?_;refine Fx.call [] 35 [] [] (fun W M=>qo _) ?_;refine Fx.iI [] 36 3 [] [] (fun W M=>aT.yN g2 e2 mD (M.box (b:=oP) 3)) ?_;refine Fx.part 31 [7,2,6] [(40,ak (!(S2 == 0))),(7,Z I 3)] [(4,#[O q0,O r0,O q1,O r1,O q2,O r2])] ?_;refine Fx.o7 false (by simp [hE]) ?_;exact Fx.fU 1 gI [2,7,4] [(1,#[O q0,O r0,O q1,O r1,O q2,O r2])] (fun W M=>⟨rfl,M.below⟩)
theorem ac8 {t v:light.iJ} {k:Int} (h:encI t=(v,k)) (hk:k≠0):v=t0:=by
 unfold encI at h
 iterate 4
  replace h:=wO h
  rcases h with h|⟨_,h⟩
  ·exact h
 cases h
 exact absurd rfl hk
theorem UK {t v:light.iJ} {k:Int} (h:He t=(v,k)) (hk:k≠0):v=t0:=by
 unfold He at h;split at h
 ·cases h;rfl
 ·exact ac8 h hk
theorem FZ {a1 a2 a3 a4 a5 a6:ByteArray} {v:light.iJ} {k:Int} (ha:nY ⟨⟨a1,a2⟩,⟨a3,a4⟩,⟨a5,a6⟩⟩) (h:He ⟨⟨a1,a2⟩,⟨a3,a4⟩,⟨a5,a6⟩⟩=(v,k)) (w:World) :
  Calls Tryz.prog 26 #[au #[O a1,O a2,O a3,O a4,O a5,O a6]] w (fun e w'=>e= aj (aG #[au #[O v.x.n,O v.x.d,O v.y.n,O v.y.d,O v.z.n,O v.z.d],Z I k])∧Below w.heap.size w w'):=by
 unfold He at h;split at h
 ·rename_i h0;cases h
  exact NW ha rfl h0 w
 ·rename_i h0;have h1:lN ⟨⟨a1,a2⟩,⟨a3,a4⟩,⟨a5,a6⟩⟩=0:=Decidable.of_not_not h0;obtain ⟨⟨⟨q0,r0⟩,S0⟩,g0⟩:∃ z,iW 0 (nk ⟨a1,a2⟩ Jw)=z:=⟨_,rfl⟩;obtain ⟨⟨⟨p1,o1⟩,T1⟩,h1'⟩:∃ z,iW S0 (qJ ⟨a3,a4⟩ xU)=z:=⟨_,rfl⟩;obtain ⟨⟨⟨q1,r1⟩,S1⟩,g1⟩:∃ z,iW T1 (nk ⟨p1,o1⟩ xS)=z:=⟨_,rfl⟩;obtain ⟨⟨⟨p2,o2⟩,T2⟩,h2⟩:∃ z,iW S1 (qJ ⟨a5,a6⟩ xU)=z:=⟨_,rfl⟩;obtain ⟨⟨⟨q2,r2⟩,S2⟩,g2⟩:∃ z,iW T2 (nk ⟨p2,o2⟩ xS)=z:=⟨_,rfl⟩
  have key:(if S2=0 then (((⟨⟨q0,r0⟩,⟨q1,r1⟩,⟨q2,r2⟩⟩:light.iJ),0):light.iJ × Int) else (t0,S2))=encI ⟨⟨a1,a2⟩,⟨a3,a4⟩,⟨a5,a6⟩⟩:=by
   unfold encI BJ;rw [GK,GJ,GI];simp only [H7];exact (oO g0 (oO (xk h1' g1) (oO (xk h2 g2) (JQ (z:=t0) (x:=(⟨⟨q0,r0⟩,⟨q1,r1⟩,⟨q2,r2⟩⟩:light.iJ)) S2)))).1 rfl
  rw [← key] at h
  by_cases hF:S2=0
  ·rw [if_pos hF] at h;cases h
   exact NM ha h1 g0 h1' g1 h2 g2 hF w
  ·rw [if_neg hF] at h;cases h
   exact RJ ha h1 g0 h1' g1 h2 g2 hF w
theorem N8 {a1 a2 a3 a4 a5 a6:ByteArray} {k:Int} (ha:nY ⟨⟨a1,a2⟩,⟨a3,a4⟩,⟨a5,a6⟩⟩) (hk:lN ⟨⟨a1,a2⟩,⟨a3,a4⟩,⟨a5,a6⟩⟩=k) (h0:k≠0) (w:World) :
  Calls Tryz.prog 28 #[au #[O a1,O a2,O a3,O a4,O a5,O a6]] w (fun e w'=>e= aj (aG #[au #[O ⟨#[]⟩,O ⟨#[]⟩,O ⟨#[]⟩,O ⟨#[]⟩,O ⟨#[]⟩,O ⟨#[]⟩],Z I k])∧Below w.heap.size w w'):=by
 refine Fx.door Tryz.func28 rfl (.nil w []) ?_;refine Fx.new [] 1 #[O a1,O a2,O a3,O a4,O a5,O a6] 34 [] [] fun gM=>?_;refine Fx.aY [] 2 34 [] [] fun gI=>?_;refine Fx.newS [3,3,3] 14 3 3 #[O a1,O a2,O a3,O a4,O a5,O a6] 32 [] [] fun gH=>?_;refine Fx.call [] 15 [] [] (fun W M=>oQ ha hk _ _ (M.box (b:=gH) 2)) ?_;refine Fx.part 7 [] [(17,ak (!(k == 0))),(4,Z I k)] [] ?_;refine Fx.o7 true (by simp [h0]) ?_;exact Fx.fU 1 gI [1,4] [(1,#[O ⟨#[]⟩,O ⟨#[]⟩,O ⟨#[]⟩,O ⟨#[]⟩,O ⟨#[]⟩,O ⟨#[]⟩])] (fun W M=>⟨rfl,M.below⟩)
theorem RN {a1 a2 a3 a4 a5 a6 q0 r0 p1 o1 q1 r1 p2 o2 q2 r2:ByteArray} {S0 T1 S1 T2 S2:Int} (ha:nY ⟨⟨a1,a2⟩,⟨a3,a4⟩,⟨a5,a6⟩⟩) (hk:lN ⟨⟨a1,a2⟩,⟨a3,a4⟩,⟨a5,a6⟩⟩=0)
  (g0:iW 0 (nH ⟨a1,a2⟩ Jw)=(⟨q0,r0⟩,S0)) (h1:iW S0 (nH ⟨a3,a4⟩ xS)=(⟨p1,o1⟩,T1)) (g1:iW T1 (rJ ⟨p1,o1⟩ xU)=(⟨q1,r1⟩,S1)) (h2:iW S1 (nH ⟨a5,a6⟩ xS)=(⟨p2,o2⟩,T2)) (g2:iW T2 (rJ ⟨p2,o2⟩ xU)=(⟨q2,r2⟩,S2))
  (hE:S2≠0) (w:World) :
  Calls Tryz.prog 28 #[au #[O a1,O a2,O a3,O a4,O a5,O a6]] w (fun e w'=>e= aj (aG #[au #[O ⟨#[]⟩,O ⟨#[]⟩,O ⟨#[]⟩,O ⟨#[]⟩,O ⟨#[]⟩,O ⟨#[]⟩],Z I S2])∧Below w.heap.size w w'):=by
 have f0:Fits ⟨a1,a2⟩:=ha 0 zo;have f1:Fits ⟨a3,a4⟩:=ha 1 zo;have f2:Fits ⟨a5,a6⟩:=ha 2 zo;have e1:Fits ⟨p1,o1⟩:=nV (yt _ _) h1;have e2:Fits ⟨p2,o2⟩:=nV (yt _ _) h2;refine Fx.door Tryz.func28 rfl (.nil w []) ?_;refine Fx.new [] 1 #[O a1,O a2,O a3,O a4,O a5,O a6] 34 [] [] fun gM=>?_;refine Fx.aY [] 2 34 [] [] fun gI=>?_;refine Fx.newS [3,3,3] 14 3 3 #[O a1,O a2,O a3,O a4,O a5,O a6] 32 [] [] fun gH=>?_;refine Fx.call [] 15 [] [] (fun W M=>oQ ha hk _ _ (M.box (b:=gH) 2)) ?_;refine Fx.aY [2] 5 130 [] [] fun oP=>?_;refine Fx.draw [] (dz 7) [3] [] [] ?_;refine Fx.call [3] 22 [(21,au #[O a1,O a2])] [] (fun W M=>Bg _) ?_;refine Fx.iI [] 23 3 [] [] (fun W M=>aT.FQ g0 f0 uY (M.box (b:=oP) 3)) ?_
 refine Fx.sK [] 6 34 [(24,au #[O q0,O r0,O ⟨#[]⟩,O ⟨#[]⟩,O ⟨#[]⟩,O ⟨#[]⟩])] [] fun Iy=>?_;refine Fx.draw [7,1] (dz 10) [3] [(7,Z I 1)] [(4,#[O q0,O r0,O ⟨#[]⟩,O ⟨#[]⟩,O ⟨#[]⟩,O ⟨#[]⟩])] ?_;refine Fx.call [3] 33 [(29,Z I 1),(32,au #[O a3,O a4])] [] (fun W M=>qo _) ?_;refine Fx.iI [] 34 3 [] [] (fun W M=>aT.FQ h1 f1 mD (M.box (b:=oP) 3)) ?_;refine Fx.call [] 35 [] [] (fun W M=>qp _) ?_;refine Fx.iI [] 36 3 [] [] (fun W M=>aT.Pq g1 e1 mE (M.box (b:=oP) 3)) ?_;refine Fx.draw [7,1] (dz 10) [3] [(7,Z I 2)] [(4,#[O q0,O r0,O q1,O r1,O ⟨#[]⟩,O ⟨#[]⟩])] ?_;refine Fx.call [3] 33 [(29,Z I 2),(32,au #[O a5,O a6])] [] (fun W M=>qo _) ?_
 refine Fx.iI [] 34 3 [] [] (fun W M=>aT.FQ h2 f2 mD (M.box (b:=oP) 3)) ?_;refine Fx.call [] 35 [] [] (fun W M=>qp _) ?_;refine Fx.iI [] 36 3 [] [] (fun W M=>aT.Pq g2 e2 mE (M.box (b:=oP) 3)) ?_;refine Fx.part 31 [7,2,6] [(40,ak (!(S2 == 0))),(7,Z I 3)] [(4,#[O q0,O r0,O q1,O r1,O q2,O r2])] ?_;refine Fx.o7 true (by simp [hE]) ?_;refine Fx.draw [1] [0,1,2,3003,5004] [1] [] [] ?_;exact Fx.fU 1 gI [6,4] [(1,#[O ⟨#[]⟩,O ⟨#[]⟩,O ⟨#[]⟩,O ⟨#[]⟩,O ⟨#[]⟩,O ⟨#[]⟩])] (fun W M=>⟨rfl,M.below⟩)
theorem N7 {a1 a2 a3 a4 a5 a6 q0 r0 p1 o1 q1 r1 p2 o2 q2 r2:ByteArray} {S0 T1 S1 T2 S2:Int} (ha:nY ⟨⟨a1,a2⟩,⟨a3,a4⟩,⟨a5,a6⟩⟩) (hk:lN ⟨⟨a1,a2⟩,⟨a3,a4⟩,⟨a5,a6⟩⟩=0)
  (g0:iW 0 (nH ⟨a1,a2⟩ Jw)=(⟨q0,r0⟩,S0)) (h1:iW S0 (nH ⟨a3,a4⟩ xS)=(⟨p1,o1⟩,T1)) (g1:iW T1 (rJ ⟨p1,o1⟩ xU)=(⟨q1,r1⟩,S1)) (h2:iW S1 (nH ⟨a5,a6⟩ xS)=(⟨p2,o2⟩,T2)) (g2:iW T2 (rJ ⟨p2,o2⟩ xU)=(⟨q2,r2⟩,S2))
  (hE:S2=0) (w:World) :
  Calls Tryz.prog 28 #[au #[O a1,O a2,O a3,O a4,O a5,O a6]] w (fun e w'=>e= aj (aG #[au #[O q0,O r0,O q1,O r1,O q2,O r2],Z I 0])∧Below w.heap.size w w'):=by
 have f0:Fits ⟨a1,a2⟩:=ha 0 zo;have f1:Fits ⟨a3,a4⟩:=ha 1 zo;have f2:Fits ⟨a5,a6⟩:=ha 2 zo;have e1:Fits ⟨p1,o1⟩:=nV (yt _ _) h1;have e2:Fits ⟨p2,o2⟩:=nV (yt _ _) h2;refine Fx.door Tryz.func28 rfl (.nil w []) ?_;refine Fx.new [] 1 #[O a1,O a2,O a3,O a4,O a5,O a6] 34 [] [] fun gM=>?_;refine Fx.aY [] 2 34 [] [] fun gI=>?_;refine Fx.newS [3,3,3] 14 3 3 #[O a1,O a2,O a3,O a4,O a5,O a6] 32 [] [] fun gH=>?_;refine Fx.call [] 15 [] [] (fun W M=>oQ ha hk _ _ (M.box (b:=gH) 2)) ?_;refine Fx.aY [2] 5 130 [] [] fun oP=>?_;refine Fx.draw [] (dz 7) [3] [] [] ?_;refine Fx.call [3] 22 [(21,au #[O a1,O a2])] [] (fun W M=>Bg _) ?_;refine Fx.iI [] 23 3 [] [] (fun W M=>aT.FQ g0 f0 uY (M.box (b:=oP) 3)) ?_
 refine Fx.sK [] 6 34 [(24,au #[O q0,O r0,O ⟨#[]⟩,O ⟨#[]⟩,O ⟨#[]⟩,O ⟨#[]⟩])] [] fun Iy=>?_;refine Fx.draw [7,1] (dz 10) [3] [(7,Z I 1)] [(4,#[O q0,O r0,O ⟨#[]⟩,O ⟨#[]⟩,O ⟨#[]⟩,O ⟨#[]⟩])] ?_;refine Fx.call [3] 33 [(29,Z I 1),(32,au #[O a3,O a4])] [] (fun W M=>qo _) ?_;refine Fx.iI [] 34 3 [] [] (fun W M=>aT.FQ h1 f1 mD (M.box (b:=oP) 3)) ?_;refine Fx.call [] 35 [] [] (fun W M=>qp _) ?_;refine Fx.iI [] 36 3 [] [] (fun W M=>aT.Pq g1 e1 mE (M.box (b:=oP) 3)) ?_;refine Fx.draw [7,1] (dz 10) [3] [(7,Z I 2)] [(4,#[O q0,O r0,O q1,O r1,O ⟨#[]⟩,O ⟨#[]⟩])] ?_;refine Fx.call [3] 33 [(29,Z I 2),(32,au #[O a5,O a6])] [] (fun W M=>qo _) ?_
 refine Fx.iI [] 34 3 [] [] (fun W M=>aT.FQ h2 f2 mD (M.box (b:=oP) 3)) ?_;refine Fx.call [] 35 [] [] (fun W M=>qp _) ?_;refine Fx.iI [] 36 3 [] [] (fun W M=>aT.Pq g2 e2 mE (M.box (b:=oP) 3)) ?_;refine Fx.part 31 [7,2,6] [(40,ak (!(S2 == 0))),(7,Z I 3)] [(4,#[O q0,O r0,O q1,O r1,O q2,O r2])] ?_;refine Fx.o7 false (by simp [hE]) ?_;exact Fx.fU 1 gI [2,7,4] [(1,#[O q0,O r0,O q1,O r1,O q2,O r2])] (fun W M=>⟨rfl,M.below⟩)
theorem ad4 {t v:light.iJ} {k:Int} (h:JZ t=(v,k)) (hk:k≠0):v=t0:=by
 unfold JZ at h
 iterate 4
  replace h:=wO h
  rcases h with h|⟨_,h⟩
  ·exact h
 cases h
 exact absurd rfl hk
theorem UY {t v:light.iJ} {k:Int} (h:Hf t=(v,k)) (hk:k≠0):v=t0:=by
 unfold Hf at h;split at h
 ·cases h;rfl
 ·exact ad4 h hk
theorem F4 {a1 a2 a3 a4 a5 a6:ByteArray} {v:light.iJ} {k:Int} (ha:nY ⟨⟨a1,a2⟩,⟨a3,a4⟩,⟨a5,a6⟩⟩) (h:Hf ⟨⟨a1,a2⟩,⟨a3,a4⟩,⟨a5,a6⟩⟩=(v,k)) (w:World) :
  Calls Tryz.prog 28 #[au #[O a1,O a2,O a3,O a4,O a5,O a6]] w (fun e w'=>e= aj (aG #[au #[O v.x.n,O v.x.d,O v.y.n,O v.y.d,O v.z.n,O v.z.d],Z I k])∧Below w.heap.size w w'):=by
 unfold Hf at h;split at h
 ·rename_i h0;cases h
  exact N8 ha rfl h0 w
 ·rename_i h0;have h1:lN ⟨⟨a1,a2⟩,⟨a3,a4⟩,⟨a5,a6⟩⟩=0:=Decidable.of_not_not h0;obtain ⟨⟨⟨q0,r0⟩,S0⟩,g0⟩:∃ z,iW 0 (nH ⟨a1,a2⟩ Jw)=z:=⟨_,rfl⟩;obtain ⟨⟨⟨p1,o1⟩,T1⟩,h1'⟩:∃ z,iW S0 (nH ⟨a3,a4⟩ xS)=z:=⟨_,rfl⟩;obtain ⟨⟨⟨q1,r1⟩,S1⟩,g1⟩:∃ z,iW T1 (rJ ⟨p1,o1⟩ xU)=z:=⟨_,rfl⟩;obtain ⟨⟨⟨p2,o2⟩,T2⟩,h2⟩:∃ z,iW S1 (nH ⟨a5,a6⟩ xS)=z:=⟨_,rfl⟩;obtain ⟨⟨⟨q2,r2⟩,S2⟩,g2⟩:∃ z,iW T2 (rJ ⟨p2,o2⟩ xU)=z:=⟨_,rfl⟩
  have key:(if S2=0 then (((⟨⟨q0,r0⟩,⟨q1,r1⟩,⟨q2,r2⟩⟩:light.iJ),0):light.iJ × Int) else (t0,S2))=JZ ⟨⟨a1,a2⟩,⟨a3,a4⟩,⟨a5,a6⟩⟩:=by
   unfold JZ Ki;rw [GK,GI,GJ];simp only [H7];exact (oO g0 (oO (xk h1' g1) (oO (xk h2 g2) (JQ (z:=t0) (x:=(⟨⟨q0,r0⟩,⟨q1,r1⟩,⟨q2,r2⟩⟩:light.iJ)) S2)))).1 rfl
  rw [← key] at h
  by_cases hF:S2=0
  ·rw [if_pos hF] at h;cases h
   exact N7 ha h1 g0 h1' g1 h2 g2 hF w
  ·rw [if_neg hF] at h;cases h
   exact RN ha h1 g0 h1' g1 h2 g2 hF w
end Go.Proofs.aQ
namespace Go.Proofs.aT
open Go Go.RowKit Go.SW Go.Num Go.Mem Go.Proofs Go.Dec Go.gD
def pK (s:ByteArray):ByteArray:=s.extract 0 (min (s.size:Int) 20).toNat
theorem Dc (s:ByteArray):(pK s).size≤20:=by
 unfold pK;rw [ByteArray.size_extract];omega
theorem Yr (s t:ByteArray) (w:World) :
  Calls Tryz.prog 41 #[au #[O s,O t]] w (fun e w'=>e= aj (au #[O (pK s),O (pK t)])∧Below w.heap.size w w'):=by
 have qs1:0≤min (s.size:Int) 20:=by omega
 have qs2:min (s.size:Int) 20≤s.size:=by omega
 have qt1:0≤min (t.size:Int) 20:=by omega
 have qt2:min (t.size:Int) 20≤t.size:=by omega
 unfold pK;go_enter Tryz.func41,Tryz.ntmps41
 go_wp2_with fail
 obtain ⟨lZ,EW,hz,X1,X2⟩:=Dz w #[O s,O t] 26 #[O ⟨#[]⟩,O ⟨#[]⟩] 32;rw [EW];have hk2:=Bt (Below.refl _ _) hz;clear EW hz;obtain ⟨kZ,kY,ni⟩:=X1.clf;refine aJ [(.pure,0),(.read,1),(.pure,2),(.read,3),(.pure,4),(.pure,5),(.pure,6),(.pure,7),(.read,8),(.pure,9),(.read,10),(.pure,11),(.pure,12),(.pure,13),(.pure,14),(.fin,15)] zk zk zR zP ?_;refine zV ?_;refine dA [_] rfl (fun wf3 hf3=>?_);have hh3:Below lZ.heap.size lZ wf3:=aF;clear hf3;clear kZ kY ni;replace X1:=X1.bl hh3;replace X2:=X2.bl hh3;have hk4:=Bt hk2 hh3;clear hk2;clear hh3;obtain ⟨sP,sO,wK⟩:=X2.clf;have hres:=X2.out;have Df:=hres.cell;have CV:=hres.free;go_wp2_with fail
 refine gF rfl rfl bf Tryz.underlying32 rfl zk ?_;exact ⟨rfl,aF⟩
def Vf (k:Int) (f:Fr) (t:light.iJ):light.iJ:=if k%3=0 then { t with x:=f } else if k%3=1 then { t with y:=f } else { t with z:=f }
theorem Bl (k:Int) (hk:0≤k∧k≤255) (s t:ByteArray) (s1 t1 s2 t2 s3 t3:ByteArray) (w:World) :
  Calls Tryz.prog 13 #[au #[Z .u8 k,O s,O t],au #[O s1,O t1,O s2,O t2,O s3,O t3]] w
   (fun e w'=>e= aj (Vf k ⟨pK s,pK t⟩ ⟨⟨s1,t1⟩,⟨s2,t2⟩,⟨s3,t3⟩⟩).v∧Below w.heap.size w w'):=by
 have H1:=fun W=>Yr s t W;generalize pK s=u at H1 ⊢;generalize pK t=v at H1 ⊢;have hm:k.tmod 3=k%3:=Int.tmod_eq_emod_of_nonneg hk.1;have hl:k%3=0∨k%3=1∨k%3=2:=by omega
 unfold Vf
 rcases hl with hl|hl|hl
 ·rw [hl] at hm ⊢;refine Fx.door Tryz.func13 rfl (.nil w []) ?_;refine Fx.new [] 2 #[Z .u8 k,O s,O t] 28 [] [] fun gM=>?_;refine Fx.new [] 3 #[O s1,O t1,O s2,O t2,O s3,O t3] 34 [] [] fun gI=>?_;refine Fx.aY [] 4 34 [] [] fun gH=>?_;refine Fx.draw [] (dz 8) [] [] [] ?_;refine Fx.part 3 [3] [(7,Z .u8 (Int.tmod k 3))] [] ?_;refine Fx.pU (Z .u8 0) (congrArg (Value.int .u8) hm) ?_;refine Fx.dD [3] 10 [] [] H1 ?_;exact Fx.iC 2 gH [4,4,5] [(1,#[O u,O v,O s2,O t2,O s3,O t3]),(2,#[O u,O v,O s2,O t2,O s3,O t3])] (fun W M=>⟨rfl,M.below⟩)
 ·rw [hl] at hm ⊢;refine Fx.door Tryz.func13 rfl (.nil w []) ?_;refine Fx.new [] 2 #[Z .u8 k,O s,O t] 28 [] [] fun gM=>?_;refine Fx.new [] 3 #[O s1,O t1,O s2,O t2,O s3,O t3] 34 [] [] fun gI=>?_;refine Fx.aY [] 4 34 [] [] fun gH=>?_;refine Fx.draw [] (dz 8) [] [] [] ?_;refine Fx.part 3 [3] [(7,Z .u8 (Int.tmod k 3))] [] ?_;refine Fx.pU (Z .u8 1) (congrArg (Value.int .u8) hm) ?_;refine Fx.dD [3] 10 [] [] H1 ?_;exact Fx.iC 2 gH [4,4,5] [(1,#[O s1,O t1,O u,O v,O s3,O t3]),(2,#[O s1,O t1,O u,O v,O s3,O t3])] (fun W M=>⟨rfl,M.below⟩)
 ·rw [hl] at hm ⊢;refine Fx.door Tryz.func13 rfl (.nil w []) ?_;refine Fx.new [] 2 #[Z .u8 k,O s,O t] 28 [] [] fun gM=>?_;refine Fx.new [] 3 #[O s1,O t1,O s2,O t2,O s3,O t3] 34 [] [] fun gI=>?_;refine Fx.aY [] 4 34 [] [] fun gH=>?_;refine Fx.draw [] (dz 8) [] [] [] ?_;refine Fx.part 3 [3] [(7,Z .u8 (Int.tmod k 3))] [] ?_;refine Fx.pU (Z .u8 2) (congrArg (Value.int .u8) hm) ?_;refine Fx.dD [3] 10 [] [] H1 ?_;exact Fx.iC 2 gH [4,4,5] [(1,#[O s1,O t1,O s2,O t2,O u,O v]),(2,#[O s1,O t1,O s2,O t2,O u,O v])] (fun W M=>⟨rfl,M.below⟩)
end Go.Proofs.aT
namespace Go.Proofs.verdigrislaw24
open Go Go.RowKit Go.SW Go.Num Go.Mem Go.Proofs Go.Dec Go.gD Go.Proofs.lab Go.Proofs.jB Go.Proofs.aH Go.Proofs.aT
theorem yw {a b c:Fr} (ha:Fits a) (hb:Fits b) (hc:Fits c):nY ⟨a,b,c⟩:=fun i hi=>by
 rcases i with _| _| _|i
 ·exact ha
 ·exact hb
 ·exact hc
 ·omega
theorem UF (s t:ByteArray):Fits ⟨pK s,pK t⟩:=by
 have h1:=Dc s;have h2:=Dc t;exact ⟨by show (pK s).size≤_;omega,by show (pK t).size≤_;omega⟩
theorem QU {k:Int} {f:Fr} {t:light.iJ} (hf:Fits f) (ht:nY t):nY (Vf k f t):=by
 have h0:Fits t.x:=ht 0 zo;have h1:Fits t.y:=ht 1 zo;have h2:Fits t.z:=ht 2 zo;unfold Vf;split
 ·exact yw hf h1 h2
 ·split
  ·exact yw h0 hf h2
  ·exact yw h0 h1 hf
end Go.Proofs.verdigrislaw24
