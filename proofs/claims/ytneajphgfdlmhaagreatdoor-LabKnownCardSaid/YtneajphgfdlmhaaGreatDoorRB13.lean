/- Lemmas for the proof. No condition. -/
import Derived.Test.YtneajphgfdlmhaaGreatDoorRB01
import Derived.Test.YtneajphgfdlmhaaGreatDoorRB09
import Derived.Test.YtneajphgfdlmhaaGreatDoorRB10
import Derived.Test.YtneajphgfdlmhaaGreatDoorRB12
set_option linter.unusedVariables false
set_option linter.unusedSimpArgs false
set_option maxRecDepth 100000
set_option maxHeartbeats 16000000
namespace Go.Proofs.lab
open Go Go.RowKit Go.SW Go.Num Go.Mem Go.Proofs Go.jQ
def z3:(Int × Int) × (Int × Int) × (Int × Int):=((0,0),(0,0),(0,0))
def t0:light.mD:=⟨Fr.no,Fr.no,Fr.no⟩
def ME (f:Fr):Fr × Int:=aU Fr.no (qE 128 1) fun p=>aU Fr.no (Kk f p) fun s=>aU Fr.no (qE 256 1) fun q=>aU Fr.no (Dq s q) vF
def Wt (f:Fr):Fr × Int:=aU Fr.no (qE 256 1) fun p=>aU Fr.no (yL f p) fun s=>aU Fr.no (qE 128 1) fun q=>aU Fr.no (RQ s q) vF
def encI (t:light.mD):light.mD × Int:=aU t0 (qE 100 1) fun h=>aU t0 (Dq t.x h) fun a=>aU t0 (ME t.y) fun b=>aU t0 (ME t.z) fun c=>vF ⟨a,b,c⟩
def ar2 (t:light.mD):light.mD × Int:=aU t0 (qE 100 1) fun h=>aU t0 (yL t.x h) fun a=>aU t0 (Wt t.y) fun b=>aU t0 (Wt t.z) fun c=>vF ⟨a,b,c⟩
theorem Ve {s t y y':ByteArray} {k:Int} (hx:gD (ME ⟨s,t⟩) ⟨y,y'⟩ k) (w:World) (ht:jw.Pow w) :
  Calls Tryz.prog 82 #[.agg #[.string s,.string t]] w (Try w (.agg #[.string y,.string y']) k):=by
 have HR:=zh hx;have HP:=zh ht;clear hx ht;unfold ME at HR;go_enter Tryz.func82,Tryz.ntmps82
 have HB:=zh (Below.refl w.heap.size w);go_wp2_with fail
 obtain ⟨w3,EW,hz,X1,X2⟩:=uH w #[.string s,.string t] 32 #[.string ⟨#[]⟩,.string ⟨#[]⟩] 32;rw [EW];clear EW;replace HB:=zh (Bt HB.out hz);clear hz;refine aC [(.read,0),(.ext,1),(.ext,2),(.ext,3),(.ext,4),(.fin,5)] zk zk zR zP ?_;refine Wk.out ?_;obtain ⟨aO,aN,aP⟩:=X1.clf;refine zS ?_;clear aO aN aP;obtain ⟨⟨s4,t4⟩,k4,EX,HN⟩:=aD HR.out;refine aM rfl rfl (fun we hbe J hJ=>?_);go_simp;have hx:Below w3.heap.size w3 we:=au;have aW:=zh (Bt HB.out hx);refine (kJ (gD.of EX) _ (HP.out.later aW.out)).mono ?_;rintro e u4 H;obtain ⟨h,⟨hk,rfl,HR2⟩|⟨hk,rfl⟩⟩:=aF H HN
 rotate_left
 ·exact ⟨rfl,Bt (Bt HB.out hx) h,.inr ⟨hk,rfl⟩⟩
 clear H HN EX;subst hk;replace HR:=zh HR2;clear HR2;have hy:=Bt hx h;refine hJ _ _ h ?_;clear hJ J hbe hx h aW;replace X1:=X1.bl hy;replace X2:=X2.bl hy;replace HB:=zh (Bt HB.out hy);clear hy;obtain ⟨aO,aN,aP⟩:=X1.clf;refine zS ?_;clear aO aN aP;obtain ⟨⟨s5,t5⟩,k5,EX,HN⟩:=aD HR.out;refine aM rfl rfl (fun we hbe J hJ=>?_);go_simp;have hx:Below u4.heap.size u4 we:=au;have aW:=zh (Bt HB.out hx);refine (Wu (gD.of EX) _ (HP.out.later aW.out)).mono ?_;rintro e u5 H;obtain ⟨h,⟨hk,rfl,HR2⟩|⟨hk,rfl⟩⟩:=aF H HN
 rotate_left
 ·exact ⟨rfl,Bt (Bt HB.out hx) h,.inr ⟨hk,rfl⟩⟩
 clear H HN EX;subst hk;replace HR:=zh HR2;clear HR2;have hy:=Bt hx h;refine hJ _ _ h ?_;clear hJ J hbe hx h aW;replace X1:=X1.bl hy;replace X2:=X2.bl hy;replace HB:=zh (Bt HB.out hy);clear hy;obtain ⟨aO,aN,aP⟩:=X1.clf;refine zS ?_;clear aO aN aP;obtain ⟨⟨s6,t6⟩,k6,EX,HN⟩:=aD HR.out;refine aM rfl rfl (fun we hbe J hJ=>?_);go_simp;have hx:Below u5.heap.size u5 we:=au;have aW:=zh (Bt HB.out hx);refine (kJ (gD.of EX) _ (HP.out.later aW.out)).mono ?_;rintro e u6 H;obtain ⟨h,⟨hk,rfl,HR2⟩|⟨hk,rfl⟩⟩:=aF H HN
 rotate_left
 ·exact ⟨rfl,Bt (Bt HB.out hx) h,.inr ⟨hk,rfl⟩⟩
 clear H HN EX;subst hk;replace HR:=zh HR2;clear HR2;have hy:=Bt hx h;refine hJ _ _ h ?_;clear hJ J hbe hx h aW;replace X1:=X1.bl hy;replace X2:=X2.bl hy;replace HB:=zh (Bt HB.out hy);clear hy;obtain ⟨aO,aN,aP⟩:=X1.clf;refine zS ?_;clear aO aN aP;obtain ⟨⟨s7,t7⟩,k7,EX,HN⟩:=aD HR.out;refine aM rfl rfl (fun we hbe J hJ=>?_);go_simp;have hx:Below u6.heap.size u6 we:=au;have aW:=zh (Bt HB.out hx);refine (CX (gD.of EX) _ (HP.out.later aW.out)).mono ?_;rintro e u7 H;obtain ⟨h,⟨hk,rfl,HR2⟩|⟨hk,rfl⟩⟩:=aF H HN
 rotate_left
 ·exact ⟨rfl,Bt (Bt HB.out hx) h,.inr ⟨hk,rfl⟩⟩
 clear H HN EX;subst hk;replace HR:=zh HR2;clear HR2;have hy:=Bt hx h;refine hJ _ _ h ?_;clear hJ J hbe hx h aW;replace X1:=X1.bl hy;replace X2:=X2.bl hy;replace HB:=zh (Bt HB.out hy);clear hy;obtain ⟨aO,aN,aP⟩:=X1.clf;refine zS ?_;clear aO aN aP;refine iK [_] rfl (fun u8 hbf=>?_);have hy:Below u7.heap.size u7 u8:=au;replace X1:=X1.bl hy;replace X2:=X2.bl hy;replace HB:=zh (Bt HB.out hy);clear hy hbf;obtain ⟨aO,aN,aP⟩:=X1.clf;obtain ⟨dI,dH,dO⟩:=X2.clf;go_wp2_with fail
 clear aO aN aP dI dH dO;obtain ⟨hk,hv⟩:=HR.out;cases hk
 cases hv rfl
 have hr:=X2.out;have hb:=HB.out;refine dG rfl rfl aH Tryz.underlying32 rfl zk ?_;exact ⟨au,.inl ⟨rfl,rfl⟩⟩
theorem aF8 {a1 a2 a3 a4 a5 a6 y1 y2 y3 y4 y5 y6:ByteArray} {k:Int} {p:Nat} (hx:gD (encI ⟨⟨a1,a2⟩,⟨a3,a4⟩,⟨a5,a6⟩⟩) ⟨⟨y1,y2⟩,⟨y3,y4⟩,⟨y5,y6⟩⟩ k) (w:World)
  (hp:ah w p #[.string a1,.string a2,.string a3,.string a4,.string a5,.string a6] 34) (ht:jw.Pow w) :
  Calls Tryz.prog 81 #[.pointer (some ⟨p,0,none⟩)] w (Try w (.agg #[.string y1,.string y2,.string y3,.string y4,.string y5,.string y6]) k):=by
 have HR:=zh hx;have HP:=zh ht;have XP:=zh hp;clear hx ht hp;unfold encI at HR;go_enter Tryz.func81,Tryz.ntmps81
 have HB:=zh (Below.refl w.heap.size w);have aZ:=XP.out.cell;have aX:=XP.out.lt;have aY:=XP.out.free;go_wp2_with fail
 clear aZ aX aY;obtain ⟨w2,EW,hz,X1⟩:=pJ w #[.string ⟨#[]⟩,.string ⟨#[]⟩,.string ⟨#[]⟩,.string ⟨#[]⟩,.string ⟨#[]⟩,.string ⟨#[]⟩] 34;rw [EW];clear EW;replace XP:=XP.bl hz;replace HB:=zh (Bt HB.out hz);clear hz;refine aC [(.pure,0),(.read,1),(.pure,4),(.pure,5),(.read,6),(.pure,8),(.pure,9),(.read,10),(.ext,2),(.ext,3),(.ext,7),(.ext,11),(.pure,12),(.fin,13)] zk zk zR zP ?_;refine Wk.out ?_;have aZ:=XP.out.cell;have aX:=XP.out.lt;have aY:=XP.out.free;refine zS ?_;clear aZ aX aY;obtain ⟨⟨s3,t3⟩,k3,EX,HN⟩:=aD HR.out;refine aM rfl rfl (fun we hbe J hJ=>?_);go_simp;have hx:Below w2.heap.size w2 we:=au;have aW:=zh (Bt HB.out hx);refine (kJ (gD.of EX) _ (HP.out.later aW.out)).mono ?_;rintro e u3 H;obtain ⟨h,⟨hk,rfl,HR2⟩|⟨hk,rfl⟩⟩:=aF H HN
 rotate_left
 ·exact ⟨rfl,Bt (Bt HB.out hx) h,.inr ⟨hk,rfl⟩⟩
 clear H HN EX;subst hk;replace HR:=zh HR2;clear HR2;have hy:=Bt hx h;refine hJ _ _ h ?_;clear hJ J hbe hx h aW;replace XP:=XP.bl hy;replace X1:=X1.bl hy;replace HB:=zh (Bt HB.out hy);clear hy;have aZ:=XP.out.cell;have aX:=XP.out.lt;have aY:=XP.out.free;refine zS ?_;clear aZ aX aY;obtain ⟨⟨s4,t4⟩,k4,EX,HN⟩:=aD HR.out;refine aM rfl rfl (fun we hbe J hJ=>?_);go_simp;have hx:Below u3.heap.size u3 we:=au;have aW:=zh (Bt HB.out hx);refine (CX (gD.of EX) _ (HP.out.later aW.out)).mono ?_;rintro e u4 H;obtain ⟨h,⟨hk,rfl,HR2⟩|⟨hk,rfl⟩⟩:=aF H HN
 rotate_left
 ·exact ⟨rfl,Bt (Bt HB.out hx) h,.inr ⟨hk,rfl⟩⟩
 clear H HN EX;subst hk;replace HR:=zh HR2;clear HR2;have hy:=Bt hx h;refine hJ _ _ h ?_;clear hJ J hbe hx h aW;replace XP:=XP.bl hy;replace X1:=X1.bl hy;replace HB:=zh (Bt HB.out hy);clear hy;have aZ:=XP.out.cell;have aX:=XP.out.lt;have aY:=XP.out.free;refine zS ?_;clear aZ aX aY;obtain ⟨⟨s5,t5⟩,k5,EX,HN⟩:=aD HR.out;refine aM rfl rfl (fun we hbe J hJ=>?_);go_simp;have hx:Below u4.heap.size u4 we:=au;have aW:=zh (Bt HB.out hx);refine (Ve (gD.of EX) _ (HP.out.later aW.out)).mono ?_;rintro e u5 H;obtain ⟨h,⟨hk,rfl,HR2⟩|⟨hk,rfl⟩⟩:=aF H HN
 rotate_left
 ·exact ⟨rfl,Bt (Bt HB.out hx) h,.inr ⟨hk,rfl⟩⟩
 clear H HN EX;subst hk;replace HR:=zh HR2;clear HR2;have hy:=Bt hx h;refine hJ _ _ h ?_;clear hJ J hbe hx h aW;replace XP:=XP.bl hy;replace X1:=X1.bl hy;replace HB:=zh (Bt HB.out hy);clear hy;have aZ:=XP.out.cell;have aX:=XP.out.lt;have aY:=XP.out.free;refine zS ?_;clear aZ aX aY;obtain ⟨⟨s6,t6⟩,k6,EX,HN⟩:=aD HR.out;refine aM rfl rfl (fun we hbe J hJ=>?_);go_simp;have hx:Below u5.heap.size u5 we:=au;have aW:=zh (Bt HB.out hx);refine (Ve (gD.of EX) _ (HP.out.later aW.out)).mono ?_;rintro e u6 H;obtain ⟨h,⟨hk,rfl,HR2⟩|⟨hk,rfl⟩⟩:=aF H HN
 rotate_left
 ·exact ⟨rfl,Bt (Bt HB.out hx) h,.inr ⟨hk,rfl⟩⟩
 clear H HN EX;subst hk;replace HR:=zh HR2;clear HR2;have hy:=Bt hx h;refine hJ _ _ h ?_;clear hJ J hbe hx h aW;replace XP:=XP.bl hy;replace X1:=X1.bl hy;replace HB:=zh (Bt HB.out hy);clear hy;have aZ:=XP.out.cell;have aX:=XP.out.lt;have aY:=XP.out.free;refine zS ?_;clear aZ aX aY;refine iK [_] rfl (fun u7 hbf=>?_);have hy:Below u6.heap.size u6 u7:=au;replace XP:=XP.bl hy;replace X1:=X1.bl hy;replace HB:=zh (Bt HB.out hy);clear hy hbf;have aZ:=XP.out.cell;have aX:=XP.out.lt;have aY:=XP.out.free;obtain ⟨aO,aN,aP⟩:=X1.clf;go_wp2_with fail
 clear aZ aX aY aO aN aP;obtain ⟨hk,hv⟩:=HR.out;cases hk
 cases hv rfl
 have hr:=X1.out;have hb:=HB.out;refine dG rfl rfl aH Tryz.underlying34 rfl zk ?_;exact ⟨au,.inl ⟨rfl,rfl⟩⟩
theorem af6 {s t y y':ByteArray} {k:Int} (hx:gD (Wt ⟨s,t⟩) ⟨y,y'⟩ k) (w:World) (ht:jw.Pow w) :
  Calls Tryz.prog 89 #[.agg #[.string s,.string t]] w (Try w (.agg #[.string y,.string y']) k):=by
 have HR:=zh hx;have HP:=zh ht;clear hx ht;unfold Wt at HR;go_enter Tryz.func89,Tryz.ntmps89
 have HB:=zh (Below.refl w.heap.size w);go_wp2_with fail
 obtain ⟨w3,EW,hz,X1,X2⟩:=uH w #[.string s,.string t] 32 #[.string ⟨#[]⟩,.string ⟨#[]⟩] 32;rw [EW];clear EW;replace HB:=zh (Bt HB.out hz);clear hz;refine aC [(.read,0),(.ext,1),(.ext,2),(.ext,3),(.ext,4),(.fin,5)] zk zk zR zP ?_;refine Wk.out ?_;obtain ⟨aO,aN,aP⟩:=X1.clf;refine zS ?_;clear aO aN aP;obtain ⟨⟨s4,t4⟩,k4,EX,HN⟩:=aD HR.out;refine aM rfl rfl (fun we hbe J hJ=>?_);go_simp;have hx:Below w3.heap.size w3 we:=au;have aW:=zh (Bt HB.out hx);refine (kJ (gD.of EX) _ (HP.out.later aW.out)).mono ?_;rintro e u4 H;obtain ⟨h,⟨hk,rfl,HR2⟩|⟨hk,rfl⟩⟩:=aF H HN
 rotate_left
 ·exact ⟨rfl,Bt (Bt HB.out hx) h,.inr ⟨hk,rfl⟩⟩
 clear H HN EX;subst hk;replace HR:=zh HR2;clear HR2;have hy:=Bt hx h;refine hJ _ _ h ?_;clear hJ J hbe hx h aW;replace X1:=X1.bl hy;replace X2:=X2.bl hy;replace HB:=zh (Bt HB.out hy);clear hy;obtain ⟨aO,aN,aP⟩:=X1.clf;refine zS ?_;clear aO aN aP;obtain ⟨⟨s5,t5⟩,k5,EX,HN⟩:=aD HR.out;refine aM rfl rfl (fun we hbe J hJ=>?_);go_simp;have hx:Below u4.heap.size u4 we:=au;have aW:=zh (Bt HB.out hx);refine (GN (gD.of EX) _ (HP.out.later aW.out)).mono ?_;rintro e u5 H;obtain ⟨h,⟨hk,rfl,HR2⟩|⟨hk,rfl⟩⟩:=aF H HN
 rotate_left
 ·exact ⟨rfl,Bt (Bt HB.out hx) h,.inr ⟨hk,rfl⟩⟩
 clear H HN EX;subst hk;replace HR:=zh HR2;clear HR2;have hy:=Bt hx h;refine hJ _ _ h ?_;clear hJ J hbe hx h aW;replace X1:=X1.bl hy;replace X2:=X2.bl hy;replace HB:=zh (Bt HB.out hy);clear hy;obtain ⟨aO,aN,aP⟩:=X1.clf;refine zS ?_;clear aO aN aP;obtain ⟨⟨s6,t6⟩,k6,EX,HN⟩:=aD HR.out;refine aM rfl rfl (fun we hbe J hJ=>?_);go_simp;have hx:Below u5.heap.size u5 we:=au;have aW:=zh (Bt HB.out hx);refine (kJ (gD.of EX) _ (HP.out.later aW.out)).mono ?_;rintro e u6 H;obtain ⟨h,⟨hk,rfl,HR2⟩|⟨hk,rfl⟩⟩:=aF H HN
 rotate_left
 ·exact ⟨rfl,Bt (Bt HB.out hx) h,.inr ⟨hk,rfl⟩⟩
 clear H HN EX;subst hk;replace HR:=zh HR2;clear HR2;have hy:=Bt hx h;refine hJ _ _ h ?_;clear hJ J hbe hx h aW;replace X1:=X1.bl hy;replace X2:=X2.bl hy;replace HB:=zh (Bt HB.out hy);clear hy;obtain ⟨aO,aN,aP⟩:=X1.clf;refine zS ?_;clear aO aN aP;obtain ⟨⟨s7,t7⟩,k7,EX,HN⟩:=aD HR.out;refine aM rfl rfl (fun we hbe J hJ=>?_);go_simp;have hx:Below u6.heap.size u6 we:=au;have aW:=zh (Bt HB.out hx);refine (Ze (gD.of EX) _ (HP.out.later aW.out)).mono ?_;rintro e u7 H;obtain ⟨h,⟨hk,rfl,HR2⟩|⟨hk,rfl⟩⟩:=aF H HN
 rotate_left
 ·exact ⟨rfl,Bt (Bt HB.out hx) h,.inr ⟨hk,rfl⟩⟩
 clear H HN EX;subst hk;replace HR:=zh HR2;clear HR2;have hy:=Bt hx h;refine hJ _ _ h ?_;clear hJ J hbe hx h aW;replace X1:=X1.bl hy;replace X2:=X2.bl hy;replace HB:=zh (Bt HB.out hy);clear hy;obtain ⟨aO,aN,aP⟩:=X1.clf;refine zS ?_;clear aO aN aP;refine iK [_] rfl (fun u8 hbf=>?_);have hy:Below u7.heap.size u7 u8:=au;replace X1:=X1.bl hy;replace X2:=X2.bl hy;replace HB:=zh (Bt HB.out hy);clear hy hbf;obtain ⟨aO,aN,aP⟩:=X1.clf;obtain ⟨dI,dH,dO⟩:=X2.clf;go_wp2_with fail
 clear aO aN aP dI dH dO;obtain ⟨hk,hv⟩:=HR.out;cases hk
 cases hv rfl
 have hr:=X2.out;have hb:=HB.out;refine dG rfl rfl aH Tryz.underlying32 rfl zk ?_;exact ⟨au,.inl ⟨rfl,rfl⟩⟩
theorem aG3 {a1 a2 a3 a4 a5 a6 y1 y2 y3 y4 y5 y6:ByteArray} {k:Int} {p:Nat} (hx:gD (ar2 ⟨⟨a1,a2⟩,⟨a3,a4⟩,⟨a5,a6⟩⟩) ⟨⟨y1,y2⟩,⟨y3,y4⟩,⟨y5,y6⟩⟩ k) (w:World)
  (hp:ah w p #[.string a1,.string a2,.string a3,.string a4,.string a5,.string a6] 34) (ht:jw.Pow w) :
  Calls Tryz.prog 88 #[.pointer (some ⟨p,0,none⟩)] w (Try w (.agg #[.string y1,.string y2,.string y3,.string y4,.string y5,.string y6]) k):=by
 have HR:=zh hx;have HP:=zh ht;have XP:=zh hp;clear hx ht hp;unfold ar2 at HR;go_enter Tryz.func88,Tryz.ntmps88
 have HB:=zh (Below.refl w.heap.size w);have aZ:=XP.out.cell;have aX:=XP.out.lt;have aY:=XP.out.free;go_wp2_with fail
 clear aZ aX aY;obtain ⟨w2,EW,hz,X1⟩:=pJ w #[.string ⟨#[]⟩,.string ⟨#[]⟩,.string ⟨#[]⟩,.string ⟨#[]⟩,.string ⟨#[]⟩,.string ⟨#[]⟩] 34;rw [EW];clear EW;replace XP:=XP.bl hz;replace HB:=zh (Bt HB.out hz);clear hz;refine aC [(.pure,0),(.read,1),(.pure,4),(.pure,5),(.read,6),(.pure,8),(.pure,9),(.read,10),(.ext,2),(.ext,3),(.ext,7),(.ext,11),(.pure,12),(.fin,13)] zk zk zR zP ?_;refine Wk.out ?_;have aZ:=XP.out.cell;have aX:=XP.out.lt;have aY:=XP.out.free;refine zS ?_;clear aZ aX aY;obtain ⟨⟨s3,t3⟩,k3,EX,HN⟩:=aD HR.out;refine aM rfl rfl (fun we hbe J hJ=>?_);go_simp;have hx:Below w2.heap.size w2 we:=au;have aW:=zh (Bt HB.out hx);refine (kJ (gD.of EX) _ (HP.out.later aW.out)).mono ?_;rintro e u3 H;obtain ⟨h,⟨hk,rfl,HR2⟩|⟨hk,rfl⟩⟩:=aF H HN
 rotate_left
 ·exact ⟨rfl,Bt (Bt HB.out hx) h,.inr ⟨hk,rfl⟩⟩
 clear H HN EX;subst hk;replace HR:=zh HR2;clear HR2;have hy:=Bt hx h;refine hJ _ _ h ?_;clear hJ J hbe hx h aW;replace XP:=XP.bl hy;replace X1:=X1.bl hy;replace HB:=zh (Bt HB.out hy);clear hy;have aZ:=XP.out.cell;have aX:=XP.out.lt;have aY:=XP.out.free;refine zS ?_;clear aZ aX aY;obtain ⟨⟨s4,t4⟩,k4,EX,HN⟩:=aD HR.out;refine aM rfl rfl (fun we hbe J hJ=>?_);go_simp;have hx:Below u3.heap.size u3 we:=au;have aW:=zh (Bt HB.out hx);refine (GN (gD.of EX) _ (HP.out.later aW.out)).mono ?_;rintro e u4 H;obtain ⟨h,⟨hk,rfl,HR2⟩|⟨hk,rfl⟩⟩:=aF H HN
 rotate_left
 ·exact ⟨rfl,Bt (Bt HB.out hx) h,.inr ⟨hk,rfl⟩⟩
 clear H HN EX;subst hk;replace HR:=zh HR2;clear HR2;have hy:=Bt hx h;refine hJ _ _ h ?_;clear hJ J hbe hx h aW;replace XP:=XP.bl hy;replace X1:=X1.bl hy;replace HB:=zh (Bt HB.out hy);clear hy;have aZ:=XP.out.cell;have aX:=XP.out.lt;have aY:=XP.out.free;refine zS ?_;clear aZ aX aY;obtain ⟨⟨s5,t5⟩,k5,EX,HN⟩:=aD HR.out;refine aM rfl rfl (fun we hbe J hJ=>?_);go_simp;have hx:Below u4.heap.size u4 we:=au;have aW:=zh (Bt HB.out hx);refine (af6 (gD.of EX) _ (HP.out.later aW.out)).mono ?_;rintro e u5 H;obtain ⟨h,⟨hk,rfl,HR2⟩|⟨hk,rfl⟩⟩:=aF H HN
 rotate_left
 ·exact ⟨rfl,Bt (Bt HB.out hx) h,.inr ⟨hk,rfl⟩⟩
 clear H HN EX;subst hk;replace HR:=zh HR2;clear HR2;have hy:=Bt hx h;refine hJ _ _ h ?_;clear hJ J hbe hx h aW;replace XP:=XP.bl hy;replace X1:=X1.bl hy;replace HB:=zh (Bt HB.out hy);clear hy;have aZ:=XP.out.cell;have aX:=XP.out.lt;have aY:=XP.out.free;refine zS ?_;clear aZ aX aY;obtain ⟨⟨s6,t6⟩,k6,EX,HN⟩:=aD HR.out;refine aM rfl rfl (fun we hbe J hJ=>?_);go_simp;have hx:Below u5.heap.size u5 we:=au;have aW:=zh (Bt HB.out hx);refine (af6 (gD.of EX) _ (HP.out.later aW.out)).mono ?_;rintro e u6 H;obtain ⟨h,⟨hk,rfl,HR2⟩|⟨hk,rfl⟩⟩:=aF H HN
 rotate_left
 ·exact ⟨rfl,Bt (Bt HB.out hx) h,.inr ⟨hk,rfl⟩⟩
 clear H HN EX;subst hk;replace HR:=zh HR2;clear HR2;have hy:=Bt hx h;refine hJ _ _ h ?_;clear hJ J hbe hx h aW;replace XP:=XP.bl hy;replace X1:=X1.bl hy;replace HB:=zh (Bt HB.out hy);clear hy;have aZ:=XP.out.cell;have aX:=XP.out.lt;have aY:=XP.out.free;refine zS ?_;clear aZ aX aY;refine iK [_] rfl (fun u7 hbf=>?_);have hy:Below u6.heap.size u6 u7:=au;replace XP:=XP.bl hy;replace X1:=X1.bl hy;replace HB:=zh (Bt HB.out hy);clear hy hbf;have aZ:=XP.out.cell;have aX:=XP.out.lt;have aY:=XP.out.free;obtain ⟨aO,aN,aP⟩:=X1.clf;go_wp2_with fail
 clear aZ aX aY aO aN aP;obtain ⟨hk,hv⟩:=HR.out;cases hk
 cases hv rfl
 have hr:=X1.out;have hb:=HB.out;refine dG rfl rfl aH Tryz.underlying34 rfl zk ?_;exact ⟨au,.inl ⟨rfl,rfl⟩⟩
def ab4 (b:Int × Int):(Int × Int) × Int :=
 aU (0,0) (aQ.an8 b) fun p=>aU (0,0) (sG p) fun x=>aU (0,0) (aQ.mP x) fun lo =>
 aU (0,0) (aQ.VD b) fun q=>aU (0,0) (sG q) fun y=>aU (0,0) (aQ.mP y) fun hi=>aU (0,0) (aQ.ofE lo.1 hi.2) vF
theorem wO {lo hi x y k:Int} (hx:gD (ab4 (lo,hi)) (x,y) k) (w:World) (ht:jw.Pow w) (he:whole.Er w) (hb:aQ.jF lo hi=true) :
  Calls Tryz.prog 109 #[.agg #[.int .i64 lo,.int .i64 hi]] w (Try w (.agg #[.int .i64 x,.int .i64 y]) k):=by
 have HR:=zh hx;have HP:=zh ht;have HE:=zh he;have HV:=zh hb;clear hx ht he hb;unfold ab4 at HR;go_enter Tryz.func109,Tryz.ntmps109
 have HB:=zh (Below.refl w.heap.size w);go_wp2_with fail
 refine wp_loop_rounds 3 ?_;rw [rounds_succ];have aC7:∀ W,(Instr.index 203 (.agg #[.func (.func 181) #[] #[],.func (.func 182) #[] #[]]) (.int .i64 0)).run Tryz.prog W= .ok (.func (.func 181) #[] #[]) W:=fun W=>by kernel_rfl
 go_wp2_with fail
 clear aC7;obtain ⟨w5,EW,hz,X1,X2,X3⟩:=Jy w #[.int .i64 lo,.int .i64 hi] 40 #[.int .i64 0,.int .i64 0] 40 #[.int .i64 0,.int .i64 0,.int .i64 0,.int .i64 0] 70;rw [EW];clear EW;replace HB:=zh (Bt HB.out hz);clear hz;refine aC [(.pure,0),(.pure,3),(.read,4),(.pure,5),(.ext,1),(.pure,2),(.ext,6),(.ext,7),(.ext,8),(.pure,9),(.fin,10)] zk zk zR zP ?_;refine Wk.out ?_;obtain ⟨aO,aN,aP⟩:=X1.clf;refine zS ?_;clear aO aN aP;refine aM rfl rfl (fun we hbe J hJ=>?_);go_simp;have hx:Below w5.heap.size w5 we:=au;have aW:=zh (Bt HB.out hx);refine (Da  _).mono ?_;rintro e u6 ⟨rfl,h⟩;have bs6:∀ W,(Instr.field 93 (.agg #[.func (.func 122) #[] #[],.func (.func 125) #[] #[]]) 0).run Tryz.prog W= .ok (.func (.func 122) #[] #[]) W:=fun W=>by kernel_rfl
 have bs5:∀ W,(Instr.field 93 (.agg #[.func (.func 122) #[] #[],.func (.func 125) #[] #[]]) 1).run Tryz.prog W= .ok (.func (.func 125) #[] #[]) W:=fun W=>by kernel_rfl
 have hy:=Bt hx h;refine hJ _ _ h ?_;clear hJ J hbe hx h aW;replace X1:=X1.bl hy;replace X2:=X2.bl hy;replace X3:=X3.bl hy;replace HB:=zh (Bt HB.out hy);clear hy;obtain ⟨aO,aN,aP⟩:=X1.clf;refine zS ?_;clear aO aN aP;obtain ⟨⟨s7,t7⟩,k7,EX,HN⟩:=aD HR.out;refine aM rfl rfl (fun we hbe J hJ=>?_);go_simp;have hx:Below u6.heap.size u6 we:=au;have aW:=zh (Bt HB.out hx);refine (aX1 (gD.of EX) _ (HP.out.later aW.out) HV.out).mono ?_;rintro e u7 H;obtain ⟨h,⟨hk,rfl,HR2⟩|⟨hk,rfl⟩⟩:=aF H HN
 rotate_left
 ·exact ⟨rfl,Bt (Bt HB.out hx) h,.inr ⟨hk,rfl⟩⟩
 clear H HN EX;subst hk;replace HR:=zh HR2;clear HR2;have hy:=Bt hx h;refine hJ _ _ h ?_;clear hJ J hbe hx h aW;replace X1:=X1.bl hy;replace X2:=X2.bl hy;replace X3:=X3.bl hy;replace HB:=zh (Bt HB.out hy);clear hy;obtain ⟨aO,aN,aP⟩:=X1.clf;refine zS ?_;clear aO aN aP;obtain ⟨⟨s8,t8⟩,k8,EX,HN⟩:=aD HR.out;refine aM rfl rfl (fun we hbe J hJ=>?_);go_simp;have hx:Below u7.heap.size u7 we:=au;have aW:=zh (Bt HB.out hx);refine (uQ (gD.of EX) _ (HP.out.later aW.out)).mono ?_;rintro e u8 H;obtain ⟨h,⟨hk,rfl,HR2⟩|⟨hk,rfl⟩⟩:=aF H HN
 rotate_left
 ·exact ⟨rfl,Bt (Bt HB.out hx) h,.inr ⟨hk,rfl⟩⟩
 clear H HN EX;subst hk;replace HR:=zh HR2;clear HR2;have hy:=Bt hx h;refine hJ _ _ h ?_;clear hJ J hbe hx h aW;replace X1:=X1.bl hy;replace X2:=X2.bl hy;replace X3:=X3.bl hy;replace HB:=zh (Bt HB.out hy);clear hy;obtain ⟨aO,aN,aP⟩:=X1.clf;refine zS ?_;clear aO aN aP;obtain ⟨⟨x9,y9⟩,k9,EX,HN⟩:=aD HR.out;refine aM rfl rfl (fun we hbe J hJ=>?_);go_simp;have hx:Below u8.heap.size u8 we:=au;have aW:=zh (Bt HB.out hx);refine (sP (gD.of EX) _ (HP.out.later aW.out) (HE.out.later aW.out)).mono ?_;rintro e u9 H;obtain ⟨h,⟨hk,rfl,HR2⟩|⟨hk,rfl⟩⟩:=aF H HN
 rotate_left
 ·exact ⟨rfl,Bt (Bt HB.out hx) h,.inr ⟨hk,rfl⟩⟩
 clear H HN EX;subst hk;replace HR:=zh HR2;clear HR2;have hy:=Bt hx h;refine hJ _ _ h ?_;clear hJ J hbe hx h aW;replace X1:=X1.bl hy;replace X2:=X2.bl hy;replace X3:=X3.bl hy;replace HB:=zh (Bt HB.out hy);clear hy;obtain ⟨aO,aN,aP⟩:=X1.clf;refine zS ?_;clear aO aN aP;refine iK [_] rfl (fun Yv hbf=>?_);have hy:Below u9.heap.size u9 Yv:=au;replace X1:=X1.bl hy;replace X2:=X2.bl hy;replace X3:=X3.bl hy;replace HB:=zh (Bt HB.out hy);clear hy hbf;obtain ⟨aO,aN,aP⟩:=X1.clf;obtain ⟨dI,dH,dO⟩:=X2.clf;obtain ⟨qo,qb,qH⟩:=X3.clf
 go_upto_region 6 with fail
 clear aO aN aP dI dH dO qo qb qH;have hz:Below w.heap.size w ((Yv.setCell ⟨w.heap.size+1+1,0,none⟩ (.int .i64 x9)).setCell ⟨w.heap.size+1+1,1,none⟩ (.int .i64 y9)):=((HB.out.setCell (p:=⟨w.heap.size+1+1,0,none⟩) (by first|(simp;done)|(simp;omega)) (.int .i64 x9)).setCell (p:=⟨w.heap.size+1+1,1,none⟩) (by first|(simp;done)|(simp;omega)) (.int .i64 y9));have nW:=((X1.out.setOther (a:=⟨w.heap.size+1+1,0,none⟩) (.int .i64 x9) (by first|(simp;done)|(simp;omega))).setOther (a:=⟨w.heap.size+1+1,1,none⟩) (.int .i64 y9) (by first|(simp;done)|(simp;omega)));have RJ:=((X2.out.setOther (a:=⟨w.heap.size+1+1,0,none⟩) (.int .i64 x9) (by first|(simp;done)|(simp;omega))).setOther (a:=⟨w.heap.size+1+1,1,none⟩) (.int .i64 y9) (by first|(simp;done)|(simp;omega)));have YV:=((X3.out.set 0 (.int .i64 x9)).set 1 (.int .i64 y9))
 obtain ⟨w11,EW⟩:∃ y,((Yv.setCell ⟨w.heap.size+1+1,0,none⟩ (.int .i64 x9)).setCell ⟨w.heap.size+1+1,1,none⟩ (.int .i64 y9))=y:=⟨_,rfl⟩;rw [EW] at hz nW RJ YV ⊢;replace X1:Hid (ah w11 (w.heap.size) #[.int .i64 lo,.int .i64 hi] 40):=zh nW;clear nW;replace X2:Hid (ah w11 (w.heap.size+1) #[.int .i64 0,.int .i64 0] 40):=zh RJ;clear RJ;replace X3:Hid (ah w11 (w.heap.size+1+1) #[.int .i64 x9,.int .i64 y9,.int .i64 0,.int .i64 0] 70):=zh YV;clear YV;replace HB:=zh hz;clear hz EW;obtain ⟨aO,aN,aP⟩:=X1.clf;obtain ⟨dI,dH,dO⟩:=X2.clf;obtain ⟨qo,qb,qH⟩:=X3.clf;go_wp2_with fail
 clear aO aN aP dI dH dO qo qb qH;rw [rounds_succ];have bf0:∀ W,(Instr.index 203 (.agg #[.func (.func 181) #[] #[],.func (.func 182) #[] #[]]) (.int .i64 1)).run Tryz.prog W= .ok (.func (.func 182) #[] #[]) W:=fun W=>by kernel_rfl
 obtain ⟨aO,aN,aP⟩:=X1.clf;obtain ⟨dI,dH,dO⟩:=X2.clf;obtain ⟨qo,qb,qH⟩:=X3.clf;go_wp2_with fail
 clear aO aN aP dI dH dO qo qb qH;clear bf0;refine aC [(.pure,0),(.pure,3),(.read,4),(.pure,5),(.ext,1),(.pure,2),(.ext,6),(.ext,7),(.ext,8),(.pure,9),(.fin,10)] zk zk zR zP ?_;refine Wk.out ?_;obtain ⟨aO,aN,aP⟩:=X1.clf;refine zS ?_;clear aO aN aP;refine aM rfl rfl (fun we hbe J hJ=>?_);go_simp;have hx:Below w11.heap.size w11 we:=au;have aW:=zh (Bt HB.out hx);refine (Da  _).mono ?_;rintro e Mi ⟨rfl,h⟩;have hy:=Bt hx h;refine hJ _ _ h ?_;clear hJ J hbe hx h aW;replace X1:=X1.bl hy;replace X2:=X2.bl hy;replace X3:=X3.bl hy;replace HB:=zh (Bt HB.out hy);clear hy;obtain ⟨aO,aN,aP⟩:=X1.clf;refine zS ?_;clear aO aN aP;obtain ⟨⟨s14,t14⟩,k14,EX,HN⟩:=aD HR.out;refine aM rfl rfl (fun we hbe J hJ=>?_);go_simp;have hx:Below Mi.heap.size Mi we:=au;have aW:=zh (Bt HB.out hx)
 refine (aC9 (gD.of EX) _ (HP.out.later aW.out) HV.out).mono ?_;rintro e u14 H;obtain ⟨h,⟨hk,rfl,HR2⟩|⟨hk,rfl⟩⟩:=aF H HN
 rotate_left
 ·exact ⟨rfl,Bt (Bt HB.out hx) h,.inr ⟨hk,rfl⟩⟩
 clear H HN EX;subst hk;replace HR:=zh HR2;clear HR2;have hy:=Bt hx h;refine hJ _ _ h ?_;clear hJ J hbe hx h aW;replace X1:=X1.bl hy;replace X2:=X2.bl hy;replace X3:=X3.bl hy;replace HB:=zh (Bt HB.out hy);clear hy;obtain ⟨aO,aN,aP⟩:=X1.clf;refine zS ?_;clear aO aN aP;obtain ⟨⟨s15,t15⟩,k15,EX,HN⟩:=aD HR.out;refine aM rfl rfl (fun we hbe J hJ=>?_);go_simp;have hx:Below u14.heap.size u14 we:=au;have aW:=zh (Bt HB.out hx);refine (uQ (gD.of EX) _ (HP.out.later aW.out)).mono ?_;rintro e KF H;obtain ⟨h,⟨hk,rfl,HR2⟩|⟨hk,rfl⟩⟩:=aF H HN
 rotate_left
 ·exact ⟨rfl,Bt (Bt HB.out hx) h,.inr ⟨hk,rfl⟩⟩
 clear H HN EX;subst hk;replace HR:=zh HR2;clear HR2;have hy:=Bt hx h;refine hJ _ _ h ?_;clear hJ J hbe hx h aW;replace X1:=X1.bl hy;replace X2:=X2.bl hy;replace X3:=X3.bl hy;replace HB:=zh (Bt HB.out hy);clear hy;obtain ⟨aO,aN,aP⟩:=X1.clf;refine zS ?_;clear aO aN aP;obtain ⟨⟨YH,y16⟩,k16,EX,HN⟩:=aD HR.out;refine aM rfl rfl (fun we hbe J hJ=>?_);go_simp;have hx:Below KF.heap.size KF we:=au;have aW:=zh (Bt HB.out hx);refine (sP (gD.of EX) _ (HP.out.later aW.out) (HE.out.later aW.out)).mono ?_;rintro e u16 H;obtain ⟨h,⟨hk,rfl,HR2⟩|⟨hk,rfl⟩⟩:=aF H HN
 rotate_left
 ·exact ⟨rfl,Bt (Bt HB.out hx) h,.inr ⟨hk,rfl⟩⟩
 clear H HN EX;subst hk;replace HR:=zh HR2;clear HR2;have hy:=Bt hx h;refine hJ _ _ h ?_;clear hJ J hbe hx h aW;replace X1:=X1.bl hy;replace X2:=X2.bl hy;replace X3:=X3.bl hy;replace HB:=zh (Bt HB.out hy);clear hy;obtain ⟨aO,aN,aP⟩:=X1.clf;refine zS ?_;clear aO aN aP;refine iK [_] rfl (fun YQ hbf=>?_);have hy:Below u16.heap.size u16 YQ:=au;replace X1:=X1.bl hy;replace X2:=X2.bl hy;replace X3:=X3.bl hy;replace HB:=zh (Bt HB.out hy);clear hy hbf;obtain ⟨aO,aN,aP⟩:=X1.clf;obtain ⟨dI,dH,dO⟩:=X2.clf;obtain ⟨qo,qb,qH⟩:=X3.clf
 go_upto_region 6 with fail
 clear aO aN aP dI dH dO qo qb qH;have hz:Below w.heap.size w ((YQ.setCell ⟨w.heap.size+1+1,2,none⟩ (.int .i64 YH)).setCell ⟨w.heap.size+1+1,3,none⟩ (.int .i64 y16)):=((HB.out.setCell (p:=⟨w.heap.size+1+1,2,none⟩) (by first|(simp;done)|(simp;omega)) (.int .i64 YH)).setCell (p:=⟨w.heap.size+1+1,3,none⟩) (by first|(simp;done)|(simp;omega)) (.int .i64 y16));have nW:=((X1.out.setOther (a:=⟨w.heap.size+1+1,2,none⟩) (.int .i64 YH) (by first|(simp;done)|(simp;omega))).setOther (a:=⟨w.heap.size+1+1,3,none⟩) (.int .i64 y16) (by first|(simp;done)|(simp;omega)));have RJ:=((X2.out.setOther (a:=⟨w.heap.size+1+1,2,none⟩) (.int .i64 YH) (by first|(simp;done)|(simp;omega))).setOther (a:=⟨w.heap.size+1+1,3,none⟩) (.int .i64 y16) (by first|(simp;done)|(simp;omega)));have YV:=((X3.out.set 2 (.int .i64 YH)).set 3 (.int .i64 y16))
 obtain ⟨w18,EW⟩:∃ y,((YQ.setCell ⟨w.heap.size+1+1,2,none⟩ (.int .i64 YH)).setCell ⟨w.heap.size+1+1,3,none⟩ (.int .i64 y16))=y:=⟨_,rfl⟩;rw [EW] at hz nW RJ YV ⊢;replace X1:Hid (ah w18 (w.heap.size) #[.int .i64 lo,.int .i64 hi] 40):=zh nW;clear nW;replace X2:Hid (ah w18 (w.heap.size+1) #[.int .i64 0,.int .i64 0] 40):=zh RJ;clear RJ;replace X3:Hid (ah w18 (w.heap.size+1+1) #[.int .i64 x9,.int .i64 y9,.int .i64 YH,.int .i64 y16] 70):=zh YV;clear YV;replace HB:=zh hz;clear hz EW;obtain ⟨aO,aN,aP⟩:=X1.clf;obtain ⟨dI,dH,dO⟩:=X2.clf;obtain ⟨qo,qb,qH⟩:=X3.clf;go_wp2_with fail
 clear aO aN aP dI dH dO qo qb qH;rw [rounds_succ];obtain ⟨aO,aN,aP⟩:=X1.clf;obtain ⟨dI,dH,dO⟩:=X2.clf;obtain ⟨qo,qb,qH⟩:=X3.clf;go_wp2_with fail
 clear aO aN aP dI dH dO qo qb qH;obtain ⟨⟨JB,JA⟩,k19,EX,HN⟩:=aD HR.out;refine (bu8 EX _).mono ?_;rintro e u19 ⟨rfl,h⟩;have HM:=zh HN;clear HN EX;replace X1:=X1.bl h;replace X2:=X2.bl h;replace X3:=X3.bl h;replace HB:=zh (Bt HB.out h);clear h;obtain ⟨aO,aN,aP⟩:=X1.clf;obtain ⟨dI,dH,dO⟩:=X2.clf;obtain ⟨qo,qb,qH⟩:=X3.clf;go_wp2_with fail
 clear aO aN aP dI dH dO qo qb qH;refine (jU _).mono ?_;rintro e u20 H;obtain ⟨h,⟨hk,rfl,HR2⟩|⟨hk,rfl⟩⟩:=aF H HM.out
 rotate_left
 ·exact ⟨rfl,Bt HB.out h,.inr ⟨hk,rfl⟩⟩
 clear H HM;subst hk;replace HR:=zh HR2;clear HR2;replace X1:=X1.bl h;replace X2:=X2.bl h;replace X3:=X3.bl h;replace HB:=zh (Bt HB.out h);clear h;obtain ⟨aO,aN,aP⟩:=X1.clf;obtain ⟨dI,dH,dO⟩:=X2.clf;obtain ⟨qo,qb,qH⟩:=X3.clf;go_wp2_with fail
 clear aO aN aP dI dH dO qo qb qH;obtain ⟨hk,hv⟩:=HR.out;cases hk
 cases hv rfl
 have hr:=X2.out;have hb:=HB.out;refine dG rfl rfl aH Tryz.underlying40 rfl zk ?_;exact ⟨au,.inl ⟨rfl,rfl⟩⟩
def VR (x w:Fr):(Int × Int) × Int:=aU (0,0) (Dq x w) fun t=>aU (0,0) (IW t) vF
theorem Ry {a1 a2 a3 a4 a5 a6 b1 b2 b3 b4 b5 b6:ByteArray} {x y k:Int} {p q:Nat} (hx:gD (VR ⟨a1,a2⟩ ⟨b1,b2⟩) (x,y) k) (w:World)
  (hp:ah w p #[.string a1,.string a2,.string a3,.string a4,.string a5,.string a6] 34) (hq:ah w q #[.string b1,.string b2,.string b3,.string b4,.string b5,.string b6] 34) (ht:jw.Pow w) (he:whole.Er w) :
  Calls Tryz.prog 46 #[.int .i64 0,.pointer (some ⟨p,0,none⟩),.pointer (some ⟨q,0,none⟩)] w (Try w (.agg #[.int .i64 x,.int .i64 y]) k):=by
 have HR:=zh hx;have HP:=zh ht;have HE:=zh he;have XP:=zh hp;have XQ:=zh hq;clear hx ht he hp hq;unfold VR at HR;go_enter Tryz.func46,Tryz.ntmps46
 have HB:=zh (Below.refl w.heap.size w);have aZ:=XP.out.cell;have aX:=XP.out.lt;have aY:=XP.out.free;have dX:=XQ.out.cell;have dV:=XQ.out.lt;have dW:=XQ.out.free;go_wp2_with fail
 clear aZ aX aY dX dV dW;obtain ⟨w2,EW,hz,X1⟩:=pJ w #[.int .i64 0,.int .i64 0] 40;rw [EW];clear EW;replace XP:=XP.bl hz;replace XQ:=XQ.bl hz;replace HB:=zh (Bt HB.out hz);clear hz;refine aC [(.pure,2),(.pure,3),(.read,4),(.pure,5),(.pure,6),(.read,7),(.ext,0),(.pure,1),(.ext,8),(.ext,9),(.fin,10)] zk zk zR zP ?_;refine Wk.out ?_;have aZ:=XP.out.cell;have aX:=XP.out.lt;have aY:=XP.out.free;have dX:=XQ.out.cell;have dV:=XQ.out.lt;have dW:=XQ.out.free;refine zS ?_;clear aZ aX aY dX dV dW;refine aM rfl rfl (fun we hbe J hJ=>?_);go_simp;have hx:Below w2.heap.size w2 we:=au;have aW:=zh (Bt HB.out hx);refine (Da  _).mono ?_;rintro e u3 ⟨rfl,h⟩;have ac5:∀ W,(Instr.field 93 (.agg #[.func (.func 122) #[] #[],.func (.func 125) #[] #[]]) 0).run Tryz.prog W= .ok (.func (.func 122) #[] #[]) W:=fun W=>by kernel_rfl
 have ac4:∀ W,(Instr.field 93 (.agg #[.func (.func 122) #[] #[],.func (.func 125) #[] #[]]) 1).run Tryz.prog W= .ok (.func (.func 125) #[] #[]) W:=fun W=>by kernel_rfl
 have hy:=Bt hx h;refine hJ _ _ h ?_;clear hJ J hbe hx h aW;replace XP:=XP.bl hy;replace XQ:=XQ.bl hy;replace X1:=X1.bl hy;replace HB:=zh (Bt HB.out hy);clear hy;have aZ:=XP.out.cell;have aX:=XP.out.lt;have aY:=XP.out.free;have dX:=XQ.out.cell;have dV:=XQ.out.lt;have dW:=XQ.out.free;refine zS ?_;clear aZ aX aY dX dV dW;obtain ⟨⟨s4,t4⟩,k4,EX,HN⟩:=aD HR.out;refine aM rfl rfl (fun we hbe J hJ=>?_);go_simp;have hx:Below u3.heap.size u3 we:=au;have aW:=zh (Bt HB.out hx);refine (CX (gD.of EX) _ (HP.out.later aW.out)).mono ?_;rintro e u4 H;obtain ⟨h,⟨hk,rfl,HR2⟩|⟨hk,rfl⟩⟩:=aF H HN
 rotate_left
 ·exact ⟨rfl,Bt (Bt HB.out hx) h,.inr ⟨hk,rfl⟩⟩
 clear H HN EX;subst hk;replace HR:=zh HR2;clear HR2;have hy:=Bt hx h;refine hJ _ _ h ?_;clear hJ J hbe hx h aW;replace XP:=XP.bl hy;replace XQ:=XQ.bl hy;replace X1:=X1.bl hy;replace HB:=zh (Bt HB.out hy);clear hy;have aZ:=XP.out.cell;have aX:=XP.out.lt;have aY:=XP.out.free;have dX:=XQ.out.cell;have dV:=XQ.out.lt;have dW:=XQ.out.free;refine zS ?_;clear aZ aX aY dX dV dW;obtain ⟨⟨x5,y5⟩,k5,EX,HN⟩:=aD HR.out;refine aM rfl rfl (fun we hbe J hJ=>?_);go_simp;have hx:Below u4.heap.size u4 we:=au;have aW:=zh (Bt HB.out hx);refine (Nz (gD.of EX) _ (HP.out.later aW.out) (HE.out.later aW.out)).mono ?_;rintro e u5 H;obtain ⟨h,⟨hk,rfl,HR2⟩|⟨hk,rfl⟩⟩:=aF H HN
 rotate_left
 ·exact ⟨rfl,Bt (Bt HB.out hx) h,.inr ⟨hk,rfl⟩⟩
 clear H HN EX;subst hk;replace HR:=zh HR2;clear HR2;have hy:=Bt hx h;refine hJ _ _ h ?_;clear hJ J hbe hx h aW;replace XP:=XP.bl hy;replace XQ:=XQ.bl hy;replace X1:=X1.bl hy;replace HB:=zh (Bt HB.out hy);clear hy;have aZ:=XP.out.cell;have aX:=XP.out.lt;have aY:=XP.out.free;have dX:=XQ.out.cell;have dV:=XQ.out.lt;have dW:=XQ.out.free;refine zS ?_;clear aZ aX aY dX dV dW;refine iK [_] rfl (fun u6 hbf=>?_);have hy:Below u5.heap.size u5 u6:=au;replace XP:=XP.bl hy;replace XQ:=XQ.bl hy;replace X1:=X1.bl hy;replace HB:=zh (Bt HB.out hy);clear hy hbf;have aZ:=XP.out.cell;have aX:=XP.out.lt;have aY:=XP.out.free;have dX:=XQ.out.cell;have dV:=XQ.out.lt;have dW:=XQ.out.free;obtain ⟨aO,aN,aP⟩:=X1.clf;go_wp2_with fail
 clear aZ aX aY dX dV dW aO aN aP;obtain ⟨hk,hv⟩:=HR.out;cases hk
 cases hv rfl
 have hr:=X1.out;have hb:=HB.out;refine dG rfl rfl aH Tryz.underlying40 rfl zk ?_;exact ⟨au,.inl ⟨rfl,rfl⟩⟩
theorem Rx {a1 a2 a3 a4 a5 a6 b1 b2 b3 b4 b5 b6:ByteArray} {x y k:Int} {p q:Nat} (hx:gD (VR ⟨a3,a4⟩ ⟨b3,b4⟩) (x,y) k) (w:World)
  (hp:ah w p #[.string a1,.string a2,.string a3,.string a4,.string a5,.string a6] 34) (hq:ah w q #[.string b1,.string b2,.string b3,.string b4,.string b5,.string b6] 34) (ht:jw.Pow w) (he:whole.Er w) :
  Calls Tryz.prog 46 #[.int .i64 1,.pointer (some ⟨p,0,none⟩),.pointer (some ⟨q,0,none⟩)] w (Try w (.agg #[.int .i64 x,.int .i64 y]) k):=by
 have HR:=zh hx;have HP:=zh ht;have HE:=zh he;have XP:=zh hp;have XQ:=zh hq;clear hx ht he hp hq;unfold VR at HR;go_enter Tryz.func46,Tryz.ntmps46
 have HB:=zh (Below.refl w.heap.size w);have aZ:=XP.out.cell;have aX:=XP.out.lt;have aY:=XP.out.free;have dX:=XQ.out.cell;have dV:=XQ.out.lt;have dW:=XQ.out.free;go_wp2_with fail
 clear aZ aX aY dX dV dW;obtain ⟨w2,EW,hz,X1⟩:=pJ w #[.int .i64 0,.int .i64 0] 40;rw [EW];clear EW;replace XP:=XP.bl hz;replace XQ:=XQ.bl hz;replace HB:=zh (Bt HB.out hz);clear hz;refine aC [(.pure,2),(.pure,3),(.read,4),(.pure,5),(.pure,6),(.read,7),(.ext,0),(.pure,1),(.ext,8),(.ext,9),(.fin,10)] zk zk zR zP ?_;refine Wk.out ?_;have aZ:=XP.out.cell;have aX:=XP.out.lt;have aY:=XP.out.free;have dX:=XQ.out.cell;have dV:=XQ.out.lt;have dW:=XQ.out.free;refine zS ?_;clear aZ aX aY dX dV dW;refine aM rfl rfl (fun we hbe J hJ=>?_);go_simp;have hx:Below w2.heap.size w2 we:=au;have aW:=zh (Bt HB.out hx);refine (Da  _).mono ?_;rintro e u3 ⟨rfl,h⟩;have ac5:∀ W,(Instr.field 93 (.agg #[.func (.func 122) #[] #[],.func (.func 125) #[] #[]]) 0).run Tryz.prog W= .ok (.func (.func 122) #[] #[]) W:=fun W=>by kernel_rfl
 have ac4:∀ W,(Instr.field 93 (.agg #[.func (.func 122) #[] #[],.func (.func 125) #[] #[]]) 1).run Tryz.prog W= .ok (.func (.func 125) #[] #[]) W:=fun W=>by kernel_rfl
 have hy:=Bt hx h;refine hJ _ _ h ?_;clear hJ J hbe hx h aW;replace XP:=XP.bl hy;replace XQ:=XQ.bl hy;replace X1:=X1.bl hy;replace HB:=zh (Bt HB.out hy);clear hy;have aZ:=XP.out.cell;have aX:=XP.out.lt;have aY:=XP.out.free;have dX:=XQ.out.cell;have dV:=XQ.out.lt;have dW:=XQ.out.free;refine zS ?_;clear aZ aX aY dX dV dW;obtain ⟨⟨s4,t4⟩,k4,EX,HN⟩:=aD HR.out;refine aM rfl rfl (fun we hbe J hJ=>?_);go_simp;have hx:Below u3.heap.size u3 we:=au;have aW:=zh (Bt HB.out hx);refine (CX (gD.of EX) _ (HP.out.later aW.out)).mono ?_;rintro e u4 H;obtain ⟨h,⟨hk,rfl,HR2⟩|⟨hk,rfl⟩⟩:=aF H HN
 rotate_left
 ·exact ⟨rfl,Bt (Bt HB.out hx) h,.inr ⟨hk,rfl⟩⟩
 clear H HN EX;subst hk;replace HR:=zh HR2;clear HR2;have hy:=Bt hx h;refine hJ _ _ h ?_;clear hJ J hbe hx h aW;replace XP:=XP.bl hy;replace XQ:=XQ.bl hy;replace X1:=X1.bl hy;replace HB:=zh (Bt HB.out hy);clear hy;have aZ:=XP.out.cell;have aX:=XP.out.lt;have aY:=XP.out.free;have dX:=XQ.out.cell;have dV:=XQ.out.lt;have dW:=XQ.out.free;refine zS ?_;clear aZ aX aY dX dV dW;obtain ⟨⟨x5,y5⟩,k5,EX,HN⟩:=aD HR.out;refine aM rfl rfl (fun we hbe J hJ=>?_);go_simp;have hx:Below u4.heap.size u4 we:=au;have aW:=zh (Bt HB.out hx);refine (Nz (gD.of EX) _ (HP.out.later aW.out) (HE.out.later aW.out)).mono ?_;rintro e u5 H;obtain ⟨h,⟨hk,rfl,HR2⟩|⟨hk,rfl⟩⟩:=aF H HN
 rotate_left
 ·exact ⟨rfl,Bt (Bt HB.out hx) h,.inr ⟨hk,rfl⟩⟩
 clear H HN EX;subst hk;replace HR:=zh HR2;clear HR2;have hy:=Bt hx h;refine hJ _ _ h ?_;clear hJ J hbe hx h aW;replace XP:=XP.bl hy;replace XQ:=XQ.bl hy;replace X1:=X1.bl hy;replace HB:=zh (Bt HB.out hy);clear hy;have aZ:=XP.out.cell;have aX:=XP.out.lt;have aY:=XP.out.free;have dX:=XQ.out.cell;have dV:=XQ.out.lt;have dW:=XQ.out.free;refine zS ?_;clear aZ aX aY dX dV dW;refine iK [_] rfl (fun u6 hbf=>?_);have hy:Below u5.heap.size u5 u6:=au;replace XP:=XP.bl hy;replace XQ:=XQ.bl hy;replace X1:=X1.bl hy;replace HB:=zh (Bt HB.out hy);clear hy hbf;have aZ:=XP.out.cell;have aX:=XP.out.lt;have aY:=XP.out.free;have dX:=XQ.out.cell;have dV:=XQ.out.lt;have dW:=XQ.out.free;obtain ⟨aO,aN,aP⟩:=X1.clf;go_wp2_with fail
 clear aZ aX aY dX dV dW aO aN aP;obtain ⟨hk,hv⟩:=HR.out;cases hk
 cases hv rfl
 have hr:=X1.out;have hb:=HB.out;refine dG rfl rfl aH Tryz.underlying40 rfl zk ?_;exact ⟨au,.inl ⟨rfl,rfl⟩⟩
theorem Rw {a1 a2 a3 a4 a5 a6 b1 b2 b3 b4 b5 b6:ByteArray} {x y k:Int} {p q:Nat} (hx:gD (VR ⟨a5,a6⟩ ⟨b5,b6⟩) (x,y) k) (w:World)
  (hp:ah w p #[.string a1,.string a2,.string a3,.string a4,.string a5,.string a6] 34) (hq:ah w q #[.string b1,.string b2,.string b3,.string b4,.string b5,.string b6] 34) (ht:jw.Pow w) (he:whole.Er w) :
  Calls Tryz.prog 46 #[.int .i64 2,.pointer (some ⟨p,0,none⟩),.pointer (some ⟨q,0,none⟩)] w (Try w (.agg #[.int .i64 x,.int .i64 y]) k):=by
 have HR:=zh hx;have HP:=zh ht;have HE:=zh he;have XP:=zh hp;have XQ:=zh hq;clear hx ht he hp hq;unfold VR at HR;go_enter Tryz.func46,Tryz.ntmps46
 have HB:=zh (Below.refl w.heap.size w);have aZ:=XP.out.cell;have aX:=XP.out.lt;have aY:=XP.out.free;have dX:=XQ.out.cell;have dV:=XQ.out.lt;have dW:=XQ.out.free;go_wp2_with fail
 clear aZ aX aY dX dV dW;obtain ⟨w2,EW,hz,X1⟩:=pJ w #[.int .i64 0,.int .i64 0] 40;rw [EW];clear EW;replace XP:=XP.bl hz;replace XQ:=XQ.bl hz;replace HB:=zh (Bt HB.out hz);clear hz;refine aC [(.pure,2),(.pure,3),(.read,4),(.pure,5),(.pure,6),(.read,7),(.ext,0),(.pure,1),(.ext,8),(.ext,9),(.fin,10)] zk zk zR zP ?_;refine Wk.out ?_;have aZ:=XP.out.cell;have aX:=XP.out.lt;have aY:=XP.out.free;have dX:=XQ.out.cell;have dV:=XQ.out.lt;have dW:=XQ.out.free;refine zS ?_;clear aZ aX aY dX dV dW;refine aM rfl rfl (fun we hbe J hJ=>?_);go_simp;have hx:Below w2.heap.size w2 we:=au;have aW:=zh (Bt HB.out hx);refine (Da  _).mono ?_;rintro e u3 ⟨rfl,h⟩;have ac5:∀ W,(Instr.field 93 (.agg #[.func (.func 122) #[] #[],.func (.func 125) #[] #[]]) 0).run Tryz.prog W= .ok (.func (.func 122) #[] #[]) W:=fun W=>by kernel_rfl
 have ac4:∀ W,(Instr.field 93 (.agg #[.func (.func 122) #[] #[],.func (.func 125) #[] #[]]) 1).run Tryz.prog W= .ok (.func (.func 125) #[] #[]) W:=fun W=>by kernel_rfl
 have hy:=Bt hx h;refine hJ _ _ h ?_;clear hJ J hbe hx h aW;replace XP:=XP.bl hy;replace XQ:=XQ.bl hy;replace X1:=X1.bl hy;replace HB:=zh (Bt HB.out hy);clear hy;have aZ:=XP.out.cell;have aX:=XP.out.lt;have aY:=XP.out.free;have dX:=XQ.out.cell;have dV:=XQ.out.lt;have dW:=XQ.out.free;refine zS ?_;clear aZ aX aY dX dV dW;obtain ⟨⟨s4,t4⟩,k4,EX,HN⟩:=aD HR.out;refine aM rfl rfl (fun we hbe J hJ=>?_);go_simp;have hx:Below u3.heap.size u3 we:=au;have aW:=zh (Bt HB.out hx);refine (CX (gD.of EX) _ (HP.out.later aW.out)).mono ?_;rintro e u4 H;obtain ⟨h,⟨hk,rfl,HR2⟩|⟨hk,rfl⟩⟩:=aF H HN
 rotate_left
 ·exact ⟨rfl,Bt (Bt HB.out hx) h,.inr ⟨hk,rfl⟩⟩
 clear H HN EX;subst hk;replace HR:=zh HR2;clear HR2;have hy:=Bt hx h;refine hJ _ _ h ?_;clear hJ J hbe hx h aW;replace XP:=XP.bl hy;replace XQ:=XQ.bl hy;replace X1:=X1.bl hy;replace HB:=zh (Bt HB.out hy);clear hy;have aZ:=XP.out.cell;have aX:=XP.out.lt;have aY:=XP.out.free;have dX:=XQ.out.cell;have dV:=XQ.out.lt;have dW:=XQ.out.free;refine zS ?_;clear aZ aX aY dX dV dW;obtain ⟨⟨x5,y5⟩,k5,EX,HN⟩:=aD HR.out;refine aM rfl rfl (fun we hbe J hJ=>?_);go_simp;have hx:Below u4.heap.size u4 we:=au;have aW:=zh (Bt HB.out hx);refine (Nz (gD.of EX) _ (HP.out.later aW.out) (HE.out.later aW.out)).mono ?_;rintro e u5 H;obtain ⟨h,⟨hk,rfl,HR2⟩|⟨hk,rfl⟩⟩:=aF H HN
 rotate_left
 ·exact ⟨rfl,Bt (Bt HB.out hx) h,.inr ⟨hk,rfl⟩⟩
 clear H HN EX;subst hk;replace HR:=zh HR2;clear HR2;have hy:=Bt hx h;refine hJ _ _ h ?_;clear hJ J hbe hx h aW;replace XP:=XP.bl hy;replace XQ:=XQ.bl hy;replace X1:=X1.bl hy;replace HB:=zh (Bt HB.out hy);clear hy;have aZ:=XP.out.cell;have aX:=XP.out.lt;have aY:=XP.out.free;have dX:=XQ.out.cell;have dV:=XQ.out.lt;have dW:=XQ.out.free;refine zS ?_;clear aZ aX aY dX dV dW;refine iK [_] rfl (fun u6 hbf=>?_);have hy:Below u5.heap.size u5 u6:=au;replace XP:=XP.bl hy;replace XQ:=XQ.bl hy;replace X1:=X1.bl hy;replace HB:=zh (Bt HB.out hy);clear hy hbf;have aZ:=XP.out.cell;have aX:=XP.out.lt;have aY:=XP.out.free;have dX:=XQ.out.cell;have dV:=XQ.out.lt;have dW:=XQ.out.free;obtain ⟨aO,aN,aP⟩:=X1.clf;go_wp2_with fail
 clear aZ aX aY dX dV dW aO aN aP;obtain ⟨hk,hv⟩:=HR.out;cases hk
 cases hv rfl
 have hr:=X1.out;have hb:=HB.out;refine dG rfl rfl aH Tryz.underlying40 rfl zk ?_;exact ⟨au,.inl ⟨rfl,rfl⟩⟩
def Ld (t w:light.mD):((Int × Int) × (Int × Int) × (Int × Int)) × Int :=
 aU z3 (VR t.x w.x) fun fx=>aU z3 (VR t.y w.y) fun fy=>aU z3 (VR t.z w.z) fun fz =>
 aU z3 (aQ.yI fy 116 1) fun s=>aU z3 (aQ.Zr (16*1000000000000)) fun p=>aU z3 (aQ.Db s p) fun l =>
 aU z3 (aQ.Db fx fy) fun d=>aU z3 (aQ.yI d 500 1) fun a=>aU z3 (aQ.Db fy fz) fun g=>aU z3 (aQ.yI g 200 1) fun b=>vF (l,a,b)
theorem YS {a1 a2 a3 a4 a5 a6 b1 b2 b3 b4 b5 b6:ByteArray} {x1 x2 x3 x4 x5 x6 k:Int} {p q:Nat} (hx:gD (Ld ⟨⟨a1,a2⟩,⟨a3,a4⟩,⟨a5,a6⟩⟩ ⟨⟨b1,b2⟩,⟨b3,b4⟩,⟨b5,b6⟩⟩) ((x1,x2),(x3,x4),(x5,x6)) k) (w:World)
  (hp:ah w p #[.string a1,.string a2,.string a3,.string a4,.string a5,.string a6] 34) (hq:ah w q #[.string b1,.string b2,.string b3,.string b4,.string b5,.string b6] 34) (ht:jw.Pow w) (he:whole.Er w) :
  Calls Tryz.prog 45 #[.pointer (some ⟨p,0,none⟩),.pointer (some ⟨q,0,none⟩)] w (Try w (.agg #[.int .i64 x1,.int .i64 x2,.int .i64 x3,.int .i64 x4,.int .i64 x5,.int .i64 x6]) k):=by
 have HR:=zh hx;have HP:=zh ht;have HE:=zh he;have XP:=zh hp;have XQ:=zh hq;clear hx ht he hp hq;unfold Ld at HR;go_enter Tryz.func45,Tryz.ntmps45
 have HB:=zh (Below.refl w.heap.size w);have aZ:=XP.out.cell;have aX:=XP.out.lt;have aY:=XP.out.free;have dX:=XQ.out.cell;have dV:=XQ.out.lt;have dW:=XQ.out.free;go_wp2_with fail
 clear aZ aX aY dX dV dW;obtain ⟨w2,EW,hz,X1⟩:=pJ w #[.int .i64 0,.int .i64 0,.int .i64 0,.int .i64 0,.int .i64 0,.int .i64 0] 42;rw [EW];clear EW;replace XP:=XP.bl hz;replace XQ:=XQ.bl hz;replace HB:=zh (Bt HB.out hz);clear hz;obtain ⟨⟨x3,y3⟩,k3,EX,HN⟩:=aD HR.out;refine (Ry (gD.of EX) _ XP.out XQ.out (HP.out.later HB.out) (HE.out.later HB.out)).mono ?_;rintro e u3 H;obtain ⟨h,⟨hk,rfl,HR2⟩|⟨hk,rfl⟩⟩:=aF H HN
 rotate_left
 ·exact ⟨rfl,Bt HB.out h,.inr ⟨hk,rfl⟩⟩
 clear H HN EX;subst hk;replace HR:=zh HR2;clear HR2;replace XP:=XP.bl h;replace XQ:=XQ.bl h;replace X1:=X1.bl h;replace HB:=zh (Bt HB.out h);clear h;have aZ:=XP.out.cell;have aX:=XP.out.lt;have aY:=XP.out.free;have dX:=XQ.out.cell;have dV:=XQ.out.lt;have dW:=XQ.out.free;obtain ⟨aO,aN,aP⟩:=X1.clf;go_wp2_with fail
 clear aZ aX aY dX dV dW aO aN aP;obtain ⟨⟨x4,y4⟩,k4,EX,HN⟩:=aD HR.out;refine (Rx (gD.of EX) _ XP.out XQ.out (HP.out.later HB.out) (HE.out.later HB.out)).mono ?_;rintro e u4 H;obtain ⟨h,⟨hk,rfl,HR2⟩|⟨hk,rfl⟩⟩:=aF H HN
 rotate_left
 ·exact ⟨rfl,Bt HB.out h,.inr ⟨hk,rfl⟩⟩
 clear H HN EX;subst hk;replace HR:=zh HR2;clear HR2;replace XP:=XP.bl h;replace XQ:=XQ.bl h;replace X1:=X1.bl h;replace HB:=zh (Bt HB.out h);clear h;have aZ:=XP.out.cell;have aX:=XP.out.lt;have aY:=XP.out.free;have dX:=XQ.out.cell;have dV:=XQ.out.lt;have dW:=XQ.out.free;obtain ⟨aO,aN,aP⟩:=X1.clf;go_wp2_with fail
 clear aZ aX aY dX dV dW aO aN aP;obtain ⟨⟨x5,y5⟩,k5,EX,HN⟩:=aD HR.out;refine (Rw (gD.of EX) _ XP.out XQ.out (HP.out.later HB.out) (HE.out.later HB.out)).mono ?_;rintro e u5 H;obtain ⟨h,⟨hk,rfl,HR2⟩|⟨hk,rfl⟩⟩:=aF H HN
 rotate_left
 ·exact ⟨rfl,Bt HB.out h,.inr ⟨hk,rfl⟩⟩
 clear H HN EX;subst hk;replace HR:=zh HR2;clear HR2;replace XP:=XP.bl h;replace XQ:=XQ.bl h;replace X1:=X1.bl h;replace HB:=zh (Bt HB.out h);clear h;have aZ:=XP.out.cell;have aX:=XP.out.lt;have aY:=XP.out.free;have dX:=XQ.out.cell;have dV:=XQ.out.lt;have dW:=XQ.out.free;obtain ⟨aO,aN,aP⟩:=X1.clf;go_wp2_with fail
 clear aZ aX aY dX dV dW aO aN aP;obtain ⟨w9,EW,hz,X6,X7,X8⟩:=Jy u5 #[.int .i64 x3,.int .i64 y3] 40 #[.int .i64 x4,.int .i64 y4] 40 #[.int .i64 x5,.int .i64 y5] 40;rw [EW];clear EW;replace XP:=XP.bl hz;replace XQ:=XQ.bl hz;replace X1:=X1.bl hz;replace HB:=zh (Bt HB.out hz);clear hz;obtain ⟨p9,ep⟩:∃ p,u5.heap.size=p:=⟨_,rfl⟩;rw [ep] at X6 X7 X8 ⊢;clear ep;refine aC [(.read,0),(.read,7),(.read,8),(.read,14),(.read,15),(.ext,1),(.ext,2),(.ext,3),(.pure,4),(.pure,5),(.ext,6),(.ext,9),(.pure,10),(.pure,11),(.ext,12),(.ext,13),(.ext,16),(.pure,17),(.pure,18),(.ext,19),(.ext,20),(.pure,21),(.fin,22)] zk zk zR zP ?_;refine Wk.out ?_;obtain ⟨gY,gW,gX⟩:=X7.clf;obtain ⟨ql,pY,qj⟩:=X6.clf;obtain ⟨wW,wM,wR⟩:=X8.clf;refine zS ?_;clear gY gW gX ql pY qj wW wM wR;obtain ⟨⟨x10,y10⟩,k10,EX,HN⟩:=aD HR.out;refine aM rfl rfl (fun we hbe J hJ=>?_);go_simp
 have hx:Below w9.heap.size w9 we:=au;have aW:=zh (Bt HB.out hx);refine (xB (gD.of EX) _).mono ?_;rintro e Yv H;obtain ⟨h,⟨hk,rfl,HR2⟩|⟨hk,rfl⟩⟩:=aF H HN
 rotate_left
 ·exact ⟨rfl,Bt (Bt HB.out hx) h,.inr ⟨hk,rfl⟩⟩
 clear H HN EX;subst hk;replace HR:=zh HR2;clear HR2;have hy:=Bt hx h;refine hJ _ _ h ?_;clear hJ J hbe hx h aW;replace XP:=XP.bl hy;replace XQ:=XQ.bl hy;replace X1:=X1.bl hy;replace X6:=X6.bl hy;replace X7:=X7.bl hy;replace X8:=X8.bl hy;replace HB:=zh (Bt HB.out hy);clear hy;obtain ⟨gY,gW,gX⟩:=X7.clf;obtain ⟨ql,pY,qj⟩:=X6.clf;obtain ⟨wW,wM,wR⟩:=X8.clf;refine zS ?_;clear gY gW gX ql pY qj wW wM wR;obtain ⟨⟨x11,y11⟩,k11,EX,HN⟩:=aD HR.out;refine aM rfl rfl (fun we hbe J hJ=>?_);go_simp;have hx:Below Yv.heap.size Yv we:=au;have aW:=zh (Bt HB.out hx);refine (DJ (gD.of EX) _).mono ?_;rintro e Mj H;obtain ⟨h,⟨hk,rfl,HR2⟩|⟨hk,rfl⟩⟩:=aF H HN
 rotate_left
 ·exact ⟨rfl,Bt (Bt HB.out hx) h,.inr ⟨hk,rfl⟩⟩
 clear H HN EX;subst hk;replace HR:=zh HR2;clear HR2;have hy:=Bt hx h;refine hJ _ _ h ?_;clear hJ J hbe hx h aW;replace XP:=XP.bl hy;replace XQ:=XQ.bl hy;replace X1:=X1.bl hy;replace X6:=X6.bl hy;replace X7:=X7.bl hy;replace X8:=X8.bl hy;replace HB:=zh (Bt HB.out hy);clear hy;obtain ⟨gY,gW,gX⟩:=X7.clf;obtain ⟨ql,pY,qj⟩:=X6.clf;obtain ⟨wW,wM,wR⟩:=X8.clf;refine zS ?_;clear gY gW gX ql pY qj wW wM wR;obtain ⟨⟨Fg,Fe⟩,k12,EX,HN⟩:=aD HR.out;refine aM rfl rfl (fun we hbe J hJ=>?_);go_simp;have hx:Below Mj.heap.size Mj we:=au;have aW:=zh (Bt HB.out hx);refine (Wq EX _).mono ?_;rintro e Oq ⟨rfl,h⟩;have HM:=zh HN;clear HN EX;have hy:=Bt hx h;refine hJ _ _ h ?_;clear hJ J hbe hx h aW;replace XP:=XP.bl hy;replace XQ:=XQ.bl hy;replace X1:=X1.bl hy;replace X6:=X6.bl hy;replace X7:=X7.bl hy;replace X8:=X8.bl hy;replace HB:=zh (Bt HB.out hy);clear hy
 obtain ⟨gY,gW,gX⟩:=X7.clf;obtain ⟨ql,pY,qj⟩:=X6.clf;obtain ⟨wW,wM,wR⟩:=X8.clf;refine zS ?_;clear gY gW gX ql pY qj wW wM wR;refine aM rfl rfl (fun we hbe J hJ=>?_);go_simp;have hx:Below Oq.heap.size Oq we:=au;have aW:=zh (Bt HB.out hx);refine (jU _).mono ?_;rintro e Mi H;obtain ⟨h,⟨hk,rfl,HR2⟩|⟨hk,rfl⟩⟩:=aF H HM.out
 rotate_left
 ·exact ⟨rfl,Bt (Bt HB.out hx) h,.inr ⟨hk,rfl⟩⟩
 clear H HM;subst hk;replace HR:=zh HR2;clear HR2;have hy:=Bt hx h;refine hJ _ _ h ?_;clear hJ J hbe hx h aW;replace XP:=XP.bl hy;replace XQ:=XQ.bl hy;replace X1:=X1.bl hy;replace X6:=X6.bl hy;replace X7:=X7.bl hy;replace X8:=X8.bl hy;replace HB:=zh (Bt HB.out hy);clear hy;obtain ⟨gY,gW,gX⟩:=X7.clf;obtain ⟨ql,pY,qj⟩:=X6.clf;obtain ⟨wW,wM,wR⟩:=X8.clf;refine zS ?_;clear gY gW gX ql pY qj wW wM wR;obtain ⟨⟨x14,y14⟩,k14,EX,HN⟩:=aD HR.out;refine aM rfl rfl (fun we hbe J hJ=>?_);go_simp;have hx:Below Mi.heap.size Mi we:=au;have aW:=zh (Bt HB.out hx);refine (Wq EX _).mono ?_;rintro e u14 ⟨rfl,h⟩;have HM:=zh HN;clear HN EX;have hy:=Bt hx h;refine hJ _ _ h ?_;clear hJ J hbe hx h aW;replace XP:=XP.bl hy;replace XQ:=XQ.bl hy;replace X1:=X1.bl hy;replace X6:=X6.bl hy;replace X7:=X7.bl hy;replace X8:=X8.bl hy;replace HB:=zh (Bt HB.out hy);clear hy
 obtain ⟨gY,gW,gX⟩:=X7.clf;obtain ⟨ql,pY,qj⟩:=X6.clf;obtain ⟨wW,wM,wR⟩:=X8.clf;refine zS ?_;clear gY gW gX ql pY qj wW wM wR;refine aM rfl rfl (fun we hbe J hJ=>?_);go_simp;have hx:Below u14.heap.size u14 we:=au;have aW:=zh (Bt HB.out hx);refine (jU _).mono ?_;rintro e KF H;obtain ⟨h,⟨hk,rfl,HR2⟩|⟨hk,rfl⟩⟩:=aF H HM.out
 rotate_left
 ·exact ⟨rfl,Bt (Bt HB.out hx) h,.inr ⟨hk,rfl⟩⟩
 clear H HM;subst hk;replace HR:=zh HR2;clear HR2;have hy:=Bt hx h;refine hJ _ _ h ?_;clear hJ J hbe hx h aW;replace XP:=XP.bl hy;replace XQ:=XQ.bl hy;replace X1:=X1.bl hy;replace X6:=X6.bl hy;replace X7:=X7.bl hy;replace X8:=X8.bl hy;replace HB:=zh (Bt HB.out hy);clear hy;obtain ⟨gY,gW,gX⟩:=X7.clf;obtain ⟨ql,pY,qj⟩:=X6.clf;obtain ⟨wW,wM,wR⟩:=X8.clf;refine zS ?_;clear gY gW gX ql pY qj wW wM wR;obtain ⟨⟨YH,y16⟩,k16,EX,HN⟩:=aD HR.out;refine aM rfl rfl (fun we hbe J hJ=>?_);go_simp;have hx:Below KF.heap.size KF we:=au;have aW:=zh (Bt HB.out hx);refine (xB (gD.of EX) _).mono ?_;rintro e u16 H;obtain ⟨h,⟨hk,rfl,HR2⟩|⟨hk,rfl⟩⟩:=aF H HN
 rotate_left
 ·exact ⟨rfl,Bt (Bt HB.out hx) h,.inr ⟨hk,rfl⟩⟩
 clear H HN EX;subst hk;replace HR:=zh HR2;clear HR2;have hy:=Bt hx h;refine hJ _ _ h ?_;clear hJ J hbe hx h aW;replace XP:=XP.bl hy;replace XQ:=XQ.bl hy;replace X1:=X1.bl hy;replace X6:=X6.bl hy;replace X7:=X7.bl hy;replace X8:=X8.bl hy;replace HB:=zh (Bt HB.out hy);clear hy;obtain ⟨gY,gW,gX⟩:=X7.clf;obtain ⟨ql,pY,qj⟩:=X6.clf;obtain ⟨wW,wM,wR⟩:=X8.clf;refine zS ?_;clear gY gW gX ql pY qj wW wM wR;obtain ⟨⟨x17,y17⟩,k17,EX,HN⟩:=aD HR.out;refine aM rfl rfl (fun we hbe J hJ=>?_);go_simp;have hx:Below u16.heap.size u16 we:=au;have aW:=zh (Bt HB.out hx);refine (Wq EX _).mono ?_;rintro e YQ ⟨rfl,h⟩;have HM:=zh HN;clear HN EX;have hy:=Bt hx h;refine hJ _ _ h ?_;clear hJ J hbe hx h aW;replace XP:=XP.bl hy;replace XQ:=XQ.bl hy;replace X1:=X1.bl hy;replace X6:=X6.bl hy;replace X7:=X7.bl hy;replace X8:=X8.bl hy;replace HB:=zh (Bt HB.out hy);clear hy
 obtain ⟨gY,gW,gX⟩:=X7.clf;obtain ⟨ql,pY,qj⟩:=X6.clf;obtain ⟨wW,wM,wR⟩:=X8.clf;refine zS ?_;clear gY gW gX ql pY qj wW wM wR;refine aM rfl rfl (fun we hbe J hJ=>?_);go_simp;have hx:Below YQ.heap.size YQ we:=au;have aW:=zh (Bt HB.out hx);refine (jU _).mono ?_;rintro e u18 H;obtain ⟨h,⟨hk,rfl,HR2⟩|⟨hk,rfl⟩⟩:=aF H HM.out
 rotate_left
 ·exact ⟨rfl,Bt (Bt HB.out hx) h,.inr ⟨hk,rfl⟩⟩
 clear H HM;subst hk;replace HR:=zh HR2;clear HR2;have hy:=Bt hx h;refine hJ _ _ h ?_;clear hJ J hbe hx h aW;replace XP:=XP.bl hy;replace XQ:=XQ.bl hy;replace X1:=X1.bl hy;replace X6:=X6.bl hy;replace X7:=X7.bl hy;replace X8:=X8.bl hy;replace HB:=zh (Bt HB.out hy);clear hy;obtain ⟨gY,gW,gX⟩:=X7.clf;obtain ⟨ql,pY,qj⟩:=X6.clf;obtain ⟨wW,wM,wR⟩:=X8.clf;refine zS ?_;clear gY gW gX ql pY qj wW wM wR;obtain ⟨⟨JB,JA⟩,k19,EX,HN⟩:=aD HR.out;refine aM rfl rfl (fun we hbe J hJ=>?_);go_simp;have hx:Below u18.heap.size u18 we:=au;have aW:=zh (Bt HB.out hx);refine (xB (gD.of EX) _).mono ?_;rintro e u19 H;obtain ⟨h,⟨hk,rfl,HR2⟩|⟨hk,rfl⟩⟩:=aF H HN
 rotate_left
 ·exact ⟨rfl,Bt (Bt HB.out hx) h,.inr ⟨hk,rfl⟩⟩
 clear H HN EX;subst hk;replace HR:=zh HR2;clear HR2;have hy:=Bt hx h;refine hJ _ _ h ?_;clear hJ J hbe hx h aW;replace XP:=XP.bl hy;replace XQ:=XQ.bl hy;replace X1:=X1.bl hy;replace X6:=X6.bl hy;replace X7:=X7.bl hy;replace X8:=X8.bl hy;replace HB:=zh (Bt HB.out hy);clear hy;obtain ⟨gY,gW,gX⟩:=X7.clf;obtain ⟨ql,pY,qj⟩:=X6.clf;obtain ⟨wW,wM,wR⟩:=X8.clf;refine zS ?_;clear gY gW gX ql pY qj wW wM wR;refine iK [_] rfl (fun u20 hbf=>?_);have hy:Below u19.heap.size u19 u20:=au;replace XP:=XP.bl hy;replace XQ:=XQ.bl hy;replace X1:=X1.bl hy;replace X6:=X6.bl hy;replace X7:=X7.bl hy;replace X8:=X8.bl hy;replace HB:=zh (Bt HB.out hy);clear hy hbf;have aZ:=XP.out.cell;have aX:=XP.out.lt;have aY:=XP.out.free;have dX:=XQ.out.cell;have dV:=XQ.out.lt;have dW:=XQ.out.free;obtain ⟨aO,aN,aP⟩:=X1.clf;obtain ⟨ql,pY,qj⟩:=X6.clf;obtain ⟨gY,gW,gX⟩:=X7.clf
 obtain ⟨wW,wM,wR⟩:=X8.clf;go_wp2_with fail
 clear aZ aX aY dX dV dW aO aN aP ql pY qj gY gW gX wW wM wR;obtain ⟨hk,hv⟩:=HR.out;cases hk
 cases hv rfl
 have hr:=X1.out;have hb:=HB.out;refine dG rfl rfl aH Tryz.underlying42 rfl zk ?_;exact ⟨au,.inl ⟨rfl,rfl⟩⟩
end Go.Proofs.lab
namespace Go.Proofs
open Go Go.RowKit Go.SW Go.Num Go.Mem Go.jQ
theorem af2 {x y u v a b k:Int} {q:Nat} (hx:power.an1 [(x,y),(u,v)]=((a,b),k)) (w:World) (hq:ah w q #[.int .i64 x,.int .i64 y,.int .i64 u,.int .i64 v] 40) (ht:jw.Pow w) (he:whole.Er w):Calls Tryz.prog 71 #[.slice (some ⟨q,0,none⟩) 2 2] w (fun e w'=>e= .returned (.tuple #[.agg #[.int .i64 a,.int .i64 b],.int .i64 k])∧Below w.heap.size w w'):=by
 have h:=power.av0 _ _ [(x,y),(u,v)] w (Bf.two hq) ht he;rw [hx] at h;exact h
theorem aQ.Hf {lo hi x y k:Int} (h:aQ.jR lo hi=((x,y),k)) (h0:k=0):aQ.jF x y=true:=by
 unfold aQ.jR at h;subst h0;cases hb:aQ.jF lo hi<;>rw [hb] at h
 ·cases h
 ·have h2:((lo,hi),(0:Int))=((x,y),0):=h;cases h2
  exact hb
theorem aQ.at0 {a b:Int × Int} {x y k:Int} (h:aQ.Qw a b=((x,y),k)) (h0:k=0):aQ.jF x y=true:=by
 unfold aQ.Qw at h;split at h
 ·exact aQ.Hf h h0
 ·subst h0;cases h
theorem aQ.aj7 {a b:Int × Int} {x y k:Int} (h:aQ.Db a b=((x,y),k)) (h0:k=0):aQ.jF x y=true:=by
 unfold aQ.Db at h;split at h
 ·exact aQ.Hf h h0
 ·subst h0;cases h
theorem aQ.aj9 {Q:Int→Int→Bool→Int × Bool} {a b:Int × Int} {x y k:Int} (h:aQ.xH Q a b=((x,y),k)) (h0:k=0):aQ.jF x y=true:=by
 unfold aQ.xH at h;split at h
 ·exact aQ.Hf h h0
 ·subst h0;cases h
theorem aQ.ak8 {b:Int × Int} {n d x y k:Int} (h:aQ.yI b n d=((x,y),k)) (h0:k=0):aQ.jF x y=true:=by
 unfold aQ.yI aQ.Zm at h;split at h
 ·split at h
  ·subst h0;cases h
  ·exact aQ.aj9 h h0
 ·subst h0;cases h
end Go.Proofs
