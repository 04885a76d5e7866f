/- Lemmas for the proof. No condition. -/
import Derived.Test.YtbngfhgoeoncmaaGreatDoorTB32
set_option linter.unusedVariables false
set_option linter.unusedSimpArgs false
set_option maxRecDepth 100000
set_option maxHeartbeats 16000000
open Array renaming getElem?_eq_none → bq
open Bool renaming and_eq_true → aD
open Go.Ending renaming returned → ah
open Go.IntKind renaming i64 → I
open Go.Value renaming agg → aB, bool → aC, int → Z, pointer → au, slice → aj, string → O, tuple → aF
open List renaming mem_cons → cK, not_mem_nil → gG, range → bI
open Nat renaming add_zero → gL, le_refl → aG, lt_of_lt_of_le → aP, lt_or_ge → aH
namespace Go.Proofs.adapt
open Go Go.RowKit Go.SW Go.Num Go.Mem Go.Proofs Go.Dec Go.d9
theorem dJ {P:Program} {fn:Func} {w:World} {tmps:Array Value} {p q:Tmp} {ty Lj:TypeId} {g g2:Nat} {x y:Value} (h:fn.results=#[.cell p ty,.cell q Lj])
  (hp:tmps.getD p undef= au (some ⟨g,0,none⟩)) (hq:tmps.getD q undef= au (some ⟨g2,0,none⟩)) (h1:(loadVar ty ⟨g,0,none⟩).run P w= .ok x w) (h2:(loadVar Lj ⟨g2,0,none⟩).run P w= .ok y w) :
  (results fn tmps).run P w= .ok (aF #[x,y]) w:=by
 have hp':tmps[p]?.getD undef= au (some ⟨g,0,none⟩):=by simpa using hp
 have hq':tmps[q]?.getD undef= au (some ⟨g2,0,none⟩):=by simpa using hq
 simp [results,h,hp',hq',asAddr,h1,h2]
theorem iH {w:World} {c:Nat} {z:Int} (h:aA w c #[Z I z] 28):(loadVar 28 ⟨c,0,none⟩).run Tryz.prog w= .ok (Z I z) w:=by
 have hc:=h.cell 0;simp [go_sem,hc]
theorem FJ {w:World} {b:Nat} {a:Option Addr} {n c:Nat} (h:aA w b #[aj a n c] 126):(loadVar 126 ⟨b,0,none⟩).run Tryz.prog w= .ok (aj a n c) w:=by
 have hc:=h.cell 0;simp [go_sem,hc]
theorem Ph {w:World} {b:Nat} {s1 s2 s3 s4 s5 s6:ByteArray} (h:aA w b #[O s1,O s2,O s3,O s4,O s5,O s6] 39):(loadVar 39 ⟨b,0,none⟩).run Tryz.prog w= .ok (aB #[O s1,O s2,O s3,O s4,O s5,O s6]) w :=
 run_loadVar_row w b 39 39 _ (0,0) _ h Tryz.underlying39 rfl zk
theorem kN.kept {l:List TypeId} {w w':World} {v:Value} {m:List (List Fr)} (h:kN w v m) (k:Keep l w w') (h1:130∉l) (h2:38∉l):kN w' v m:=by
 obtain ⟨rs,g1,g2,g3⟩:=h;exact ⟨rs,d9.Row.kept g1 k h1,g2,fun i h h'=>qM.kept (g3 i h h') k h2⟩
theorem Gy (f:FuncId) (caps:Array Value) (er:Int) (m:List (List Fr)) (w:World) (HC:∀ W,Below w.heap.size w W→Calls Tryz.prog f caps W (dD W er (fun v W'=>kN W' v m)))
  (hf:∀ args W,(callFunc f args).run Tryz.prog W= .ok (.enter f args) W) :
  Calls Tryz.prog 126 #[.func (.func f) #[] caps] w (jD w er m):=by
 have Kv:∀ (fn:Fn) (first cap:Array Value) (w:World),(Instr.makeFunc fn first cap).run Tryz.prog w= .ok (.func fn first cap) w:=fun _ _ _ _=>rfl;have JC:=zh HC;clear HC;have hb0:Below w.heap.size w ((w.alloc (.cells #[aj none 0 0] 126)).alloc (.cells #[Z I 0] 28)):=aO;obtain ⟨w0,oq⟩:∃ y,(w.alloc (.cells #[aj none 0 0] 126)).alloc (.cells #[Z I 0] 28)=y:=⟨_,rfl⟩;have hx1:aA w0 w.heap.size #[aj none 0 0] 126:=by rw [← oq];exact aY
 have hx2:aA w0 (w.heap.size+1) #[Z I 0] 28:=by rw [← oq];exact aY
 rw [oq] at hb0
 go_enter_defers Tryz.func126,Tryz.ntmps126
 go_wp2_with fail
 refine (JC.out _ hb0).mono ?_;rintro e w1 ⟨hb1,⟨rfl,v,rfl,hv⟩|⟨h,rfl⟩⟩
 ·obtain ⟨rs,hR,hl,hF⟩:=id hv;obtain ⟨a,cap,rfl, -⟩:=hR;replace hx1:=hx1.later hb1;replace hx2:=hx2.later hb1;have c1:=hx1.cell;have f1:=hx1.free;have c2:=hx2.cell;have f2:=hx2.free;have HV:=zh hv;have hx3:aA ((w1.setCell ⟨w.heap.size,0,none⟩ (aj a rs.length cap)).setCell ⟨w.heap.size+1,0,none⟩ (Z I 0)) w.heap.size #[aj a rs.length cap] 126:=(hx1.set 0 (aj a rs.length cap)).setOther (a:=⟨w.heap.size+1,0,none⟩) (Z I 0) zi;have hx4:aA ((w1.setCell ⟨w.heap.size,0,none⟩ (aj a rs.length cap)).setCell ⟨w.heap.size+1,0,none⟩ (Z I 0)) (w.heap.size+1) #[Z I 0] 28:=(hx2.setOther (a:=⟨w.heap.size,0,none⟩) (aj a rs.length cap) zi).set 0 (Z I 0);have hv2:=kN.kept hv ((Keep.setCell (o:=0) (u:=aj a rs.length cap) hx1.AV).mono (m:=[126,28]) zi) zd zd
  have hv3:=kN.kept hv2 ((Keep.setCell (o:=0) (u:=Z I 0) (hx2.AV.setCell (a:=⟨w.heap.size,0,none⟩) (u:=aj a rs.length cap))).mono (m:=[126,28]) zi) zd zd;have HV:=zh hv3;have hbw:=((Bt hb0 hb1).setCell (p:=⟨w.heap.size,0,none⟩) (aG _) (aj a rs.length cap)).setCell (p:=⟨w.heap.size+1,0,none⟩) zi (Z I 0);rw [hl] at hx3 hx4 HV hbw;clear hF hv hv2 hv3;go_wp2_with fail
  refine leaves_cons (f:=195) (args:=#[au (some ⟨w.heap.size,0,none⟩),au (some ⟨w.heap.size+1,0,none⟩)]) zi (by simp [go_sem]) ?_;refine (Gq _ _ _).mono ?_;rintro e u' w'' ⟨rfl,rfl,rfl⟩;exact ⟨_,dJ rfl rfl rfl (FJ hx3) (iH hx4),jD.yes hbw HV.out⟩
 ·replace hx1:=hx1.later hb1;replace hx2:=hx2.later hb1
  change bodyPostD _ _ _ (Exit.panic [{ v:=.iface 263 (aB #[Z I er]),recovered:=false }]) _ _
  refine leaves_cons (f:=195) (args:=#[au (some ⟨w.heap.size,0,none⟩),au (some ⟨w.heap.size+1,0,none⟩)]) zi (by simp [go_sem]) ?_;refine (XB w.heap.size (w.heap.size+1) _ _ er _ hx1 hx2).mono ?_;rintro e u' w'' ⟨rfl,rfl,hy1,hy2,hbb⟩;exact ⟨_,dJ rfl rfl rfl (FJ hy1) (iH hy2),jD.no (hbb w (aG _) zo (Bt hb0 hb1)) h⟩
def OU:light.gJ:=⟨Fr.no,Fr.no,Fr.no⟩
def sJ (w:World) (er:Int) (t:light.gJ) (e:Ending) (w':World):Prop:=Below w.heap.size w w'∧e= ah (aF #[(if er=0 then t else OU).v,Z I er])
theorem Gz (f:FuncId) (caps:Array Value) (er:Int) (t:light.gJ) (w:World) (HC:∀ W,Below w.heap.size w W→Calls Tryz.prog f caps W (dD W er (fun v W'=>v=t.v)))
  (hf:∀ args W,(callFunc f args).run Tryz.prog W= .ok (.enter f args) W) :
  Calls Tryz.prog 142 #[.func (.func f) #[] caps] w (sJ w er t):=by
 have Kv:∀ (fn:Fn) (first cap:Array Value) (w:World),(Instr.makeFunc fn first cap).run Tryz.prog w= .ok (.func fn first cap) w:=fun _ _ _ _=>rfl;obtain ⟨⟨a1,a2⟩,⟨a3,a4⟩,⟨a5,a6⟩⟩:=t;have JC:=zh HC;clear HC;have hb0:Below w.heap.size w ((w.alloc (.cells #[O ⟨#[]⟩,O ⟨#[]⟩,O ⟨#[]⟩,O ⟨#[]⟩,O ⟨#[]⟩,O ⟨#[]⟩] 39)).alloc (.cells #[Z I 0] 28)):=aO;obtain ⟨w0,oq⟩:∃ y,(w.alloc (.cells #[O ⟨#[]⟩,O ⟨#[]⟩,O ⟨#[]⟩,O ⟨#[]⟩,O ⟨#[]⟩,O ⟨#[]⟩] 39)).alloc (.cells #[Z I 0] 28)=y:=⟨_,rfl⟩;have hx1:aA w0 w.heap.size #[O ⟨#[]⟩,O ⟨#[]⟩,O ⟨#[]⟩,O ⟨#[]⟩,O ⟨#[]⟩,O ⟨#[]⟩] 39:=by rw [← oq];exact aY
 have hx2:aA w0 (w.heap.size+1) #[Z I 0] 28:=by rw [← oq];exact aY
 rw [oq] at hb0
 go_enter_defers Tryz.func142,Tryz.ntmps142
 go_wp2_with fail
 refine (JC.out _ hb0).mono ?_;rintro e w1 ⟨hb1,⟨rfl,v,rfl,rfl⟩|⟨h,rfl⟩⟩
 ·replace hx1:=hx1.later hb1;replace hx2:=hx2.later hb1;have c1:=hx1.cell;have f1:=hx1.free;have c2:=hx2.cell;have f2:=hx2.free;have hne:w.heap.size≠w.heap.size+1:=by omega
  have hx3:aA (((((((w1.setCell ⟨w.heap.size,0,none⟩ (O a1)).setCell ⟨w.heap.size,1,none⟩ (O a2)).setCell ⟨w.heap.size,2,none⟩ (O a3)).setCell ⟨w.heap.size,3,none⟩ (O a4)).setCell ⟨w.heap.size,4,none⟩ (O a5)).setCell ⟨w.heap.size,5,none⟩ (O a6)).setCell ⟨w.heap.size+1,0,none⟩ (Z I 0)) w.heap.size #[O a1,O a2,O a3,O a4,O a5,O a6] 39:=((((((hx1.set 0 _).set 1 _).set 2 _).set 3 _).set 4 _).set 5 _).setOther _ hne
  have hx4:aA (((((((w1.setCell ⟨w.heap.size,0,none⟩ (O a1)).setCell ⟨w.heap.size,1,none⟩ (O a2)).setCell ⟨w.heap.size,2,none⟩ (O a3)).setCell ⟨w.heap.size,3,none⟩ (O a4)).setCell ⟨w.heap.size,4,none⟩ (O a5)).setCell ⟨w.heap.size,5,none⟩ (O a6)).setCell ⟨w.heap.size+1,0,none⟩ (Z I 0)) (w.heap.size+1) #[Z I 0] 28:=((((((hx2.setOther _ hne.symm).setOther _ hne.symm).setOther _ hne.symm).setOther _ hne.symm).setOther _ hne.symm).setOther _ hne.symm).set 0 _
  have hbw:Below w.heap.size w (((((((w1.setCell ⟨w.heap.size,0,none⟩ (O a1)).setCell ⟨w.heap.size,1,none⟩ (O a2)).setCell ⟨w.heap.size,2,none⟩ (O a3)).setCell ⟨w.heap.size,3,none⟩ (O a4)).setCell ⟨w.heap.size,4,none⟩ (O a5)).setCell ⟨w.heap.size,5,none⟩ (O a6)).setCell ⟨w.heap.size+1,0,none⟩ (Z I 0)):=by
   have:=Bt hb0 hb1;exact aO
  have QN:=zh hx3;have Ye:=zh hx4;have Yn:=zh hbw;clear hx3 hx4 hbw oq hx1 hx2 hb0 hb1;unfold light.gJ.v light.gJ.cells;go_wp2_with fail
  refine leaves_cons (f:=215) (args:=#[au (some ⟨w.heap.size,0,none⟩),au (some ⟨w.heap.size+1,0,none⟩)]) zi (by simp [go_sem]) ?_;refine (Gr _ _ _).mono ?_;rintro e u' w'' ⟨rfl,rfl,rfl⟩;exact ⟨_,dJ rfl rfl rfl (Ph QN.out) (iH Ye.out),Yn.out,rfl⟩
 ·replace hx1:=hx1.later hb1;replace hx2:=hx2.later hb1
  change bodyPostD _ _ _ (Exit.panic [{ v:=.iface 263 (aB #[Z I er]),recovered:=false }]) _ _
  refine leaves_cons (f:=215) (args:=#[au (some ⟨w.heap.size,0,none⟩),au (some ⟨w.heap.size+1,0,none⟩)]) zi (by simp [go_sem]) ?_;refine (XC w.heap.size (w.heap.size+1) _ _ _ _ _ _ _ er _ hx1 hx2).mono ?_;rintro e u' w'' ⟨rfl,rfl,hy1,hy2,hbb⟩;exact ⟨_,dJ rfl rfl rfl (Ph hy1) (iH hy2),hbb w (aG _) zo (Bt hb0 hb1),by rw [if_neg h];rfl⟩
def mW:List Int:=[100000,0,0,0,100000,0,0,0,100000,40024,70760, -8081, -22630,116532,4570,0,0,91822,89510,26640, -16140, -75020,171350,3670,3890, -6850,102960,89500,26640, -16140, -75020,171350,3670,3890, -6850,102960]
def fM (w : World) : Prop := Lib.TabIs Tryz.prog w "verdigris/adapt.cones" .i64 mW
theorem fM.later {w w':World} (h:fM w) (hb:Below w.heap.size w w'):fM w':=Lib.tabBelow_of_tabIs h w' hb
theorem fM.cell {w:World} (h:fM w) {k:Nat} (hk:k<36):w.cell? ⟨1,k,none⟩=some (.int .i64 (mW.getD k 0)):=by
 exact Lib.TabIs.cell h zk k hk
def Gf (m i j:Nat):Rat:=((mW.getD (m*9+i*3+j) 0:Int):Rat) / ((100000:Int):Rat)
theorem Gc:∀ m,m<4→∀ i,i<3→∀ j,j<3→iG (Gf m i j)=true:=by decide+kernel
def lC (m:Nat):matrix.RM:=(bI 3).map fun i=>(bI 3).map (Gf m i)
theorem Dn:∀ k,k<36→ -1000000≤mW.getD k 0∧mW.getD k 0≤1000000:=by decide+kernel
theorem Qq (bk m:Nat) (hm:m<4) (w:World) (hk:aA w bk #[Z I ((m:Int)+1)] 3) (ht:iA.Pow w) (hc:fM w) :
  Calls Tryz.prog 127 #[au (some ⟨bk,0,none⟩)] w (dD w 0 (fun v w'=>kN w' v (lC m).fr)):=by
 obtain ⟨csm,aa7,hmk⟩:=matrix.O4 3 zo;obtain ⟨YM,aa8,Kv⟩:=matrix.O6 3 zo;replace hmk:∀ W:World,(Instr.makeSlice 126 (Z I 3) (Z I 3)).run Tryz.prog W= .ok (aj (some ⟨W.heap.size,0,none⟩) 3 3) (W.alloc (.cells csm 130)):=hmk;replace Kv:∀ W:World,(Instr.makeSlice 130 (Z I 3) (Z I 3)).run Tryz.prog W= .ok (aj (some ⟨W.heap.size,0,none⟩) 3 3) (W.alloc (.cells YM 38)):=Kv;have HCS:=zh aa7;have HCF:=zh aa8;have HT:=zh ht;have HC:=zh hc;have HK:=zh hk;have lk:=hk.lt
 have l0:1<w.heap.size:=by
  have:=hc.cell (k:=0) zo
  rcases aH 1 w.heap.size with h|h
  ·exact h
  ·unfold World.cell? at this;simp only [bq h] at this;cases this
 obtain ⟨E,EE⟩:∃ E:Nat→Nat→Rat,Hid (Gf m=E):=⟨_,zh rfl⟩;clear aa7 aa8 ht hc hk;have hM0:=aA.new w csm 130;have HM:=zh (matrix.lI.V3 (f:=fun i=>((bI 3).map (E i)).map Fr.of) hM0 HCS.out);have h0b:Below w.heap.size w (w.alloc (.cells csm 130)):=aO;clear hM0;go_enter Tryz.func127,Tryz.ntmps127
 go_wp2_with fail
 go_loopw [6] (fun iv wr=>∃ r:Nat,iv= Z I (r:Int)∧r≤3∧Hid (lI wr w.heap.size 3 r (fun i=>((bI 3).map (E i)).map Fr.of))∧Below w.heap.size w wr) (fun iv _=>3 - (intOf iv).toNat)
 case atStart=>exact ⟨0,rfl,by omega,HM,h0b⟩
 case round =>
  clear HM h0b;obtain ⟨r,rfl,hr,HM,hb⟩:=hrel;obtain ⟨wo,hwo⟩:∃ y,y=wr:=⟨_,rfl⟩;subst hwo;have lM:=HM.out.lt
  rcases aH r 3 with hlt|hge
  ·have hlt2:(r:Int)<3:=by omega
   obtain ⟨⟨y1,cy1⟩,fy⟩:=HM.out.cell hlt;obtain ⟨XU,bM,hsz, -⟩:=HM.out;have HBM:=zh bM;have hrs:r<XU.size:=by omega
   clear bM hsz;go_wp2_with fail
   clear cy1 fy;have hGM:wo.heap.size≠w.heap.size:=by omega
   have hMG:w.heap.size≠wo.heap.size:=by omega
   have hBn:aA ((wo.setCell ⟨w.heap.size,r,none⟩ (aj (some ⟨wo.heap.size,0,none⟩) 3 3)).alloc (.cells YM 38 (0,0))) wo.heap.size YM 38:=aA.uy zi;have HF:=zh (show Fill _ wo.heap.size 38 3 0 (DL fun i=>Fr.of (E r i)) from ⟨YM,hBn,HCF.out,fun i hi=>by omega⟩);have HB:=zh ((HBM.out.set r (aj (some ⟨wo.heap.size,0,none⟩) 3 3)).alloc (.cells YM 38 (0,0)));have HN:=zh (((oJ.refl wo w.heap.size).set r (aj (some ⟨wo.heap.size,0,none⟩) 3 3)).below (w':=(wo.setCell ⟨w.heap.size,r,none⟩ (aj (some ⟨wo.heap.size,0,none⟩) 3 3)).alloc (.cells YM 38 (0,0))) aO);clear hBn
   go_loopw [13] (fun iv wr=>∃ c:Nat,iv= Z I (c:Int)∧c≤3∧Hid (Fill wr wo.heap.size 38 3 c (DL fun i=>Fr.of (E r i)))∧Hid (aA wr w.heap.size (XU.setIfInBounds r (aj (some ⟨wo.heap.size,0,none⟩) 3 3)) 130)∧Hid (oJ wo wr w.heap.size)) (fun iv _=>3 - (intOf iv).toNat)
   case atStart=>exact ⟨0,rfl,by omega,HF,HB,HN⟩
   case round =>
    clear HF HB HN;obtain ⟨c,rfl,hcn,HF,HB,HN⟩:=hrel
    rcases aH c 3 with hcl|hcl
    ·have al5:(c:Int)<3:=by omega
     have hbv:Below w.heap.size w wr:=HN.out.toBelow hb (aG _);have aa4:m*9+r*3+c<36:=by omega
     have cg:=(HC.out.later hbv).cell aa4;have ck:=(HK.out.later hbv).cell;have lkr:=aP lk hbv.size;have l0r:=aP l0 hbv.size;have cM:=HB.out.cell r;rw [Array.getElem?_setIfInBounds,if_pos rfl,if_pos hrs] at cM;have lMr:=HB.out.lt;have hok:=Gc m hm r hlt c hcl;have hqe:Gf m r c=E r c:=by rw [EE.out]
     have Tc:Gf m r c=((mW.getD (m*9+r*3+c) 0:Int):Rat) / ((100000:Int):Rat):=rfl;have hsm:=Dn _ aa4;rw [hqe] at hok Tc;generalize mW.getD (m*9+r*3+c) 0=z at *;obtain ⟨q,EQ⟩:∃ x:Rat,Hid (E r c=x):=⟨_,zh rfl⟩;rw [EQ.out] at hok Tc
     have Yh:Hid (Fr.res (oh z 100000)= aF #[aB #[O (Fr.of q).n,O (Fr.of q).d],Z I 0]):=zh (by
      unfold oh d9.wr;rw [if_neg zd,← Tc,if_pos hok];rfl)
     obtain ⟨s1,Es1⟩:∃ x:ByteArray,Hid ((Fr.of q).n=x):=⟨_,zh rfl⟩;obtain ⟨s2,Es2⟩:∃ x:ByteArray,Hid ((Fr.of q).d=x):=⟨_,zh rfl⟩;rw [Es1.out,Es2.out] at Yh;have Lc:=zh (HT.out.later hbv);have HS1:=zh hsm.1;have HS2:=zh hsm.2;have lG:=HF.out.lt;have hm2:(m:Int)<4:=by omega
     have hwm:I.wrap (m:Int)=(m:Int):=by rw [IntKind.wrap_i64];omega
     clear hok hqe Tc hsm;go_wp2_with fail
     refine aQ [(.pure,0),(.pure,1),(.pure,2),(.read,3),(.pure,4),(.read,5),(.pure,6),(.pure,7),(.pure,8),(.pure,9),(.pure,10),(.pure,11),(.read,12),(.ext,13),(.pure,14),(.pure,15),(.ext,16),(.pure,17),(.fin,18)] zk zk zR zP ?_;refine zV ?_;refine aN rfl rfl (fun w2 hb2 J hJ=>?_);go_simp;have hb2':Below wr.heap.size wr w2:=aO;refine ((dw.vD z 100000 (by have:=HS1.out;omega) (by have:=HS2.out;omega) zo zo w2 (Lc.out.later hb2')).mono (by rw [Yh.out];exact fun _ _ h=>h)).mono ?_;rintro e w3 ⟨rfl,hb3⟩;refine hJ _ _ hb3 ?_;clear hJ J;refine zV ?_;refine aN rfl rfl (fun w4 hb4 J hJ=>?_);go_simp;refine (oW ⟨s1,s2⟩ w4).mono ?_;unfold Fr.v;rintro e w5 ⟨rfl,hb5⟩;refine hJ _ _ hb5 ?_;clear hJ J;refine zV ?_;refine bT [_] rfl (fun w6 hb6=>?_);have hx6:Below wr.heap.size wr w6:=aO;replace HF:=zh (HF.out.WB hx6);replace HB:=zh (HB.out.later hx6)
     replace HN:=zh (HN.out.below hx6);obtain ⟨⟨y1,cy1⟩,⟨y2,cy2⟩,fy⟩:=HF.out.cells hcl;have lG6:=HF.out.lt;clear hb6 hx6 cM lMr cg ck;go_wp2_with fail
     go_roundw
     case rel =>
      refine ⟨c+1,by go_num,by omega,zh (HF.out.step hcl (fun _ _ _ h=>h) ⟨?_,?_⟩),zh ((HB.out.setOther _ hMG).setOther _ hMG),zh ((HN.out.Oe (aG _) _ _).Oe (aG _) _ _)⟩
      ·show Value.string s1= O (Fr.of (E r c)).n
       rw [EQ.out,Es1.out]
      ·show Value.string s2= O (Fr.of (E r c)).d
       rw [EQ.out,Es2.out]
     case measure=>exact zM
    ·have al0:c=3:=by omega
     subst al0;go_wp2_with fail
     go_roundw
     case rel =>
      have hbv:Below w.heap.size w wr:=HN.out.toBelow hb (aG _);refine ⟨r+1,by go_num,by omega,zh (HM.out.step (v:=aj (some ⟨wo.heap.size,0,none⟩) 3 3) hlt HN.out (fun arr hA=>?_) ?_),hbv⟩
      ·have hAM:arr=XU:=d9.aA.uniq hA HBM.out;rw [hAM];exact HB.out
      ·refine Fill.frs (HF.out.Xv fun i hi=>?_) zi zo;have hc3:i=0∨i=1∨i=2:=by omega
       rcases hc3 with rfl|rfl|rfl<;>rfl
     case measure=>exact zM
  ·have hrn:r=3:=by omega
   subst hrn
   have hmv:kN wo (aj (some ⟨w.heap.size,0,none⟩) 3 3) (lC m).fr:=by
    have:kN wo (aj (some ⟨w.heap.size,0,none⟩) (lC m).fr.length (lC m).fr.length) (lC m).fr:=by
     refine lI.aj7 ?_ (by show 3≤1000000;omega);obtain ⟨arr,k1,k2,k3⟩:=HM.out;refine ⟨arr,k1,k2,fun i hi=>?_⟩;have hi3:i<3:=hi;obtain ⟨v,g1,g2⟩:=k3 i hi3;refine ⟨v,g1,?_⟩;rw [← EE.out] at g2;have hc3:i=0∨i=1∨i=2:=by omega
     rcases hc3 with rfl|rfl|rfl<;>exact g2
    exact this
   have DK:=zh hmv;clear hmv;go_wp2_with fail
   go_ret
   exact dD.yes hb DK.out
def uZ (k:Int):Int:=if k<1∨4<k then 2 else 0
theorem Q9 (k:Int) (h:k<1∨4<k) (m:List (List Fr)) (w:World) :
  Calls Tryz.prog 71 #[Z I k] w (jD w 2 m):=by
 rcases h with h|h
 ·have q1:decide (k<1)=true:=by simp;omega
  clear h;go_enter Tryz.func71,Tryz.ntmps71
  go_wp2_with fail
  go_ret2
  exact jD.no aO zd
 ·have q1:decide (k<1)=false:=by simp;omega
  have q2:decide (4<k)=true:=by simp;omega
  clear h;go_enter Tryz.func71,Tryz.ntmps71
  go_wp2_with fail
  go_ret2
  exact jD.no aO zd
theorem Nn (m:Nat) (hm:m<4) (w:World) (ht:iA.Pow w) (hc:fM w) :
  Calls Tryz.prog 71 #[Z I ((m:Int)+1)] w (jD w 0 (lC m).fr):=by
 have Kv:∀ (fn:Fn) (first cap:Array Value) (w:World),(Instr.makeFunc fn first cap).run Tryz.prog w= .ok (.func fn first cap) w:=fun _ _ _ _=>rfl;have q1:decide ((m:Int)+1<1)=false:=by simp;omega
 have q2:decide ((4:Int)<(m:Int)+1)=false:=by simp;omega
 have hb0:Below w.heap.size w (w.alloc (.cells #[Z I ((m:Int)+1)] 3)):=aO;have hk0:=aA.new w #[Z I ((m:Int)+1)] 3
 have HAT:Hid (Calls Tryz.prog 126 #[.func (.func 127) #[] #[au (some ⟨w.heap.size,0,none⟩)]] (w.alloc (.cells #[Z I ((m:Int)+1)] 3)) (jD (w.alloc (.cells #[Z I ((m:Int)+1)] 3)) 0 (lC m).fr)):=Lib.hid
  (Gy 127 #[au (some ⟨w.heap.size,0,none⟩)] 0 (lC m).fr _ (fun W hW=>Qq w.heap.size m hm W (hk0.later hW) ((ht.later hb0).later hW) ((hc.later hb0).later hW)) (fun args W=>enters_of Tryz.func127 zk rfl args W))
 clear hk0 ht hc;go_enter Tryz.func71,Tryz.ntmps71
 go_wp2_with fail
 refine HAT.out.mono ?_;rintro e w1 ⟨hb1,v,rfl,hy, -⟩;obtain ⟨rs,hR, -⟩:=id (hy rfl);obtain ⟨a,cap,rfl, -⟩:=hR;have HV:=zh (hy rfl);clear hy HAT;go_wp2_with fail
 go_ret2
 exact jD.yes (Bt hb0 hb1) HV.out
theorem Le (k:Int) (w:World) (ht:iA.Pow w) (hc:fM w) :
  Calls Tryz.prog 71 #[Z I k] w (jD w (uZ k) (lC (k - 1).toNat).fr):=by
 unfold uZ
 by_cases h:k<1∨4<k
 ·rw [if_pos h];exact Q9 k h _ w
 ·rw [if_neg h];have:=Nn (k - 1).toNat zo w ht hc;have e:(((k - 1).toNat:Nat):Int)+1=k:=by omega
  rw [e] at this;exact this
def kJ (f:Nat→Rat):light.gJ:=⟨Fr.of (f 0),Fr.of (f 1),Fr.of (f 2)⟩
def jC (f:Nat→Rat):List Rat:=[f 0,f 1,f 2]
def yR (m:matrix.RM) (f:Nat→Rat) (i:Nat):Rat:=kL (m.getD i []) (jC f)
def j4 (f:Nat→Rat):Bool:=iG (f 0)&&iG (f 1)&&iG (f 2)
theorem qM.cells {w:World} {T:TypeId} {a:Option Addr} {n c:Nat} {l:List Fr} (h:qM w T (aj a n c) l) (h0:0<l.length) :
  n=l.length∧∃ b off,a=some ⟨b,off,none⟩∧b<w.heap.size∧∀ i (h:i<l.length),w.cell? ⟨b,off+i*2,none⟩=some (.string l[i].n)∧w.cell? ⟨b,off+i*2+1,none⟩=some (.string l[i].d):=by
 obtain ⟨a',c',e, -, -, h2⟩:=h.read;simp only [Value.slice.injEq] at e;obtain ⟨rfl,rfl,rfl⟩:=e;obtain ⟨b,off,rfl,k1, -⟩:=h2 0 h0;refine ⟨rfl,b,off,rfl,k1,fun i hi=>?_⟩;obtain ⟨b',off',e, -, k2,k3⟩:=h2 i hi;simp only [Option.some.injEq,Addr.mk.injEq,and_true] at e;obtain ⟨rfl,rfl⟩:=e;exact ⟨k2,k3⟩
theorem JW (va:Value) (m:matrix.RM) (f:Nat→Rat) (w:World) (h:kN w va m.fr) (hm:m.ok 3) (h3:m.length=3) (hf:j4 f=true) (ht:iA.Pow w) :
  Calls Tryz.prog 218 #[va,(kJ f).v] w (dD w (if j4 (yR m f) then 0 else 6) (fun v _=>v=(kJ (yR m f)).v)):=by
 have hq:∀ q∈jC f,iG q=true:=by
  unfold j4 at hf;simp only [aD] at hf;intro q hq;simp only [jC,cK,gG,or_false] at hq
  rcases hq with rfl|rfl|rfl
  ·exact hf.1.1
  ·exact hf.1.2
  ·exact hf.2
 have hap:=fun vl (T:TypeId) w' (hb:Below w.heap.size w w') (hl:qM w' T vl ((jC f).map Fr.of))=>matrix.AB va vl m (jC f) T w' (h.later hb) hl hm hq (ht.later hb)
 have hml:(m.map fun r=>kL r (jC f))=jC (yR m f):=by
  match m,h3 with
  | [r1,r2,r3],_=>rfl
 rw [hml] at hap
 have hall:(jC (yR m f)).all iG=j4 (yR m f):=by
  simp [jC,j4,Bool.and_assoc]
 obtain ⟨g,Eg⟩:∃ g:Nat→Rat,Hid (yR m f=g):=⟨_,zh rfl⟩;rw [Eg.out] at hap hall ⊢;obtain ⟨er,Ld⟩:∃ y:Int,Hid ((if j4 g then 0 else 6)=y):=⟨_,zh rfl⟩;rw [Ld.out];have HAP:=zh hap;have Us:=zh hall;obtain ⟨rs,hR, -⟩:=id h;obtain ⟨a,cap,rfl, -⟩:=hR;have hl3:m.fr.length=3:=by unfold matrix.RM.fr;rw [List.length_map,h3]
 obtain ⟨n0,hn0⟩:∃ n0,rs.length=n0:=⟨_,rfl⟩;rw [hn0] at HAP ⊢;have HL3:Hid (((jC f).map Fr.of)=[Fr.of (f 0),Fr.of (f 1),Fr.of (f 2)]):=zh rfl;obtain ⟨⟨a1,a2⟩,E1⟩:∃ x:Fr,Hid (Fr.of (f 0)=x):=⟨_,zh rfl⟩;obtain ⟨⟨a3,a4⟩,E2⟩:∃ x:Fr,Hid (Fr.of (f 1)=x):=⟨_,zh rfl⟩;obtain ⟨⟨a5,a6⟩,E3⟩:∃ x:Fr,Hid (Fr.of (f 2)=x):=⟨_,zh rfl⟩
 have ev:(kJ f).v= aB #[O a1,O a2,O a3,O a4,O a5,O a6]:=by
  unfold kJ;rw [E1.out,E2.out,E3.out];rfl
 rw [E1.out,E2.out,E3.out] at HL3;rw [HL3.out] at HAP;rw [ev];clear h hm h3 hf ht hq hap hml hall ev hl3 hn0 E1 E2 E3;go_enter Tryz.func218,Tryz.ntmps218
 go_wp2_with fail
 obtain ⟨w0,oq⟩:∃ y,((w.alloc (.cells #[O a1,O a2,O a3,O a4,O a5,O a6] 40)).alloc (.cells #[O ⟨#[]⟩,O ⟨#[]⟩,O ⟨#[]⟩,O ⟨#[]⟩,O ⟨#[]⟩,O ⟨#[]⟩] 281)).alloc (.cells #[O ⟨#[]⟩,O ⟨#[]⟩,O ⟨#[]⟩,O ⟨#[]⟩,O ⟨#[]⟩,O ⟨#[]⟩] 281)=y:=⟨_,rfl⟩;have hb0:Below w.heap.size w w0:=by rw [← oq];exact aO
 have hx0:aA w0 w.heap.size #[O a1,O a2,O a3,O a4,O a5,O a6] 40:=by rw [← oq];exact aY
 have hx1:aA w0 (w.heap.size+1) #[O ⟨#[]⟩,O ⟨#[]⟩,O ⟨#[]⟩,O ⟨#[]⟩,O ⟨#[]⟩,O ⟨#[]⟩] 281:=by rw [← oq];exact aY
 have hx2:aA w0 (w.heap.size+1+1) #[O ⟨#[]⟩,O ⟨#[]⟩,O ⟨#[]⟩,O ⟨#[]⟩,O ⟨#[]⟩,O ⟨#[]⟩] 281:=by rw [← oq];exact aY
 rw [oq];clear oq;refine aQ [(.pure,0),(.pure,1),(.pure,2),(.pure,3),(.ext,4),(.pure,5),(.pure,6),(.ext,7),(.fin,8)] zk zk zR zP ?_;refine zV ?_;refine aN rfl rfl (fun w1 hb1 J hJ=>?_);go_simp;have h01:Below w0.heap.size w0 w1:=aO;refine (HAP.out _ 40 w1 (Bt hb0 h01) (light.gJ.frs (t:=⟨⟨a1,a2⟩,⟨a3,a4⟩,⟨a5,a6⟩⟩) (hx0.later h01))).mono ?_;rintro e w2 (⟨hy,vo,rfl,hb2,hfr⟩|⟨hy,rfl,hb2⟩)
 ·rw [Us.out] at hy;refine hJ _ _ hb2 ?_;clear hJ J;obtain ⟨⟨s1,s2⟩,E1⟩:∃ x:Fr,Hid (Fr.of (g 0)=x):=⟨_,zh rfl⟩;obtain ⟨⟨s3,s4⟩,E2⟩:∃ x:Fr,Hid (Fr.of (g 1)=x):=⟨_,zh rfl⟩;obtain ⟨⟨s5,s6⟩,E3⟩:∃ x:Fr,Hid (Fr.of (g 2)=x):=⟨_,zh rfl⟩
  have hl:(jC g).map Fr.of=[⟨s1,s2⟩,⟨s3,s4⟩,⟨s5,s6⟩]:=by
   show [Fr.of (g 0),Fr.of (g 1),Fr.of (g 2)]=_
   rw [E1.out,E2.out,E3.out]
  have hv:(kJ g).v= aB #[O s1,O s2,O s3,O s4,O s5,O s6]:=by
   unfold kJ;rw [E1.out,E2.out,E3.out];rfl
  rw [hl] at hfr;have HVV:=zh hv;have HE0:Hid (er=0):=zh (by rw [← Ld.out,hy];rfl);obtain ⟨ao,co,rfl, -⟩:=hfr.read;obtain ⟨-, b,off,rfl,lb,hcell⟩:=qM.cells hfr zi;have hc0:=hcell 0 zi;have hc1:=hcell 1 zi;have hc2:=hcell 2 zi;simp only [List.getElem_cons_zero,List.getElem_cons_succ,Nat.zero_mul,gL] at hc0 hc1 hc2;clear hl hv hfr hcell hy;refine zV ?_;refine aN rfl rfl (fun w3 hb3 J hJ=>?_);go_simp;refine (OX _ _ _ w3).mono ?_;rintro e w4 ⟨rfl,rfl⟩;refine hJ _ _ (Below.refl _ _) ?_;clear hJ J;refine bT [_] rfl (fun w5 hb5=>?_);have UW:Below w2.heap.size w2 w5:=aO;have h05:Below w0.heap.size w0 w5:=Bt (Bt h01 hb2) UW;have k1:=(UW.cell (p:=⟨b,off,none⟩) lb).trans hc0.1;have k2:=(UW.cell (p:=⟨b,off+1,none⟩) lb).trans hc0.2;have k3:=(UW.cell (p:=⟨b,off+1*2,none⟩) lb).trans hc1.1;have k4:=(UW.cell (p:=⟨b,off+1*2+1,none⟩) lb).trans hc1.2
  have k5:=(UW.cell (p:=⟨b,off+2*2,none⟩) lb).trans hc2.1;have k6:=(UW.cell (p:=⟨b,off+2*2+1,none⟩) lb).trans hc2.2;have hy2:=hx2.later h05
  have hcp:∀ ty,(Builtin.copy_ #[130,130] ty #[aj (some ⟨w.heap.size+1+1,0,none⟩) 3 3,aj (some ⟨b,off,none⟩) 3 co]).run Tryz.prog w5= .ok (goInt 3) (w5.setRow (w.heap.size+1+1) #[O s1,O s2,O s3,O s4,O s5,O s6]):=fun ty=>by
   obtain ⟨i0,hi,hz0,hz1,hz2⟩:=info_parts matrix.Px
   exact matrix.q8 Tryz.prog w5 130 130 ty 38 (w.heap.size+1+1) 0 3 3 2 ⟨b,off,none⟩ 3 co #[O ⟨#[]⟩,O ⟨#[]⟩,O ⟨#[]⟩,O ⟨#[]⟩,O ⟨#[]⟩,O ⟨#[]⟩] 281 [O s1,O s2,O s3,O s4,O s5,O s6] Tryz.underlying130 (by rw [hi];simp [hz1]) hy2 rfl (fun j v hv=>by
    rw [Addr.add_lit]
    match j,hv with
    | 0,hv=>cases hv;exact k1
    | 1,hv=>cases hv;exact k2
    | 2,hv=>cases hv;exact k3
    | 3,hv=>cases hv;exact k4
    | 4,hv=>cases hv;exact k5
    | 5,hv=>cases hv;exact k6) zi (by intro v hv;simp at hv;rcases hv with rfl|rfl|rfl|rfl|rfl|rfl<;>rfl)
  obtain ⟨w6,Ew6⟩:∃ y,w5.setRow (w.heap.size+1+1) #[O s1,O s2,O s3,O s4,O s5,O s6]=y:=⟨_,rfl⟩;have hz2:aA w6 (w.heap.size+1+1) #[O s1,O s2,O s3,O s4,O s5,O s6] 281:=by rw [← Ew6];exact setRow_heap _ _ _ _ _ _ hy2
  have Py:Below w.heap.size w w6:=by rw [← Ew6];exact below_setRow (Bt hb0 h05) zo _
  have hz1:aA w6 (w.heap.size+1) #[O ⟨#[]⟩,O ⟨#[]⟩,O ⟨#[]⟩,O ⟨#[]⟩,O ⟨#[]⟩,O ⟨#[]⟩] 281:=by
   rw [← Ew6];have:=hx1.later h05;unfold aA at *;rw [setRow_other _ _ _ _ zo];exact this
  rw [Ew6] at hcp;have c2:=hz2.cell;have c1:=hz1.cell;have f1:=hz1.free;have HZ2:=zh hz2;clear k1 k2 k3 k4 k5 k6 hc0 hc1 hc2 hy2 Ew6 hx0 hx1 hx2 hb0 hb1 h01 hb2 hb3 hb5 UW h05 hz2;go_wp2_with fail
  refine iX rfl rfl ((((((hz1.set 0 _).set 1 _).set 2 _).set 3 _).set 4 _).set 5 _) Tryz.underlying281 rfl zk ?_;rw [HE0.out];exact dD.yes aO (by rw [HVV.out];rfl)
 ·rw [Us.out] at hy;have Yf:Hid (er=6):=zh (by rw [← Ld.out,hy];rfl);refine hJ _ _ hb2 ?_;clear hJ J hy;refine zV ?_;refine aN rfl rfl (fun w3 hb3 J hJ=>?_);go_simp;refine (Mi _ _ _ 6 zd w3).mono ?_;rintro e w4 ⟨rfl,rfl⟩;exact ⟨rfl,by rw [Yf.out];exact dD.no (Bt (Bt (Bt hb0 h01) hb2) aO) zd⟩
def qH (g:Nat→Rat):Bool:=decide (g 0=0) || decide (g 1=0) || decide (g 2=0)
theorem JU {q:Rat} (h:iG q=true):nU (Fr.of q)=(jk q 0,0):=by unfold nU;rw [mF h]
theorem nH {q:Rat}:jk q 0=0↔q=0:=by
 unfold jk
 constructor
 ·intro h
  by_cases h1:q<0
  ·rw [if_pos h1] at h;cases h
  ·rw [if_neg h1] at h
   by_cases h2:0<q
   ·rw [if_pos h2] at h;cases h
   ·grind
 ·intro h;subst h;rfl
theorem SY (a b c d e f:ByteArray) (w:World):(Instr.index 279 (aB #[O a,O b,O c,O d,O e,O f]) (Z I 0)).run Tryz.prog w= .ok (aB #[O a,O b]) w:=by kernel_rfl
theorem SX (a b c d e f:ByteArray) (w:World):(Instr.index 279 (aB #[O a,O b,O c,O d,O e,O f]) (Z I 1)).run Tryz.prog w= .ok (aB #[O c,O d]) w:=by kernel_rfl
theorem SV (a b c d e f:ByteArray) (w:World):(Instr.index 279 (aB #[O a,O b,O c,O d,O e,O f]) (Z I 2)).run Tryz.prog w= .ok (aB #[O e,O f]) w:=by kernel_rfl
theorem Jo (g:Nat→Rat) (hg:j4 g=true) (w:World) :
  Calls Tryz.prog 219 #[(kJ g).v] w (fun e w'=>e= ah (aC (qH g))∧Below w.heap.size w w'):=by
 unfold j4 at hg;simp only [aD] at hg
 have HS:Hid (∀ k,k<3→∀ w,Calls Tryz.prog 75 #[(Fr.of (g k)).v] w (fun e w'=>e= ah (aF #[Z I (jk (g k) 0),Z I 0])∧Below w.heap.size w w')):=zh fun k hk w=>by
  have hq:iG (g k)=true:=by
   have:k=0∨k=1∨k=2:=by omega
   rcases this with rfl|rfl|rfl
   ·exact hg.1.1
   ·exact hg.1.2
   ·exact hg.2
  have:=dw.vB (Fr.of (g k)) w;rw [JU hq] at this;exact this
 obtain ⟨b,Eb⟩:∃ b,Hid (qH g=b):=⟨_,zh rfl⟩;rw [Eb.out];obtain ⟨⟨a1,a2⟩,E1⟩:∃ x:Fr,Hid (Fr.of (g 0)=x):=⟨_,zh rfl⟩;obtain ⟨⟨a3,a4⟩,E2⟩:∃ x:Fr,Hid (Fr.of (g 1)=x):=⟨_,zh rfl⟩;obtain ⟨⟨a5,a6⟩,E3⟩:∃ x:Fr,Hid (Fr.of (g 2)=x):=⟨_,zh rfl⟩
 have ev:(kJ g).v= aB #[O a1,O a2,O a3,O a4,O a5,O a6]:=by
  unfold kJ;rw [E1.out,E2.out,E3.out];rfl
 rw [ev];have hi0:=SY a1 a2 a3 a4 a5 a6;have hi1:=SX a1 a2 a3 a4 a5 a6;have hi2:=SV a1 a2 a3 a4 a5 a6;clear hg ev;go_enter Tryz.func219,Tryz.ntmps219
 go_wp2_with fail
 go_loopw [6] (fun iv wr=>∃ k:Nat,iv= Z I (k:Int)∧k≤3∧Hid (∀ j,j<k→g j≠0)∧Below w.heap.size w wr) (fun iv _=>3 - (intOf iv).toNat)
 case atStart=>exact ⟨0,rfl,by omega,zh (fun j h=>by omega),aO⟩
 case round =>
  obtain ⟨k,rfl,hk,HZ,hb⟩:=hrel
  rcases aH k 3 with hlt|hge
  ·have hk3:k=0∨k=1∨k=2:=by omega
   rcases hk3 with rfl|rfl|rfl
   ·have hs:=HS.out 0 zo;rw [E1.out] at hs;unfold Fr.v at hs;simp only at hs;have QS:=zh hs;clear hs
    by_cases hz:g 0=0
    ·have hc:jk (g 0) 0=0:=nH.2 hz;rw [hc] at QS
     have hf:b=true:=by
      rw [← Eb.out];unfold qH;simp [hz]
     have HB:=zh hf;clear hf hz hc;go_wp2_with fail
     refine (QS.out _).mono ?_;rintro e w2 ⟨rfl,hb2⟩;go_wp2_with fail
     refine (mI _ _).mono ?_;rintro e w3 ⟨rfl,rfl⟩;go_wp2_with fail
     go_ret
     exact ⟨by rw [HB.out];rfl,Bt (bG hb _) hb2⟩
    ·have hc:¬ jk (g 0) 0=0:=fun e=>hz (nH.1 e);have HNZ:=zh hz;generalize jk (g 0) 0=s at *;have hc2:(s == 0)=false:=by simp [hc]
     clear hz hc;go_wp2_with fail
     refine (QS.out _).mono ?_;rintro e w2 ⟨rfl,hb2⟩;go_wp2_with fail
     refine (mI _ _).mono ?_;rintro e w3 ⟨rfl,rfl⟩;go_wp2_with fail
     go_roundw
     case rel =>
      refine ⟨0+1,by go_num,by omega,zh fun j hj=>?_,Bt (bG hb _) hb2⟩
      rcases aH j 0 with h|h
      ·exact HZ.out j h
      ·obtain rfl:j=0:=by omega
       exact HNZ.out
     case measure=>simp [intOf]
   ·have hs:=HS.out 1 zo;rw [E2.out] at hs;unfold Fr.v at hs;simp only at hs;have QS:=zh hs;clear hs
    by_cases hz:g 1=0
    ·have hc:jk (g 1) 0=0:=nH.2 hz;rw [hc] at QS
     have hf:b=true:=by
      rw [← Eb.out];unfold qH;simp [hz]
     have HB:=zh hf;clear hf hz hc;go_wp2_with fail
     refine (QS.out _).mono ?_;rintro e w2 ⟨rfl,hb2⟩;go_wp2_with fail
     refine (mI _ _).mono ?_;rintro e w3 ⟨rfl,rfl⟩;go_wp2_with fail
     go_ret
     exact ⟨by rw [HB.out];rfl,Bt (bG hb _) hb2⟩
    ·have hc:¬ jk (g 1) 0=0:=fun e=>hz (nH.1 e);have HNZ:=zh hz;generalize jk (g 1) 0=s at *;have hc2:(s == 0)=false:=by simp [hc]
     clear hz hc;go_wp2_with fail
     refine (QS.out _).mono ?_;rintro e w2 ⟨rfl,hb2⟩;go_wp2_with fail
     refine (mI _ _).mono ?_;rintro e w3 ⟨rfl,rfl⟩;go_wp2_with fail
     go_roundw
     case rel =>
      refine ⟨1+1,by go_num,by omega,zh fun j hj=>?_,Bt (bG hb _) hb2⟩
      rcases aH j 1 with h|h
      ·exact HZ.out j h
      ·obtain rfl:j=1:=by omega
       exact HNZ.out
     case measure=>simp [intOf]
   ·have hs:=HS.out 2 zo;rw [E3.out] at hs;unfold Fr.v at hs;simp only at hs;have QS:=zh hs;clear hs
    by_cases hz:g 2=0
    ·have hc:jk (g 2) 0=0:=nH.2 hz;rw [hc] at QS
     have hf:b=true:=by
      rw [← Eb.out];unfold qH;simp [hz]
     have HB:=zh hf;clear hf hz hc;go_wp2_with fail
     refine (QS.out _).mono ?_;rintro e w2 ⟨rfl,hb2⟩;go_wp2_with fail
     refine (mI _ _).mono ?_;rintro e w3 ⟨rfl,rfl⟩;go_wp2_with fail
     go_ret
     exact ⟨by rw [HB.out];rfl,Bt (bG hb _) hb2⟩
    ·have hc:¬ jk (g 2) 0=0:=fun e=>hz (nH.1 e);have HNZ:=zh hz;generalize jk (g 2) 0=s at *;have hc2:(s == 0)=false:=by simp [hc]
     clear hz hc;go_wp2_with fail
     refine (QS.out _).mono ?_;rintro e w2 ⟨rfl,hb2⟩;go_wp2_with fail
     refine (mI _ _).mono ?_;rintro e w3 ⟨rfl,rfl⟩;go_wp2_with fail
     go_roundw
     case rel =>
      refine ⟨2+1,by go_num,by omega,zh fun j hj=>?_,Bt (bG hb _) hb2⟩
      rcases aH j 2 with h|h
      ·exact HZ.out j h
      ·obtain rfl:j=2:=by omega
       exact HNZ.out
     case measure=>simp [intOf]
  ·have hk3:k=3:=by omega
   subst hk3
   have hf:b=false:=by
    rw [← Eb.out];unfold qH;simp [HZ.out 0 zo,HZ.out 1 zo,HZ.out 2 zo]
   have HB:=zh hf;clear hf;go_wp2_with fail
   go_ret
   exact ⟨by rw [HB.out];rfl,hb⟩
end Go.Proofs.adapt
