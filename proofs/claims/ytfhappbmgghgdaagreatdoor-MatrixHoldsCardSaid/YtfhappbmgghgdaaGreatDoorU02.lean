/- Lemmas for the proof. No condition. -/
import Derived.Test.YtfhappbmgghgdaaGreatDoorU01
import Derived.ChangeArms
set_option linter.unusedVariables false
set_option linter.unusedSimpArgs false
set_option maxRecDepth 100000
set_option maxHeartbeats 16000000
namespace Go.Proofs.verdigrislaw05
open Go Go.RowKit Go.SW Go.Num Go.Mem Go.Proofs Go.Dec Go.dF Go.Proofs.matrix Go.Proofs.aI Go.Proofs.verdigrisref03
theorem wp_ends4 {P:Program} {c:Code} {Q:Exit→Act→World→Prop} {a:Act} {w:World} (F:Act→Value→Value→Value→Value→Act) (R:Value→Value→World→Prop) (h:c.wp P (fun e a' w'=>e= .normal∧∃ x y v5 v6,a'=F a x y v5 v6∧R v5 v6 w') a w) (k:∀ x y v5 v6 w',R v5 v6 w'→Q .normal (F a x y v5 v6) w'):c.wp P Q a w :=
 Code.wp_mono (fun e a' w' ⟨h1,x,y,v5,v6,h2,h3⟩=>by
  subst h1 h2;exact k _ _ _ _ _ h3) h
def lowF (b:Int × Int):Fr:=Fr.of (un b.1)
def Gd (b:Int × Int):Prop:= -20000000000000≤b.1∧b.1≤b.2∧b.2≤20000000000000
theorem holds_main (r c:Int) (v:Value) (a2:Option Addr) (n2 c2 n k:Nat) (M:List (List Fr)) (D:List (Int × Int)) (w:World) (ht:qP.Pow w) (he:whole.Er w) (hv:jw w v) (HD:Hid (Drs w (.slice a2 n2 c2) D)) (hDn:D.length=n2) (hn2:n2≤9223372036854775807)
  (hn:1≤n∧n≤4) (hk:1≤k∧k≤4) (hM:M.length=n) (hM0:∀ h:0<M.length,M[0].length=k)
  (H1:Hid (GivC w 32 #[.agg #[.int .u8 r,.int .u8 c,v]] n M))
  (LAW:Hid (∀ L:List (Int × Int),L.length=k→(∀ b∈L,Gd b)→∃ (V:List Rat) (W:List (Int × Int)),V.length=n∧W.length=n∧Yg M (L.map lowF)=0∧ay8 M (L.map lowF)=V.map Fr.of∧JW M L=(W,0)∧∀ i (h1:i<V.length) (h2:i<W.length),iU V[i]=true∧∃ z,z≤1000000000000000000∧In W[i] V[i] z)) :
  Calls Tryz.prog 10 #[.agg #[.int .u8 r,.int .u8 c,v],.slice a2 n2 c2] w (fun e w'=>e= .returned (.bool true)∧Below w.heap.size w w'):=by
 obtain ⟨i0,hi,hz0,hz1,hz2⟩:=info_parts matrix.qE;obtain ⟨j0,hj,hy0,hy1,hy2⟩:=info_parts matrix.SF;have HP:=zh ht;have HE:=zh he;have HW:=zh (fun W (h1:qP.Pow W) (h2:whole.Er W)=>works_ok W h1 h2);have HM0:=zh hM0;have HMN:=zh hM;have HDN:=zh hDn;obtain ⟨a0,nd,cap,rfl, -, -⟩:=hv;clear ht he hM0 hM hDn;go_enter Tryz.func10,Tryz.ntmps10
 go_wp2_with fail
 obtain ⟨u0,EW,hz,HX⟩:=al1 w #[.int .u8 r,.int .u8 c,.slice a0 nd cap] 26;rw [EW];have HB:=zh hz;clear EW hz;refine (HW.out _ (HP.out.later HB.out) (HE.out.later HB.out)).mono ?_;rintro e u1 ⟨rfl,h⟩;replace HX:=zh (HX.out.later h);replace HB:=zh (Bt HB.out h);clear h;have cHX:=HX.out.cell;have lHX:=HX.out.lt;go_wp2_with fail
 clear cHX lHX;refine (H1.out _ HB.out).mono ?_;rintro e u2 ⟨am,cm,rfl,h,hm⟩;replace HX:=zh (HX.out.later h);replace HB:=zh (Bt HB.out h);clear h;have FM:=zh hm;clear hm;obtain ⟨wz,EZ⟩:∃ y,y=u2:=⟨_,rfl⟩;have HBW:=HB;replace HP:=zh (HP.out.later HB.out);replace HE:=zh (HE.out.later HB.out);replace HD:=zh (HD.out.later HB.out);clear HW HB HX H1;rw [← EZ] at HP HE HD HBW FM ⊢;clear EZ;obtain ⟨ax,cx,e, -, -, hrd⟩:=aP.read FM.out;simp only [Value.slice.injEq] at e;obtain ⟨rfl, -, rfl⟩:=e;obtain ⟨b0,off0,pa0,pc0,rfl,hbl0,hc0, -⟩:=hrd 0 (by have:=HMN.out;omega);rw [HM0.out _,Nat.add_zero] at hc0;clear hrd HM0;go_wp2_with fail
 clear hc0
 go_loopw [6,7,27] (fun lv bv iv wr=>∃ (i:Nat) (L:List (Int × Int)),i≤k∧iv= .int .i64 (i:Int)∧Hid (L.length=i)∧Hid (∀ b∈L,Gd b)∧Hid (dQ wr wz.heap.size 59 2 RFr lv (L.map lowF))∧Hid (dQ wr wz.heap.size 69 2 RBd bv L)∧Hid (Below wz.heap.size wz wr)) (fun _ _ iv _=>k - (intOf iv).toNat)
 case atStart=>exact ⟨0,[],by omega,rfl,zh rfl,zh (fun b h=>by cases h),zh (dQ.nil _ _ _ _ _),zh (dQ.nil _ _ _ _ _),zh (Below.refl _ _)⟩
 case round =>
  obtain ⟨i,L,hik,rfl,HLN,HGD,O6,O7,HB⟩:=hrel
  rcases Nat.lt_or_ge i k with hlt|hge
  ·have hii:(i:Int)<(k:Int):=by omega
   by_cases hn0:n2=0
   ·have LW:=zh (fun W (h:qP.Pow W)=>low_at (lo:=0) (hi:=0) zo zo zo W h);obtain ⟨s,hs⟩:∃ s,(Fr.of (un 0)).n=s:=⟨_,rfl⟩;obtain ⟨t,ht⟩:∃ s,(Fr.of (un 0)).d=s:=⟨_,rfl⟩;rw [hs,ht] at LW;have HST:Hid (lowF (0,0)=⟨s,t⟩):=zh (by unfold lowF;simp only;rw [← hs,← ht]);have HG0:Hid (Gd (0,0)):=zh ⟨by decide,by decide,by decide⟩;subst hn0;clear hs ht;go_wp2_with fail
    obtain ⟨wv,EW,hz,X9⟩:=al1 wr #[.int .i64 0,.int .i64 0] 69;rw [EW];obtain ⟨g9,eg⟩:∃ y,wr.heap.size=y:=⟨_,rfl⟩;rw [eg] at X9 ⊢;have HS:Hid (Below wr.heap.size wr wv):=zh hz;clear EW hz eg;refine (LW.out _ (HP.out.later (Bt HB.out HS.out))).mono ?_;rintro e w1 ⟨rfl,h⟩;replace HS:=zh (Bt HS.out h);replace X9:=X9.bl h;clear h LW;go_wp2_with fail
    obtain ⟨wu,EW,hz,X10⟩:=al1 w1 #[.string s,.string t] 59;rw [EW];obtain ⟨g10,eg⟩:∃ y,w1.heap.size=y:=⟨_,rfl⟩;rw [eg] at X10 ⊢;replace HS:=zh (Bt HS.out hz);replace X9:=X9.bl hz;clear EW hz eg;have Y6:Hid (dQ wu wz.heap.size 59 2 RFr u6 (L.map lowF)):=zh (O6.out.later HS.out (RFr.stay _));have Y7:Hid (dQ wu wz.heap.size 69 2 RBd u7 L):=zh (O7.out.later HS.out (RBd.stay _));have hYB:Hid (Below wz.heap.size wz wu):=zh (Bt HB.out HS.out);clear O6 O7 HB HS;refine wp_ends4 (fun a x y v5 v6=>(((((((((a.put (some 47) u6).put (some 48) (.agg #[.string s,.string t])).put (some 49) x).put (some 50) v5).put (some 51) u7).put (some 52) (.agg #[.int .i64 0,.int .i64 0])).put (some 53) y).put (some 54) v6).put (some 6) v5).put (some 7) v6) (fun v5 v6 W=>dQ W wz.heap.size 59 2 RFr v5 (L.map lowF++[⟨s,t⟩])∧dQ W wz.heap.size 69 2 RBd v6 (L++[(0,0)])∧Below wz.heap.size wz W) ?rg ?tl
    case rg =>
     have c9:=X9.out.cell;have l9:=X9.out.lt;have c10:=X10.out.cell;have l10:=X10.out.lt
     refine reg_in zk (reg_two 6 2 zd (reg_walk [(.pure,0),(.read,1),(.pure,4),(.read,5),(.ext,6),(.ext,2),(.fin,3),(.fin,7),(.fin,8),(.fin,9)] zk zR (fun _ _ _ _ _ h=>by cases h.1) (walk_addE _ _ _ _ _ _ _ (Wk.out ?oA))) (reg_two 6 3 zd (reg_walk [(.pure,0),(.read,1),(.pure,4),(.read,5),(.ext,2),(.ext,6),(.fin,3),(.fin,7),(.fin,8),(.fin,9)] zk zR (fun _ _ _ _ _ h=>by cases h.1) (walk_addE _ _ _ _ _ _ _ (walk_addE _ _ _ _ _ _ _ (Wk.out ?oB)))) (reg_two 5 3 zd (reg_walk [(.pure,0),(.read,1),(.pure,4),(.read,5),(.ext,2),(.fin,3),(.fin,6),(.fin,7),(.fin,8),(.fin,9)] zk zR (fun _ _ _ _ _ h=>by cases h.1) (walk_addE _ _ _ _ _ _ _ (walk_addE _ _ _ _ _ _ _ (walk_addE _ _ _ _ _ _ _ (Wk.out ?oC))))) (reg_walk [(.pure,0),(.read,1),(.pure,4),(.ext,2),(.fin,3),(.fin,5),(.fin,6),(.fin,7),(.fin,8),(.fin,9)] zk zR (fun _ _ _ _ _ h=>by cases h.1) (walk_addE _ _ _ _ _ _ _ (walk_addE _ _ _ _ _ _ _ (walk_addE _ _ _ _ _ _ _ (Wk.out ?oD))))))))
     case oA =>
      (iterate 4 (first|(apply wk_skip;(rfl);(rfl);(rfl);(intro J hJ;go_simp;(with_reducible refine hJ _ ?_);clear hJ J))|(apply wk_len;(rfl);(rfl);(rfl);(rfl);(exact zk);(intro J hJ;go_simp;(with_reducible refine hJ _ ?_);clear hJ J))|(apply wk_pure;(rfl);(rfl);(intro J hJ;go_simp;(with_reducible refine hJ _ ?_);clear hJ J))|(apply wk_load;(rfl);(rfl);(rfl);(rfl);(intro J hJ;go_simp;(with_reducible refine hJ _ ?_);clear hJ J;try go_simp))))
      refine wk_ext rfl rfl (fun wa6 hba J hJ=>?_);go_simp;refine hJ _ _ belA ?_;clear hJ J;have hb6:=ah.new wa6 #[.int .i64 0,.int .i64 0] 69;have z6:Below wu.heap.size wu (wa6.alloc (.cells #[.int .i64 0,.int .i64 0] 69)):=belA;clear hba;refine wk_ext rfl rfl (fun wa2 hba J hJ=>?_);go_simp;refine hJ _ _ belA ?_;clear hJ J;have hb2:=ah.new wa2 #[.string s,.string t] 59;have z2:Below (wa6.alloc (.cells #[.int .i64 0,.int .i64 0] 69)).heap.size (wa6.alloc (.cells #[.int .i64 0,.int .i64 0] 69)) (wa2.alloc (.cells #[.string s,.string t] 59)):=belA;clear hba;replace hb6:=hb6.later z2;have z:=Bt z6 z2;refine wk_fin [_,_,_,_] rfl (fun wf hbf=>?_);simp only [List.getElem_toArray,List.getElem_cons_succ,List.getElem_cons_zero];have zf:=Bt z hbf;replace hb6:=hb6.later hbf;replace hb2:=hb2.later hbf;have Z6:=Y6.out.later zf (RFr.stay _);have Z7:=Y7.out.later zf (RBd.stay _)
      have hZB:=Bt hYB.out zf;clear zf hbf c9 l9 c10 l10;refine wpList_grow (w0:=wz) rfl (.tmp 47) (.tmp 49) 29 rfl 59 i0 (.agg #[.string ⟨#[]⟩,.string ⟨#[]⟩]) 2 32 Tryz.underlying29 hi hz0 hz1 hz2 rfl zd RFr _ (L.map lowF) rfl Z6 hZB _ [.string s,.string t] ⟨s,t⟩ rfl hb2 rfl (fun u hu=>by simp only [List.mem_cons,List.not_mem_nil,or_false] at hu;rcases hu with rfl|rfl<;>rfl) rfl (RFr.stay _) (by rw [List.length_map,HLN.out];omega) zo ?_;intro v5 wg e1 e2 e3;replace Z7:=Z7.kept e3 zd (RBd.stay _);replace hb6:=e3 _ _ _ zd hb6;refine wpList_grow (w0:=wz) rfl (.tmp 51) (.tmp 53) 63 rfl 69 j0 (.agg #[.int .i64 0,.int .i64 0]) 2 16 Tryz.underlying63 hj hy0 hy1 hy2 rfl zd RBd _ L rfl Z7 e2 _ [.int .i64 0,.int .i64 0] (0,0) rfl hb6 rfl (fun u hu=>by simp only [List.mem_cons,List.not_mem_nil,or_false] at hu;rcases hu with rfl|rfl<;>rfl) rfl (RBd.stay _) (by rw [HLN.out];omega) zo ?_
      intro v6 wi f1 f2 f3;have Z6':=e1.kept f3 zd (RFr.stay _);clear e1 e3 f3;go_wp2_with fail
      exact ⟨_,_,v5,v6,⟨rfl,rfl,rfl,rfl,rfl,rfl⟩,Z6',f1⟩
     case oB =>
      (iterate 4 (first|(apply wk_skip;(rfl);(rfl);(rfl);(intro J hJ;go_simp;(with_reducible refine hJ _ ?_);clear hJ J))|(apply wk_len;(rfl);(rfl);(rfl);(rfl);(exact zk);(intro J hJ;go_simp;(with_reducible refine hJ _ ?_);clear hJ J))|(apply wk_pure;(rfl);(rfl);(intro J hJ;go_simp;(with_reducible refine hJ _ ?_);clear hJ J))|(apply wk_load;(rfl);(rfl);(rfl);(rfl);(intro J hJ;go_simp;(with_reducible refine hJ _ ?_);clear hJ J;try go_simp))))
      refine wk_ext rfl rfl (fun wa2 hba J hJ=>?_);go_simp;refine hJ _ _ belA ?_;clear hJ J;have hb2:=ah.new wa2 #[.string s,.string t] 59;have z2:Below wu.heap.size wu (wa2.alloc (.cells #[.string s,.string t] 59)):=belA;clear hba;refine wk_ext rfl rfl (fun wa6 hba J hJ=>?_);go_simp;refine hJ _ _ belA ?_;clear hJ J;have hb6:=ah.new wa6 #[.int .i64 0,.int .i64 0] 69;have z6:Below (wa2.alloc (.cells #[.string s,.string t] 59)).heap.size (wa2.alloc (.cells #[.string s,.string t] 59)) (wa6.alloc (.cells #[.int .i64 0,.int .i64 0] 69)):=belA;clear hba;replace hb2:=hb2.later z6;have z:=Bt z2 z6;refine wk_fin [_,_,_,_] rfl (fun wf hbf=>?_);simp only [List.getElem_toArray,List.getElem_cons_succ,List.getElem_cons_zero];have zf:=Bt z hbf;replace hb6:=hb6.later hbf;replace hb2:=hb2.later hbf;have Z6:=Y6.out.later zf (RFr.stay _);have Z7:=Y7.out.later zf (RBd.stay _);have hZB:=Bt hYB.out zf
      clear zf hbf c9 l9 c10 l10;refine wpList_grow (w0:=wz) rfl (.tmp 47) (.tmp 49) 29 rfl 59 i0 (.agg #[.string ⟨#[]⟩,.string ⟨#[]⟩]) 2 32 Tryz.underlying29 hi hz0 hz1 hz2 rfl zd RFr _ (L.map lowF) rfl Z6 hZB _ [.string s,.string t] ⟨s,t⟩ rfl hb2 rfl (fun u hu=>by simp only [List.mem_cons,List.not_mem_nil,or_false] at hu;rcases hu with rfl|rfl<;>rfl) rfl (RFr.stay _) (by rw [List.length_map,HLN.out];omega) zo ?_;intro v5 wg e1 e2 e3;replace Z7:=Z7.kept e3 zd (RBd.stay _);replace hb6:=e3 _ _ _ zd hb6;refine wpList_grow (w0:=wz) rfl (.tmp 51) (.tmp 53) 63 rfl 69 j0 (.agg #[.int .i64 0,.int .i64 0]) 2 16 Tryz.underlying63 hj hy0 hy1 hy2 rfl zd RBd _ L rfl Z7 e2 _ [.int .i64 0,.int .i64 0] (0,0) rfl hb6 rfl (fun u hu=>by simp only [List.mem_cons,List.not_mem_nil,or_false] at hu;rcases hu with rfl|rfl<;>rfl) rfl (RBd.stay _) (by rw [HLN.out];omega) zo ?_;intro v6 wi f1 f2 f3
      have Z6':=e1.kept f3 zd (RFr.stay _);clear e1 e3 f3;go_wp2_with fail
      exact ⟨_,_,v5,v6,⟨rfl,rfl,rfl,rfl,rfl,rfl⟩,Z6',f1⟩
     case oC =>
      (iterate 4 (first|(apply wk_skip;(rfl);(rfl);(rfl);(intro J hJ;go_simp;(with_reducible refine hJ _ ?_);clear hJ J))|(apply wk_len;(rfl);(rfl);(rfl);(rfl);(exact zk);(intro J hJ;go_simp;(with_reducible refine hJ _ ?_);clear hJ J))|(apply wk_pure;(rfl);(rfl);(intro J hJ;go_simp;(with_reducible refine hJ _ ?_);clear hJ J))|(apply wk_load;(rfl);(rfl);(rfl);(rfl);(intro J hJ;go_simp;(with_reducible refine hJ _ ?_);clear hJ J;try go_simp))))
      refine wk_ext rfl rfl (fun wa2 hba J hJ=>?_);go_simp;refine hJ _ _ belA ?_;clear hJ J;have hb2:=ah.new wa2 #[.string s,.string t] 59;have z:Below wu.heap.size wu (wa2.alloc (.cells #[.string s,.string t] 59)):=belA;clear hba;refine wk_fin [_,_,_,_,_] rfl (fun wf hbf=>?_);simp only [List.getElem_toArray,List.getElem_cons_succ,List.getElem_cons_zero];have zf:=Bt z hbf;replace hb2:=hb2.later hbf;have Z6:=Y6.out.later zf (RFr.stay _);have Z7:=Y7.out.later zf (RBd.stay _);have hZB:=Bt hYB.out zf;clear zf hbf c9 l9 c10 l10
      refine wpList_grow (w0:=wz) rfl (.tmp 47) (.tmp 49) 29 rfl 59 i0 (.agg #[.string ⟨#[]⟩,.string ⟨#[]⟩]) 2 32 Tryz.underlying29 hi hz0 hz1 hz2 rfl zd RFr _ (L.map lowF) rfl Z6 hZB _ [.string s,.string t] ⟨s,t⟩ rfl hb2 rfl (fun u hu=>by simp only [List.mem_cons,List.not_mem_nil,or_false] at hu;rcases hu with rfl|rfl<;>rfl) rfl (RFr.stay _) (by rw [List.length_map,HLN.out];omega) zo ?_;intro v5 wg e1 e2 e3;replace Z7:=Z7.kept e3 zd (RBd.stay _);have hal:Below wg.heap.size wg (wg.alloc (.cells #[.int .i64 0,.int .i64 0] 69)):=belA;replace e1:=e1.later hal (RFr.stay _);replace Z7:=Z7.later hal (RBd.stay _);replace e2:=Bt e2 hal
      go_wp2_with (at_builtin;refine wpList_grow (w0:=wz) rfl (.tmp 51) (.tmp 53) 63 rfl 69 j0 (.agg #[.int .i64 0,.int .i64 0]) 2 16 Tryz.underlying63 hj hy0 hy1 hy2 rfl zd RBd _ L rfl Z7 e2 _ [.int .i64 0,.int .i64 0] (0,0) rfl (ah.new _ _ _) rfl (fun u hu=>by simp only [List.mem_cons,List.not_mem_nil,or_false] at hu;rcases hu with rfl|rfl<;>rfl) rfl (RBd.stay _) (by rw [HLN.out];omega) zo ?_)
      intro v6 wi f1 f2 f3;have Z6':=e1.kept f3 zd (RFr.stay _);clear e1 e3 f3;go_wp2_with fail
      exact ⟨_,_,v5,v6,⟨rfl,rfl,rfl,rfl,rfl,rfl⟩,Z6',f1⟩
     case oD =>
      (iterate 3 (first|(apply wk_skip;(rfl);(rfl);(rfl);(intro J hJ;go_simp;(with_reducible refine hJ _ ?_);clear hJ J))|(apply wk_len;(rfl);(rfl);(rfl);(rfl);(exact zk);(intro J hJ;go_simp;(with_reducible refine hJ _ ?_);clear hJ J))|(apply wk_pure;(rfl);(rfl);(intro J hJ;go_simp;(with_reducible refine hJ _ ?_);clear hJ J))|(apply wk_load;(rfl);(rfl);(rfl);(rfl);(intro J hJ;go_simp;(with_reducible refine hJ _ ?_);clear hJ J;try go_simp))))
      refine wk_ext rfl rfl (fun wa2 hba J hJ=>?_);go_simp;refine hJ _ _ belA ?_;clear hJ J;have hb2:=ah.new wa2 #[.string s,.string t] 59;have z:Below wu.heap.size wu (wa2.alloc (.cells #[.string s,.string t] 59)):=belA;clear hba;refine wk_fin [_,_,_,_,_,_] rfl (fun wf hbf=>?_);simp only [List.getElem_toArray,List.getElem_cons_succ,List.getElem_cons_zero];have zf:=Bt z hbf;replace hb2:=hb2.later hbf;have x9:=X9.out.later zf;have Z6:=Y6.out.later zf (RFr.stay _);have Z7:=Y7.out.later zf (RBd.stay _);have hZB:=Bt hYB.out zf;clear zf hbf c9 l9 c10 l10
      refine wpList_grow (w0:=wz) rfl (.tmp 47) (.tmp 49) 29 rfl 59 i0 (.agg #[.string ⟨#[]⟩,.string ⟨#[]⟩]) 2 32 Tryz.underlying29 hi hz0 hz1 hz2 rfl zd RFr _ (L.map lowF) rfl Z6 hZB _ [.string s,.string t] ⟨s,t⟩ rfl hb2 rfl (fun u hu=>by simp only [List.mem_cons,List.not_mem_nil,or_false] at hu;rcases hu with rfl|rfl<;>rfl) rfl (RFr.stay _) (by rw [List.length_map,HLN.out];omega) zo ?_;intro v5 wg e1 e2 e3;replace Z7:=Z7.kept e3 zd (RBd.stay _);replace x9:=e3 _ _ _ zd x9;have c9:=x9.cell;have l9:=x9.lt;have hal:Below wg.heap.size wg (wg.alloc (.cells #[.int .i64 0,.int .i64 0] 69)):=belA;replace e1:=e1.later hal (RFr.stay _);replace Z7:=Z7.later hal (RBd.stay _);replace e2:=Bt e2 hal
      go_wp2_with (at_builtin;refine wpList_grow (w0:=wz) rfl (.tmp 51) (.tmp 53) 63 rfl 69 j0 (.agg #[.int .i64 0,.int .i64 0]) 2 16 Tryz.underlying63 hj hy0 hy1 hy2 rfl zd RBd _ L rfl Z7 e2 _ [.int .i64 0,.int .i64 0] (0,0) rfl (ah.new _ _ _) rfl (fun u hu=>by simp only [List.mem_cons,List.not_mem_nil,or_false] at hu;rcases hu with rfl|rfl<;>rfl) rfl (RBd.stay _) (by rw [HLN.out];omega) zo ?_)
      intro v6 wi f1 f2 f3;have Z6':=e1.kept f3 zd (RFr.stay _);clear e1 e3 f3;go_wp2_with fail
      exact ⟨_,_,v5,v6,⟨rfl,rfl,rfl,rfl,rfl,rfl⟩,Z6',f1⟩
    case tl =>
     intro x y v5 v6 wt ⟨h1,h2,h3⟩;have HL2:Hid ((L++[(0,0)]).length=i+1):=zh (by rw [List.length_append,HLN.out];rfl)
     have HG2:Hid (∀ b∈L++[(0,0)],Gd b):=zh (fun b hb=>by
      rcases List.mem_append.1 hb with h|h
      ·exact HGD.out b h
      ·rw [List.mem_singleton.1 h];exact HG0.out)
     have O6:Hid (dQ wt wz.heap.size 59 2 RFr v5 ((L++[(0,0)]).map lowF)):=zh (by rw [List.map_append,List.map_singleton,HST.out];exact h1);have O7:=zh h2;have HB:=zh h3;clear h1 h2 h3;go_wp2_with fail
     go_roundw
     case rel=>exact ⟨i+1,_,by omega,by go_num,HL2,HG2,O6,O7,HB⟩
     case measure=>simp [intOf]<;>omega
   ·have hn1:0<n2:=by omega
    have hnp:(0:Int)<(n2:Int):=by omega
    have Om:((n2:Int) == 0)=false:=by simp;omega
    obtain ⟨q,hq⟩:∃ q,i%n2=q:=⟨_,rfl⟩;have hqn:q<n2:=hq ▸ Nat.mod_lt _ hn1;have hrem:((i:Int)).tmod (n2:Int)=(q:Int):=by rw [Int.tmod_eq_emod_of_nonneg zo,← hq];exact (Int.natCast_emod i n2).symm
    have hrw:wrap64 (q:Int)=(q:Int):=by unfold wrap64;omega
    obtain ⟨b,off,d1,d2,rfl,hbl,hx1,hx2,hw0,hw1⟩:=Go.dF.drs_at HD.out HDN.out q hqn;have hal:Below wz.heap.size wz (wr.alloc (.cells #[.int .i64 0,.int .i64 0] 69)):=Bt HB.out belA;have x1:=(hal.cell (p:=⟨b,off+q*2,none⟩) hbl).trans hx1;have x2:=(hal.cell (p:=⟨b,off+q*2+1,none⟩) hbl).trans hx2;have l1:b<(wr.alloc (.cells #[.int .i64 0,.int .i64 0] 69)).heap.size:=Nat.lt_of_lt_of_le hbl hal.size;have H13:=zh (fun W=>Im d1 d2 hw0 hw1 W);clear hq hx1 hx2 hal hn0 hw0 hw1;go_wp2_with fail
    clear x1 x2 l1 hrem hrw Om hnp;obtain ⟨wv0,EW,hz,X9⟩:=al1 wr #[.int .i64 0,.int .i64 0] 69;rw [EW];obtain ⟨g9,eg⟩:∃ y,wr.heap.size=y:=⟨_,rfl⟩;have hg9:wr.heap.size≤g9:=by omega
    rw [eg] at X9 ⊢;have HS:Hid (Below wr.heap.size wr wv0):=zh hz;clear EW hz eg;refine (H13.out _).mono ?_;rintro e w0 ⟨⟨lo4,hi4,rfl,g1,g2,g3⟩,h⟩;replace HS:=zh (Bt HS.out h);replace X9:=X9.bl h;have LW:=zh (fun W (h:qP.Pow W)=>low_at (lo:=lo4) (hi:=hi4) zo g2 zo W h);obtain ⟨s,hs⟩:∃ s,(Fr.of (un lo4)).n=s:=⟨_,rfl⟩;obtain ⟨t,ht⟩:∃ s,(Fr.of (un lo4)).d=s:=⟨_,rfl⟩;rw [hs,ht] at LW;have HST:Hid (lowF (lo4,hi4)=⟨s,t⟩):=zh (by unfold lowF;simp only;rw [← hs,← ht]);have HG0:Hid (Gd (lo4,hi4)):=zh ⟨by show _≤lo4;omega,g2,by show hi4≤_;omega⟩;clear hs ht h g1 g2 g3 H13;have c9:=X9.out.cell;have f9:=X9.out.free;go_wp2_with fail
    clear c9 f9;obtain ⟨wv,EW⟩:∃ y,(w0.setCell ⟨g9,0,none⟩ (.int .i64 lo4)).setCell ⟨g9,1,none⟩ (.int .i64 hi4)=y:=⟨_,rfl⟩;have tt:=(X9.out.set 0 (.int .i64 lo4)).set 1 (.int .i64 hi4);rw [EW] at tt;replace X9:Hid (ah wv g9 #[.int .i64 lo4,.int .i64 hi4] 69):=zh tt;clear tt;have tt:=(HS.out.setCell (p:=⟨g9,0,none⟩) hg9 (.int .i64 lo4)).setCell (p:=⟨g9,1,none⟩) hg9 (.int .i64 hi4);rw [EW] at tt;replace HS:=zh tt;clear tt hg9;rw [EW];clear EW;refine (LW.out _ (HP.out.later (Bt HB.out HS.out))).mono ?_;rintro e w1 ⟨rfl,h⟩;replace HS:=zh (Bt HS.out h);replace X9:=X9.bl h;clear h LW;go_wp2_with fail
    obtain ⟨wu,EW,hz,X10⟩:=al1 w1 #[.string s,.string t] 59;rw [EW];obtain ⟨g10,eg⟩:∃ y,w1.heap.size=y:=⟨_,rfl⟩;rw [eg] at X10 ⊢;replace HS:=zh (Bt HS.out hz);replace X9:=X9.bl hz;clear EW hz eg;have Y6:Hid (dQ wu wz.heap.size 59 2 RFr u6 (L.map lowF)):=zh (O6.out.later HS.out (RFr.stay _));have Y7:Hid (dQ wu wz.heap.size 69 2 RBd u7 L):=zh (O7.out.later HS.out (RBd.stay _));have hYB:Hid (Below wz.heap.size wz wu):=zh (Bt HB.out HS.out);clear O6 O7 HB HS;refine wp_ends4 (fun a x y v5 v6=>(((((((((a.put (some 47) u6).put (some 48) (.agg #[.string s,.string t])).put (some 49) x).put (some 50) v5).put (some 51) u7).put (some 52) (.agg #[.int .i64 lo4,.int .i64 hi4])).put (some 53) y).put (some 54) v6).put (some 6) v5).put (some 7) v6) (fun v5 v6 W=>dQ W wz.heap.size 59 2 RFr v5 (L.map lowF++[⟨s,t⟩])∧dQ W wz.heap.size 69 2 RBd v6 (L++[(lo4,hi4)])∧Below wz.heap.size wz W) ?rg ?tl
    case rg =>
     have c9:=X9.out.cell;have l9:=X9.out.lt;have c10:=X10.out.cell;have l10:=X10.out.lt
     refine reg_in zk (reg_two 6 2 zd (reg_walk [(.pure,0),(.read,1),(.pure,4),(.read,5),(.ext,6),(.ext,2),(.fin,3),(.fin,7),(.fin,8),(.fin,9)] zk zR (fun _ _ _ _ _ h=>by cases h.1) (walk_addE _ _ _ _ _ _ _ (Wk.out ?oA))) (reg_two 6 3 zd (reg_walk [(.pure,0),(.read,1),(.pure,4),(.read,5),(.ext,2),(.ext,6),(.fin,3),(.fin,7),(.fin,8),(.fin,9)] zk zR (fun _ _ _ _ _ h=>by cases h.1) (walk_addE _ _ _ _ _ _ _ (walk_addE _ _ _ _ _ _ _ (Wk.out ?oB)))) (reg_two 5 3 zd (reg_walk [(.pure,0),(.read,1),(.pure,4),(.read,5),(.ext,2),(.fin,3),(.fin,6),(.fin,7),(.fin,8),(.fin,9)] zk zR (fun _ _ _ _ _ h=>by cases h.1) (walk_addE _ _ _ _ _ _ _ (walk_addE _ _ _ _ _ _ _ (walk_addE _ _ _ _ _ _ _ (Wk.out ?oC))))) (reg_walk [(.pure,0),(.read,1),(.pure,4),(.ext,2),(.fin,3),(.fin,5),(.fin,6),(.fin,7),(.fin,8),(.fin,9)] zk zR (fun _ _ _ _ _ h=>by cases h.1) (walk_addE _ _ _ _ _ _ _ (walk_addE _ _ _ _ _ _ _ (walk_addE _ _ _ _ _ _ _ (Wk.out ?oD))))))))
     case oA =>
      (iterate 4 (first|(apply wk_skip;(rfl);(rfl);(rfl);(intro J hJ;go_simp;(with_reducible refine hJ _ ?_);clear hJ J))|(apply wk_len;(rfl);(rfl);(rfl);(rfl);(exact zk);(intro J hJ;go_simp;(with_reducible refine hJ _ ?_);clear hJ J))|(apply wk_pure;(rfl);(rfl);(intro J hJ;go_simp;(with_reducible refine hJ _ ?_);clear hJ J))|(apply wk_load;(rfl);(rfl);(rfl);(rfl);(intro J hJ;go_simp;(with_reducible refine hJ _ ?_);clear hJ J;try go_simp))))
      refine wk_ext rfl rfl (fun wa6 hba J hJ=>?_);go_simp;refine hJ _ _ belA ?_;clear hJ J;have hb6:=ah.new wa6 #[.int .i64 lo4,.int .i64 hi4] 69;have z6:Below wu.heap.size wu (wa6.alloc (.cells #[.int .i64 lo4,.int .i64 hi4] 69)):=belA;clear hba;refine wk_ext rfl rfl (fun wa2 hba J hJ=>?_);go_simp;refine hJ _ _ belA ?_;clear hJ J;have hb2:=ah.new wa2 #[.string s,.string t] 59;have z2:Below (wa6.alloc (.cells #[.int .i64 lo4,.int .i64 hi4] 69)).heap.size (wa6.alloc (.cells #[.int .i64 lo4,.int .i64 hi4] 69)) (wa2.alloc (.cells #[.string s,.string t] 59)):=belA;clear hba;replace hb6:=hb6.later z2;have z:=Bt z6 z2;refine wk_fin [_,_,_,_] rfl (fun wf hbf=>?_);simp only [List.getElem_toArray,List.getElem_cons_succ,List.getElem_cons_zero];have zf:=Bt z hbf;replace hb6:=hb6.later hbf;replace hb2:=hb2.later hbf;have Z6:=Y6.out.later zf (RFr.stay _);have Z7:=Y7.out.later zf (RBd.stay _)
      have hZB:=Bt hYB.out zf;clear zf hbf c9 l9 c10 l10;refine wpList_grow (w0:=wz) rfl (.tmp 47) (.tmp 49) 29 rfl 59 i0 (.agg #[.string ⟨#[]⟩,.string ⟨#[]⟩]) 2 32 Tryz.underlying29 hi hz0 hz1 hz2 rfl zd RFr _ (L.map lowF) rfl Z6 hZB _ [.string s,.string t] ⟨s,t⟩ rfl hb2 rfl (fun u hu=>by simp only [List.mem_cons,List.not_mem_nil,or_false] at hu;rcases hu with rfl|rfl<;>rfl) rfl (RFr.stay _) (by rw [List.length_map,HLN.out];omega) zo ?_;intro v5 wg e1 e2 e3;replace Z7:=Z7.kept e3 zd (RBd.stay _);replace hb6:=e3 _ _ _ zd hb6;refine wpList_grow (w0:=wz) rfl (.tmp 51) (.tmp 53) 63 rfl 69 j0 (.agg #[.int .i64 0,.int .i64 0]) 2 16 Tryz.underlying63 hj hy0 hy1 hy2 rfl zd RBd _ L rfl Z7 e2 _ [.int .i64 lo4,.int .i64 hi4] (lo4,hi4) rfl hb6 rfl (fun u hu=>by simp only [List.mem_cons,List.not_mem_nil,or_false] at hu;rcases hu with rfl|rfl<;>rfl) rfl (RBd.stay _) (by rw [HLN.out];omega) zo ?_
      intro v6 wi f1 f2 f3;have Z6':=e1.kept f3 zd (RFr.stay _);clear e1 e3 f3;go_wp2_with fail
      exact ⟨_,_,v5,v6,⟨rfl,rfl,rfl,rfl,rfl,rfl⟩,Z6',f1⟩
     case oB =>
      (iterate 4 (first|(apply wk_skip;(rfl);(rfl);(rfl);(intro J hJ;go_simp;(with_reducible refine hJ _ ?_);clear hJ J))|(apply wk_len;(rfl);(rfl);(rfl);(rfl);(exact zk);(intro J hJ;go_simp;(with_reducible refine hJ _ ?_);clear hJ J))|(apply wk_pure;(rfl);(rfl);(intro J hJ;go_simp;(with_reducible refine hJ _ ?_);clear hJ J))|(apply wk_load;(rfl);(rfl);(rfl);(rfl);(intro J hJ;go_simp;(with_reducible refine hJ _ ?_);clear hJ J;try go_simp))))
      refine wk_ext rfl rfl (fun wa2 hba J hJ=>?_);go_simp;refine hJ _ _ belA ?_;clear hJ J;have hb2:=ah.new wa2 #[.string s,.string t] 59;have z2:Below wu.heap.size wu (wa2.alloc (.cells #[.string s,.string t] 59)):=belA;clear hba;refine wk_ext rfl rfl (fun wa6 hba J hJ=>?_);go_simp;refine hJ _ _ belA ?_;clear hJ J;have hb6:=ah.new wa6 #[.int .i64 lo4,.int .i64 hi4] 69;have z6:Below (wa2.alloc (.cells #[.string s,.string t] 59)).heap.size (wa2.alloc (.cells #[.string s,.string t] 59)) (wa6.alloc (.cells #[.int .i64 lo4,.int .i64 hi4] 69)):=belA;clear hba;replace hb2:=hb2.later z6;have z:=Bt z2 z6;refine wk_fin [_,_,_,_] rfl (fun wf hbf=>?_);simp only [List.getElem_toArray,List.getElem_cons_succ,List.getElem_cons_zero];have zf:=Bt z hbf;replace hb6:=hb6.later hbf;replace hb2:=hb2.later hbf;have Z6:=Y6.out.later zf (RFr.stay _);have Z7:=Y7.out.later zf (RBd.stay _)
      have hZB:=Bt hYB.out zf;clear zf hbf c9 l9 c10 l10;refine wpList_grow (w0:=wz) rfl (.tmp 47) (.tmp 49) 29 rfl 59 i0 (.agg #[.string ⟨#[]⟩,.string ⟨#[]⟩]) 2 32 Tryz.underlying29 hi hz0 hz1 hz2 rfl zd RFr _ (L.map lowF) rfl Z6 hZB _ [.string s,.string t] ⟨s,t⟩ rfl hb2 rfl (fun u hu=>by simp only [List.mem_cons,List.not_mem_nil,or_false] at hu;rcases hu with rfl|rfl<;>rfl) rfl (RFr.stay _) (by rw [List.length_map,HLN.out];omega) zo ?_;intro v5 wg e1 e2 e3;replace Z7:=Z7.kept e3 zd (RBd.stay _);replace hb6:=e3 _ _ _ zd hb6;refine wpList_grow (w0:=wz) rfl (.tmp 51) (.tmp 53) 63 rfl 69 j0 (.agg #[.int .i64 0,.int .i64 0]) 2 16 Tryz.underlying63 hj hy0 hy1 hy2 rfl zd RBd _ L rfl Z7 e2 _ [.int .i64 lo4,.int .i64 hi4] (lo4,hi4) rfl hb6 rfl (fun u hu=>by simp only [List.mem_cons,List.not_mem_nil,or_false] at hu;rcases hu with rfl|rfl<;>rfl) rfl (RBd.stay _) (by rw [HLN.out];omega) zo ?_
      intro v6 wi f1 f2 f3;have Z6':=e1.kept f3 zd (RFr.stay _);clear e1 e3 f3;go_wp2_with fail
      exact ⟨_,_,v5,v6,⟨rfl,rfl,rfl,rfl,rfl,rfl⟩,Z6',f1⟩
     case oC =>
      (iterate 4 (first|(apply wk_skip;(rfl);(rfl);(rfl);(intro J hJ;go_simp;(with_reducible refine hJ _ ?_);clear hJ J))|(apply wk_len;(rfl);(rfl);(rfl);(rfl);(exact zk);(intro J hJ;go_simp;(with_reducible refine hJ _ ?_);clear hJ J))|(apply wk_pure;(rfl);(rfl);(intro J hJ;go_simp;(with_reducible refine hJ _ ?_);clear hJ J))|(apply wk_load;(rfl);(rfl);(rfl);(rfl);(intro J hJ;go_simp;(with_reducible refine hJ _ ?_);clear hJ J;try go_simp))))
      refine wk_ext rfl rfl (fun wa2 hba J hJ=>?_);go_simp;refine hJ _ _ belA ?_;clear hJ J;have hb2:=ah.new wa2 #[.string s,.string t] 59;have z:Below wu.heap.size wu (wa2.alloc (.cells #[.string s,.string t] 59)):=belA;clear hba;refine wk_fin [_,_,_,_,_] rfl (fun wf hbf=>?_);simp only [List.getElem_toArray,List.getElem_cons_succ,List.getElem_cons_zero];have zf:=Bt z hbf;replace hb2:=hb2.later hbf;have Z6:=Y6.out.later zf (RFr.stay _);have Z7:=Y7.out.later zf (RBd.stay _);have hZB:=Bt hYB.out zf;clear zf hbf c9 l9 c10 l10
      refine wpList_grow (w0:=wz) rfl (.tmp 47) (.tmp 49) 29 rfl 59 i0 (.agg #[.string ⟨#[]⟩,.string ⟨#[]⟩]) 2 32 Tryz.underlying29 hi hz0 hz1 hz2 rfl zd RFr _ (L.map lowF) rfl Z6 hZB _ [.string s,.string t] ⟨s,t⟩ rfl hb2 rfl (fun u hu=>by simp only [List.mem_cons,List.not_mem_nil,or_false] at hu;rcases hu with rfl|rfl<;>rfl) rfl (RFr.stay _) (by rw [List.length_map,HLN.out];omega) zo ?_;intro v5 wg e1 e2 e3;replace Z7:=Z7.kept e3 zd (RBd.stay _);have hal:Below wg.heap.size wg (wg.alloc (.cells #[.int .i64 lo4,.int .i64 hi4] 69)):=belA;replace e1:=e1.later hal (RFr.stay _);replace Z7:=Z7.later hal (RBd.stay _);replace e2:=Bt e2 hal
      go_wp2_with (at_builtin;refine wpList_grow (w0:=wz) rfl (.tmp 51) (.tmp 53) 63 rfl 69 j0 (.agg #[.int .i64 0,.int .i64 0]) 2 16 Tryz.underlying63 hj hy0 hy1 hy2 rfl zd RBd _ L rfl Z7 e2 _ [.int .i64 lo4,.int .i64 hi4] (lo4,hi4) rfl (ah.new _ _ _) rfl (fun u hu=>by simp only [List.mem_cons,List.not_mem_nil,or_false] at hu;rcases hu with rfl|rfl<;>rfl) rfl (RBd.stay _) (by rw [HLN.out];omega) zo ?_)
      intro v6 wi f1 f2 f3;have Z6':=e1.kept f3 zd (RFr.stay _);clear e1 e3 f3;go_wp2_with fail
      exact ⟨_,_,v5,v6,⟨rfl,rfl,rfl,rfl,rfl,rfl⟩,Z6',f1⟩
     case oD =>
      (iterate 3 (first|(apply wk_skip;(rfl);(rfl);(rfl);(intro J hJ;go_simp;(with_reducible refine hJ _ ?_);clear hJ J))|(apply wk_len;(rfl);(rfl);(rfl);(rfl);(exact zk);(intro J hJ;go_simp;(with_reducible refine hJ _ ?_);clear hJ J))|(apply wk_pure;(rfl);(rfl);(intro J hJ;go_simp;(with_reducible refine hJ _ ?_);clear hJ J))|(apply wk_load;(rfl);(rfl);(rfl);(rfl);(intro J hJ;go_simp;(with_reducible refine hJ _ ?_);clear hJ J;try go_simp))))
      refine wk_ext rfl rfl (fun wa2 hba J hJ=>?_);go_simp;refine hJ _ _ belA ?_;clear hJ J;have hb2:=ah.new wa2 #[.string s,.string t] 59;have z:Below wu.heap.size wu (wa2.alloc (.cells #[.string s,.string t] 59)):=belA;clear hba;refine wk_fin [_,_,_,_,_,_] rfl (fun wf hbf=>?_);simp only [List.getElem_toArray,List.getElem_cons_succ,List.getElem_cons_zero];have zf:=Bt z hbf;replace hb2:=hb2.later hbf;have x9:=X9.out.later zf;have Z6:=Y6.out.later zf (RFr.stay _);have Z7:=Y7.out.later zf (RBd.stay _);have hZB:=Bt hYB.out zf;clear zf hbf c9 l9 c10 l10
      refine wpList_grow (w0:=wz) rfl (.tmp 47) (.tmp 49) 29 rfl 59 i0 (.agg #[.string ⟨#[]⟩,.string ⟨#[]⟩]) 2 32 Tryz.underlying29 hi hz0 hz1 hz2 rfl zd RFr _ (L.map lowF) rfl Z6 hZB _ [.string s,.string t] ⟨s,t⟩ rfl hb2 rfl (fun u hu=>by simp only [List.mem_cons,List.not_mem_nil,or_false] at hu;rcases hu with rfl|rfl<;>rfl) rfl (RFr.stay _) (by rw [List.length_map,HLN.out];omega) zo ?_;intro v5 wg e1 e2 e3;replace Z7:=Z7.kept e3 zd (RBd.stay _);replace x9:=e3 _ _ _ zd x9;have c9:=x9.cell;have l9:=x9.lt;have hal:Below wg.heap.size wg (wg.alloc (.cells #[.int .i64 lo4,.int .i64 hi4] 69)):=belA;replace e1:=e1.later hal (RFr.stay _);replace Z7:=Z7.later hal (RBd.stay _);replace e2:=Bt e2 hal
      go_wp2_with (at_builtin;refine wpList_grow (w0:=wz) rfl (.tmp 51) (.tmp 53) 63 rfl 69 j0 (.agg #[.int .i64 0,.int .i64 0]) 2 16 Tryz.underlying63 hj hy0 hy1 hy2 rfl zd RBd _ L rfl Z7 e2 _ [.int .i64 lo4,.int .i64 hi4] (lo4,hi4) rfl (ah.new _ _ _) rfl (fun u hu=>by simp only [List.mem_cons,List.not_mem_nil,or_false] at hu;rcases hu with rfl|rfl<;>rfl) rfl (RBd.stay _) (by rw [HLN.out];omega) zo ?_)
      intro v6 wi f1 f2 f3;have Z6':=e1.kept f3 zd (RFr.stay _);clear e1 e3 f3;go_wp2_with fail
      exact ⟨_,_,v5,v6,⟨rfl,rfl,rfl,rfl,rfl,rfl⟩,Z6',f1⟩
    case tl =>
     intro x y v5 v6 wt ⟨h1,h2,h3⟩;have HL2:Hid ((L++[(lo4,hi4)]).length=i+1):=zh (by rw [List.length_append,HLN.out];rfl)
     have HG2:Hid (∀ b∈L++[(lo4,hi4)],Gd b):=zh (fun b hb=>by
      rcases List.mem_append.1 hb with h|h
      ·exact HGD.out b h
      ·rw [List.mem_singleton.1 h];exact HG0.out)
     have O6:Hid (dQ wt wz.heap.size 59 2 RFr v5 ((L++[(lo4,hi4)]).map lowF)):=zh (by rw [List.map_append,List.map_singleton,HST.out];exact h1);have O7:=zh h2;have HB:=zh h3;clear h1 h2 h3;go_wp2_with fail
     go_roundw
     case rel=>exact ⟨i+1,_,by omega,by go_num,HL2,HG2,O6,O7,HB⟩
     case measure=>simp [intOf]<;>omega
  ·obtain rfl:i=k:=by omega
   obtain ⟨V,WWl,hV,hW,hE,hLE,hBE,hall⟩:=LAW.out L HLN.out HGD.out;have FL:Hid (gH wr 59 u6 (L.map lowF)):=zh O6.out.YG.PW;have FBD:Hid (vC wr 69 u7 L):=zh (bds_slV O7.out.YG);obtain ⟨p6,q6,rfl⟩:=O6.out.at (n:=i) (by rw [List.length_map];exact HLN.out);obtain ⟨p7,q7,rfl⟩:=O7.out.at HLN.out
   have APc:Hid (∀ v v' W',aP W' v M→gH W' 59 v' (L.map lowF)→qP.Pow W'→Calls Tryz.prog 29 #[v,v'] W' (AnyL W' n 0 (V.map Fr.of))):=zh fun v v' W' h h' hp=>by
    have:=App_at v v' M (L.map lowF) _ W' h h' hp;rw [hE,hLE] at this;exact this.mono fun _ _ q=>anyL_of q (by show (V.map Fr.of).length=n;rw [List.length_map];exact hV)
   have BAc:Hid (∀ v v' W',aP W' v M→vC W' 69 v' L→qP.Pow W'→whole.Er W'→Calls Tryz.prog 41 #[v,v'] W' (fun e w'=>∃ a c,e= .returned (.tuple #[.slice a n c,.int .i64 0])∧Below W'.heap.size W' w'∧vC w' 69 (.slice a n c) WWl)):=zh fun v v' W' h h' hp hq=>by
    have:=Bands_ok v v' M L W' h h' (by have:=HLN.out;omega) hp hq;rw [hBE] at this;refine this.mono ?_;rintro e w' ⟨vv,rfl,h1,h2⟩;obtain ⟨aa,cc,e, -⟩:=id h2;rw [hW] at e;subst e;exact ⟨aa,cc,rfl,h1,h2⟩
   have HAS:Hid (∀ j,j<n→∀ W',qP.Pow W'→Calls Tryz.prog 47 #[.agg #[.int .i64 (WWl.getD j (0,0)).1,.int .i64 (WWl.getD j (0,0)).2],.agg #[.string (Fr.of (V.getD j 0)).n,.string (Fr.of (V.getD j 0)).d]] W' (fun e w'=>e= .returned (.tuple #[.bool true,.int .i64 0])∧Below W'.heap.size W' w')):=zh fun j hj W' hp=>by
    have k1:j<V.length:=by omega
    have k2:j<WWl.length:=by omega
    obtain ⟨o1,z,o2,o3⟩:=hall j k1 k2;rw [show WWl.getD j (0,0)=WWl[j] by rw [List.getD_eq_getElem?_getD,List.getElem?_eq_getElem k2];rfl,show V.getD j 0=V[j] by rw [List.getD_eq_getElem?_getD,List.getElem?_eq_getElem k1];rfl];exact has_at o3 o2 o1 W' hp
   have HVW:=zh (And.intro hV hW);replace FM:=zh (FM.out.later HB.out);replace HP:=zh (HP.out.later HB.out);replace HE:=zh (HE.out.later HB.out);replace HB:=zh (Bt HBW.out HB.out);clear LAW O6 O7 HGD hE hLE hBE hall hV hW HBW HD HDN hge hik;go_wp2_with fail
   refine (APc.out _ _ _ FM.out FL.out HP.out).mono ?_;rintro e u61 ⟨xa1,xc1,rfl,h,hm⟩;replace FM:=zh (FM.out.later h);replace HP:=zh (HP.out.later h);replace HE:=zh (HE.out.later h);replace FL:=zh (FL.out.later h);replace FBD:=zh (FBD.out.later h);replace HB:=zh (Bt HB.out h);clear h;have FV:=zh hm;clear hm;go_wp2_with fail
   refine (BAc.out _ _ _ FM.out FBD.out HP.out HE.out).mono ?_;rintro e u62 ⟨xa2,xc2,rfl,h,hm⟩;replace FM:=zh (FM.out.later h);replace HP:=zh (HP.out.later h);replace HE:=zh (HE.out.later h);replace FL:=zh (FL.out.later h);replace FBD:=zh (FBD.out.later h);replace FV:=zh (FV.out.later h);replace HB:=zh (Bt HB.out h);clear h;have FW:=zh hm;clear hm;obtain ⟨wq,EQ⟩:∃ y,y=u62:=⟨_,rfl⟩;rw [← EQ] at HP HB FV FW ⊢;obtain ⟨ay,cy,ee, -, -, hv1⟩:=FV.out.read;simp only [Value.slice.injEq] at ee;obtain ⟨rfl, -, rfl⟩:=ee;obtain ⟨ay,cy,ee, -, -, hv2⟩:=FW.out.read;simp only [Value.slice.injEq] at ee;obtain ⟨rfl, -, rfl⟩:=ee
   have R1:Hid (∀ j,j<n→∃ b off b' off',xa1=some ⟨b,off,none⟩∧b<wq.heap.size∧wq.cell? ⟨b,off+j*2,none⟩=some (.string (Fr.of (V.getD j 0)).n)∧wq.cell? ⟨b,off+j*2+1,none⟩=some (.string (Fr.of (V.getD j 0)).d)∧xa2=some ⟨b',off',none⟩∧b'<wq.heap.size∧wq.cell? ⟨b',off'+j*2,none⟩=some (.int .i64 (WWl.getD j (0,0)).1)∧wq.cell? ⟨b',off'+j*2+1,none⟩=some (.int .i64 (WWl.getD j (0,0)).2)):=zh fun j hj=>by
    have hvw:=HVW.out;have k1:j<V.length:=by omega
    have k2:j<WWl.length:=by omega
    have k3:j<(V.map Fr.of).length:=by rw [List.length_map];exact k1
    obtain ⟨b,off,o1,o2,o3,o4⟩:=hv1 j k3;obtain ⟨b',off',o5,o6,o7,o8⟩:=hv2 j k2;rw [List.getElem_map] at o3 o4;rw [show WWl.getD j (0,0)=WWl[j] by rw [List.getD_eq_getElem?_getD,List.getElem?_eq_getElem k2];rfl,show V.getD j 0=V[j] by rw [List.getD_eq_getElem?_getD,List.getElem?_eq_getElem k1];rfl];exact ⟨b,off,b',off',o1,o2,o3,o4,o5,o6,o7,o8⟩
   clear EQ hv1 hv2 FM FL FBD FV FW APc BAc HE;go_wp2_with fail
   go_loopw [90] (fun iv wr=>∃ j:Nat,iv= .int .i64 (j:Int)∧j≤n∧Hid (Below wq.heap.size wq wr)) (fun iv _=>n - (intOf iv).toNat)
   case atStart=>exact ⟨0,rfl,by omega,zh (Below.refl _ _)⟩
   case round =>
    obtain ⟨j,rfl,hj2,HC⟩:=hrel
    rcases Nat.lt_or_ge j n with hjlt|aQ2
    ·obtain ⟨b,off,b',off',rfl,hb1,o3,o4,rfl,hb2,o7,o8⟩:=R1.out j hjlt;have HH:=zh (HAS.out j hjlt);generalize (Fr.of (V.getD j 0)).n=xs at *;generalize (Fr.of (V.getD j 0)).d=xt at *;generalize (WWl.getD j (0,0)).1=xl at *;generalize (WWl.getD j (0,0)).2=xh at *;have x1:=(HC.out.cell (p:=⟨b,off+j*2,none⟩) hb1).trans o3;have x2:=(HC.out.cell (p:=⟨b,off+j*2+1,none⟩) hb1).trans o4;have x3:=(HC.out.cell (p:=⟨b',off'+j*2,none⟩) hb2).trans o7;have x4:=(HC.out.cell (p:=⟨b',off'+j*2+1,none⟩) hb2).trans o8;have l1:b<wr.heap.size:=Nat.lt_of_lt_of_le hb1 HC.out.size;have l2:b'<wr.heap.size:=Nat.lt_of_lt_of_le hb2 HC.out.size;have hjj:(j:Int)<(n:Int):=by omega
     clear o3 o4 o7 o8;go_wp2_with fail
     refine aD [(.pure,0),(.pure,1),(.pure,2),(.read,3),(.pure,4),(.pure,5),(.pure,6),(.read,7),(.ext,8),(.pure,9),(.pure,10),(.pure,11),(.fin,12),(.fin,13)] zk zk zR zP ?_;refine Wk.out ?_;repeat (first|(apply wk_skip;(rfl);(rfl);(rfl);(intro J hJ;go_simp;(with_reducible refine hJ _ ?_);clear hJ J))|(apply wk_len;(rfl);(rfl);(rfl);(rfl);(exact zk);(intro J hJ;go_simp;(with_reducible refine hJ _ ?_);clear hJ J))|(apply wk_pure;(rfl);(rfl);(intro J hJ;go_simp;(with_reducible refine hJ _ ?_);clear hJ J))|(apply wk_load;(rfl);(rfl);(rfl);(rfl);(intro J hJ;go_simp;(with_reducible refine hJ _ ?_);clear hJ J;try go_simp)))
     clear x1 x2 x3 x4 l1 l2;refine wk_ext rfl rfl (fun we hbe J hJ=>?_);go_simp;have hx:Below wr.heap.size wr we:=belA;refine (HH.out _ (HP.out.later (Bt HC.out hx))).mono ?_;rintro e wy ⟨rfl,h⟩;have hy:=Bt hx h;refine hJ _ _ h ?_;clear hJ J hbe hx h
     repeat (first|(apply wk_skip;(rfl);(rfl);(rfl);(intro J hJ;go_simp;(with_reducible refine hJ _ ?_);clear hJ J))|(apply wk_len;(rfl);(rfl);(rfl);(rfl);(exact zk);(intro J hJ;go_simp;(with_reducible refine hJ _ ?_);clear hJ J))|(apply wk_pure;(rfl);(rfl);(intro J hJ;go_simp;(with_reducible refine hJ _ ?_);clear hJ J))|(apply wk_load;(rfl);(rfl);(rfl);(rfl);(intro J hJ;go_simp;(with_reducible refine hJ _ ?_);clear hJ J;try go_simp)))
     refine wk_fin [_,_] rfl (fun wh hbh=>?_);have hy2:Below wr.heap.size wr wh:=Bt hy belA;have EJ:=zh (Bt HC.out hy2);go_wp2_with fail
     go_roundw
     case rel=>exact ⟨j+1,by go_num,by omega,EJ⟩
     case measure=>simp [intOf]<;>omega
    ·obtain rfl:j=n:=by omega
     go_wp2_with fail
     go_ret
     exact ⟨rfl,Bt HB.out HC.out⟩
end Go.Proofs.verdigrislaw05
namespace Go.Proofs.verdigrislaw05
open Go Go.RowKit Go.SW Go.Num Go.Mem Go.Proofs Go.Dec Go.dF Go.Proofs.matrix Go.Proofs.aI Go.Proofs.verdigrisref03 Go.Proofs.fM
theorem app_mkp {r k:Nat} {F:Nat→Nat→Rat} {z:Nat→Rat} (hr:1≤r∧r≤4) (hk:1≤k∧k≤4) (hF:∀ i,i<r→∀ j,j<k→iU (F i j)=true) (hz:∀ i,i<k→iU (z i)=true) (hs:∀ i,i<r→iU (smR k fun l=>F i l*z l)=true) :
  Yg (mkR r k F).fr (((List.range k).map z).map Fr.of)=0∧ay8 (mkR r k F).fr (((List.range k).map z).map Fr.of)=((List.range r).map fun i=>smR k fun l=>F i l*z l).map Fr.of:=by
 have o:=ar8 hr hk hF
 have hq:∀ q∈(List.range k).map z,iU q=true:=fun q hq=>by
  obtain ⟨i,hi,rfl⟩:=List.mem_map.1 hq;exact hz i (List.mem_range.1 hi)
 have e1:(((List.range k).map z).map Fr.of).map qF=(List.range k).map z:=by
  rw [List.map_map]
  conv=>rhs;rw [← List.map_id ((List.range k).map z)]
  refine List.map_congr_left fun q h=>?_
  show qF (Fr.of q)=q
  unfold qF;rw [QO (hq q h)];rfl
 have e2:Yf (mkR r k F).fr (((List.range k).map z).map Fr.of)=(List.range r).map fun i=>smR k fun l=>F i l*z l:=by
  unfold Yf;rw [rmQ_fr o,e1];exact app_mk hk F z
 unfold Yg ay8;rw [e2,if_pos (okM_RM o),if_pos (LX hq),head_RM o,if_pos zi,if_pos]
 ·exact ⟨rfl,rfl⟩
 ·rw [List.all_eq_true];intro q hq;obtain ⟨i,hi,rfl⟩:=List.mem_map.1 hq;exact hs i (List.mem_range.1 hi)
theorem row_in {k:Nat} {g:Nat→Rat} {L:List (Int × Int)} (hk:1≤k∧k≤4) (hg:∀ j,Sm (g j)) (hL:L.length=k) (hG:∀ b∈L,Gd b) :
  ∃ b,nV (((List.range k).map g).map Fr.of) L=(b,0)∧In b (smR k fun l=>g l*un (L.getD l (0,0)).1) (19980000000000000*(((k - 1:Nat):Int)+1)):=by
 have hs:=in_sum (f:=fun i=>wJ ((((List.range k).map g).map Fr.of).getD i Fr.no) (L.getD i (0,0))) (g:=fun l=>g l*un (L.getD l (0,0)).1) (k - 1) zo (fun i hi=>by
  have k1:i<k:=by omega
  have k2:i<L.length:=by omega
  have e1:(((List.range k).map g).map Fr.of).getD i Fr.no=Fr.of (g i):=by simp [k1]
  have e2:L.getD i (0,0)=L[i]:=by simp [k2]
  obtain ⟨h1,h2,h3⟩:=hG L[i] (List.getElem_mem k2);simp only [e1,e2];exact in_term (hg i) h1 h2 h3)
 obtain ⟨b,e,hb⟩:=hs;refine ⟨b,?_,?_⟩
 ·unfold nV;rw [show (((List.range k).map g).map Fr.of).length=k by simp];exact e
 ·rw [show k - 1+1=k by omega,psum_smR hk] at hb;exact hb
theorem holds_law {n k:Nat} (hn:1≤n∧n≤4) (hk:1≤k∧k≤4) {f:Nat→Nat→Rat} (hf:∀ i j,Sm (f i j)) (L:List (Int × Int)) (hL:L.length=k) (hG:∀ b∈L,Gd b) :
  ∃ (V:List Rat) (W:List (Int × Int)),V.length=n∧W.length=n∧Yg (mkR n k f).fr (L.map lowF)=0∧ay8 (mkR n k f).fr (L.map lowF)=V.map Fr.of∧JW (mkR n k f).fr L=(W,0)∧∀ i (h1:i<V.length) (h2:i<W.length),iU V[i]=true∧∃ z,z≤1000000000000000000∧In W[i] V[i] z:=by
 have ex:L.map lowF=((List.range k).map fun l=>un (L.getD l (0,0)).1).map Fr.of:=by
  refine List.ext_getElem (by simp [hL]) fun i h1 h2=>?_;have hi:i<L.length:=by simpa using h1
  simp [lowF,hi]
 have hu:∀ l,l<k→(un (L.getD l (0,0)).1=un (L.getD l (0,0)).1∧Ht 18 (un (L.getD l (0,0)).1)):=fun l hl=>by
  have k2:l<L.length:=by omega
  obtain ⟨h1,h2,h3⟩:=hG L[l] (List.getElem_mem k2);rw [show L.getD l (0,0)=L[l] by simp [k2]];exact ⟨rfl,un_ht zo⟩
 have zB:∀ i,iU (smR k fun l=>f i l*un (L.getD l (0,0)).1)=true:=fun i=>(dot_ht (a:=3) (b:=18) hk (fun l _=>(hf i l).ht) (fun l hl=>(hu l hl).2)).ok zo;obtain ⟨a1,a2⟩:=app_mkp (F:=f) (z:=fun l=>un (L.getD l (0,0)).1) hn hk (fun i _ j _=>(hf i j).1) (fun l hl=>(hu l hl).2.ok zo) (fun i _=>zB i);have o:=ar8 (f:=f) hn hk (fun i _ j _=>(hf i j).1)
 have hrow:∀ r∈(mkR n k f).fr,∃ i,r=((List.range k).map (f i)).map Fr.of:=fun r hr=>by
  obtain ⟨s,hs,rfl⟩:=List.mem_map.1 hr;obtain ⟨i, -, rfl⟩:=List.mem_map.1 hs;exact ⟨i,rfl⟩
 refine ⟨(List.range n).map fun i=>smR k fun l=>f i l*un (L.getD l (0,0)).1,(mkR n k f).fr.map fun r=>(nV r L).1,by simp,by rw [List.length_map,fr_len,mkR_len],by rw [ex];exact a1,by rw [ex];exact a2,?_,fun i h1 h2=>?_⟩
 ·unfold JW;rw [if_pos (okM_RM o),if_pos,head_RM o,if_pos hL,QJ]
  ·intro r hr;obtain ⟨i,rfl⟩:=hrow r hr;obtain ⟨b,e, -⟩:=row_in hk (hf i) hL hG;rw [e]
  ·rw [List.all_eq_true];intro b hb;obtain ⟨h1,h2,h3⟩:=hG b hb;exact bok_yes zo h2 zo
 ·have hi:i<n:=by simpa using h1
  obtain ⟨b,e,hb⟩:=row_in hk (hf i) hL hG;have er:(mkR n k f).fr[i]'(by rw [fr_len,mkR_len];exact hi)=((List.range k).map (f i)).map Fr.of:=by simp [RM.fr,mkR]
  refine ⟨by rw [List.getElem_map,List.getElem_range];exact zB i,19980000000000000*(((k - 1:Nat):Int)+1),by omega,?_⟩;rw [List.getElem_map,List.getElem_map,List.getElem_range,er,e];exact hb
theorem holds_ok (r c:Int) (v vd:Value) (l:List (Int × Int)) (w:World) (hr:0≤r∧r≤255) (hc:0≤c∧c≤255) (ht:qP.Pow w) (he:whole.Er w) (hv:jw w v) (hl:Go.dF.Drs w vd l) :
  Calls Tryz.prog 10 #[.agg #[.int .u8 r,.int .u8 c,v],vd] w (fun e w'=>e= .returned (.bool true)∧Below w.heap.size w w'):=by
 obtain ⟨a2,c2,rfl,g1,g2, -⟩:=id hl;obtain ⟨G,hG⟩:=DrG.of r c hv;obtain ⟨n,hn⟩:∃ n:Nat,1+r%4=(n:Int):=⟨(1+r%4).toNat,by omega⟩;obtain ⟨k,hk⟩:∃ n:Nat,1+c%4=(n:Int):=⟨(1+c%4).toNat,by omega⟩;have n1:1≤n∧n≤4:=by omega
 have k1:1≤k∧k≤4:=by omega
 exact holds_main r c v a2 l.length c2 n k (mkR n k fun i j=>G (4*i+j)).fr l w ht he hv (zh hl) rfl zo n1 k1 (by rw [fr_len,mkR_len])
  (fun h=>by simp [RM.fr,mkR])
  (zh (mat_G (G:=G) hr hc hv n k hn hk _ fun W hW=>sized_G hG hv n k n1.2 k1.2 W hW))
  (zh fun L h1 h2=>holds_law n1 k1 (fun i j=>hG.1 _) L h1 h2)
end Go.Proofs.verdigrislaw05
namespace Go.Proofs.YtfhappbmgghgdaaGreatDoor
open Go Go.ChangeShapes Go.WideShapes Go.RowKit Go.Proofs Go.dF
section
variable {H:Type} {enc:TypeId × Value→H} {P:Program} {W:World} {base:Nat} {sp:Nat→Bool} {held:Bool}
theorem cells_read {a:Addr} {n:Nat} {cs:List Value} (h:W.cells? base a n=some cs):∀ i,i<n→W.cell? (a.add i)=cs[i]? :=by
 unfold World.cells? at h;split at h
 ·exact fun i hi=>mapM_some_get h i i (by simp [hi])
 ·cases h
theorem cell_in {a:Addr} {v:Value} (h:W.cell? a=some v):a.block<W.heap.size:=by
 unfold World.cell? at h
 rcases Nat.lt_or_ge a.block W.heap.size with h1|h1
 ·exact h1
 ·rw [Array.getElem?_eq_none h1] at h;cases h
theorem trod_pairs {T E:TypeId} {k0 k1:IntKind} {f0 f1:Field} {fuel:Nat} {cs:List Value} {x:DataW H × List MemPlace} (uT:P.underlying T=some (.slice E)) (uE:P.underlying E=some (.struct #[f0,f1])) (o0:f0.offset=0) (o1:f1.offset=1)
  (u0:P.underlying f0.type=some (.int k0)) (u1:P.underlying f1.type=some (.int k1)) (c0:P.cellsOf f0.type=1) (c1:P.cellsOf f1.type=1) (cE:P.cellsOf E=2) (h:DataW.trod enc P W base sp held fuel T cs=some x) :
  ∃ (a:Option Addr) (cap:Nat) (l:List (Int × Int)),cs=[.slice a l.length cap]∧l.length≤cap∧cap≤9223372036854775807∧∀ k (_:k<l.length),∃ b off,a=some ⟨b,off,none⟩∧b<W.heap.size ∧
   W.cell? ⟨b,off+k*2,none⟩=some (.int k0 l[k].1)∧W.cell? ⟨b,off+k*2+1,none⟩=some (.int k1 l[k].2)∧(Lit.int k0 l[k].1).wf=true∧(Lit.int k1 l[k].2).wf=true:=by
 rcases DataW.trod_slice uT h with ⟨rfl, -⟩|⟨a,len,cap,elems,rest,n, -, rfl, -, -, h1,h2,h3,h4, -⟩
 ·exact ⟨none,0,[],rfl,Nat.le_refl _,by omega,fun k hk=>by cases hk⟩
 ·unfold maxLen at h2
  have hc:∀ i,i<len→∃ p:Int × Int,W.cell? (a.add (i*2))=some (.int k0 p.1)∧W.cell? ((a.add (i*2)).add 1)=some (.int k1 p.2)∧(Lit.int k0 p.1).wf=true∧(Lit.int k1 p.2).wf=true:=fun i hi=>by
   have e:=h4 i hi;rw [List.getElem?_eq_getElem zo,cE,Option.bind_eq_some_iff] at e;obtain ⟨cs',g1,g2⟩:=e;obtain ⟨y0,y1,m, -, hl,hy0,hy1⟩:=trod_struct2 uE g2;rw [cE] at hl
   obtain ⟨x0,x1,rfl⟩:∃ x0 x1,cs'=[x0,x1]:=by
    match cs',hl with
    | [x0,x1],_=>exact ⟨x0,x1,rfl⟩
   rw [o0,c0] at hy0;rw [o1,c1] at hy1;obtain ⟨z0,e0, -, w0⟩:=DataW.trod_int u0 hy0;obtain ⟨z1,e1, -, w1⟩:=DataW.trod_int u1 hy1;replace e0:[x0]=[Value.int k0 z0]:=e0;replace e1:[x1]=[Value.int k1 z1]:=e1;simp only [List.cons.injEq,and_true] at e0 e1;subst e0 e1;have r:=cells_read g1;have r0:=r 0 zo;have r1:=r 1 zo;rw [show (a.add (i*2)).add 0=a.add (i*2) by simp [Addr.add]] at r0;exact ⟨(z0,z1),r0,r1,w0,w1⟩
  let g:Nat→Int × Int:=fun i=>if h:i<len then (hc i h).choose else (0,0)
  refine ⟨some a,cap,(List.range len).map g,by simp,by simpa using h1,h2,fun k hk=>?_⟩;rw [List.length_map,List.length_range] at hk;have hsp:=(hc k hk).choose_spec;have hg:g k=(hc k hk).choose:=by simp only [g,hk,dif_pos]
  rw [← hg] at hsp;rw [List.getElem_map,List.getElem_range];have hs:a.spot=none:=by simpa [Addr.add] using World.cell?_spot (hc 0 zo).choose_spec.1
  have hl:=cell_in hsp.1;obtain ⟨b,off,spo⟩:=a;simp only at hs;subst hs;simp only [Addr.add_lit] at hsp hl;exact ⟨b,off,rfl,hl,hsp⟩
end
theorem open_drafts {H:Type} {enc:TypeId × Value→H} {W:World} {b0 base:Nat} {sp:Nat→Bool} {held:Bool} {v:Value} {d:DataW H} {p:List MemPlace}
  (hval:Value.okWide Tryz.prog W .any b0 64 v) (h:DataW.Trod enc Tryz.prog W base sp held 64 v d p):∃ l,Drs W v l:=by
 obtain ⟨a0,n0,cap0,rfl⟩:=okWide_slice Tryz.underlying64 hval;obtain ⟨fuel,hf⟩:=h;obtain ⟨a,cap,l,e,h1,h2,h3⟩:=trod_pairs (k0:=.i64) (k1:=.u32) Tryz.underlying64 Tryz.underlying67 rfl rfl Tryz.underlying2 Tryz.underlying65 zk zk zk hf;replace e:[Value.slice a0 n0 cap0]=[.slice a l.length cap]:=e;simp only [List.cons.injEq,and_true] at e;refine ⟨l,a,cap,e,h1,h2,fun k hk=>?_⟩;obtain ⟨b,off,k1,k2,k3,k4, -, k5⟩:=h3 k hk;exact ⟨b,off,k1,k2,k3,k4,u32_wf k5⟩
end Go.Proofs.YtfhappbmgghgdaaGreatDoor
