/- Lemmas for the proof. No condition. -/
import Derived.Test.YtfhappbmgghgdaaGreatDoorWB01
import Derived.Test.YtfhappbmgghgdaaGreatDoorWB04
import Derived.Test.YtfhappbmgghgdaaGreatDoorWB11
import Derived.Test.YtfhappbmgghgdaaGreatDoorWB15
import Derived.Test.YtfhappbmgghgdaaGreatDoorWB16
import Derived.Test.YtfhappbmgghgdaaGreatDoorWB17
set_option linter.unusedVariables false
set_option linter.unusedSimpArgs false
set_option maxRecDepth 100000
set_option maxHeartbeats 16000000
namespace Go.Proofs.aF
open Go Go.RowKit Go.SW Go.Num Go.Mem Go.Proofs Go.Dec Go.cK Go.Proofs.aH Go.Proofs.aC Go.Proofs.matrix
def DrG (w:World) (r c:Int) (v:Value) (G:Nat→Rat):Prop:=(∀ k,Sm (G k))∧∀ k:Nat,k≤1000→∀ W,Below w.heap.size w W →
 Calls Tryz.prog 53 #[.agg #[.int .u8 r,.int .u8 c,v],.int .i64 (k:Int)] W (fun e w'=>e= .returned (Fr.of (G k)).v∧Below W.heap.size W w')
theorem DrG.of {w:World} {v:Value} (r c:Int) (h:jk w v):∃ G,DrG w r c v G:=by
 obtain ⟨g,hg⟩:=Classical.skolem.1 fun k:Nat=>(by
  by_cases hk:k≤1000
  ·obtain ⟨q,hq,h⟩:=J7 r c v k hk w h;exact ⟨q,hq,fun _=>h⟩
  ·exact ⟨0,by unfold Sm;decide+kernel,fun h=>absurd h hk⟩:∃ q:Rat,Sm q∧(k≤1000→∀ W,Below w.heap.size w W→Calls Tryz.prog 53 #[.agg #[.int .u8 r,.int .u8 c,v],.int .i64 (k:Int)] W (fun e w'=>e= .returned (Fr.of q).v∧Below W.heap.size W w')))
 exact ⟨g,fun k=>(hg k).1,fun k hk=>(hg k).2 hk⟩
def Kq (W:World) (n:Nat) (M:RM) (e:Ending) (w':World):Prop:=∃ a c,e= .returned (.slice a n c)∧Below W.heap.size W w'∧aN w' (.slice a n c) M.fr
theorem Dm {w:World} {r c:Int} {v:Value} {G:Nat→Rat} (h:DrG w r c v G) (hv:jk w v) (n m:Nat) (hn:n≤4) (hm:m≤4) (W:World) (hW:Below w.heap.size w W) :
  Calls Tryz.prog 34 #[.agg #[.int .u8 r,.int .u8 c,v],.int .i64 (n:Int),.int .i64 (m:Int)] W (Kq W n (BF n m fun i j=>G (4*i+j))):=by
 refine (Ji r c v n m (fun i j=>Fr.of (G (4*i+j))) W (hv.later hW) hn hm fun i j hi hj W2 h2=>?_).mono ?_
 ·have:=h.2 (4*i+j) zo W2 (Bt hW h2);rw [show (((4*i+j:Nat)):Int)=4*(i:Int)+(j:Int) by omega] at this;exact this
 ·rintro e w' ⟨v',rfl,hb,hM⟩
  have e1:((List.range n).map fun i=>(List.range m).map fun j=>Fr.of (G (4*i+j)))=(BF n m fun i j=>G (4*i+j)).fr:=by
   unfold RM.fr BF;rw [List.map_map];refine List.map_congr_left fun i _=>?_;simp
  rw [e1] at hM;obtain ⟨a,cc,rfl⟩:=aN.sl hM;have e2:(BF n m fun i j=>G (4*i+j)).fr.length=n:=by rw [J6,uJ]
  rw [e2] at hM ⊢;exact ⟨a,cc,rfl,hb,hM⟩
theorem am9 {w:World} {r c:Int} {v:Value} {G:Nat→Rat} (hr:0≤r∧r≤255) (hc:0≤c∧c≤255) (hv:jk w v) (n m:Nat) (hn:1+r%4=(n:Int)) (hm:1+c%4=(m:Int)) (M:RM) (H:∀ W,Below w.heap.size w W→Calls Tryz.prog 34 #[.agg #[.int .u8 r,.int .u8 c,v],.int .i64 (n:Int),.int .i64 (m:Int)] W (Kq W n M)) (W:World) (hW:Below w.heap.size w W) :
  Calls Tryz.prog 32 #[.agg #[.int .u8 r,.int .u8 c,v]] W (Kq W n M):=by
 have SZ:=zh H;have h1:r.tmod 4=r%4:=Int.tmod_eq_emod_of_nonneg hr.1;have h2:c.tmod 4=c%4:=Int.tmod_eq_emod_of_nonneg hc.1;have h3:IntKind.u8.wrap (r%4)=r%4:=by unfold IntKind.wrap;simp [IntKind.bits,IntKind.signed];omega
 have h4:IntKind.u8.wrap (c%4)=c%4:=by unfold IntKind.wrap;simp [IntKind.bits,IntKind.signed];omega
 have h5:IntKind.i64.wrap (r%4)=r%4:=by unfold IntKind.wrap;simp [IntKind.bits,IntKind.signed];omega
 have h6:IntKind.i64.wrap (c%4)=c%4:=by unfold IntKind.wrap;simp [IntKind.bits,IntKind.signed];omega
 have h7:IntKind.i64.wrap (1+r%4)=(n:Int):=by rw [← hn];unfold IntKind.wrap;simp [IntKind.bits,IntKind.signed];omega
 have h8:IntKind.i64.wrap (1+c%4)=(m:Int):=by rw [← hm];unfold IntKind.wrap;simp [IntKind.bits,IntKind.signed];omega
 obtain ⟨a,nd,cap,rfl, -, -⟩:=hv;have HW:=zh hW;clear hW hn hm H;go_enter Tryz.func32,Tryz.ntmps32
 go_wp2_with fail
 refine (SZ.out _ (Bt HW.out ah)).mono ?_;rintro e w2 ⟨pa,ca,rfl,hb2,hm⟩;have HM:=zh hm;have hb3:=Bt (show Below W.heap.size W (W.alloc (.cells #[.int .u8 r,.int .u8 c,.slice a nd cap] 26)) from ah) hb2;clear hm hb2;go_wp2_with fail
 go_ret
 exact ⟨_,_,rfl,hb3,HM.out⟩
end Go.Proofs.aF
namespace Go.Proofs.matrix
open Go Go.Num Go.Proofs Go.cK Go.Proofs.aF
end Go.Proofs.matrix
namespace Go.Proofs.verdigrislaw05
open Go Go.RowKit Go.SW Go.Num Go.Mem Go.Proofs Go.Dec Go.cK Go.Proofs.matrix Go.Proofs.aF
def Yl (w:World) (v:Value) (l:List Fr):Prop:=∃ a cap,v= .slice a l.length cap∧l.length≤cap∧cap≤9223372036854775807∧∀ k (_:k<l.length),∃ b off,a=some ⟨b,off,none⟩∧b<w.heap.size∧w.cell? ⟨b,off+k*2,none⟩=some (.string l[k].n)∧w.cell? ⟨b,off+k*2+1,none⟩=some (.string l[k].d)
theorem Yl.later {w w':World} {v:Value} {l:List Fr} (h:Yl w v l) (hb:Below w.heap.size w w'):Yl w' v l:=by
 obtain ⟨a,cap,h1,h2,h3,h4⟩:=h;refine ⟨a,cap,h1,h2,h3,fun k hk=>?_⟩;obtain ⟨b,off,k1,k2,k3,k4⟩:=h4 k hk;exact ⟨b,off,k1,Nat.lt_of_lt_of_le k2 hb.size,(hb.cell (p:=⟨b,off+k*2,none⟩) k2).trans k3,(hb.cell (p:=⟨b,off+k*2+1,none⟩) k2).trans k4⟩
def TN (w:World) (v:Value) (m:List (List Fr)):Prop:=∃ a cap,v= .slice a m.length cap∧m.length≤cap∧cap≤9223372036854775807∧∀ k (_:k<m.length),∃ b off a' n' c',a=some ⟨b,off,none⟩∧b<w.heap.size∧w.cell? ⟨b,off+k,none⟩=some (.slice a' n' c')∧Yl w (.slice a' n' c') m[k]
theorem TN.later {w w':World} {v:Value} {m:List (List Fr)} (h:TN w v m) (hb:Below w.heap.size w w'):TN w' v m:=by
 obtain ⟨a,cap,h1,h2,h3,h4⟩:=h;refine ⟨a,cap,h1,h2,h3,fun k hk=>?_⟩;obtain ⟨b,off,a',n',c',k1,k2,k3,k4⟩:=h4 k hk;exact ⟨b,off,a',n',c',k1,Nat.lt_of_lt_of_le k2 hb.size,(hb.cell (p:=⟨b,off+k,none⟩) k2).trans k3,k4.later hb⟩
def Ke (s:ByteArray):ByteArray:=s.extract 0 (min s.size 40)
def ab1 (a:Fr):Fr:=⟨Ke a.n,Ke a.d⟩
def ou (l:List Fr):List Fr:=(l.take 5).map ab1
def qA (m:List (List Fr)):List (List Fr):=(m.take 5).map ou
theorem Il (s:ByteArray):(Ke s).size≤40:=by unfold Ke;rw [ByteArray.size_extract];omega
theorem Im (l:List Fr):(ou l).length≤5:=by unfold ou;rw [List.length_map,List.length_take];omega
theorem Kg {l:List Fr}:∀ x∈ou l,x.n.size≤40∧x.d.size≤40:=fun x hx=>by
 obtain ⟨y, -, rfl⟩:=List.mem_map.1 hx;exact ⟨Il _,Il _⟩
def qY (m:List (List Fr)):Prop:=m.length≤5∧∀ r∈m,r.length≤5∧∀ x∈r,x.n.size≤40∧x.d.size≤40
theorem JA (m:List (List Fr)):qY (qA m):=⟨by unfold qA;rw [List.length_map,List.length_take];omega,fun r hr=>by
 obtain ⟨s, -, rfl⟩:=List.mem_map.1 hr;exact ⟨Im s,Kg⟩⟩
theorem tu (n k:Nat) (z:Int) (hz:z=(k:Int)):∃ m:Nat,m=min n k∧(∀ (ts:Array TypeId) (t:TypeId) (W:World),(Builtin.min_ ts t #[.int .i64 (n:Int),.int .i64 z]).run Tryz.prog W= .ok (.int .i64 (m:Int)) W):=by
 subst hz;refine ⟨min n k,rfl,fun ts t W=>?_⟩;rw [run_min_int2]
 rcases Nat.lt_or_ge k n with h|h
 ·have h1:(k:Int)<(n:Int):=by omega
  rw [if_pos h1,Nat.min_eq_right zo]
 ·have h1:¬ (k:Int)<(n:Int):=by omega
  rw [if_neg h1,Nat.min_eq_left h]
theorem Gh (t e:TypeId) (z:Nat) (ht:Tryz.prog.underlying t=some (.slice e)) (hs:∀ W,(sizeOf e).run Tryz.prog W= .ok z W) (a:Option Addr) (n c m:Nat) (hm:m≤c) (W:World) :
  (Instr.sliceAt t (.slice a n c) none (some (.int .i64 (m:Int))) none).run Tryz.prog W= .ok (.slice a m c) W:=by
 have he:Tryz.prog.elem t=e:=by simp [Program.elem,ht]
 rw [run_sliceAt_slice (h:=by rw [he];exact ht),run_slice_h (ht:=by rw [he];exact ht) (h0:=by omega) (h2:=by omega),he,hs];simp only [Result.andThen,sliced,Nat.sub_zero,Int.toNat_natCast];split
 ·rfl
 ·cases a
  ·rfl
  ·rename_i ad;simp [Addr.add]
theorem YW (t:TypeId) (ht:Tryz.prog.underlying t=some .string) (s:ByteArray) (m:Nat) (hm:m≤s.size) (W:World) :
  (Instr.sliceAt t (.string s) none (some (.int .i64 (m:Int))) none).run Tryz.prog W= .ok (.string (s.extract 0 m)) W:=by
 rw [run_sliceAt_string (h:=ht),run_slice_string_h (ht:=ht) (h0:=by omega) (h2:=by omega),Int.toNat_natCast]
theorem Mc (s:ByteArray):∃ m:Nat,(∀ (ts:Array TypeId) (t:TypeId) (W:World),(Builtin.min_ ts t #[.int .i64 (s.size:Int),.int .i64 40]).run Tryz.prog W= .ok (.int .i64 (m:Int)) W)∧∀ W,(Instr.sliceAt 57 (.string s) none (some (.int .i64 (m:Int))) none).run Tryz.prog W= .ok (.string (Ke s)) W:=by
 obtain ⟨m,h1,h2⟩:=tu s.size 40 40 rfl;refine ⟨m,h2,fun W=>?_⟩;rw [YW 57 Tryz.underlying57 s m zo W,h1];rfl
theorem Wo (v:Value) (l:List Fr) (w:World) (h:Yl w v l) :
  Calls Tryz.prog 16 #[v] w (fun e w'=>∃ a c,e= .returned (.slice a (ou l).length c)∧Below w.heap.size w w'∧gX w' 59 (.slice a (ou l).length c) (ou l)):=by
 obtain ⟨i0,hi,hz0,hz1,hz2⟩:=info_parts matrix.tC;obtain ⟨a,cap,rfl,hc1,hc2,hread⟩:=h;obtain ⟨m,hm,hmin⟩:=tu l.length 5 5 rfl;have hlen:(ou l).length=m:=by unfold ou;rw [List.length_map,List.length_take];omega
 have hml:m≤l.length:=by omega
 have hm5:m≤5:=by omega
 have hsl:=Gh 29 59 2 Tryz.underlying29 (fun W=>by kernel_rfl) a l.length cap m zo
 have H:Hid (∀ k (_:k<m),∃ b off,a=some ⟨b,off,none⟩∧b<w.heap.size∧w.cell? ⟨b,off+k*2,none⟩=some (.string (l.getD k Fr.no).n)∧w.cell? ⟨b,off+k*2+1,none⟩=some (.string (l.getD k Fr.no).d)):=zh fun k hk=>by
  have:=hread k zo;rw [show l.getD k Fr.no=l[k]'zo by simp [show k<l.length by omega]];exact this
 have HK:Hid (∀ k,k<m→(ou l).take (k+1)=(ou l).take k++[ab1 (l.getD k Fr.no)]):=zh fun k hk=>by
  have hk2:k<(ou l).length:=by omega
  rw [List.take_succ_eq_append_getElem hk2]
  congr 2
  unfold ou;simp [show k<l.length by omega]
 have HL:=zh hlen;rw [hlen];clear hread hm hml hc1 hlen;generalize l.length=n at *;go_enter Tryz.func16,Tryz.ntmps16
 go_wp2_with fail
 go_loopw [3,12] (fun ov iv wr=>∃ k:Nat,iv= .int .i64 (k:Int)∧k≤m∧Hid (dH wr w.heap.size 59 2 xL ov ((ou l).take k))∧Below w.heap.size w wr) (fun _ iv _=>m - (intOf iv).toNat)
 case atStart=>exact ⟨0,rfl,by omega,zh (dH.nil _ _ _ _ _),Below.refl _ _⟩
 case round =>
  obtain ⟨k,rfl,hk,HG,hb⟩:=hrel
  rcases Nat.lt_or_ge k m with hlt|hge
  ·obtain ⟨b,off,rfl,hbl,hx1,hx2⟩:=H.out k hlt;have hc3:=(hb.cell (p:=⟨b,off+k*2,none⟩) hbl).trans hx1;have hc4:=(hb.cell (p:=⟨b,off+k*2+1,none⟩) hbl).trans hx2;have Ad:b<wr.heap.size:=Nat.lt_of_lt_of_le hbl hb.size;have HS:=zh (HK.out k hlt);obtain ⟨av,cv,rfl⟩:=HG.out.at (n:=k) (by rw [List.length_take,HL.out];omega);clear hx1 hx2;generalize l.getD k Fr.no=lk at *;obtain ⟨s,t⟩:=lk;unfold ab1 at HS;simp only at hc3 hc4 HS;obtain ⟨ms,q1,q2⟩:=Mc s;obtain ⟨mt,q3,q4⟩:=Mc t;generalize Ke s=s' at *;generalize Ke t=t' at *;have HB:=zh hb;clear hb;go_wp2_with fail
   obtain ⟨wy,EW,hz,X8⟩:=oz wr #[.string s,.string t] 59;rw [EW];have hx:=X8.out;have HB2:=zh (Bt HB.out hz);have HG2:=zh (HG.out.later hz (xL.stay _));obtain ⟨by',eb⟩:∃ y,wr.heap.size=y:=⟨_,rfl⟩;rw [eb] at hx ⊢;have cx:=hx.cell;have lx:=hx.lt;clear EW hz X8 HG HB hc3 hc4 Ad hbl eb hx;refine aD [(.pure,0),(.pure,1),(.read,2),(.pure,3),(.read,4),(.pure,5),(.pure,6),(.pure,7),(.pure,8),(.read,9),(.pure,10),(.read,11),(.pure,12),(.pure,13),(.pure,14),(.pure,15),(.ext,16),(.fin,17),(.fin,18)] zk zk zR zP ?_;refine Wk.out ?_;(iterate 16 refine zU ?_);refine bW rfl rfl (fun wc hbc J hJ=>?_);go_simp;have z2:Below wy.heap.size wy wc:=ah;refine hJ _ _ ah ?_;clear hJ J;have hbx:=au.new wc #[.string s',.string t'] 59;have z4:Below wc.heap.size wc (wc.alloc (.cells #[.string s',.string t'] 59)):=ah;refine mJ [_,_] rfl (fun wf hbf=>?_);have z5:=Bt z4 hbf
   have z6:=Bt z2 z5;refine eZ (w0:=w) rfl (.tmp 16) (.tmp 32) 29 rfl 59 i0 (.agg #[.string ⟨#[]⟩,.string ⟨#[]⟩]) 2 32 Tryz.underlying29 hi hz0 hz1 hz2 rfl zd xL _ ((ou l).take k) rfl (HG2.out.later z6 (xL.stay _)) (Bt HB2.out z6) _ [.string s',.string t'] ⟨s',t'⟩ rfl (hbx.later hbf) rfl (fun u hu=>by simp only [List.mem_cons,List.not_mem_nil,or_false] at hu;rcases hu with rfl|rfl<;>rfl) rfl (xL.stay _) (by rw [List.length_take];omega) zo ?_;intro v' w2 hg hb2 _;have HG3:Hid (dH w2 w.heap.size 59 2 xL v' ((ou l).take (k+1))):=zh (by rw [HS.out];exact hg);clear hg HG2 HB2 hbx z2 z4 z5 z6 hbc hbf cx lx q1 q2 q3 q4 HS;go_wp2_with fail
   go_roundw
   case rel=>exact ⟨k+1,by go_num,by omega,HG3,hb2⟩
   case measure=>exact zM
  ·obtain rfl:k=m:=by omega
   have e:(ou l).take k=ou l:=List.take_of_length_le (by rw [HL.out];omega);rw [e] at HG;obtain ⟨av,cv,rfl⟩:=HG.out.at (n:=k) HL.out;have HZ:=zh HG.out.UZ.Sc;clear e HG;go_wp2_with fail
   go_ret
   exact ⟨_,_,rfl,hb,HZ.out⟩
theorem Zd (v:Value) (m:List (List Fr)) (w:World) (h:TN w v m) :
  Calls Tryz.prog 26 #[v] w (fun e w'=>∃ a c,e= .returned (.slice a (qA m).length c)∧Below w.heap.size w w'∧aN w' (.slice a (qA m).length c) (qA m)):=by
 obtain ⟨i0,hi,hz0,hz1,hz2⟩:=info_parts LH;obtain ⟨a,cap,rfl,hc1,hc2,hread⟩:=h;obtain ⟨n,hn,hmin⟩:=tu m.length 5 5 rfl;have hlen:(qA m).length=n:=by unfold qA;rw [List.length_map,List.length_take];omega
 have hsl:=Gh 23 29 1 Tryz.underlying23 (fun W=>by kernel_rfl) a m.length cap n zo
 have H:Hid (∀ k (_:k<n),∃ b off a' n' c',a=some ⟨b,off,none⟩∧b<w.heap.size∧w.cell? ⟨b,off+k,none⟩=some (.slice a' n' c')∧Yl w (.slice a' n' c') (m.getD k [])):=zh fun k hk=>by
  obtain ⟨b,off,a',n',c',h1,h2,h3,h4⟩:=hread k zo;rw [show m.getD k []=m[k]'zo by simp [show k<m.length by omega]];exact ⟨b,off,a',n',c',h1,h2,h3,h4⟩
 have HK:Hid (∀ k,k<n→(qA m).take (k+1)=(qA m).take k++[ou (m.getD k [])]):=zh fun k hk=>by
  have hk2:k<(qA m).length:=by omega
  rw [List.take_succ_eq_append_getElem hk2]
  congr 2
  unfold qA;simp [show k<m.length by omega]
 have HL:=zh hlen;have hn5:n≤5:=by omega
 rw [hlen];clear hread hn hc1 hlen;generalize m.length=nm at *;go_enter Tryz.func26,Tryz.ntmps26
 go_wp2_with fail
 go_loopw [3,12] (fun ov iv wr=>∃ k:Nat,iv= .int .i64 (k:Int)∧k≤n∧Hid (dH wr w.heap.size 29 1 vI ov ((qA m).take k))∧Below w.heap.size w wr) (fun _ iv _=>n - (intOf iv).toNat)
 case atStart=>exact ⟨0,rfl,by omega,zh (dH.nil _ _ _ _ _),Below.refl _ _⟩
 case round =>
  obtain ⟨k,rfl,hk,HG,hb⟩:=hrel
  rcases Nat.lt_or_ge k n with hlt|hge
  ·obtain ⟨b,off,a',n',c',rfl,hbl,hx1,hx2⟩:=H.out k hlt;have hc3:=(hb.cell (p:=⟨b,off+k,none⟩) hbl).trans hx1;have Ad:b<wr.heap.size:=Nat.lt_of_lt_of_le hbl hb.size;have HS:=zh (HK.out k hlt);have HC:=zh (Wo _ _ wr (hx2.later hb));obtain ⟨av,cv,rfl⟩:=HG.out.at (n:=k) (by rw [List.length_take,HL.out];omega);have hlc:(ou (m.getD k [])).length≤5:=Im _;clear hx1 hx2;generalize ou (m.getD k [])=lk at *;go_wp2_with fail
   refine HC.out.mono ?_;rintro e w1 ⟨ax,cx,rfl,hb1,hra⟩;have HA:=zh hra;have HB:=zh (Bt hb hb1);replace HG:=zh (HG.out.later hb1 (vI.stay zi));clear hra hb hb1 hc3 Ad hbl HC;go_wp2_with (at_builtin;refine eZ (w0:=w) rfl (.tmp 16) (.tmp 19) 23 rfl 29 i0 (.slice none 0 0) 1 24 Tryz.underlying23 hi hz0 hz1 hz2 rfl zd vI _ ((qA m).take k) rfl (HG.out.later ah (vI.stay zi)) (Bt HB.out ah) _ [.slice ax lk.length cx] lk rfl (au.new _ _ _) rfl ?c1 ⟨_,rfl,HA.out.later ah⟩ (vI.stay zi) ?c2 zo ?_)
   case c1=>intro u hu;simp only [List.mem_cons,List.not_mem_nil,or_false] at hu;rcases hu with rfl;rfl
   case c2=>rw [List.length_take];omega
   intro v' w2 hg hb2 _;have HG2:Hid (dH w2 w.heap.size 29 1 vI v' ((qA m).take (k+1))):=zh (by rw [HS.out];exact hg);clear hg HG HA HB HS;go_wp2_with fail
   go_roundw
   case rel=>exact ⟨k+1,by go_num,by omega,HG2,hb2⟩
   case measure=>exact zM
  ·obtain rfl:k=n:=by omega
   have e:(qA m).take k=qA m:=List.take_of_length_le (by rw [HL.out];omega);rw [e] at HG;obtain ⟨av,cv,rfl⟩:=HG.out.at (n:=k) HL.out;have HZ:=zh HG.out.UZ.JF;clear e HG;go_wp2_with fail
   go_ret
   exact ⟨_,_,rfl,hb,HZ.out⟩
end Go.Proofs.verdigrislaw05
namespace Go.Proofs.aF
open Go Go.RowKit Go.SW Go.Num Go.Mem Go.Proofs Go.Dec Go.cK Go.Proofs.aH Go.Proofs.matrix
theorem Ei {m:List (List Fr)} (h:jQ m=true):sM m:=by
 obtain ⟨e,o⟩:=vU h;rw [e];exact as2 o
theorem Ls (va vb:Value) (a b:List (List Fr)) (w:World) (ha:aN w va a) (hb:aN w vb b) (fa:sM a) (fb:sM b) (M:List (List Fr)) (h:¬ (jQ a=true∧jQ b=true)) :
  Calls Tryz.prog 28 #[va,vb] w (aV w 50 M):=by
 have sD:=zh (fun W (hW:Below w.heap.size w W)=>gK va a W (ha.later hW) fa);have x9:=zh (fun W (hW:Below w.heap.size w W)=>gK vb b W (hb.later hW) fb);obtain ⟨pa,ca,rfl⟩:=aN.sl ha;obtain ⟨pb,cb,rfl⟩:=aN.sl hb;cases ka:jQ a with
 | true =>
  cases kb:jQ b with
  | true=>exact absurd ⟨ka,kb⟩ h
  | false =>
   rw [ka] at sD;rw [kb] at x9;clear ha hb ka kb h fa fb;go_enter Tryz.func28,Tryz.ntmps28
   go_wp2_with fail
   refine (sD.out _ (Below.refl _ _)).mono ?_;rintro e v1 ⟨rfl,hc1⟩;go_wp2_with fail
   refine (x9.out _ hc1).mono ?_;rintro e v2 ⟨rfl,hc2⟩;go_wp2_with fail
   go_ret2
   exact aV.no (Bt hc1 hc2) zd
 | false =>
  rw [ka] at sD;clear ha hb ka h x9 fa fb;go_enter Tryz.func28,Tryz.ntmps28
  go_wp2_with fail
  refine (sD.out _ (Below.refl _ _)).mono ?_;rintro e v1 ⟨rfl,hc1⟩;go_wp2_with fail
  go_ret2
  exact aV.no hc1 zd
theorem Lu (va vb:Value) (a b:List (List Fr)) (w:World) (ha:aN w va a) (hb:aN w vb b) (M:List (List Fr)) (ka:jQ a=true) (kb:jQ b=true) (hne:(a.headD []).length≠b.length) :
  Calls Tryz.prog 28 #[va,vb] w (aV w 2 M):=by
 have sD:=zh (fun W (hW:Below w.heap.size w W)=>gK va a W (ha.later hW) (Ei ka));have x9:=zh (fun W (hW:Below w.heap.size w W)=>gK vb b W (hb.later hW) (Ei kb));rw [ka] at sD;rw [kb] at x9;have k1:=(iU ka).1;obtain ⟨ba,qD,Ik,a0,cap0,rfl,xU,vB⟩:=aN.top ha zo;obtain ⟨pb,cb,rfl⟩:=aN.sl hb;generalize (a.headD []).length=x at *;generalize b.length=y at *;have h0:0<a.length:=by omega
 generalize a.length=na at *;have hd:((x:Int) != (y:Int))=true:=by simp;omega
 have hd2:decide ((x:Int)=(y:Int))=false:=decide_eq_false zo;clear ha hb ka kb k1;go_enter Tryz.func28,Tryz.ntmps28
 go_wp2_with fail
 refine (sD.out _ (Below.refl _ _)).mono ?_;rintro e v1 ⟨rfl,hc1⟩;go_wp2_with fail
 refine (x9.out _ hc1).mono ?_;rintro e v2 ⟨rfl,hc2⟩;have hw2:Below w.heap.size w v2:=Bt hc1 hc2;have c1:=(hw2.cell (p:=⟨ba,qD,none⟩) xU).trans vB;have l1:ba<v2.heap.size:=Nat.lt_of_lt_of_le xU hw2.size;clear vB;go_wp2_with fail
 go_ret2
 exact aV.no hw2 zd
theorem L8 (v:Value) (m:List (List Fr)) (w:World) (h:aN w v m) (hf:sM m) (hk:jQ m=false) :
  Calls Tryz.prog 36 #[v] w (fun e w'=>e= .returned (Fr.res (Fr.no,50))∧Below w.heap.size w w'):=by
 have HC:=zh (fun W (hW:Below w.heap.size w W)=>gK v m W (h.later hW) hf);rw [hk] at HC;obtain ⟨a,cap,rfl⟩:=aN.sl h;clear h hk hf;unfold Fr.res Fr.no Fr.v;go_enter Tryz.func36,Tryz.ntmps36
 go_wp2_with fail
 refine (HC.out _ ah).mono ?_;rintro e v1 ⟨rfl,hc1⟩;have BR:=au.later (au.new _ _ _) hc1;have bK:=BR.cell;have bL:=BR.free;have eG:=BR.lt;go_wp2_with fail
 refine aP rfl rfl aT Tryz.underlying59 rfl zk ?_;exact ⟨rfl,ah⟩
theorem L9 (v:Value) (m:List (List Fr)) (w:World) (h:aN w v m) (hk:jQ m=true) (hne:m.length≠(m.headD []).length) :
  Calls Tryz.prog 36 #[v] w (fun e w'=>e= .returned (Fr.res (Fr.no,2))∧Below w.heap.size w w'):=by
 have HC:=zh (fun W (hW:Below w.heap.size w W)=>gK v m W (h.later hW) (Ei hk));rw [hk] at HC;have k1:=(iU hk).1;obtain ⟨ba,qD,Ik,a0,cap0,rfl,xU,vB⟩:=aN.top h zo;generalize (m.headD []).length=x at *;have h0:0<m.length:=by omega
 generalize m.length=y at *;have hd:((y:Int) != (x:Int))=true:=by simp;omega
 have hd2:decide ((y:Int)=(x:Int))=false:=decide_eq_false zo;clear h hk k1 hne;unfold Fr.res Fr.no Fr.v;go_enter Tryz.func36,Tryz.ntmps36
 go_wp2_with fail
 refine (HC.out _ ah).mono ?_;rintro e v1 ⟨rfl,hc1⟩;have BR:=au.later (au.new _ _ _) hc1;have bK:=BR.cell;have bL:=BR.free;have eG:=BR.lt;have hw1:Below w.heap.size w v1:=ah;have c1:=(hw1.cell (p:=⟨ba,qD,none⟩) xU).trans vB;have l1:ba<v1.heap.size:=Nat.lt_of_lt_of_le xU hw1.size;clear vB;go_wp2_with fail
 refine aP rfl rfl aT Tryz.underlying59 rfl zk ?_;exact ⟨rfl,ah⟩
end Go.Proofs.aF
namespace Go.Proofs.aF
open Go Go.RowKit Go.SW Go.Num Go.Mem Go.Proofs Go.Dec Go.cK
end Go.Proofs.aF
namespace Go.Proofs.verdigrislaw05
open Go Go.RowKit Go.SW Go.Num Go.Mem Go.Proofs Go.Dec Go.cK Go.Proofs.matrix Go.Proofs.aF
theorem GN {m:List (List Fr)} (h:qY m):sM m:=fun r hr x hx=>by
 have:=(h.2 r hr).2 x hx;exact ⟨by omega,by omega⟩
theorem aN.none (w:World):aN w (.slice none 0 0) []:=⟨[],Row.nil _ _,rfl,fun i hi=>by cases hi⟩
theorem Qa {q:Rat} (h:Sm q):(Fr.of q).n.size≤40∧(Fr.of q).d.size≤40:=by
 have key:∀ z:Int,z.natAbs≤999→(Lib.itoa z).length≤4:=fun z hz=>Nat.le_trans (qL z) (Nat.succ_le_succ (Dec.iM 3 _ zo zo));have h1:=key q.num h.2.1;have h2:=key (q.den:Int) (by have:=h.2.2;omega);have e:∀ l:List UInt8,(⟨l.toArray⟩:ByteArray).size=l.length:=fun l=>by simp [ByteArray.size]
 unfold Fr.of
 constructor
 ·show (⟨(Lib.itoa q.num).toArray⟩:ByteArray).size≤40
  rw [e];omega
 ·show (⟨(Lib.itoa (q.den:Int)).toArray⟩:ByteArray).size≤40
  rw [e];omega
theorem wC {n k:Nat} {f:Nat→Nat→Rat} (hn:n≤4) (hk:k≤4) (h:∀ i j,Sm (f i j)):qY (BF n k f).fr∧(BF n k f).fr.length=n:=by
 refine ⟨⟨?_,fun r hr=>?_⟩,by rw [J6,uJ]⟩
 ·rw [J6,uJ];omega
 ·obtain ⟨s,hs,rfl⟩:=List.mem_map.1 hr;have hl:=Lv hs;refine ⟨by rw [List.length_map,hl];omega,fun x hx=>?_⟩;obtain ⟨q,hq,rfl⟩:=List.mem_map.1 hx;obtain ⟨i, -, rfl⟩:=List.mem_map.1 hs;obtain ⟨j, -, rfl⟩:=List.mem_map.1 hq;exact Qa (h i j)
def Xl (w:World) (f:FuncId) (args:Array Value) (n:Nat) (M:List (List Fr)):Prop:=∀ W,Below w.heap.size w W→Calls Tryz.prog f args W (fun e w'=>∃ a c,e= .returned (.slice a n c)∧Below W.heap.size W w'∧aN w' (.slice a n c) M)
def tT (w:World) (b o:Nat) (M N:List (List Fr)):Prop:=∃ a n c a' n' c',w.cell? ⟨b,o,none⟩=some (.slice a n c)∧w.cell? ⟨b,o+1,none⟩=some (.slice a' n' c')∧aN w (.slice a n c) M∧aN w (.slice a' n' c') N
theorem tT.later {w w':World} {b o:Nat} {M N:List (List Fr)} (h:tT w b o M N) (hb:Below w.heap.size w w') (hl:b<w.heap.size):tT w' b o M N:=by
 obtain ⟨a,n,c,a',n',c',h1,h2,h3,h4⟩:=h;exact ⟨a,n,c,a',n',c',(hb.cell (p:=⟨b,o,none⟩) hl).trans h1,(hb.cell (p:=⟨b,o+1,none⟩) hl).trans h2,h3.later hb,h4.later hb⟩
def Pairs (w:World) (v:Value) (MA MB M1 M2 M4 M5:List (List Fr)):Prop:=∃ b,v= .slice (some ⟨b,0,none⟩) 4 4∧b<w.heap.size∧tT w b 0 MA MB∧tT w b 2 M1 M2∧tT w b 4 M1 M4∧tT w b 6 M5 MB
theorem Pairs.later {w w':World} {v:Value} {MA MB M1 M2 M4 M5:List (List Fr)} (h:Pairs w v MA MB M1 M2 M4 M5) (hb:Below w.heap.size w w'):Pairs w' v MA MB M1 M2 M4 M5:=by
 obtain ⟨b,h1,h2,h3,h4,h5,h6⟩:=h;exact ⟨b,h1,Nat.lt_of_lt_of_le h2 hb.size,h3.later hb h2,h4.later hb h2,h5.later hb h2,h6.later hb h2⟩
theorem Zo {w:World} {v:Value} {m:List (List Fr)} (h:TN w v m):∃ a n c,v= .slice a n c:=by
 obtain ⟨a,cap,h, -⟩:=h;exact ⟨a,_,cap,h⟩
end Go.Proofs.verdigrislaw05
namespace Go.Proofs.bJ
open Go Go.RowKit Go.SW Go.Num Go.Mem Go.Proofs Go.Dec Go.cK Go.Proofs.dJ Go.Proofs.aH Go.Proofs.aC Go.Proofs.aF
theorem NM (p x:Rat):∀ l:List Rat,iI p (l++[x])=if x<iI p l then x else iI p l:=by
 intro l
 induction l generalizing p with
 | nil=>rfl
 | cons y l ih=>simp only [List.cons_append,iI];exact ih _
theorem JO (p x:Rat):∀ l:List Rat,dZ p (l++[x])=if dZ p l<x then x else dZ p l:=by
 intro l
 induction l generalizing p with
 | nil=>rfl
 | cons y l ih=>simp only [List.cons_append,dZ];exact ih _
theorem QZ (p:Rat):∀ l:List Rat,iI p l∈p::l:=by
 intro l
 induction l generalizing p with
 | nil=>simp [iI]
 | cons y l ih =>
  unfold iI;have:=ih (if y<p then y else p);split at this<;>split<;>simp_all<;>grind
theorem Ob (p:Rat):∀ l:List Rat,dZ p l∈p::l:=by
 intro l
 induction l generalizing p with
 | nil=>simp [dZ]
 | cons y l ih =>
  unfold dZ;have:=ih (if p<y then y else p);split at this<;>split<;>simp_all<;>grind
theorem YK {P:Program} {c:Code} {Q:Exit→Act→World→Prop} {a:Act} {w:World} (F:Act→Nat→Nat→Act) (R:Nat→Nat→World→Prop) (h:c.wp P (fun e a' w'=>e= .normal∧∃ x y,a'=F a x y∧R x y w') a w) (k:∀ x y w',R x y w'→Q .normal (F a x y) w'):c.wp P Q a w :=
 Code.wp_mono (fun e a' w' ⟨h1,x,y,h2,h3⟩=>by
  subst h1 h2;exact k _ _ _ h3) h
def Hold (w wr:World) (b:Nat) (q:Rat):Prop:=∃ bn pn ln cn bd pd ld cd,au wr b #[.bool bn,.slice pn ln cn,.bool bd,.slice pd ld cd] 123∧Ra w (.agg #[.bool bn,.slice pn ln cn,.bool bd,.slice pd ld cd]) q
theorem Kk (v:Value) (p:Rat) (l:List Rat) (n1:Nat) (w:World) (h:sj w v (p::l)) (hn:l.length+1=n1) (hn2:n1≤1000) (hs:∀ q∈p::l,kL 30 q) :
  Calls Tryz.prog 200 #[v] w (fun e w'=>e= .returned (dV (kN (iI p l) (dZ p l)))∧Below w.heap.size w w'):=by
 obtain ⟨a,cap,rfl, -, hc1,hread⟩:=sj.at h
 have H:Hid (∀ k,k<n1→∃ b off bn pn ln cn bd pd ld cd,a=some ⟨b,off,none⟩∧b<w.heap.size∧w.cell? ⟨b,off+k*4,none⟩=some (.bool bn)∧w.cell? ⟨b,off+k*4+1,none⟩=some (.slice pn ln cn)∧w.cell? ⟨b,off+k*4+2,none⟩=some (.bool bd)∧w.cell? ⟨b,off+k*4+3,none⟩=some (.slice pd ld cd) ∧
   Ra w (.agg #[.bool bn,.slice pn ln cn,.bool bd,.slice pd ld cd]) ((p::l).getD k 0)):=zh fun k hk=>by
  have hk2:k<(p::l).length:=by simp;omega
  have:=hread k hk2;rw [show (p::l)[k]=(p::l).getD k 0 by rw [List.getD_eq_getElem?_getD,List.getElem?_eq_getElem hk2];rfl] at this;exact this
 have SZ:Hid (∀ k,k<n1→kL 30 ((p::l).getD k 0)):=zh fun k hk=>by
  have hk2:k<(p::l).length:=by simp;omega
  rw [show (p::l).getD k 0=(p::l)[k] by rw [List.getD_eq_getElem?_getD,List.getElem?_eq_getElem hk2];rfl];exact hs _ (List.getElem_mem hk2)
 have SL:Hid (∀ k,kL 30 (iI p (l.take k))):=zh fun k=>hs _ (by
  have:=QZ p (l.take k);simp only [List.mem_cons] at this ⊢;exact this.imp id (fun h=>List.mem_of_mem_take h))
 have SH:Hid (∀ k,kL 30 (dZ p (l.take k))):=zh fun k=>hs _ (by
  have:=Ob p (l.take k);simp only [List.mem_cons] at this ⊢;exact this.imp id (fun h=>List.mem_of_mem_take h))
 have LS:Hid (∀ k,k+1<n1→iI p (l.take (k+1))=if (p::l).getD (k+1) 0<iI p (l.take k) then (p::l).getD (k+1) 0 else iI p (l.take k)):=zh fun k hk=>by
  have hk2:k<l.length:=by omega
  rw [List.take_succ_eq_append_getElem hk2,NM];simp [hk2]
 have HS:Hid (∀ k,k+1<n1→dZ p (l.take (k+1))=if dZ p (l.take k)<(p::l).getD (k+1) 0 then (p::l).getD (k+1) 0 else dZ p (l.take k)):=zh fun k hk=>by
  have hk2:k<l.length:=by omega
  rw [List.take_succ_eq_append_getElem hk2,JO];simp [hk2]
 have HE:Hid (l.take (n1 - 1)=l):=zh (List.take_of_length_le zo);have h0:0<n1:=by omega
 have e0:(p::l).length=n1:=by simp [hn]
 rw [e0];have TG:=zh (fun v v' W (h:Ra W v (iI p l)) (h':Ra W v' (dZ p l))=>AY v v' _ _ W h h' (by have:=SL.out (n1 - 1);rw [HE.out] at this;exact this.mono zo) (by have:=SH.out (n1 - 1);rw [HE.out] at this;exact this.mono zo));obtain ⟨e1,e2,ek,ex⟩:=rO (kN (iI p l) (dZ p l));rw [ex] at TG ⊢;unfold dV at TG ⊢;have G0:Hid ((p::l).getD 0 0=p):=zh rfl;obtain ⟨g,Eg⟩:∃ g:Nat→Rat,g=fun k=>(p::l).getD k 0:=⟨_,rfl⟩;have eg:∀ k,(p::l).getD k 0=g k:=fun k=>by rw [Eg]
 simp only [eg] at H SZ LS HS G0;obtain ⟨b,off,bn,pn,ln,cn,bd,pd,ld,cd,rfl,hbl,k1,k2,k3,k4,hra⟩:=H.out 0 h0;rw [Nat.zero_mul,Nat.add_zero] at k1 k2 k3 k4;rw [G0.out] at hra;have R0:=zh hra;clear hread hs h ex e0 hn eg Eg G0 hra;go_enter Tryz.func200,Tryz.ntmps200
 go_wp2_with fail
 obtain ⟨u0,EW,hz,HR⟩:=oz w #[.int .i64 0,.int .i64 0] 69;rw [EW];have hlr:=HR.out.lt;have d1:=(hz.cell (p:=⟨b,off,none⟩) hbl).trans k1;have d2:=(hz.cell (p:=⟨b,off+1,none⟩) hbl).trans k2;have d3:=(hz.cell (p:=⟨b,off+2,none⟩) hbl).trans k3;have d4:=(hz.cell (p:=⟨b,off+3,none⟩) hbl).trans k4;have l1:b<u0.heap.size:=Nat.lt_of_lt_of_le hbl hz.size;clear EW k1 k2 k3 k4
 refine YK (fun a q r=>(((((((a.put (some 7) (.slice (some ⟨b,off,none⟩) n1 cap)).put (some 8) (.pointer (some ⟨b,off,none⟩))).put (some 9) (.agg #[.bool bn,.slice pn ln cn,.bool bd,.slice pd ld cd])).put (some 10) (.slice (some ⟨b,off,none⟩) n1 cap)).put (some 11) (.pointer (some ⟨b,off,none⟩))).put (some 12) (.agg #[.bool bn,.slice pn ln cn,.bool bd,.slice pd ld cd])).put (some 4) (.pointer (some ⟨q,0,none⟩))).put (some 5) (.pointer (some ⟨r,0,none⟩))) (fun q r W=>w.heap.size<q∧w.heap.size<r∧q≠r∧au W q #[.bool bn,.slice pn ln cn,.bool bd,.slice pd ld cd] 123∧au W r #[.bool bn,.slice pn ln cn,.bool bd,.slice pd ld cd] 123∧au W w.heap.size #[.int .i64 0,.int .i64 0] 69∧Below w.heap.size w W) ?rg ?tl
 case rg =>
  refine Qi zk (Lf 5 8 zd (uy [(.pure,0),(.pure,1),(.read,2),(.pure,3),(.pure,4),(.read,5),(.alloc #[.bool false,.slice none 0 0,.bool false,.slice none 0 0] 123,6),(.alloc #[.bool false,.slice none 0 0,.bool false,.slice none 0 0] 123,7),(.fin,8),(.fin,9)] zk zR (fun _ _ _ _ _ h=>by cases h.1) (oD _ _ _ _ _ _ _ (Wk.out ?o1))) (uy [(.pure,0),(.pure,1),(.read,2),(.pure,3),(.pure,4),(.alloc #[.bool false,.slice none 0 0,.bool false,.slice none 0 0] 123,6),(.alloc #[.bool false,.slice none 0 0,.bool false,.slice none 0 0] 123,7),(.fin,8),(.fin,5),(.fin,9)] zk zR (fun _ _ _ _ _ h=>by cases h.1) (oD _ _ _ _ _ _ _ (Wk.out ?o2))))
  case o1 =>
   refine zS ?_;refine qc rfl (fun q wg hbg hq1 hq2 hq3 wD=>?_);go_simp;replace wD:au wg q #[.bool false,.slice none 0 0,.bool false,.slice none 0 0] 123:=wD;refine qc rfl (fun r wk hbk hr1 hr2 hr3 IY=>?_);go_simp;replace IY:au wk r #[.bool false,.slice none 0 0,.bool false,.slice none 0 0] 123:=IY;refine mJ [_,_] rfl (fun wh tZ=>?_);have hne:q≠r:=by simp at hr3;omega
   have hne2:r≠q:=fun e=>hne e.symm;have hd:Below u0.heap.size u0 wh:=Bt (Bt (Bt ah hbg) hbk) tZ;have hL:=(wD.later hbk).later tZ;have hH:=IY.later tZ;have IZ:w.heap.size<q:=by omega
   have hgr:w.heap.size<r:=by omega
   have nq:w.heap.size≠q:=by omega
   have nr:w.heap.size≠r:=by omega
   have bq:b≠q:=by omega
   have bq2:q≠b:=by omega
   have cL:=hL.cell;have fL:=hL.free;have cH:=hH.cell;have fH:=hH.free;have d5:=(hd.cell (p:=⟨b,off,none⟩) l1).trans d1;have d6:=(hd.cell (p:=⟨b,off+1,none⟩) l1).trans d2;have d7:=(hd.cell (p:=⟨b,off+2,none⟩) l1).trans d3;have d8:=(hd.cell (p:=⟨b,off+3,none⟩) l1).trans d4;have l2:b<wh.heap.size:=Nat.lt_of_lt_of_le l1 hd.size;clear d1 d2 d3 d4 wD IY hbg hbk tZ;go_wp2_with fail
   refine ⟨q,r,?_,IZ,hgr,hne,
    (((((((((hL.set 0 (.bool bn)).set 1 (.slice pn ln cn)).set 2 (.bool bd)).set 3 (.slice pd ld cd)).setOther (a:=⟨r,0,none⟩) (.bool bn) hne).setOther (a:=⟨r,1,none⟩) (.slice pn ln cn) hne).setOther (a:=⟨r,2,none⟩) (.bool bd) hne).setOther (a:=⟨r,3,none⟩) (.slice pd ld cd) hne)),
    (((((((((hH.setOther (a:=⟨q,0,none⟩) (.bool bn) hne2).setOther (a:=⟨q,1,none⟩) (.slice pn ln cn) hne2).setOther (a:=⟨q,2,none⟩) (.bool bd) hne2).setOther (a:=⟨q,3,none⟩) (.slice pd ld cd) hne2).set 0 (.bool bn)).set 1 (.slice pn ln cn)).set 2 (.bool bd)).set 3 (.slice pd ld cd))),
    ((((((((HR.out.later hd).setOther (a:=⟨q,0,none⟩) (.bool bn) nq).setOther (a:=⟨q,1,none⟩) (.slice pn ln cn) nq).setOther (a:=⟨q,2,none⟩) (.bool bd) nq).setOther (a:=⟨q,3,none⟩) (.slice pd ld cd) nq).setOther (a:=⟨r,0,none⟩) (.bool bn) nr).setOther (a:=⟨r,1,none⟩) (.slice pn ln cn) nr).setOther (a:=⟨r,2,none⟩) (.bool bd) nr).setOther (a:=⟨r,3,none⟩) (.slice pd ld cd) nr,
    ((((((((Bt hz hd).setCell (p:=⟨q,0,none⟩) (Nat.le_of_lt IZ) (.bool bn)).setCell (p:=⟨q,1,none⟩) (Nat.le_of_lt IZ) (.slice pn ln cn)).setCell (p:=⟨q,2,none⟩) (Nat.le_of_lt IZ) (.bool bd)).setCell (p:=⟨q,3,none⟩) (Nat.le_of_lt IZ) (.slice pd ld cd)).setCell (p:=⟨r,0,none⟩) (Nat.le_of_lt hgr) (.bool bn)).setCell (p:=⟨r,1,none⟩) (Nat.le_of_lt hgr) (.slice pn ln cn)).setCell (p:=⟨r,2,none⟩) (Nat.le_of_lt hgr) (.bool bd)).setCell (p:=⟨r,3,none⟩) (Nat.le_of_lt hgr) (.slice pd ld cd)⟩
   exact ⟨rfl,rfl⟩
  case o2 =>
   refine zS ?_;refine qc rfl (fun q wg hbg hq1 hq2 hq3 wD=>?_);go_simp;replace wD:au wg q #[.bool false,.slice none 0 0,.bool false,.slice none 0 0] 123:=wD;refine qc rfl (fun r wk hbk hr1 hr2 hr3 IY=>?_);go_simp;replace IY:au wk r #[.bool false,.slice none 0 0,.bool false,.slice none 0 0] 123:=IY;refine mJ [_,_,_] rfl (fun wh tZ=>?_);have hne:q≠r:=by simp at hr3;omega
   have hne2:r≠q:=fun e=>hne e.symm;have hd:Below u0.heap.size u0 wh:=Bt (Bt (Bt ah hbg) hbk) tZ;have hL:=(wD.later hbk).later tZ;have hH:=IY.later tZ;have IZ:w.heap.size<q:=by omega
   have hgr:w.heap.size<r:=by omega
   have nq:w.heap.size≠q:=by omega
   have nr:w.heap.size≠r:=by omega
   have bq:b≠q:=by omega
   have bq2:q≠b:=by omega
   have cL:=hL.cell;have fL:=hL.free;have cH:=hH.cell;have fH:=hH.free;have d5:=(hd.cell (p:=⟨b,off,none⟩) l1).trans d1;have d6:=(hd.cell (p:=⟨b,off+1,none⟩) l1).trans d2;have d7:=(hd.cell (p:=⟨b,off+2,none⟩) l1).trans d3;have d8:=(hd.cell (p:=⟨b,off+3,none⟩) l1).trans d4;have l2:b<wh.heap.size:=Nat.lt_of_lt_of_le l1 hd.size;clear d1 d2 d3 d4 wD IY hbg hbk tZ;go_wp2_with fail
   refine ⟨q,r,?_,IZ,hgr,hne,
    (((((((((hL.set 0 (.bool bn)).set 1 (.slice pn ln cn)).set 2 (.bool bd)).set 3 (.slice pd ld cd)).setOther (a:=⟨r,0,none⟩) (.bool bn) hne).setOther (a:=⟨r,1,none⟩) (.slice pn ln cn) hne).setOther (a:=⟨r,2,none⟩) (.bool bd) hne).setOther (a:=⟨r,3,none⟩) (.slice pd ld cd) hne)),
    (((((((((hH.setOther (a:=⟨q,0,none⟩) (.bool bn) hne2).setOther (a:=⟨q,1,none⟩) (.slice pn ln cn) hne2).setOther (a:=⟨q,2,none⟩) (.bool bd) hne2).setOther (a:=⟨q,3,none⟩) (.slice pd ld cd) hne2).set 0 (.bool bn)).set 1 (.slice pn ln cn)).set 2 (.bool bd)).set 3 (.slice pd ld cd))),
    ((((((((HR.out.later hd).setOther (a:=⟨q,0,none⟩) (.bool bn) nq).setOther (a:=⟨q,1,none⟩) (.slice pn ln cn) nq).setOther (a:=⟨q,2,none⟩) (.bool bd) nq).setOther (a:=⟨q,3,none⟩) (.slice pd ld cd) nq).setOther (a:=⟨r,0,none⟩) (.bool bn) nr).setOther (a:=⟨r,1,none⟩) (.slice pn ln cn) nr).setOther (a:=⟨r,2,none⟩) (.bool bd) nr).setOther (a:=⟨r,3,none⟩) (.slice pd ld cd) nr,
    ((((((((Bt hz hd).setCell (p:=⟨q,0,none⟩) (Nat.le_of_lt IZ) (.bool bn)).setCell (p:=⟨q,1,none⟩) (Nat.le_of_lt IZ) (.slice pn ln cn)).setCell (p:=⟨q,2,none⟩) (Nat.le_of_lt IZ) (.bool bd)).setCell (p:=⟨q,3,none⟩) (Nat.le_of_lt IZ) (.slice pd ld cd)).setCell (p:=⟨r,0,none⟩) (Nat.le_of_lt hgr) (.bool bn)).setCell (p:=⟨r,1,none⟩) (Nat.le_of_lt hgr) (.slice pn ln cn)).setCell (p:=⟨r,2,none⟩) (Nat.le_of_lt hgr) (.bool bd)).setCell (p:=⟨r,3,none⟩) (Nat.le_of_lt hgr) (.slice pd ld cd)⟩
   exact ⟨rfl,rfl⟩
 case tl =>
  intro q r W9 ⟨IZ,hgr,hne,g1,g2,g3,g4⟩;have hne2:r≠q:=fun e=>hne e.symm;have nq:w.heap.size≠q:=by omega
  have nr:w.heap.size≠r:=by omega
  have HLO:Hid (Hold w W9 q (iI p (l.take 0))):=zh ⟨_,_,_,_,_,_,_,_,g1,R0.out⟩;have HHI:Hid (Hold w W9 r (dZ p (l.take 0))):=zh ⟨_,_,_,_,_,_,_,_,g2,R0.out⟩;have HB0:=zh g4;replace HR:=zh g3;clear g1 g2 g3 g4 hz l1 hlr hbl R0 d1 d2 d3 d4;go_wp2_with fail
  go_loopw [6] (fun iv wr=>∃ m:Nat,iv= .int .i64 (m:Int)∧1≤m∧m≤n1∧Hid (Below w.heap.size w wr)∧Hid (Hold w wr q (iI p (l.take (m - 1))))∧Hid (Hold w wr r (dZ p (l.take (m - 1))))∧Hid (au wr w.heap.size #[.int .i64 0,.int .i64 0] 69)) (fun iv _=>n1 - (intOf iv).toNat)
  case atStart=>exact ⟨1,rfl,by omega,by omega,HB0,HLO,HHI,HR⟩
  case round =>
   obtain ⟨m,rfl,hm1,hm2,HB,HL,HH,HQ⟩:=hrel;clear HB0 HLO HHI HR
   rcases Nat.lt_or_ge m n1 with hlt|hge
   ·obtain ⟨b2,off2,xn,Fz,FC,FH,xd,FB,FE,FP,e,hbl,k1,k2,k3,k4,hra⟩:=H.out m hlt;simp only [Option.some.injEq,Addr.mk.injEq,and_true] at e;obtain ⟨rfl,rfl⟩:=e;have hstep:=LS.out (m - 1) zo;have hstep2:=HS.out (m - 1) zo;rw [show m - 1+1=m by omega] at hstep hstep2;have sx:=SZ.out m hlt;have sl:=SL.out (m - 1);have sh:=SH.out (m - 1);obtain ⟨yn,ypn,yln,ycn,yd,ypd,yld,ycd,R4,hlo⟩:=HL.out;obtain ⟨zn,zpn,zln,zcn,zd,zpd,zld,zcd,tZ,hhi⟩:=HH.out;have RX:=zh hra;have RL:=zh hlo;have RH:=zh hhi;have BL:=zh R4;have BH:=zh tZ;have O1:=zh (fun v v' W (h:Ra W v (g m)) (h':Ra W v' (iI p (l.take (m - 1))))=>aH.jW v v' _ _ W h h' (sx.mono zo) (sl.mono zo));have O2:=zh (fun v v' W (h:Ra W v (g m)) (h':Ra W v' (dZ p (l.take (m - 1))))=>aH.jW v v' _ _ W h h' (sx.mono zo) (sh.mono zo));have KC:=zh (And.intro k1 (And.intro k2 (And.intro k3 k4)))
    clear hra hlo hhi R4 tZ sx sl sh k1 k2 k3 k4;generalize g m=X at *;generalize iI p (l.take (m - 1))=LO at *;generalize dZ p (l.take (m - 1))=HI at *;unfold Aw at O1 O2;have HM:=zh (And.intro hstep hstep2);clear hstep hstep2 HL HH
    by_cases h1:X<LO
    ·rw [if_pos h1] at O1;go_wp2_with fail
     have cBL:=BL.out.cell;have lBL:=BL.out.lt;have hbw:=HB.out;have d1:=(hbw.cell (p:=⟨b,off+m*4,none⟩) hbl).trans KC.out.1;have d2:=(hbw.cell (p:=⟨b,off+m*4+1,none⟩) hbl).trans KC.out.2.1;have d3:=(hbw.cell (p:=⟨b,off+m*4+2,none⟩) hbl).trans KC.out.2.2.1;have d4:=(hbw.cell (p:=⟨b,off+m*4+3,none⟩) hbl).trans KC.out.2.2.2;have l1:b<wr.heap.size:=Nat.lt_of_lt_of_le hbl hbw.size;refine aD [(.pure,0),(.pure,1),(.pure,2),(.read,3),(.read,4),(.ext,5),(.pure,6)] zk zk zR zP ?_;refine Wk.out ?_;refine zS ?_;clear cBL lBL;clear hbw d1 d2 d3 d4 l1;refine bW rfl rfl (fun we hbe J hJ=>?_);go_simp;have hx:Below wr.heap.size wr we:=ah;refine (O1.out _ _ _ (RX.out.later (Bt HB.out hx)) (RL.out.later (Bt HB.out hx))).mono ?_;rintro e wy ⟨rfl,h⟩;have hy:=Bt hx h;refine hJ _ _ h ?_;clear hJ J hbe hx h;refine zS ?_;refine je (fun wa hbf=>?_)
     have hy2:Below wr.heap.size wr wa:=Bt hy ah;replace BL:=zh (BL.out.later hy2);replace BH:=zh (BH.out.later hy2);replace HQ:=zh (HQ.out.later hy2);replace HB:=zh (Bt HB.out hy2);clear hy hy2 hbf;have cBL:=BL.out.cell;have fBL:=BL.out.free;have hbw:=HB.out;have d1:=(hbw.cell (p:=⟨b,off+m*4,none⟩) hbl).trans KC.out.1;have d2:=(hbw.cell (p:=⟨b,off+m*4+1,none⟩) hbl).trans KC.out.2.1;have d3:=(hbw.cell (p:=⟨b,off+m*4+2,none⟩) hbl).trans KC.out.2.2.1;have d4:=(hbw.cell (p:=⟨b,off+m*4+3,none⟩) hbl).trans KC.out.2.2.2;have l1:b<wa.heap.size:=Nat.lt_of_lt_of_le hbl hbw.size;go_wp2_with fail
     clear cBL fBL;clear hbw d1 d2 d3 d4 l1;obtain ⟨wb,EW⟩:∃ y,(((wa.setCell ⟨q,0,none⟩ (.bool xn)).setCell ⟨q,1,none⟩ (.slice Fz FC FH)).setCell ⟨q,2,none⟩ (.bool xd)).setCell ⟨q,3,none⟩ (.slice FB FE FP)=y:=⟨_,rfl⟩;have t:=(((BL.out.set 0 (.bool xn)).set 1 (.slice Fz FC FH)).set 2 (.bool xd)).set 3 (.slice FB FE FP);rw [EW] at t;replace BL:Hid (au wb q #[.bool xn,.slice Fz FC FH,.bool xd,.slice FB FE FP] 123):=zh t;clear t;have t:=(((BH.out.setOther (a:=⟨q,0,none⟩) (.bool xn) hne2).setOther (a:=⟨q,1,none⟩) (.slice Fz FC FH) hne2).setOther (a:=⟨q,2,none⟩) (.bool xd) hne2).setOther (a:=⟨q,3,none⟩) (.slice FB FE FP) hne2;rw [EW] at t;replace BH:=zh t;clear t;have t:=(((HQ.out.setOther (a:=⟨q,0,none⟩) (.bool xn) nq).setOther (a:=⟨q,1,none⟩) (.slice Fz FC FH) nq).setOther (a:=⟨q,2,none⟩) (.bool xd) nq).setOther (a:=⟨q,3,none⟩) (.slice FB FE FP) nq;rw [EW] at t
     replace HQ:=zh t;clear t;have t:=(((HB.out.setCell (p:=⟨q,0,none⟩) (Nat.le_of_lt IZ) (.bool xn)).setCell (p:=⟨q,1,none⟩) (Nat.le_of_lt IZ) (.slice Fz FC FH)).setCell (p:=⟨q,2,none⟩) (Nat.le_of_lt IZ) (.bool xd)).setCell (p:=⟨q,3,none⟩) (Nat.le_of_lt IZ) (.slice FB FE FP);rw [EW] at t;replace HB:=zh t;clear t;rw [EW];clear EW
     by_cases h2:HI<X
     ·rw [if_neg (by grind),if_pos h2] at O2;have Tn:=BH.out.cell;have Zv:=BH.out.lt;have hbw:=HB.out;have d1:=(hbw.cell (p:=⟨b,off+m*4,none⟩) hbl).trans KC.out.1;have d2:=(hbw.cell (p:=⟨b,off+m*4+1,none⟩) hbl).trans KC.out.2.1;have d3:=(hbw.cell (p:=⟨b,off+m*4+2,none⟩) hbl).trans KC.out.2.2.1;have d4:=(hbw.cell (p:=⟨b,off+m*4+3,none⟩) hbl).trans KC.out.2.2.2;have l1:b<wb.heap.size:=Nat.lt_of_lt_of_le hbl hbw.size;refine aD [(.pure,0),(.pure,1),(.pure,2),(.read,3),(.read,4),(.ext,5),(.pure,6)] zk zk zR zP ?_;refine Wk.out ?_;refine zS ?_;clear Tn Zv;clear hbw d1 d2 d3 d4 l1;refine bW rfl rfl (fun we hbe J hJ=>?_);go_simp;have hx:Below wb.heap.size wb we:=ah;refine (O2.out _ _ _ (RX.out.later (Bt HB.out hx)) (RH.out.later (Bt HB.out hx))).mono ?_;rintro e wy ⟨rfl,h⟩;have hy:=Bt hx h;refine hJ _ _ h ?_;clear hJ J hbe hx h;refine zS ?_;refine je (fun wc hbf=>?_)
      have hy2:Below wb.heap.size wb wc:=Bt hy ah;replace BL:=zh (BL.out.later hy2);replace BH:=zh (BH.out.later hy2);replace HQ:=zh (HQ.out.later hy2);replace HB:=zh (Bt HB.out hy2);clear hy hy2 hbf;have Tn:=BH.out.cell;have fBH:=BH.out.free;have hbw:=HB.out;have d1:=(hbw.cell (p:=⟨b,off+m*4,none⟩) hbl).trans KC.out.1;have d2:=(hbw.cell (p:=⟨b,off+m*4+1,none⟩) hbl).trans KC.out.2.1;have d3:=(hbw.cell (p:=⟨b,off+m*4+2,none⟩) hbl).trans KC.out.2.2.1;have d4:=(hbw.cell (p:=⟨b,off+m*4+3,none⟩) hbl).trans KC.out.2.2.2;have l1:b<wc.heap.size:=Nat.lt_of_lt_of_le hbl hbw.size;go_wp2_with fail
      clear Tn fBH;clear hbw d1 d2 d3 d4 l1;obtain ⟨wd,EW⟩:∃ y,(((wc.setCell ⟨r,0,none⟩ (.bool xn)).setCell ⟨r,1,none⟩ (.slice Fz FC FH)).setCell ⟨r,2,none⟩ (.bool xd)).setCell ⟨r,3,none⟩ (.slice FB FE FP)=y:=⟨_,rfl⟩;have t:=(((BH.out.set 0 (.bool xn)).set 1 (.slice Fz FC FH)).set 2 (.bool xd)).set 3 (.slice FB FE FP);rw [EW] at t;replace BH:Hid (au wd r #[.bool xn,.slice Fz FC FH,.bool xd,.slice FB FE FP] 123):=zh t;clear t;have t:=(((BL.out.setOther (a:=⟨r,0,none⟩) (.bool xn) hne).setOther (a:=⟨r,1,none⟩) (.slice Fz FC FH) hne).setOther (a:=⟨r,2,none⟩) (.bool xd) hne).setOther (a:=⟨r,3,none⟩) (.slice FB FE FP) hne;rw [EW] at t;replace BL:=zh t;clear t;have t:=(((HQ.out.setOther (a:=⟨r,0,none⟩) (.bool xn) nr).setOther (a:=⟨r,1,none⟩) (.slice Fz FC FH) nr).setOther (a:=⟨r,2,none⟩) (.bool xd) nr).setOther (a:=⟨r,3,none⟩) (.slice FB FE FP) nr;rw [EW] at t
      replace HQ:=zh t;clear t;have t:=(((HB.out.setCell (p:=⟨r,0,none⟩) (Nat.le_of_lt hgr) (.bool xn)).setCell (p:=⟨r,1,none⟩) (Nat.le_of_lt hgr) (.slice Fz FC FH)).setCell (p:=⟨r,2,none⟩) (Nat.le_of_lt hgr) (.bool xd)).setCell (p:=⟨r,3,none⟩) (Nat.le_of_lt hgr) (.slice FB FE FP);rw [EW] at t;replace HB:=zh t;clear t;rw [EW];clear EW;go_roundw
      case rel=>exact ⟨m+1,by go_num,by omega,by omega,HB,zh (by rw [Nat.add_sub_cancel,HM.out.1,if_pos h1];exact ⟨_,_,_,_,_,_,_,_,BL.out,RX.out⟩),zh (by rw [Nat.add_sub_cancel,HM.out.2,if_pos h2];exact ⟨_,_,_,_,_,_,_,_,BH.out,RX.out⟩),HQ⟩
      case measure=>simp [intOf]<;>omega
     ·have ho3:∃ o:Int,(if X<HI then (-1:Int) else if HI<X then 1 else 0)=o∧decide (0<o)=false:=⟨_,rfl,by rw [if_neg h2];split<;>rfl⟩;obtain ⟨o2,ho4,ho5⟩:=ho3;rw [ho4] at O2;clear ho4;have Tn:=BH.out.cell;have Zv:=BH.out.lt;have hbw:=HB.out;have d1:=(hbw.cell (p:=⟨b,off+m*4,none⟩) hbl).trans KC.out.1;have d2:=(hbw.cell (p:=⟨b,off+m*4+1,none⟩) hbl).trans KC.out.2.1;have d3:=(hbw.cell (p:=⟨b,off+m*4+2,none⟩) hbl).trans KC.out.2.2.1;have d4:=(hbw.cell (p:=⟨b,off+m*4+3,none⟩) hbl).trans KC.out.2.2.2;have l1:b<wb.heap.size:=Nat.lt_of_lt_of_le hbl hbw.size;refine aD [(.pure,0),(.pure,1),(.pure,2),(.read,3),(.read,4),(.ext,5),(.pure,6)] zk zk zR zP ?_;refine Wk.out ?_;refine zS ?_;clear Tn Zv;clear hbw d1 d2 d3 d4 l1;refine bW rfl rfl (fun we hbe J hJ=>?_);go_simp;have hx:Below wb.heap.size wb we:=ah
      refine (O2.out _ _ _ (RX.out.later (Bt HB.out hx)) (RH.out.later (Bt HB.out hx))).mono ?_;rintro e wy ⟨rfl,h⟩;have hy:=Bt hx h;refine hJ _ _ h ?_;clear hJ J hbe hx h;refine zS ?_;refine je (fun wc hbf=>?_);have hy2:Below wb.heap.size wb wc:=Bt hy ah;replace BL:=zh (BL.out.later hy2);replace BH:=zh (BH.out.later hy2);replace HQ:=zh (HQ.out.later hy2);replace HB:=zh (Bt HB.out hy2);clear hy hy2 hbf;go_wp2_with fail
      go_roundw
      case rel=>exact ⟨m+1,by go_num,by omega,by omega,HB,zh (by rw [Nat.add_sub_cancel,HM.out.1,if_pos h1];exact ⟨_,_,_,_,_,_,_,_,BL.out,RX.out⟩),zh (by rw [Nat.add_sub_cancel,HM.out.2,if_neg h2];exact ⟨_,_,_,_,_,_,_,_,BH.out,RH.out⟩),HQ⟩
      case measure=>simp [intOf]<;>omega
   
    ·rw [if_neg h1] at O1;obtain ⟨o1,ho1,ho2⟩:∃ o:Int,(if LO<X then (1:Int) else 0)=o∧decide (o<0)=false:=⟨_,rfl,by split<;>rfl⟩;rw [ho1] at O1;clear ho1;go_wp2_with fail
     have cBL:=BL.out.cell;have lBL:=BL.out.lt;have hbw:=HB.out;have d1:=(hbw.cell (p:=⟨b,off+m*4,none⟩) hbl).trans KC.out.1;have d2:=(hbw.cell (p:=⟨b,off+m*4+1,none⟩) hbl).trans KC.out.2.1;have d3:=(hbw.cell (p:=⟨b,off+m*4+2,none⟩) hbl).trans KC.out.2.2.1;have d4:=(hbw.cell (p:=⟨b,off+m*4+3,none⟩) hbl).trans KC.out.2.2.2;have l1:b<wr.heap.size:=Nat.lt_of_lt_of_le hbl hbw.size;refine aD [(.pure,0),(.pure,1),(.pure,2),(.read,3),(.read,4),(.ext,5),(.pure,6)] zk zk zR zP ?_;refine Wk.out ?_;refine zS ?_;clear cBL lBL;clear hbw d1 d2 d3 d4 l1;refine bW rfl rfl (fun we hbe J hJ=>?_);go_simp;have hx:Below wr.heap.size wr we:=ah;refine (O1.out _ _ _ (RX.out.later (Bt HB.out hx)) (RL.out.later (Bt HB.out hx))).mono ?_;rintro e wy ⟨rfl,h⟩;have hy:=Bt hx h;refine hJ _ _ h ?_;clear hJ J hbe hx h;refine zS ?_;refine je (fun wa hbf=>?_)
     have hy2:Below wr.heap.size wr wa:=Bt hy ah;replace BL:=zh (BL.out.later hy2);replace BH:=zh (BH.out.later hy2);replace HQ:=zh (HQ.out.later hy2);replace HB:=zh (Bt HB.out hy2);clear hy hy2 hbf;go_wp2_with fail
     by_cases h2:HI<X
     ·rw [if_neg (by grind),if_pos h2] at O2;have Tn:=BH.out.cell;have Zv:=BH.out.lt;have hbw:=HB.out;have d1:=(hbw.cell (p:=⟨b,off+m*4,none⟩) hbl).trans KC.out.1;have d2:=(hbw.cell (p:=⟨b,off+m*4+1,none⟩) hbl).trans KC.out.2.1;have d3:=(hbw.cell (p:=⟨b,off+m*4+2,none⟩) hbl).trans KC.out.2.2.1;have d4:=(hbw.cell (p:=⟨b,off+m*4+3,none⟩) hbl).trans KC.out.2.2.2;have l1:b<wa.heap.size:=Nat.lt_of_lt_of_le hbl hbw.size;refine aD [(.pure,0),(.pure,1),(.pure,2),(.read,3),(.read,4),(.ext,5),(.pure,6)] zk zk zR zP ?_;refine Wk.out ?_;refine zS ?_;clear Tn Zv;clear hbw d1 d2 d3 d4 l1;refine bW rfl rfl (fun we hbe J hJ=>?_);go_simp;have hx:Below wa.heap.size wa we:=ah;refine (O2.out _ _ _ (RX.out.later (Bt HB.out hx)) (RH.out.later (Bt HB.out hx))).mono ?_;rintro e wy ⟨rfl,h⟩;have hy:=Bt hx h;refine hJ _ _ h ?_;clear hJ J hbe hx h;refine zS ?_;refine je (fun wc hbf=>?_)
      have hy2:Below wa.heap.size wa wc:=Bt hy ah;replace BL:=zh (BL.out.later hy2);replace BH:=zh (BH.out.later hy2);replace HQ:=zh (HQ.out.later hy2);replace HB:=zh (Bt HB.out hy2);clear hy hy2 hbf;have Tn:=BH.out.cell;have fBH:=BH.out.free;have hbw:=HB.out;have d1:=(hbw.cell (p:=⟨b,off+m*4,none⟩) hbl).trans KC.out.1;have d2:=(hbw.cell (p:=⟨b,off+m*4+1,none⟩) hbl).trans KC.out.2.1;have d3:=(hbw.cell (p:=⟨b,off+m*4+2,none⟩) hbl).trans KC.out.2.2.1;have d4:=(hbw.cell (p:=⟨b,off+m*4+3,none⟩) hbl).trans KC.out.2.2.2;have l1:b<wc.heap.size:=Nat.lt_of_lt_of_le hbl hbw.size;go_wp2_with fail
      clear Tn fBH;clear hbw d1 d2 d3 d4 l1;obtain ⟨wd,EW⟩:∃ y,(((wc.setCell ⟨r,0,none⟩ (.bool xn)).setCell ⟨r,1,none⟩ (.slice Fz FC FH)).setCell ⟨r,2,none⟩ (.bool xd)).setCell ⟨r,3,none⟩ (.slice FB FE FP)=y:=⟨_,rfl⟩;have t:=(((BH.out.set 0 (.bool xn)).set 1 (.slice Fz FC FH)).set 2 (.bool xd)).set 3 (.slice FB FE FP);rw [EW] at t;replace BH:Hid (au wd r #[.bool xn,.slice Fz FC FH,.bool xd,.slice FB FE FP] 123):=zh t;clear t;have t:=(((BL.out.setOther (a:=⟨r,0,none⟩) (.bool xn) hne).setOther (a:=⟨r,1,none⟩) (.slice Fz FC FH) hne).setOther (a:=⟨r,2,none⟩) (.bool xd) hne).setOther (a:=⟨r,3,none⟩) (.slice FB FE FP) hne;rw [EW] at t;replace BL:=zh t;clear t;have t:=(((HQ.out.setOther (a:=⟨r,0,none⟩) (.bool xn) nr).setOther (a:=⟨r,1,none⟩) (.slice Fz FC FH) nr).setOther (a:=⟨r,2,none⟩) (.bool xd) nr).setOther (a:=⟨r,3,none⟩) (.slice FB FE FP) nr;rw [EW] at t
      replace HQ:=zh t;clear t;have t:=(((HB.out.setCell (p:=⟨r,0,none⟩) (Nat.le_of_lt hgr) (.bool xn)).setCell (p:=⟨r,1,none⟩) (Nat.le_of_lt hgr) (.slice Fz FC FH)).setCell (p:=⟨r,2,none⟩) (Nat.le_of_lt hgr) (.bool xd)).setCell (p:=⟨r,3,none⟩) (Nat.le_of_lt hgr) (.slice FB FE FP);rw [EW] at t;replace HB:=zh t;clear t;rw [EW];clear EW;go_roundw
      case rel=>exact ⟨m+1,by go_num,by omega,by omega,HB,zh (by rw [Nat.add_sub_cancel,HM.out.1,if_neg h1];exact ⟨_,_,_,_,_,_,_,_,BL.out,RL.out⟩),zh (by rw [Nat.add_sub_cancel,HM.out.2,if_pos h2];exact ⟨_,_,_,_,_,_,_,_,BH.out,RX.out⟩),HQ⟩
      case measure=>simp [intOf]<;>omega
     ·have ho3:∃ o:Int,(if X<HI then (-1:Int) else if HI<X then 1 else 0)=o∧decide (0<o)=false:=⟨_,rfl,by rw [if_neg h2];split<;>rfl⟩;obtain ⟨o2,ho4,ho5⟩:=ho3;rw [ho4] at O2;clear ho4;have Tn:=BH.out.cell;have Zv:=BH.out.lt;have hbw:=HB.out;have d1:=(hbw.cell (p:=⟨b,off+m*4,none⟩) hbl).trans KC.out.1;have d2:=(hbw.cell (p:=⟨b,off+m*4+1,none⟩) hbl).trans KC.out.2.1;have d3:=(hbw.cell (p:=⟨b,off+m*4+2,none⟩) hbl).trans KC.out.2.2.1;have d4:=(hbw.cell (p:=⟨b,off+m*4+3,none⟩) hbl).trans KC.out.2.2.2;have l1:b<wa.heap.size:=Nat.lt_of_lt_of_le hbl hbw.size;refine aD [(.pure,0),(.pure,1),(.pure,2),(.read,3),(.read,4),(.ext,5),(.pure,6)] zk zk zR zP ?_;refine Wk.out ?_;refine zS ?_;clear Tn Zv;clear hbw d1 d2 d3 d4 l1;refine bW rfl rfl (fun we hbe J hJ=>?_);go_simp;have hx:Below wa.heap.size wa we:=ah
      refine (O2.out _ _ _ (RX.out.later (Bt HB.out hx)) (RH.out.later (Bt HB.out hx))).mono ?_;rintro e wy ⟨rfl,h⟩;have hy:=Bt hx h;refine hJ _ _ h ?_;clear hJ J hbe hx h;refine zS ?_;refine je (fun wc hbf=>?_);have hy2:Below wa.heap.size wa wc:=Bt hy ah;replace BL:=zh (BL.out.later hy2);replace BH:=zh (BH.out.later hy2);replace HQ:=zh (HQ.out.later hy2);replace HB:=zh (Bt HB.out hy2);clear hy hy2 hbf;go_wp2_with fail
      go_roundw
      case rel=>exact ⟨m+1,by go_num,by omega,by omega,HB,zh (by rw [Nat.add_sub_cancel,HM.out.1,if_neg h1];exact ⟨_,_,_,_,_,_,_,_,BL.out,RL.out⟩),zh (by rw [Nat.add_sub_cancel,HM.out.2,if_neg h2];exact ⟨_,_,_,_,_,_,_,_,BH.out,RH.out⟩),HQ⟩
      case measure=>simp [intOf]<;>omega
   ·obtain rfl:m=n1:=by omega
    rw [HE.out] at HL HH;obtain ⟨yn,ypn,yln,ycn,yd,ypd,yld,ycd,R4,hlo⟩:=HL.out;obtain ⟨zn,zpn,zln,zcn,zd,zpd,zld,zcd,tZ,hhi⟩:=HH.out;have cl:=R4.cell;have ll:=R4.lt;have ch:=tZ.cell;have lh:=tZ.lt;go_wp2_with fail
    refine (TG.out _ _ _ (hlo.later HB.out) (hhi.later HB.out)).mono ?_;rintro e wy ⟨rfl,h⟩;have hr:=HQ.out.later h;have hb:=Bt HB.out h;have cr:=hr.cell;have fr:=hr.free;clear cl ll ch lh R4 tZ h;go_wp2_with fail
    refine aP rfl rfl ((hr.set 0 _).set 1 _) Tryz.underlying69 rfl zk ?_;exact ⟨rfl,(hb.setCell (p:=⟨w.heap.size,0,none⟩) (Nat.le_refl _) _).setCell (p:=⟨w.heap.size,1,none⟩) (Nat.le_refl _) _⟩
theorem WO (x y z t:Int) (w:World) (h:¬ (gV x y=true∧gV z t=true)):Calls Tryz.prog 149 #[.agg #[.int .i64 x,.int .i64 y],.agg #[.int .i64 z,.int .i64 t]] w (fun e w'=>e= .returned (dV ((0,0),30))∧Below w.heap.size w w'):=by
 have R1:=zh (fun W=>jo x y W);have R2:=zh (fun W=>jo z t W);cases h1:gV x y
 ·rw [h1] at R1;clear h1 h;go_enter Tryz.func149,Tryz.ntmps149
  go_wp2_with fail
  obtain ⟨u0,EW,hz,HX,HY,HR⟩:=I7 w #[.int .i64 x,.int .i64 y] 69 #[.int .i64 z,.int .i64 t] 69 #[.int .i64 0,.int .i64 0] 69;rw [EW];have HB:=zh hz;clear EW hz;refine (R1.out _).mono ?_;rintro e u1 ⟨rfl,h⟩;replace HX:=zh (HX.out.later h);replace HY:=zh (HY.out.later h);replace HR:=zh (HR.out.later h);replace HB:=zh (Bt HB.out h);clear h;have hr:=HR.out;have cr:=hr.cell;have fr:=hr.free;have hb:=HB.out;clear HX HY HR HB;go_wp2_with fail
  refine aP rfl rfl ((hr.set 0 _).set 1 _) Tryz.underlying69 rfl zk ?_;exact ⟨rfl,(hb.setCell (p:=⟨w.heap.size+1+1,0,none⟩) (by show w.heap.size≤w.heap.size+1+1;omega) _).setCell (p:=⟨w.heap.size+1+1,1,none⟩) (by show w.heap.size≤w.heap.size+1+1;omega) _⟩
 ·have h2:gV z t=false:=by
   cases h2:gV z t
   ·rfl
   ·exact absurd ⟨h1,h2⟩ h
  rw [h1] at R1;rw [h2] at R2;clear h1 h2 h;go_enter Tryz.func149,Tryz.ntmps149
  go_wp2_with fail
  obtain ⟨u0,EW,hz,HX,HY,HR⟩:=I7 w #[.int .i64 x,.int .i64 y] 69 #[.int .i64 z,.int .i64 t] 69 #[.int .i64 0,.int .i64 0] 69;rw [EW];have HB:=zh hz;clear EW hz;refine (R1.out _).mono ?_;rintro e u1 ⟨rfl,h⟩;replace HX:=zh (HX.out.later h);replace HY:=zh (HY.out.later h);replace HR:=zh (HR.out.later h);replace HB:=zh (Bt HB.out h);clear h;have xZ:=HY.out.cell;have wZ:=HY.out.lt;go_wp2_with fail
  clear xZ wZ;refine (R2.out _).mono ?_;rintro e u2 ⟨rfl,h⟩;replace HX:=zh (HX.out.later h);replace HY:=zh (HY.out.later h);replace HR:=zh (HR.out.later h);replace HB:=zh (Bt HB.out h);clear h;have hr:=HR.out;have cr:=hr.cell;have fr:=hr.free;have hb:=HB.out;clear HX HY HR HB;go_wp2_with fail
  refine aP rfl rfl ((hr.set 0 _).set 1 _) Tryz.underlying69 rfl zk ?_;exact ⟨rfl,(hb.setCell (p:=⟨w.heap.size+1+1,0,none⟩) (by show w.heap.size≤w.heap.size+1+1;omega) _).setCell (p:=⟨w.heap.size+1+1,1,none⟩) (by show w.heap.size≤w.heap.size+1+1;omega) _⟩
def prods (a b:Int × Int):List Rat:=[un a.1*un b.1,un a.1*un b.2,un a.2*un b.1,un a.2*un b.2]
def sel (a:Int × Int) (k:Nat):Int:=if k=0 then a.1 else a.2
theorem Jr (a b:Int × Int) {k j:Nat} (hk:k<2) (hj:j<2):(prods a b).take (2*k+(j+1))=(prods a b).take (2*k+j)++[un (sel a k)*un (sel b j)]:=by
 have h1:k=0∨k=1:=by omega
 have h2:j=0∨j=1:=by omega
 rcases h1 with rfl|rfl<;>rcases h2 with rfl|rfl<;>rfl
theorem Qe (a:Int × Int) {k:Nat} (hk:k<2) (W:World):(Instr.index 32 (.agg #[.int .i64 a.1,.int .i64 a.2]) (.int .i64 (k:Int))).run Tryz.prog W= .ok (.int .i64 (sel a k)) W:=by
 have h1:k=0∨k=1:=by omega
 rcases h1 with rfl|rfl
 ·show _=_;kernel_rfl
 ·show _=_;kernel_rfl
theorem TH (x y z t:Int) (w:World) (h1:gV x y=true) (h2:gV z t=true):Calls Tryz.prog 149 #[.agg #[.int .i64 x,.int .i64 y],.agg #[.int .i64 z,.int .i64 t]] w (fun e w'=>e= .returned (dV (uq (x,y) (z,t)))∧Below w.heap.size w w'):=by
  obtain ⟨i0,hi,hz0,hz1,hz2⟩:=info_parts Rq;have R1:=zh (fun W=>h1 ▸ jo x y W);have R2:=zh (fun W=>h2 ▸ jo z t W);obtain ⟨b1,b2,b3⟩:=EH h1;obtain ⟨b4,b5,b6⟩:=EH h2;have bs:∀ k, -9223372036854775808≤sel (x,y) k∧sel (x,y) k≤9223372036854775807:=fun k=>by unfold sel;split<;>simp only<;>omega
  have cs:∀ k, -9223372036854775808≤sel (z,t) k∧sel (z,t) k≤9223372036854775807:=fun k=>by unfold sel;split<;>simp only<;>omega
  have V1:=zh (fun k W=>mF (sel (x,y) k) (bs k).1 (bs k).2 W);have V2:=zh (fun k W=>mF (sel (z,t) k) (cs k).1 (cs k).2 W);have s1:=fun k=>Cb (sel (x,y) k) (bs k).1 (bs k).2;have s2:=fun k=>Cb (sel (z,t) k) (cs k).1 (cs k).2;have T1:=zh (fun k j v v' W (h:Ra W v (un (sel (x,y) k))) (h':Ra W v' (un (sel (z,t) j)))=>(ig v v' _ _ W h h' ((s1 k).mono zo) ((s2 j).mono zo)).mono fun _ _ q=>Y6 q)
  have sp:∀ q∈prods (x,y) (z,t),kL 30 q:=fun q hq=>by
   unfold prods at hq;simp only [List.mem_cons,List.not_mem_nil,or_false] at hq
   rcases hq with rfl|rfl|rfl|rfl
   ·exact (oP (s1 0) (s2 0)).mono zo
   ·exact (oP (s1 0) (s2 1)).mono zo
   ·exact (oP (s1 1) (s2 0)).mono zo
   ·exact (oP (s1 1) (s2 1)).mono zo
  have BT:Hid (∀ v W,sj W v (prods (x,y) (z,t))→Calls Tryz.prog 200 #[v] W (fun e w'=>e= .returned (dV (uq (x,y) (z,t)))∧Below W.heap.size W w')):=zh fun v W h=>by
   have:=Kk v (un x*un z) [un x*un t,un y*un z,un y*un t] 4 W h rfl zo sp;rw [show iI (un x*un z) [un x*un t,un y*un z,un y*un t]=iI (un (x,y).1*un (z,t).1) [un (x,y).1*un (z,t).2,un (x,y).2*un (z,t).1,un (x,y).2*un (z,t).2] from rfl,show dZ (un x*un z) [un x*un t,un y*un z,un y*un t]=dZ (un (x,y).1*un (z,t).1) [un (x,y).1*un (z,t).2,un (x,y).2*un (z,t).1,un (x,y).2*un (z,t).2] from rfl,M7] at this;exact this
  have I1:=zh (fun k (hk:k<2) W=>Qe (x,y) hk W);have I2:=zh (fun k (hk:k<2) W=>Qe (z,t) hk W);have PT:=zh (fun k j (hk:k<2) (hj:j<2)=>Jr (x,y) (z,t) hk hj);have PL:Hid ((prods (x,y) (z,t)).length=4):=zh rfl;obtain ⟨e1,e2,ek,ex⟩:=rO (uq (x,y) (z,t));rw [ex] at BT ⊢;unfold dV at BT ⊢;generalize prods (x,y) (z,t)=P at *;clear h1 h2 b1 b2 b3 b4 b5 b6 bs cs s1 s2 sp ex;go_enter Tryz.func149,Tryz.ntmps149
  go_wp2_with fail
  obtain ⟨u0,EW,hz,HX,HY,HR⟩:=I7 w #[.int .i64 x,.int .i64 y] 69 #[.int .i64 z,.int .i64 t] 69 #[.int .i64 0,.int .i64 0] 69;rw [EW];have HB:=zh hz;clear EW hz;refine (R1.out _).mono ?_;rintro e u1 ⟨rfl,h⟩;replace HX:=zh (HX.out.later h);replace HY:=zh (HY.out.later h);replace HR:=zh (HR.out.later h);replace HB:=zh (Bt HB.out h);clear h;have xZ:=HY.out.cell;have wZ:=HY.out.lt;go_wp2_with fail
  clear xZ wZ;refine (R2.out _).mono ?_;rintro e u2 ⟨rfl,h⟩;replace HX:=zh (HX.out.later h);replace HY:=zh (HY.out.later h);replace HR:=zh (HR.out.later h);replace HB:=zh (Bt HB.out h);clear h;have jU:=HX.out.cell;have jM:=HX.out.lt;go_wp2_with fail
  clear jU jM;clear HX
  go_loopw [6,25] (fun ov iv wr=>∃ k:Nat,iv= .int .i64 (k:Int)∧k≤2∧Hid (dH wr u2.heap.size 123 4 IK ov (P.take (2*k)))∧Below u2.heap.size u2 wr) (fun _ iv _=>2 - (intOf iv).toNat)
  case atStart=>exact ⟨0,rfl,by omega,zh (dH.nil _ _ _ _ _),Below.refl _ _⟩
  case round =>
   obtain ⟨k,rfl,hk,HG,hb⟩:=hrel
   rcases Nat.lt_or_ge k 2 with hlt|hge
   ·obtain ⟨ov,cv,rfl⟩:=HG.out.at (n:=2*k) (by rw [List.length_take,PL.out];omega);have hix:∀ W,(Instr.index 32 (.agg #[.int .i64 x,.int .i64 y]) (.int .i64 (k:Int))).run Tryz.prog W= .ok (.int .i64 (sel (x,y) k)) W:=I1.out k hlt;have hkk:(k:Int)<2:=by omega
    have VK:=zh (V1.out k);obtain ⟨X,hX⟩:∃ X,sel (x,y) k=X:=⟨_,rfl⟩;have TK:=zh (T1.out k);have PK:=zh (fun j=>PT.out k j hlt);rw [hX] at hix VK TK;simp only [hX] at PK;have hby:=HY.out.later hb;have cy:=hby.cell;have ly:=hby.lt;have HBo:=zh hb;clear hX hb;go_wp2_with fail
    clear cy ly hby hix hkk
    go_loopw [6,33] (fun ov iv wr=>∃ j:Nat,iv= .int .i64 (j:Int)∧j≤2∧Hid (dH wr u2.heap.size 123 4 IK ov (P.take (2*k+j)))∧Below u2.heap.size u2 wr) (fun _ iv _=>2 - (intOf iv).toNat)
    case atStart=>exact ⟨0,rfl,by omega,HG,HBo.out⟩
    case round =>
     obtain ⟨j,rfl,hj,HG2,hbi⟩:=hrel
     rcases Nat.lt_or_ge j 2 with hjlt|ao9
     ·obtain ⟨ov2,cv2,rfl⟩:=HG2.out.at (n:=2*k+j) (by rw [List.length_take,PL.out];omega);have hix:∀ W,(Instr.index 32 (.agg #[.int .i64 z,.int .i64 t]) (.int .i64 (j:Int))).run Tryz.prog W= .ok (.int .i64 (sel (z,t) j)) W:=I2.out j hjlt;have hjj:(j:Int)<2:=by omega
      have VJ:=zh (V2.out j);have TJ:=zh (TK.out j);have PJ:=zh (PK.out j hjlt);obtain ⟨Y,hY⟩:∃ Y,sel (z,t) j=Y:=⟨_,rfl⟩;rw [hY] at hix VJ TJ PJ;have HB:=zh hbi;clear hbi hY;go_wp2_with fail
      clear hix hjj;have Us:=zh (Below.refl wr.heap.size wr);refine (VK.out _).mono ?_;rintro e u11 ⟨v1,rfl,h,hm⟩;replace HB:=zh (Bt HB.out h);replace Us:=zh (Bt Us.out h);clear h;have F1:=zh hm;clear hm;go_wp2_with fail
      refine (VJ.out _).mono ?_;rintro e u12 ⟨v2,rfl,h,hm⟩;replace F1:=zh (F1.out.later h);replace HB:=zh (Bt HB.out h);replace Us:=zh (Bt Us.out h);clear h;have F2:=zh hm;clear hm;go_wp2_with fail
      refine (TJ.out _ _ _ F1.out F2.out).mono ?_;rintro e u13 ⟨bn,pn,ln,cn,bd,pd,ld,cd,rfl,h,hm⟩;replace F1:=zh (F1.out.later h);replace F2:=zh (F2.out.later h);replace HB:=zh (Bt HB.out h);replace Us:=zh (Bt Us.out h);clear h;have HA:=zh hm;clear hm;have HG3:=zh (HG2.out.later (show Below wr.heap.size wr u13 from by have:=Us.out;exact this) (IK.stay zi));clear HG2 F1 F2 Us;go_wp2_with (at_builtin;refine eZ (w0:=u2) rfl (.tmp 36) (.tmp 42) 118 rfl 123 i0 (.agg #[.bool false,.slice none 0 0,.bool false,.slice none 0 0]) 4 64 Tryz.underlying118 hi hz0 hz1 hz2 rfl zd IK _ (P.take (2*k+j)) rfl (HG3.out.later ah (IK.stay zi)) (Bt HB.out ah) _ [.bool bn,.slice pn ln cn,.bool bd,.slice pd ld cd] (un X*un Y) rfl (au.new _ _ _) rfl ?c1 ⟨_,_,_,_,_,_,_,_,rfl,HA.out.later ah⟩ (IK.stay zi) ?c2 zo ?_)
      case c1=>intro u hu;simp only [List.mem_cons,List.not_mem_nil,or_false] at hu;rcases hu with rfl|rfl|rfl|rfl<;>rfl
      case c2=>rw [List.length_take,PL.out];omega
      intro v' w2 hg hb2 _;have HG4:Hid (dH w2 u2.heap.size 123 4 IK v' (P.take (2*k+(j+1)))):=zh (by rw [PJ.out];exact hg);clear hg HG3 HB HA;go_wp2_with fail
      go_roundw
      case rel=>exact ⟨j+1,by go_num,by omega,HG4,hb2⟩
      case measure=>exact zM
     ·obtain rfl:j=2:=by omega
      go_wp2_with fail
      go_roundw
      case rel=>exact ⟨k+1,by go_num,by omega,HG2,hbi⟩
      case measure=>exact zM
   ·obtain rfl:k=2:=by omega
    have e:P.take (2*2)=P:=List.take_of_length_le (by rw [PL.out];omega);rw [e] at HG;have HV:Hid (sj wr _ _):=zh HG.out.UZ;obtain ⟨ov,cv,rfl⟩:=HG.out.at (n:=4) PL.out;replace HB:=zh (Bt HB.out hb);replace HR:=zh (HR.out.later hb);clear HG hb HY;go_wp2_with fail
    refine (BT.out _ _ HV.out).mono ?_;rintro e wz ⟨rfl,h⟩;have hr:=HR.out.later h;have cr:=hr.cell;have fr:=hr.free;have hb:=Bt HB.out h;clear h;go_wp2_with fail

    refine aP rfl rfl ((hr.set 0 _).set 1 _) Tryz.underlying69 rfl zk ?_;exact ⟨rfl,(hb.setCell (p:=⟨w.heap.size+1+1,0,none⟩) (by show w.heap.size≤w.heap.size+1+1;omega) _).setCell (p:=⟨w.heap.size+1+1,1,none⟩) (by show w.heap.size≤w.heap.size+1+1;omega) _⟩
theorem Kr (a b:Int × Int) (w:World):Calls Tryz.prog 149 #[.agg #[.int .i64 a.1,.int .i64 a.2],.agg #[.int .i64 b.1,.int .i64 b.2]] w (fun e w'=>e= .returned (dV (dJ.qH a b))∧Below w.heap.size w w'):=by
 unfold dJ.qH okB;simp only [List.all_cons,List.all_nil,Bool.and_true]
 by_cases h:gV a.1 a.2=true∧gV b.1 b.2=true
 ·rw [if_pos (by simp [h.1,h.2])];exact TH _ _ _ _ w h.1 h.2
 ·rw [if_neg (by simpa using h)];exact WO _ _ _ _ w h
end Go.Proofs.bJ
namespace Go.Proofs.aF
open Go Go.RowKit Go.SW Go.Num Go.Mem Go.Proofs Go.Dec Go.cK Go.Proofs.dJ Go.Proofs.matrix Go.Proofs.aH Go.Proofs.bJ
theorem OA {f:Nat→(Int × Int) × Int} {p:Int × Int} (h:f 0=(p,0)):fC f 0=(p,0):=by
 show JE (f 0)=_
 rw [h];rfl
theorem Ev {f:Nat→(Int × Int) × Int} {k:Int} (h:(f 0).2=k) (hk:¬ k=0):fC f 0=((0,0),k):=by
 show JE (f 0)=_
 rw [DL (by rw [h];exact hk),h]
theorem Wy {f:Nat→(Int × Int) × Int} {i:Nat} {s:Int × Int} {k:Int} (hs:fC f i=(s,0)) (h:(f (i+1)).2=k) (hk:¬ k=0):fC f (i+1)=((0,0),k):=by
 show (if (fC f i).2=0 then (if (f (i+1)).2=0 then JE (dJ.iC (fC f i).1 (f (i+1)).1) else ((0,0),(f (i+1)).2)) else fC f i)=_
 rw [if_pos (by rw [hs]),if_neg (by rw [h];exact hk),h]
theorem Tp {f:Nat→(Int × Int) × Int} {i:Nat} {s p:Int × Int} {r:(Int × Int) × Int} (hs:fC f i=(s,0)) (h:f (i+1)=(p,0)) (ha:dJ.iC s p=r):fC f (i+1)=JE r:=by
 show (if (fC f i).2=0 then (if (f (i+1)).2=0 then JE (dJ.iC (fC f i).1 (f (i+1)).1) else ((0,0),(f (i+1)).2)) else fC f i)=_
 rw [if_pos (by rw [hs]),if_pos (by rw [h]),hs,h,ha]
def TB (f:Nat→(Int × Int) × Int) (i:Nat) (s:Int × Int):Prop:=(i=0∧s=(0,0))∨∃ j,i=j+1∧fC f j=(s,0)
theorem TB.no {f:Nat→(Int × Int) × Int} {i:Nat} {s:Int × Int} {k:Int} (h:TB f i s) (h2:(f i).2=k) (hk:¬ k=0):fC f i=((0,0),k):=by
 rcases h with ⟨rfl, -⟩|⟨j,rfl,hj⟩
 ·exact Ev h2 hk
 ·exact Wy hj h2 hk
theorem Mj (r:(Int × Int) × Int):∃ x y k:Int,r=((x,y),k):=⟨r.1.1,r.1.2,r.2,rfl⟩
theorem ab7 (vr vl:Value) (row:List Fr) (l:List (Int × Int)) (n:Nat) (w:World) (hr:gX w 59 vr row) (hl:jZ w 69 vl l) (hf:∀ x∈row,Fits x) (hn:row.length=n) (h1:1≤n) (h2:n≤l.length) (h3:n≤1000) :
  Calls Tryz.prog 90 #[vr,vl] w (fun e w'=>e= .returned (dV (gL row l))∧Below w.heap.size w w'):=by
 obtain ⟨a,cap,rfl, -, -, hra⟩:=hr.read;obtain ⟨a2,cap2,rfl, -, -, hla⟩:=hl.read;rw [hn];obtain ⟨f,Ef⟩:∃ f:Nat→(Int × Int) × Int,f=fun i=>pU (row.getD i Fr.no) (l.getD i (0,0)):=⟨_,rfl⟩
 have H:Hid (∀ k,k<n→∃ b off s t b' off' x y,a=some ⟨b,off,none⟩∧b<w.heap.size∧w.cell? ⟨b,off+k*2,none⟩=some (.string s)∧w.cell? ⟨b,off+k*2+1,none⟩=some (.string t)∧a2=some ⟨b',off',none⟩∧b'<w.heap.size∧w.cell? ⟨b',off'+k*2,none⟩=some (.int .i64 x)∧w.cell? ⟨b',off'+k*2+1,none⟩=some (.int .i64 y)∧Fits ⟨s,t⟩∧f k=pU ⟨s,t⟩ (x,y)):=zh fun k hk=>by
  have q1:k<row.length:=by omega
  have q2:k<l.length:=by omega
  obtain ⟨b,off,e1,e2,e3,e4⟩:=hra k q1;obtain ⟨b',off',e5,e6,e7,e8⟩:=hla k q2;refine ⟨b,off,row[k].n,row[k].d,b',off',l[k].1,l[k].2,e1,e2,e3,e4,e5,e6,e7,e8,hf _ (List.getElem_mem q1),?_⟩;rw [Ef];simp [q1,q2]
 have HE:Hid (gL row l=fC f (n - 1)):=zh (by unfold gL;rw [hn,Ef])
 have HST:Hid (∀ (i:Nat) (k:Int),i<n→fC f i=((0,0),k)→¬ k=0→gL row l=((0,0),k)):=zh fun i k hi hk h0=>by
  rw [HE.out,nW (by rw [hk];exact h0) (show i≤n - 1 by omega),hk]
 generalize gL row l=res at *;clear hra hla hr hl hf Ef;generalize l.length=nl at *;go_enter Tryz.func90,Tryz.ntmps90
 go_wp2_with fail
 obtain ⟨u0,EW,hz,HR,HS⟩:=yB w #[.int .i64 0,.int .i64 0] 69 #[.int .i64 0,.int .i64 0] 69;rw [EW];have HB0:=zh hz;clear EW hz
 go_loopw [7] (fun iv wr=>∃ i:Nat,iv= .int .i64 (i:Int)∧i≤n∧Hid (Below w.heap.size w wr)∧Hid (∃ s1 s2,TB f i (s1,s2)∧au wr (w.heap.size+1) #[.int .i64 s1,.int .i64 s2] 69)∧Hid (au wr w.heap.size #[.int .i64 0,.int .i64 0] 69)) (fun iv _=>n - (intOf iv).toNat)
 case atStart=>exact ⟨0,rfl,by omega,HB0,zh ⟨0,0,.inl ⟨rfl,rfl⟩,HS.out⟩,HR⟩
 case round =>
  obtain ⟨i,rfl,hi,HB,HS2,HR⟩:=hrel;clear HB0 HS;obtain ⟨s1,s2,hso,hsb⟩:=HS2.out;have HS:=zh hsb;have HO:=zh hso;clear hsb hso HS2
  rcases Nat.lt_or_ge i n with hlt|hge
  ·obtain ⟨b,off,s,t,b',off',x,y,e1,hbl,c1,c2,e2,nE,c3,c4,hfi,hfk⟩:=H.out i hlt;have hin:i<nl:=by omega
   subst e1 e2;have d1:=(HB.out.cell (p:=⟨b,off+i*2,none⟩) hbl).trans c1;have d2:=(HB.out.cell (p:=⟨b,off+i*2+1,none⟩) hbl).trans c2;have l1:b<wr.heap.size:=Nat.lt_of_lt_of_le hbl HB.out.size;have K3:=zh (And.intro nE (And.intro c3 c4));have AR:=zh (fun W=>bJ.wS ⟨s,t⟩ W hfi);unfold Fr.v at AR;have HK:=zh hfk;clear c1 c2 c3 c4 hbl nE hfi hfk;obtain ⟨a1,a2,k1,EA⟩:=Mj (fJ ⟨s,t⟩);rw [EA] at AR;unfold dV at AR;have HEA:=zh EA;clear EA;go_wp2_with fail
   clear d1 d2 l1;refine (AR.out _).mono ?_;rintro e u1 ⟨rfl,h⟩;replace HR:=zh (HR.out.later h);replace HS:=zh (HS.out.later h);replace HB:=zh (Bt HB.out h);clear h
   by_cases hk1:k1=0
   ·subst hk1;have EF:f i=dJ.qH (a1,a2) (x,y):=by rw [HK.out];unfold pU;rw [HEA.out];rfl
    obtain ⟨p1,p2,k2,EM⟩:=Mj (dJ.qH (a1,a2) (x,y));have ML:=zh (fun W=>bJ.Kr (a1,a2) (x,y) W);rw [EM] at EF ML;unfold dV at ML;have HEF:=zh EF;clear EF EM HK HEA;go_wp2_with fail
    obtain ⟨wv,EW,hz,HA⟩:=oz u1 #[.int .i64 a1,.int .i64 a2] 69;rw [EW];obtain ⟨ba,eba⟩:∃ y,u1.heap.size=y:=⟨_,rfl⟩;rw [eba] at HA ⊢;replace HR:=zh (HR.out.later hz);replace HS:=zh (HS.out.later hz);replace HB:=zh (Bt HB.out hz);clear EW hz eba;have cA:=HA.out.cell;have lA:=HA.out.lt;have d3:=(HB.out.cell (p:=⟨b',off'+i*2,none⟩) K3.out.1).trans K3.out.2.1;have d4:=(HB.out.cell (p:=⟨b',off'+i*2+1,none⟩) K3.out.1).trans K3.out.2.2;have l2:b'<wv.heap.size:=Nat.lt_of_lt_of_le K3.out.1 HB.out.size;refine aD [(.read,0),(.pure,1),(.pure,2),(.pure,3),(.read,4),(.ext,5),(.pure,6),(.pure,7),(.pure,8),(.alloc #[.int .i64 0,.int .i64 0] 69,9),(.fin,10),(.fin,11)] zk zk zR zP ?_;refine Wk.out ?_;refine zS ?_;clear cA lA d3 d4 l2;refine bW rfl rfl (fun we hbe J hJ=>?_);go_simp;have hx:Below wv.heap.size wv we:=ah;refine (ML.out _).mono ?_;rintro e u2 ⟨rfl,h⟩;have hy:=Bt hx h
    refine hJ _ _ h ?_;clear hJ J hbe hx h;refine zS ?_;refine qc rfl (fun bp wg hbg hq1 hq2 hq3 wD=>?_);go_simp;replace wD:au wg bp #[.int .i64 0,.int .i64 0] 69:=wD;refine mJ [_,_] rfl (fun wh tZ=>?_);have hd:Below wv.heap.size wv wh:=Bt (Bt (Bt hy ah) hbg) tZ;have hg:w.heap.size+1<bp:=by have:=HS.out.lt;have:=hy.size;omega
    have hP:=wD.later tZ;have cP:=hP.cell;have fP:=hP.free;clear wD hbg tZ hy hq1 hq2 hq3
    by_cases hk2:k2=0
    ·subst hk2
     by_cases hi0:i=0
     ·subst hi0;have XD:w.heap.size+1≠bp:=by omega
      have nb2:bp≠w.heap.size+1:=by omega
      have hs3:=HS.out.later hd;have cS:=hs3.cell;have fS:=hs3.free;have hr:=HR.out.later hd;have hb:=Bt HB.out hd;clear HR HS HB HA;go_wp2_with fail
      clear cP fP cS fS;have XC:w.heap.size≠bp:=by omega
      have Zk:w.heap.size≠w.heap.size+1:=by omega
      have g1:=(((hr.setOther (a:=⟨bp,0,none⟩) (.int .i64 p1) XC).setOther (a:=⟨bp,1,none⟩) (.int .i64 p2) XC).setOther (a:=⟨w.heap.size+1,0,none⟩) (.int .i64 p1) Zk).setOther (a:=⟨w.heap.size+1,1,none⟩) (.int .i64 p2) Zk;have g2:=(((hs3.setOther (a:=⟨bp,0,none⟩) (.int .i64 p1) XD).setOther (a:=⟨bp,1,none⟩) (.int .i64 p2) XD).set 0 (.int .i64 p1)).set 1 (.int .i64 p2);have g3:=(((hb.setCell (p:=⟨bp,0,none⟩) (by show w.heap.size≤bp;omega) (.int .i64 p1)).setCell (p:=⟨bp,1,none⟩) (by show w.heap.size≤bp;omega) (.int .i64 p2)).setCell (p:=⟨w.heap.size+1,0,none⟩) (by show w.heap.size≤w.heap.size+1;omega) (.int .i64 p1)).setCell (p:=⟨w.heap.size+1,1,none⟩) (by show w.heap.size≤w.heap.size+1;omega) (.int .i64 p2);go_roundw
      case rel=>exact ⟨1,by go_num,by omega,zh g3,zh ⟨p1,p2,.inr ⟨0,rfl,OA HEF.out⟩,g2⟩,zh g1⟩
      case measure=>simp [intOf]<;>omega
     ·obtain ⟨j,rfl,hj⟩:∃ j,i=j+1∧fC f j=((s1,s2),0):=by
       rcases HO.out with ⟨h, -⟩|⟨j,h1,h2⟩
       ·exact absurd h hi0
       ·exact ⟨j,h1,h2⟩
      have hi1:(((j+1:Nat):Int) == 0)=false:=by simp;omega
      obtain ⟨q1,q2,k3,EA⟩:=Mj (dJ.iC (s1,s2) (p1,p2));have AD:=zh (fun W=>bJ.KO (s1,s2) (p1,p2) W);have Bj:=zh (Tp hj HEF.out EA);rw [EA] at AD;unfold dV at AD;have XD:w.heap.size+1≠bp:=by omega
      have nb2:bp≠w.heap.size+1:=by omega
      have XC:w.heap.size≠bp:=by omega
      have Zk:w.heap.size≠w.heap.size+1:=by omega
      have hs3:=HS.out.later hd;have cS:=hs3.cell;have lS:=hs3.lt;have hr:=HR.out.later hd;have hb:=Bt HB.out hd;clear HR HS HB HA EA hj HO;go_wp2_with fail
      clear cP fP cS lS;refine (AD.out _).mono ?_;rintro e u4 ⟨rfl,h⟩;have g1:=((hr.setOther (a:=⟨bp,0,none⟩) (.int .i64 p1) XC).setOther (a:=⟨bp,1,none⟩) (.int .i64 p2) XC).later h;have g2:=((hs3.setOther (a:=⟨bp,0,none⟩) (.int .i64 p1) XD).setOther (a:=⟨bp,1,none⟩) (.int .i64 p2) XD).later h;have g3:=Bt ((hb.setCell (p:=⟨bp,0,none⟩) (by show w.heap.size≤bp;omega) (.int .i64 p1)).setCell (p:=⟨bp,1,none⟩) (by show w.heap.size≤bp;omega) (.int .i64 p2)) h;have cS:=g2.cell;have fS:=g2.free;clear h hr hs3 hb hd hP
      by_cases hk3:k3=0
      ·subst hk3;go_wp2_with fail
       clear cS fS;go_roundw
       case rel=>exact ⟨j+1+1,by go_num,by omega,zh ((g3.setCell (p:=⟨w.heap.size+1,0,none⟩) (by show w.heap.size≤w.heap.size+1;omega) _).setCell (p:=⟨w.heap.size+1,1,none⟩) (by show w.heap.size≤w.heap.size+1;omega) _),zh ⟨q1,q2,.inr ⟨j+1,rfl,by rw [Bj.out,JD rfl]⟩,(g2.set 0 _).set 1 _⟩,zh ((g1.setOther (a:=⟨w.heap.size+1,0,none⟩) _ Zk).setOther (a:=⟨w.heap.size+1,1,none⟩) _ Zk)⟩
       case measure=>simp [intOf]<;>omega
      ·have hk:(k3 == 0)=false:=by simpa using hk3
       have hres:=HST.out (j+1) k3 hlt (by rw [Bj.out,DL hk3]) hk3;have c1:=g1.cell;have f1:=g1.free;have nb5:w.heap.size+1≠w.heap.size:=by omega
       go_wp2_with fail
       refine aP rfl rfl ((((g1.setOther (a:=⟨w.heap.size+1,0,none⟩) (.int .i64 q1) Zk).setOther (a:=⟨w.heap.size+1,1,none⟩) (.int .i64 q2) Zk).set 0 _).set 1 _) Tryz.underlying69 rfl zk ?_;exact ⟨by rw [hres];rfl,(((g3.setCell (p:=⟨w.heap.size+1,0,none⟩) (by show w.heap.size≤w.heap.size+1;omega) _).setCell (p:=⟨w.heap.size+1,1,none⟩) (by show w.heap.size≤w.heap.size+1;omega) _).setCell (p:=⟨w.heap.size,0,none⟩) (Nat.le_refl _) _).setCell (p:=⟨w.heap.size,1,none⟩) (Nat.le_refl _) _⟩
    ·have hk:(k2 == 0)=false:=by simpa using hk2
     have hres:=HST.out i k2 hlt (HO.out.no (by rw [HEF.out]) hk2) hk2;have XC:w.heap.size≠bp:=by omega
     have nb6:bp≠w.heap.size:=by omega
     have hr:=HR.out.later hd;have hb:=Bt HB.out hd;have cR:=hr.cell;have fR:=hr.free;clear HR HS HB HA HO;go_wp2_with fail
     refine aP rfl rfl ((((hr.setOther (a:=⟨bp,0,none⟩) (.int .i64 p1) XC).setOther (a:=⟨bp,1,none⟩) (.int .i64 p2) XC).set 0 _).set 1 _) Tryz.underlying69 rfl zk ?_;exact ⟨by rw [hres];rfl,(((hb.setCell (p:=⟨bp,0,none⟩) (by show w.heap.size≤bp;omega) _).setCell (p:=⟨bp,1,none⟩) (by show w.heap.size≤bp;omega) _).setCell (p:=⟨w.heap.size,0,none⟩) (Nat.le_refl _) _).setCell (p:=⟨w.heap.size,1,none⟩) (Nat.le_refl _) _⟩
   ·have hk:(k1 == 0)=false:=by simpa using hk1
    have hres:=HST.out i k1 hlt (HO.out.no (by rw [HK.out];unfold pU;rw [HEA.out,if_neg hk1]) hk1) hk1;have hr:=HR.out.alloc (.cells #[.int .i64 a1,.int .i64 a2] 69);have hb:=Bt HB.out (show Below u1.heap.size u1 (u1.alloc (.cells #[.int .i64 a1,.int .i64 a2] 69)) from ah);have cR:=hr.cell;have fR:=hr.free;clear HR HS HB HO HK HEA;go_wp2_with fail
    refine aP rfl rfl ((hr.set 0 _).set 1 _) Tryz.underlying69 rfl zk ?_;exact ⟨by rw [hres];rfl,(hb.setCell (p:=⟨w.heap.size,0,none⟩) (Nat.le_refl _) _).setCell (p:=⟨w.heap.size,1,none⟩) (Nat.le_refl _) _⟩
  ·obtain rfl:i=n:=by omega
   have hres:res=((s1,s2),0):=by
    rcases HO.out with ⟨h, -⟩|⟨j,h1,h2⟩
    ·omega
    ·rw [HE.out,h1,Nat.add_sub_cancel,h2]
   have hs3:=HS.out;have cS:=hs3.cell;have lS:=hs3.lt;have hr:=HR.out;have cR:=hr.cell;have fR:=hr.free;have hb:=HB.out;clear HR HS HB HO;go_wp2_with fail
   refine aP rfl rfl ((hr.set 0 _).set 1 _) Tryz.underlying69 rfl zk ?_;exact ⟨by rw [hres];rfl,(hb.setCell (p:=⟨w.heap.size,0,none⟩) (Nat.le_refl _) _).setCell (p:=⟨w.heap.size,1,none⟩) (Nat.le_refl _) _⟩
def WL:Rl (Int × Int):=fun _ b c=>c=[.int .i64 b.1,.int .i64 b.2]
theorem WL.stay (m:List TypeId):r9 m WL:=fun _ _ _ _ _ h=>h
theorem Wz {w:World} {T T':TypeId} {v:Value} {l:List (Int × Int)} (h:wP w T 2 WL v l):jZ w T' v l:=by
 obtain ⟨a,cap,h1,h2,h3,h4⟩:=h.read;refine ⟨a,cap,h1,h2,h3,fun k hk=>?_⟩;obtain ⟨b,off,c,k1,k2,k3, -, k5⟩:=h4 k hk;have e:c=[.int .i64 l[k].1,.int .i64 l[k].2]:=k3;subst e;exact ⟨b,off,k1,k2,k5 0 zo,k5 1 zo⟩
theorem Gr {l:List (Int × Int)} {k:Int} (hk:¬ k=0):∀ (m:List (List Fr)) (i:Nat) (hi:i<m.length),(∀ j (hj:j<i),(gL (m[j]'zo) l).2=0)→(gL m[i] l).2=k→nM m l=([],k)
 | [],i,hi,_,_=>by cases hi
 | r::m,0,_,_,h=>by
  have h':(gL r l).2=k:=h;unfold nM;rw [if_neg (by rw [h'];exact hk),h']
 | r::m,i+1,hi,hb,h=>by
  have h0:(gL r l).2=0:=hb 0 zo;have:=Gr hk m i (by simpa using hi) (fun j hj=>hb (j+1) zo) h;unfold nM;rw [if_pos h0,this];simp only;rw [if_neg hk]
theorem QL (x y:Int) (w:World):(binOp .neq 69 (.agg #[.int .i64 x,.int .i64 y]) (.agg #[.int .i64 x,.int .i64 y])).run Tryz.prog w= .ok (.bool false) w:=by go_simp
theorem vC (w:World) (T:TypeId):jZ w T (.slice none 0 0) []:=⟨none,0,rfl,Nat.le_refl _,by omega,fun k hk=>by cases hk⟩
theorem OB (v vl:Value) (m:List (List Fr)) (l:List (Int × Int)) (w:World) (h:aN w v m) (hf:sM m) (hl:jZ w 69 vl l) (hk:jQ m=false) :
  Calls Tryz.prog 42 #[v,vl] w (lW w ([],50)):=by
 have HR:=zh (gK v m w h hf);rw [hk] at HR;obtain ⟨a,cap,rfl, -, -, -⟩:=aN.read h;obtain ⟨a2,cap2,rfl, -, -, -⟩:=hl;clear hk hf h;go_enter Tryz.func42,Tryz.ntmps42
 go_wp2_with fail
 refine HR.out.mono ?_;rintro e w1 ⟨rfl,hb⟩;go_wp2_with fail
 go_ret2
 exact ⟨_,rfl,hb,vC _ _⟩
theorem O9 (v vl:Value) (m:List (List Fr)) (l:List (Int × Int)) (w:World) (h:aN w v m) (hf:sM m) (hl:jZ w 69 vl l) :
  Calls Tryz.prog 42 #[v,vl] w (lW w (jV m l)):=by
 cases hok:jQ m with
 | false =>
  rw [show jV m l=([],50) by unfold jV;rw [if_neg (by rw [hok];simp)]];exact OB v vl m l w h hf hl hok
 | true =>
  obtain ⟨i0,hi,hz0,hz1,hz2⟩:=info_parts zL;have HRI:=zh (gK v m w h hf);rw [hok] at HRI;obtain ⟨h1m,h4m,h1c,h4c,hrows⟩:=iU hok;obtain ⟨a,cap,rfl, -, -, hra⟩:=aN.read h;obtain ⟨a2,cap2,rfl,hq1,hq2,hla⟩:=id hl;have hlb:l.length≤9223372036854775807:=by omega
  clear hq1 hq2
  have E30:Hid (∀ i (hi:i<l.length),gV l[i].1 l[i].2=false→jV m l=([],30)):=zh fun i hi hb=>by
   unfold jV
   rw [if_pos hok,if_neg (fun hall=>by
    have:=List.all_eq_true.1 hall l[i] (List.getElem_mem hi);rw [hb] at this;cases this)]
  have EAA:Hid ((∀ i (hi:i<l.length),gV l[i].1 l[i].2=true)→jV m l=if l.length=(m.headD []).length then nM m l else ([],2)):=zh fun hv=>by
   unfold jV
   rw [if_pos hok,if_pos (List.all_eq_true.2 fun x hx=>by
    obtain ⟨i,hi,rfl⟩:=List.getElem_of_mem hx;exact hv i hi)]
  have HL:Hid (∀ k (_:k<l.length),∃ b off,a2=some ⟨b,off,none⟩∧b<w.heap.size∧w.cell? ⟨b,off+k*2,none⟩=some (.int .i64 l[k].1)∧w.cell? ⟨b,off+k*2+1,none⟩=some (.int .i64 l[k].2)):=zh hla;have HM:Hid (∀ k (_:k<m.length),∃ b off a' c',a=some ⟨b,off,none⟩∧b<w.heap.size∧w.cell? ⟨b,off+k,none⟩=some (.slice a' m[k].length c')∧gX w 59 (.slice a' m[k].length c') m[k]):=zh hra;have HW:=zh hrows;have HF:=zh hf;have rR:=zh hl;obtain ⟨b0,am6,pa0,pc0,e0,aq5,hc0,hf0⟩:=hra 0 zo;have eh:m[0].length=(m.headD []).length:=by cases m with|nil=>cases h1m|cons=>rfl
  rw [eh] at hc0;have HE0:=zh (eh);clear hra hla hl hf h hok hrows hf0 eh;subst e0;go_enter Tryz.func42,Tryz.ntmps42
  go_wp2_with fail
  refine HRI.out.mono ?_;rintro e w1 ⟨rfl,hb1⟩;go_wp2_with fail
  go_loopw [6] (fun iv wr=>∃ k:Nat,iv= .int .i64 (k:Int)∧k≤l.length∧Hid (Below w.heap.size w wr)∧Hid (∀ i (hi:i<l.length),i<k→gV l[i].1 l[i].2=true)) (fun iv _=>l.length - (intOf iv).toNat)
  case atStart=>exact ⟨0,rfl,by omega,zh hb1,zh fun i _ h=>by cases h⟩
  case round =>
   obtain ⟨k,rfl,hk,HB,HV⟩:=hrel;clear hb1
   rcases Nat.lt_or_ge k l.length with hlt|hge
   ·obtain ⟨b,off,rfl,hbl,c1,c2⟩:=HL.out k hlt;have d1:=(HB.out.cell (p:=⟨b,off+k*2,none⟩) hbl).trans c1;have d2:=(HB.out.cell (p:=⟨b,off+k*2+1,none⟩) hbl).trans c2;have l1:b<wr.heap.size:=Nat.lt_of_lt_of_le hbl HB.out.size;have RI:=zh (fun W=>jo l[k].1 l[k].2 W);have E3:=zh (E30.out k hlt)
    have qZ:Hid (gV l[k].1 l[k].2=true→∀ i (hi:i<l.length),i<k+1→gV l[i].1 l[i].2=true):=zh fun hb i hi hik=>by
     by_cases e:i=k
     ·subst e;exact hb
     ·exact HV.out i hi zo
    obtain ⟨x,hx⟩:∃ x,l[k].1=x:=⟨_,rfl⟩;obtain ⟨y,hy⟩:∃ y,l[k].2=y:=⟨_,rfl⟩;rw [hx] at d1 RI E3 qZ;rw [hy] at d2 RI E3 qZ;clear c1 c2 hx hy HV;go_wp2_with fail
    clear d1 d2 l1;refine (RI.out _).mono ?_;rintro e w2 ⟨rfl,hb2⟩;have HB2:=zh (Bt HB.out hb2);clear hb2 HB;cases hbk:gV x y
    ·have hres:=E3.out hbk;go_wp2_with fail
     go_ret2
     exact ⟨_,by rw [hres];rfl,HB2.out,by rw [hres];exact vC _ _⟩
    ·have HV3:=zh (qZ.out hbk);clear qZ E3;go_wp2_with fail
     go_roundw
     case rel=>exact ⟨k+1,by go_num,by omega,HB2,HV3⟩
     case measure=>simp [intOf]<;>omega
   ·obtain rfl:k=l.length:=by omega
    have hE:=EAA.out (fun i hi=>HV.out i hi hi)
    have hall:Hid (∀ x∈l,gV x.1 x.2=true):=zh fun x hx=>by
     obtain ⟨i,hi,rfl⟩:=List.getElem_of_mem hx;exact HV.out i hi hi
    have d0:=(HB.out.cell (p:=⟨b0,am6,none⟩) aq5).trans hc0;have l0:b0<wr.heap.size:=Nat.lt_of_lt_of_le aq5 HB.out.size;clear HV EAA E30 HL
    by_cases hlen:l.length=(m.headD []).length
    ·rw [if_pos hlen] at hE
     have RW:Hid (∀ i (hi:i<m.length) va W,gX W 59 va m[i]→jZ W 69 (.slice a2 l.length cap2) l→Calls Tryz.prog 90 #[va,.slice a2 l.length cap2] W (fun e w'=>e= .returned (dV (gL m[i] l))∧Below W.heap.size W w')):=zh fun i hi va W q1 q2=>by
      have hr:=HW.out m[i] (List.getElem_mem hi);exact ab7 va _ m[i] l (m.headD []).length W q1 q2 (HF.out _ (List.getElem_mem hi)) hr.1 h1c zo zo
     have AT:Hid (∀ i (hi:i<m.length) (k:Int),¬ k=0→(∀ j (hj:j<i),(gL (m[j]'zo) l).2=0)→(gL m[i] l).2=k→jV m l=([],k)):=zh fun i hi k hk q1 q2=>by rw [hE];exact Gr hk m i hi q1 q2
     have AE:Hid ((∀ j (hj:j<m.length),(gL m[j] l).2=0)→jV m l=(m.map fun r=>(gL r l).1,0)):=zh fun q=>by
      rw [hE]
      exact Gq fun r hr=>by
       obtain ⟨j,hj,rfl⟩:=List.getElem_of_mem hr;exact q j hj
     generalize jV m l=res at *;rw [← hlen] at d0;clear hE hlen HW HF hall;have hlm:0<m.length:=by omega
     go_wp2_with fail
     clear d0 l0;obtain ⟨wo,hwo⟩:∃ wo:World,wo=wr:=⟨_,rfl⟩;subst hwo
     go_loopw [7,8] (fun ov iv wr=>∃ k:Nat,iv= .int .i64 (k:Int)∧k≤m.length∧Hid (dH wr wo.heap.size 69 2 WL ov ((m.take k).map fun r=>(gL r l).1))∧Hid (∀ j (hj:j<m.length),j<k→(gL m[j] l).2=0)∧Below wo.heap.size wo wr) (fun _ iv _=>m.length - (intOf iv).toNat)
     case atStart=>exact ⟨0,rfl,by omega,zh (dH.nil _ _ _ _ _),zh fun j _ h=>(by cases h),Below.refl _ _⟩
     case round =>
      obtain ⟨k,rfl,hk,HG,HV,hb⟩:=hrel
      rcases Nat.lt_or_ge k m.length with hlt|hge
      ·obtain ⟨ov,cv,rfl⟩:=HG.out.at (n:=k) (by simp;omega);obtain ⟨b,off,a',c',e,hbl,c1,hfr⟩:=HM.out k hlt;simp only [Option.some.injEq,Addr.mk.injEq,and_true] at e;obtain ⟨rfl,rfl⟩:=e;have Uu:=zh (Bt HB.out hb);have d1:=(Uu.out.cell (p:=⟨b0,am6+k,none⟩) hbl).trans c1;have l1:b0<wr.heap.size:=Nat.lt_of_lt_of_le hbl Uu.out.size;have RK:=zh (RW.out k hlt _ wr (hfr.later Uu.out) (rR.out.later Uu.out));obtain ⟨x,y,z,ex⟩:=Mj (gL m[k] l);have HX:=zh ex;rw [ex] at RK;unfold dV at RK;have HB3:=zh hb;clear c1 hfr ex hb;go_wp2_with fail
       clear d1 l1;refine RK.out.mono ?_;rintro e w2 ⟨rfl,hb2⟩
       by_cases hz:z=0
       ·subst hz;replace HG:=zh (HG.out.later hb2 (WL.stay _));replace HB3:=zh (Bt HB3.out hb2);clear hb2 RK Uu;go_wp2_with (at_builtin;refine eZ (w0:=wo) rfl (.tmp 51) (.tmp 53) 63 rfl 69 i0 (.agg #[.int .i64 0,.int .i64 0]) 2 16 Tryz.underlying63 hi hz0 hz1 hz2 rfl zd WL _ ((m.take k).map fun r=>(gL r l).1) rfl (HG.out.later ah (WL.stay _)) (Bt HB3.out ah) _ [.int .i64 x,.int .i64 y] (x,y) rfl (au.oN _ _ _ _) rfl ?c1 rfl (WL.stay _) ?c2 zo ?_)
        case c1=>intro u hu;simp only [List.mem_cons,List.not_mem_nil,or_false] at hu;rcases hu with rfl|rfl<;>rfl
        case c2=>simp;omega
        intro v' w3 hg hb3 _;have HG2:Hid (dH w3 wo.heap.size 69 2 WL v' ((m.take (k+1)).map fun r=>(gL r l).1)):=zh (by rw [List.take_succ_eq_append_getElem hlt,List.map_append,List.map_singleton,HX.out];first|exact hg|(rw [List.map_take];exact hg))
        have qZ:Hid (∀ j (hj:j<m.length),j<k+1→(gL m[j] l).2=0):=zh fun j hj hjk=>by
         by_cases e:j=k
         ·subst e;rw [HX.out]
         ·exact HV.out j hj zo
        clear hg HG HB3;go_wp2_with fail
        go_roundw
        case rel=>exact ⟨k+1,by go_num,by omega,HG2,qZ,hb3⟩
        case measure=>exact zM
       ·have hk0:(z == 0)=false:=by simpa using hz
        have hres:=AT.out k hlt z hz (fun j hj=>HV.out j zo hj) (by rw [HX.out]);have hb3:=Bt Uu.out hb2;go_wp2_with fail
        go_ret2
        exact ⟨_,by rw [hres];rfl,Bt hb3 ah,by rw [hres];exact vC _ _⟩
      ·obtain rfl:k=m.length:=by omega
       rw [List.take_length] at HG;have hres:=AE.out (fun j hj=>HV.out j hj hj);have HS:=zh (Wz (T':=69) HG.out.UZ);obtain ⟨ov,cv,rfl⟩:=HG.out.at (n:=m.length) zi;go_wp2_with fail
       go_ret2
       exact ⟨_,by rw [hres];rfl,Bt HB.out hb,by rw [hres];exact HS.out⟩
    ·rw [if_neg hlen] at hE;obtain ⟨nc,enc⟩:∃ nc,(m.headD []).length=nc:=⟨_,rfl⟩;rw [enc] at d0 hlen;clear enc h1c h4c HW HE0 hc0
     have hne:((l.length:Int) == (nc:Int))=false:=by
      rw [beq_eq_false_iff_ne];intro h;exact hlen (by exact_mod_cast h)
     have hlm:0<m.length:=by omega
     go_wp2_with fail
     go_ret2
     exact ⟨_,by rw [hE];rfl,HB.out,by rw [hE];exact vC _ _⟩
theorem EP (v1 v2:Value) (l:List (Int × Int)) (w:World) (h1:jZ w 69 v1 l) (h2:jZ w 69 v2 l) :
  Calls Tryz.prog 43 #[v1,v2] w (fun e w'=>e= .returned (.bool true)∧Below w.heap.size w w'):=by
 obtain ⟨a,cap,rfl,hq1,hq2,hra⟩:=h1;obtain ⟨a2,cap2,rfl, -, -, hla⟩:=h2;have hlb:l.length≤9223372036854775807:=by omega
 clear hq1 hq2;have H1:=zh hra;have H2:=zh hla;have Xg:= @QL;clear hra hla;go_enter Tryz.func43,Tryz.ntmps43
 go_wp2_with fail
 go_loopw [5] (fun iv wr=>∃ k:Nat,iv= .int .i64 (k:Int)∧k≤l.length∧Hid (Below w.heap.size w wr)) (fun iv _=>l.length - (intOf iv).toNat)
 case atStart=>exact ⟨0,rfl,by omega,zh (Below.refl _ _)⟩
 case round =>
  obtain ⟨k,rfl,hk,HB⟩:=hrel
  rcases Nat.lt_or_ge k l.length with hlt|hge
  ·obtain ⟨b,off,rfl,hbl,c1,c2⟩:=H1.out k hlt;obtain ⟨b',off',rfl,nE,c3,c4⟩:=H2.out k hlt;have d1:=(HB.out.cell (p:=⟨b,off+k*2,none⟩) hbl).trans c1;have d2:=(HB.out.cell (p:=⟨b,off+k*2+1,none⟩) hbl).trans c2;have d3:=(HB.out.cell (p:=⟨b',off'+k*2,none⟩) nE).trans c3;have d4:=(HB.out.cell (p:=⟨b',off'+k*2+1,none⟩) nE).trans c4;have l1:b<wr.heap.size:=Nat.lt_of_lt_of_le hbl HB.out.size;have l2:b'<wr.heap.size:=Nat.lt_of_lt_of_le nE HB.out.size;generalize l[k].1=x at *;generalize l[k].2=y at *;clear c1 c2 c3 c4;go_wp2_with fail
   go_region
   go_wp2_with fail
   go_roundw
   case rel=>exact ⟨k+1,by go_num,by omega,zh (Bt HB.out ah)⟩
   case measure=>simp [intOf]<;>omega
  ·obtain rfl:k=l.length:=by omega
   go_wp2_with fail
   go_ret
   exact ⟨rfl,HB.out⟩
end Go.Proofs.aF
