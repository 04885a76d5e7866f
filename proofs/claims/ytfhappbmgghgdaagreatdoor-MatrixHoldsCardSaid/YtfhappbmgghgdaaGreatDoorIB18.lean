/- Lemmas for the proof. No condition. -/
import Derived.Test.YtfhappbmgghgdaaGreatDoorIB01
import Derived.Test.YtfhappbmgghgdaaGreatDoorIB05
import Derived.Test.YtfhappbmgghgdaaGreatDoorIB08
import Derived.Test.YtfhappbmgghgdaaGreatDoorIB11
import Derived.Test.YtfhappbmgghgdaaGreatDoorIB12
import Derived.Test.YtfhappbmgghgdaaGreatDoorIB13
import Derived.Test.YtfhappbmgghgdaaGreatDoorIB16
import Derived.Test.YtfhappbmgghgdaaGreatDoorIB17
import Derived.ChangeSame
import Derived.ChangeVars
import Derived.ChangeArms
import Derived.ChangeMaps5
import Derived.Carry
set_option linter.unusedVariables false
set_option linter.unusedSimpArgs false
set_option maxRecDepth 100000
set_option maxHeartbeats 16000000
namespace Go.Proofs.verdigrislaw05
open Go Go.RowKit Go.SW Go.Num Go.Mem Go.Proofs Go.Dec Go.dF Go.Proofs.matrix Go.Proofs.aI
def FrR (w:World) (v:Value) (l:List Fr):Prop:=∃ a cap,v= .slice a l.length cap∧l.length≤cap∧cap≤9223372036854775807∧∀ k (_:k<l.length),∃ b off,a=some ⟨b,off,none⟩∧b<w.heap.size∧w.cell? ⟨b,off+k*2,none⟩=some (.string l[k].n)∧w.cell? ⟨b,off+k*2+1,none⟩=some (.string l[k].d)
theorem FrR.later {w w':World} {v:Value} {l:List Fr} (h:FrR w v l) (hb:Below w.heap.size w w'):FrR w' v l:=by
 obtain ⟨a,cap,h1,h2,h3,h4⟩:=h
 refine ⟨a,cap,h1,h2,h3,fun k hk=>?_⟩
 obtain ⟨b,off,k1,k2,k3,k4⟩:=h4 k hk
 exact ⟨b,off,k1,Nat.lt_of_lt_of_le k2 hb.size,(hb.cell (p:=⟨b,off+k*2,none⟩) k2).trans k3,(hb.cell (p:=⟨b,off+k*2+1,none⟩) k2).trans k4⟩
theorem frR {w:World} {T:TypeId} {v:Value} {l:List Fr} (h:gH w T v l):FrR w v l:=h.read
def MaR (w:World) (v:Value) (m:List (List Fr)):Prop:=∃ a cap,v= .slice a m.length cap∧m.length≤cap∧cap≤9223372036854775807∧∀ k (_:k<m.length),∃ b off a' n' c',a=some ⟨b,off,none⟩∧b<w.heap.size∧w.cell? ⟨b,off+k,none⟩=some (.slice a' n' c')∧FrR w (.slice a' n' c') m[k]
theorem MaR.later {w w':World} {v:Value} {m:List (List Fr)} (h:MaR w v m) (hb:Below w.heap.size w w'):MaR w' v m:=by
 obtain ⟨a,cap,h1,h2,h3,h4⟩:=h
 refine ⟨a,cap,h1,h2,h3,fun k hk=>?_⟩
 obtain ⟨b,off,a',n',c',k1,k2,k3,k4⟩:=h4 k hk
 exact ⟨b,off,a',n',c',k1,Nat.lt_of_lt_of_le k2 hb.size,(hb.cell (p:=⟨b,off+k,none⟩) k2).trans k3,k4.later hb⟩
theorem maR {w:World} {v:Value} {m:List (List Fr)} (h:aP w v m):MaR w v m:=by
 obtain ⟨a,cap,h1,h2,h3,h4⟩:=aP.read h
 refine ⟨a,cap,h1,h2,h3,fun k hk=>?_⟩
 obtain ⟨b,off,a',c',k1,k2,k3,k4⟩:=h4 k hk
 exact ⟨b,off,a',_,c',k1,k2,k3,frR k4⟩
def Dp (s:ByteArray):ByteArray:=s.extract 0 (min s.size 40)
def Ya (a:Fr):Fr:=⟨Dp a.n,Dp a.d⟩
def capL (l:List Fr):List Fr:=(l.take 5).map Ya
def pE (m:List (List Fr)):List (List Fr):=(m.take 5).map capL
theorem Hw (s:ByteArray):(Dp s).size≤40:=by unfold Dp;rw [ByteArray.size_extract];omega
theorem BH {s:ByteArray} (h:s.size≤40):Dp s=s:=by
 unfold Dp
 rw [Nat.min_eq_left h,ByteArray.extract_zero_size]
theorem capL_len (l:List Fr):(capL l).length≤5:=by unfold capL;rw [List.length_map,List.length_take];omega
theorem OJ {l:List Fr} (hl:l.length≤5) (h:∀ x∈l,x.n.size≤40∧x.d.size≤40):capL l=l:=by
 unfold capL
 rw [List.take_of_length_le hl]
 conv=>rhs;rw [← List.map_id l]
 refine List.map_congr_left fun x hx=>?_
 obtain ⟨h1,h2⟩:=h x hx
 unfold Ya
 rw [BH h1,BH h2]
 rfl
theorem capL_small {l:List Fr}:∀ x∈capL l,x.n.size≤40∧x.d.size≤40:=fun x hx=>by
 obtain ⟨y, -, rfl⟩:=List.mem_map.1 hx
 exact ⟨Hw _,Hw _⟩
def Little (m:List (List Fr)):Prop:=m.length≤5∧∀ r∈m,r.length≤5∧∀ x∈r,x.n.size≤40∧x.d.size≤40
theorem own_little (m:List (List Fr)):Little (pE m):=⟨by unfold pE;rw [List.length_map,List.length_take];omega,fun r hr=>by
 obtain ⟨s, -, rfl⟩:=List.mem_map.1 hr
 exact ⟨capL_len s,capL_small⟩⟩
theorem own_same {m:List (List Fr)} (h:Little m):pE m=m:=by
 unfold pE
 rw [List.take_of_length_le h.1]
 conv=>rhs;rw [← List.map_id m]
 exact List.map_congr_left fun r hr=>OJ (h.2 r hr).1 (h.2 r hr).2
theorem min_up (n k:Nat) (z:Int) (hz:z=(k:Int)):∃ m:Nat,m=min n k∧(∀ (ts:Array TypeId) (t:TypeId) (W:World),(Builtin.min_ ts t #[.int .i64 (n:Int),.int .i64 z]).run Tryz.prog W= .ok (.int .i64 (m:Int)) W):=by
 subst hz
 refine ⟨min n k,rfl,fun ts t W=>?_⟩
 rw [run_min_int2]
 rcases Nat.lt_or_ge k n with h|h
 ·have h1:(k:Int)<(n:Int):=by omega
  rw [if_pos h1,Nat.min_eq_right zo]
 ·have h1:¬ (k:Int)<(n:Int):=by omega
  rw [if_neg h1,Nat.min_eq_left h]
theorem slice_up (t e:TypeId) (z:Nat) (ht:Tryz.prog.underlying t=some (.slice e)) (hs:∀ W,(sizeOf e).run Tryz.prog W= .ok z W) (a:Option Addr) (n c m:Nat) (hm:m≤c) (W:World) :
  (Instr.sliceAt t (.slice a n c) none (some (.int .i64 (m:Int))) none).run Tryz.prog W= .ok (.slice a m c) W:=by
 have he:Tryz.prog.elem t=e:=by simp [Program.elem,ht]
 rw [run_sliceAt_slice (h:=by rw [he];exact ht),run_slice_h (ht:=by rw [he];exact ht) (h0:=by omega) (h2:=by omega),he,hs]
 simp only [Result.andThen,sliced,Nat.sub_zero,Int.toNat_natCast]
 split
 ·rfl
 ·cases a
  ·rfl
  ·rename_i ad
   simp [Addr.add]
theorem aa9 (t:TypeId) (ht:Tryz.prog.underlying t=some .string) (s:ByteArray) (m:Nat) (hm:m≤s.size) (W:World) :
  (Instr.sliceAt t (.string s) none (some (.int .i64 (m:Int))) none).run Tryz.prog W= .ok (.string (s.extract 0 m)) W:=by
 rw [run_sliceAt_string (h:=ht),run_slice_string_h (ht:=ht) (h0:=by omega) (h2:=by omega),Int.toNat_natCast]
theorem LM (s:ByteArray):∃ m:Nat,(∀ (ts:Array TypeId) (t:TypeId) (W:World),(Builtin.min_ ts t #[.int .i64 (s.size:Int),.int .i64 40]).run Tryz.prog W= .ok (.int .i64 (m:Int)) W)∧∀ W,(Instr.sliceAt 57 (.string s) none (some (.int .i64 (m:Int))) none).run Tryz.prog W= .ok (.string (Dp s)) W:=by
 obtain ⟨m,h1,h2⟩:=min_up s.size 40 40 rfl
 refine ⟨m,h2,fun W=>?_⟩
 rw [aa9 57 Tryz.underlying57 s m zo W,h1]
 rfl
theorem cutL_ok (v:Value) (l:List Fr) (w:World) (h:FrR w v l) :
  Calls Tryz.prog 16 #[v] w (fun e w'=>∃ a c,e= .returned (.slice a (capL l).length c)∧Below w.heap.size w w'∧gH w' 59 (.slice a (capL l).length c) (capL l)):=by
 obtain ⟨i0,hi,hz0,hz1,hz2⟩:=info_parts matrix.qE
 obtain ⟨a,cap,rfl,hc1,hc2,hread⟩:=h
 obtain ⟨m,hm,hmin⟩:=min_up l.length 5 5 rfl
 have hlen:(capL l).length=m:=by unfold capL;rw [List.length_map,List.length_take];omega
 have hml:m≤l.length:=by omega
 have hm5:m≤5:=by omega
 have hsl:=slice_up 29 59 2 Tryz.underlying29 (fun W=>by kernel_rfl) a l.length cap m zo
 have H:Hid (∀ k (_:k<m),∃ b off,a=some ⟨b,off,none⟩∧b<w.heap.size∧w.cell? ⟨b,off+k*2,none⟩=some (.string (l.getD k Fr.no).n)∧w.cell? ⟨b,off+k*2+1,none⟩=some (.string (l.getD k Fr.no).d)):=zh fun k hk=>by
  have:=hread k zo
  rw [show l.getD k Fr.no=l[k]'zo by simp [show k<l.length by omega]]
  exact this
 have HK:Hid (∀ k,k<m→(capL l).take (k+1)=(capL l).take k++[Ya (l.getD k Fr.no)]):=zh fun k hk=>by
  have hk2:k<(capL l).length:=by omega
  rw [List.take_succ_eq_append_getElem hk2]
  congr 2
  unfold capL
  simp [show k<l.length by omega]
 have HL:=zh hlen
 rw [hlen]
 clear hread hm hml hc1 hlen
 generalize l.length=n at *
 go_enter Tryz.func16,Tryz.ntmps16
 go_wp2_with fail
 go_loopw [3,12] (fun ov iv wr=>∃ k:Nat,iv= .int .i64 (k:Int)∧k≤m∧Hid (dQ wr w.heap.size 59 2 RFr ov ((capL l).take k))∧Below w.heap.size w wr) (fun _ iv _=>m - (intOf iv).toNat)
 case atStart=>exact ⟨0,rfl,by omega,zh (dQ.nil _ _ _ _ _),Below.refl _ _⟩
 case round =>
  obtain ⟨k,rfl,hk,HG,hb⟩:=hrel
  rcases Nat.lt_or_ge k m with hlt|hge
  ·obtain ⟨b,off,rfl,hbl,hx1,hx2⟩:=H.out k hlt
   have hc3:=(hb.cell (p:=⟨b,off+k*2,none⟩) hbl).trans hx1
   have hc4:=(hb.cell (p:=⟨b,off+k*2+1,none⟩) hbl).trans hx2
   have zD:b<wr.heap.size:=Nat.lt_of_lt_of_le hbl hb.size
   have HS:=zh (HK.out k hlt)
   obtain ⟨av,cv,rfl⟩:=HG.out.at (n:=k) (by rw [List.length_take,HL.out];omega)
   clear hx1 hx2
   generalize l.getD k Fr.no=lk at *
   obtain ⟨s,t⟩:=lk
   unfold Ya at HS
   simp only at hc3 hc4 HS
   obtain ⟨ms,q1,q2⟩:=LM s
   obtain ⟨mt,q3,q4⟩:=LM t
   generalize Dp s=s' at *
   generalize Dp t=t' at *
   have HB:=zh hb
   clear hb
   go_wp2_with fail
   obtain ⟨wy,EW,hz,X8⟩:=al1 wr #[.string s,.string t] 59
   rw [EW]
   have hx:=X8.out
   have HB2:=zh (Bt HB.out hz)
   have HG2:=zh (HG.out.later hz (RFr.stay _))
   obtain ⟨by',eb⟩:∃ y,wr.heap.size=y:=⟨_,rfl⟩
   rw [eb] at hx ⊢
   have cx:=hx.cell
   have lx:=hx.lt
   clear EW hz X8 HG HB hc3 hc4 zD hbl eb hx
   refine aD [(.pure,0),(.pure,1),(.read,2),(.pure,3),(.read,4),(.pure,5),(.pure,6),(.pure,7),(.pure,8),(.read,9),(.pure,10),(.read,11),(.pure,12),(.pure,13),(.pure,14),(.pure,15),(.ext,16),(.fin,17),(.fin,18)] zk zk zR zP ?_;refine Wk.out ?_;(iterate 16 (first|(apply wk_skip;(rfl);(rfl);(rfl);(intro J hJ;go_simp;(with_reducible refine hJ _ ?_);clear hJ J))|(apply wk_len;(rfl);(rfl);(rfl);(rfl);(exact zk);(intro J hJ;go_simp;(with_reducible refine hJ _ ?_);clear hJ J))|(apply wk_pure;(rfl);(rfl);(intro J hJ;go_simp;(with_reducible refine hJ _ ?_);clear hJ J))|(apply wk_load;(rfl);(rfl);(rfl);(rfl);(intro J hJ;go_simp;(with_reducible refine hJ _ ?_);clear hJ J;try go_simp))))
   refine wk_ext rfl rfl (fun wc hbc J hJ=>?_);go_simp
   have z2:Below wy.heap.size wy wc:=belA
   refine hJ _ _ belA ?_
   clear hJ J
   have hbx:=ah.new wc #[.string s',.string t'] 59
   have z4:Below wc.heap.size wc (wc.alloc (.cells #[.string s',.string t'] 59)):=belA
   refine wk_fin [_,_] rfl (fun wf hbf=>?_)
   have z5:=Bt z4 hbf
   have z6:=Bt z2 z5
   refine wpList_grow (w0:=w) rfl (.tmp 16) (.tmp 32) 29 rfl 59 i0 (.agg #[.string ⟨#[]⟩,.string ⟨#[]⟩]) 2 32 Tryz.underlying29 hi hz0 hz1 hz2 rfl zd RFr _ ((capL l).take k) rfl (HG2.out.later z6 (RFr.stay _)) (Bt HB2.out z6) _ [.string s',.string t'] ⟨s',t'⟩ rfl (hbx.later hbf) rfl (fun u hu=>by simp only [List.mem_cons,List.not_mem_nil,or_false] at hu;rcases hu with rfl|rfl<;>rfl) rfl (RFr.stay _) (by rw [List.length_take];omega) zo ?_
   intro v' w2 hg hb2 _
   have HG3:Hid (dQ w2 w.heap.size 59 2 RFr v' ((capL l).take (k+1))):=zh (by rw [HS.out];exact hg)
   clear hg HG2 HB2 hbx z2 z4 z5 z6 hbc hbf cx lx q1 q2 q3 q4 HS
   go_wp2_with fail
   go_roundw
   case rel=>exact ⟨k+1,by go_num,by omega,HG3,hb2⟩
   case measure=>exact zM
  ·obtain rfl:k=m:=by omega
   have e:(capL l).take k=capL l:=List.take_of_length_le (by rw [HL.out];omega)
   rw [e] at HG
   obtain ⟨av,cv,rfl⟩:=HG.out.at (n:=k) HL.out
   have HZ:=zh HG.out.YG.PW
   clear e HG
   go_wp2_with fail
   go_ret
   exact ⟨_,_,rfl,hb,HZ.out⟩
theorem own_ok (v:Value) (m:List (List Fr)) (w:World) (h:MaR w v m) :
  Calls Tryz.prog 26 #[v] w (fun e w'=>∃ a c,e= .returned (.slice a (pE m).length c)∧Below w.heap.size w w'∧aP w' (.slice a (pE m).length c) (pE m)):=by
 obtain ⟨i0,hi,hz0,hz1,hz2⟩:=info_parts Lu
 obtain ⟨a,cap,rfl,hc1,hc2,hread⟩:=h
 obtain ⟨n,hn,hmin⟩:=min_up m.length 5 5 rfl
 have hlen:(pE m).length=n:=by unfold pE;rw [List.length_map,List.length_take];omega
 have hsl:=slice_up 23 29 1 Tryz.underlying23 (fun W=>by kernel_rfl) a m.length cap n zo
 have H:Hid (∀ k (_:k<n),∃ b off a' n' c',a=some ⟨b,off,none⟩∧b<w.heap.size∧w.cell? ⟨b,off+k,none⟩=some (.slice a' n' c')∧FrR w (.slice a' n' c') (m.getD k [])):=zh fun k hk=>by
  obtain ⟨b,off,a',n',c',h1,h2,h3,h4⟩:=hread k zo
  rw [show m.getD k []=m[k]'zo by simp [show k<m.length by omega]]
  exact ⟨b,off,a',n',c',h1,h2,h3,h4⟩
 have HK:Hid (∀ k,k<n→(pE m).take (k+1)=(pE m).take k++[capL (m.getD k [])]):=zh fun k hk=>by
  have hk2:k<(pE m).length:=by omega
  rw [List.take_succ_eq_append_getElem hk2]
  congr 2
  unfold pE
  simp [show k<m.length by omega]
 have HL:=zh hlen
 have hn5:n≤5:=by omega
 rw [hlen]
 clear hread hn hc1 hlen
 generalize m.length=nm at *
 go_enter Tryz.func26,Tryz.ntmps26
 go_wp2_with fail
 go_loopw [3,12] (fun ov iv wr=>∃ k:Nat,iv= .int .i64 (k:Int)∧k≤n∧Hid (dQ wr w.heap.size 29 1 uY ov ((pE m).take k))∧Below w.heap.size w wr) (fun _ iv _=>n - (intOf iv).toNat)
 case atStart=>exact ⟨0,rfl,by omega,zh (dQ.nil _ _ _ _ _),Below.refl _ _⟩
 case round =>
  obtain ⟨k,rfl,hk,HG,hb⟩:=hrel
  rcases Nat.lt_or_ge k n with hlt|hge
  ·obtain ⟨b,off,a',n',c',rfl,hbl,hx1,hx2⟩:=H.out k hlt
   have hc3:=(hb.cell (p:=⟨b,off+k,none⟩) hbl).trans hx1
   have zD:b<wr.heap.size:=Nat.lt_of_lt_of_le hbl hb.size
   have HS:=zh (HK.out k hlt)
   have HC:=zh (cutL_ok _ _ wr (hx2.later hb))
   obtain ⟨av,cv,rfl⟩:=HG.out.at (n:=k) (by rw [List.length_take,HL.out];omega)
   have hlc:(capL (m.getD k [])).length≤5:=capL_len _
   clear hx1 hx2
   generalize capL (m.getD k [])=lk at *
   go_wp2_with fail
   refine HC.out.mono ?_
   rintro e w1 ⟨ax,cx,rfl,hb1,hra⟩
   have HA:=zh hra
   have HB:=zh (Bt hb hb1)
   replace HG:=zh (HG.out.later hb1 (uY.stay zi))
   clear hra hb hb1 hc3 zD hbl HC
   go_wp2_with (at_builtin;refine wpList_grow (w0:=w) rfl (.tmp 16) (.tmp 19) 23 rfl 29 i0 (.slice none 0 0) 1 24 Tryz.underlying23 hi hz0 hz1 hz2 rfl zd uY _ ((pE m).take k) rfl (HG.out.later belA (uY.stay zi)) (Bt HB.out belA) _ [.slice ax lk.length cx] lk rfl (ah.new _ _ _) rfl ?c1 ⟨_,rfl,HA.out.later belA⟩ (uY.stay zi) ?c2 zo ?_)
   case c1=>intro u hu;simp only [List.mem_cons,List.not_mem_nil,or_false] at hu;rcases hu with rfl;rfl
   case c2=>rw [List.length_take];omega
   intro v' w2 hg hb2 _
   have HG2:Hid (dQ w2 w.heap.size 29 1 uY v' ((pE m).take (k+1))):=zh (by rw [HS.out];exact hg)
   clear hg HG HA HB HS
   go_wp2_with fail
   go_roundw
   case rel=>exact ⟨k+1,by go_num,by omega,HG2,hb2⟩
   case measure=>exact zM
  ·obtain rfl:k=n:=by omega
   have e:(pE m).take k=pE m:=List.take_of_length_le (by rw [HL.out];omega)
   rw [e] at HG
   obtain ⟨av,cv,rfl⟩:=HG.out.at (n:=k) HL.out
   have HZ:=zh HG.out.YG.Jr
   clear e HG
   go_wp2_with fail
   go_ret
   exact ⟨_,_,rfl,hb,HZ.out⟩
end Go.Proofs.verdigrislaw05
namespace Go.Proofs.aI
open Go Go.RowKit Go.SW Go.Num Go.Mem Go.Proofs Go.Dec Go.dF Go.Proofs.aL Go.Proofs.aC
def jw (w:World) (v:Value):Prop:=∃ (a:Option Addr) (n cap:Nat),v= .slice a n cap∧n≤9223372036854775807∧∀ k,k<n→∃ b off f1 a1 n1 c1 z1 f2 a2 n2 c2 z2,a=some ⟨b,off,none⟩∧b<w.heap.size ∧
  w.cell? ⟨b,off+k*6,none⟩=some (.bool f1)∧w.cell? ⟨b,off+k*6+1,none⟩=some (.slice a1 n1 c1)∧w.cell? ⟨b,off+k*6+2,none⟩=some (.int .u16 z1) ∧
  w.cell? ⟨b,off+k*6+3,none⟩=some (.bool f2)∧w.cell? ⟨b,off+k*6+4,none⟩=some (.slice a2 n2 c2)∧w.cell? ⟨b,off+k*6+5,none⟩=some (.int .u16 z2)∧Words w (.slice a1 n1 c1)∧Words w (.slice a2 n2 c2)
theorem jw.later {w w':World} {v:Value} (h:jw w v) (hb:Below w.heap.size w w'):jw w' v:=by
 obtain ⟨a,n,cap,rfl,hn,h⟩:=h
 refine ⟨a,n,cap,rfl,hn,fun k hk=>?_⟩
 obtain ⟨b,off,f1,a1,n1,c1,z1,f2,a2,n2,c2,z2,rfl,h0,x0,x1,x2,x3,x4,x5,h1,h2⟩:=h k hk
 exact ⟨b,off,f1,a1,n1,c1,z1,f2,a2,n2,c2,z2,rfl,Nat.lt_of_lt_of_le h0 hb.size,(hb.cell (p:=⟨b,off+k*6,none⟩) h0).trans x0,(hb.cell (p:=⟨b,off+k*6+1,none⟩) h0).trans x1,(hb.cell (p:=⟨b,off+k*6+2,none⟩) h0).trans x2,
  (hb.cell (p:=⟨b,off+k*6+3,none⟩) h0).trans x3,(hb.cell (p:=⟨b,off+k*6+4,none⟩) h0).trans x4,(hb.cell (p:=⟨b,off+k*6+5,none⟩) h0).trans x5,h1.later hb,h2.later hb⟩
theorem JK (r c:Int) (v:Value) (k:Nat) (hk:k≤1000) (w0:World) (h:jw w0 v):∃ q:Rat,(iU q=true∧q.num.natAbs≤999∧q.den≤60)∧∀ w,Below w0.heap.size w0 w →
  Calls Tryz.prog 53 #[.agg #[.int .u8 r,.int .u8 c,v],.int .i64 (k:Int)] w (fun e w'=>e= .returned (Fr.of q).v∧Below w.heap.size w w'):=by
 have W0:∀ z:Int,0≤z∧z≤1000000000→IntKind.i64.wrap z=z:=fun z h=>by unfold IntKind.wrap;simp [IntKind.bits,IntKind.signed];omega
 obtain ⟨a,n,cap,rfl,hn,hread⟩:=h
 rcases Nat.eq_zero_or_pos n with rfl|h0
 ·refine ⟨1,by decide+kernel,fun w hW=>?_⟩
  rw [show Fr.of 1=⟨⟨#[49]⟩,⟨#[49]⟩⟩ by decide+kernel]
  clear hread hW w0 W0
  go_enter Tryz.func53,Tryz.ntmps53
  go_wp2_with fail
  refine dO rfl rfl boxA Tryz.underlying59 rfl zk ?_
  exact ⟨rfl,belA⟩
 ·obtain ⟨mm,hmm,m0,m1,m2⟩:∃ mm:Nat,min (n:Int) 16=(mm:Int)∧0<mm∧mm≤16∧mm≤n:=⟨min n 16,by omega,by omega,by omega,by omega⟩
  have hlt:=Nat.mod_lt k m0
  obtain ⟨j,Ej⟩:∃ j:Nat,k%mm=j:=⟨_,rfl⟩
  rw [Ej] at hlt
  obtain ⟨b,off,f1,a1,n1,c1,z1,f2,a2,n2,c2,z2,rfl,lb,x0,x1,x2,x3,x4,x5,y1,y2⟩:=hread j zo
  obtain ⟨q,hq,HS⟩:=UR f1 f2 _ _ z1 z2 w0 y1 y2
  refine ⟨q,hq,fun w hW=>?_⟩
  have H1:=zh (fun W (h:Below w.heap.size w W)=>HS W (Bt hW h))
  have e0:=(hW.cell (p:=⟨b,off+j*6,none⟩) lb).trans x0
  have e1:=(hW.cell (p:=⟨b,off+j*6+1,none⟩) lb).trans x1
  have e2:=(hW.cell (p:=⟨b,off+j*6+2,none⟩) lb).trans x2
  have e3:=(hW.cell (p:=⟨b,off+j*6+3,none⟩) lb).trans x3
  have e4:=(hW.cell (p:=⟨b,off+j*6+4,none⟩) lb).trans x4
  have e5:=(hW.cell (p:=⟨b,off+j*6+5,none⟩) lb).trans x5
  have lw:b<w.heap.size:=Nat.lt_of_lt_of_le lb hW.size
  have E:=zh (And.intro e0 (And.intro e1 (And.intro e2 (And.intro e3 (And.intro e4 e5)))))
  have LW:=zh lw
  have tm:(k:Int).tmod (mm:Int)=(j:Int):=by rw [Int.tmod_eq_emod_of_nonneg zo,← Ej];rfl
  have wj:=W0 (j:Int) zo
  have wmm:=W0 (mm:Int) zo
  have nz:((n:Int) == 0)=false:=by simp;omega
  have mz:(mm:Int)≠0:=by omega
  have mz1:¬ mm=0:=by omega
  have mz2:((mm:Int) == 0)=false:=by simp;omega
  have jn:j<n:=by omega
  clear hread HS W0 x0 x1 x2 x3 x4 x5 y1 y2 hq e0 e1 e2 e3 e4 e5 lw lb hW
  obtain ⟨⟨s1,s2⟩,EQ⟩:∃ y,Fr.of q=y:=⟨_,rfl⟩
  rw [EQ] at H1 ⊢
  unfold Fr.v at *
  clear EQ
  go_enter Tryz.func53,Tryz.ntmps53
  go_wp2_with fail
  obtain ⟨gP,EW,hz,X1,X2⟩:=al2 w #[.int .u8 r,.int .u8 c,.slice (some ⟨b,off,none⟩) n cap] 26 #[.string ⟨#[]⟩,.string ⟨#[]⟩] 59
  rw [EW]
  have hk2:=Bt (Below.refl _ _) hz
  clear EW hz
  obtain ⟨jm,ji,jl⟩:=X1.clf
  have d0:=(hk2.cell (p:=⟨b,off+j*6,none⟩) LW.out).trans E.out.1
  have d1:=(hk2.cell (p:=⟨b,off+j*6+1,none⟩) LW.out).trans E.out.2.1
  have d2:=(hk2.cell (p:=⟨b,off+j*6+2,none⟩) LW.out).trans E.out.2.2.1
  have d3:=(hk2.cell (p:=⟨b,off+j*6+3,none⟩) LW.out).trans E.out.2.2.2.1
  have d4:=(hk2.cell (p:=⟨b,off+j*6+4,none⟩) LW.out).trans E.out.2.2.2.2.1
  have d5:=(hk2.cell (p:=⟨b,off+j*6+5,none⟩) LW.out).trans E.out.2.2.2.2.2
  have db:b<gP.heap.size:=Nat.lt_of_lt_of_le LW.out hk2.size
  refine aD [(.pure,0),(.read,1),(.pure,2),(.pure,3),(.read,4),(.pure,5),(.pure,6),(.pure,7),(.pure,8),(.read,9),(.ext,10),(.fin,11)] zk zk zR zP ?_
  repeat (first|(refine au rfl rfl fun J h=>?_;go_simp;refine h _ ?_;clear h J)|(refine aF rfl rfl rfl rfl fun J h=>?_;go_simp;refine h _ ?_;clear h J;try go_simp))
  refine aG rfl rfl (fun Fb hb3 J hJ=>?_);go_simp
  have hh3:Below gP.heap.size gP Fb:=belA
  clear hb3
  refine (H1.out _ (Bt hk2 hh3)).mono ?_
  rintro e xK ⟨rfl,hb4⟩
  refine hJ _ _ hb4 ?_
  clear hJ J
  have wP:=Bt hh3 hb4
  clear hh3 hb4
  repeat (first|(refine au rfl rfl fun J h=>?_;go_simp;refine h _ ?_;clear h J)|(refine aF rfl rfl rfl rfl fun J h=>?_;go_simp;refine h _ ?_;clear h J;try go_simp))
  refine aN [_] rfl (fun wf6 hf6=>?_)
  have jY:Below gP.heap.size gP wf6:=Bt wP belA
  clear hf6 wP
  clear jm ji jl
  replace X1:=X1.bl jY
  replace X2:=X2.bl jY
  have hk7:=Bt hk2 jY
  clear hk2
  clear jY
  obtain ⟨oG,om,oz⟩:=X2.clf
  have hres:=X2.out
  have vW:=hres.cell
  have vS:=hres.free
  go_wp2_with fail
  refine dO rfl rfl boxA Tryz.underlying59 rfl zk ?_
  exact ⟨rfl,belA⟩
theorem MatV_sl {w:World} {v:Value} {m:List (List Fr)} (h:aP w v m):∃ pa l ca,v= .slice pa l ca:=by
 obtain ⟨a,c,e, -⟩:=aP.read h
 exact ⟨_,_,_,e⟩
theorem Ja (r c:Int) (v:Value) (n m:Nat) (K:Nat→Nat→Fr) (w:World) (hv:jw w v) (hn:n≤4) (hm:m≤4)
  (hE:∀ i j:Nat,i<4→j<4→∀ W,Below w.heap.size w W→Calls Tryz.prog 53 #[.agg #[.int .u8 r,.int .u8 c,v],.int .i64 (4*(i:Int)+(j:Int))] W (fun e w'=>e= .returned (K i j).v∧Below W.heap.size W w')) :
  Calls Tryz.prog 34 #[.agg #[.int .u8 r,.int .u8 c,v],.int .i64 (n:Int),.int .i64 (m:Int)] w
   (fun e w'=>∃ v',e= .returned v'∧Below w.heap.size w w'∧aP w' v' ((List.range n).map fun i=>(List.range m).map (K i))):=by
 obtain ⟨i0,hi,hz0,hz1,hz2⟩:=info_parts qE
 obtain ⟨i1,hi',hy0,hy1,hy2⟩:=info_parts Lu
 obtain ⟨a,nd,cap,rfl, -, -⟩:=hv
 have EL:=zh hE
 have HW:Hid (∀ z:Int,0≤z∧z≤1000000000→IntKind.i64.wrap z=z):=zh fun z h=>by unfold IntKind.wrap;simp [IntKind.bits,IntKind.signed];omega
 clear hE
 go_enter Tryz.func34,Tryz.ntmps34
 go_wp2_with fail
 have hb1:Below w.heap.size w (w.alloc (.cells #[.int .u8 r,.int .u8 c,.slice a nd cap] 26)):=belA
 have HD:Hid (ah (w.alloc (.cells #[.int .u8 r,.int .u8 c,.slice a nd cap] 26)) w.heap.size #[.int .u8 r,.int .u8 c,.slice a nd cap] 26):=zh (ah.new _ _ _)
 obtain ⟨w1,EW⟩:∃ y,w.alloc (.cells #[.int .u8 r,.int .u8 c,.slice a nd cap] 26)=y:=⟨_,rfl⟩
 rw [EW] at hb1 HD ⊢
 have HB1:=zh hb1
 clear EW hb1
 go_loopw [7,8] (fun ov iv wr=>∃ k:Nat,iv= .int .i64 (k:Int)∧k≤n∧Hid (dQ wr w1.heap.size 29 1 uY ov ((List.range k).map fun i=>(List.range m).map (K i)))∧Below w1.heap.size w1 wr) (fun _ iv _=>n - (intOf iv).toNat)
 case atStart=>exact ⟨0,rfl,by omega,zh (dQ.nil _ _ _ _ _),Below.refl _ _⟩
 case round =>
  obtain ⟨k,rfl,hk,HG,hb⟩:=hrel
  rcases Nat.lt_or_ge k n with hlt|hge
  ·obtain ⟨wo,rfl⟩:∃ wo:World,wo=wr:=⟨_,rfl⟩
   obtain ⟨ov,cv,rfl⟩:=HG.out.at (n:=k) zi
   have HBo:=zh hb
   have HDo:=zh (HD.out.later hb)
   clear hb
   go_wp2_with fail
   go_loopw [9,10] (fun rv jv wr=>∃ j:Nat,jv= .int .i64 (j:Int)∧j≤m∧Hid (dQ wr wo.heap.size 59 2 RFr rv ((List.range j).map (K k)))∧Below wo.heap.size wo wr) (fun _ jv _=>m - (intOf jv).toNat)
   case atStart=>exact ⟨0,rfl,by omega,zh (dQ.nil _ _ _ _ _),Below.refl _ _⟩
   case round =>
    obtain ⟨j,rfl,hj,HR,hbi⟩:=hrel
    rcases Nat.lt_or_ge j m with hjlt|aQ2
    ·obtain ⟨rv,rc,rfl⟩:=HR.out.at (n:=j) zi
     have hdi:=HDo.out.later hbi
     have cD:=hdi.cell
     have lD:=hdi.lt
     have HBi:=zh hbi
     have EC:=EL.out k j zo zo wr (Bt HB1.out (Bt HBo.out hbi))
     have w1':=HW.out (4*(k:Int)) zo
     have w2':=HW.out (4*(k:Int)+(j:Int)) zo
     obtain ⟨⟨s,t⟩,EK⟩:∃ y,Hid (K k j=y):=⟨_,zh rfl⟩
     rw [EK.out] at EC
     unfold Fr.v at EC
     have HEC:=zh EC
     clear EC hbi hdi
     go_wp2_with fail
     refine HEC.out.mono ?_
     rintro e w2 ⟨rfl,hb2⟩
     have HB2:=zh (Bt HBi.out hb2)
     replace HR:=zh (HR.out.later hb2 (RFr.stay _))
     clear hb2 HEC HBi cD lD w1' w2'
     go_wp2_with (at_builtin;refine wpList_grow (w0:=wo) rfl (.tmp 21) (.tmp 28) 29 rfl 59 i0 (.agg #[.string ⟨#[]⟩,.string ⟨#[]⟩]) 2 32 Tryz.underlying29 hi hz0 hz1 hz2 rfl zd RFr _ ((List.range j).map (K k)) rfl (HR.out.later belA (RFr.stay _)) (Bt HB2.out belA) _ [.string s,.string t] ⟨s,t⟩ rfl (ah.new _ _ _) rfl ?c1 rfl (RFr.stay _) ?c2 zo ?_)
     case c1=>intro u hu;simp only [List.mem_cons,List.not_mem_nil,or_false] at hu;rcases hu with rfl|rfl<;>rfl
     case c2=>simp;omega
     intro v' w3 hg hb3 _
     have HG2:Hid (dQ w3 wo.heap.size 59 2 RFr v' ((List.range (j+1)).map (K k))):=zh (by rw [sJ,EK.out];exact hg)
     clear hg HR HB2
     go_wp2_with fail
     go_roundw
     case rel=>exact ⟨j+1,by go_num,by omega,HG2,hb3⟩
     case measure=>exact zM
    ·obtain rfl:j=m:=by omega
     have Ky:=zh HR.out.YG.PW
     obtain ⟨rv,rc,rfl⟩:=HR.out.at (n:=j) zi
     have HB3:=zh (Bt HBo.out hbi)
     replace HG:=zh (HG.out.later hbi (uY.stay zi))
     clear hbi HR
     go_wp2_with (at_builtin;refine wpList_grow (w0:=w1) rfl (.tmp 30) (.tmp 32) 23 rfl 29 i1 (.slice none 0 0) 1 24 Tryz.underlying23 hi' hy0 hy1 hy2 rfl zd uY _ ((List.range k).map fun i=>(List.range j).map (K i)) rfl (HG.out.later belA (uY.stay zi)) (Bt HB3.out belA) _ [.slice rv j rc] ((List.range j).map (K k)) rfl (ah.new _ _ _) rfl ?c1 ⟨_,rfl,Ky.out.later belA⟩ (uY.stay zi) ?c2 zo ?_)
     case c1=>intro u hu;simp only [List.mem_cons,List.not_mem_nil,or_false] at hu;rcases hu with rfl;rfl
     case c2=>simp;omega
     intro v' w2 hg hb2 _
     have HG2:Hid (dQ w2 w1.heap.size 29 1 uY v' ((List.range (k+1)).map fun i=>(List.range j).map (K i))):=zh (by rw [sJ];exact hg)
     clear hg HG Ky
     go_wp2_with fail
     go_roundw
     case rel=>exact ⟨k+1,by go_num,by omega,HG2,hb2⟩
     case measure=>exact zM
  ·obtain rfl:k=n:=by omega
   obtain ⟨ov,cv,rfl⟩:=HG.out.at (n:=k) zi
   go_wp2_with fail
   go_ret
   exact ⟨_,rfl,Bt HB1.out hb,HG.out.YG.Jr⟩
end Go.Proofs.aI
namespace Go.Proofs.aI
open Go Go.RowKit Go.SW Go.Num Go.Mem Go.Proofs Go.Dec Go.dF Go.Proofs.aL Go.Proofs.matrix
theorem Dw.get {w:World} {v:Value} {m:RM} (h:Dw w v m) {n:Nat} (hm:∀ r∈m,r.length=n) (h0:0<m.length):∃ b off cap,v= .slice (some ⟨b,off,none⟩) m.length cap∧b<w.heap.size ∧
  ∀ k (_:k<m.length),∃ a' c',w.cell? ⟨b,off+k,none⟩=some (.slice a' n c')∧xH w (.slice a' n c') m[k]:=by
 obtain ⟨a,cap,rfl, -, -, hat⟩:=Dw.at h
 obtain ⟨b,off, -, -, rfl,lb, -, -⟩:=hat 0 h0
 refine ⟨b,off,cap,rfl,lb,fun k hk=>?_⟩
 obtain ⟨b',off',a',c',e, -, k1,k2⟩:=hat k hk
 simp only [Option.some.injEq,Addr.mk.injEq,and_true] at e
 obtain ⟨rfl,rfl⟩:=e
 rw [hm _ (List.getElem_mem hk)] at k1 k2
 exact ⟨a',c',k1,k2⟩
theorem xH.first {w:World} {a:Option Addr} {n c:Nat} {r:List Rat} (h:xH w (.slice a n c) r) (hl:r.length=n) (h0:0<n):∃ b off,a=some ⟨b,off,none⟩∧n≤c∧c≤9223372036854775807:=by
 obtain ⟨a',c',e,h1,h2,hat⟩:=xH.at h
 simp only [Value.slice.injEq] at e
 obtain ⟨rfl, -, rfl⟩:=e
 obtain ⟨b,off, -, -, -, -, -, -, -, -, e, -⟩:=hat 0 zo
 exact ⟨b,off,e,by omega,h2⟩
end Go.Proofs.aI
namespace Go.Proofs.matrix
open Go Go.Num Go.Proofs Go.dF Go.Proofs.aI
def mkR (r c:Nat) (f:Nat→Nat→Rat):RM:=(List.range r).map fun i=>(List.range c).map (f i)
def atR (m:RM) (i j:Nat):Rat:=(m.getD i []).getD j 0
theorem mkR_len (r c:Nat) (f:Nat→Nat→Rat):(mkR r c f).length=r:=by simp [mkR]
theorem mkR_row {r c:Nat} {f:Nat→Nat→Rat} {x:List Rat} (h:x∈mkR r c f):x.length=c:=by
 obtain ⟨i, -, rfl⟩:=List.mem_map.1 h
 simp
theorem WS {r c:Nat} {f:Nat→Nat→Rat} {i:Nat} (hi:i<r):(mkR r c f).getD i []=(List.range c).map (f i):=by simp [mkR,hi]
theorem QT (l:List Rat):l=(List.range l.length).map fun j=>l.getD j 0:=by
 refine List.ext_getElem zi fun i h1 h2=>?_
 simp [h1]
theorem ac4 {m:RM} {n:Nat} (h:∀ r∈m,r.length=n):m=mkR m.length n (atR m):=by
 refine List.ext_getElem (by simp [mkR]) fun i h1 h2=>?_
 have e:(mkR m.length n (atR m))[i]=(mkR m.length n (atR m)).getD i []:=by simp [h2]
 have e2:m.getD i []=m[i]:=by simp [h1]
 rw [e,WS h1]
 have e3:(fun j=>atR m i j)=fun j=>m[i].getD j 0:=by
  funext j
  unfold atR
  rw [e2]
 show m[i]=(List.range n).map (fun j=>atR m i j)
 rw [e3,← h m[i] (List.getElem_mem _)]
 exact QT _
theorem RM.ok.mk {m:RM} {n:Nat} (h:m.ok n):m=mkR m.length n (atR m):=ac4 fun r hr=>(h.2.2.2.2 r hr).1
theorem ar8 {r c:Nat} {f:Nat→Nat→Rat} (hr:1≤r∧r≤4) (hc:1≤c∧c≤4) (h:∀ i,i<r→∀ j,j<c→iU (f i j)=true):(mkR r c f).ok c:=by
 refine ⟨by rw [mkR_len];exact hr.1,by rw [mkR_len];exact hr.2,hc.1,hc.2,fun x hx=>⟨mkR_row hx,fun q hq=>?_⟩⟩
 obtain ⟨i,hi,rfl⟩:=List.mem_map.1 hx
 obtain ⟨j,hj,rfl⟩:=List.mem_map.1 hq
 exact h i (List.mem_range.1 hi) j (List.mem_range.1 hj)
def Ht (k:Nat) (q:Rat):Prop:=∃ n d:Int,0<d∧d.natAbs≤iC k∧n.natAbs≤iC k∧q=(n:Rat) / (d:Rat)
theorem qV (a b:Nat):iC (a+b)=iC a*iC b:=Nat.pow_add _ _ _
theorem IY {a b:Nat} (h:a≤b):iC a≤iC b:=Nat.pow_le_pow_right zo h
theorem Qt {a b:Nat} (h:a<b):iC a<iC b:=Nat.pow_lt_pow_right zo h
theorem Ht.mono {a b:Nat} {q:Rat} (h:Ht a q) (k:a≤b):Ht b q:=by
 obtain ⟨n,d,h1,h2,h3,h4⟩:=h
 have:=IY k
 exact ⟨n,d,h1,by omega,by omega,h4⟩
theorem Ht.ok {a:Nat} {q:Rat} (h:Ht a q) (k:a<600):iU q=true:=by
 obtain ⟨n,d,h1,h2,h3,rfl⟩:=h
 obtain ⟨l1,l2⟩:=aL.CX (n:=n) (d:=d) zo
 have:=Qt k
 unfold iU CQ
 generalize iC 600=X at *
 rw [Bool.and_eq_true]
 exact ⟨decide_eq_true zo,decide_eq_true zo⟩
theorem xU {d:Int} (h:0<d):(d:Rat)≠0:=fun e=>by
 have:d=0:=by exact_mod_cast e
 omega
theorem Ht.mul {a b:Nat} {p q:Rat} (h:Ht a p) (k:Ht b q):Ht (a+b) (p*q):=by
 obtain ⟨n,d,h1,h2,h3,rfl⟩:=h
 obtain ⟨n',d',k1,k2,k3,rfl⟩:=k
 refine ⟨n*n',d*d',Int.mul_pos h1 k1,?_,?_,?_⟩
 ·rw [qV,Int.natAbs_mul];exact Nat.mul_le_mul h2 k2
 ·rw [qV,Int.natAbs_mul];exact Nat.mul_le_mul h3 k3
 ·have e1:=xU h1
  have e2:=xU k1
  rw [Rat.intCast_mul,Rat.intCast_mul]
  grind
theorem Ht.add {a b:Nat} {p q:Rat} (h:Ht a p) (k:Ht b q):Ht (a+b+1) (p+q):=by
 obtain ⟨n,d,h1,h2,h3,rfl⟩:=h
 obtain ⟨n',d',k1,k2,k3,rfl⟩:=k
 have t:iC (a+b+1)=10*(iC a*iC b):=by rw [qV,qV];show _*10=_;omega
 refine ⟨n*d'+n'*d,d*d',Int.mul_pos h1 k1,?_,?_,?_⟩
 ·have:=Nat.mul_le_mul h2 k2
  rw [t,Int.natAbs_mul];omega
 ·have x1:=Nat.mul_le_mul h3 k2
  have x2:=Nat.mul_le_mul k3 h2
  rw [Nat.mul_comm (iC b)] at x2
  have x3:=Int.natAbs_add_le (n*d') (n'*d)
  rw [Int.natAbs_mul,Int.natAbs_mul] at x3
  rw [t];omega
 ·have e1:=xU h1
  have e2:=xU k1
  rw [Rat.intCast_add,Rat.intCast_mul,Rat.intCast_mul,Rat.intCast_mul]
  grind
theorem Ht.neg {a:Nat} {p:Rat} (h:Ht a p):Ht a (-p):=by
 obtain ⟨n,d,h1,h2,h3,rfl⟩:=h
 exact ⟨-n,d,h1,h2,by rw [Int.natAbs_neg];exact h3,by rw [Rat.intCast_neg];grind⟩
theorem Ht.sub {a b:Nat} {p q:Rat} (h:Ht a p) (k:Ht b q):Ht (a+b+1) (p - q):=by
 rw [Rat.sub_eq_add_neg]
 exact h.add k.neg
theorem Ht.zero:Ht 0 0:=⟨0,1,by omega,by decide,by decide,by decide+kernel⟩
theorem Ht.one:Ht 0 1:=⟨1,1,by omega,by decide,by decide,by decide+kernel⟩
theorem Ht.Rs {q:Rat} {k:Nat} (h1:q.num.natAbs≤iC k) (h2:q.den≤iC k):Ht k q :=
 ⟨q.num,q.den,by have:=q.den_pos;omega,by simpa using h2,h1,by have:=Rat.mkRat_self q;rw [Rat.mkRat_eq_div] at this;exact this.symm⟩
def Sm (q:Rat):Prop:=iU q=true∧q.num.natAbs≤999∧q.den≤60
theorem Sm.ht {q:Rat} (h:Sm q):Ht 3 q:=Ht.Rs (by have:=h.2.1;show _≤1000;omega) (by have:=h.2.2;show _≤1000;omega)
where
 aK7 {m:RM} {n:Nat} (h:∀ r∈m,r.length=n∧∀ q∈r,Ht 3 q) (hm:m.length=n) {i j:Nat} (hi:i<n) (hj:j<n):Ht 3 (atR m i j):=by
  subst hm
  have e:m.getD i []=m[i]:=by simp [hi]
  have h1:=h m[i] (List.getElem_mem _)
  have hj2:j<m[i].length:=by omega
  unfold atR
  rw [e]
  have e3:m[i].getD j 0=m[i][j]:=by simp [hj2]
  rw [e3]
  exact h1.2 _ (List.getElem_mem _)
def smM (r c:Nat) (f:Nat→Nat→Rat):Prop:=(1≤r∧r≤4)∧(1≤c∧c≤4)∧∀ i j,Sm (f i j)
theorem smM.ok {r c:Nat} {f:Nat→Nat→Rat} (h:smM r c f):(mkR r c f).ok c:=ar8 h.1 h.2.1 fun i _ j _=>(h.2.2 i j).1
theorem fr_len (m:RM):m.fr.length=m.length:=List.length_map _
end Go.Proofs.matrix
namespace Go.Proofs.aI
open Go Go.RowKit Go.SW Go.Num Go.Mem Go.Proofs Go.Dec Go.dF Go.Proofs.aL Go.Proofs.aC Go.Proofs.matrix
def DrG (w:World) (r c:Int) (v:Value) (G:Nat→Rat):Prop:=(∀ k,Sm (G k))∧∀ k:Nat,k≤1000→∀ W,Below w.heap.size w W →
 Calls Tryz.prog 53 #[.agg #[.int .u8 r,.int .u8 c,v],.int .i64 (k:Int)] W (fun e w'=>e= .returned (Fr.of (G k)).v∧Below W.heap.size W w')
theorem DrG.of {w:World} {v:Value} (r c:Int) (h:jw w v):∃ G,DrG w r c v G:=by
 obtain ⟨g,hg⟩:=Classical.skolem.1 fun k:Nat=>(by
  by_cases hk:k≤1000
  ·obtain ⟨q,hq,h⟩:=JK r c v k hk w h
   exact ⟨q,hq,fun _=>h⟩
  ·exact ⟨0,by unfold Sm;decide+kernel,fun h=>absurd h hk⟩:∃ q:Rat,Sm q∧(k≤1000→∀ W,Below w.heap.size w W→Calls Tryz.prog 53 #[.agg #[.int .u8 r,.int .u8 c,v],.int .i64 (k:Int)] W (fun e w'=>e= .returned (Fr.of q).v∧Below W.heap.size W w')))
 exact ⟨g,fun k=>(hg k).1,fun k hk=>(hg k).2 hk⟩
def SqPost (W:World) (n:Nat) (M:RM) (e:Ending) (w':World):Prop:=∃ a c,e= .returned (.slice a n c)∧Below W.heap.size W w'∧aP w' (.slice a n c) M.fr
theorem sized_G {w:World} {r c:Int} {v:Value} {G:Nat→Rat} (h:DrG w r c v G) (hv:jw w v) (n m:Nat) (hn:n≤4) (hm:m≤4) (W:World) (hW:Below w.heap.size w W) :
  Calls Tryz.prog 34 #[.agg #[.int .u8 r,.int .u8 c,v],.int .i64 (n:Int),.int .i64 (m:Int)] W (SqPost W n (mkR n m fun i j=>G (4*i+j))):=by
 refine (Ja r c v n m (fun i j=>Fr.of (G (4*i+j))) W (hv.later hW) hn hm fun i j hi hj W2 h2=>?_).mono ?_
 ·have:=h.2 (4*i+j) zo W2 (Bt hW h2)
  rw [show (((4*i+j:Nat)):Int)=4*(i:Int)+(j:Int) by omega] at this
  exact this
 ·rintro e w' ⟨v',rfl,hb,hM⟩
  have e1:((List.range n).map fun i=>(List.range m).map fun j=>Fr.of (G (4*i+j)))=(mkR n m fun i j=>G (4*i+j)).fr:=by
   unfold RM.fr mkR
   rw [List.map_map]
   refine List.map_congr_left fun i _=>?_
   simp
  rw [e1] at hM
  obtain ⟨a,cc,rfl⟩:=aP.sl hM
  have e2:(mkR n m fun i j=>G (4*i+j)).fr.length=n:=by rw [fr_len,mkR_len]
  rw [e2] at hM ⊢
  exact ⟨a,cc,rfl,hb,hM⟩
theorem square_G {w:World} {r c:Int} {v:Value} {G:Nat→Rat} (hr:0≤r∧r≤255) (hv:jw w v) (n:Nat) (hn:1+r%4=(n:Int)) (M:RM) (H:∀ W,Below w.heap.size w W→Calls Tryz.prog 34 #[.agg #[.int .u8 r,.int .u8 c,v],.int .i64 (n:Int),.int .i64 (n:Int)] W (SqPost W n M)) (W:World) (hW:Below w.heap.size w W) :
  Calls Tryz.prog 33 #[.agg #[.int .u8 r,.int .u8 c,v]] W (SqPost W n M):=by
 have SZ:=zh H
 have h1:r.tmod 4=r%4:=Int.tmod_eq_emod_of_nonneg hr.1
 have h3:IntKind.u8.wrap (r%4)=r%4:=by unfold IntKind.wrap;simp [IntKind.bits,IntKind.signed];omega
 have h5:IntKind.i64.wrap (r%4)=r%4:=by unfold IntKind.wrap;simp [IntKind.bits,IntKind.signed];omega
 have h7:IntKind.i64.wrap (1+r%4)=(n:Int):=by rw [← hn];unfold IntKind.wrap;simp [IntKind.bits,IntKind.signed];omega
 obtain ⟨a,nd,cap,rfl, -, -⟩:=hv
 have HW:=zh hW
 clear hW hn H
 go_enter Tryz.func33,Tryz.ntmps33
 go_wp2_with fail
 refine (SZ.out _ (Bt HW.out belA)).mono ?_
 rintro e w2 ⟨pa,ca,rfl,hb2,hm⟩
 have HM:=zh hm
 have hb3:=Bt (show Below W.heap.size W (W.alloc (.cells #[.int .u8 r,.int .u8 c,.slice a nd cap] 26)) from belA) hb2
 clear hm hb2
 go_wp2_with fail
 go_ret
 exact ⟨_,_,rfl,hb3,HM.out⟩
theorem mat_G {w:World} {r c:Int} {v:Value} {G:Nat→Rat} (hr:0≤r∧r≤255) (hc:0≤c∧c≤255) (hv:jw w v) (n m:Nat) (hn:1+r%4=(n:Int)) (hm:1+c%4=(m:Int)) (M:RM) (H:∀ W,Below w.heap.size w W→Calls Tryz.prog 34 #[.agg #[.int .u8 r,.int .u8 c,v],.int .i64 (n:Int),.int .i64 (m:Int)] W (SqPost W n M)) (W:World) (hW:Below w.heap.size w W) :
  Calls Tryz.prog 32 #[.agg #[.int .u8 r,.int .u8 c,v]] W (SqPost W n M):=by
 have SZ:=zh H
 have h1:r.tmod 4=r%4:=Int.tmod_eq_emod_of_nonneg hr.1
 have h2:c.tmod 4=c%4:=Int.tmod_eq_emod_of_nonneg hc.1
 have h3:IntKind.u8.wrap (r%4)=r%4:=by unfold IntKind.wrap;simp [IntKind.bits,IntKind.signed];omega
 have h4:IntKind.u8.wrap (c%4)=c%4:=by unfold IntKind.wrap;simp [IntKind.bits,IntKind.signed];omega
 have h5:IntKind.i64.wrap (r%4)=r%4:=by unfold IntKind.wrap;simp [IntKind.bits,IntKind.signed];omega
 have h6:IntKind.i64.wrap (c%4)=c%4:=by unfold IntKind.wrap;simp [IntKind.bits,IntKind.signed];omega
 have h7:IntKind.i64.wrap (1+r%4)=(n:Int):=by rw [← hn];unfold IntKind.wrap;simp [IntKind.bits,IntKind.signed];omega
 have h8:IntKind.i64.wrap (1+c%4)=(m:Int):=by rw [← hm];unfold IntKind.wrap;simp [IntKind.bits,IntKind.signed];omega
 obtain ⟨a,nd,cap,rfl, -, -⟩:=hv
 have HW:=zh hW
 clear hW hn hm H
 go_enter Tryz.func32,Tryz.ntmps32
 go_wp2_with fail
 refine (SZ.out _ (Bt HW.out belA)).mono ?_
 rintro e w2 ⟨pa,ca,rfl,hb2,hm⟩
 have HM:=zh hm
 have hb3:=Bt (show Below W.heap.size W (W.alloc (.cells #[.int .u8 r,.int .u8 c,.slice a nd cap] 26)) from belA) hb2
 clear hm hb2
 go_wp2_with fail
 go_ret
 exact ⟨_,_,rfl,hb3,HM.out⟩
def LiPost (W:World) (n:Nat) (l:List Rat) (e:Ending) (w':World):Prop:=∃ a c,e= .returned (.slice a n c)∧Below W.heap.size W w'∧gH w' 59 (.slice a n c) (l.map Fr.of)
theorem list_G {w:World} {r c:Int} {v:Value} {G:Nat→Rat} (h:DrG w r c v G) (hv:jw w v) (n:Nat) (hn:n≤5) (W:World) (hW:Below w.heap.size w W) :
  Calls Tryz.prog 17 #[.agg #[.int .u8 r,.int .u8 c,v],.int .i64 (n:Int)] W (LiPost W n ((List.range n).map fun i=>G (5*i+3))):=by
 obtain ⟨i0,hi,hz0,hz1,hz2⟩:=info_parts qE
 obtain ⟨a,nd,cap,rfl, -, -⟩:=hv
 obtain ⟨K,EK⟩:∃ K:Nat→Fr,Hid ((fun i=>Fr.of (G (5*i+3)))=K):=⟨_,zh rfl⟩
 have EL:Hid (∀ i:Nat,i<5→∀ W',Below W.heap.size W W'→Calls Tryz.prog 53 #[.agg #[.int .u8 r,.int .u8 c,.slice a nd cap],.int .i64 (5*(i:Int)+3)] W' (fun e w'=>e= .returned (K i).v∧Below W'.heap.size W' w')):=zh fun i hi W' hW'=>by
  have:=h.2 (5*i+3) zo W' (Bt hW hW')
  rw [show (((5*i+3:Nat)):Int)=5*(i:Int)+3 by omega] at this
  rw [← EK.out]
  exact this
 have HW:Hid (∀ z:Int,0≤z∧z≤1000000000→IntKind.i64.wrap z=z):=zh fun z h=>by unfold IntKind.wrap;simp [IntKind.bits,IntKind.signed];omega
 clear h hW
 go_enter Tryz.func17,Tryz.ntmps17
 go_wp2_with fail
 obtain ⟨w1,EW,hz,HD⟩:=al1 W #[.int .u8 r,.int .u8 c,.slice a nd cap] 26
 rw [EW]
 have HB1:=zh hz
 clear EW hz
 go_loopw [5,6] (fun ov iv wr=>∃ k:Nat,iv= .int .i64 (k:Int)∧k≤n∧Hid (dQ wr w1.heap.size 59 2 RFr ov ((List.range k).map K))∧Below w1.heap.size w1 wr) (fun _ iv _=>n - (intOf iv).toNat)
 case atStart=>exact ⟨0,rfl,by omega,zh (dQ.nil _ _ _ _ _),Below.refl _ _⟩
 case round =>
  obtain ⟨k,rfl,hk,HG,hb⟩:=hrel
  rcases Nat.lt_or_ge k n with hlt|hge
  ·obtain ⟨ov,cv,rfl⟩:=HG.out.at (n:=k) zi
   have HBo:=zh hb
   have hdi:=HD.out.later hb
   have cD:=hdi.cell
   have lD:=hdi.lt
   have EC:=EL.out k zo wr (Bt HB1.out hb)
   have w1':=HW.out (5*(k:Int)) zo
   have w2':=HW.out (5*(k:Int)+3) zo
   obtain ⟨⟨s,t⟩,EKk⟩:∃ y,Hid (K k=y):=⟨_,zh rfl⟩
   rw [EKk.out] at EC
   unfold Fr.v at EC
   have HEC:=zh EC
   clear EC hb hdi
   go_wp2_with fail
   refine HEC.out.mono ?_
   rintro e w2 ⟨rfl,hb2⟩
   have HB2:=zh (Bt HBo.out hb2)
   replace HG:=zh (HG.out.later hb2 (RFr.stay _))
   clear hb2 HEC cD lD w1' w2'
   go_wp2_with (at_builtin;refine wpList_grow (w0:=w1) rfl (.tmp 12) (.tmp 18) 29 rfl 59 i0 (.agg #[.string ⟨#[]⟩,.string ⟨#[]⟩]) 2 32 Tryz.underlying29 hi hz0 hz1 hz2 rfl zd RFr _ ((List.range k).map K) rfl (HG.out.later belA (RFr.stay _)) (Bt HB2.out belA) _ [.string s,.string t] ⟨s,t⟩ rfl (ah.new _ _ _) rfl ?c1 rfl (RFr.stay _) ?c2 zo ?_)
   case c1=>intro u hu;simp only [List.mem_cons,List.not_mem_nil,or_false] at hu;rcases hu with rfl|rfl<;>rfl
   case c2=>simp;omega
   intro v' w3 hg hb3 _
   have HG2:Hid (dQ w3 w1.heap.size 59 2 RFr v' ((List.range (k+1)).map K)):=zh (by rw [sJ,EKk.out];exact hg)
   clear hg HG HB2
   go_wp2_with fail
   go_roundw
   case rel=>exact ⟨k+1,by go_num,by omega,HG2,hb3⟩
   case measure=>exact zM
  ·obtain rfl:k=n:=by omega
   obtain ⟨ov,cv,rfl⟩:=HG.out.at (n:=k) zi
   have HF:Hid (gH wr 59 (.slice ov k cv) (((List.range k).map fun i=>G (5*i+3)).map Fr.of)):=zh (by
    have:=HG.out.YG.PW
    rw [← EK.out] at this
    rw [List.map_map]
    exact this)
   have HB3:=zh (Bt HB1.out hb)
   clear hb HG
   go_wp2_with fail
   go_ret
   exact ⟨_,_,rfl,HB3.out,HF.out⟩
end Go.Proofs.aI
namespace Go.Proofs.aI
open Go Go.RowKit Go.SW Go.Num Go.Mem Go.Proofs Go.Dec Go.dF
theorem SameList_any (v1 v2:Value) (l m:List Fr) (w:World) (h1:gH w 59 v1 l) (h2:gH w 59 v2 m) :
  Calls Tryz.prog 31 #[v1,v2] w (fun e w'=>e= .returned (.bool (decide (l=m)))∧Below w.heap.size w w'):=by
 by_cases he:l=m
 ·subst he
  rw [decide_eq_true rfl]
  exact qO v1 v2 l w h1 h2
 ·rw [decide_eq_false he]
  obtain ⟨a,cap,rfl,hc1,hc2,hr1⟩:=h1.read
  obtain ⟨a',cap',rfl,hc1',hc2',hr2⟩:=h2.read
  have H1:=zh hr1
  have H2:=zh hr2
  have HE:=zh he
  clear h1 h2 hr1 hr2 he
  by_cases hl:l.length=m.length
  ·have HL:=zh hl
   rw [← hl] at hc1'
   rw [show Value.slice a' m.length cap'= .slice a' l.length cap' by rw [hl]]
   clear hl
   have Qk:= @iG
   have g1:((l.length:Int) != (l.length:Int))=false:=by simp
   go_enter Tryz.func31,Tryz.ntmps31
   go_wp2_with fail
   go_loopw [5] (fun iv wr=>∃ k:Nat,iv= .int .i64 (k:Int)∧k≤l.length∧Hid (∀ i,i<k→l.getD i Fr.no=m.getD i Fr.no)∧Below w.heap.size w wr) (fun iv _=>l.length - (intOf iv).toNat)
   case atStart=>exact ⟨0,rfl,by omega,zh (fun i h=>by omega),Below.refl _ _⟩
   case round =>
    obtain ⟨k,rfl,hk,HA,hb⟩:=hrel
    rcases Nat.lt_or_ge k l.length with hlt|hge
    ·obtain ⟨b,off,rfl,hbl,hx1,hx2⟩:=H1.out k hlt
     obtain ⟨b',off',rfl,kg,hy1,hy2⟩:=H2.out k (by rw [← HL.out];exact hlt)
     have hc3:=(hb.cell (p:=⟨b,off+k*2,none⟩) hbl).trans hx1
     have hc4:=(hb.cell (p:=⟨b,off+k*2+1,none⟩) hbl).trans hx2
     have kI:=(hb.cell (p:=⟨b',off'+k*2,none⟩) kg).trans hy1
     have hc6:=(hb.cell (p:=⟨b',off'+k*2+1,none⟩) kg).trans hy2
     have hm:k<m.length:=by rw [← HL.out];exact hlt
     have HX:Hid (l.getD k Fr.no=l[k]):=zh (by simp [hlt])
     have HY:Hid (m.getD k Fr.no=m[k]):=zh (by simp [hm])
     clear hx1 hx2 hy1 hy2
     generalize l[k]=lk at *
     generalize m[k]=mk at *
     obtain ⟨s,t⟩:=lk
     obtain ⟨s',t'⟩:=mk
     by_cases hst:s=s'∧t=t'
     ·obtain ⟨rfl,rfl⟩:=hst
      go_wp2_with fail
      go_quiet (fail)
      go_wp2_with fail
      go_roundw
      case rel =>
       refine ⟨k+1,by go_num,by omega,zh (fun i hi=>?_),below_drewN hb _⟩
       rcases Nat.lt_or_ge i k with h|h
       ·exact HA.out i h
       ·obtain rfl:i=k:=by omega
        rw [HX.out,HY.out]
      case measure=>exact zM
     ·have hd:= @matrix.ql _ _ _ _ hst
      simp only at hd hc3 hc4 kI hc6
      clear Qk
      go_wp2_with fail
      go_quiet (fail)
      go_wp2_with fail
      go_ret
      exact ⟨rfl,below_drewN hb _⟩
    ·obtain rfl:k=l.length:=by omega
     exfalso
     refine HE.out (List.ext_getElem HL.out fun i h h'=>?_)
     have:=HA.out i h
     simpa [h,h'] using this
  ·have hd:((l.length:Int) != (m.length:Int))=true:=by simp;omega
   have hd2:decide ((l.length:Int)=(m.length:Int))=false:=decide_eq_false zo
   clear H1 H2
   go_enter Tryz.func31,Tryz.ntmps31
   go_wp2_with fail
   go_ret
   exact ⟨rfl,Below.refl _ _⟩
theorem Same_any (v1 v2:Value) (m m':List (List Fr)) (w:World) (h1:aP w v1 m) (h2:aP w v2 m') :
  Calls Tryz.prog 15 #[v1,v2] w (fun e w'=>e= .returned (.bool (decide (m=m')))∧Below w.heap.size w w'):=by
 by_cases he:m=m'
 ·subst he
  rw [decide_eq_true rfl]
  exact xV v1 v2 m w h1 h2
 ·rw [decide_eq_false he]
  obtain ⟨a,cap,rfl,hc1,hc2,hr1⟩:=aP.read h1
  obtain ⟨a',cap',rfl,hc1',hc2',hr2⟩:=aP.read h2
  have H1:=zh hr1
  have H2:=zh hr2
  have HE:=zh he
  clear h1 h2 hr1 hr2 he
  by_cases hl:m.length=m'.length
  ·have HL:=zh hl
   rw [← hl] at hc1'
   rw [show Value.slice a' m'.length cap'= .slice a' m.length cap' by rw [hl]]
   clear hl
   have g1:((m.length:Int) != (m.length:Int))=false:=by simp
   go_enter Tryz.func15,Tryz.ntmps15
   go_wp2_with fail
   go_loopw [5] (fun iv wr=>∃ k:Nat,iv= .int .i64 (k:Int)∧k≤m.length∧Hid (∀ i,i<k→m.getD i []=m'.getD i [])∧Below w.heap.size w wr) (fun iv _=>m.length - (intOf iv).toNat)
   case atStart=>exact ⟨0,rfl,by omega,zh (fun i h=>by omega),Below.refl _ _⟩
   case round =>
    obtain ⟨k,rfl,hk,HA,hb⟩:=hrel
    rcases Nat.lt_or_ge k m.length with hlt|hge
    ·obtain ⟨b,off,a1,c1,rfl,hbl,hx1,hf1⟩:=H1.out k hlt
     obtain ⟨b',off',a2,c2,rfl,kg,hy1,hf2⟩:=H2.out k (by rw [← HL.out];exact hlt)
     have hc3:=(hb.cell (p:=⟨b,off+k,none⟩) hbl).trans hx1
     have kI:=(hb.cell (p:=⟨b',off'+k,none⟩) kg).trans hy1
     have hm:k<m'.length:=by rw [← HL.out];exact hlt
     have HX:Hid (m.getD k []=m[k]):=zh (by simp [hlt])
     have HY:Hid (m'.getD k []=m'[k]):=zh (by simp [hm])
     have SL:=zh (fun W (hW:Below w.heap.size w W)=>SameList_any _ _ m[k] m'[k] W (hf1.later hW) (hf2.later hW))
     clear hx1 hy1 hf1 hf2
     by_cases hst:m[k]=m'[k]
     ·rw [decide_eq_true hst] at SL
      have HS:=zh hst
      clear hst
      generalize m[k].length=n at *
      generalize m'[k].length=n' at *
      go_wp2_with fail
      refine aD [(.pure,0),(.pure,1),(.pure,2),(.read,3),(.pure,4),(.pure,5),(.pure,6),(.read,7),(.ext,8),(.pure,9)] zk zk zR zP ?_;refine Wk.out ?_;(iterate 8 (first|(apply wk_skip;(rfl);(rfl);(rfl);(intro J hJ;go_simp;(with_reducible refine hJ _ ?_);clear hJ J))|(apply wk_len;(rfl);(rfl);(rfl);(rfl);(exact zk);(intro J hJ;go_simp;(with_reducible refine hJ _ ?_);clear hJ J))|(apply wk_pure;(rfl);(rfl);(intro J hJ;go_simp;(with_reducible refine hJ _ ?_);clear hJ J))|(apply wk_load;(rfl);(rfl);(rfl);(rfl);(intro J hJ;go_simp;(with_reducible refine hJ _ ?_);clear hJ J;try go_simp))))
      refine wk_ext rfl rfl (fun wa hba J hJ=>?_);go_simp
      have z1:Below w.heap.size w wa:=Bt hb belA
      refine (SL.out _ z1).mono ?_
      rintro e wb ⟨rfl,hbb⟩
      have z2:=Bt z1 hbb
      refine hJ _ _ hbb ?_
      clear hJ J
      (iterate 1 (first|(apply wk_skip;(rfl);(rfl);(rfl);(intro J hJ;go_simp;(with_reducible refine hJ _ ?_);clear hJ J))|(apply wk_len;(rfl);(rfl);(rfl);(rfl);(exact zk);(intro J hJ;go_simp;(with_reducible refine hJ _ ?_);clear hJ J))|(apply wk_pure;(rfl);(rfl);(intro J hJ;go_simp;(with_reducible refine hJ _ ?_);clear hJ J))|(apply wk_load;(rfl);(rfl);(rfl);(rfl);(intro J hJ;go_simp;(with_reducible refine hJ _ ?_);clear hJ J;try go_simp))));refine wk_nil fun wf hf=>?_
      have z3:Below w.heap.size w wf:=Bt z2 hf
      clear hba hbb hf z1 z2
      go_wp2_with fail
      go_roundw
      case rel =>
       refine ⟨k+1,by go_num,by omega,zh (fun i hi=>?_),z3⟩
       rcases Nat.lt_or_ge i k with h|h
       ·exact HA.out i h
       ·obtain rfl:i=k:=by omega
        rw [HX.out,HY.out,HS.out]
      case measure=>exact zM
     ·rw [decide_eq_false hst] at SL
      clear hst HX HY
      generalize m[k].length=n at *
      generalize m'[k].length=n' at *
      go_wp2_with fail
      refine aD [(.pure,0),(.pure,1),(.pure,2),(.read,3),(.pure,4),(.pure,5),(.pure,6),(.read,7),(.ext,8),(.pure,9)] zk zk zR zP ?_;refine Wk.out ?_;(iterate 8 (first|(apply wk_skip;(rfl);(rfl);(rfl);(intro J hJ;go_simp;(with_reducible refine hJ _ ?_);clear hJ J))|(apply wk_len;(rfl);(rfl);(rfl);(rfl);(exact zk);(intro J hJ;go_simp;(with_reducible refine hJ _ ?_);clear hJ J))|(apply wk_pure;(rfl);(rfl);(intro J hJ;go_simp;(with_reducible refine hJ _ ?_);clear hJ J))|(apply wk_load;(rfl);(rfl);(rfl);(rfl);(intro J hJ;go_simp;(with_reducible refine hJ _ ?_);clear hJ J;try go_simp))))
      refine wk_ext rfl rfl (fun wa hba J hJ=>?_);go_simp
      have z1:Below w.heap.size w wa:=Bt hb belA
      refine (SL.out _ z1).mono ?_
      rintro e wb ⟨rfl,hbb⟩
      have z2:=Bt z1 hbb
      refine hJ _ _ hbb ?_
      clear hJ J
      (iterate 1 (first|(apply wk_skip;(rfl);(rfl);(rfl);(intro J hJ;go_simp;(with_reducible refine hJ _ ?_);clear hJ J))|(apply wk_len;(rfl);(rfl);(rfl);(rfl);(exact zk);(intro J hJ;go_simp;(with_reducible refine hJ _ ?_);clear hJ J))|(apply wk_pure;(rfl);(rfl);(intro J hJ;go_simp;(with_reducible refine hJ _ ?_);clear hJ J))|(apply wk_load;(rfl);(rfl);(rfl);(rfl);(intro J hJ;go_simp;(with_reducible refine hJ _ ?_);clear hJ J;try go_simp))));refine wk_nil fun wf hf=>?_
      have z3:Below w.heap.size w wf:=Bt z2 hf
      clear hba hbb hf z1 z2
      go_wp2_with fail
      go_ret
      exact ⟨rfl,z3⟩
    ·obtain rfl:k=m.length:=by omega
     exfalso
     refine HE.out (List.ext_getElem HL.out fun i h h'=>?_)
     have:=HA.out i h
     simpa [h,h'] using this
  ·have hd:((m.length:Int) != (m'.length:Int))=true:=by simp;omega
   have hd2:decide ((m.length:Int)=(m'.length:Int))=false:=decide_eq_false zo
   clear H1 H2
   go_enter Tryz.func15,Tryz.ntmps15
   go_wp2_with fail
   go_ret
   exact ⟨rfl,Below.refl _ _⟩
end Go.Proofs.aI
namespace Go.Proofs.YtfhappbmgghgdaaGreatDoor
open Go Go.ChangeShapes Go.WideShapes Go.RowKit Go.Proofs Go.Proofs.aC Go.Proofs.aI
theorem aa3 {n:Int} (h:(Lit.int .u16 n).wf=true):0≤n∧n≤65535:=by
 simp [Lit.wf,IntKind.min,IntKind.max,IntKind.signed,IntKind.bits] at h
 omega
section
variable {H:Type} {enc:TypeId × Value→H} {P:Program} {w:World} {base:Nat} {spare:Nat→Bool} {held:Bool}
theorem trod_struct3 {t:TypeId} {f0 f1 f2:Field} {fuel:Nat} {cs:List Value} {x:DataW H × List MemPlace} (ht:P.underlying t=some (.struct #[f0,f1,f2])) (h:DataW.trod enc P w base spare held fuel t cs=some x) :
  ∃ y0 y1 y2 n,cs.length=P.cellsOf t∧DataW.trod enc P w base spare held n f0.type ((cs.drop f0.offset).take (P.cellsOf f0.type))=some y0 ∧
   DataW.trod enc P w base spare held n f1.type ((cs.drop f1.offset).take (P.cellsOf f1.type))=some y1∧DataW.trod enc P w base spare held n f2.type ((cs.drop f2.offset).take (P.cellsOf f2.type))=some y2:=by
 obtain ⟨xs,n,_,rfl,hl,hlen,hf⟩:=DataW.trod_struct ht h
 match xs,hlen with
 | [y0,y1,y2],_=>exact ⟨y0,y1,y2,n,hl,by simpa using hf 0 f0 rfl,by simpa using hf 1 f1 rfl,by simpa using hf 2 f2 rfl⟩
theorem uQ {a:Addr} {n:Nat} {cs:List Value} (h:w.cells? base a n=some cs):cs.length=n∧∀ i,i<n→w.cell? (a.add i)=cs[i]? :=by
 unfold World.cells? at h
 split at h
 ·exact ⟨by simpa using mapM_some_length h,fun i hi=>mapM_some_get h i i (by simp [hi])⟩
 ·cases h
theorem xS {a:Addr} {v:Value} (h:w.cell? a=some v):a.block<w.heap.size:=by
 unfold World.cell? at h
 rcases Nat.lt_or_ge a.block w.heap.size with h1|h1
 ·exact h1
 ·rw [Array.getElem?_eq_none h1] at h
  cases h
end
theorem IW {H:Type} {enc:TypeId × Value→H} {W:World} {base:Nat} {sp:Nat→Bool} {held:Bool} {fuel:Nat} {cs:List Value} {x:DataW H × List MemPlace} (h:DataW.trod enc Tryz.prog W base sp held fuel 182 cs=some x) :
  ∃ a n cap,cs=[.slice a n cap]∧Words W (.slice a n cap):=by
 have ue:Tryz.prog.underlying 183=some (.int .u16):=Tryz.underlying183
 have ce:Tryz.prog.cellsOf 183=1:=by kernel_rfl
 rcases DataW.trod_slice Tryz.underlying182 h with ⟨rfl, -⟩|⟨a,len,cap,elems,rest,n, -, rfl, -, -, h1,h2,h3,h4, -⟩
 ·exact ⟨none,0,0,rfl,none,0,0,fun _=>0,rfl,by omega,fun k hk=>by omega⟩
 ·unfold maxLen at h2
  have hc:∀ k,k<len→∃ u:Int,W.cell? (a.add k)=some (.int .u16 u)∧0≤u∧u≤65535:=fun k hk=>by
   have e:=h4 k hk
   rw [List.getElem?_eq_getElem zo,ce,Nat.mul_one,Option.bind_eq_some_iff] at e
   obtain ⟨cs',k1,k2⟩:=e
   obtain ⟨u,rfl, -, hw⟩:=DataW.trod_int ue k2
   obtain ⟨-, k3⟩:=uQ k1
   have k4:=k3 0 zo
   rw [show (a.add k).add 0=a.add k by simp [Addr.add]] at k4
   exact ⟨u,k4,aa3 hw⟩
  refine ⟨some a,len,cap,rfl,some a,len,cap,fun k=>if h:k<len then (hc k h).choose else 0,rfl,by omega,fun k hk=>?_⟩
  obtain ⟨u0,z0, -⟩:=hc 0 zo
  have hs:a.spot=none:=World.cell?_spot (by simpa [Addr.add] using z0)
  have hl:=xS z0
  have hsp:=(hc k hk).choose_spec
  obtain ⟨b,off,sp⟩:=a
  simp only at hs
  subst hs
  have hl':b<W.heap.size:=by rw [Addr.add_lit] at hl;exact hl
  have hx:W.cell? ⟨b,off+k,none⟩=some (.int .u16 (hc k hk).choose):=by rw [← Addr.add_lit];exact hsp.1
  simp only [hk,dif_pos]
  exact ⟨b,off,rfl,hl',hx,hsp.2⟩
theorem KO {H:Type} {enc:TypeId × Value→H} {W:World} {base:Nat} {sp:Nat→Bool} {held:Bool} {fuel:Nat} {cs:List Value} {x:DataW H × List MemPlace} (h:DataW.trod enc Tryz.prog W base sp held fuel 185 cs=some x) :
  ∃ f a n cap z,cs=[.bool f,.slice a n cap,.int .u16 z]∧Words W (.slice a n cap):=by
 have u0:Tryz.prog.underlying 4=some .bool:=Tryz.underlying4
 have u2:Tryz.prog.underlying 183=some (.int .u16):=Tryz.underlying183
 have c0:Tryz.prog.cellsOf 4=1:=by kernel_rfl
 have c1:Tryz.prog.cellsOf 182=1:=by kernel_rfl
 have c2:Tryz.prog.cellsOf 183=1:=by kernel_rfl
 have ct:Tryz.prog.cellsOf 185=3:=by kernel_rfl
 obtain ⟨y0,y1,y2,m,hl,h0,h1,h2⟩:=trod_struct3 Tryz.underlying185 h
 rw [ct] at hl
 simp only [c0,c1,c2] at h0 h1 h2
 obtain ⟨x0,x1,x2,rfl⟩:∃ x0 x1 x2,cs=[x0,x1,x2]:=by
  match cs,hl with
  | [x0,x1,x2],_=>exact ⟨x0,x1,x2,rfl⟩
 obtain ⟨f,e0, -⟩:=DataW.trod_bool u0 h0
 obtain ⟨a,n,cap,e1,hw⟩:=IW h1
 obtain ⟨z,e2, -⟩:=DataW.trod_int u2 h2
 replace e0:[x0]=[Value.bool f]:=e0
 replace e1:[x1]=[Value.slice a n cap]:=e1
 replace e2:[x2]=[Value.int .u16 z]:=e2
 simp only [List.cons.injEq,and_true] at e0 e1 e2
 subst e0 e1 e2
 exact ⟨f,a,n,cap,z,rfl,hw⟩
theorem VO {H:Type} {enc:TypeId × Value→H} {W:World} {base:Nat} {sp:Nat→Bool} {held:Bool} {fuel:Nat} {cs:List Value} {x:DataW H × List MemPlace} (h:DataW.trod enc Tryz.prog W base sp held fuel 187 cs=some x) :
  ∃ f1 a1 n1 c1 z1 f2 a2 n2 c2 z2,cs=[.bool f1,.slice a1 n1 c1,.int .u16 z1,.bool f2,.slice a2 n2 c2,.int .u16 z2]∧Words W (.slice a1 n1 c1)∧Words W (.slice a2 n2 c2):=by
 have c0:Tryz.prog.cellsOf 185=3:=by kernel_rfl
 have ct:Tryz.prog.cellsOf 187=6:=by kernel_rfl
 obtain ⟨y0,y1,m, -, hl,h0,h1⟩:=trod_struct2 Tryz.underlying187 h
 rw [ct] at hl
 simp only [c0] at h0 h1
 obtain ⟨x0,x1,x2,x3,x4,x5,rfl⟩:∃ x0 x1 x2 x3 x4 x5,cs=[x0,x1,x2,x3,x4,x5]:=by
  match cs,hl with
  | [x0,x1,x2,x3,x4,x5],_=>exact ⟨x0,x1,x2,x3,x4,x5,rfl⟩
 obtain ⟨f1,a1,n1,c1,z1,e1,w1⟩:=KO h0
 obtain ⟨f2,a2,n2,c2,z2,e2,w2⟩:=KO h1
 replace e1:[x0,x1,x2]=[.bool f1,.slice a1 n1 c1,.int .u16 z1]:=e1
 replace e2:[x3,x4,x5]=[.bool f2,.slice a2 n2 c2,.int .u16 z2]:=e2
 simp only [List.cons.injEq,and_true] at e1 e2
 obtain ⟨rfl,rfl,rfl⟩:=e1
 obtain ⟨rfl,rfl,rfl⟩:=e2
 exact ⟨f1,a1,n1,c1,z1,f2,a2,n2,c2,z2,rfl,w1,w2⟩
theorem KJ {H:Type} {enc:TypeId × Value→H} {W:World} {base:Nat} {sp:Nat→Bool} {held:Bool} {fuel:Nat} {cs:List Value} {x:DataW H × List MemPlace} (h:DataW.trod enc Tryz.prog W base sp held fuel 24 cs=some x) :
  ∃ a n cap,cs=[.slice a n cap]∧jw W (.slice a n cap):=by
 have ce:Tryz.prog.cellsOf 187=6:=by kernel_rfl
 rcases DataW.trod_slice Tryz.underlying24 h with ⟨rfl, -⟩|⟨a,len,cap,elems,rest,n, -, rfl, -, -, h1,h2,h3,h4, -⟩
 ·exact ⟨none,0,0,rfl,none,0,0,rfl,by omega,fun k hk=>by omega⟩
 ·unfold maxLen at h2
  have hc:∀ k,k<len→∃ f1 a1 n1 c1 z1 f2 a2 n2 c2 z2,(∀ i,i<6→W.cell? ((a.add (k*6)).add i)=[Value.bool f1,.slice a1 n1 c1,.int .u16 z1,.bool f2,.slice a2 n2 c2,.int .u16 z2][i]?)∧Words W (.slice a1 n1 c1)∧Words W (.slice a2 n2 c2):=fun k hk=>by
   have e:=h4 k hk
   rw [List.getElem?_eq_getElem zo,ce,Option.bind_eq_some_iff] at e
   obtain ⟨cs',k1,k2⟩:=e
   obtain ⟨f1,a1,n1,c1,z1,f2,a2,n2,c2,z2,rfl,w1,w2⟩:=VO k2
   exact ⟨f1,a1,n1,c1,z1,f2,a2,n2,c2,z2,(uQ k1).2,w1,w2⟩
  refine ⟨some a,len,cap,rfl,some a,len,cap,rfl,by omega,fun k hk=>?_⟩
  obtain ⟨_,_,_,_,_,_,_,_,_,_,z0, -⟩:=hc 0 zo
  have y0:=z0 0 zo
  have hs:a.spot=none:=World.cell?_spot (by simpa [Addr.add] using y0)
  have hl:=xS y0
  obtain ⟨f1,a1,n1,c1,z1,f2,a2,n2,c2,z2,hx,w1,w2⟩:=hc k hk
  obtain ⟨b,off,sp⟩:=a
  simp only at hs
  subst hs
  simp only [Addr.add_lit] at hx hl
  exact ⟨b,off,f1,a1,n1,c1,z1,f2,a2,n2,c2,z2,rfl,hl,hx 0 zo,hx 1 zo,hx 2 zo,hx 3 zo,hx 4 zo,hx 5 zo,w1,w2⟩
theorem opn_draft {H:Type} {enc:TypeId × Value→H} {W:World} {b0 base:Nat} {sp:Nat→Bool} {held:Bool} {v:Value} {d:DataW H} {p:List MemPlace}
  (hval:Value.okWide Tryz.prog W .any b0 26 v) (h:DataW.Trod enc Tryz.prog W base sp held 26 v d p) :
  ∃ r c a n cap,v= .agg #[.int .u8 r,.int .u8 c,.slice a n cap]∧(0≤r∧r≤255)∧(0≤c∧c≤255)∧jw W (.slice a n cap):=by
 have u1:Tryz.prog.underlying 5=some (.int .u8):=Tryz.underlying5
 have ut:=Tryz.underlying26
 have c1:Tryz.prog.cellsOf 5=1:=by kernel_rfl
 have c2:Tryz.prog.cellsOf 24=1:=by kernel_rfl
 have ct:Tryz.prog.cellsOf 26=3:=by kernel_rfl
 obtain ⟨cs,rfl,hsz, -⟩:∃ cs,v= .agg cs∧cs.size=Tryz.prog.cellsOf 26∧Row.okWide Tryz.prog W .any b0 26 cs:=by
  simpa [Value.okWide,ut] using hval
 rw [ct] at hsz
 obtain ⟨l⟩:=cs
 obtain ⟨x0,x1,x2,rfl⟩:∃ x0 x1 x2,l=[x0,x1,x2]:=by
  match l,hsz with
  | [x0,x1,x2],_=>exact ⟨x0,x1,x2,rfl⟩
 obtain ⟨fuel,hf⟩:=h
 obtain ⟨y0,y1,y2,m, -, h0,h1,h2⟩:=trod_struct3 ut hf
 simp only [c1,c2] at h0 h1 h2
 obtain ⟨r,e0, -, w0⟩:=DataW.trod_int u1 h0
 obtain ⟨c,e1, -, w1⟩:=DataW.trod_int u1 h1
 obtain ⟨a,n,cap,e2,hd⟩:=KJ h2
 replace e0:[x0]=[Value.int .u8 r]:=e0
 replace e1:[x1]=[Value.int .u8 c]:=e1
 replace e2:[x2]=[Value.slice a n cap]:=e2
 simp only [List.cons.injEq,and_true] at e0 e1 e2
 subst e0 e1 e2
 exact ⟨r,c,a,n,cap,rfl,KF w0,KF w1,hd⟩
end Go.Proofs.YtfhappbmgghgdaaGreatDoor
namespace Go.Proofs.YtfhappbmgghgdaaGreatDoor
open Go Go.ChangeShapes Go.WideShapes Go.RowKit Go.Proofs Go.Proofs.aC Go.Proofs.aI Go.Proofs.verdigrislaw05 Go.dF
section
variable {H:Type} {enc:TypeId × Value→H} {P:Program} {w:World} {base:Nat} {spare:Nat→Bool} {held:Bool}
theorem trod_struct4 {t:TypeId} {f0 f1 f2 f3:Field} {fuel:Nat} {cs:List Value} {x:DataW H × List MemPlace} (ht:P.underlying t=some (.struct #[f0,f1,f2,f3])) (h:DataW.trod enc P w base spare held fuel t cs=some x) :
  ∃ y0 y1 y2 y3 n,cs.length=P.cellsOf t∧DataW.trod enc P w base spare held n f0.type ((cs.drop f0.offset).take (P.cellsOf f0.type))=some y0 ∧
   DataW.trod enc P w base spare held n f1.type ((cs.drop f1.offset).take (P.cellsOf f1.type))=some y1∧DataW.trod enc P w base spare held n f2.type ((cs.drop f2.offset).take (P.cellsOf f2.type))=some y2∧DataW.trod enc P w base spare held n f3.type ((cs.drop f3.offset).take (P.cellsOf f3.type))=some y3:=by
 obtain ⟨xs,n,_,rfl,hl,hlen,hf⟩:=DataW.trod_struct ht h
 match xs,hlen with
 | [y0,y1,y2,y3],_=>exact ⟨y0,y1,y2,y3,n,hl,by simpa using hf 0 f0 rfl,by simpa using hf 1 f1 rfl,by simpa using hf 2 f2 rfl,by simpa using hf 3 f3 rfl⟩
end
theorem trod_frs {H:Type} {enc:TypeId × Value→H} {W:World} {base:Nat} {sp:Nat→Bool} {held:Bool} {fuel:Nat} {cs:List Value} {x:DataW H × List MemPlace} (h:DataW.trod enc Tryz.prog W base sp held fuel 29 cs=some x) :
  ∃ a n cap l,cs=[.slice a n cap]∧FrR W (.slice a n cap) l:=by
 have us:Tryz.prog.underlying 57=some .string:=Tryz.underlying57
 have cs1:Tryz.prog.cellsOf 57=1:=by kernel_rfl
 have ce:Tryz.prog.cellsOf 59=2:=by kernel_rfl
 rcases DataW.trod_slice Tryz.underlying29 h with ⟨rfl, -⟩|⟨a,len,cap,elems,rest,n, -, rfl, -, -, h1,h2,h3,h4, -⟩
 ·exact ⟨none,0,0,[],rfl,none,0,rfl,Nat.le_refl _,by omega,fun k hk=>by cases hk⟩
 ·unfold maxLen at h2
  have hc:∀ i,i<len→∃ p:Fr,W.cell? (a.add (i*2))=some (.string p.n)∧W.cell? ((a.add (i*2)).add 1)=some (.string p.d):=fun i hi=>by
   have e:=h4 i hi
   rw [List.getElem?_eq_getElem zo,ce,Option.bind_eq_some_iff] at e
   obtain ⟨cs',g1,g2⟩:=e
   obtain ⟨y0,y1,m, -, hl,hy0,hy1⟩:=trod_struct2 Tryz.underlying59 g2
   rw [ce] at hl
   obtain ⟨x0,x1,rfl⟩:∃ x0 x1,cs'=[x0,x1]:=by
    match cs',hl with
    | [x0,x1],_=>exact ⟨x0,x1,rfl⟩
   simp only [cs1] at hy0 hy1
   obtain ⟨z0,e0, -⟩:=DataW.trod_string us hy0
   obtain ⟨z1,e1, -⟩:=DataW.trod_string us hy1
   replace e0:[x0]=[Value.string z0]:=e0
   replace e1:[x1]=[Value.string z1]:=e1
   simp only [List.cons.injEq,and_true] at e0 e1
   subst e0 e1
   have r:=(uQ g1).2
   have r0:=r 0 zo
   have r1:=r 1 zo
   rw [show (a.add (i*2)).add 0=a.add (i*2) by simp [Addr.add]] at r0
   exact ⟨⟨z0,z1⟩,r0,r1⟩
  let g:Nat→Fr:=fun i=>if h:i<len then (hc i h).choose else Fr.no
  have hgl:((List.range len).map g).length=len:=by simp
  refine ⟨some a,len,cap,(List.range len).map g,rfl,some a,cap,by rw [hgl],by rw [hgl];exact h1,h2,fun k hk=>?_⟩
  rw [hgl] at hk
  have hsp:=(hc k hk).choose_spec
  have hg:g k=(hc k hk).choose:=by simp only [g,hk,dif_pos]
  rw [← hg] at hsp
  rw [List.getElem_map,List.getElem_range]
  have hs:a.spot=none:=by simpa [Addr.add] using World.cell?_spot (hc 0 zo).choose_spec.1
  have hl:=xS hsp.1
  obtain ⟨b,off,spo⟩:=a
  simp only at hs
  subst hs
  simp only [Addr.add_lit] at hsp hl
  exact ⟨b,off,rfl,hl,hsp⟩
theorem trod_mat {H:Type} {enc:TypeId × Value→H} {W:World} {base:Nat} {sp:Nat→Bool} {held:Bool} {fuel:Nat} {cs:List Value} {x:DataW H × List MemPlace} (h:DataW.trod enc Tryz.prog W base sp held fuel 23 cs=some x) :
  ∃ a n cap l,cs=[.slice a n cap]∧MaR W (.slice a n cap) l:=by
 have ce:Tryz.prog.cellsOf 29=1:=by kernel_rfl
 rcases DataW.trod_slice Tryz.underlying23 h with ⟨rfl, -⟩|⟨a,len,cap,elems,rest,n, -, rfl, -, -, h1,h2,h3,h4, -⟩
 ·exact ⟨none,0,0,[],rfl,none,0,rfl,Nat.le_refl _,by omega,fun k hk=>by cases hk⟩
 ·unfold maxLen at h2
  have hc:∀ i,i<len→∃ l:List Fr,∃ a' n' c',W.cell? (a.add i)=some (.slice a' n' c')∧FrR W (.slice a' n' c') l:=fun i hi=>by
   have e:=h4 i hi
   rw [List.getElem?_eq_getElem zo,ce,Nat.mul_one,Option.bind_eq_some_iff] at e
   obtain ⟨cs',g1,g2⟩:=e
   obtain ⟨a',n',c',l,rfl,hf⟩:=trod_frs g2
   have r0:=(uQ g1).2 0 zo
   rw [show (a.add i).add 0=a.add i by simp [Addr.add]] at r0
   exact ⟨l,a',n',c',r0,hf⟩
  let g:Nat→List Fr:=fun i=>if h:i<len then (hc i h).choose else []
  have hgl:((List.range len).map g).length=len:=by simp
  refine ⟨some a,len,cap,(List.range len).map g,rfl,some a,cap,by rw [hgl],by rw [hgl];exact h1,h2,fun k hk=>?_⟩
  rw [hgl] at hk
  have hsp:=(hc k hk).choose_spec
  have hg:g k=(hc k hk).choose:=by simp only [g,hk,dif_pos]
  rw [← hg] at hsp
  rw [List.getElem_map,List.getElem_range]
  obtain ⟨_,_,_,z0, -⟩:=(hc 0 zo).choose_spec
  have hs:a.spot=none:=by simpa [Addr.add] using World.cell?_spot z0
  obtain ⟨a',n',c',k1,k2⟩:=hsp
  have hl:=xS k1
  obtain ⟨b,off,spo⟩:=a
  simp only at hs
  subst hs
  simp only [Addr.add_lit] at k1 hl
  exact ⟨b,off,a',n',c',rfl,hl,k1,k2⟩
theorem KL {H:Type} {enc:TypeId × Value→H} {W:World} {base:Nat} {sp:Nat→Bool} {held:Bool} {fuel:Nat} {cs:List Value} {x:DataW H × List MemPlace} (h:DataW.trod enc Tryz.prog W base sp held fuel 26 cs=some x) :
  ∃ r c a n cap,cs=[.int .u8 r,.int .u8 c,.slice a n cap]∧(0≤r∧r≤255)∧(0≤c∧c≤255)∧jw W (.slice a n cap):=by
 have u1:Tryz.prog.underlying 5=some (.int .u8):=Tryz.underlying5
 have c1:Tryz.prog.cellsOf 5=1:=by kernel_rfl
 have c2:Tryz.prog.cellsOf 24=1:=by kernel_rfl
 have ct:Tryz.prog.cellsOf 26=3:=by kernel_rfl
 obtain ⟨y0,y1,y2,m,hl,h0,h1,h2⟩:=trod_struct3 Tryz.underlying26 h
 rw [ct] at hl
 obtain ⟨x0,x1,x2,rfl⟩:∃ x0 x1 x2,cs=[x0,x1,x2]:=by
  match cs,hl with
  | [x0,x1,x2],_=>exact ⟨x0,x1,x2,rfl⟩
 simp only [c1,c2] at h0 h1 h2
 obtain ⟨r,e0, -, w0⟩:=DataW.trod_int u1 h0
 obtain ⟨c,e1, -, w1⟩:=DataW.trod_int u1 h1
 obtain ⟨a,n,cap,e2,hd⟩:=KJ h2
 replace e0:[x0]=[Value.int .u8 r]:=e0
 replace e1:[x1]=[Value.int .u8 c]:=e1
 replace e2:[x2]=[Value.slice a n cap]:=e2
 simp only [List.cons.injEq,and_true] at e0 e1 e2
 subst e0 e1 e2
 exact ⟨r,c,a,n,cap,rfl,KF w0,KF w1,hd⟩
theorem opn_two {H:Type} {enc:TypeId × Value→H} {W:World} {b0 base:Nat} {sp:Nat→Bool} {held:Bool} {v:Value} {d:DataW H} {p:List MemPlace}
  (hval:Value.okWide Tryz.prog W .any b0 28 v) (h:DataW.Trod enc Tryz.prog W base sp held 28 v d p) :
  ∃ A B r c v1 r1 c1 v2 mA mB,v= .agg #[A,B,.int .u8 r,.int .u8 c,v1,.int .u8 r1,.int .u8 c1,v2]∧MaR W A mA∧MaR W B mB∧(0≤r∧r≤255)∧(0≤c∧c≤255)∧(0≤r1∧r1≤255)∧(0≤c1∧c1≤255)∧jw W v1∧jw W v2:=by
 have ut:=Tryz.underlying28
 have c1:Tryz.prog.cellsOf 23=1:=by kernel_rfl
 have c2:Tryz.prog.cellsOf 26=3:=by kernel_rfl
 have ct:Tryz.prog.cellsOf 28=8:=by kernel_rfl
 obtain ⟨cs,rfl,hsz, -⟩:∃ cs,v= .agg cs∧cs.size=Tryz.prog.cellsOf 28∧Row.okWide Tryz.prog W .any b0 28 cs:=by
  simpa [Value.okWide,ut] using hval
 rw [ct] at hsz
 obtain ⟨l⟩:=cs
 obtain ⟨x0,x1,x2,x3,x4,x5,x6,x7,rfl⟩:∃ x0 x1 x2 x3 x4 x5 x6 x7,l=[x0,x1,x2,x3,x4,x5,x6,x7]:=by
  match l,hsz with
  | [x0,x1,x2,x3,x4,x5,x6,x7],_=>exact ⟨x0,x1,x2,x3,x4,x5,x6,x7,rfl⟩
 obtain ⟨fuel,hf⟩:=h
 obtain ⟨y0,y1,y2,y3,m, -, h0,h1,h2,h3⟩:=trod_struct4 ut hf
 simp only [c1,c2] at h0 h1 h2 h3
 obtain ⟨a0,n0,cap0,mA,e0,hA⟩:=trod_mat h0
 obtain ⟨a1,n1,aG6,mB,e1,hB⟩:=trod_mat h1
 obtain ⟨r,c,a2,n2,cap2,e2,k1,k2,hd⟩:=KL h2
 obtain ⟨r1,c1,a3,n3,aG5,e3,k3,k4,hd1⟩:=KL h3
 replace e0:[x0]=[Value.slice a0 n0 cap0]:=e0
 replace e1:[x1]=[Value.slice a1 n1 aG6]:=e1
 replace e2:[x2,x3,x4]=[Value.int .u8 r,.int .u8 c,.slice a2 n2 cap2]:=e2
 replace e3:[x5,x6,x7]=[Value.int .u8 r1,.int .u8 c1,.slice a3 n3 aG5]:=e3
 simp only [List.cons.injEq,and_true] at e0 e1 e2 e3
 subst e0 e1
 obtain ⟨rfl,rfl,rfl⟩:=e2
 obtain ⟨rfl,rfl,rfl⟩:=e3
 exact ⟨_,_,r,c,_,r1,c1,_,mA,mB,rfl,hA,hB,k1,k2,k3,k4,hd,hd1⟩
theorem MaR.sl {W:World} {v:Value} {m:List (List Fr)} (h:MaR W v m):∃ a n c,v= .slice a n c:=by
 obtain ⟨a,cap,h, -⟩:=h
 exact ⟨a,_,cap,h⟩
end Go.Proofs.YtfhappbmgghgdaaGreatDoor
namespace Go.Proofs.matrix
theorem iroot:True:=trivial
end Go.Proofs.matrix
