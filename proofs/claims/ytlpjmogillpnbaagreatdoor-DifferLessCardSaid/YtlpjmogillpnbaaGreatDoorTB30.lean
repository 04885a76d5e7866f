/- Lemmas for the proof. No condition. -/
import Derived.Test.YtlpjmogillpnbaaGreatDoorTB29
import Derived.Deep.AppendSrc
import Derived.Deep.DeepAppendWide
set_option linter.unusedVariables false
set_option linter.unusedSimpArgs false
set_option maxRecDepth 100000
set_option maxHeartbeats 16000000
open Go.Ending renaming returned → ah
open Go.IntKind renaming i64 → I
open Go.Value renaming int → Z, slice → aj, tuple → aD
open List renaming map_cons → bJ, map_nil → jK, take_append_drop → jA, take_length → dR, take_of_length_le → gY
open Nat renaming add_mul → bX, div_add_mod → bP, div_eq_of_lt → dS, div_lt_iff_lt_mul → bK, eq_zero_or_pos → aS, le_of_lt → jL, le_of_not_lt → dz, le_refl → aI, lt_of_lt_of_le → aL, lt_or_ge → aO, min_eq_left → jl, mod_eq_of_lt → eZ, mod_lt → dV, mul_add → aU, mul_assoc → bL, mul_comm → aJ, mul_le_mul_left → aK, mul_le_mul_right → aX, mul_left_comm → dh, one_mul → fP, pow_le_pow_right → bE, zero_add → dw
namespace Go.Proofs.aV
open Go Go.RowKit Go.SW Go.Num Go.Mem Go.Proofs
theorem vY (pl ps:Option Addr) (cl cs:Nat) (l m:List Nat) (w:World) (hl:fD 10000 l) (hmd:fD 10000 m) (hb1:l.length≤1099511627776) (hml:m.length≤l.length) (hle:val 10000 m≤val 10000 l)
   (hc:∀ k,k<l.length→∃ b off,pl=some ⟨b,off,none⟩∧b<w.heap.size∧w.cell? ⟨b,off+k,none⟩=some (.int .i64 (l.getD k 0:Nat)))
   (hd:∀ k,k<m.length→∃ b off,ps=some ⟨b,off,none⟩∧b<w.heap.size∧w.cell? ⟨b,off+k,none⟩=some (.int .i64 (m.getD k 0:Nat))) :
    Calls Tryz.prog 281 #[aj pl l.length cl,aj ps m.length cs] w fun e w'=>∃ v,e= ah v∧Below w.heap.size w w'∧Nm w' v (val 10000 l - val 10000 m):=by
  obtain ⟨i0,hi,hz0,hz1,hz2⟩:=info_parts yt;have OU:=zh hle;clear hle;go_enter Tryz.func281,Tryz.ntmps281
  go_wp2
  go_loopw [5,6,7,8] (fun ov cv kv _ wr=>∃ (k c:Nat) (s:List Nat),k≤l.length∧c≤1∧Hid (s.length=k)∧kv= Z I k∧cv= Z I c ∧
      wr.ownsRow w.heap.size 3 1 ov k (ints s)∧fD 10000 s∧Hid (val 10000 s+val 10000 (m.take k)=val 10000 (l.take k)+c*10000^k)∧Below w.heap.size w wr)
    (fun _ _ kv _ _=>l.length - (intOf kv).toNat)
  case atStart=>exact ⟨0,0,[],Nat.zero_le _,by omega,rfl,rfl,rfl,World.ownsRow_nil _ _ _ _,fD.nil,(by simp [val]:val _ _+val _ _=val _ _+0*_),Below.refl _ _⟩
  case round =>
    obtain ⟨k,c,s,hk,hc1,HS,rfl,rfl,hown,hds,HV,hb⟩:=hrel
    by_cases hkl:k<l.length
    · obtain ⟨b,off,rfl,hbb,hx0⟩:=hc k hkl
      have hx:wr.cell? ⟨b,off+k,none⟩=some (.int .i64 (l.getD k 0:Nat)):=(hb.cell (by exact hbb)).trans hx0;have hdl:l.getD k 0<10000:=hl.getD zo k
      have HP:Hid (∀ d c',d+m.getD k 0+c=l.getD k 0+c'*10000→val 10000 (s++[d])+val 10000 (m.take (k+1))=val 10000 (l.take (k+1))+c'*10000^(k+1)) :=
        fun d c' h=>xX hkl HS.out HV.out h
      have ec:∀ (d:Nat) (z:Int),(d:Int)=z→ints s++[Z I z]=ints (s++[d]):=fun d z e=>by
        unfold ints;simp only [List.map_append,bJ,jK];rw [e]
      have EC:=zh ec;clear hx0 hc ec
      by_cases hkm:k<m.length
      · obtain ⟨b2,off2,rfl,Bp,hy0⟩:=hd k hkm
        have hy:wr.cell? ⟨b2,off2+k,none⟩=some (.int .i64 (m.getD k 0:Nat)):=(hb.cell (by exact Bp)).trans hy0;have Lc:m.getD k 0<10000:=hmd.getD zo k;clear hy0 hd;generalize l.getD k 0=x at *;generalize m.getD k 0=y at *
        by_cases hge:x<c+y
        · have hneg:(x:Int) - (c:Int) - (y:Int)<0:=by omega
          have e:=EC.out (x+10000 - (c+y)) ((x:Int) - (c:Int) - (y:Int)+10000) zo;have VE:=zh e;have HG:=zh hge;clear hge e EC;go_wp2_with (at_builtin;refine wpList_append_own _ rfl (.tmp 35) (.tmp 37) 142 rfl w.heap.size 3 i0 (Z I 0) 1 8 Tryz.underlying142 hi hz0 hz1 hz2 rfl zd _ _ _ rfl (hown.alloc _) ⟨wr.heap.size,0,none⟩ 1 1 [Z I ((x:Int) - (c:Int) - (y:Int)+10000)] rfl rfl (by intro t u ht;match t,ht with|0,ht=>simp at ht;subst ht;simp [Addr.add]) (by intro u hu;simp at hu;subst hu;rfl) (by unfold maxLen;omega) zo (by have:=hb.size;simp;omega) ?_)
          intro v' w1 hown1 hgrow1 _;rw [VE.out] at hown1;have hb3:Below w.heap.size w w1:=(hb.alloc hb.size _).grown hgrow1 (by simp;have:=hb.size;omega) (fun k hk=>(hown.lt k hk).1);clear hown hgrow1
          go_wp2
          go_roundw
          case rel=>exact ⟨k+1,1,s++[(x+10000 - (c+y))],by omega,by omega,zh (by rw [List.length_append,HS.out];rfl),by go_num,rfl,hown1,hds.snoc (by have:=HG.out;omega),HP.out _ _ (by have:=HG.out;omega),hb3⟩
          case measure=>exact zM
        by_cases hge:¬ x<c+y
        · have hneg:¬ (x:Int) - (c:Int) - (y:Int)<0:=by omega
          have e:=EC.out (x - (c+y)) ((x:Int) - (c:Int) - (y:Int)) zo;have VE:=zh e;have HG:=zh hge;clear hge e EC;go_wp2_with (at_builtin;refine wpList_append_own _ rfl (.tmp 35) (.tmp 37) 142 rfl w.heap.size 3 i0 (Z I 0) 1 8 Tryz.underlying142 hi hz0 hz1 hz2 rfl zd _ _ _ rfl (hown.alloc _) ⟨wr.heap.size,0,none⟩ 1 1 [Z I ((x:Int) - (c:Int) - (y:Int))] rfl rfl (by intro t u ht;match t,ht with|0,ht=>simp at ht;subst ht;simp [Addr.add]) (by intro u hu;simp at hu;subst hu;rfl) (by unfold maxLen;omega) zo (by have:=hb.size;simp;omega) ?_)
          intro v' w1 hown1 hgrow1 _;rw [VE.out] at hown1;have hb3:Below w.heap.size w w1:=(hb.alloc hb.size _).grown hgrow1 (by simp;have:=hb.size;omega) (fun k hk=>(hown.lt k hk).1);clear hown hgrow1
          go_wp2
          go_roundw
          case rel=>exact ⟨k+1,0,s++[(x - (c+y))],by omega,by omega,zh (by rw [List.length_append,HS.out];rfl),by go_num,rfl,hown1,hds.snoc (by have:=HG.out;omega),HP.out _ _ (by have:=HG.out;omega),hb3⟩
          case measure=>exact zM
        exact absurd ‹¬ x<c+y› ‹¬ ¬ x<c+y›
      · have hm0:m.getD k 0=0:=by simp [dz hkm]
        rw [hm0] at HP;clear hm0 hd;generalize l.getD k 0=x at *
        by_cases hge:x<c
        · have hneg:(x:Int) - (c:Int)<0:=by omega
          have e:=EC.out (x+10000 - c) ((x:Int) - (c:Int)+10000) zo;have VE:=zh e;have HG:=zh hge;clear hge e EC;go_wp2_with (at_builtin;refine wpList_append_own _ rfl (.tmp 35) (.tmp 37) 142 rfl w.heap.size 3 i0 (Z I 0) 1 8 Tryz.underlying142 hi hz0 hz1 hz2 rfl zd _ _ _ rfl (hown.alloc _) ⟨wr.heap.size,0,none⟩ 1 1 [Z I ((x:Int) - (c:Int)+10000)] rfl rfl (by intro t u ht;match t,ht with|0,ht=>simp at ht;subst ht;simp [Addr.add]) (by intro u hu;simp at hu;subst hu;rfl) (by unfold maxLen;omega) zo (by have:=hb.size;simp;omega) ?_)
          intro v' w1 hown1 hgrow1 _;rw [VE.out] at hown1;have hb3:Below w.heap.size w w1:=(hb.alloc hb.size _).grown hgrow1 (by simp;have:=hb.size;omega) (fun k hk=>(hown.lt k hk).1);clear hown hgrow1
          go_wp2
          go_roundw
          case rel=>exact ⟨k+1,1,s++[(x+10000 - c)],by omega,by omega,zh (by rw [List.length_append,HS.out];rfl),by go_num,rfl,hown1,hds.snoc (by have:=HG.out;omega),HP.out _ _ (by have:=HG.out;omega),hb3⟩
          case measure=>exact zM
        by_cases hge:¬ x<c
        · have hneg:¬ (x:Int) - (c:Int)<0:=by omega
          have e:=EC.out (x - c) ((x:Int) - (c:Int)) zo;have VE:=zh e;have HG:=zh hge;clear hge e EC;go_wp2_with (at_builtin;refine wpList_append_own _ rfl (.tmp 35) (.tmp 37) 142 rfl w.heap.size 3 i0 (Z I 0) 1 8 Tryz.underlying142 hi hz0 hz1 hz2 rfl zd _ _ _ rfl (hown.alloc _) ⟨wr.heap.size,0,none⟩ 1 1 [Z I ((x:Int) - (c:Int))] rfl rfl (by intro t u ht;match t,ht with|0,ht=>simp at ht;subst ht;simp [Addr.add]) (by intro u hu;simp at hu;subst hu;rfl) (by unfold maxLen;omega) zo (by have:=hb.size;simp;omega) ?_)
          intro v' w1 hown1 hgrow1 _;rw [VE.out] at hown1;have hb3:Below w.heap.size w w1:=(hb.alloc hb.size _).grown hgrow1 (by simp;have:=hb.size;omega) (fun k hk=>(hown.lt k hk).1);clear hown hgrow1
          go_wp2
          go_roundw
          case rel=>exact ⟨k+1,0,s++[(x - c)],by omega,by omega,zh (by rw [List.length_append,HS.out];rfl),by go_num,rfl,hown1,hds.snoc (by have:=HG.out;omega),HP.out _ _ (by have:=HG.out;omega),hb3⟩
          case measure=>exact zM
        exact absurd ‹¬ x<c› ‹¬ ¬ x<c›
    · have hkk:k=l.length:=by omega
      subst hkk;clear hc hd
      have Fp:val 10000 s+val 10000 m=val 10000 l+c*10000^l.length:=by
        have:=HV.out;rwa [dR,gY hml] at this
      have hvs:val 10000 s<10000^l.length:=by have:=gQ zo hds;rwa [HS.out] at this
      have hc0:c=0:=by
        rcases aS c with h|h
        · exact h
        · exfalso
          have:c=1:=by omega
          subst this;have:=OU.out;omega
      have HF:Hid (val 10000 s=val 10000 l - val 10000 m):=by subst hc0;unfold Hid;omega
      clear HV Fp hvs OU;have hown3:Gs wr u5 s:=Gs.iA hown;obtain ⟨pa,ca,rfl, -⟩:=hown3.read;clear hown;go_wp2_with (go_at_call 242;refine (pF _ _ _ hown3 hds).mono ?_;rintro e w' ⟨v,rfl,rfl,hv⟩)
      go_ret
      exact ⟨v,rfl,hb,by rw [← HF.out];exact hv⟩
theorem zL (x y:Value) (a b:Nat) (w:World) (hx:Nm w x a) (hy:Nm w y b) (ha:sz 10000 a≤1099511627776) (hle:b≤a) :
  Calls Tryz.prog 281 #[x,y] w fun e w'=>∃ v,e= ah v∧Below w.heap.size w w'∧Nm w' v (a - b):=by
 obtain ⟨pa,ca,rfl,h1,h2,h3⟩:=Gs.read hx.gs;obtain ⟨pb,cb,rfl,k1,k2,k3⟩:=Gs.read hy.gs;have:=vY pa pb ca cb _ _ w (bN zo a) (bN zo b) ha (gZ zo hle) (by rw [bH zo,bH zo];exact hle) h3 k3
 rwa [bH zo,bH zo] at this
theorem wpList_append_run {P:Program} {ops:Array Oper} {rest:List Oper} {o:Oper} {a:Act} {w w':World} {Q:Exit→Act→World→Prop} (hgd:o.guard=none) (s x:Operand) (t:TypeId)
  (ho:o.op= .call { callee:=.builtin .append,args:=#[s,x],argTypes:=#[t,t] }) {vs vx v:Value} (hs:a.eval s=vs) (hx:a.eval x=vx)
  (hr:∀ ty,(Builtin.append_ #[t,t] ty #[vs,vx]).run P w= .ok v w') (h:wpList P ops Q rest (a.put o.dst v) w'):wpList P ops Q (o::rest) a w :=
 wpList_plain hgd fun _ hK=>by
  unfold Oper.wp execOp;simp only [ho,resolve,invoke,builtin,Sem.run_bind,Sem.run_pure,Result.andThen_ok,List.map_toArray,bJ,jK,hs,hx,hr];exact hK _ _ h
theorem su (W:World) (g:Nat) (ds l:List Nat) (v:Value) (hx:aC W g (ints ds).toArray 3) (h:Gs W v l) (hl:ds.length+l.length≤1099511627776) :
  ∃ v' W',(∀ ty,(Builtin.append_ #[142,142] ty #[aj (some ⟨g,0,none⟩) ds.length ds.length,v]).run Tryz.prog W= .ok v' W')∧Gs W' v' (ds++l)∧Below W.heap.size W W'∧∃ b o n c,v'= aj (some ⟨b,o,none⟩) n c∧(b=g∨b=W.heap.size):=by
 obtain ⟨i0,hi,hz0,hz1,hz2⟩:=info_parts yt
 have hcell:∀ (w':World),w'.heap=W.heap→∀ j u,(ints ds)[j]? =some u→w'.cell? ((⟨g,0,none⟩:Addr).add j)=some u:=fun w' hw j u hu=>by
  have hx':aC w' g (ints ds).toArray 3:=by unfold aC at*; rw [hw];exact hx
  rw [Addr.add_lit,hx'.cell,dw,List.getElem?_toArray,hu]
 have same:l=[]→Gs W (aj (some ⟨g,0,none⟩) ds.length ds.length) (ds++l):=fun e=>by
  subst e;rw [List.append_nil];refine Row.mk (by rw [bQ]) (by rw [bQ];exact aI _) zo hx fun i hi=>?_;rw [dw,List.getElem?_toArray];exact List.getElem?_eq_getElem hi
 have room:∀ (x:Value),l=[]→Src Tryz.prog i0.size 142 x 0 [] W→∃ v' W',(∀ ty,(Builtin.append_ #[142,142] ty #[aj (some ⟨g,0,none⟩) ds.length ds.length,x]).run Tryz.prog W= .ok v' W')∧Gs W' v' (ds++l)∧Below W.heap.size W W'∧∃ b o n c,v'= aj (some ⟨b,o,none⟩) n c∧(b=g∨b=W.heap.size):=fun x e hs =>
  ⟨_,_,fun ty=>run_append_room_src W 142 142 ty 3 i0 Tryz.underlying142 hi g 0 ds.length ds.length x 0 [] hs zo (fun j hj=>by cases hj) (fun j hj=>by cases hj),by simpa [World.setCells] using same e,by simpa [World.setCells] using Below.refl _ _,_,_,_,_,rfl,.inl rfl⟩
 rcases Gs.cases h with ⟨rfl,rfl⟩|⟨b,off,cap,rfl,h1,h2,h3, -, h5⟩
 ·exact room _ rfl (Src.ofNil W Tryz.underlying142 0)
 ·by_cases hl0:l.length=0
  ·have e:=List.length_eq_zero_iff.1 hl0;have hs:Src Tryz.prog i0.size 142 (aj (some ⟨b,off,none⟩) 0 cap) 0 [] W:=Src.ofSlice W Tryz.underlying142 ⟨b,off,none⟩ 0 cap [] zi (fun j u hu=>by cases hu) (fun u hu=>by cases hu);rw [hl0];exact room _ e hs
  ·have hs:Src Tryz.prog i0.size 142 (aj (some ⟨b,off,none⟩) l.length cap) l.length (ints l) W:=Src.ofSlice W Tryz.underlying142 ⟨b,off,none⟩ l.length cap (ints l) (by rw [bQ,hz1];simp) (fun j u hu=>by
    have hj:j<l.length:=by
     have:=(List.getElem?_eq_some_iff.1 hu).1;rwa [bQ] at this
    rw [qx hj] at hu;rw [Addr.add_lit,h5 j hj,← hu]) (Go.Mem.ints_oneCell l)
   have hold:(Builtin.firstCells i0.size ds.length (aj (some ⟨g,0,none⟩) ds.length ds.length)).run Tryz.prog W.drew= .ok (ints ds).toArray W.drew :=
    run_firstCells_some W.drew i0.size ds.length ⟨g,0,none⟩ ds.length ds.length (ints ds) (by rw [bQ,hz1];simp) (hcell W.drew rfl)
   refine ⟨_,_,fun ty=>run_append_grow_src W 142 142 ty 3 i0 (Z I 0) Tryz.underlying142 hi hz0 (some ⟨g,0,none⟩) ds.length ds.length (ints ds) hold _ l.length (ints l) hs zo zo (growslice_fits_wide zo (by rw [hz2];omega)),?_,?_,_,_,_,_,rfl,.inr rfl⟩
   ·refine Row.mk (by rw [bQ,List.length_append]) ?_ ?_ (aC.new _ _ _) fun i hi=>?_
    ·rw [bQ,List.length_append];exact grownCap_ge _ _ _ _
    ·have:=grownCap_le_maxLen W (ds.length+l.length) ds.length 3 (by unfold maxLen;omega);unfold maxLen at this;omega
    ·rw [bQ,List.length_append] at hi;rw [dw,Array.getElem?_append_left (by simp [ints];omega),List.getElem?_toArray];have e:ints ds++ints l=ints (ds++l):=by unfold ints;rw [List.map_append]
     rw [e];exact List.getElem?_eq_getElem (by rw [bQ,List.length_append];exact hi)
   ·exact (Below.drew (Below.refl _ _)).alloc zi _
theorem NS (B:Nat) (l:List Nat) (k:Nat):val B (l.drop k)=val B (l.drop (k+1))*B+l.getD k 0:=by
 by_cases h:k<l.length
 ·exact oV h
 ·rw [List.drop_of_length_le zo,List.drop_of_length_le zo];simp [val,dz h]
theorem NT {B:Nat} (hB:0<B) {l:List Nat} (hl:fD B l) (k:Nat):val B (l.drop k)=val B l / B^k:=by
 by_cases h:k≤l.length
 ·have e:val B l=val B (l.take k)+B^k*val B (l.drop k):=by
   conv=>lhs;rw [← jA k l,val_append]
   rw [List.length_take,jl h]
  have h2:=gQ hB (hl.take k);rw [List.length_take,jl h] at h2;rw [e,Nat.add_mul_div_left _ _ (Nat.pow_pos hB),dS h2,dw]
 ·rw [List.drop_of_length_le zo];have h2:=gQ hB hl;rw [dS (aL h2 (bE hB zo))];rfl
theorem Uk {R D P t f:Nat} (h1:t*P≤D) (h2:D<(t+1)*P) (ht:10000≤t) (hR:R<D*10000) (hP:0<P) (hf:f=R / P) :
  f / (t+1)*D≤R∧R<(f / t+1)*D∧f / t+1≤10001:=by
 have e1:f*P≤R:=by rw [hf];exact Nat.div_mul_le_self R P
 have e2:R<(f+1)*P:=by rw [hf,bX,fP];exact Nat.lt_div_mul_add hP
 refine ⟨?_,?_,?_⟩
 ·have h3:f / (t+1)*D≤f / (t+1)*((t+1)*P):=aK _ (jL h2);have h4:f / (t+1)*(t+1)*P≤f*P:=aX _ (Nat.div_mul_le_self _ _);rw [bL] at h4;omega
 ·have h3:f+1≤(f / t+1)*t:=by
   rw [bX,fP];exact Nat.lt_div_mul_add zo
  have h4:(f+1)*P≤(f / t+1)*t*P:=aX _ h3;have h5:(f / t+1)*(t*P)≤(f / t+1)*D:=aK _ h1;rw [bL] at h4;omega
 ·have h3:f*P<(t+1)*10000*P:=by
   have h6:D*10000≤(t+1)*P*10000:=aX _ (jL h2);rw [bL,aJ P 10000,← bL] at h6;omega
  have h4:f<(t+1)*10000:=Nat.lt_of_mul_lt_mul_right h3
  have h5:f / t<10001:=by
   rw [bK zo];omega
  omega
theorem TH {lo hi R D:Nat} (h1:lo*D≤R) (hR:R<D*10000) (hhi:hi≤10001) (hlt:lo+1<hi):lo≤9999∧(lo+hi) / 2≤10000∧lo<(lo+hi) / 2∧(lo+hi) / 2<hi:=by
 have:lo<10000:=by
  rcases aO lo 10000 with h|h
  ·exact h
  ·exfalso
   have h2:10000*D≤lo*D:=aX _ h;rw [aJ] at h2;omega
 omega
theorem Ur {lo R D:Nat} (h1:lo*D≤R) (h2:R<(lo+1)*D):R / D=lo∧R%D=R - D*lo:=by
 have hD:0<D:=by
  rcases aS D with h|h
  ·subst h;simp at h2
  ·exact h
 have e:R / D=lo:=by
  rw [Nat.div_eq_iff zo];rw [bX,fP] at h2;have:=aJ D lo;omega
 refine ⟨e,?_⟩;have:=bP R D;rw [e] at this;omega
theorem FR {B D:Nat} {a s:List Nat} {j R lo:Nat} (hj:j<a.length) (he:val B (a.drop (j+1))=D*val B s+R) (h1:(a.getD j 0+B*R) / D=lo) :
  val B (a.drop j)=D*val B (lo::s)+(a.getD j 0+B*R)%D:=by
 rw [oV hj,he];have h:=bP (a.getD j 0+B*R) D;rw [h1] at h;simp only [val];have e1:D*(lo+B*val B s)=D*lo+B*(D*val B s):=by rw [aU,dh]
 have e2:(D*val B s+R)*B=B*(D*val B s)+B*R:=by rw [bX,aJ,aJ R]
 rw [e1,e2];omega
theorem xO (x y:Value) (l m:List Nat) (w:World) (hx:Gs w x l) (hy:Gs w y m) (hl:fD 10000 l) (hm:Vi m) (ha:l.length≤1099511627776) (hb:m.length≤1099511627776) :
  Calls Tryz.prog 280 #[x,y] w fun e w'=>∃ v,e= ah v∧Below w.heap.size w w'∧Nm w' v (val 10000 l*val 10000 m):=by
 obtain ⟨pa,ca,rfl,h1,h2,h3⟩:=Gs.read hx;obtain ⟨pb,cb,rfl,k1,k2,k3⟩:=Gs.read hy;exact A8 pa pb ca cb _ _ w hl hm ha hb h3 k3
theorem Gs.one {w:World} {d:Nat}:Gs (w.alloc (.cells #[Z I (d:Int)] 3 (0,0))) (aj (some ⟨w.heap.size,0,none⟩) 1 1) [d]:=by
 refine Row.mk rfl (by simp [ints]) zo (aC.new _ _ _) fun i hi=>?_
 match i,hi with
 | 0,_=>rfl
def qV (w:World) (a b:Nat) (e:Ending) (w':World):Prop:=∃ q r,e= ah (aD #[q,r])∧Below w.heap.size w w'∧Nm w' q (a / b)∧Nm w' r (a%b)
theorem JJ (x:Value) (a d:Nat) (pb:Option Addr) (cb:Nat) (w:World) (hx:Nm w x a) (ha:sz 10000 a≤1099511627776) (hd0:0<d) (hd1:d<10000)
  (hc:∃ b off,pb=some ⟨b,off,none⟩∧w.cell? ⟨b,off,none⟩=some (.int .i64 (d:Int))) :
  Calls Tryz.prog 239 #[x,aj pb 1 cb] w (qV w a d):=by
 have HO:=zh (Qc x a d w hx ha hd0 zo);obtain ⟨pa,ca,rfl, -⟩:=hx.read;obtain ⟨b,off,rfl,hcell⟩:=hc;clear hx ha;go_enter Tryz.func239,Tryz.ntmps239
 go_wp2_with fail
 refine HO.out.mono ?_;rintro e w1 ⟨v,rfl,hb1,hv⟩;obtain ⟨pq,lq,cq,rfl⟩:=hv.slice;have HV:=zh hv;have hr:a%d<10000:=Nat.lt_trans (dV _ hd0) hd1;generalize hR:a%d=r at *;have HR:=zh hR;clear hR hv hcell;have HC:=zh (pF (aj (some ⟨w1.heap.size,0,none⟩) 1 1) [r] (w1.alloc (.cells #[Z I (r:Int)] 3)) Gs.one (fD.nil.cons hr));go_wp2_with fail
 refine HC.out.mono ?_;rintro e w' ⟨v',rfl,rfl,hv'⟩;obtain ⟨pr,lr,cr,rfl⟩:=hv'.slice;have HV':=zh hv';clear hv' HC HO;go_wp2_with fail
 go_ret2
 refine ⟨_,_,rfl,cO hb1 _,HV.out.alloc _,?_⟩;have e:val 10000 [r]=r:=by simp [val]
 rw [HR.out,← e];exact HV'.out
theorem FU (x:Value) (a p d:Nat) (pb:Option Addr) (cb:Nat) (w:World) (hx:Nm w x a) (ha:sz 10000 a≤p+1) (hp:p≤549755813888) (hd:a<d) :
  Calls Tryz.prog 239 #[x,aj pb (p+2) cb] w (qV w a d):=by
 obtain ⟨i0,hi,hz0,hz1,hz2⟩:=info_parts yt;obtain ⟨v',W',hap,hg,hb, -⟩:=su (w.alloc (.cells #[] 3)) w.heap.size [] (dF 10000 a) x (aC.new _ _ _) (hx.alloc _) (by have:(dF 10000 a).length=sz 10000 a:=rfl;simp;omega);obtain ⟨pa,ca,rfl,k1,k2, -⟩:=hx.read;rw [List.nil_append] at hg;have HG:=zh hg;obtain ⟨p2,c2,rfl, -⟩:=hg.read;have HB:=zh hb;have HA:Hid (a / d=0∧a%d=a):=zh ⟨dS hd,eZ hd⟩;generalize sz 10000 a=sa at *;clear hx hg hb hd;have h1:((p:Int)+2 == 1)=false:=by simp;omega
 have h2:(sa:Int)≤(p:Int)+2 - 1:=by omega
 have Vx:=zh hap;clear hap;go_enter Tryz.func239,Tryz.ntmps239
 go_wp2_with (at_builtin;refine wpList_append_run rfl (.tmp 40) (.tmp 41) 142 rfl rfl rfl Vx.out ?_)
 go_ret2
 exact ⟨_,_,rfl,Bt aN HB.out,by rw [HA.out.1];exact Nm.zero _,by rw [HA.out.2];exact HG.out⟩
end Go.Proofs.aV
