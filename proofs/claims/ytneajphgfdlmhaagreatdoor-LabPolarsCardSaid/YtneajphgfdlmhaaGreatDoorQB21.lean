/- Lemmas for the proof. No condition. -/
import Derived.Test.YtneajphgfdlmhaaGreatDoorQB07
import Derived.Test.YtneajphgfdlmhaaGreatDoorQB20
set_option linter.unusedVariables false
set_option linter.unusedSimpArgs false
set_option maxRecDepth 100000
set_option maxHeartbeats 16000000
open Go.Ending renaming returned → aj
open Go.IntKind renaming i64 → I
open Go.Value renaming agg → au, bool → ak, int → Z, pointer → aB, slice → ah, tuple → aG
open List renaming getD_eq_getElem?_getD → bY, length_cons → bg, replicate → bM, take_append_drop → jW
open Nat renaming add_assoc → jT, add_comm → iF, add_mul → dM, add_zero → fJ, div_add_mod → dF, div_eq_of_lt → fI, div_lt_iff_lt_mul → dw, eq_zero_or_pos → aV, le_of_lt → bJ, le_of_not_lt → dL, le_refl → aD, le_trans → ay, lt_of_lt_of_le → aI, lt_or_ge → aO, min_eq_left → iO, mod_eq_of_lt → gq, mod_lt → fC, mul_add → aX, mul_assoc → dx, mul_comm → aL, mul_le_mul_left → aR, mul_le_mul_right → aZ, mul_left_comm → dN, mul_pos → iH, one_mul → gQ, pow_le_pow_right → bI, pow_succ → bN, zero_add → dK
namespace Go.Proofs.aC
open Go Go.RowKit Go.SW Go.Num Go.Mem Go.Proofs
theorem UL (B:Nat) (l:List Nat) (k:Nat):val B (l.drop k)=val B (l.drop (k+1))*B+l.getD k 0:=by
 by_cases h:k<l.length
 ·exact rP h
 ·rw [List.drop_of_length_le zo,List.drop_of_length_le zo];simp [val,dL h]
theorem UM {B:Nat} (hB:0<B) {l:List Nat} (hl:fZ B l) (k:Nat):val B (l.drop k)=val B l / B^k:=by
 by_cases h:k≤l.length
 ·have e:val B l=val B (l.take k)+B^k*val B (l.drop k):=by
   conv=>lhs;rw [← jW k l,val_append]
   rw [List.length_take,iO h]
  have h2:=iP hB (hl.take k);rw [List.length_take,iO h] at h2;rw [e,Nat.add_mul_div_left _ _ (Nat.pow_pos hB),fI h2,dK]
 ·rw [List.drop_of_length_le zo];have h2:=iP hB hl;rw [fI (aI h2 (bI hB zo))];rfl
theorem ac5 {R D P t f:Nat} (h1:t*P≤D) (h2:D<(t+1)*P) (ht:10000≤t) (hR:R<D*10000) (hP:0<P) (hf:f=R / P) :
  f / (t+1)*D≤R∧R<(f / t+1)*D∧f / t+1≤10001:=by
 have e1:f*P≤R:=by rw [hf];exact Nat.div_mul_le_self R P
 have e2:R<(f+1)*P:=by rw [hf,dM,gQ];exact Nat.lt_div_mul_add hP
 refine ⟨?_,?_,?_⟩
 ·have h3:f / (t+1)*D≤f / (t+1)*((t+1)*P):=aR _ (bJ h2);have h4:f / (t+1)*(t+1)*P≤f*P:=aZ _ (Nat.div_mul_le_self _ _);rw [dx] at h4;omega
 ·have h3:f+1≤(f / t+1)*t:=by
   rw [dM,gQ];exact Nat.lt_div_mul_add zo
  have h4:(f+1)*P≤(f / t+1)*t*P:=aZ _ h3;have h5:(f / t+1)*(t*P)≤(f / t+1)*D:=aR _ h1;rw [dx] at h4;omega
 ·have h3:f*P<(t+1)*10000*P:=by
   have h6:D*10000≤(t+1)*P*10000:=aZ _ (bJ h2);rw [dx,aL P 10000,← dx] at h6;omega
  have h4:f<(t+1)*10000:=Nat.lt_of_mul_lt_mul_right h3
  have h5:f / t<10001:=by
   rw [dw zo];omega
  omega
theorem ZV {lo hi R D:Nat} (h1:lo*D≤R) (hR:R<D*10000) (hhi:hi≤10001) (hlt:lo+1<hi):lo≤9999∧(lo+hi) / 2≤10000∧lo<(lo+hi) / 2∧(lo+hi) / 2<hi:=by
 have:lo<10000:=by
  rcases aO lo 10000 with h|h
  ·exact h
  ·exfalso
   have h2:10000*D≤lo*D:=aZ _ h;rw [aL] at h2;omega
 omega
theorem ad3 {lo R D:Nat} (h1:lo*D≤R) (h2:R<(lo+1)*D):R / D=lo∧R%D=R - D*lo:=by
 have hD:0<D:=by
  rcases aV D with h|h
  ·subst h;simp at h2
  ·exact h
 have e:R / D=lo:=by
  rw [Nat.div_eq_iff zo];rw [dM,gQ] at h2;have:=aL D lo;omega
 refine ⟨e,?_⟩;have:=dF R D;rw [e] at this;omega
theorem LC {B D:Nat} {a s:List Nat} {j R lo:Nat} (hj:j<a.length) (he:val B (a.drop (j+1))=D*val B s+R) (h1:(a.getD j 0+B*R) / D=lo) :
  val B (a.drop j)=D*val B (lo::s)+(a.getD j 0+B*R)%D:=by
 rw [rP hj,he];have h:=dF (a.getD j 0+B*R) D;rw [h1] at h;simp only [val];have e1:D*(lo+B*val B s)=D*lo+B*(D*val B s):=by rw [aX,dN]
 have e2:(D*val B s+R)*B=B*(D*val B s)+B*R:=by rw [dM,aL,aL R]
 rw [e1,e2];omega
theorem BQ (x y:Value) (l m:List Nat) (w:World) (hx:Gs w x l) (hy:Gs w y m) (hl:fZ 10000 l) (hm:Okm m) (ha:l.length≤1099511627776) (hb:m.length≤1099511627776) :
  Calls Tryz.prog 263 #[x,y] w fun e w'=>∃ v,e= aj v∧Below w.heap.size w w'∧Nm w' v (val 10000 l*val 10000 m):=by
 obtain ⟨pa,ca,rfl,h1,h2,h3⟩:=Gs.read hx;obtain ⟨pb,cb,rfl,k1,k2,k3⟩:=Gs.read hy;exact xL pa pb ca cb _ _ w hl hm ha hb h3 k3
theorem Gs.one {w:World} {d:Nat}:Gs (w.alloc (.cells #[Z I (d:Int)] 3 (0,0))) (ah (some ⟨w.heap.size,0,none⟩) 1 1) [d]:=by
 refine Row.mk rfl (by simp [ints]) zo (aA.new _ _ _) fun i hi=>?_
 match i,hi with
 | 0,_=>rfl
def vC (w:World) (a b:Nat) (e:Ending) (w':World):Prop:=∃ q r,e= aj (aG #[q,r])∧Below w.heap.size w w'∧Nm w' q (a / b)∧Nm w' r (a%b)
theorem Qn (x:Value) (a d:Nat) (pb:Option Addr) (cb:Nat) (w:World) (hx:Nm w x a) (ha:sz 10000 a≤1099511627776) (hd0:0<d) (hd1:d<10000)
  (hc:∃ b off,pb=some ⟨b,off,none⟩∧w.cell? ⟨b,off,none⟩=some (.int .i64 (d:Int))) :
  Calls Tryz.prog 260 #[x,ah pb 1 cb] w (vC w a d):=by
 have HO:=zh (WR x a d w hx ha hd0 zo);obtain ⟨pa,ca,rfl, -⟩:=hx.read;obtain ⟨b,off,rfl,hcell⟩:=hc;clear hx ha;go_enter Tryz.func260,Tryz.ntmps260
 go_wp2_with fail
 refine HO.out.mono ?_;rintro e w1 ⟨v,rfl,hb1,hv⟩;obtain ⟨pq,lq,cq,rfl⟩:=hv.slice;have HV:=zh hv;have hr:a%d<10000:=Nat.lt_trans (fC _ hd0) hd1;generalize hR:a%d=r at *;have HR:=zh hR;clear hR hv hcell;have HC:=zh (wL (ah (some ⟨w1.heap.size,0,none⟩) 1 1) [r] (w1.alloc (.cells #[Z I (r:Int)] 3)) Gs.one (fZ.nil.cons hr));go_wp2_with fail
 refine HC.out.mono ?_;rintro e w' ⟨v',rfl,rfl,hv'⟩;obtain ⟨pr,lr,cr,rfl⟩:=hv'.slice;have HV':=zh hv';clear hv' HC HO;go_wp2_with fail
 go_ret2
 refine ⟨_,_,rfl,dQ hb1 _,HV.out.alloc _,?_⟩;have e:val 10000 [r]=r:=by simp [val]
 rw [HR.out,← e];exact HV'.out
theorem LG (x:Value) (a p d:Nat) (pb:Option Addr) (cb:Nat) (w:World) (hx:Nm w x a) (ha:sz 10000 a≤p+1) (hp:p≤549755813888) (hd:a<d) :
  Calls Tryz.prog 260 #[x,ah pb (p+2) cb] w (vC w a d):=by
 obtain ⟨i0,hi,hz0,hz1,hz2⟩:=info_parts xX;obtain ⟨v',W',hap,hg,hb, -⟩:=wQ (w.alloc (.cells #[] 3)) w.heap.size [] (eF 10000 a) x (aA.new _ _ _) (hx.alloc _) (by have:(eF 10000 a).length=sz 10000 a:=rfl;simp;omega);obtain ⟨pa,ca,rfl,k1,k2, -⟩:=hx.read;rw [List.nil_append] at hg;have HG:=zh hg;obtain ⟨p2,c2,rfl, -⟩:=hg.read;have HB:=zh hb;have HA:Hid (a / d=0∧a%d=a):=zh ⟨fI hd,gq hd⟩;generalize sz 10000 a=sa at *;clear hx hg hb hd;have h1:((p:Int)+2 == 1)=false:=by simp;omega
 have h2:(sa:Int)≤(p:Int)+2 - 1:=by omega
 have HAP:=zh hap;clear hap;go_enter Tryz.func260,Tryz.ntmps260
 go_wp2_with (at_builtin;refine wpList_append_run rfl (.tmp 40) (.tmp 41) 159 rfl rfl rfl HAP.out ?_)
 go_ret2
 exact ⟨_,_,rfl,Bt aF HB.out,by rw [HA.out.1];exact Nm.zero _,by rw [HA.out.2];exact HG.out⟩
theorem Gs.drop {w:World} {b off n c:Nat} {l:List Nat} (h:Gs w (ah (some ⟨b,off,none⟩) n c) l) (k:Nat) (hk:k≤n):Gs w (ah (some ⟨b,off+k,none⟩) (n - k) (c - k)) (l.drop k):=by
 rcases Row.cases h with ⟨h1, -⟩|⟨b',off',cap,arr,e,h2,h3,h4,h5⟩
 ·cases h1
 ·simp only [Value.slice.injEq,Option.some.injEq,Addr.mk.injEq,and_true] at e;obtain ⟨⟨rfl,rfl⟩,hn,rfl⟩:=e;rw [dI] at hn h2;refine Row.mk (by rw [dI,List.length_drop];omega) (by rw [dI,List.length_drop];omega) zo h4 fun i hi=>?_;rw [dI,List.length_drop] at hi;have:=h5 (k+i) (by rw [dI];omega);rw [← jT] at this;rw [this];simp [ints]
theorem Nm.setBlock {w:World} {b off k c n g:Nat} (h:Nm w (ah (some ⟨b,off,none⟩) k c) n) (hne:b≠g) (o:Nat) (u:Value):Nm (w.setCell ⟨g,o,none⟩ u) (ah (some ⟨b,off,none⟩) k c) n:=by
 obtain ⟨a,cap,h1,h2,h3,h4,h5⟩:=h;refine ⟨a,cap,h1,h2,h3,h4,fun ad had=>?_⟩;obtain ⟨h6,arr,h7,h8⟩:=h5 ad had
 have e:ad.block=b:=by
  subst had;simp only [Value.slice.injEq,Option.some.injEq] at h1;rw [← h1.1]
 have hy:aA w ad.block arr 3:=h7;exact ⟨h6,arr,hy.setOther u (by rw [e];exact hne),h8⟩
theorem UZ (b off n c:Nat) (l:List Nat) (w:World) (h:Gs w (ah (some ⟨b,off,none⟩) n c) l) (hd:fZ 10000 l) :
  Calls Tryz.prog 297 #[ah (some ⟨b,off,none⟩) n c] w fun e w'=>∃ k,e= aj (ah (some ⟨b,off,none⟩) k c)∧w=w'∧Nm w (ah (some ⟨b,off,none⟩) k c) (val 10000 l):=by
 rcases Gs.cases h with ⟨h1, -⟩|⟨b',off',cap,e,h1,h2,h3, -, h5⟩
 ·cases h1
 ·simp only [Value.slice.injEq,Option.some.injEq,Addr.mk.injEq,and_true] at e;obtain ⟨⟨rfl,rfl⟩,rfl,rfl⟩:=e;refine (J3 b off c l w h1 h2 h5).mono ?_;rintro e w' ⟨rfl,rfl⟩;refine ⟨_,rfl,rfl,?_⟩
  rcases Row.cases h with ⟨e1, -⟩|⟨b',off',cap',arr,e1, -, -, h4, -⟩
  ·cases e1
  ·simp only [Value.slice.injEq,Option.some.injEq,Addr.mk.injEq,and_true] at e1;obtain ⟨⟨rfl,rfl⟩, -, rfl⟩:=e1;have ht:=trimLen_le l l.length;have e:val 10000 l=val 10000 (l.take (trimLen l l.length)):=by rw [xg _ _ _ (aD _)];simp
   rw [e];refine Nm.TB ?_ (hd.take _) (xq l _ (aD _));refine Row.mk (arr:=arr) (by rw [dI];simp;omega) (by rw [dI];simp;omega) h2 h4 fun i hi=>?_;rw [dI] at hi;have hi2:i<l.length:=by simp at hi;omega
   have:=h5 i hi2;rw [h4.cell] at this;rw [this];simp [ints,hi2]
theorem Nm.WU {w:World} {v:Value} {a k:Nat} (h:Gs w v ((eF 10000 a).drop k)):Nm w v (val 10000 ((eF 10000 a).drop k)):=Nm.TB h ((cZ zo a).drop k) (Go.Dec.Bw (nQ zo a) k)
theorem LD (x:Value) (a n p m D:Nat) (bl:List Nat) (pb:Option Addr) (cb:Nat) (w:World) (hx:Nm w x a) (hbs:Gs w (ah pb (n+1) cb) bl) (hbl:bl.length=n+1) (db:fZ 10000 bl) (htop:1≤bl.getD n 0)
  (hn:n=p+1) (hm:sz 10000 a=m+n) (hm1:1≤m) (ha2:sz 10000 a≤274877906944) (hD:val 10000 bl=D) :
  Calls Tryz.prog 260 #[x,ah pb (n+1) cb] w (vC w a D):=by
 obtain ⟨i0,hi,hz0,hz1,hz2⟩:=info_parts xX;have MC:bl.length=p+2:=by omega
 have hv2:=oV (B:=10000) MC;have hvt:=iP (B:=10000) zo (db.take p);rw [List.length_take,iO zo] at hvt;rw [hD] at hv2;have d1:=db.getD zo n;have d0:=db.getD zo p;rw [show p+1=n by omega] at hv2
 obtain ⟨b,off,rfl,lbb,c1⟩:∃ b off,pb=some ⟨b,off,none⟩∧b<w.heap.size∧w.cell? ⟨b,off+n,none⟩=some (.int .i64 (bl.getD n 0:Nat)):=by
  obtain ⟨a',c',e, -, -, h5⟩:=hbs.read;simp only [Value.slice.injEq] at e;obtain ⟨rfl, -, -⟩:=e;exact h5 n zo
 have c0:w.cell? ⟨b,off+p,none⟩=some (.int .i64 (bl.getD p 0:Nat)):=by
  obtain ⟨a',c',e, -, -, h5⟩:=hbs.read;simp only [Value.slice.injEq] at e;obtain ⟨rfl, -, -⟩:=e;obtain ⟨b',o',e2, -, h6⟩:=h5 p zo;simp only [Option.some.injEq,Addr.mk.injEq,and_true] at e2;obtain ⟨rfl,rfl⟩:=e2;exact h6
 generalize bl.getD n 0=t1 at *;generalize bl.getD p 0=t0 at *;obtain ⟨T,eT⟩:∃ T,t1*10000+t0=T:=⟨_,rfl⟩;have hT:10000≤T∧T≤99999999:=by omega
 obtain ⟨P,hP⟩:∃ P,10000^p=P:=⟨_,rfl⟩;have hP0:0<P:=by rw [← hP];exact Nat.pow_pos zo
 rw [hP] at hv2 hvt
 have hD1:T*P≤D:=by
  rw [hv2,← eT,aL,aL t1,iF (10000*t1)];omega
 have hD2:D<(T+1)*P:=by
  rw [hv2,dM,gQ,← eT,aL (t1*10000+t0),aL t1,iF (10000*t1)];omega
 have hD0:0<D:=aI (iH zo hP0) hD1
 have hDn:D<10000^(n+1):=by
  have:=iP (B:=10000) zo db
  rwa [hD,hbl] at this
 have GUESS:=zh (fun R f (hR:R<D*10000) (hf:f=R / P)=>ac5 hD1 hD2 hT.1 hR hP0 hf);have hla:(eF 10000 a).length=m+n:=hm;have hda:=cZ (B:=10000) zo a;have hva:=bQ (B:=10000) zo a;obtain ⟨l,El⟩:∃ l,eF 10000 a=l:=⟨_,rfl⟩;obtain ⟨pa,ca,rfl,k1,k2,k3⟩:=hx.read;rw [El] at k3 hla hda hva;rw [hm] at k1 k3;obtain ⟨ba,oa,rfl,lba, -⟩:=k3 0 zo
 have ka:∀ j,j<m+n→w.cell? ⟨ba,oa+j,none⟩=some (.int .i64 (l.getD j 0:Nat)):=fun j hj=>by
  obtain ⟨b',o',e2, -, h6⟩:=k3 j hj;simp only [Option.some.injEq,Addr.mk.injEq,and_true] at e2;obtain ⟨rfl,rfl⟩:=e2;exact h6
 have KA:=zh ka;have HLA:=zh hla;have HDA:=zh hda
 have hgd:Gs w (ah (some ⟨ba,oa+m,none⟩) n (ca - m)) (l.drop m):=by
  have:=Gs.drop hx.gs m (by rw [hm];omega);rw [hm,El] at this
  rwa [show m+n - m=n by omega] at this
 have hr0:val 10000 (l.drop m)<D:=by
  have h1:=iP (B:=10000) zo (hda.drop m);rw [List.length_drop,hla,show m+n - m=n by omega] at h1
  have h2:10000^n≤D:=by
   have h3:10000*P≤T*P:=aZ _ hT.1;have h4:10000^n=10000*P:=by rw [hn,bN,hP,aL]
   omega
  omega
 have HGD:=zh hgd;have sV:=zh hr0;have Py:=zh hbs;have HDB:=zh db;have vR:=zh hbl;have HD:=zh hD;have HDN:=zh hDn
 have HDiv:Hid (∀ s r,a=D*val 10000 s+r→r<D→a / D=val 10000 s∧a%D=r):=zh fun s r e h=>by
  constructor
  ·rw [e,Nat.mul_add_div hD0,fI h,fJ]
  ·rw [e,Nat.mul_add_mod,gq h]
 have HVA:=zh hva
 have HDr:Hid (∀ w' v k,Gs w' v (l.drop k)→Nm w' v (val 10000 (l.drop k))):=zh fun w' v k h=>by
  rw [← El] at h ⊢;exact Nm.WU h
 rw [hm] at ha2 ⊢;clear MC hv2 hvt db hbs hbl hD hDn hD1 hD2 htop hgd hr0 k3 ka hla hda hva El hx hm;have hbn:(n:Int)+1 - 1=(n:Int):=by omega
 have ep:(n:Int) - 1=(p:Int):=by omega
 have em:(m:Int)+(n:Int) - (n:Int)=(m:Int):=by omega
 have emn:m+n - m=n:=by omega
 have eTi:(t1:Int)*10000+(t0:Int)=(T:Int):=by omega
 have hn1:((n:Int)+1 == 1)=false:=by simp;omega
 have hmn:¬ (m:Int)+(n:Int)≤(n:Int):=by omega
 have hwp:I.wrap (p:Int)=(p:Int):=by rw [IntKind.wrap_i64];omega
 have hpn:(p:Int)<(n:Int)+1:=by omega
 obtain ⟨hT1,hT2⟩:=hT;have HNP:=zh hn;clear eT hn;go_enter Tryz.func260,Tryz.ntmps260
 go_wp2_with fail
 go_quiet (fail)
 go_wp2_with (at_make;refine wpList_make_full _ rfl _ _ 159 rfl w.heap.size 3 i0 (Z I 0) 1 Tryz.underlying159 hi hz0 hz1 _ _ _ _ m rfl rfl zo zo (by rw [hz2];omega) (by unfold maxLen;omega) (aD _) ?_)
 intro w0 hown0 kJ;rw [yY] at hown0;obtain ⟨hbx, -⟩:=uG hown0;have hb0:Below w.heap.size w w0:=(below_drewN (Below.refl _ _) _).grown kJ (aD _) (fun k h=>by cases h);have e0:Gs (w0.alloc (.cells #[] 3)) (ah (some ⟨ba,oa+m,none⟩) n (ca - m)) (l.drop m):=(HGD.out.later hb0).alloc _;obtain ⟨v1,w1,hap,hg1,hb1, -⟩:=wQ (w0.alloc (.cells #[] 3)) w0.heap.size [] (l.drop m) _ (aA.new _ _ _) e0 (by rw [List.length_drop,HLA.out];simp;omega);rw [List.nil_append] at hg1;have HN1:=zh (HDr.out _ _ _ hg1);have HB1:Hid (Below w.heap.size w w1):=zh (Bt (dQ hb0 _) hb1);have au2:Hid (aA w1 w.heap.size (ints (bM m 0)).toArray 3):=zh ((hbx.alloc _).later hb1);have HAP:=zh hap;obtain ⟨pr,lr,cr,rfl⟩:=HN1.out.slice;clear hap hg1 hb1 e0 hb0 hbx kJ hown0 c1 c0 HGD
 go_wp2_with (at_builtin;refine wpList_append_run rfl (.tmp 59) (.tmp 65) 159 rfl rfl rfl HAP.out ?_)
 clear HAP
 go_loopw [11,12,13,14,15,16,17] (fun rv iv _ _ _ _ _ wr=>∃ (q:Int) (R:Nat) (s:List Nat), -1≤q∧q<m∧iv= Z I q∧Hid (s.length=m - (q+1).toNat)∧Hid (aA wr w.heap.size (ints (bM (q+1).toNat 0++s)).toArray 3)∧Hid (fZ 10000 s) ∧
   Hid (val 10000 (l.drop (q+1).toNat)=D*val 10000 s+R)∧Hid (R<D)∧Hid (Nm wr rv R)∧Hid (Below w.heap.size w wr))
  (fun _ iv _ _ _ _ _ _=>(intOf iv+1).toNat)
 case atStart =>
  have e:((m:Int) - 1+1).toNat=m:=by omega
  exact ⟨(m:Int) - 1,val 10000 (l.drop m),[],by omega,by omega,rfl,zh (by rw [e];simp),zh (by rw [e,List.append_nil];exact au2.out),zh fZ.nil,zh (by rw [e];simp [val]),sV,HN1,HB1⟩
 case round =>
  clear HN1 HB1 au2;obtain ⟨q,R,s,hq1,hq2,rfl,HS,rC,zH,HV,HR,HNR,HB⟩:=hrel;obtain ⟨p1,l1,c1,rfl⟩:=HNR.out.slice
  by_cases hq:q<0
  ·have hq0:q= -1:=by omega
   subst hq0;have HF:Hid (a=D*val 10000 s+R):=zh (by have:=HV.out;simpa [HVA.out] using this)
   have hgs:Gs wr (ah (some ⟨w.heap.size,0,none⟩) m m) s:=by
    have h1:=rC.out;have h2:=HS.out;refine Gs.wE (post:=[]) (by simpa using h1) (by simpa using h2) (aD _) zo
   have HC:=zh (wL _ s wr hgs zH.out);clear hgs;go_wp2_with fail
   refine HC.out.mono ?_;rintro e w' ⟨v',rfl,rfl,hv'⟩;obtain ⟨p2,l2,c2,rfl⟩:=hv'.slice;have HV':=zh hv';clear hv' HC;go_wp2_with fail
   go_ret2
   obtain ⟨e1,e2⟩:=HDiv.out _ _ HF.out HR.out;exact ⟨_,_,rfl,HB.out,by rw [e1];exact HV'.out,by rw [e2];exact HNR.out⟩
  ·obtain ⟨j,rfl⟩:=Int.eq_ofNat_of_zero_le (by omega:0≤q);have ej:((j:Int)+1).toNat=j+1:=by omega
   have hjm:j<m:=by omega
   rw [ej] at HS HV rC;have hcj:wr.cell? ⟨ba,oa+j,none⟩=some (.int .i64 (l.getD j 0:Nat)):=(HB.out.cell (by exact lba)).trans (KA.out j zo);have hdj:l.getD j 0<10000:=HDA.out.getD zo j;have HST:Hid (∀ lo,(l.getD j 0+10000*R) / D=lo→val 10000 (l.drop j)=D*val 10000 (lo::s)+(l.getD j 0+10000*R)%D):=zh fun lo h=>LC (by rw [HLA.out];omega) HV.out h;clear HV;generalize l.getD j 0=d at *;obtain ⟨R',ER'⟩:∃ y,Hid (d+10000*R=y):=⟨_,zh rfl⟩;rw [ER'.out] at HST;have az6:sz 10000 R≤n+1:=cO zo _ _ (Nat.lt_trans HR.out HDN.out);have hR':R'<D*10000:=by have:=ER'.out;have:=HR.out;omega
   have YM:sz 10000 R'≤n+2:=by
    refine cO zo _ _ (aI hR' ?_);rw [bN];exact aZ _ (bJ HDN.out)
   obtain ⟨v2,w2,hap,hg2,hb2,b3,o3,n3,c3,rfl,ao2⟩:=wQ (wr.alloc (.cells #[Z I (d:Int)] 3)) wr.heap.size [d] (eF 10000 R) (ah p1 l1 c1) (aA.new _ _ _) (HNR.out.gs.alloc _) (by have:(eF 10000 R).length=sz 10000 R:=rfl;simp;omega)
   have hev:val 10000 ([d]++eF 10000 R)=R':=by
    show d+10000*val 10000 (eF 10000 R)=R'
    rw [bQ zo,ER'.out]
   have hb3:b3≠w.heap.size:=by
    have h1:=rC.out.lt;have h2:b3=wr.heap.size∨b3=wr.heap.size+1:=by simpa using ao2
    omega
   have hct:=UZ b3 o3 n3 c3 _ w2 hg2 ((cZ zo R).cons hdj);rw [hev] at hct;have HC:=zh hct;have HAP:=zh hap;have HB2:Hid (Below wr.heap.size wr w2):=zh (Bt (dQ (Below.refl _ _) _) hb2);have HRD:=zh hR';have HSR:=zh YM;clear hev hct hap hb2 hg2 ao2 hR' az6 YM ER' HR HNR;go_wp2_with (at_builtin;refine wpList_append_run rfl (.tmp 78) (.tmp 79) 159 rfl rfl rfl HAP.out ?_)
   refine HC.out.mono ?_;rintro e w' ⟨z3,rfl,rfl,hv3⟩;obtain ⟨p3,c3',e3,q1,q2,q3⟩:=hv3.read;simp only [Value.slice.injEq] at e3;obtain ⟨rfl,rfl,rfl⟩:=e3;have Px:=zh hv3
   have HQ3:Hid (∀ i,i<sz 10000 R'→b3<w2.heap.size∧w2.cell? ⟨b3,o3+i,none⟩=some (.int .i64 ((eF 10000 R').getD i 0:Nat))):=zh fun i hi=>by
    obtain ⟨b',o',e2,h5,h6⟩:=q3 i hi;simp only [Option.some.injEq,Addr.mk.injEq,and_true] at e2;obtain ⟨rfl,rfl⟩:=e2;exact ⟨h5,h6⟩
   replace HB:=zh (Bt HB.out HB2.out);replace rC:=zh (rC.out.later HB2.out);clear hv3 q3 HC HAP HB2 hcj;generalize hz3:sz 10000 R'=z3 at *;have HZ3:=zh hz3;clear hz3;go_wp2_with fail
   go_loop [13,14] (fun fv kv=>∃ (k:Int) (f:Nat),(p:Int) - 1≤k∧k≤(p:Int)+2∧kv= Z I k∧fv= Z I f∧Hid (f=val 10000 ((eF 10000 R').drop (k+1).toNat)))
    (fun _ kv=>(intOf kv+1).toNat)
   case atStart =>
    have h1:=HNP.out
    exact ⟨(n:Int)+1,0,by omega,by omega,rfl,rfl,zh (by
     have h2:(eF 10000 R').length=z3:=HZ3.out;have h3:=HSR.out;rw [List.drop_of_length_le zo];rfl)⟩
   case round =>
    obtain ⟨k,f,hk1,hk2,rfl,rfl,HF⟩:=hrel
    by_cases hkp:(p:Int)≤k
    ·obtain ⟨i,rfl⟩:=Int.eq_ofNat_of_zero_le (by omega:0≤k);have ei:((i:Int)+1).toNat=i+1:=by omega
     rw [ei] at HF
     have hf:f<100000000:=by
      have h1:=HF.out;have h2:=iP (B:=10000) zo ((cZ (by omega:1<10000) R').drop (i+1));rw [List.length_drop] at h2;have h3:(eF 10000 R').length=z3:=HZ3.out;have h4:=HSR.out;have h5:=HNP.out;have h6:10000^((eF 10000 R').length - (i+1))≤10000^2:=bI zo zo;rw [h1];exact aI h2 h6
     have NK:Hid (val 10000 ((eF 10000 R').drop i)=f*10000+(eF 10000 R').getD i 0):=zh (by rw [UL,← HF.out])
     by_cases hi3:i<z3
     ·obtain ⟨-, hc3⟩:=HQ3.out i hi3;have hd3:(eF 10000 R').getD i 0<10000:=(cZ zo R').getD zo i;clear HF;generalize (eF 10000 R').getD i 0=y at *;go_wp2_with fail
      go_round
      case rel=>exact ⟨(i:Int) - 1,f*10000+y,by omega,by omega,rfl,by go_num,zh (by rw [show ((i:Int) - 1+1).toNat=i by omega];exact NK.out.symm)⟩
      case measure=>simp [intOf]
     ·have hy0:(eF 10000 R').getD i 0=0:=by
       have h3:(eF 10000 R').length=z3:=HZ3.out;rw [bY,List.getElem?_eq_none zo];rfl
      rw [hy0,fJ] at NK;clear HF hy0;go_wp2_with fail
      go_round
      case rel=>exact ⟨(i:Int) - 1,f*10000,by omega,by omega,rfl,by go_num,zh (by rw [show ((i:Int) - 1+1).toNat=i by omega];exact NK.out.symm)⟩
      case measure=>simp [intOf]
    ·have hkk:k=(p:Int) - 1:=by omega
     subst hkk
     have hfR:f=R' / P:=by
      have h1:=HF.out;rw [show ((p:Int) - 1+1).toNat=p by omega,UM zo (cZ zo R'),bQ zo,hP] at h1;exact h1
     have hf8:f<1000000000000:=by
      have h1:=iP (B:=10000) zo ((cZ (by omega:1<10000) R').drop p);rw [List.length_drop] at h1;have h2:=HF.out;rw [show ((p:Int) - 1+1).toNat=p by omega] at h2;have h3:(eF 10000 R').length=z3:=HZ3.out;have h4:=HSR.out;have h5:=HNP.out;have h6:10000^((eF 10000 R').length - p)≤10000^3:=bI zo zo;rw [h2];exact aI h1 h6
     obtain ⟨g1,g2,g3⟩:=GUESS.out R' f HRD.out hfR;have hlo:(((f / (T+1):Nat)):Int)=(f:Int) / ((T:Int)+1):=by rw [Int.natCast_ediv];rfl
     have hhi:(((f / T:Nat)):Int)=(f:Int) / (T:Int):=by rw [Int.natCast_ediv]
     have hl1:f / (T+1)≤f:=Nat.div_le_self _ _;generalize f / (T+1)=lo at *;generalize f / T=hi1 at *;have hz1:(((T:Int)+1) == 0)=false:=by simp;omega
     have hz2':((T:Int) == 0)=false:=by simp;omega
     clear HF hfR;have Zb:=zh g1;have HG2:=zh g2;have hlo2:(f:Int) / ((T:Int)+1)=(lo:Int):=hlo.symm;have hhi2:(f:Int) / (T:Int)=(hi1:Int):=hhi.symm;clear g1 g2 hlo hhi;go_wp2_with fail
     go_quiet (fail)
     obtain ⟨w3,Ew3⟩:∃ y,w2.drewN nq=y:=⟨_,rfl⟩;have hw3:Below w2.heap.size w2 w3:=by rw [← Ew3];exact below_drewN (Below.refl _ _) _
     rw [Ew3];replace Px:=zh (Px.out.later hw3);replace HB:=zh (Bt HB.out hw3);replace rC:=zh (rC.out.later hw3);clear Ew3 hw3 HQ3 hf8 hl1 hz1 hz2' hlo2 hhi2;obtain ⟨wo,rfl⟩:∃ wo:World,wo=wr:=⟨_,rfl⟩;have h13:hi1+1≤10001:=g3
     have hlh:lo<hi1+1:=by
      have h1:=Zb.out;have h2:=HG2.out
      rcases aO lo (hi1+1) with h|h
      ·exact h
      ·exfalso
       have h3:(hi1+1)*D≤lo*D:=aZ _ h;omega
     go_wp2_with fail
     go_loopw [15,16,17] (fun lv hv _ wr=>∃ lo hi:Nat,lo<hi∧hi≤10001∧lv= Z I lo∧hv= Z I hi∧Hid (lo*D≤R')∧Hid (R'<hi*D)∧Hid (Nm wr (ah (some ⟨b3,o3,none⟩) z3 c3) R')∧Hid (Below w.heap.size w wr) ∧
       Hid (aA wr w.heap.size (ints (bM (j+1) 0++s)).toArray 3))
      (fun lv hv _ _=>(intOf hv - intOf lv).toNat)
     case atStart=>exact ⟨lo,hi1+1,hlh,h13,rfl,by go_num,Zb,HG2,Px,HB,rC⟩
     case round =>
      clear Px HB rC Zb HG2 hlh h13 g3;obtain ⟨lo,hi,hlh,hhb,rfl,rfl,Zb,HG2,Px,HB,rC⟩:=hrel
      by_cases hfin:lo+1<hi
      ·obtain ⟨f1,f2,f3,f4⟩:=ZV Zb.out HRD.out hhb hfin;have Ul:((lo:Int)+(hi:Int)) / 2=(((lo+hi) / 2:Nat):Int):=by omega
       obtain ⟨mm,emm⟩:∃ y,(lo+hi) / 2=y:=⟨_,rfl⟩;rw [emm] at f2 f3 f4 Ul;have hgt:(1:Int)<(hi:Int) - (lo:Int):=by omega
       have Rz:=zh (BQ _ (ah (some ⟨wr.heap.size,0,none⟩) 1 1) bl [mm] (wr.alloc (.cells #[Z I (mm:Int)] 3)) (Py.out.later (Bt HB.out (dQ (Below.refl _ _) _))) Gs.one HDB.out (.inr ⟨rfl,fun x hx=>by rw [List.mem_singleton.1 hx];exact f2⟩) (by rw [vR.out];omega) zi);clear emm;go_wp2_with fail
       refine Rz.out.mono ?_;rintro e w4 ⟨v4,rfl,hb4,hv4⟩;have hval:val 10000 bl*val 10000 [mm]=D*mm:=by rw [HD.out];simp [val]
       rw [hval] at hv4;have hct:=wL v4 _ w4 hv4.gs (cZ zo _);rw [bQ zo] at hct;have HC4:=zh hct;have h14:Below wr.heap.size wr w4:=Bt (dQ (Below.refl _ _) _) hb4;obtain ⟨p4,l4,c4,rfl⟩:=hv4.slice;replace Px:=zh (Px.out.later h14);replace HB:=zh (Bt HB.out h14);replace rC:=zh (rC.out.later h14);clear hval hct hb4 h14 hv4 Rz;go_wp2_with fail
       refine HC4.out.mono ?_;rintro e w' ⟨v5,rfl,rfl,hv5⟩;obtain ⟨p5,l5,c5,rfl⟩:=hv5.slice;have HO:=zh (tX _ _ (D*mm) R' w4 hv5 Px.out);clear hv5 HC4;go_wp2_with fail
       refine HO.out.mono ?_;rintro e w5 ⟨r,rfl,hb5,hor⟩;replace Px:=zh (Px.out.later hb5);replace HB:=zh (Bt HB.out hb5);replace rC:=zh (rC.out.later hb5);clear HO hb5
       by_cases hle:D*mm≤R'
       ·have hr:r≤0:=hor.1.2 hle;have FY:Hid (mm*D≤R'):=zh (by rw [aL];exact hle);clear hle hor;go_wp2_with fail
        go_roundw
        case rel=>exact ⟨mm,hi,f4,hhb,rfl,rfl,FY,HG2,Px,HB,rC⟩
        case measure=>exact zM
       ·have hr:¬ r≤0:=fun h=>hle (hor.1.1 h);have HLT:Hid (R'<mm*D):=zh (by rw [aL];omega);clear hle hor;go_wp2_with fail
        go_roundw
        case rel=>exact ⟨lo,mm,f3,by omega,rfl,rfl,Zb,HLT,Px,HB,rC⟩
        case measure=>exact zM
      ·have hh:hi=lo+1:=by omega
       subst hh;have hgt:¬ (1:Int)<(lo:Int)+1 - (lo:Int):=by omega
       obtain ⟨hdv,hmd⟩:=ad3 Zb.out HG2.out
       have ao5:lo<10000:=by
        rw [← hdv,dw zo,aL];exact HRD.out
       have NK:=zh hdv;have HMD:=zh hmd;have hbs:=rC.out.set j (Z I (lo:Int));rw [List.setIfInBounds_toArray,ints_set,xG] at hbs;have fbx:=rC.out.free j
       have hcx:wr.cell? ⟨w.heap.size,j,none⟩=some (.int .i64 0):=by
        rw [rC.out.cell,List.getElem?_toArray,um (by rw [List.length_append,List.length_replicate];omega),uU zo];rfl
       have hbw:Below w.heap.size w (wr.setCell ⟨w.heap.size,j,none⟩ (Z I (lo:Int))):=HB.out.setCell (aD _) _;obtain ⟨w6,Ew6⟩:∃ y,wr.setCell ⟨w.heap.size,j,none⟩ (Z I (lo:Int))=y:=⟨_,rfl⟩;rw [Ew6] at hbs hbw;have hn6:Nm w6 (ah (some ⟨b3,o3,none⟩) z3 c3) R':=by rw [← Ew6];exact Nm.setBlock Px.out hb3 _ _
       have Rz:=zh (BQ _ (ah (some ⟨w6.heap.size,0,none⟩) 1 1) bl [lo] (w6.alloc (.cells #[Z I (lo:Int)] 3)) (Py.out.later (Bt hbw (dQ (Below.refl _ _) _))) Gs.one HDB.out (.inl (fZ.nil.cons ao5)) (by rw [vR.out];omega) zi);have Vz:=zh hbw;have HN6:=zh hn6;have Vy:=zh hbs;clear hdv hmd hbs hbw hn6 HB Px rC Zb HG2 hlh hhb;go_wp2_with fail
       clear Ew6 fbx hcx;refine Rz.out.mono ?_;rintro e w7 ⟨v4,rfl,hb4,hv4⟩;have hval:val 10000 bl*val 10000 [lo]=D*lo:=by rw [HD.out];simp [val]
       rw [hval] at hv4;have h17:Below w6.heap.size w6 w7:=Bt (dQ (Below.refl _ _) _) hb4;obtain ⟨p4,l4,c4,rfl⟩:=hv4.slice;have hdl:D*lo≤R':=by rw [← NK.out];exact Nat.mul_div_le R' D
       have HDF:=zh (qF _ _ R' (D*lo) w7 (HN6.out.later h17) hv4 (by rw [HZ3.out];have:=HSR.out;omega) hdl);replace Vz:=zh (Bt Vz.out h17);replace Vy:=zh (Vy.out.later h17);clear hval h17 hb4 hv4 Rz HN6 hdl;go_wp2_with fail
       refine HDF.out.mono ?_;rintro e w8 ⟨v8,rfl,Iw,qC⟩;obtain ⟨p8,l8,c8,rfl⟩:=qC.slice;have HN8:=zh qC;replace Vz:=zh (Bt Vz.out Iw);replace Vy:=zh (Vy.out.later Iw);clear HDF Iw qC;go_wp2_with fail
       go_roundw
       case rel =>
        have YU:((j:Int) - 1+1).toNat=j:=by omega
        refine ⟨(j:Int) - 1,R'%D,lo::s,by omega,by omega,rfl,zh (by rw [YU,bg,HS.out];omega),zh (by rw [YU];exact Vy.out),zh (zH.out.cons ao5),zh (by rw [YU];exact HST.out lo NK.out),zh (fC _ hD0),zh ?_,Vz⟩;rw [HMD.out];exact HN8.out
       case measure=>simp [intOf]
theorem BU (x y:Value) (a b:Nat) (w:World) (hx:Nm w x a) (hy:Nm w y b) (hb:0<b) (ha:sz 10000 a≤274877906944) (hsb:sz 10000 b≤274877906944) :
  Calls Tryz.prog 260 #[x,y] w (vC w a b):=by
 have hlen:(eF 10000 b).length=sz 10000 b:=rfl
 have hs1:1≤sz 10000 b:=by
  rcases aV (sz 10000 b) with h|h
  ·have:=jg (B:=10000) zo b;rw [h] at this;simp at this
   omega
  ·exact h
 have htp:=nQ (B:=10000) zo b;obtain ⟨pb,cb,rfl,h1,h2,h3⟩:=hy.read
 by_cases hone:sz 10000 b=1
 ·rw [hone] at h3 ⊢
  have hd:eF 10000 b=[b]:=by
   have e:=bQ (B:=10000) zo b
   match hl:eF 10000 b,hlen with
   | [d],_=>rw [hl] at e;simp [val] at e;rw [e]
   | [],h=>rw [hone] at h;cases h
   | _:: _:: _,h=>rw [hone] at h;simp at h
  have hb4:b<10000:=by
   have:=cZ (B:=10000) zo b;rw [hd] at this;exact this.head
  obtain ⟨b',o',e, -, hc⟩:=h3 0 zo;rw [hd] at hc;exact Qn x a b pb cb w hx zo hb hb4 ⟨b',o',e,hc⟩
 ·obtain ⟨p,hp⟩:∃ p,sz 10000 b=p+2:=⟨sz 10000 b - 2,by omega⟩
  by_cases hlt:sz 10000 a≤p+1
  ·rw [hp];exact LG x a p b pb cb w hx hlt zo (uf (B:=10000) zo zo)
  ·have hgs:=hy.gs;rw [hp] at hgs ⊢;refine LD x a (p+1) p (sz 10000 a - (p+1)) b (eF 10000 b) pb cb w hx hgs (by rw [hlen,hp]) (cZ zo b) ?_ rfl zo zo ha (bQ zo b);have:=htp (p+1) (by rw [hlen,hp]);omega
theorem rW (b:Bool) (v:Value) (n:Nat) (z:Int) (w:World) (h:Nm w v n) (hz:iV n b=z) :
  Calls Tryz.prog 258 #[ak b,v] w fun e w'=>∃ v',e= aj v'∧Below w.heap.size w w'∧Pl w' v' z:=by
 have:=jK b v _ w h.gs (cZ zo _)
 rwa [bQ zo,hz] at this
theorem jm (x y:Value) (a b:Int) (w:World) (hx:Pl w x a) (hy:Pl w y b) (ha:sz 10000 a.natAbs≤549755813888) (hb:sz 10000 b.natAbs≤549755813888) :
  Calls Tryz.prog 211 #[x,y] w fun e w'=>∃ v',e= aj v'∧Below w.heap.size w w'∧Pl w' v' (a*b):=by
 obtain ⟨bA,kg,lA,kN,rfl⟩:=hx.agg;obtain ⟨bB,oq,lB,oz,rfl⟩:=hy.agg;obtain ⟨nA,eA⟩:=hx.nm;obtain ⟨nB,eB⟩:=hy.nm;have sU:=zh nA;have yL:=zh nB;have KA:=zh ha;have KB:=zh hb
 have hs:iV (a.natAbs*b.natAbs) (bA != bB)=a*b:=by
  rw [eA,eB];exact xE a b
 have HS:=zh hs;clear nA nB eA eB ha hb hx hy hs;go_enter Tryz.func211,Tryz.ntmps211
 go_wp2_with fail
 obtain ⟨lZ,EW,hz,X1,X2,X3⟩:=MW w #[ak bA,ah kg lA kN] 161 #[ak bB,ah oq lB oz] 161 #[ak false,ah none 0 0] 161;rw [EW];replace sU:=zh (sU.out.later hz);replace yL:=zh (yL.out.later hz);have hk2:=Bt (Below.refl _ _) hz;clear EW hz;obtain ⟨kZ,kY,ni⟩:=X1.clf;obtain ⟨sP,sO,wK⟩:=X2.clf;refine aJ [(.pure,0),(.read,1),(.pure,2),(.read,3),(.pure,4),(.pure,5),(.read,6),(.pure,7),(.read,8),(.ext,9),(.ext,10),(.fin,11)] zk zk zR zP ?_;refine zV ?_;refine aS rfl rfl (fun V7 hb3 J hJ=>?_);go_simp;have hh3:Below lZ.heap.size lZ V7:=aF;clear hb3;refine (wD _ _ _ _ _ (sU.out.later hh3) (yL.out.later hh3) (by have:=KA.out;omega) (by have:=KB.out;omega)).mono ?_;rintro e Oc ⟨v,rfl,hb4,hv5⟩;obtain ⟨Oy,lP,Pb,rfl⟩:=hv5.slice;refine hJ _ _ hb4 ?_;clear hJ J;have OM:=Bt hh3 hb4;have NP:=zh hv5;clear hh3 hb4 hv5;refine zV ?_
 refine aS rfl rfl (fun Dy hb6 J hJ=>?_);go_simp;have sW:Below lZ.heap.size lZ Dy:=Bt OM aF;replace NP:=zh (NP.out.later (show Below Oc.heap.size Oc Dy from aF));clear hb6 OM;refine (rW _ _ _ _ _ NP.out HS.out).mono ?_;rintro e sJ ⟨v,rfl,jP,qC⟩;obtain ⟨bR,WK,lR,XP,rfl⟩:=qC.agg;refine hJ _ _ jP ?_;clear hJ J;have Ad:=Bt sW jP;replace NP:=zh (NP.out.later jP);have NR:=zh qC;clear sW jP qC;refine zV ?_;refine dA [_] rfl (fun K9 hf9=>?_);replace NP:=zh (NP.out.later (show Below sJ.heap.size sJ K9 from aF));replace NR:=zh (NR.out.later (show Below sJ.heap.size sJ K9 from aF));have nJ:Below lZ.heap.size lZ K9:=Bt Ad aF;clear hf9 Ad;clear kZ kY ni sP sO wK;replace sU:=zh (sU.out.later nJ);replace yL:=zh (yL.out.later nJ);replace X1:=X1.bl nJ;replace X2:=X2.bl nJ;replace X3:=X3.bl nJ;have hk10:=Bt hk2 nJ;clear hk2
 clear nJ;clear NP;obtain ⟨cX3,Z7,fX3⟩:=X3.clf;have hres:=X3.out;go_wp2_with fail
 refine gF rfl rfl bf Tryz.underlying161 rfl zk ?_;exact ⟨_,rfl,aF,NR.out.set2 hres zd _ _ _ _⟩
theorem Xg (b:Bool) (v:Value) (l:List Nat) (n:Nat) (z:Int) (w:World) (h:Gs w v l) (hd:fZ 10000 l) (hn:val 10000 l=n) (hz:iV n b=z) :
  Calls Tryz.prog 258 #[ak b,v] w fun e w'=>∃ v',e= aj v'∧Below w.heap.size w w'∧Pl w' v' z:=by
 have:=jK b v l w h hd
 rwa [hn,hz] at this
theorem IZ {a b:Int} (h:decide (a<0)≠decide (b<0)) (hle:b.natAbs≤a.natAbs):iV (a.natAbs - b.natAbs) (decide (a<0))=a+b:=by
 unfold iV
 by_cases ha:a<0<;>by_cases hb:b<0<;>simp [ha,hb] at h ⊢<;>omega
def wV (w:World) (z:Int) (e:Ending) (w':World):Prop:=∃ v',e= aj v'∧Below w.heap.size w w'∧Pl w' v' z
theorem qm (x y:Value) (a b:Int) (w:World) (hx:Pl w x a) (hy:Pl w y b) (ha:sz 10000 a.natAbs≤549755813888) (hb:sz 10000 b.natAbs≤549755813888) :
  Calls Tryz.prog 279 #[x,y] w (wV w (a+b)):=by
 obtain ⟨bA,kg,lA,kN,rfl⟩:=hx.agg;obtain ⟨bB,oq,lB,oz,rfl⟩:=hy.agg;obtain ⟨nA,eA⟩:=hx.nm;obtain ⟨nB,eB⟩:=hy.nm;have sU:=zh nA;have yL:=zh nB;have KA:=zh ha;have KB:=zh hb
 by_cases hab:bA=bB
 ·subst hab;have hs:iV (a.natAbs+b.natAbs) bA=a+b:=Oo eA.symm eB.symm;have HS:=zh hs;clear nA nB eA eB ha hb hx hy hs;go_enter Tryz.func279,Tryz.ntmps279
  go_wp2_with fail
  obtain ⟨lZ,EW,hz,X1,X2,X3⟩:=MW w #[ak bA,ah kg lA kN] 161 #[ak bA,ah oq lB oz] 161 #[ak false,ah none 0 0] 161;rw [EW];replace sU:=zh (sU.out.later hz);have hk2:=Bt (Below.refl _ _) hz;clear EW hz;obtain ⟨kZ,kY,ni⟩:=X1.clf;obtain ⟨sP,sO,wK⟩:=X2.clf;refine aJ [(.pure,0),(.read,1),(.pure,2),(.read,3),(.pure,4),(.read,5),(.ext,6),(.ext,7),(.fin,8)] zk zk zR zP ?_;refine zV ?_;refine aS rfl rfl (fun V7 hb3 J hJ=>?_);go_simp;have hh3:Below lZ.heap.size lZ V7:=aF;clear hb3;refine (vV _ _ _ _ _ (sU.out.later hh3) (yL.out.later (Bt hk2 hh3)) KA.out KB.out).mono ?_;rintro e Oc ⟨v,s,rfl,hb4,hg,hd,hv⟩;obtain ⟨paS,caS,rfl, -⟩:=hg.read;have zH:=zh hd;have HVS:=zh hv;clear hd hv;refine hJ _ _ hb4 ?_;clear hJ J;have OM:=Bt hh3 hb4;have NS:=zh hg;clear hh3 hb4 hg;refine zV ?_;refine aS rfl rfl (fun Dy hb6 J hJ=>?_);go_simp
  have sW:Below lZ.heap.size lZ Dy:=Bt OM aF;replace NS:=zh (NS.out.later (show Below Oc.heap.size Oc Dy from aF));clear hb6 OM;refine (Xg _ _ _ _ _ _ NS.out zH.out HVS.out HS.out).mono ?_;rintro e sJ ⟨v,rfl,jP,qC⟩;obtain ⟨bR,WK,lR,XP,rfl⟩:=qC.agg;refine hJ _ _ jP ?_;clear hJ J;have Ad:=Bt sW jP;replace NS:=zh (NS.out.later jP);have NR:=zh qC;clear sW jP qC;refine zV ?_;refine dA [_] rfl (fun K9 hf9=>?_);replace NS:=zh (NS.out.later (show Below sJ.heap.size sJ K9 from aF));replace NR:=zh (NR.out.later (show Below sJ.heap.size sJ K9 from aF));have nJ:Below lZ.heap.size lZ K9:=Bt Ad aF;clear hf9 Ad;clear kZ kY ni sP sO wK;replace sU:=zh (sU.out.later nJ);replace X1:=X1.bl nJ;replace X2:=X2.bl nJ;replace X3:=X3.bl nJ;have hk10:=Bt hk2 nJ;clear hk2;clear nJ;clear NS;obtain ⟨cX3,Z7,fX3⟩:=X3.clf;have hres:=X3.out
  go_wp2_with fail
  refine gF rfl rfl bf Tryz.underlying161 rfl zk ?_;exact ⟨_,rfl,aF,NR.out.set2 hres zd _ _ _ _⟩
 ·have hE:(bA == bB)=false:=by simp [hab]
  by_cases hle:b.natAbs≤a.natAbs
  ·have hs:iV (a.natAbs - b.natAbs) bA=a+b:=by
    rw [eA];exact IZ (by rw [← eA,← eB];exact hab) hle
   have HS:=zh hs;have FY:=zh hle;clear nA nB eA eB ha hb hx hy hs hle hab;go_enter Tryz.func279,Tryz.ntmps279
   go_wp2_with fail
   obtain ⟨lZ,EW,hz,X1,X2,X3⟩:=MW w #[ak bA,ah kg lA kN] 161 #[ak bB,ah oq lB oz] 161 #[ak false,ah none 0 0] 161;rw [EW];replace sU:=zh (sU.out.later hz);replace yL:=zh (yL.out.later hz);have hk2:=Bt (Below.refl _ _) hz;clear EW hz;refine (tX _ _ _ _ _ sU.out yL.out).mono ?_;rintro e oo ⟨r,rfl,hb3,hor⟩;have hr:0≤r:=hor.2.2 FY.out;clear hor;replace sU:=zh (sU.out.later hb3);replace yL:=zh (yL.out.later hb3);replace X1:=X1.bl hb3;replace X2:=X2.bl hb3;replace X3:=X3.bl hb3;have hk5:=Bt hk2 hb3;clear hk2;clear hb3;go_wp2_with fail
   obtain ⟨kZ,kY,ni⟩:=X1.clf;obtain ⟨sP,sO,wK⟩:=X2.clf;refine aJ [(.pure,0),(.read,1),(.pure,2),(.read,3),(.pure,4),(.read,5),(.ext,6),(.ext,7),(.fin,8)] zk zk zR zP ?_;refine zV ?_;refine aS rfl rfl (fun Dy hb6 J hJ=>?_);go_simp;have sW:Below oo.heap.size oo Dy:=aF;clear hb6;refine (qF _ _ _ _ _ (sU.out.later sW) (yL.out.later sW) (by have:=KA.out;omega) FY.out).mono ?_;rintro e sJ ⟨v,rfl,jP,qC⟩;obtain ⟨paD,lD,caD,rfl⟩:=qC.slice;refine hJ _ _ jP ?_;clear hJ J;have Ad:=Bt sW jP;have ND:=zh qC;clear sW jP qC;refine zV ?_;refine aS rfl rfl (fun DI sZ J hJ=>?_);go_simp;have nJ:Below oo.heap.size oo DI:=Bt Ad aF;replace ND:=zh (ND.out.later (show Below sJ.heap.size sJ DI from aF));clear sZ Ad;refine (rW _ _ _ _ _ ND.out HS.out).mono ?_;rintro e lg ⟨v,rfl,jF,qD⟩;obtain ⟨bR,WK,lR,XP,rfl⟩:=qD.agg
   refine hJ _ _ jF ?_;clear hJ J;have pG:=Bt nJ jF;replace ND:=zh (ND.out.later jF);have NR:=zh qD;clear nJ jF qD;refine zV ?_;refine dA [_] rfl (fun La ab5=>?_);replace ND:=zh (ND.out.later (show Below lg.heap.size lg La from aF));replace NR:=zh (NR.out.later (show Below lg.heap.size lg La from aF));have hh12:Below oo.heap.size oo La:=Bt pG aF;clear ab5 pG;clear kZ kY ni sP sO wK;replace sU:=zh (sU.out.later hh12);replace yL:=zh (yL.out.later hh12);replace X1:=X1.bl hh12;replace X2:=X2.bl hh12;replace X3:=X3.bl hh12;have aA5:=Bt hk5 hh12;clear hk5;clear hh12;clear ND;obtain ⟨cX3,Z7,fX3⟩:=X3.clf;have hres:=X3.out;go_wp2_with fail
   refine gF rfl rfl bf Tryz.underlying161 rfl zk ?_;exact ⟨_,rfl,aF,NR.out.set2 hres zd _ _ _ _⟩
  ·have hs:iV (b.natAbs - a.natAbs) bB=a+b:=by
    rw [eB,Int.add_comm a b];exact IZ (by rw [← eA,← eB];exact fun h=>hab h.symm) zo
   have HS:=zh hs;have FY:Hid (a.natAbs≤b.natAbs):=zh zo;have HLN:=zh hle;clear nA nB eA eB ha hb hx hy hs hle hab;go_enter Tryz.func279,Tryz.ntmps279
   go_wp2_with fail
   obtain ⟨lZ,EW,hz,X1,X2,X3⟩:=MW w #[ak bA,ah kg lA kN] 161 #[ak bB,ah oq lB oz] 161 #[ak false,ah none 0 0] 161;rw [EW];replace sU:=zh (sU.out.later hz);replace yL:=zh (yL.out.later hz);have hk2:=Bt (Below.refl _ _) hz;clear EW hz;refine (tX _ _ _ _ _ sU.out yL.out).mono ?_;rintro e oo ⟨r,rfl,hb3,hor⟩;have hr:¬ 0≤r:=fun h=>HLN.out (hor.2.1 h);clear hor;replace sU:=zh (sU.out.later hb3);replace yL:=zh (yL.out.later hb3);replace X1:=X1.bl hb3;replace X2:=X2.bl hb3;replace X3:=X3.bl hb3;have hk5:=Bt hk2 hb3;clear hk2;clear hb3;go_wp2_with fail
   obtain ⟨sP,sO,wK⟩:=X2.clf;obtain ⟨kZ,kY,ni⟩:=X1.clf;refine aJ [(.pure,0),(.read,1),(.pure,2),(.read,3),(.pure,4),(.read,5),(.ext,6),(.ext,7),(.fin,8)] zk zk zR zP ?_;refine zV ?_;refine aS rfl rfl (fun Dy hb6 J hJ=>?_);go_simp;have sW:Below oo.heap.size oo Dy:=aF;clear hb6;refine (qF _ _ _ _ _ (yL.out.later sW) (sU.out.later sW) (by have:=KB.out;omega) FY.out).mono ?_;rintro e sJ ⟨v,rfl,jP,qC⟩;obtain ⟨paD,lD,caD,rfl⟩:=qC.slice;refine hJ _ _ jP ?_;clear hJ J;have Ad:=Bt sW jP;have ND:=zh qC;clear sW jP qC;refine zV ?_;refine aS rfl rfl (fun DI sZ J hJ=>?_);go_simp;have nJ:Below oo.heap.size oo DI:=Bt Ad aF;replace ND:=zh (ND.out.later (show Below sJ.heap.size sJ DI from aF));clear sZ Ad;refine (rW _ _ _ _ _ ND.out HS.out).mono ?_;rintro e lg ⟨v,rfl,jF,qD⟩;obtain ⟨bR,WK,lR,XP,rfl⟩:=qD.agg
   refine hJ _ _ jF ?_;clear hJ J;have pG:=Bt nJ jF;replace ND:=zh (ND.out.later jF);have NR:=zh qD;clear nJ jF qD;refine zV ?_;refine dA [_] rfl (fun La ab5=>?_);replace ND:=zh (ND.out.later (show Below lg.heap.size lg La from aF));replace NR:=zh (NR.out.later (show Below lg.heap.size lg La from aF));have hh12:Below oo.heap.size oo La:=Bt pG aF;clear ab5 pG;clear sP sO wK kZ kY ni;replace sU:=zh (sU.out.later hh12);replace yL:=zh (yL.out.later hh12);replace X1:=X1.bl hh12;replace X2:=X2.bl hh12;replace X3:=X3.bl hh12;have aA5:=Bt hk5 hh12;clear hk5;clear hh12;clear ND;obtain ⟨cX3,Z7,fX3⟩:=X3.clf;have hres:=X3.out;go_wp2_with fail
   refine gF rfl rfl bf Tryz.underlying161 rfl zk ?_;exact ⟨_,rfl,aF,NR.out.set2 hres zd _ _ _ _⟩
theorem rA (x y:Value) (a b:Int) (w:World) (hx:Pl w x a) (hy:Pl w y b) (ha:sz 10000 a.natAbs≤549755813888) (hb:sz 10000 b.natAbs≤549755813888) :
  Calls Tryz.prog 301 #[x,y] w (wV w (a - b)):=by
 obtain ⟨bA,kg,lA,kN,rfl⟩:=hx.agg;obtain ⟨bB,oq,lB,oz,rfl⟩:=hy.agg;have NA:=zh hx;have NB:=zh hy;have KA:=zh ha;have KB:Hid (sz 10000 (-b).natAbs≤549755813888):=zh (by rw [Int.natAbs_neg];exact hb);clear ha hb hx hy;go_enter Tryz.func301,Tryz.ntmps301
 go_wp2_with fail
 obtain ⟨lZ,EW,hz,X1,X2,X3⟩:=MW w #[ak bA,ah kg lA kN] 161 #[ak bB,ah oq lB oz] 161 #[ak false,ah none 0 0] 161;rw [EW];replace NA:=zh (NA.out.later hz);replace NB:=zh (NB.out.later hz);have hk2:=Bt (Below.refl _ _) hz;clear EW hz;obtain ⟨kZ,kY,ni⟩:=X1.clf;obtain ⟨sP,sO,wK⟩:=X2.clf;refine aJ [(.read,0),(.read,1),(.ext,2),(.ext,3),(.fin,4)] zk zk zR zP ?_;refine zV ?_;refine aS rfl rfl (fun V7 hb3 J hJ=>?_);go_simp;have hh3:Below lZ.heap.size lZ V7:=aF;clear hb3;refine (vw _ _ _ (NB.out.later hh3)).mono ?_;rintro e Oc ⟨v,rfl,hb4,hv5⟩;obtain ⟨bT,paT,lT,caT,rfl⟩:=hv5.agg;refine hJ _ _ hb4 ?_;clear hJ J;have OM:=Bt hh3 hb4;have NT:=zh hv5;clear hh3 hb4 hv5;refine zV ?_;refine aS rfl rfl (fun Dy hb6 J hJ=>?_);go_simp;have sW:Below lZ.heap.size lZ Dy:=Bt OM aF
 replace NT:=zh (NT.out.later (show Below Oc.heap.size Oc Dy from aF));clear hb6 OM;refine (qm _ _ _ _ _ (NA.out.later sW) NT.out KA.out KB.out).mono ?_;rintro e sJ ⟨v,rfl,jP,qC⟩;obtain ⟨bR,WK,lR,XP,rfl⟩:=qC.agg;refine hJ _ _ jP ?_;clear hJ J;have Ad:=Bt sW jP;replace NT:=zh (NT.out.later jP);have NR:=zh qC;clear sW jP qC;refine zV ?_;refine dA [_] rfl (fun K9 hf9=>?_);replace NT:=zh (NT.out.later (show Below sJ.heap.size sJ K9 from aF));replace NR:=zh (NR.out.later (show Below sJ.heap.size sJ K9 from aF));have nJ:Below lZ.heap.size lZ K9:=Bt Ad aF;clear hf9 Ad;clear kZ kY ni sP sO wK;replace NA:=zh (NA.out.later nJ);replace NB:=zh (NB.out.later nJ);replace X1:=X1.bl nJ;replace X2:=X2.bl nJ;replace X3:=X3.bl nJ;have hk10:=Bt hk2 nJ;clear hk2;clear nJ;clear NT;obtain ⟨cX3,Z7,fX3⟩:=X3.clf;have hres:=X3.out;go_wp2_with fail
 refine gF rfl rfl bf Tryz.underlying161 rfl zk ?_;exact ⟨_,rfl,aF,NR.out.set2 hres zd _ _ _ _⟩
theorem ZO {a b:Int} (h:Hid (a<b)):decide (a - b<0)=true:=decide_eq_true (by have:=h.out;omega)
theorem ZQ {a b:Int} (h:Hid (a=b)):decide (a - b<0)=false:=decide_eq_false (by have:=h.out;omega)
theorem ZP {a b:Int} (h:Hid (b<a)):decide (a - b<0)=false:=decide_eq_false (by have:=h.out;omega)
theorem Tx {a b:Int} (h:Hid (a=b)):(a - b).natAbs=0:=by have:=h.out;omega
theorem WQ {a b:Int} (h:Hid (b<a)):0<(a - b).natAbs:=by have:=h.out;omega
def yE (a b:Int):Int:=if a<b then -1 else if b<a then 1 else 0
theorem jS (x y:Value) (a b:Int) (w:World) (hx:Pl w x a) (hy:Pl w y b) (ha:sz 10000 a.natAbs≤549755813888) (hb:sz 10000 b.natAbs≤549755813888) :
  Calls Tryz.prog 264 #[x,y] w (fun e w'=>e= aj (Z I (yE a b))∧Below w.heap.size w w'):=by
 obtain ⟨bA,kg,lA,kN,rfl⟩:=hx.agg;obtain ⟨bB,oq,lB,oz,rfl⟩:=hy.agg;have NA:=zh hx;have NB:=zh hy;have KA:=zh ha;have KB:=zh hb;clear ha hb hx hy;unfold yE
 rcases Int.lt_trichotomy a b with h|h|h
 ·rw [if_pos h];have H:=zh h;clear h;go_enter Tryz.func264,Tryz.ntmps264
  go_wp2_with fail
  obtain ⟨lZ,EW,hz,X1,X2⟩:=Dz w #[ak bA,ah kg lA kN] 161 #[ak bB,ah oq lB oz] 161;rw [EW];replace NA:=zh (NA.out.later hz);replace NB:=zh (NB.out.later hz);have hk2:=Bt (Below.refl _ _) hz;clear EW hz;refine (rA _ _ _ _ _ NA.out NB.out KA.out KB.out).mono ?_;rintro e oo ⟨v,rfl,hb3,hv⟩;obtain ⟨bD,paD,lD,caD,rfl⟩:=hv.agg;obtain ⟨hn,hbb⟩:=hv.nm;have hb1:bD=true:=hbb.trans (ZO H);subst hb1
  skip
  clear hn hbb hv
  skip
  replace NA:=zh (NA.out.later hb3);replace NB:=zh (NB.out.later hb3);replace X1:=X1.bl hb3;replace X2:=X2.bl hb3;have hk5:=Bt hk2 hb3;clear hk2;clear hb3;go_wp2_with fail
  go_ret
  exact ⟨rfl,aF⟩
 ·rw [if_neg zo,if_neg zo];have H:=zh h;clear h;go_enter Tryz.func264,Tryz.ntmps264
  go_wp2_with fail
  obtain ⟨lZ,EW,hz,X1,X2⟩:=Dz w #[ak bA,ah kg lA kN] 161 #[ak bB,ah oq lB oz] 161;rw [EW];replace NA:=zh (NA.out.later hz);replace NB:=zh (NB.out.later hz);have hk2:=Bt (Below.refl _ _) hz;clear EW hz;refine (rA _ _ _ _ _ NA.out NB.out KA.out KB.out).mono ?_;rintro e oo ⟨v,rfl,hb3,hv⟩;obtain ⟨bD,paD,lD,caD,rfl⟩:=hv.agg;obtain ⟨hn,hbb⟩:=hv.nm;have hb1:bD=false:=hbb.trans (ZQ H);subst hb1;have hl0:lD=0:=hn.ZY (Tx H);clear hn hbb hv;subst hl0;replace NA:=zh (NA.out.later hb3);replace NB:=zh (NB.out.later hb3);replace X1:=X1.bl hb3;replace X2:=X2.bl hb3;have hk5:=Bt hk2 hb3;clear hk2;clear hb3;go_wp2_with fail
  go_ret
  exact ⟨rfl,aF⟩
 ·rw [if_neg zo,if_pos h];have H:=zh h;clear h;go_enter Tryz.func264,Tryz.ntmps264
  go_wp2_with fail
  obtain ⟨lZ,EW,hz,X1,X2⟩:=Dz w #[ak bA,ah kg lA kN] 161 #[ak bB,ah oq lB oz] 161;rw [EW];replace NA:=zh (NA.out.later hz);replace NB:=zh (NB.out.later hz);have hk2:=Bt (Below.refl _ _) hz;clear EW hz;refine (rA _ _ _ _ _ NA.out NB.out KA.out KB.out).mono ?_;rintro e oo ⟨v,rfl,hb3,hv⟩;obtain ⟨bD,paD,lD,caD,rfl⟩:=hv.agg;obtain ⟨hn,hbb⟩:=hv.nm;have hb1:bD=false:=hbb.trans (ZP H);subst hb1;have hl0:0<lD:=hn.ZX (WQ H);clear hn hbb hv
  skip
  replace NA:=zh (NA.out.later hb3);replace NB:=zh (NB.out.later hb3);replace X1:=X1.bl hb3;replace X2:=X2.bl hb3;have hk5:=Bt hk2 hb3;clear hk2;clear hb3;go_wp2_with fail
  go_ret
  exact ⟨rfl,aF⟩
theorem Tc {P:Program} {fn:Func} {R:Ending→World→Prop} {w:World} {tmps:Array Value} {p q:Tmp} {ty t Aq t2:TypeId} {g g2:Nat} {cs cs2:Array Value} {d d2:TypeDesc} (h:fn.results=#[.cell p ty,.cell q Aq])
  (hp:tmps.getD p undef= aB (some ⟨g,0,none⟩)) (hg:aA w g cs t) (hu:P.underlying ty=some d)
  (hd:(match d with| .struct _| .array _ _=>true| _=>false)=true) (hi:(P.info? ty).map (·.size)=some cs.size)
  (hp2:tmps.getD q undef= aB (some ⟨g2,0,none⟩)) (hg2:aA w g2 cs2 t2) (hu2:P.underlying Aq=some d2)
  (hd2:(match d2 with| .struct _| .array _ _=>true| _=>false)=true) (hi2:(P.info? Aq).map (·.size)=some cs2.size)
  (k:R (aj (aG #[au cs,au cs2])) w):bodyPost P fn R .ret { tmps:=tmps,defers:=[] } w:=by
 refine bodyPost_ret ?_ rfl k
 have e:(results fn tmps).run P w=((asAddr (tmps.getD p undef)).run P w).andThen fun a w₁=>((loadVar ty a).run P w₁).andThen fun v w₂=>((asAddr (tmps.getD q undef)).run P w₂).andThen fun a w₁=>((loadVar Aq a).run P w₁).andThen fun v2 w₂=>.ok (aG #[v,v2]) w₂:=by
  simp only [results,h];simp [Sem.run_bind,Result.andThen]
 rw [e,hp,hp2];simp only [asAddr,Sem.run_pure,Result.andThen_ok];rw [run_loadVar_row w g t ty cs (0,0) d hg hu hd hi];simp only [Result.andThen_ok,Sem.run_pure];rw [run_loadVar_row w g2 t2 Aq cs2 (0,0) d2 hg2 hu2 hd2 hi2];rfl
theorem Nm.inj {w:World} {v:Value} {m n:Nat} (h:Nm w v m) (k:Nm w v n):m=n:=by
 obtain ⟨p,c,rfl, -, -, h1⟩:=Gs.read h.gs;obtain ⟨p',c',e, -, -, h2⟩:=Gs.read k.gs;simp only [Value.slice.injEq] at e;obtain ⟨rfl,hl,rfl⟩:=e
 have:eF 10000 m=eF 10000 n:=by
  refine List.ext_getElem hl fun i hi hi2=>?_;obtain ⟨b,o,e, -, hc⟩:=h1 i hi;obtain ⟨b',o',e', -, hc'⟩:=h2 i hi2;rw [e] at e';simp only [Option.some.injEq,Addr.mk.injEq,and_true] at e';obtain ⟨rfl,rfl⟩:=e';rw [hc] at hc';simp only [Option.some.injEq,Value.int.injEq,true_and] at hc';rw [bY,bY,List.getElem?_eq_getElem hi,List.getElem?_eq_getElem hi2] at hc'
  simpa using Int.ofNat_inj.mp hc'
 rw [← bQ (B:=10000) zo m,this,bQ zo]
open Classical in
noncomputable def ZU (w:World) (v:Value):Nat:=if h:∃ n,Nm w v n then h.choose else 0
theorem OD {w:World} {v:Value} {n:Nat} (h:Nm w v n):ZU w v=n:=by
 unfold ZU;rw [dif_pos ⟨n,h⟩];exact Nm.inj (Exists.choose_spec (⟨n,h⟩:∃ n,Nm w v n)) h
theorem wX (x y:Value) (a b:Int) (w:World) (hx:Pl w x a) (hy:Pl w y b) (ha:sz 10000 a.natAbs≤274877906944) (hb:sz 10000 b.natAbs≤274877906944) :
  Calls Tryz.prog 208 #[x,y] w (wV w (Nat.gcd a.natAbs b.natAbs)):=by
 obtain ⟨bA,kg,lA,kN,rfl⟩:=hx.agg;obtain ⟨bB,oq,lB,oz,rfl⟩:=hy.agg;have NA:=zh hx.nm.1;have NB:=zh hy.nm.1;obtain ⟨G,EG⟩:∃ G,Nat.gcd a.natAbs b.natAbs=G:=⟨_,rfl⟩;rw [EG];have HG:=zh EG;have KA:=zh ha;have KB:=zh hb;have h0:Below w.heap.size w (((w.alloc (.cells #[ak bA,ah kg lA kN] 161)).alloc (.cells #[ak bB,ah oq lB oz] 161)).alloc (.cells #[ak false,ah none 0 0] 161)):=aF;obtain ⟨W,EW⟩:∃ y,((w.alloc (.cells #[ak bA,ah kg lA kN] 161)).alloc (.cells #[ak bB,ah oq lB oz] 161)).alloc (.cells #[ak false,ah none 0 0] 161)=y:=⟨_,rfl⟩;have hx1:aA W w.heap.size #[ak bA,ah kg lA kN] 161:=by rw [← EW];exact bf
 have hx2:aA W (w.heap.size+1) #[ak bB,ah oq lB oz] 161:=by rw [← EW];exact bf
 have hx3:aA W (w.heap.size+1+1) #[ak false,ah none 0 0] 161:=by rw [← EW];exact aA.at2 _ _ _ _ _
 rw [EW] at h0;have c1:=hx1.cell;have c2:=hx2.cell;have l1:=hx1.lt;have l2:=hx2.lt;have VW:=zh hx3;clear EG hx hy ha hb hx1 hx2 hx3;go_enter Tryz.func208,Tryz.ntmps208
 go_wp2_with fail
 go_quiet (fail)
 clear EW c1 c2 l1 l2;have hq:Below W.heap.size W (W.drewN nq):=below_drewN (Below.refl _ _) _;obtain ⟨W1,E1⟩:∃ y,W.drewN nq=y:=⟨_,rfl⟩;rw [E1] at hq ⊢;clear E1;replace VW:=zh (VW.out.later hq);have h1:=Bt h0 hq;have HA1:=zh (NA.out.later h1);have HB1:=zh (NB.out.later h1);clear hq h0 NA NB;go_wp2_with fail
 go_loopw [5,6,7,8] (fun xv yv _ _ wr=>∃ p q:Nat,Hid (Nm wr xv p)∧Hid (Nm wr yv q)∧Hid (Nat.gcd p q=G)∧Hid (sz 10000 p≤274877906944)∧Hid (sz 10000 q≤274877906944)∧Hid (Below W1.heap.size W1 wr)) (fun _ yv _ _ wr=>ZU wr yv)
 case atStart=>exact ⟨_,_,HA1,HB1,HG,KA,KB,zh (Below.refl _ _)⟩
 case round =>
  clear HA1 HB1;obtain ⟨p,q,HP,HQ,HPG,KP,KQ,HB⟩:=hrel;obtain ⟨pp,lp,cp,rfl⟩:=HP.out.slice;obtain ⟨pq,lq,cq,rfl⟩:=HQ.out.slice
  rcases aV q with h0|h0
  ·subst h0;have hl:=HQ.out.ZY rfl;subst hl;have hpg:Hid (p=G):=zh (by have:=HPG.out;rwa [Nat.gcd_zero_right] at this);have hres:=VW.out.later HB.out;have cr:=hres.cell;have fr:=hres.free;go_wp2_with fail
   refine gF rfl rfl bf Tryz.underlying161 rfl zk ?_;have hlt:=VW.out.lt;have hB2:Below w.heap.size w wr:=Bt h1 HB.out;refine ⟨_,rfl,aF,Pl.mk (n:=p) ((HP.out.setOther hres zd 0 _).setOther (hres.set 0 _) zd 1 _) (by rw [hpg.out];rfl) ?_⟩;simp
  ·have hl:=HQ.out.ZX h0;have HPT:=zh (BU _ _ p q wr HP.out HQ.out h0 KP.out KQ.out);have H0:=zh h0;clear h0;go_wp2_with fail
   refine HPT.out.mono ?_;rintro e w2 ⟨qv,rv,rfl,hb2,hq2,hr2⟩;obtain ⟨p3,l3,c3,rfl⟩:=hq2.slice;obtain ⟨p4,l4,c4,rfl⟩:=hr2.slice;have HR2:=zh hr2;have HQ2:=zh (HQ.out.later hb2);have HB2:=zh (Bt HB.out hb2);clear hr2 hq2 hb2 HPT;go_wp2_with fail
   go_roundw
   case rel =>
    refine ⟨q,p%q,HQ2,HR2,zh ?_,KQ,zh ?_,HB2⟩
    ·rw [Nat.gcd_comm,← Nat.gcd_rec,Nat.gcd_comm];exact HPG.out
    ·exact ay (gu zo (Nat.mod_le _ _)) KP.out
   case measure =>
    rw [OD HR2.out,OD HQ.out];exact fC _ H0.out
end Go.Proofs.aC
