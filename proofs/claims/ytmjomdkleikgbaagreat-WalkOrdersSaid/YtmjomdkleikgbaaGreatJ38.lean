/- Parts. -/
import Derived.Test.YtmjomdkleikgbaaGreatJ35
set_option linter.unusedVariables false
set_option linter.unusedSimpArgs false
set_option maxRecDepth 100000
set_option maxHeartbeats 20000000
namespace Go.Proofs.YtmjomdkleikgbaaGreat
open Go.RowKit
theorem alZ {L L':List (Lit×Value)} (h:L.Perm L') (k:Lit):(mU L k).Perm (mU L' k):=by unfold mU;exact h.filter _
theorem VV {L:List (Lit×Value)} {l:List (List UInt8)} {E:List UInt8->Value} (h:L.Perm (l.map fun q=>(Lit.string q,E q))) (hu:l.Nodup) {p:List UInt8} (v:Value):
  (p8 L (.string p) v).Perm (((l.filter fun q=>decide (q≠p)).map fun q=>(Lit.string q,E q))++[(.string p,v)]):=by
 unfold p8;refine((alZ h _).trans ?_).append_right _;have e:mU (l.map fun q=>(Lit.string q,E q)) (.string p)=(l.filter fun q=>decide (q≠p)).map fun q=>(Lit.string q,E q):=by
  unfold mU;rw[List.filter_map];congr 1;apply List.filter_congr;intro q hq;by_cases e:q=p
  ·subst e;have h1:=uO (show WideAt.IsKeyLit (.string q)from trivial);simp only[Function.comp];rw[h1];simp
  have h1:¬(Lit.string q).sameKey (.string p)=true:=kW (fun e2=>e (by cases e2;rfl));simp only[Function.comp];rw[Bool.eq_false_iff.2 h1];simp[e]
 rw[e]
def mV (V:List TN):List (List UInt8):=[]::(V.filter fun n=>decide (n.file= -1)).map (·.path)
def mW (V:List TN) (p:List UInt8):Nat:=(V.filter fun n=>decide (bA n.path=p)).length
def uP (V:List TN) (p:List UInt8):Value:=.int .i64 (mW V p:Nat)
def yY (V:List TN) (L:List (Lit×Value)):Prop:=L.Perm ((mV V).map fun q=>(Lit.string q,uP V q))
theorem J4 (V:List TN) (x:TN) (p:List UInt8):mW (V++[x]) p=mW V p+(if bA x.path=p then 1 else 0):=by unfold mW;rw[FH,jJ];by_cases h:bA x.path=p<;>simp[h]
theorem J5 (V:List TN) (x:TN):mV (V++[x])=mV V++(if x.file= -1 then [x.path]else []):=by unfold mV;rw[FH,mM];by_cases h:x.file= -1<;>simp[h]
section
variable {V:List TN} {L:List (Lit×Value)} {x:TN}
theorem yY.get (h:yY V L) (hK:mF L) {p:List UInt8} (hp:p∈mV V):getM L (.string p)=some (uP V p):=
 xI hK (h.mem_iff.2 (List.mem_map.2 ⟨p,hp,rfl⟩))
theorem al0 {l:List (List UInt8)} (hu:l.Nodup) {p:List UInt8} (hp:p∈l):((l.filter fun q=>decide (q≠p))++[p]).Perm l:=by
 rw[LA];intro a;rw[RH];by_cases e:a=p
 ·subst e;(have h1:List.count a (l.filter fun q=>decide (q≠a))=0:=List.count_eq_zero.2 fun h=>by have:=(List.mem_filter.1 h).2;simp at this);(have h2:List.count a l=1:=by have h3:=List.nodup_iff_count.1 hu a;have h4:=List.count_pos_iff.2 hp;omega);rw[h1,h2];simp
 have h1:List.count a [p]=0:=List.count_eq_zero.2 (by simpa using e);rw[h1,uY,List.count_filter (by simpa using e)]
theorem yY.bump (h:yY V L) (hu:(mV V).Nodup) (hp:bA x.path∈mV V):(p8 L (.string (bA x.path)) (.int .i64 ((mW V (bA x.path):Int)+1))).Perm ((mV V).map fun q=>(Lit.string q,uP (V++[x]) q)):=by
 refine(VV h hu _).trans ?_;refine List.Perm.trans ?_ ((al0 hu hp).map _);rw[mM,LB];have e1:uP (V++[x]) (bA x.path)= .int .i64 ((mW V (bA x.path):Int)+1):=by unfold uP;rw[J4,if_pos rfl];rfl
 have e2:((mV V).filter fun q=>decide (q≠bA x.path)).map (fun q=>(Lit.string q,uP V q))=((mV V).filter fun q=>decide (q≠bA x.path)).map fun q=>(Lit.string q,uP (V++[x]) q):=by apply vW;intro q hq;have h1:=(List.mem_filter.1 hq).2;rw[uQ]at h1;unfold uP;rw[J4,if_neg (fun e=>h1 e.symm),uY]
 rw[e1,e2]
theorem yY.file (h:yY V L) (hu:(mV V).Nodup) (hp:bA x.path∈mV V) (hf:x.file≠ -1):yY (V++[x]) (p8 L (.string (bA x.path)) (.int .i64 ((mW V (bA x.path):Int)+1))):=by have h1:=h.bump hu hp;unfold yY;rw[J5,if_neg hf,yX42];exact h1
theorem yY.dir (h:yY V L) (hu:(mV V).Nodup) (hp:bA x.path∈mV V) (hf:x.file= -1) (hn:x.path∉mV V) (hz:mW (V++[x]) x.path=0):yY (V++[x]) (p8 (p8 L (.string (bA x.path)) (.int .i64 ((mW V (bA x.path):Int)+1))) (.string x.path) (.int .i64 0)):=by
 have h1:=h.bump hu hp;refine(VV h1 hu _).trans ?_;have e1:((mV V).filter fun q=>decide (q≠x.path))=mV V:=D6.2 fun q hq=>by rw[uQ];exact fun e=>hn (e▸hq)
 have e2:uP (V++[x]) x.path=iV 0:=by unfold uP;rw[hz];rfl
 rw[e1,J5,if_pos hf,mM,LB,e2]
end
theorem aqW {V:List TN} (hup:∀n∈V,bA n.path∈mV V) {p:List UInt8} (hp:p∉mV V):mW V p=0:=by unfold mW;rw[List.length_eq_zero_iff,ag2];intro n hn;rw[uQ];exact fun e=>hp (e▸hup n hn)
section
variable {ns:List TN} {F:List TF}
theorem agC {V:List TN} (h:K8 V):(mV V).Nodup:=by
 unfold mV;rw[wK];refine⟨fun hm=>?_,?_⟩
 ·obtain⟨n,hn,e⟩:=List.mem_map.1 hm;exact nR (h.valid n (List.mem_filter.1 hn).1) e
 rw[List.Nodup,FJ];exact h.ne.filter _
theorem aqX {V:List TN} (h:K8 V):∀n∈V,bA n.path∈mV V:=fun n hn=>by
 rcases h.up n hn with e|⟨m,hm,e,hf⟩
 ·rw[e];exact mO ..
 rw[<-e];exact vD _ (List.mem_map.2 ⟨m,List.mem_filter.2 ⟨hm,by simpa using hf⟩,rfl⟩)
structure aCD (V:List TN) (x:TN):Prop where
 nodup:(mV V).Nodup
 up:bA x.path∈mV V
 no:x.path∉mV V
 zero:mW (V++[x]) x.path=0
theorem axY (ho:gQ ns F) {i:Nat} {x:TN} (hx:ns[i]? =some x):aCD (ns.take i) x:=by
 have htk:ns.take (i+1)=ns.take i++[x]:=by rw[pX,hx];rfl
 have h1:=xK ho i;have h2:=xK ho (i+1);rw[htk]at h2;have hv:=h2.valid x bK;have hne:bA x.path≠x.path:=fun e=>by have h3:=BG hv;rw[e,lZ]at h3;cases h3
 have hno:x.path∉mV (ns.take i):=fun hm=>by
  unfold mV at hm;rcases jU.1 hm with e|hm
  ·exact nR hv e
  obtain⟨m,hm1,e⟩:=List.mem_map.1 hm;exact(M9.1 h2.ne).2.2 m (List.mem_filter.1 hm1).1 x bK e
 refine⟨agC h1,?_,hno,?_⟩
 ·have h3:=aqX h2 x bK;rw[J5]at h3;rcases iM.1 h3 with h3|h3
  ·exact h3
  exfalso;split at h3
  ·exact hne (rW.1 h3)
  cases h3
 rw[J4,if_neg hne,aqW (aqX h1) hno]
end
theorem auH {n:Int} (hn:bM n):(FloatKind.f64.decode (fI n)).toInt .zero=some n:=by
 obtain⟨L,hL,h⟩:=yG hn;have h2:FloatKind.f64.decode (fI n)= .number (decide (n<0)) (n.natAbs*2 ^ L) (-(L:Int)):=h;rw[h2];unfold Ieee.Datum.toInt Ieee.Datum.integral;have e1:(-(L:Int)).toNat=0:=by omega
 have e2:(-(-(L:Int))).toNat=L:=by omega
 simp only[e1,e2,Nat.shiftLeft_zero];have e3:Ieee.Toward.zero.cut (decide (n<0)) (n.natAbs*2 ^ L) L=n.natAbs:=by
  have h9:n.natAbs*2 ^ L/2 ^ L=n.natAbs:=Nat.mul_div_cancel _ (I5 _);simp only[Ieee.Toward.cut,Bool.toNat_false,uY];rcases xN n.natAbs with h0|h0
  ·rw[h0,TP,Nat.zero_div]
  have h1:2 ^ L<=n.natAbs*2 ^ L:=Nat.le_mul_of_pos_left _ h0;(have h3:n.natAbs*2 ^ L≠0:=by have:=I5 L;omega);have h4:=(Nat.le_log2 h3).2 h1;rw[I4 aI,Nat.one_shiftLeft,h9]
 rw[e3];unfold Ieee.signed;rw[Nat.shiftLeft_zero];by_cases h0:n<0
 ·rw[if_pos (decide_eq_true h0)];congr 1;omega
 rw[if_neg (by simpa using h0)];congr 1;omega
theorem f2i {n:Int} (hn:bM n) (w:World):(convert 84 3 (.float .f64 (fI n))).run Tryz.prog w= .ok (.int .i64 n) w:=by
 refine run_convert_float_int w 84 3 .f64 .i64 (fI n) n fT Tryz.underlying3 ?_;unfold floatToIntVal;rw[auH hn];have h1:IntKind.min .i64= -9223372036854775808:=by decide
 have h2:IntKind.max .i64=9223372036854775807:=by decide
 have h3:n.natAbs<9007199254740992:=by unfold bM at hn;exact hn
 show(if IntKind.min .i64<=n/\n<=IntKind.max .i64 then some n else none)=some n
 rw[h1,h2,if_pos aI]
theorem VX {n:Int} (h0:0<=n) (h1:n<=4000000) (w:World):Calls Tryz.prog 225 #[.float .f64 (fI n)] w fun e w'=>e= .returned (.bool true)/\w'=w:=by
 have hs:bM n:=by unfold bM;omega
 have c1:(14010698440749613056:Nat)=fI (-1099511627776):=by decide
 have c2:(4787326403894837248:Nat)=fI 1099511627776:=by decide
 have o1:FloatKind.f64.format.order (fI n) 14010698440749613056=some .gt:=by rw[c1];have h:FloatKind.f64.format.order (fI n) (fI (-1099511627776))=some (compare n (-1099511627776)):=zX hs (by unfold bM;omega);rw[h,Int.compare_eq_gt.2 aI]
 have o2:FloatKind.f64.format.order (fI n) 4787326403894837248=some .lt:=by rw[c2];have h:FloatKind.f64.format.order (fI n) (fI 1099511627776)=some (compare n 1099511627776):=zX hs (by unfold bM;omega);rw[h,Int.compare_eq_lt.2 aI]
 have o3:FloatKind.f64.format.order (fI n) (fI n)=some .eq:=by have h:FloatKind.f64.format.order (fI n) (fI n)=some (compare n n):=zX hs hs;rw[h,Int.compare_eq_eq.2 rfl]
 have hf:=f2i hs;have e9:floatOfInt .f64 n=fI n:=rfl;clear c1 c2 hs;obtain⟨x,hx⟩:∃x,x=fI n:=⟨_,rfl⟩;rw[<-hx]at o1 o2 o3 hf e9 ⊢;clear hx h0 h1;go_enter Tryz.func225,Tryz.ntmps225;go_wp2_with fail;go_ret;exact⟨rfl,rfl⟩
def cv (x:Int×Int):Value:=jC x.1 x.2
def jS (x:Int×Int):Prop:=(0<=x.1/\x.1<=4000000)/\(0<=x.2/\x.2<=4000000)
theorem agD {l:List (Int×Int)} {v:Value} {w:World} (h:Rd w 1 v l.length (l.map cv)) (hk:∀x∈l,jS x) (hl:l.length<=2000):Calls Tryz.prog 203 #[v] w fun e w'=>e= .returned (.bool true)/\w'=w:=by
 obtain⟨A,c,rfl,_⟩:=h.shape;have h':=Lh h;have hk':=Lh hk;have b1:(l.length:Int)<=2000:=by omega
 clear h hk;go_enter Tryz.func203,Tryz.ntmps203;go_wp2_with fail;go_loop[7] (fun iv=>∃i:Nat,i<=l.length/\iv=iV i) (fun iv=>l.length-(intOf iv).toNat)
 case atStart=>exact⟨0,fZ _,rfl⟩
 obtain⟨i,hi,rfl⟩:=hrel;have c0:(0:Int)<=(i:Int):=by omega
 by_cases hlt:i<l.length
 ·(have c1:(i:Int)<(l.length:Int):=by omega);obtain⟨g,o,cc,e,k1,k2,_,hcell⟩:=h'.out.place aI aR;cases e;have hx:=hcell _ (RowKit.Below.refl _ _) i aI;rw[kX,gE hlt]at hx;simp only[RL]at hx;obtain⟨⟨p0,p1⟩,q0,q1⟩:=hk'.out _ (nJ hlt);(have hw1:=fun W=>VX p0 p1 W);(have hw2:=fun W=>VX q0 q1 W);unfold cv jC at hx;obtain⟨X1,e1⟩:∃X,X=fI l[i].1:=⟨_,rfl⟩;obtain⟨X2,e2⟩:∃X,X=fI l[i].2:=⟨_,rfl⟩;rw[<-e1]at hx hw1;rw[<-e2]at hx hw2;clear e1 e2 p0 p1 q0 q1 hcell;go_wp2_with(first |(go_at_call 225;refine(hw1 _).mono ?_;rintro e w' ⟨rfl,hw'⟩;subst hw';clear hw1)|(go_at_call 225;refine(hw2 _).mono ?_;rintro e w' ⟨rfl,hw'⟩;subst hw';clear hw2))
  trace_state
  exact⟨⟨i+1,by omega,by go_num⟩,by(simp[intOf];omega)⟩
 have c2:¬(i:Int)<(l.length:Int):=by omega
 go_wp2_with fail;go_ret;exact⟨rfl,rfl⟩
theorem agE (x:Value) (w:World) (t:TypeId) (h1:x.oneCell'=true):Rd (w.alloc (.cells #[x] t)) 1 (sV w.heap.size 1 1) 1 [x]:=⟨rfl,_,_,rfl,iU _,by unfold maxLen;omega,fun _=>⟨_,rfl,by rw[World.size_alloc];exact IX _,jH w #[x] t _ rfl⟩⟩
theorem agF {x:Int×Int} (hx:jS x) (w:World):Calls Tryz.prog 203 #[sV w.heap.size 1 1] (w.alloc (.cells #[cv x] 53)) fun e w'=>e= .returned (.bool true)/\w'=w.alloc (.cells #[cv x] 53):=
 agD (l:=[x]) (agE (cv x) w 53 rfl) (fun y hy=>by rw[rW]at hy;rw[hy];exact hx) bK
theorem ac9 {x:Int×Int} (hx:jS x) (w:World):Calls Tryz.prog 178 #[cv x] w fun e w'=>e= .returned (.tuple #[cv x,iV 0])/\RowKit.Below w.heap.size w w':=by
 have hi:=Lh (agF hx w);have hb:=Lh ((RowKit.Below.refl w.heap.size w).alloc (iU _) (.cells #[cv x] 53));obtain⟨b,i⟩:=x;have a1:floatBits .add .f64 (fI b) 0=some (fI b):=by have h:=J6 (a:=b) (b:=0) (by have:=hx.1;unfold bM;omega) (by unfold bM;omega) (by have:=hx.1;unfold bM;omega);rw[CU,Int.add_zero]at h;exact h
 have a2:floatBits .add .f64 (fI i) 0=some (fI i):=by have h:=J6 (a:=i) (b:=0) (by have:=hx.2;unfold bM;omega) (by unfold bM;omega) (by have:=hx.2;unfold bM;omega);rw[CU,Int.add_zero]at h;exact h
 unfold cv jC at*;simp only at hi hb ⊢;obtain⟨X1,e1⟩:∃X,X=fI b:=⟨_,rfl⟩;obtain⟨X2,e2⟩:∃X,X=fI i:=⟨_,rfl⟩;rw[<-e1]at a1 hi hb ⊢;rw[<-e2]at a2 hi hb ⊢;clear e1 e2 hx;have r1:=fun W=>run_float_arith (P:=Tryz.prog) W .add 84 .f64 _ _ _ a1
 have r2:=fun W=>run_float_arith (P:=Tryz.prog) W .add 84 .f64 _ _ _ a2
 go_enter Tryz.func178,Tryz.ntmps178;go_wp2_with(go_at_call 203;refine hi.out.mono ?_;rintro e w' ⟨rfl,hw'⟩;subst hw';clear hi);exact bodyPost_ret (v:=.tuple #[.complex .f64 X1 X2,iV 0]) (by simp[results,Tryz.f178,go_sem]) rfl ⟨rfl,hb.out⟩
theorem axZ {a b:Int} (ha:bM a) (hb:bM b) (ts:Array TypeId) (t:TypeId) (w:World):(Builtin.max_ ts t #[.float .f64 (fI a),.float .f64 (fI b)]).run Tryz.prog w= .ok (.float .f64 (fI (max a b))) w:=by
 have h:FloatKind.f64.format.order (fI a) (fI b)=some (compare a b):=zX ha hb;rcases Int.lt_trichotomy a b with h2|h2|h2
 ·rw[Int.compare_eq_lt.2 h2]at h;rw[Int.max_eq_right aI];simp[Builtin.max_,Builtin.max2,h]
 ·subst h2;rw[Int.compare_eq_eq.2 rfl]at h;rw[Int.max_self];simp[Builtin.max_,Builtin.max2,h]
 rw[Int.compare_eq_gt.2 h2]at h;rw[Int.max_eq_left aI];simp[Builtin.max_,Builtin.max2,h]
theorem VY {a b:Int} (ha:bM a) (hb:bM b) (w:World):Calls Tryz.prog 227 #[.float .f64 (fI a),.float .f64 (fI b)] w fun e w'=>e= .returned (.float .f64 (fI (max a b)))/\w'=w:=by
 have hm:=fun ts t W=>axZ ha hb ts t W
 obtain⟨X1,e1⟩:∃X,X=fI a:=⟨_,rfl⟩;obtain⟨X2,e2⟩:∃X,X=fI b:=⟨_,rfl⟩;obtain⟨X3,e3⟩:∃X,X=fI (max a b):=⟨_,rfl⟩;rw[<-e1,<-e2,<-e3];simp only[<-e1,<-e2,<-e3]at hm;clear e1 e2 e3 ha hb;go_enter Tryz.func227,Tryz.ntmps227;go_wp2_with fail;go_ret;exact⟨rfl,rfl⟩
theorem ax0 (x y:Value) (w:World) (t:TypeId) (h1:x.oneCell'=true) (h2:y.oneCell'=true):Rd (w.alloc (.cells #[x,y] t)) 1 (sV w.heap.size 2 2) 2 [x,y]:=⟨rfl,_,_,rfl,iU _,by unfold maxLen;omega,fun _=>⟨_,rfl,by rw[World.size_alloc];exact IX _,jH w #[x,y] t _ rfl⟩⟩
def aqY (x y:Int×Int):Int×Int:=(max x.1 y.1,max x.2 y.2)
theorem aiM {x y:Int×Int} (hx:jS x) (hy:jS y):jS (aqY x y):=by obtain⟨⟨_,_⟩,_,_⟩:=hx;obtain⟨⟨_,_⟩,_,_⟩:=hy;unfold jS aqY;simp only;omega
theorem aqZ {x y:Int×Int} (hx:jS x) (hy:jS y) (w:World):Calls Tryz.prog 204 #[cv x,cv y] w fun e w'=>e= .returned (.tuple #[cv (aqY x y),iV 0])/\RowKit.Below w.heap.size w w':=by
 have hi:Hid (Calls Tryz.prog 203 #[sV w.heap.size 2 2] (w.alloc (.cells #[cv x,cv y] 53)) fun e w'=>e= .returned (.bool true)/\w'=w.alloc (.cells #[cv x,cv y] 53)):=Lh (agD (l:=[x,y]) (ax0 (cv x) (cv y) w 53 rfl rfl) (fun z hz=>by
  simp only[jU,DF,or_false]at hz;rcases hz with rfl|rfl
  ·exact hx
  exact hy) bK)
 have hb:Hid (RowKit.Below w.heap.size w (w.alloc (.cells #[cv x,cv y] 53))):=Lh ((RowKit.Below.refl w.heap.size w).alloc (iU _) (.cells #[cv x,cv y] 53));have ht:=Lh (ac9 (aiM hx hy) (w.alloc (.cells #[cv x,cv y] 53)));have m1:=fun W=>VY (a:=x.1) (b:=y.1) (by have:=hx.1;unfold bM;omega) (by have:=hy.1;unfold bM;omega) W
 have m2:=fun W=>VY (a:=x.2) (b:=y.2) (by have:=hx.2;unfold bM;omega) (by have:=hy.2;unfold bM;omega) W
 clear hx hy;unfold cv jC aqY at*;simp only at ht m1 m2 ⊢;obtain⟨X1,e1⟩:∃X,X=fI x.1:=⟨_,rfl⟩;obtain⟨X2,e2⟩:∃X,X=fI x.2:=⟨_,rfl⟩;obtain⟨X3,e3⟩:∃X,X=fI y.1:=⟨_,rfl⟩;obtain⟨X4,e4⟩:∃X,X=fI y.2:=⟨_,rfl⟩;obtain⟨X5,e5⟩:∃X,X=fI (max x.1 y.1):=⟨_,rfl⟩;obtain⟨X6,e6⟩:∃X,X=fI (max x.2 y.2):=⟨_,rfl⟩;simp only[<-e1,<-e2,<-e3,<-e4,<-e5,<-e6]at hi hb ht m1 m2 ⊢;clear e1 e2 e3 e4 e5 e6;have hea:Hid (Calls Tryz.prog 226 #[.complex .f64 X1 X2,.complex .f64 X3 X4,.func (.func 227) #[] #[]] w fun e w'=>e= .returned (.tuple #[.complex .f64 X5 X6,iV 0])/\RowKit.Below w.heap.size w w'):=Lh (by go_enter Tryz.func226,Tryz.ntmps226;go_wp2_with(first |(go_at_call 203;refine hi.out.mono ?_;rintro e w' ⟨rfl,hw'⟩;subst hw';clear hi)|(go_at_call 227;refine(m1 _).mono ?_;rintro e w' ⟨rfl,hw'⟩;subst hw';clear m1)|(go_at_call 227;refine(m2 _).mono ?_;rintro e w' ⟨rfl,hw'⟩;subst hw';clear m2)|(go_at_call 178;refine ht.out.mono ?_;rintro e w' ⟨rfl,hb2⟩;(have hb3:=Lh hb2);clear ht hb2));exact bodyPost_ret (v:=.tuple #[.complex .f64 X5 X6,iV 0]) (by simp[results,Tryz.f226,go_sem]) rfl ⟨rfl,hb.out.trans (hb3.out.mono (by rw[World.size_alloc];exact Nat.le_succ _))⟩);clear hi hb ht m1 m2;go_enter Tryz.func204,Tryz.ntmps204;go_wp2_with(go_at_call 226;refine hea.out.mono ?_;rintro e w' ⟨rfl,hb⟩;(replace hb:=Lh hb);clear hea);exact bodyPost_ret (v:=.tuple #[.complex .f64 X5 X6,iV 0]) (by simp[results,Tryz.f204,go_sem]) rfl ⟨rfl,hb.out⟩
def S9 (x y:Int×Int):Int×Int:=(x.1+y.1,x.2+y.2)
theorem ax1 {x y:Int×Int} (hx:jS x) (hy:jS y) (hs:jS (S9 x y)) (W:World):(binOp .add 53 (cv x) (cv y)).run Tryz.prog W= .ok (cv (S9 x y)) W:=by have a1:=J6 (a:=x.1) (b:=y.1) (by have:=hx.1;unfold bM;omega) (by have:=hy.1;unfold bM;omega) (by have:=hs.1;unfold S9 at this;simp only at this;unfold bM;omega);have a2:=J6 (a:=x.2) (b:=y.2) (by have:=hx.2;unfold bM;omega) (by have:=hy.2;unfold bM;omega) (by have:=hs.2;unfold S9 at this;simp only at this;unfold bM;omega);refine run_complex_sum W .add (.inl rfl) 53 .f64 _ _ _ _ _ _ ?_;unfold cSumBits;rw[a1,a2];rfl
def zM (l:List (Int×Int)):Int×Int:=l.foldl S9 (0,0)
theorem al1 (l:List (Int×Int)) (x:Int×Int):zM (l++[x])=S9 (zM l) x:=by unfold zM;rw[M6];rfl
theorem aiN :jS (0,0):=⟨⟨by decide,by decide⟩,by decide,by decide⟩
theorem YN :cv (0,0)= .complex .f64 0 0:=by unfold cv jC;rw[CU]
theorem auI {l:List (Int×Int)} {v:Value} {w:World} (h:Rd w 1 v l.length (l.map cv)) (hk:∀x∈l,jS x) (hl:l.length<=1000) (hs:∀i,jS (zM (l.take i))):
  Calls Tryz.prog 177 #[.complex .f64 0 0,v] w fun e w'=>∃pk,jS pk/\e= .returned (.tuple #[cv (zM l),cv pk,iV 0])/\RowKit.Below w.heap.size w w':=by
 obtain⟨A,c,rfl,_⟩:=h.shape;have h':=Lh h;have hk':=Lh hk;have hs':=Lh hs;have hi0:=Lh (agF aiN w);rw[YN]at hi0;have hb0:=(RowKit.Below.refl w.heap.size w).alloc (iU _) (.cells #[.complex .f64 0 0] 53);have hi1:=Lh (agD (h.below hb0) hk aI);have II:=Lh hb0;have b1:(l.length:Int)<=1024:=by omega
 clear h hk hb0 hs;go_enter Tryz.func177,Tryz.ntmps177;go_wp2_with(first |(go_at_call 203;refine hi0.out.mono ?_;rintro e w' ⟨rfl,hw'⟩;subst hw';clear hi0)|(go_at_call 203;refine hi1.out.mono ?_;rintro e w' ⟨rfl,hw'⟩;subst hw';clear hi1));go_loopw[4,5,26] (fun v4 v5 iv wr=>∃(i:Nat) (pk:Int×Int),i<=l.length/\iv=iV i/\v4=cv (zM (l.take i))/\v5=cv pk/\Hid (jS pk)/\Hid (RowKit.Below w.heap.size w wr)) (fun _ _ iv _=>l.length-(intOf iv).toNat)
 case atStart=>exact⟨0,(0,0),fZ _,rfl,YN.symm,YN.symm,Lh aiN,II⟩
 obtain⟨i,pk,hi,rfl,rfl,rfl,hpk,hbw⟩:=hrel;have c0:(0:Int)<=(i:Int):=by omega
 by_cases hlt:i<l.length
 ·(have c1:(i:Int)<(l.length:Int):=by omega);obtain⟨g,o,cc,e,k1,k2,_,hcell⟩:=h'.out.place aI aR;cases e;have hx:=hcell _ hbw.out i aI;rw[kX,gE hlt]at hx;simp only[RL]at hx;(have htk:l.take (i+1)=l.take i++[l[i]]:=by rw[pX,gE hlt];rfl);have hs1:=hs'.out i;have hs2:=hs'.out (i+1);have hsx:=congrArg zM htk;rw[al1]at hsx;have hnx:Hid (cv (S9 (zM (l.take i)) l[i])=cv (zM (l.take (i+1)))):=Lh (by rw[hsx]);rw[hsx]at hs2;(have hadd:=fun W=>ax1 hs1 (hk'.out _ (nJ hlt)) hs2 W);obtain⟨x,hxe⟩:∃x,x=l[i]:=⟨_,rfl⟩;rw[<-hxe]at hx hs2 hadd hnx;clear hxe htk hsx;obtain⟨s0,hs0⟩:∃s0,s0=zM (l.take i):=⟨_,rfl⟩;rw[<-hs0]at hs1 hs2 hadd hnx ⊢;clear hs0;obtain⟨s1,hse⟩:∃s1,s1=S9 s0 x:=⟨_,rfl⟩;rw[<-hse]at hs2 hadd hnx;clear hse hs1;have hi1:=Lh (agF hs2 wr);have hb1:=(RowKit.Below.refl wr.heap.size wr).alloc (iU _) (.cells #[cv s1] 53);have hmo:=Lh (aqZ hpk.out hs2 (wr.alloc (.cells #[cv s1] 53)));have am9:=Lh (aiM hpk.out hs2);have hb2:=Lh (hbw.out.trans (hb1.mono hbw.out.size));obtain⟨pk2,hpe⟩:∃q,q=aqY pk s1:=⟨_,rfl⟩;rw[<-hpe]at hmo am9;clear hpe hb1 hs2 hcell;(have hle:w.heap.size<=(wr.alloc (.cells #[cv s1] 53)).heap.size:=by rw[World.size_alloc];have:=hbw.out.size;omega);unfold cv jC at*;go_wp2_with(first |(go_at_call 203;refine hi1.out.mono ?_;rintro e w' ⟨rfl,hw'⟩;subst hw';clear hi1)|(go_at_call 204;refine hmo.out.mono ?_;rintro e w5 ⟨rfl,hb5⟩;(replace hb5:=Lh (hb2.out.trans (hb5.mono hle)));clear hmo));exact⟨⟨i+1,pk2,by omega,by go_num,hnx.out,rfl,am9,hb5⟩,by(simp[intOf];omega)⟩
 have c2:¬(i:Int)<(l.length:Int):=by omega
 go_wp2_with fail;rw[rG aI];exact bodyPost_ret (v:=.tuple #[cv (zM l),cv pk,iV 0]) (by simp[results,Tryz.f177,go_sem]) rfl ⟨pk.1,pk.2,hpk.out,rfl,hbw.out⟩
theorem auJ {l:List (Int×Int)} {v:Value} {w:World} (h:Rd w 1 v l.length (l.map cv)) (hk:∀x∈l,jS x) (hl:l.length<=1000) (hs:∀i,jS (zM (l.take i))):
  Calls Tryz.prog 113 #[v] w fun e w'=>e= .returned (.tuple #[cv (zM l),iV 0])/\RowKit.Below w.heap.size w w':=by
 have hr:=Lh (auI h hk hl hs);have hs1:=hs l.length;rw[RI]at hs1;have ht:=fun W=>ac9 hs1 W
 clear h hk hs hs1;obtain⟨s0,hs0⟩:∃s0,s0=cv (zM l):=⟨_,rfl⟩;rw[<-hs0]at hr ht ⊢;clear hs0;go_enter Tryz.func113,Tryz.ntmps113;go_wp2_with(first |(go_at_call 177;refine hr.out.mono ?_;rintro e w1 ⟨pk,_,rfl,hb⟩;(replace hb:=Lh hb);clear hr)|(go_at_call 178;refine(ht _).mono ?_;rintro e w2 ⟨rfl,hb2⟩;(replace hb2:=Lh hb2);clear ht));exact bodyPost_ret (v:=.tuple #[s0,iV 0]) (by simp[results,Tryz.f113,go_sem]) rfl ⟨rfl,hb.out.trans (hb2.out.mono hb.out.size)⟩
theorem aiO :fI 1=4607182418800017408:=by decide
theorem QW {n b:Nat} (hn:n<=1000000) (hb:0<b) (hb2:b<=1000) (w:World):Calls Tryz.prog 176 #[iV n,iV b] w fun e w'=>e= .returned (iV ((n+b-1)/b:Nat))/\w'=w:=by
 have h1:(n:Int)<=1000000:=by omega
 have h2:(0:Int)<b:=by omega
 have h3:(b:Int)<=1000:=by omega
 have h4:(0:Int)<=n:=by omega
 have h5:((b:Int)==0)=false:=by rw[kD];omega
 go_enter Tryz.func176,Tryz.ntmps176;go_wp2_with fail;go_ret;refine⟨?_,rfl⟩;have e:(((n+b-1)/b:Nat):Int)=((n:Int)+b-1)/b:=by rw[Int.natCast_ediv,Int.natCast_sub aI];rfl
 rw[e];rfl
theorem Z20 {P:Prop} (h:P:=by go_wp2_with(go_at_call 176;refine hp.mono ?_;rintro e w' ⟨rfl,hw'⟩;subst hw';clear hp);go_ret;exact⟨rfl,rfl⟩):P:=h
theorem aq0 {k:Nat} (hk:k<=1000) (w:World):Calls Tryz.prog 111 #[iV k] w fun e w'=>e= .returned (cv (fJ 1 k,1))/\w'=w:=by
 have hp:=QW (n:=k) (b:=16) aI aR aR w;have h9:fJ 1 k=max 1 (((k+16-1)/16:Nat):Int):=by unfold fJ;rw[if_pos rfl,show k+16-1=k+15 by omega]
 obtain⟨q,hq⟩:∃q:Nat,q=(k+16-1)/16:=⟨_,rfl⟩;rw[<-hq]at hp h9;unfold cv jC;simp only;rw[h9,aiO];have e9:∀n:Int,floatOfInt .f64 n=fI n:=fun _=>rfl
 clear h9 hq hk;go_enter Tryz.func111,Tryz.ntmps111;exact Z20
theorem al2 {k:Nat} (hk:k<=100000) (w:World):Calls Tryz.prog 112 #[iV k] w fun e w'=>e= .returned (cv (fJ 2 k,1))/\w'=w:=by
 have hp:=QW (n:=k) (b:=512) aI aR aR w;have h9:fJ 2 k=if 8<(k+512-1)/512 then(((k+512-1)/512:Nat):Int)+1 else(((k+512-1)/512:Nat):Int):=by unfold fJ;rw[if_neg aR,if_pos rfl,show k+512-1=k+511 by omega]
 obtain⟨q,hq⟩:∃q:Nat,q=(k+512-1)/512:=⟨_,rfl⟩;have hqb:q<=1000:=by omega
 rw[<-hq]at hp h9;unfold cv jC;simp only;rw[h9,aiO];have e9:∀n:Int,floatOfInt .f64 n=fI n:=fun _=>rfl
 clear h9 hq hk;have c0:(0:Int)<=q:=by omega
 have c1:(q:Int)<=1000:=by omega
 by_cases h8:8<q
 ·(have c8:(8:Int)<q:=by omega);rw[if_pos h8];go_enter Tryz.func112,Tryz.ntmps112;exact Z20
 have c8:¬(8:Int)<q:=by omega
 rw[if_neg h8];go_enter Tryz.func112,Tryz.ntmps112;exact Z20
theorem VZ :∀(l:List (Int×Int)) (a:Int×Int),l.foldl S9 a=(a.1+(l.map Prod.fst).sum,a.2+(l.map Prod.snd).sum)
 |[],a=>by simp
 |x::l,a=>by rw[List.foldl_cons,VZ l];simp only[S9,jW,uX,Prod.mk.injEq];omega
theorem aiP (l:List (Int×Int)):zM l=((l.map Prod.fst).sum,(l.map Prod.snd).sum):=by unfold zM;rw[VZ];simp
theorem EX {c:Int}:∀ {l:List Int},(∀x∈l,0<=x/\x<=c)->0<=l.sum/\l.sum<=c*(l.length:Int)
 |[],_=>by simp
 |a::l,h=>by(have h1:=EX fun x hx=>h x (vD _ hx));have h2:=h a mO;rw[uX,kM,ZL,Int.mul_add];omega
theorem aq1 {a b:List Int} (h:a.Perm b):a.sum=b.sum:=by
 induction h with
 |nil=>rfl
 |cons x _ ih=>rw[uX,uX,ih]
 |swap x y l=>simp only[uX];omega
 |trans _ _ ih1 ih2=>rw[ih1,ih2]
def DW (ns:List TN) (qs:List (List UInt8)) (F:List TF):List (Int×Int):=(qs.map fun q=>(fJ 1 (mW ns q),1))++F.map fun f=>(fJ 2 f.bs.length,1)
section
variable {ns:List TN} {F:List TF} {qs:List (List UInt8)}
theorem adA (hn:ns.length<=256) (hf:∀f∈F,f.size<=8192):∀x∈DW ns qs F,(0<=x.1/\x.1<=4100)/\x.2=1:=fun x hx=>by
 rcases iM.1 hx with hx|hx
 ·obtain⟨q,_,rfl⟩:=List.mem_map.1 hx;have h1:mW ns q<=ns.length:=RG ..;exact⟨MS (kind:=1) (size:=mW ns q) aI,rfl⟩
 obtain⟨f,h1,rfl⟩:=List.mem_map.1 hx;have h2:=hf f h1;exact⟨MS (kind:=2) (size:=f.bs.length) (by unfold TF.size at h2;omega),rfl⟩
theorem adB :(DW ns qs F).length=qs.length+F.length:=by unfold DW;rw[jJ,iT,iT]
theorem auK (hn:ns.length<=256) (hf:∀f∈F,f.size<=8192):∀x∈DW ns qs F,jS x:=fun x hx=>by have h:=adA hn hf x hx;unfold jS;omega
theorem aq2 (hn:ns.length<=256) (hf:∀f∈F,f.size<=8192) (hl:qs.length+F.length<=600) (i:Nat):jS (zM ((DW ns qs F).take i)):=by
 have h:=fun x hx=>adA (qs:=qs) hn hf x (DD (i:=i) hx)
 have hlen:((DW ns qs F).take i).length<=600:=by rw[qQ,adB];omega
 have h1:=EX (c:=4100) (l:=((DW ns qs F).take i).map Prod.fst) fun x hx=>by obtain⟨y,hy,rfl⟩:=List.mem_map.1 hx;exact(h y hy).1
 have h2:=EX (c:=1) (l:=((DW ns qs F).take i).map Prod.snd) fun x hx=>by obtain⟨y,hy,rfl⟩:=List.mem_map.1 hx;have:=(h y hy).2;omega
 rw[iT]at h1 h2;rw[aiP];unfold jS;simp only;omega
theorem auL {p:List UInt8} (hv:aU p=true):(bA p=[]/\(splitB p).dropLast=[])\/(bA p≠[]/\(splitB p).dropLast=splitB (bA p)):=by
 rcases mI p with⟨_,h2,h1⟩|⟨a,b,e,_,h2,h1⟩
 ·left;refine⟨?_,by rw[h1];rfl⟩;unfold bA;rw[if_pos hv,h2];rfl
 right;have hp:bA p=a:=by unfold bA;rw[if_pos hv,h2,e,List.take_left'];rfl
 rw[hp,h1,YZ];refine⟨fun e=>?_,rfl⟩;subst e;have hv2:LP p=true:=by rw[uG];exact hv
 unfold LP at hv2;simp only[rH]at hv2;have hm:([]:List UInt8)∈splitB p:=by rw[h1];exact uT _ (by simp[splitB])
 have:=List.all_eq_true.1 hv2.2.2 _ hm;unfold iI at this;simp at this
theorem adC (hv:∀n∈ns,aU n.path=true) {q:List UInt8} {K:Key} (h:(q=[]/\K=[])\/(q≠[]/\K=splitB q)):mW ns q=dZ ns K:=by
 unfold mW dZ eB;congr 1;apply List.filter_congr;intro n hn;unfold aZ;rcases auL (hv n hn)with⟨h1,h2⟩|⟨h1,h2⟩<;>rcases h with⟨rfl,rfl⟩|⟨h3,rfl⟩
 ·rw[h1,h2];rfl
 ·rw[h1,h2];rw[decide_eq_false (fun e=>h3 e.symm),eq_comm,kD];exact fun e=>gP q e.symm
 ·rw[h2,decide_eq_false h1,eq_comm,kD];exact gP _
 rw[h2];by_cases e:bA n.path=q
 ·rw[e,decide_eq_true rfl,eq_comm,beq_self_eq_true]
 rw[decide_eq_false e,eq_comm,kD];exact fun e2=>e (uJ _ (iU _) e2)
theorem adD (ho:gQ ns F):(fO ns).Perm ((List.range F.length).map fun(v:Nat)=>(v:Int)):=by
 have hi:=VJ ho ns.length (iU _) _ ho.run;rw[RI]at hi;rw[<-hi];have hnd:(fP ns).Nodup:=by rw[hi,List.Nodup,FJ];exact List.nodup_range.imp fun {a b} h e=>h aI
 rw[am3 (mR ns) hnd];intro k;rw[jR];constructor
 ·rintro⟨h1,n,hn,rfl⟩;have:=(ho.mem hn).2;exact uK _ n hn aI
 intro hk;obtain⟨n,hn,h1,h2⟩:=CW _ k hk;exact⟨by omega,n,hn,h1⟩
theorem aq3 (ho:gQ ns F) (hp:qs.Perm (mV ns)):zM (DW ns qs F)=(uF ns (mK F),nP ns):=by
 have hv:∀n∈ns,aU n.path=true:=fun n hn=>(ho.mem hn).1
 have hfr:=adD ho;have e1:∀ {α:Type} {f:α->Int} {a b:List α},a.Perm b->(a.map f).sum=(b.map f).sum:=fun h=>aq1 (h.map _)
 have d1:(qs.map fun q=>fJ 1 (mW ns q)).sum=fJ 1 (dZ ns [])+((kT ns).map fun n=>fJ 1 (dZ ns (aZ n))).sum:=by rw[e1 hp];unfold mV;rw[jW,uX,qU,adC hv (.inl ⟨rfl,rfl⟩)];congr 2;apply vW;intro n hn;have hn2:=hv n (List.mem_filter.1 hn).1;(show fJ 1 (mW ns n.path)=_);rw[adC hv (.inr ⟨nR hn2,rfl⟩)];rfl
 have d2:qs.length=1+(kT ns).length:=by rw[hp.length_eq];unfold mV;rw[kM,iT];unfold kT;omega
 have f1:(F.map fun f=>fJ 2 f.bs.length).sum=((fO ns).map fun k=>fJ 2 (XT (mK F) k)).sum:=by rw[e1 hfr,qU];congr 1;(refine TK bK fun i h1 h2=>?_);(have hi:i<F.length:=by simpa using h1);simp only[WH,ag7,Function.comp];unfold XT mK;rw[lM,kX,gE hi];rfl
 have f2:F.length=(fO ns).length:=by rw[hfr.length_eq,iT,KD]
 have g1:∀ {α:Type} (l:List α),(l.map fun _=>(1:Int)).sum=l.length:=fun l=>MN fun _ _=>rfl
 rw[aiP];unfold DW uF nP;rw[mM,mM,M8,M8,qU,qU,qU,qU];simp only[Function.comp_def];rw[g1,g1,d1,f1,d2,<-f2];simp only[Prod.mk.injEq];refine⟨?_,by rw[ZL];rfl⟩;trivial
end
section
variable {P:Program} {ops:Array Oper} {Q:Exit->Act->World->Prop} {md:Region.Mode} {S:World->Prop} {z l n:Nat}
theorem yH (hno:¬LetsOut Q) (hd:∀(i:Nat) (o:Oper),ops[i]? =some o->∀c,o.op≠ .defer c):∀(f:Nat) (li:Array Bool) (a:Act) (w:World),JI P md ops Q S z f li a w->wpAnyIn (Fence.wide.inRound l) n P md ops Q f li a w
 |0,_,_,_,h=>h
 |f+1,li,a,w,h=>⟨h.1,fun i hi=>by
  have h2:=h.2 i hi;unfold wpOp at h2;unfold wpOpIn;cases ho:ops[i]? with
  |none=>rw[ho]at h2;exact yH hno hd f _ _ _ h2.2
  |some o=>
   rw[ho]at h2;simp only at h2 ⊢;split
   ·rename_i hw;rw[if_pos hw]at h2;rcases h2 with h2|⟨_,h2⟩
    ·exact QL (hd i o ho) (Oper.wp_mono (fun a' w' h'=>yH hno hd f _ a' w' h'.2) h2)
    exact absurd h2 hno
   rename_i hw;rw[if_neg hw]at h2;exact⟨fun _ _=>trivial,yH hno hd f _ _ _ h2.2⟩⟩
theorem TA {id:Nat} {a:Act} {w:World} (z:Nat) (hm:P.follows .mixedOrders=true) (hno:¬LetsOut Q) (hd:∀(i:Nat) (o:Oper),ops[i]? =some o->∀c,o.op≠ .defer c)
  (h:JI P .any ops Q S z ops.size (Array.replicate ops.size false) a w.drew):(Code.region id ops true).wpIn (Fence.wide.inRound l) n P Q a w:=
 wpIn_region_any hm (yH hno hd _ _ _ _ h)
def adE (o:Oper):Bool:=match o.op with| .defer _=>false|_=>true
theorem aq4 (h:ops.all adE=true):∀(i:Nat) (o:Oper),ops[i]? =some o->∀c,o.op≠ .defer c:=fun i o hi c e=>by rw[Array.all_eq_true]at h;obtain⟨hlt,hi2⟩:=Array.getElem?_eq_some_iff.1 hi;have h2:=h i hlt;rw[hi2]at h2;unfold adE at h2;rw[e]at h2;cases h2
end
end Go.Proofs.YtmjomdkleikgbaaGreat
