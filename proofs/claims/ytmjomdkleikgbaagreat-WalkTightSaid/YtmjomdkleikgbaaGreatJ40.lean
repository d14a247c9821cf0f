/- Parts. -/
import Derived.Test.YtmjomdkleikgbaaGreatJ39
set_option linter.unusedVariables false
set_option linter.unusedSimpArgs false
set_option maxRecDepth 100000
set_option maxHeartbeats 20000000
namespace Go.Proofs.YtmjomdkleikgbaaGreat
open Go.RowKit
theorem aw7 {n:Int} (hn:bK n):(FloatKind.f64.decode (fI n)).toInt .zero=some n:=by
 obtain⟨L,hL,h⟩:=yT hn;have h2:FloatKind.f64.decode (fI n)= .number (decide (n<0)) (n.natAbs*2 ^ L) (-(L:Int)):=h;rw[h2];unfold Ieee.Datum.toInt Ieee.Datum.integral;have e1:(-(L:Int)).toNat=0:=by omega
 have e2:(-(-(L:Int))).toNat=L:=by omega
 simp only[e1,e2,Nat.shiftLeft_zero];have e3:Ieee.Toward.zero.cut (decide (n<0)) (n.natAbs*2 ^ L) L=n.natAbs:=by
  have h9:n.natAbs*2 ^ L/2 ^ L=n.natAbs:=Nat.mul_div_cancel _ (JU _);simp only[Ieee.Toward.cut,Bool.toNat_false,tF];rcases xW n.natAbs with h0|h0
  ·rw[h0,LF,Nat.zero_div]
  have h1:2 ^ L<=n.natAbs*2 ^ L:=Nat.le_mul_of_pos_left _ h0;(have h3:n.natAbs*2 ^ L≠0:=by have:=JU L;omega);have h4:=(Nat.le_log2 h3).2 h1;rw[xZ aD,Nat.one_shiftLeft,h9]
 rw[e3];unfold Ieee.signed;rw[Nat.shiftLeft_zero];by_cases h0:n<0
 ·rw[if_pos (decide_eq_true h0)];congr 1;omega
 rw[if_neg (by simpa using h0)];congr 1;omega
theorem f2i {n:Int} (hn:bK n) (w:World):(convert 84 3 (.float .f64 (fI n))).run Tryz.prog w= .ok (.int .i64 n) w:=by
 refine run_convert_float_int w 84 3 .f64 .i64 (fI n) n fH Tryz.underlying3 ?_;unfold floatToIntVal;rw[aw7 hn];have h1:IntKind.min .i64= -9223372036854775808:=by decide
 have h2:IntKind.max .i64=9223372036854775807:=by decide
 have h3:n.natAbs<9007199254740992:=by unfold bK at hn;exact hn
 show(if IntKind.min .i64<=n/\n<=IntKind.max .i64 then some n else none)=some n
 rw[h1,h2,if_pos aD]
theorem XW {n:Int} (h0:0<=n) (h1:n<=4000000) (w:World):Calls Tryz.prog 225 #[.float .f64 (fI n)] w fun e w'=>e= .returned (.bool true)/\w'=w:=by
 have hs:bK n:=by unfold bK;omega
 have c1:(14010698440749613056:Nat)=fI (-1099511627776):=by decide
 have c2:(4787326403894837248:Nat)=fI 1099511627776:=by decide
 have o1:FloatKind.f64.format.order (fI n) 14010698440749613056=some .gt:=by rw[c1];have h:FloatKind.f64.format.order (fI n) (fI (-1099511627776))=some (compare n (-1099511627776)):=AV hs (by unfold bK;omega);rw[h,Int.compare_eq_gt.2 aD]
 have o2:FloatKind.f64.format.order (fI n) 4787326403894837248=some .lt:=by rw[c2];have h:FloatKind.f64.format.order (fI n) (fI 1099511627776)=some (compare n 1099511627776):=AV hs (by unfold bK;omega);rw[h,Int.compare_eq_lt.2 aD]
 have o3:FloatKind.f64.format.order (fI n) (fI n)=some .eq:=by have h:FloatKind.f64.format.order (fI n) (fI n)=some (compare n n):=AV hs hs;rw[h,Int.compare_eq_eq.2 rfl]
 have hf:=f2i hs;have e9:floatOfInt .f64 n=fI n:=rfl;clear c1 c2 hs;obtain⟨x,hx⟩:∃x,x=fI n:=⟨_,rfl⟩;rw[<-hx]at o1 o2 o3 hf e9 ⊢;clear hx h0 h1;go_enter Tryz.func225,Tryz.ntmps225;go_wp2_with fail;go_ret;exact⟨rfl,rfl⟩
def cv (x:Int×Int):Value:=iK x.1 x.2
def jZ (x:Int×Int):Prop:=(0<=x.1/\x.1<=4000000)/\(0<=x.2/\x.2<=4000000)
theorem aiF {l:List (Int×Int)} {v:Value} {w:World} (h:Rd w 1 v l.length (l.map cv)) (hk:∀x∈l,jZ x) (hl:l.length<=2000):Calls Tryz.prog 203 #[v] w fun e w'=>e= .returned (.bool true)/\w'=w:=by
 obtain⟨A,c,rfl,_⟩:=h.shape;have h':=Lh h;have hk':=Lh hk;have b1:(l.length:Int)<=2000:=by omega
 clear h hk;go_enter Tryz.func203,Tryz.ntmps203;go_wp2_with fail;go_loop[7] (fun iv=>∃i:Nat,i<=l.length/\iv=iV i) (fun iv=>l.length-(intOf iv).toNat)
 case atStart=>exact⟨0,gI _,rfl⟩
 obtain⟨i,hi,rfl⟩:=hrel;have c0:(0:Int)<=(i:Int):=by omega
 by_cases hlt:i<l.length
 ·(have c1:(i:Int)<(l.length:Int):=by omega);obtain⟨g,o,cc,e,k1,k2,_,hcell⟩:=h'.out.place aD aV;cases e;have hx:=hcell _ (RowKit.Below.refl _ _) i aD;rw[kV,gE hlt]at hx;simp only[TQ]at hx;obtain⟨⟨p0,p1⟩,q0,q1⟩:=hk'.out _ (nT hlt);(have hw1:=fun W=>XW p0 p1 W);(have hw2:=fun W=>XW q0 q1 W);unfold cv iK at hx;obtain⟨X1,e1⟩:∃X,X=fI l[i].1:=⟨_,rfl⟩;obtain⟨X2,e2⟩:∃X,X=fI l[i].2:=⟨_,rfl⟩;rw[<-e1]at hx hw1;rw[<-e2]at hx hw2;clear e1 e2 p0 p1 q0 q1 hcell;go_wp2_with(first |(go_at_call 225;refine(hw1 _).mono ?_;rintro e w' ⟨rfl,hw'⟩;subst hw';clear hw1)|(go_at_call 225;refine(hw2 _).mono ?_;rintro e w' ⟨rfl,hw'⟩;subst hw';clear hw2))
  trace_state
  exact⟨⟨i+1,by omega,by go_num⟩,by(simp[intOf];omega)⟩
 have c2:¬(i:Int)<(l.length:Int):=by omega
 go_wp2_with fail;go_ret;exact⟨rfl,rfl⟩
theorem aiG (x:Value) (w:World) (t:TypeId) (h1:x.oneCell'=true):Rd (w.alloc (.cells #[x] t)) 1 (sV w.heap.size 1 1) 1 [x]:=⟨rfl,_,_,rfl,iB _,by unfold maxLen;omega,fun _=>⟨_,rfl,by rw[World.size_alloc];exact JQ _,jO w #[x] t _ rfl⟩⟩
theorem aiH {x:Int×Int} (hx:jZ x) (w:World):Calls Tryz.prog 203 #[sV w.heap.size 1 1] (w.alloc (.cells #[cv x] 53)) fun e w'=>e= .returned (.bool true)/\w'=w.alloc (.cells #[cv x] 53):=
 aiF (l:=[x]) (aiG (cv x) w 53 rfl) (fun y hy=>by rw[sW]at hy;rw[hy];exact hx) bL
theorem ae4 {x:Int×Int} (hx:jZ x) (w:World):Calls Tryz.prog 178 #[cv x] w fun e w'=>e= .returned (.tuple #[cv x,iV 0])/\RowKit.Below w.heap.size w w':=by
 have hi:=Lh (aiH hx w);have hb:=Lh ((RowKit.Below.refl w.heap.size w).alloc (iB _) (.cells #[cv x] 53));obtain⟨b,i⟩:=x;have a1:floatBits .add .f64 (fI b) 0=some (fI b):=by have h:=K5 (a:=b) (b:=0) (by have:=hx.1;unfold bK;omega) (by unfold bK;omega) (by have:=hx.1;unfold bK;omega);rw[DT,Int.add_zero]at h;exact h
 have a2:floatBits .add .f64 (fI i) 0=some (fI i):=by have h:=K5 (a:=i) (b:=0) (by have:=hx.2;unfold bK;omega) (by unfold bK;omega) (by have:=hx.2;unfold bK;omega);rw[DT,Int.add_zero]at h;exact h
 unfold cv iK at*;simp only at hi hb ⊢;obtain⟨X1,e1⟩:∃X,X=fI b:=⟨_,rfl⟩;obtain⟨X2,e2⟩:∃X,X=fI i:=⟨_,rfl⟩;rw[<-e1]at a1 hi hb ⊢;rw[<-e2]at a2 hi hb ⊢;clear e1 e2 hx;have r1:=fun W=>run_float_arith (P:=Tryz.prog) W .add 84 .f64 _ _ _ a1
 have r2:=fun W=>run_float_arith (P:=Tryz.prog) W .add 84 .f64 _ _ _ a2
 go_enter Tryz.func178,Tryz.ntmps178;go_wp2_with(go_at_call 203;refine hi.out.mono ?_;rintro e w' ⟨rfl,hw'⟩;subst hw';clear hi);exact bodyPost_ret (v:=.tuple #[.complex .f64 X1 X2,iV 0]) (by simp[results,Tryz.f178,go_sem]) rfl ⟨rfl,hb.out⟩
theorem aA3 {a b:Int} (ha:bK a) (hb:bK b) (ts:Array TypeId) (t:TypeId) (w:World):(Builtin.max_ ts t #[.float .f64 (fI a),.float .f64 (fI b)]).run Tryz.prog w= .ok (.float .f64 (fI (max a b))) w:=by
 have h:FloatKind.f64.format.order (fI a) (fI b)=some (compare a b):=AV ha hb;rcases Int.lt_trichotomy a b with h2|h2|h2
 ·rw[Int.compare_eq_lt.2 h2]at h;rw[Int.max_eq_right aD];simp[Builtin.max_,Builtin.max2,h]
 ·subst h2;rw[Int.compare_eq_eq.2 rfl]at h;rw[Int.max_self];simp[Builtin.max_,Builtin.max2,h]
 rw[Int.compare_eq_gt.2 h2]at h;rw[Int.max_eq_left aD];simp[Builtin.max_,Builtin.max2,h]
theorem XX {a b:Int} (ha:bK a) (hb:bK b) (w:World):Calls Tryz.prog 227 #[.float .f64 (fI a),.float .f64 (fI b)] w fun e w'=>e= .returned (.float .f64 (fI (max a b)))/\w'=w:=by
 have hm:=fun ts t W=>aA3 ha hb ts t W
 obtain⟨X1,e1⟩:∃X,X=fI a:=⟨_,rfl⟩;obtain⟨X2,e2⟩:∃X,X=fI b:=⟨_,rfl⟩;obtain⟨X3,e3⟩:∃X,X=fI (max a b):=⟨_,rfl⟩;rw[<-e1,<-e2,<-e3];simp only[<-e1,<-e2,<-e3]at hm;clear e1 e2 e3 ha hb;go_enter Tryz.func227,Tryz.ntmps227;go_wp2_with fail;go_ret;exact⟨rfl,rfl⟩
theorem aA4 (x y:Value) (w:World) (t:TypeId) (h1:x.oneCell'=true) (h2:y.oneCell'=true):Rd (w.alloc (.cells #[x,y] t)) 1 (sV w.heap.size 2 2) 2 [x,y]:=⟨rfl,_,_,rfl,iB _,by unfold maxLen;omega,fun _=>⟨_,rfl,by rw[World.size_alloc];exact JQ _,jO w #[x,y] t _ rfl⟩⟩
def atI (x y:Int×Int):Int×Int:=(max x.1 y.1,max x.2 y.2)
theorem akN {x y:Int×Int} (hx:jZ x) (hy:jZ y):jZ (atI x y):=by obtain⟨⟨_,_⟩,_,_⟩:=hx;obtain⟨⟨_,_⟩,_,_⟩:=hy;unfold jZ atI;simp only;omega
theorem atJ {x y:Int×Int} (hx:jZ x) (hy:jZ y) (w:World):Calls Tryz.prog 204 #[cv x,cv y] w fun e w'=>e= .returned (.tuple #[cv (atI x y),iV 0])/\RowKit.Below w.heap.size w w':=by
 have hi:Hid (Calls Tryz.prog 203 #[sV w.heap.size 2 2] (w.alloc (.cells #[cv x,cv y] 53)) fun e w'=>e= .returned (.bool true)/\w'=w.alloc (.cells #[cv x,cv y] 53)):=Lh (aiF (l:=[x,y]) (aA4 (cv x) (cv y) w 53 rfl rfl) (fun z hz=>by
  simp only[kC,D8,or_false]at hz;rcases hz with rfl|rfl
  ·exact hx
  exact hy) bL)
 have hb:Hid (RowKit.Below w.heap.size w (w.alloc (.cells #[cv x,cv y] 53))):=Lh ((RowKit.Below.refl w.heap.size w).alloc (iB _) (.cells #[cv x,cv y] 53));have ht:=Lh (ae4 (akN hx hy) (w.alloc (.cells #[cv x,cv y] 53)));have m1:=fun W=>XX (a:=x.1) (b:=y.1) (by have:=hx.1;unfold bK;omega) (by have:=hy.1;unfold bK;omega) W
 have m2:=fun W=>XX (a:=x.2) (b:=y.2) (by have:=hx.2;unfold bK;omega) (by have:=hy.2;unfold bK;omega) W
 clear hx hy;unfold cv iK atI at*;simp only at ht m1 m2 ⊢;obtain⟨X1,e1⟩:∃X,X=fI x.1:=⟨_,rfl⟩;obtain⟨X2,e2⟩:∃X,X=fI x.2:=⟨_,rfl⟩;obtain⟨X3,e3⟩:∃X,X=fI y.1:=⟨_,rfl⟩;obtain⟨X4,e4⟩:∃X,X=fI y.2:=⟨_,rfl⟩;obtain⟨X5,e5⟩:∃X,X=fI (max x.1 y.1):=⟨_,rfl⟩;obtain⟨X6,e6⟩:∃X,X=fI (max x.2 y.2):=⟨_,rfl⟩;simp only[<-e1,<-e2,<-e3,<-e4,<-e5,<-e6]at hi hb ht m1 m2 ⊢;clear e1 e2 e3 e4 e5 e6;have hea:Hid (Calls Tryz.prog 226 #[.complex .f64 X1 X2,.complex .f64 X3 X4,.func (.func 227) #[] #[]] w fun e w'=>e= .returned (.tuple #[.complex .f64 X5 X6,iV 0])/\RowKit.Below w.heap.size w w'):=Lh (by go_enter Tryz.func226,Tryz.ntmps226;go_wp2_with(first |(go_at_call 203;refine hi.out.mono ?_;rintro e w' ⟨rfl,hw'⟩;subst hw';clear hi)|(go_at_call 227;refine(m1 _).mono ?_;rintro e w' ⟨rfl,hw'⟩;subst hw';clear m1)|(go_at_call 227;refine(m2 _).mono ?_;rintro e w' ⟨rfl,hw'⟩;subst hw';clear m2)|(go_at_call 178;refine ht.out.mono ?_;rintro e w' ⟨rfl,hb2⟩;(have hb3:=Lh hb2);clear ht hb2));exact bodyPost_ret (v:=.tuple #[.complex .f64 X5 X6,iV 0]) (by simp[results,Tryz.f226,go_sem]) rfl ⟨rfl,hb.out.trans (hb3.out.mono (by rw[World.size_alloc];exact Nat.le_succ _))⟩);clear hi hb ht m1 m2;go_enter Tryz.func204,Tryz.ntmps204;go_wp2_with(go_at_call 226;refine hea.out.mono ?_;rintro e w' ⟨rfl,hb⟩;(replace hb:=Lh hb);clear hea);exact bodyPost_ret (v:=.tuple #[.complex .f64 X5 X6,iV 0]) (by simp[results,Tryz.f204,go_sem]) rfl ⟨rfl,hb.out⟩
def UU (x y:Int×Int):Int×Int:=(x.1+y.1,x.2+y.2)
theorem aA5 {x y:Int×Int} (hx:jZ x) (hy:jZ y) (hs:jZ (UU x y)) (W:World):(binOp .add 53 (cv x) (cv y)).run Tryz.prog W= .ok (cv (UU x y)) W:=by have a1:=K5 (a:=x.1) (b:=y.1) (by have:=hx.1;unfold bK;omega) (by have:=hy.1;unfold bK;omega) (by have:=hs.1;unfold UU at this;simp only at this;unfold bK;omega);have a2:=K5 (a:=x.2) (b:=y.2) (by have:=hx.2;unfold bK;omega) (by have:=hy.2;unfold bK;omega) (by have:=hs.2;unfold UU at this;simp only at this;unfold bK;omega);refine run_complex_sum W .add (.inl rfl) 53 .f64 _ _ _ _ _ _ ?_;unfold cSumBits;rw[a1,a2];rfl
def zW (l:List (Int×Int)):Int×Int:=l.foldl UU (0,0)
theorem an6 (l:List (Int×Int)) (x:Int×Int):zW (l++[x])=UU (zW l) x:=by unfold zW;rw[OC];rfl
theorem akO :jZ (0,0):=⟨⟨by decide,by decide⟩,by decide,by decide⟩
theorem aaN :cv (0,0)= .complex .f64 0 0:=by unfold cv iK;rw[DT]
theorem aw8 {l:List (Int×Int)} {v:Value} {w:World} (h:Rd w 1 v l.length (l.map cv)) (hk:∀x∈l,jZ x) (hl:l.length<=1000) (hs:∀i,jZ (zW (l.take i))):
  Calls Tryz.prog 177 #[.complex .f64 0 0,v] w fun e w'=>∃pk,jZ pk/\e= .returned (.tuple #[cv (zW l),cv pk,iV 0])/\RowKit.Below w.heap.size w w':=by
 obtain⟨A,c,rfl,_⟩:=h.shape;have h':=Lh h;have hk':=Lh hk;have hs':=Lh hs;have hi0:=Lh (aiH akO w);rw[aaN]at hi0;have hb0:=(RowKit.Below.refl w.heap.size w).alloc (iB _) (.cells #[.complex .f64 0 0] 53);have hi1:=Lh (aiF (h.below hb0) hk aD);have JD:=Lh hb0;have b1:(l.length:Int)<=1024:=by omega
 clear h hk hb0 hs;go_enter Tryz.func177,Tryz.ntmps177;go_wp2_with(first |(go_at_call 203;refine hi0.out.mono ?_;rintro e w' ⟨rfl,hw'⟩;subst hw';clear hi0)|(go_at_call 203;refine hi1.out.mono ?_;rintro e w' ⟨rfl,hw'⟩;subst hw';clear hi1));go_loopw[4,5,26] (fun v4 v5 iv wr=>∃(i:Nat) (pk:Int×Int),i<=l.length/\iv=iV i/\v4=cv (zW (l.take i))/\v5=cv pk/\Hid (jZ pk)/\Hid (RowKit.Below w.heap.size w wr)) (fun _ _ iv _=>l.length-(intOf iv).toNat)
 case atStart=>exact⟨0,(0,0),gI _,rfl,aaN.symm,aaN.symm,Lh akO,JD⟩
 obtain⟨i,pk,hi,rfl,rfl,rfl,hpk,hbw⟩:=hrel;have c0:(0:Int)<=(i:Int):=by omega
 by_cases hlt:i<l.length
 ·(have c1:(i:Int)<(l.length:Int):=by omega);obtain⟨g,o,cc,e,k1,k2,_,hcell⟩:=h'.out.place aD aV;cases e;have hx:=hcell _ hbw.out i aD;rw[kV,gE hlt]at hx;simp only[TQ]at hx;(have htk:l.take (i+1)=l.take i++[l[i]]:=by rw[pE,gE hlt];rfl);have hs1:=hs'.out i;have hs2:=hs'.out (i+1);have hsx:=congrArg zW htk;rw[an6]at hsx;have hnx:Hid (cv (UU (zW (l.take i)) l[i])=cv (zW (l.take (i+1)))):=Lh (by rw[hsx]);rw[hsx]at hs2;(have hadd:=fun W=>aA5 hs1 (hk'.out _ (nT hlt)) hs2 W);obtain⟨x,hxe⟩:∃x,x=l[i]:=⟨_,rfl⟩;rw[<-hxe]at hx hs2 hadd hnx;clear hxe htk hsx;obtain⟨s0,hs0⟩:∃s0,s0=zW (l.take i):=⟨_,rfl⟩;rw[<-hs0]at hs1 hs2 hadd hnx ⊢;clear hs0;obtain⟨s1,hse⟩:∃s1,s1=UU s0 x:=⟨_,rfl⟩;rw[<-hse]at hs2 hadd hnx;clear hse hs1;have hi1:=Lh (aiH hs2 wr);have hb1:=(RowKit.Below.refl wr.heap.size wr).alloc (iB _) (.cells #[cv s1] 53);have hmo:=Lh (atJ hpk.out hs2 (wr.alloc (.cells #[cv s1] 53)));have ao8:=Lh (akN hpk.out hs2);have hb2:=Lh (hbw.out.trans (hb1.mono hbw.out.size));obtain⟨pk2,hpe⟩:∃q,q=atI pk s1:=⟨_,rfl⟩;rw[<-hpe]at hmo ao8;clear hpe hb1 hs2 hcell;(have hle:w.heap.size<=(wr.alloc (.cells #[cv s1] 53)).heap.size:=by rw[World.size_alloc];have:=hbw.out.size;omega);unfold cv iK at*;go_wp2_with(first |(go_at_call 203;refine hi1.out.mono ?_;rintro e w' ⟨rfl,hw'⟩;subst hw';clear hi1)|(go_at_call 204;refine hmo.out.mono ?_;rintro e w5 ⟨rfl,hb5⟩;(replace hb5:=Lh (hb2.out.trans (hb5.mono hle)));clear hmo));exact⟨⟨i+1,pk2,by omega,by go_num,hnx.out,rfl,ao8,hb5⟩,by(simp[intOf];omega)⟩
 have c2:¬(i:Int)<(l.length:Int):=by omega
 go_wp2_with fail;rw[qH aD];exact bodyPost_ret (v:=.tuple #[cv (zW l),cv pk,iV 0]) (by simp[results,Tryz.f177,go_sem]) rfl ⟨pk.1,pk.2,hpk.out,rfl,hbw.out⟩
theorem aw9 {l:List (Int×Int)} {v:Value} {w:World} (h:Rd w 1 v l.length (l.map cv)) (hk:∀x∈l,jZ x) (hl:l.length<=1000) (hs:∀i,jZ (zW (l.take i))):
  Calls Tryz.prog 113 #[v] w fun e w'=>e= .returned (.tuple #[cv (zW l),iV 0])/\RowKit.Below w.heap.size w w':=by
 have hr:=Lh (aw8 h hk hl hs);have hs1:=hs l.length;rw[NY]at hs1;have ht:=fun W=>ae4 hs1 W
 clear h hk hs hs1;obtain⟨s0,hs0⟩:∃s0,s0=cv (zW l):=⟨_,rfl⟩;rw[<-hs0]at hr ht ⊢;clear hs0;go_enter Tryz.func113,Tryz.ntmps113;go_wp2_with(first |(go_at_call 177;refine hr.out.mono ?_;rintro e w1 ⟨pk,_,rfl,hb⟩;(replace hb:=Lh hb);clear hr)|(go_at_call 178;refine(ht _).mono ?_;rintro e w2 ⟨rfl,hb2⟩;(replace hb2:=Lh hb2);clear ht));exact bodyPost_ret (v:=.tuple #[s0,iV 0]) (by simp[results,Tryz.f113,go_sem]) rfl ⟨rfl,hb.out.trans (hb2.out.mono hb.out.size)⟩
theorem akP :fI 1=4607182418800017408:=by decide
theorem SQ {n b:Nat} (hn:n<=1000000) (hb:0<b) (hb2:b<=1000) (w:World):Calls Tryz.prog 176 #[iV n,iV b] w fun e w'=>e= .returned (iV ((n+b-1)/b:Nat))/\w'=w:=by
 have h1:(n:Int)<=1000000:=by omega
 have h2:(0:Int)<b:=by omega
 have h3:(b:Int)<=1000:=by omega
 have h4:(0:Int)<=n:=by omega
 have h5:((b:Int)==0)=false:=by rw[jM];omega
 go_enter Tryz.func176,Tryz.ntmps176;go_wp2_with fail;go_ret;refine⟨?_,rfl⟩;have e:(((n+b-1)/b:Nat):Int)=((n:Int)+b-1)/b:=by rw[Int.natCast_ediv,Int.natCast_sub aD];rfl
 rw[e];rfl
theorem Z23 {P:Prop} (h:P:=by go_wp2_with(go_at_call 176;refine hp.mono ?_;rintro e w' ⟨rfl,hw'⟩;subst hw';clear hp);go_ret;exact⟨rfl,rfl⟩):P:=h
theorem atK {k:Nat} (hk:k<=1000) (w:World):Calls Tryz.prog 111 #[iV k] w fun e w'=>e= .returned (cv (eD 1 k,1))/\w'=w:=by
 have hp:=SQ (n:=k) (b:=16) aD aV aV w;have h9:eD 1 k=max 1 (((k+16-1)/16:Nat):Int):=by unfold eD;rw[if_pos rfl,show k+16-1=k+15 by omega]
 obtain⟨q,hq⟩:∃q:Nat,q=(k+16-1)/16:=⟨_,rfl⟩;rw[<-hq]at hp h9;unfold cv iK;simp only;rw[h9,akP];have e9:∀n:Int,floatOfInt .f64 n=fI n:=fun _=>rfl
 clear h9 hq hk;go_enter Tryz.func111,Tryz.ntmps111;exact Z23
theorem an7 {k:Nat} (hk:k<=100000) (w:World):Calls Tryz.prog 112 #[iV k] w fun e w'=>e= .returned (cv (eD 2 k,1))/\w'=w:=by
 have hp:=SQ (n:=k) (b:=512) aD aV aV w;have h9:eD 2 k=if 8<(k+512-1)/512 then(((k+512-1)/512:Nat):Int)+1 else(((k+512-1)/512:Nat):Int):=by unfold eD;rw[if_neg aV,if_pos rfl,show k+512-1=k+511 by omega]
 obtain⟨q,hq⟩:∃q:Nat,q=(k+512-1)/512:=⟨_,rfl⟩;have hqb:q<=1000:=by omega
 rw[<-hq]at hp h9;unfold cv iK;simp only;rw[h9,akP];have e9:∀n:Int,floatOfInt .f64 n=fI n:=fun _=>rfl
 clear h9 hq hk;have c0:(0:Int)<=q:=by omega
 have c1:(q:Int)<=1000:=by omega
 by_cases h8:8<q
 ·(have c8:(8:Int)<q:=by omega);rw[if_pos h8];go_enter Tryz.func112,Tryz.ntmps112;exact Z23
 have c8:¬(8:Int)<q:=by omega
 rw[if_neg h8];go_enter Tryz.func112,Tryz.ntmps112;exact Z23
theorem XY :∀(l:List (Int×Int)) (a:Int×Int),l.foldl UU a=(a.1+(l.map Prod.fst).sum,a.2+(l.map Prod.snd).sum)
 |[],a=>by simp
 |x::l,a=>by rw[List.foldl_cons,XY l];simp only[UU,jS,qI,Prod.mk.injEq];omega
theorem akQ (l:List (Int×Int)):zW l=((l.map Prod.fst).sum,(l.map Prod.snd).sum):=by unfold zW;rw[XY];simp
theorem F6 {c:Int}:∀ {l:List Int},(∀x∈l,0<=x/\x<=c)->0<=l.sum/\l.sum<=c*(l.length:Int)
 |[],_=>by simp
 |a::l,h=>by(have h1:=F6 fun x hx=>h x (vK _ hx));have h2:=h a nE;rw[qI,kR,U5,Int.mul_add];omega
theorem atL {a b:List Int} (h:a.Perm b):a.sum=b.sum:=by
 induction h with
 |nil=>rfl
 |cons x _ ih=>rw[qI,qI,ih]
 |swap x y l=>simp only[qI];omega
 |trans _ _ ih1 ih2=>rw[ih1,ih2]
def CO (ns:List TN) (qs:List (List UInt8)) (F:List TF):List (Int×Int):=(qs.map fun q=>(eD 1 (nJ ns q),1))++F.map fun f=>(eD 2 f.bs.length,1)
section
variable {ns:List TN} {F:List TF} {qs:List (List UInt8)}
theorem ae5 (hn:ns.length<=256) (hf:∀f∈F,f.size<=8192):∀x∈CO ns qs F,(0<=x.1/\x.1<=4100)/\x.2=1:=fun x hx=>by
 rcases iN.1 hx with hx|hx
 ·obtain⟨q,_,rfl⟩:=List.mem_map.1 hx;have h1:nJ ns q<=ns.length:=NV ..;exact⟨NS (kind:=1) (size:=nJ ns q) aD,rfl⟩
 obtain⟨f,h1,rfl⟩:=List.mem_map.1 hx;have h2:=hf f h1;exact⟨NS (kind:=2) (size:=f.bs.length) (by unfold TF.size at h2;omega),rfl⟩
theorem ae6 :(CO ns qs F).length=qs.length+F.length:=by unfold CO;rw[jL,iM,iM]
theorem axA (hn:ns.length<=256) (hf:∀f∈F,f.size<=8192):∀x∈CO ns qs F,jZ x:=fun x hx=>by have h:=ae5 hn hf x hx;unfold jZ;omega
theorem ae7 (hn:ns.length<=256) (hf:∀f∈F,f.size<=8192) (hl:qs.length+F.length<=600) (i:Nat):jZ (zW ((CO ns qs F).take i)):=by
 have h:=fun x hx=>ae5 (qs:=qs) hn hf x (zX (i:=i) hx)
 have hlen:((CO ns qs F).take i).length<=600:=by rw[qL,ae6];omega
 have h1:=F6 (c:=4100) (l:=((CO ns qs F).take i).map Prod.fst) fun x hx=>by obtain⟨y,hy,rfl⟩:=List.mem_map.1 hx;exact(h y hy).1
 have h2:=F6 (c:=1) (l:=((CO ns qs F).take i).map Prod.snd) fun x hx=>by obtain⟨y,hy,rfl⟩:=List.mem_map.1 hx;have:=(h y hy).2;omega
 rw[iM]at h1 h2;rw[akQ];unfold jZ;simp only;omega
theorem axB {p:List UInt8} (hv:aU p=true):(aW p=[]/\(splitB p).dropLast=[])\/(aW p≠[]/\(splitB p).dropLast=splitB (aW p)):=by
 rcases kM p with⟨_,h2,h1⟩|⟨a,b,e,_,h2,h1⟩
 ·left;refine⟨?_,by rw[h1];rfl⟩;unfold aW;rw[if_pos hv,h2];rfl
 right;have hp:aW p=a:=by unfold aW;rw[if_pos hv,h2,e,U6];rfl
 rw[hp,h1,TK];refine⟨fun e=>?_,rfl⟩;subst e;have hv2:MW p=true:=by rw[uZ];exact hv
 unfold MW at hv2;simp only[sJ]at hv2;have hm:([]:List UInt8)∈splitB p:=by rw[h1];exact vN _ (by simp[splitB])
 have:=List.all_eq_true.1 hv2.2.2 _ hm;unfold iL at this;simp at this
theorem ae8 (hv:∀n∈ns,aU n.path=true) {q:List UInt8} {K:Key} (h:(q=[]/\K=[])\/(q≠[]/\K=splitB q)):nJ ns q=dM ns K:=by
 unfold nJ dM eX;congr 1;apply List.filter_congr;intro n hn;unfold bD;rcases axB (hv n hn)with⟨h1,h2⟩|⟨h1,h2⟩<;>rcases h with⟨rfl,rfl⟩|⟨h3,rfl⟩
 ·rw[h1,h2];rfl
 ·rw[h1,h2];rw[decide_eq_false (fun e=>h3 e.symm),eq_comm,jM];exact fun e=>gK q e.symm
 ·rw[h2,decide_eq_false h1,eq_comm,jM];exact gK _
 rw[h2];by_cases e:aW n.path=q
 ·rw[e,decide_eq_true rfl,eq_comm,beq_self_eq_true]
 rw[decide_eq_false e,eq_comm,jM];exact fun e2=>e (rH _ (iB _) e2)
theorem ae9 (ho:fT ns F):(fD ns).Perm ((List.range F.length).map fun(v:Nat)=>(v:Int)):=by
 have hi:=XF ho ns.length (iB _) _ ho.run;rw[NY]at hi;rw[<-hi];have hnd:(fA ns).Nodup:=by rw[hi,List.Nodup,GJ];exact List.nodup_range.imp fun {a b} h e=>h aD
 rw[ai1 (lU ns) hnd];intro k;rw[jE];constructor
 ·rintro⟨h1,n,hn,rfl⟩;have:=(ho.mem hn).2;exact nC _ n hn aD
 intro hk;obtain⟨n,hn,h1,h2⟩:=yQ _ k hk;exact⟨by omega,n,hn,h1⟩
theorem afA (ho:fT ns F) (hp:qs.Perm (mH ns)):zW (CO ns qs F)=(lJ ns (jJ F),jY ns):=by
 have hv:∀n∈ns,aU n.path=true:=fun n hn=>(ho.mem hn).1
 have hfr:=ae9 ho;have e1:∀ {α:Type} {f:α->Int} {a b:List α},a.Perm b->(a.map f).sum=(b.map f).sum:=fun h=>atL (h.map _)
 have d1:(qs.map fun q=>eD 1 (nJ ns q)).sum=eD 1 (dM ns [])+((jK ns).map fun n=>eD 1 (dM ns (bD n))).sum:=by rw[e1 hp];unfold mH;rw[jS,qI,qJ,ae8 hv (.inl ⟨rfl,rfl⟩)];congr 2;apply uH;intro n hn;have hn2:=hv n (List.mem_filter.1 hn).1;(show eD 1 (nJ ns n.path)=_);rw[ae8 hv (.inr ⟨nD hn2,rfl⟩)];rfl
 have d2:qs.length=1+(jK ns).length:=by rw[hp.length_eq];unfold mH;rw[kR,iM];unfold jK;omega
 have f1:(F.map fun f=>eD 2 f.bs.length).sum=((fD ns).map fun k=>eD 2 (IQ (jJ F) k)).sum:=by rw[e1 hfr,qJ];congr 1;(refine U3 bL fun i h1 h2=>?_);(have hi:i<F.length:=by simpa using h1);simp only[GM,ai8,Function.comp];unfold IQ jJ;rw[mW,kV,gE hi];rfl
 have f2:F.length=(fD ns).length:=by rw[hfr.length_eq,iM,K9]
 have g1:∀ {α:Type} (l:List α),(l.map fun _=>(1:Int)).sum=l.length:=fun l=>IU fun _ _=>rfl
 rw[akQ];unfold CO lJ jY;rw[mV,mV,LC,LC,qJ,qJ,qJ,qJ];simp only[Function.comp_def];rw[g1,g1,d1,f1,d2,<-f2];simp only[Prod.mk.injEq];refine⟨?_,by rw[U5];rfl⟩;trivial
end
section
variable {P:Program} {ops:Array Oper} {Q:Exit->Act->World->Prop} {md:Region.Mode} {S:World->Prop} {z l n:Nat}
theorem yU (hno:¬LetsOut Q) (hd:∀(i:Nat) (o:Oper),ops[i]? =some o->∀c,o.op≠ .defer c):∀(f:Nat) (li:Array Bool) (a:Act) (w:World),J8 P md ops Q S z f li a w->wpAnyIn (Fence.wide.inRound l) n P md ops Q f li a w
 |0,_,_,_,h=>h
 |f+1,li,a,w,h=>⟨h.1,fun i hi=>by
  have h2:=h.2 i hi;unfold wpOp at h2;unfold wpOpIn;cases ho:ops[i]? with
  |none=>rw[ho]at h2;exact yU hno hd f _ _ _ h2.2
  |some o=>
   rw[ho]at h2;simp only at h2 ⊢;split
   ·rename_i hw;rw[if_pos hw]at h2;rcases h2 with h2|⟨_,h2⟩
    ·exact RX (hd i o ho) (Oper.wp_mono (fun a' w' h'=>yU hno hd f _ a' w' h'.2) h2)
    exact absurd h2 hno
   rename_i hw;rw[if_neg hw]at h2;exact⟨fun _ _=>trivial,yU hno hd f _ _ _ h2.2⟩⟩
theorem UW {id:Nat} {a:Act} {w:World} (z:Nat) (hm:P.follows .mixedOrders=true) (hno:¬LetsOut Q) (hd:∀(i:Nat) (o:Oper),ops[i]? =some o->∀c,o.op≠ .defer c)
  (h:J8 P .any ops Q S z ops.size (Array.replicate ops.size false) a w.drew):(Code.region id ops true).wpIn (Fence.wide.inRound l) n P Q a w:=
 wpIn_region_any hm (yU hno hd _ _ _ _ h)
def afB (o:Oper):Bool:=match o.op with| .defer _=>false|_=>true
theorem atM (h:ops.all afB=true):∀(i:Nat) (o:Oper),ops[i]? =some o->∀c,o.op≠ .defer c:=fun i o hi c e=>by rw[Array.all_eq_true]at h;obtain⟨hlt,hi2⟩:=Array.getElem?_eq_some_iff.1 hi;have h2:=h i hlt;rw[hi2]at h2;unfold afB at h2;rw[e]at h2;cases h2
end
end Go.Proofs.YtmjomdkleikgbaaGreat
