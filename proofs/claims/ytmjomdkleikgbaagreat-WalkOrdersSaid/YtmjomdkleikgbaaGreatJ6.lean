/- Parts. -/
import Derived.Test.YtmjomdkleikgbaaGreatJ5
import Derived.Laws.FloatArith
import Derived.Laws.ComplexArith
set_option linter.unusedVariables false
set_option linter.unusedSimpArgs false
set_option maxRecDepth 100000
set_option maxHeartbeats 20000000
namespace Go.Proofs.YtmjomdkleikgbaaGreat
open Ieee
theorem V9 (neg:Bool) (q d:Nat) (hq:0<q):Toward.even.cut neg (q*2 ^ d) d=q:=by
 have hl:d<=(q*2 ^ d).log2:=by rw[Nat.le_log2 (D5 (TS hq (I5 d)))];exact Nat.le_mul_of_pos_left _ hq
 unfold Toward.cut;have hm:min d ((q*2 ^ d).log2+2)=d:=by omega
 simp only[hm,Nat.one_shiftLeft];rw[Nat.mul_div_cancel _ (I5 d),Nat.mul_mod_left];have:=I5 d;simp
theorem agU {m:Nat} (hm:0<m) (k:Nat):(m*2 ^ k).log2=m.log2+k:=by
 have h1:m*2 ^ k≠0:=D5 (TS hm (I5 k));apply Nat.le_antisymm
 ·(have h2:(m*2 ^ k).log2<m.log2+k+1:=by rw[TT h1];have:=(TT (k:=m.log2+1) (D5 hm)).1 (IX _);(have e:2 ^ (m.log2+k+1)=2 ^ (m.log2+1)*2 ^ k:=by rw[<-KH];congr 1;omega);rw[e];exact am2 this (I5 k));omega
 rw[Nat.le_log2 h1,KH];exact ZE _ ((Nat.le_log2 (D5 hm)).1 (iU _))
def lack (m:Nat):Nat:=52-m.log2
theorem FC (neg:Bool) (m k:Nat) (hm:0<m) (h53:m<2 ^ 53) (hk:k<=1074):double.nearest neg (m*2 ^ k) (-(k:Int))=double.word neg (((1074-lack m:Nat))*2 ^ 52+m*2 ^ lack m):=by
 have hl:m.log2<=52:=by have:=(TT (k:=53) (D5 hm)).2 h53;omega
 unfold Format.nearest;rw[if_neg (D5 (TS hm (I5 k))),agU hm];have e1:double.leastPlace= -1074:=by decide
 have e2:double.fractionBits=52:=rfl;have e3:double.binade=2 ^ 52:=rfl;have e4:double.infRung=2047*2 ^ 52:=by decide
 rw[e1,e2,e3,e4];have hlast:max (-(k:Int)+((m.log2+k:Nat):Int)-(52:Nat)) (-1074)= -((lack m:Nat):Int):=by unfold lack;omega
 rw[hlast];dsimp only;have hL:lack m<=52:=by unfold lack;omega
 have ht:(-((lack m:Nat):Int)- -1074).toNat=1074-lack m:=by omega
 rw[ht];have hkept:Toward.even.cut neg ((m*2 ^ k)<<<(-(k:Int)- -((lack m:Nat):Int)).toNat) (-((lack m:Nat):Int)- -(k:Int)).toNat=m*2 ^ lack m:=by
  rcases Nat.le_total k (lack m)with h|h
  ·(have a1:(-(k:Int)- -((lack m:Nat):Int)).toNat=lack m-k:=by omega);(have a2:(-((lack m:Nat):Int)- -(k:Int)).toNat=0:=by omega);rw[a1,a2,Nat.shiftLeft_eq];(have e:m*2 ^ k*2 ^ (lack m-k)=m*2 ^ lack m:=by rw[Nat.mul_assoc,<-KH];congr 2;omega);rw[e];have:=V9 neg (m*2 ^ lack m) 0 (TS hm (I5 _));simpa using this
  (have a1:(-(k:Int)- -((lack m:Nat):Int)).toNat=0:=by omega);(have a2:(-((lack m:Nat):Int)- -(k:Int)).toNat=k-lack m:=by omega);rw[a1,a2,Nat.shiftLeft_zero];(have e:m*2 ^ k=m*2 ^ lack m*2 ^ (k-lack m):=by rw[Nat.mul_assoc,<-KH];congr 2;omega);rw[e];exact V9 neg _ _ (TS hm (I5 _))
 rw[hkept];have hb:m*2 ^ lack m<2 ^ 53:=by
  have h1:=(TT (k:=m.log2+1) (D5 hm)).1 (IX _);have h2:m*2 ^ lack m<2 ^ (m.log2+1)*2 ^ lack m:=am2 h1 (I5 _);rw[<-KH]at h2;have e:m.log2+1+lack m=53:=by unfold lack;omega
  rwa [e]at h2
 rw[I4 aI]
def fI (n:Int):Nat:=FloatKind.nearest .f64 n
theorem awL (n:Int):fI n=double.nearest (decide (n<0)) n.natAbs 0:=rfl
theorem CU :fI 0=0:=by decide
def bM (n:Int):Prop:=n.natAbs<2 ^ 53
theorem arR {n:Int} (hn:bM n) {k:Nat} (hk:k<=1074):double.nearest (decide (n<0)) (n.natAbs*2 ^ k) (-(k:Int))=fI n:=by
 rw[awL];rcases xN n.natAbs with h0|h0
 ·rw[h0,TP];simp[Format.nearest]
 rw[FC _ _ _ h0 hn hk];have:=FC (decide (n<0)) n.natAbs 0 h0 hn aR;rw[<-this];simp
theorem amG (L:Nat) (h:L=1074):double.read (fI 0)= .number (decide ((0:Int)<0)) ((0:Int).natAbs*2 ^ L) (-(L:Int)):=by rw[Int.natAbs_zero,TP,CU,h];decide
theorem Z31 {P:Prop} (h:P:=by
 rw[if_neg aI,if_pos aI];have z1:2 ^ 52+(q-2 ^ 52)=q:=by omega
 have z2:(-1074:Int)+((1074-L+1-1:Nat):Int)= -(L:Int):=by omega
 rw[z1,z2];rfl):P:=h
theorem yG {n:Int} (hn:bM n):∃L:Nat,L<=1074/\double.read (fI n)= .number (decide (n<0)) (n.natAbs*2 ^ L) (-(L:Int)):=by
 rcases xN n.natAbs with h0|h0
 ·(have:n=0:=by omega);subst this;obtain⟨L,hL⟩:∃L,L=1074:=⟨_,rfl⟩;exact⟨L,by omega,amG L hL⟩
 have hl:n.natAbs.log2<=52:=by have:=(TT (k:=53) (D5 h0)).2 hn;omega
 refine⟨lack n.natAbs,by unfold lack;omega,?_⟩;have e:=FC (decide (n<0)) n.natAbs 0 h0 hn aR;have e0:fI n=double.word (decide (n<0)) (((1074-lack n.natAbs:Nat))*2 ^ 52+n.natAbs*2 ^ lack n.natAbs):=by rw[awL,<-e];simp
 have hb1:n.natAbs*2 ^ lack n.natAbs<2 ^ 53:=by
  have h1:=(TT (k:=n.natAbs.log2+1) (D5 h0)).1 (IX _);have h2:n.natAbs*2 ^ lack n.natAbs<2 ^ (n.natAbs.log2+1)*2 ^ lack n.natAbs:=am2 h1 (I5 _);rw[<-KH]at h2;have e:n.natAbs.log2+1+lack n.natAbs=53:=by unfold lack;omega
  rwa [e]at h2
 have hb2:2 ^ 52<=n.natAbs*2 ^ lack n.natAbs:=by
  have h1:=(Nat.le_log2 (k:=n.natAbs.log2) (D5 h0)).1 (iU _);have h2:2 ^ n.natAbs.log2*2 ^ lack n.natAbs<=n.natAbs*2 ^ lack n.natAbs:=ZE _ h1;rw[<-KH]at h2;have e:n.natAbs.log2+lack n.natAbs=52:=by unfold lack;omega
  rwa [e]at h2
 have hlk:lack n.natAbs<=52:=by unfold lack;omega
 rw[e0];generalize n.natAbs*2 ^ lack n.natAbs=q at hb1 hb2 ⊢;generalize lack n.natAbs=L at hlk ⊢;have hr:(1074-L)*2 ^ 52+q<2 ^ 63:=by omega
 have hd:((1074-L)*2 ^ 52+q)/2 ^ 52=1074-L+1:=by omega
 have hm:((1074-L)*2 ^ 52+q)%2 ^ 52=q-2 ^ 52:=by omega
 have e1:double.leastPlace= -1074:=by decide
 have e3:double.binade=2 ^ 52:=rfl;have e4:double.infRung=2047*2 ^ 52:=by decide
 have e5:double.signWeight=2 ^ 63:=rfl;unfold Format.read Format.word;rw[e1,e3,e4,e5];cases decide (n<0)with
 |false=>(have a1:((1074-L)*2 ^ 52+q)/2 ^ 63%2=0:=by omega);have a2:((1074-L)*2 ^ 52+q)%2 ^ 63=(1074-L)*2 ^ 52+q:=Nat.mod_eq_of_lt hr;simp only[IV,if_false,a1,a2,hd,hm];exact Z31
 |true=>(have a1:(2 ^ 63+((1074-L)*2 ^ 52+q))/2 ^ 63%2=1:=by omega);(have a2:(2 ^ 63+((1074-L)*2 ^ 52+q))%2 ^ 63=(1074-L)*2 ^ 52+q:=by omega);simp only[if_true,a1,a2,hd,hm];exact Z31
theorem sW (n:Int) (L K:Nat) (h:L<=K):signed (decide (n<0)) (n.natAbs*2 ^ L) (-(L:Int)- -(K:Int)).toNat=n*2 ^ K:=by
 have e:(-(L:Int)- -(K:Int)).toNat=K-L:=by omega
 rw[e];unfold signed;rw[Nat.shiftLeft_eq,Nat.mul_assoc,<-KH,Nat.add_sub_cancel' h];have hc:((n.natAbs*2 ^ K:Nat):Int)=(n.natAbs:Int)*2 ^ K:=by simp
 rw[hc];by_cases h0:n<0
 ·rw[if_pos (by simpa using h0)];(have:(n.natAbs:Int)= -n:=by omega);rw[this,Int.neg_mul,Int.neg_neg]
 rw[if_neg (by simpa using h0)];have:(n.natAbs:Int)=n:=by omega
 rw[this]
theorem YR (a b:Nat):min (-(a:Int)) (-(b:Int))= -((max a b:Nat):Int):=by omega
theorem agV (s:Bool) (m u:Nat):signed (!s) m u= -(signed s m u):=by unfold signed;cases s<;>simp
theorem K9 (K:Nat):(0:Int)<2 ^ K:=by
 have:=I5 K;have e:((2 ^ K:Nat):Int)=2 ^ K:=by simp
 omega
theorem Q5 {a b:Int} {K:Nat} (hs:bM (a+b)) (hK:K<=1074) (z:Bool) (hz:a+b=0->z=false):
  double.write (.number (if a*2 ^ K+b*2 ^ K=0 then z else decide (a*2 ^ K+b*2 ^ K<0)) (a*2 ^ K+b*2 ^ K).natAbs (-(K:Int)))=fI (a+b):=by
 rw[<-Int.add_mul];have hp:=K9 K;have hna:((a+b)*2 ^ K).natAbs=(a+b).natAbs*2 ^ K:=by rw[Int.natAbs_mul,Int.natAbs_pow];rfl
 rw[hna];have hneg:(if(a+b)*2 ^ K=0 then z else decide ((a+b)*2 ^ K<0))=decide (a+b<0):=by
  by_cases h0:a+b=0
  ·rw[h0,Int.zero_mul,if_pos rfl,hz h0];rfl
  have h1:(a+b)*2 ^ K≠0:=Int.mul_ne_zero h0 aI;rw[if_neg h1];apply decide_eq_decide.2;constructor
  ·intro h;rw[Int.mul_comm]at h;exact Int.neg_of_mul_neg_right h aI
  intro h;exact Int.mul_neg_of_neg_of_pos h hp
 rw[hneg];exact arR hs hK
theorem J6 {a b:Int} (ha:bM a) (hb:bM b) (hs:bM (a+b)):floatBits .add .f64 (fI a) (fI b)=some (fI (a+b)):=by
 obtain⟨L,hL,ra⟩:=yG ha;obtain⟨M,hM,rb⟩:=yG hb;show double.add (fI a) (fI b)=_
 unfold Format.add;rw[ra,rb];unfold Datum.sum;simp only[YR,RL];rw[sW a L _ (Nat.le_max_left _ _),sW b M _ (Nat.le_max_right _ _)];congr 1;refine Q5 hs aI _ fun h=>?_
 by_cases h1:a<0
 ·(have:¬b<0:=by omega);simp[this]
 simp[h1]
theorem arS {a b:Int} (ha:bM a) (hb:bM b) (hs:bM (a-b)):floatBits .sub .f64 (fI a) (fI b)=some (fI (a-b)):=by
 obtain⟨L,hL,ra⟩:=yG ha;obtain⟨M,hM,rb⟩:=yG hb;show double.sub (fI a) (fI b)=_
 unfold Format.sub;rw[ra,rb];unfold Datum.opposite Datum.sum;simp only[YR,RL];rw[agV,sW a L _ (Nat.le_max_left _ _),sW b M _ (Nat.le_max_right _ _)];congr 1;rw[<-Int.neg_mul];refine Q5 (b:= -b) (by simpa[Int.sub_eq_add_neg]using hs) aI _ fun h=>?_
 by_cases h1:a<0
 ·(have:b<0:=by omega);simp[this]
 simp[h1]
theorem zX {a b:Int} (ha:bM a) (hb:bM b):double.order (fI a) (fI b)=some (compare a b):=by
 obtain⟨L,hL,ra⟩:=yG ha;obtain⟨M,hM,rb⟩:=yG hb;unfold Format.order;rw[ra,rb];unfold Datum.order;simp only[YR];rw[sW a L _ (Nat.le_max_left _ _),sW b M _ (Nat.le_max_right _ _)];congr 1;have hp:=K9 (max L M);rcases Int.lt_trichotomy a b with h|h|h
 ·rw[Int.compare_eq_lt.2 h,Int.compare_eq_lt];exact Int.mul_lt_mul_of_pos_right h hp
 ·subst h;rw[Int.compare_eq_eq.2 rfl];exact(Int.compare_eq_eq.2 rfl).symm
 rw[Int.compare_eq_gt.2 h,Int.compare_eq_gt];exact Int.mul_lt_mul_of_pos_right h hp
end Go.Proofs.YtmjomdkleikgbaaGreat
namespace Go.Proofs.YtmjomdkleikgbaaGreat
def jC (b i:Int):Value:=.complex .f64 (fI b) (fI i)
open Go.RowKit
abbrev BM :=List (Nat×Value×List UInt8)
def FY (n:Nat):Lit:=.int .i64 (n:Int)
def iH (M:BM):List (Lit×Value):=M.map fun x=>(FY x.1,x.2.1)
def dN (M:BM) (k:Nat):Option (Value×List UInt8):=(M.find? fun x=>x.1==k).map (·.2)
def gN (M:BM) (k:Nat):BM:=M.filter fun x=> !(x.1==k)
def eG (M:BM):List aV:=M.map fun x=>aJ x.2.1 x.2.2
def jF (b:Nat) (M:BM):aV:=.star (l8 3 b (iH M)) (.dR (eG M))
def RN (b:Nat) (M:BM) (k:Nat):aV:=.star (l8 3 b (iH M)) (.dR (eG (gN M k)))
theorem arT (n:Nat):WideAt.IsKeyLit (FY n):=by simp[FY,WideAt.IsKeyLit]
theorem WA (a b:Nat):(FY a).sameKey (FY b)=(a==b):=by
 by_cases h:a=b
 ·subst h;rw[WideAt.sameKey_self (arT a)];simp
 rw[kD.2 h];cases hs:(FY a).sameKey (FY b)with
 |false=>rfl
 |true=>have:=WideAt.sameKey_eq hs;unfold FY at this;injection this with _ h2;exact absurd aI h
theorem adP (M:BM) (k:Nat):getM (iH M) (FY k)=(dN M k).map (·.1):=by
 unfold getM dN iH
 induction M with
 |nil=>rfl
 |cons x M ih=>
  rw[jW,IZ,IZ];simp only[WA];cases h:x.1==k with
  |true=>rfl
  |false=>exact ih
theorem aaA (M:BM) (k:Nat):mU (iH M) (FY k)=iH (gN M k):=by unfold mU iH gN;rw[List.filter_map];congr 1;apply List.filter_congr;intro x _;simp[WA]
theorem N7 (M:BM) (k:Nat) (v:Value) (bs:List UInt8):p8 (iH M) (FY k) v=iH (gN M k++[(k,v,bs)]):=by unfold p8;rw[aaA];unfold iH;simp
theorem jI (n:Nat) (h:n<=100000):keyOf Tryz.prog 3 (.int .i64 n)=some (FY n):=Maps.keyOf_int_mk Tryz.underlying3 (by simp[Lit.wf,IntKind.min,IntKind.max,IntKind.signed,IntKind.bits];omega)
theorem Q6 (w:World):(zeroValue 69).run Tryz.prog w= .ok (.slice none 0 0) w:=by kernel_rfl
theorem lF {M:BM} {k:Nat} {x:Value×List UInt8} (h:dN M k=some x):(k,x)∈M:=by
 unfold dN at h;rw[M4]at h;obtain⟨y,h1,rfl⟩:=h;have h2:=FK h1;have h3:=RF h1;have:y.1=k:=by simpa using h2
 rw[<-this];exact h3
theorem agW {M:BM} {k:Nat} (h:dN M k=none):∀x∈M,x.1≠k:=by unfold dN at h;rw[WC,vY]at h;intro x hx;simpa using h x hx
theorem KA {M:BM} {k:Nat} (h:dN M k=none):gN M k=M:=by unfold gN;rw[D6];intro x hx;simpa using agW h x hx
section
variable {w0 w:World} {As R:List aV} {b:Nat} {M:BM}
theorem Sep.agX (i:Nat) (h:Sep w0 w As) (hi:As[i]? =some (jF b M)):Sep w0 w (l8 3 b (iH M):: .dR (eG M)::(As.take i++As.drop (i+1))):=by have e:=(qV hi).1;rw[e]at h;exact(h.perm lN).jG
theorem Sep.WO (i:Nat) (h:Sep w0 w As) (hi:As[i]? =some (jF b M)) (k:Nat) (hk:k<=100000):
  (Instr.lookup 111 (.map (some b)) (.int .i64 k) true).run Tryz.prog w= .ok (.tuple #[((dN M k).map (·.1)).getD (.slice none 0 0),.bool (dN M k).isSome]) w:=by
 have h1:=(h.agX i hi).acV 0 rfl dV Tryz.underlying111 (Q6 w) (jI k hk);rw[adP]at h1;rw[h1];cases dN M k<;>rfl
theorem Z27 {P:Prop} (h:P:=by exact h2.rd (sz:=1) (e:=5) j (by rw[C9 (by unfold eG;rw[iT];exact hj)];unfold eG;rw[kX,gE hj,e];rfl)):P:=h
theorem Sep.arU (i:Nat) (h:Sep w0 w As) (hi:As[i]? =some (jF b M)) {k:Nat} {v:Value} {bs:List UInt8} (hf:dN M k=some (v,bs)):BytesAt w v bs:=by have h1:=(h.agX i hi).drop 1;have h2:Sep w0 w (eG M++(As.take i++As.drop (i+1))):=h1.bD;obtain⟨j,hj,e⟩:=M0 (lF hf);exact Z27
theorem Z53 {P:Prop} (h:P:=by
 unfold iH at h1;rw[FJ]at h1;rw[ZB,FJ];refine h1.imp fun h e=>h ?_
 simp only[e]):P:=h
theorem Sep.NQ (i:Nat) (h:Sep w0 w As) (hi:As[i]? =some (jF b M)):(M.map (·.1)).Nodup:=by have h1:=((h.agX i hi).sD 0 rfl).ne;exact Z53
theorem amH {M:BM} {k:Nat} {v:Value} {bs:List UInt8} (hn:(M.map (·.1)).Nodup) (hf:dN M k=some (v,bs)):(eG M).Perm (aJ v bs::eG (gN M k)):=by
 induction M with
 |nil=>cases hf
 |cons x M ih=>
  rw[jW,wK]at hn;unfold dN at hf;rw[IZ]at hf;cases hx:x.1==k with
  |true=>rw[hx]at hf;simp at hf;(have hk:x.1=k:=by simpa using hx);(have hno:dN M k=none:=by unfold dN;rw[WC,vY];intro y hy hyk;(have:y.1=k:=by simpa using hyk);exact hn.1 (List.mem_map.2 ⟨y,hy,by rw[this,hk]⟩));(have e1:gN (x::M) k=M:=by unfold gN;rw[zA,hx];exact KA hno);rw[e1];unfold eG;rw[jW,hf]
  |false=>rw[hx]at hf;have h1:=ih hn.2 hf;(have e1:gN (x::M) k=x::gN M k:=by unfold gN;rw[zA,hx];rfl);rw[e1];unfold eG at h1 ⊢;rw[jW,jW];exact(List.Perm.cons _ h1).trans (List.Perm.swap _ _ _)
theorem Sep.au6 {k:Nat} {v:Value} {bs:List UInt8} (h:Sep w0 w (jF b M::R)) (hf:dN M k=some (v,bs)):Sep w0 w (aJ v bs::RN b M k::R):=by have hn:=h.NQ 0 rfl;have h1:=h.jG;have h2:Sep w0 w (.dR (eG M)::l8 3 b (iH M)::R):=h1.perm (List.Perm.swap _ _ _);have h3:=h2.bD;have h4:Sep w0 w (aJ v bs::(eG (gN M k)++(l8 3 b (iH M)::R))):=h3.perm ((amH hn hf).append_right _);have h5:Sep w0 w (eG (gN M k)++(aJ v bs::l8 3 b (iH M)::R)):=h4.perm lN.symm;have h6:=h5.cZ;have h7:Sep w0 w (l8 3 b (iH M):: .dR (eG (gN M k))::aJ v bs::R):=Sep.dC [2,0,1] h6 aR bK;exact(h7.lV).perm (List.Perm.swap _ _ _)
theorem Sep.FU {k:Nat} (h:Sep w0 w (jF b M::R)) (hf:dN M k=none):Sep w0 w (RN b M k::R):=by unfold RN;rw[KA hf];exact h
theorem Sep.au7 {k:Nat} {v:Value} {bs:List UInt8} (h:Sep w0 w (RN b M k::aJ v bs::R)) (hk:k<=100000) (hlen:M.length<100000):
  ∃w',(Instr.mapUpdate 111 (.map (some b)) (.int .i64 k) v).run Tryz.prog w= .ok () w'/\Sep w0 w' (jF b (gN M k++[(k,v,bs)])::R):=by
 have h1:=h.jG;obtain⟨w',hrun,h2⟩:=h1.l5 0 rfl dV Tryz.underlying111 (by unfold iH;rw[iT];unfold maxLen;omega) (v:=v) (jI k hk);refine⟨w',hrun,?_⟩;rw[N7 M k v bs]at h2;have h3:Sep w0 w' (.dR (eG (gN M k))::l8 3 b (iH (gN M k++[(k,v,bs)]))::aJ v bs::R):=h2.perm (List.Perm.swap _ _ _);have h4:=h3.bD;have e:eG (gN M k++[(k,v,bs)])=eG (gN M k)++[aJ v bs]:=by unfold eG;simp
 have h5:Sep w0 w' (eG (gN M k++[(k,v,bs)])++(l8 3 b (iH (gN M k++[(k,v,bs)]))::R)):=by rw[e,nT];refine h4.perm (adY _ ?_);exact List.Perm.swap _ _ _
 exact((h5.cZ).perm (List.Perm.swap _ _ _)).lV
theorem Sep.CB {k:Nat} {v:Value} {bs:List UInt8} (h:Sep w0 w (jF b M::aJ v bs::R)) (hk:k<=100000) (hlen:M.length<100000) (hf:dN M k=none):
  ∃st w1 w2,(Instr.mapEntry 111 (.map (some b)) (.int .i64 k)).run Tryz.prog w= .ok (.tuple #[.slice none 0 0,iV st]) w1/\(Instr.entryStore 111 (.map (some b)) (.int .i64 st) v).run Tryz.prog w1= .ok () w2/\Sep w0 w2 (jF b (M++[(k,v,bs)])::R):=by
 have h1:=h.jG;obtain⟨st,w1,w2,r1,r2,h2,_⟩:=h1.arQ 0 rfl dV Tryz.underlying111 Q6 (by unfold iH;rw[iT];unfold maxLen;omega) (val:=v) (jI k hk) (by rw[adP,hf];rfl);refine⟨st,w1,w2,r1,r2,?_⟩;rw[N7 M k v bs,KA hf]at h2;have h3:Sep w0 w2 (.dR (eG M)::l8 3 b (iH (M++[(k,v,bs)]))::aJ v bs::R):=h2.perm (List.Perm.swap _ _ _);have h4:=h3.bD;have e:eG (M++[(k,v,bs)])=eG M++[aJ v bs]:=by unfold eG;simp
 have h5:Sep w0 w2 (eG (M++[(k,v,bs)])++(l8 3 b (iH (M++[(k,v,bs)]))::R)):=by rw[e,nT];refine h4.perm (adY _ ?_);exact List.Perm.swap _ _ _
 exact((h5.cZ).perm (List.Perm.swap _ _ _)).lV
theorem Sep.xU (h:Sep w0 w R):Sep w0 (w.alloc (.map #[] 0)) (jF w.heap.size []::R):=by have h1:=h.JK 3;have h2:Sep w0 (w.alloc (.map #[] 0)) (.dR (eG [])::l8 3 w.heap.size (iH [])::R):=h1.wL;exact(h2.perm (List.Perm.swap _ _ _)).lV
end
structure VS where
 nb:Nat
 names:Nat
 D:DK
 cur:fK
 wB:Int
 wI:Int
 nodes:Int
 rB:Int
 rI:Int
 m:Nat
structure VA where
 sb:Option Nat
 SM:BM
 fb:Nat
 FM:BM
structure VC (S:VS) (a:VA):Prop where
 oU:S.D.ok S.nb
 big:96<S.nb
 on:S.D.off=false
 cur:kG (S.nb-96) S.cur
 seen:∀x∈a.SM,x.1<S.nb-96/\x.2.2=bk S.D.now (96+x.1)
 fresh:∀x∈a.FM,x.1<S.nb-96/\x.2.2=bk S.cur x.1
 rest:∀k,k<S.nb-96->dN a.FM k=none->bk S.cur k=bk S.D.now (96+k)
 few:a.FM.length<=S.m
 none:a.sb=none->a.SM=[]
def kP (f q:Nat) (S:VS) (sb:Option Nat) (fv:Value) (dead:Bool):aV:=
 .box f 119 #[pV q,.map sb,fv,iV S.names,.bool dead,jC S.wB S.wI,iV S.nodes,jC S.rB S.rI]
def eT :Option Nat->BM->aV
 |none,_=>.emp
 |some b,M=>jF b M
def o8 (f q p:Nat) (S:VS) (a:VA):List aV:=[kP f q S a.sb (.map (some a.fb)) false,aG q p false,aN p S.D,eT a.sb a.SM,jF a.fb a.FM]
def aD (f q p:Nat) (S:VS) (a:VA):aV:=.dR (o8 f q p S a)
def zD (f q p:Nat) (S:VS) (a:VA) (k:Nat):aV:=.dR [kP f q S a.sb (.map (some a.fb)) false,aG q p false,aN p S.D,eT a.sb a.SM,RN a.fb a.FM k]
def agY (a:VA) (k:Nat) (v:Value) (bs:List UInt8):Prop:=dN a.FM k=some (v,bs)\/(dN a.FM k=none/\dN a.SM k=some (v,bs))
section
variable {w0 w:World} {R:List aV} {f q p:Nat} {S:VS} {a:VA}
theorem VC.short (h:VC S a) (hn:(a.SM.map (·.1)).Nodup):a.SM.length<=4000:=by
 have h1:(a.SM.map (·.1)).length<=(List.range (S.nb-96)).length:=aiZ hn fun x hx=>by obtain⟨y,hy,rfl⟩:=List.mem_map.1 hx;exact List.mem_range.2 (h.seen y hy).1
 have h2:=h.oU.few;rw[iT,KD]at h1;omega
theorem VC.anS (h:VC S a) (hn:(a.FM.map (·.1)).Nodup):a.FM.length<=4000:=by
 have h1:(a.FM.map (·.1)).length<=(List.range (S.nb-96)).length:=aiZ hn fun x hx=>by obtain⟨y,hy,rfl⟩:=List.mem_map.1 hx;exact List.mem_range.2 (h.fresh y hy).1
 have h2:=h.oU.few;rw[iT,KD]at h1;omega
theorem Z38 {P:Prop} (h:P:=by
 cases hs:a.sb with
 |none=>rw[hn hs]at hf;cases hf
 |some b=>refine h1.arU (b:=b) 3 ?_ hf;(show some (eT a.sb a.SM)=_);rw[hs];rfl):P:=h
theorem Sep.ME (h:Sep w0 w (aD f q p S a::R)) {k:Nat} {v:Value} {bs:List UInt8} (hp:agY a k v bs) (hn:a.sb=none->a.SM=[]):BytesAt w v bs:=by
 have h1:=h.bD;rcases hp with hf|⟨_,hf⟩
 ·exact h1.arU 4 rfl hf
 exact Z38
theorem agY.tells {k:Nat} {v:Value} {bs:List UInt8} (hp:agY a k v bs) (hn:a.sb=none->a.SM=[]):iG w0 (aD f q p S a::R) v bs:=fun w' X hS=>by have h1:Sep w0 w' (aD f q p S a::(X++R)):=hS.perm lN;exact h1.ME hp hn
theorem VC.arV (h:VC S a) {k:Nat} (hk:k<S.nb-96):(bk S.cur k).length=512:=jK h.cur hk
theorem VC.ahM (h:VC S a) {k:Nat} (hk:k<S.nb-96):(bk S.D.now (96+k)).length=512:=jK h.oU.now aI
theorem Z9 {P:Prop} (h:P:=by
 obtain⟨b,hb⟩:∃b,a.sb=some b:=by
  cases hs:a.sb with
  |none=>rw[hC.none hs]at hf;cases hf
  |some b=>exact⟨b,rfl⟩
 have h1:=h.bD;have hl:=h1.WO (b:=b) (M:=a.SM) 3 (by show some (eT a.sb a.SM)=_;rw[hb];rfl) i (by have:=hC.oU.few;omega);rw[hf]at hl;simp only[RL,IW,TH]at hl;have c1:=h1.bC 0 rfl 1;rw[hb]at c1;simp only[gA,gB,gC]at c1;clear h1 h hC;go_enter Tryz.func157,Tryz.ntmps157;go_wp2_with fail;go_ret;exact⟨rfl,rfl⟩):P:=h
theorem au8 {i:Nat} {v:Value} {bs:List UInt8} (hC:VC S a) (hi:i<S.nb-96) (hf:dN a.SM i=some (v,bs)) (h:Sep w0 w (aD f q p S a::R)):
  Calls Tryz.prog 157 #[pV f,iV i] w fun e w'=>e= .returned v/\w'=w:=by
 exact Z9
def VA.read (a:VA) (b i:Nat) (v:Value) (bs:List UInt8):VA:= {a with sb:=some b,SM:=a.SM++[(i,v,bs)]}
theorem JC {M:BM} {k:Nat} {v:Value} {bs:List UInt8} (h:dN M k=none):dN (M++[(k,v,bs)]) k=some (v,bs):=by unfold dN at h ⊢;rw[WC]at h;rw[ahD,h,IZ];simp
theorem VC.read (hC:VC S a) (b:Nat) {i:Nat} (v:Value) (hi:i<S.nb-96):VC S (a.read b i v (bk S.D.now (96+i))):=
 ⟨hC.oU,hC.big,hC.on,hC.cur,fun x hx=>by
  rcases iM.1 hx with hx|hx
  ·exact hC.seen x hx
  rw[rW]at hx;subst hx;exact⟨hi,rfl⟩,hC.fresh,hC.rest,hC.few,fun h=>by cases h⟩
theorem dO (x:Int) (w:World):Calls Tryz.prog 54 #[iV x] w fun e w'=>e=(if x=0 then .returned (.tuple #[])else .panicked [{v:=.iface 171 (.agg #[iV x]),recovered:=false}])/\w'=w:=by
 by_cases hx:x=0
 ·subst hx;go_enter Tryz.func54,Tryz.ntmps54;go_wp2_with fail
  go_end0
  exact⟨rfl,rfl⟩
 rw[if_neg hx];go_enter Tryz.func54,Tryz.ntmps54;go_wp2_with fail;exact⟨rfl,rfl,rfl⟩
theorem amI (b:Nat) (w:World):(binOp .eql 111 (.map (some b)) (.map none)).run Tryz.prog w= .ok (.bool false) w:=by kernel_rfl
theorem amJ (w:World):(binOp .eql 111 (.map none) (.map none)).run Tryz.prog w= .ok (.bool true) w:=by kernel_rfl
theorem FX (k:Nat) (w:World):(Instr.lookup 111 (.map none) (.int .i64 k) true).run Tryz.prog w= .ok (.tuple #[.slice none 0 0,.bool false]) w:=by kernel_rfl
theorem Z15 {P:Prop} (h:P:=by clear hC hlen hi2 hi hnd h;have hm0:=amI b;go_enter Tryz.func157,Tryz.ntmps157;go_wp2_with(first |(go_at_call 187;refine hrd.mono ?_;rintro e w9 ⟨v,rfl,h9⟩;obtain⟨k1,st,w1,w2,r1,r2,h7⟩:=hend _ _ h9)|(go_at_call 54;refine(dO _ _).mono ?_;rintro e w8 ⟨rfl,h8⟩;obtain rfl:=h8.symm));go_ret;exact⟨_,rfl,h7⟩):P:=h
theorem arW {i b:Nat} (hC:VC S a) (hi:i<S.nb-96) (hf:dN a.SM i=none) (hb:a.sb=some b) (h:Sep w0 w (aD f q p S a::R)):
  Calls Tryz.prog 157 #[pV f,iV i] w fun e w'=>∃v,e= .returned v/\Sep w0 w' (aD f q p S (a.read b i v (bk S.D.now (96+i)))::R):=by
 have h1:=h.bD;unfold o8 at h1;rw[hb]at h1;have hnd:=h1.NQ (b:=b) (M:=a.SM) 3 rfl;have hlen:=hC.short hnd;have hi2:i<=100000:=by have:=hC.oU.few;omega
 have hl:=h1.WO (b:=b) (M:=a.SM) 3 rfl i hi2;rw[hf]at hl;simp only[ZK,MW,Y3]at hl;have c1:=h1.bC 0 rfl 1;have c0:=h1.bC 0 rfl 0;simp only[gA,gB,gC]at c0 c1;have hrd:=vF (i:=i) (R:=kP f q S (some b) (.map (some a.fb)) false::jF b a.SM::jF a.fb a.FM::R) hC.oU hC.big aI hC.on (Sep.dC [1,2,0] h1 aR bK);have hend:∀W v,Sep w0 W (aJ v (bk S.D.now (96+i))::aG q p false::aN p S.D::kP f q S (some b) (.map (some a.fb)) false::jF b a.SM::jF a.fb a.FM::R)->
   W.cell? ⟨f,1,none⟩=some (.map (some b))/\∃st w1 w2,(Instr.mapEntry 111 (.map (some b)) (.int .i64 i)).run Tryz.prog W= .ok (.tuple #[.slice none 0 0,iV st]) w1/\(Instr.entryStore 111 (.map (some b)) (.int .i64 st) v).run Tryz.prog w1= .ok () w2/\Sep w0 w2 (aD f q p S (a.read b i v (bk S.D.now (96+i)))::R):=fun W v hS=>by
  have k1:=hS.bC 3 rfl 1;simp only[gA,gB,gC]at k1;have h2:Sep w0 W (jF b a.SM::aJ v (bk S.D.now (96+i))::kP f q S (some b) (.map (some a.fb)) false::aG q p false::aN p S.D::jF a.fb a.FM::R):=Sep.dC [4,0,3,1,2] hS aR bK;obtain⟨st,w1,w2,r1,r2,h3⟩:=h2.CB hi2 aI hf;refine⟨k1,st,w1,w2,r1,r2,?_⟩;have h4:Sep w0 w2 (o8 f q p S (a.read b i v (bk S.D.now (96+i)))++R):=Sep.dC [1,2,3,0] h3 aR bK;exact h4.cZ
 exact Z15
theorem Z14 {P:Prop} (h:P:=by clear hC hi2 hi h h1;have hm0:=amJ;have hmm:= @run_makeMap Tryz.prog;go_enter Tryz.func157,Tryz.ntmps157;go_wp2_with(first |(go_at_call 187;refine hrd.mono ?_;rintro e w9 ⟨v,rfl,h9⟩;obtain⟨k1,k2,k3,k4,st,w1,w2,r1,r2,h7⟩:=hend _ _ h9;clear c1)|(go_at_call 54;refine(dO _ _).mono ?_;rintro e w8 ⟨rfl,h8⟩;obtain rfl:=h8.symm));go_ret;exact⟨_,_,rfl,h7⟩):P:=h
theorem au9 {i:Nat} (hC:VC S a) (hi:i<S.nb-96) (hb:a.sb=none) (h:Sep w0 w (aD f q p S a::R)):
  Calls Tryz.prog 157 #[pV f,iV i] w fun e w'=>∃v b,e= .returned v/\Sep w0 w' (aD f q p S (a.read b i v (bk S.D.now (96+i)))::R):=by
 have h1:=h.bD;unfold o8 at h1;rw[hb]at h1;have hi2:i<=100000:=by have:=hC.oU.few;omega
 have hl:=FX i w;have c1:=h1.bC 0 rfl 1;have c0:=h1.bC 0 rfl 0;simp only[gA,gB,gC]at c0 c1;have hrd:=vF (i:=i) (R:=kP f q S none (.map (some a.fb)) false::jF a.fb a.FM::R) hC.oU hC.big aI hC.on ((Sep.dC [3,1,2,0] h1 aR bK).drop 1);have hSM:=hC.none hb;have hend:∀W v,Sep w0 W (aJ v (bk S.D.now (96+i))::aG q p false::aN p S.D::kP f q S none (.map (some a.fb)) false::jF a.fb a.FM::R)->
   W.cell? ⟨f,1,none⟩=some (.map none)/\(W.alloc (.map #[] 0)).frozen? ⟨f,1,none⟩=false/\(W.alloc (.map #[] 0)).cell? ⟨f,1,none⟩=some (.map none)/\
   ((W.alloc (.map #[] 0)).setCell ⟨f,1,none⟩ (.map (some W.heap.size))).cell? ⟨f,1,none⟩=some (.map (some W.heap.size))/\∃st w1 w2,(Instr.mapEntry 111 (.map (some W.heap.size)) (.int .i64 i)).run Tryz.prog ((W.alloc (.map #[] 0)).setCell ⟨f,1,none⟩ (.map (some W.heap.size)))= .ok (.tuple #[.slice none 0 0,iV st]) w1/\(Instr.entryStore 111 (.map (some W.heap.size)) (.int .i64 st) v).run Tryz.prog w1= .ok () w2/\Sep w0 w2 (aD f q p S (a.read W.heap.size i v (bk S.D.now (96+i)))::R):=fun W v hS=>by
  have k1:=hS.bC 3 rfl 1;have h2:=hS.xU;have k2:=h2.bC 4 rfl 1;have k3:=h2.bF 4 rfl 1;have h3:=h2.bS 4 rfl 1 (.map (some W.heap.size));have k4:=h3.bC 4 rfl 1;simp only[gA,gB,gC]at k1 k2;refine⟨k1,k3,k2,?_,?_⟩
  ·rw[k4];rfl
  have h4:Sep w0 ((W.alloc (.map #[] 0)).setCell ⟨f,1,none⟩ (.map (some W.heap.size))) (jF W.heap.size []::aJ v (bk S.D.now (96+i))::kP f q S (some W.heap.size) (.map (some a.fb)) false::aG q p false::aN p S.D::jF a.fb a.FM::R):=Sep.dC [0,1,4,2,3] h3 aR bK;obtain⟨st,w1,w2,r1,r2,h5⟩:=h4.CB (k:=i) hi2 bK rfl;refine⟨st,w1,w2,r1,r2,?_⟩;(have h6:Sep w0 w2 (o8 f q p S (a.read W.heap.size i v (bk S.D.now (96+i)))++R):=by unfold o8 VA.read;rw[hSM];exact Sep.dC [1,2,3,0] h5 aR bK);exact h6.cZ
 exact Z14
structure Reads (S:VS) (a a':VA):Prop where
 ok:VC S a'
 fb:a'.fb=a.fb
 FM:a'.FM=a.FM
 more:∀k x,dN a.SM k=some x->dN a'.SM k=some x
theorem Reads.refl (h:VC S a):Reads S a a:=⟨h,rfl,rfl,fun _ _ h=>h⟩
theorem Reads.trans {b c:VA} (h1:Reads S a b) (h2:Reads S b c):Reads S a c:=⟨h2.ok,h2.fb.trans h1.fb,h2.FM.trans h1.FM,fun k x h=>h2.more k x (h1.more k x h)⟩
theorem JB {M N:BM} {k:Nat} {x:Value×List UInt8} (h:dN M k=some x):dN (M++N) k=some x:=by unfold dN at h ⊢;rw[M4]at h;obtain⟨y,h1,h2⟩:=h;rw[ahD,h1,Option.some_or,RL,h2]
theorem Z44 {P:Prop} (h:P:=by rintro e w' ⟨rfl,rfl⟩;refine⟨_,a,rfl,.refl hC,?_,h⟩;have h2:x.2=bk S.D.now (96+i):=hx.2;rw[hf,<-h2]):P:=h
theorem aiW {i:Nat} (hC:VC S a) (hi:i<S.nb-96) (h:Sep w0 w (aD f q p S a::R)):
  Calls Tryz.prog 157 #[pV f,iV i] w fun e w'=>∃v a',e= .returned v/\Reads S a a'/\dN a'.SM i=some (v,bk S.D.now (96+i))/\Sep w0 w' (aD f q p S a'::R):=by
 cases hf:dN a.SM i with
 |some x=>have hx:=hC.seen _ (lF hf);refine(au8 hC hi (v:=x.1) (bs:=x.2) hf h).mono ?_;exact Z44
 |none=>
  have key:∀b v,Reads S a (a.read b i v (bk S.D.now (96+i)))/\dN (a.read b i v (bk S.D.now (96+i))).SM i=some (v,bk S.D.now (96+i)):=fun b v=>
   ⟨⟨hC.read b v hi,rfl,rfl,fun k x hx=>JB hx⟩,JC hf⟩
  cases hb:a.sb with
  |some b=>refine(arW hC hi hf hb h).mono ?_;rintro e w' ⟨v,rfl,h9⟩;exact⟨v,_,rfl,(key b v).1,(key b v).2,h9⟩
  |none=>refine(au9 hC hi hb h).mono ?_;rintro e w' ⟨v,b,rfl,h9⟩;exact⟨v,_,rfl,(key b v).1,(key b v).2,h9⟩
theorem Q7 {i:Nat} (hC:VC S a) (hi:i<S.nb-96) (h:Sep w0 w (aD f q p S a::R)):
  w.cell? ⟨f,2,none⟩=some (.map (some a.fb))/\(Instr.lookup 111 (.map (some a.fb)) (.int .i64 i) true).run Tryz.prog w= .ok (.tuple #[((dN a.FM i).map (·.1)).getD (.slice none 0 0),.bool (dN a.FM i).isSome]) w:=by
 have h1:=h.bD;refine⟨?_,h1.WO 4 rfl i (by have:=hC.oU.few;omega)⟩;have c1:=h1.bC 0 rfl 2;simpa using c1
theorem NI {i:Nat} (hC:VC S a) (hi:i<S.nb-96) (h:Sep w0 w (aD f q p S a::R)):
  Calls Tryz.prog 144 #[pV f,iV i] w fun e w'=>∃v a',e= .returned v/\Reads S a a'/\agY a' i v (bk S.cur i)/\Sep w0 w' (aD f q p S a'::R):=by
 obtain⟨c2,hl⟩:=Q7 hC hi h;have ho:=aiW hC hi h;cases hf:dN a.FM i with
 |some x=>rw[hf]at hl;simp only[RL,IW,TH]at hl;have hx:x.2=bk S.cur i:=(hC.fresh _ (lF hf)).2;have hp:agY a i x.1 (bk S.cur i):=.inl (by rw[hf,<-hx]);have hR:=Reads.refl hC;clear ho hC hi hf hx;go_enter Tryz.func144,Tryz.ntmps144;go_wp2_with fail;go_ret;exact⟨_,a,rfl,hR,hp,h⟩
 |none=>rw[hf]at hl;simp only[ZK,MW,Y3]at hl;have hr:=hC.rest i hi hf;clear h;go_enter Tryz.func144,Tryz.ntmps144;go_wp2_with(go_at_call 157;refine ho.mono ?_;rintro e w9 ⟨v,a',rfl,hR,hs,h9⟩);go_ret;exact⟨_,a',rfl,hR,.inr ⟨by rw[hR.FM];exact hf,by rw[hr];exact hs⟩,h9⟩
def BX (f q p:Nat) (S:VS) (a:VA) (k:Nat) (v:Value) (w0 w:World) (R:List aV):Prop:=
 (dN a.FM k=some (v,bk S.cur k)/\Sep w0 w (aD f q p S a::R))\/(dN a.FM k=none/\Sep w0 w (aD f q p S a::aJ v (bk S.cur k)::R))
theorem BX.out {k:Nat} {v:Value} (h:BX f q p S a k v w0 w R):Sep w0 w (aJ v (bk S.cur k)::zD f q p S a k::R):=by
 rcases h with⟨hf,h⟩|⟨hf,h⟩
 ·have h1:=h.bD;have h2:Sep w0 w (jF a.fb a.FM::kP f q S a.sb (.map (some a.fb)) false::aG q p false::aN p S.D::eT a.sb a.SM::R):=Sep.dC [4,0,1,2,3] h1 aR (by simp[o8]);have h3:=h2.au6 hf;have h4:Sep w0 w ([kP f q S a.sb (.map (some a.fb)) false,aG q p false,aN p S.D,eT a.sb a.SM,RN a.fb a.FM k]++(aJ v (bk S.cur k)::R)):=Sep.dC [2,3,4,5,1,0] h3 aR bK;exact(h4.cZ).perm (List.Perm.swap _ _ _)
 have h1:=h.bD;have h2:Sep w0 w (jF a.fb a.FM::kP f q S a.sb (.map (some a.fb)) false::aG q p false::aN p S.D::eT a.sb a.SM::aJ v (bk S.cur k)::R):=Sep.dC [4,0,1,2,3] h1 aR (by simp[o8]);have h3:=h2.FU hf;have h4:Sep w0 w ([kP f q S a.sb (.map (some a.fb)) false,aG q p false,aN p S.D,eT a.sb a.SM,RN a.fb a.FM k]++(aJ v (bk S.cur k)::R)):=Sep.dC [1,2,3,4,0] h3 aR bK;exact(h4.cZ).perm (List.Perm.swap _ _ _)
end
def VS.data (S:VS):Nat:=2+(S.names+7)/8
def VS.count (S:VS):Nat:=S.nb-96-S.data
structure VF (S:VS):Prop where
 names:S.names<=1024
 room:96+S.data<S.nb
def VS.put (S:VS) (k:Nat) (bs:List UInt8):VS:= {S with cur:=S.cur.set k bs,m:=S.m+1}
def VA.put (a:VA) (k:Nat) (v:Value) (bs:List UInt8):VA:= {a with FM:=gN a.FM k++[(k,v,bs)]}
theorem amK {M:BM} {k:Nat}:dN (gN M k) k=none:=by unfold dN gN;rw[WC,vY];intro x hx;have:=(List.mem_filter.1 hx).2;simpa using this
theorem YS {M:BM} {k j:Nat} (h:j≠k):dN (gN M k) j=dN M j:=by
 unfold dN gN;congr 1
 induction M with
 |nil=>rfl
 |cons x M ih=>
  rw[zA];by_cases hx:x.1=k
  ·(have e1:(x.1==k)=true:=by simpa using hx);(have e2:(x.1==j)=false:=by simp;omega);rw[e1,IZ,e2];exact ih
  (have e1:(x.1==k)=false:=by simpa using hx);rw[e1];simp only[Bool.not_false,if_true];rw[IZ,IZ,ih]
theorem amL {M:BM} {k:Nat} {v:Value} {bs:List UInt8} (j:Nat):dN (gN M k++[(k,v,bs)]) j=if j=k then some (v,bs)else dN M j:=by
 by_cases e:j=k
 ·subst e;rw[if_pos rfl,JC amK]
 rw[if_neg e];have h1:=YS (M:=M) e;cases hf:dN (gN M k) j with
 |some x=>rw[JB hf,<-h1,hf]
 |none=>rw[<-h1,hf];unfold dN at hf ⊢;rw[WC]at hf ⊢;rw[ahD,hf,IZ];(have e2:(k==j)=false:=by simp;omega);simp[e2]
section
variable {w0 w:World} {R:List aV} {f q p:Nat} {S:VS} {a:VA}
theorem VC.put (hC:VC S a) {k:Nat} (v:Value) {bs:List UInt8} (hk:k<S.nb-96) (hbs:bs.length=512):VC (S.put k bs) (a.put k v bs) where
 oU:=hC.oU
 big:=hC.big
 on:=hC.on
 cur:=hC.cur.set k hbs
 seen:=hC.seen
 fresh:=fun x hx=>by
  (show x.1<S.nb-96/\x.2.2=bk (S.cur.set k bs) x.1);rw[zV _ _ _ _ (by rw[hC.cur.len];exact hk)];rcases iM.1 hx with hx|hx
  ·have h1:=List.mem_filter.1 hx;(have h2:x.1≠k:=by simpa using h1.2);rw[if_neg h2];exact hC.fresh x h1.1
  rw[rW]at hx;subst hx;exact⟨hk,by rw[if_pos rfl]⟩
 rest:=fun j hj hf=>by
  have hf':dN (gN a.FM k++[(k,v,bs)]) j=Option.none:=hf;rw[amL]at hf';(show bk (S.cur.set k bs) j=_);by_cases e:j=k
  ·rw[if_pos e]at hf';cases hf'
  rw[if_neg e]at hf';rw[zV _ _ _ _ (by rw[hC.cur.len];exact hk),if_neg e];exact hC.rest j hj hf'
 few:=by have h1:(gN a.FM k).length<=a.FM.length:=RG _ _;have h2:=hC.few;(show(gN a.FM k++[(k,v,bs)]).length<=S.m+1);rw[jJ];simp only[nZ];omega
 none:=hC.none
theorem MF {i:Nat} (hC:VC S a) (hi:i<S.nb-96) (h:Sep w0 w (aD f q p S a::R)):
  Calls Tryz.prog 84 #[pV f,iV i] w fun e w'=>∃v a',e= .returned v/\Reads S a a'/\BX f q p S a' i v w0 w' R:=by
 obtain⟨c2,hl⟩:=Q7 hC hi h;have ho:=aiW hC hi h;cases hf:dN a.FM i with
 |some x=>rw[hf]at hl;simp only[RL,IW,TH]at hl;have hx:x.2=bk S.cur i:=(hC.fresh _ (lF hf)).2;(have hp:dN a.FM i=some (x.1,bk S.cur i):=by rw[hf,<-hx]);have hR:=Reads.refl hC;clear ho hC hi hf hx;go_enter Tryz.func84,Tryz.ntmps84;go_wp2_with fail;go_ret;exact⟨_,a,rfl,hR,.inl ⟨hp,h⟩⟩
 |none=>rw[hf]at hl;simp only[ZK,MW,Y3]at hl;have hr:=hC.rest i hi hf;have hlen:=hC.ahM hi;obtain⟨k0,o7,hk0,hk1,hk2⟩:=iN lW;clear h hi;go_enter Tryz.func84,Tryz.ntmps84;go_wp2_with(first |(go_at_call 157;refine ho.mono ?_;rintro e w9 ⟨v,a',rfl,hR,hs,h9⟩;have hS:=Lh (h9.iO 5 1);have hrd:=Lh (h9.ME (.inr ⟨by rw[hR.FM];exact hf,hs⟩) hR.ok.none))|(at_builtin;refine dH 0 rfl _ _ 69 rfl 5 k0 (.int .u8 0) 1 1 Tryz.underlying69 o7 hk0 hk1 hk2 rfl aR hS.out _ 0 [] rfl rfl v 512 ((bk S.D.now (96+i)).map kK) rfl (by rw[<-hlen];exact hrd.out) qM vE aI ?_;intro v3 w3 eZ hz3));go_ret;refine⟨_,a',rfl,hR,.inr ⟨by rw[hR.FM];exact hf,?_⟩⟩;rw[hr];(have h8:Sep w0 w3 (aJ v3 (bk S.D.now (96+i))::aD f q p S a'::R):=by rw[bT hlen];exact eZ);exact h8.perm (List.Perm.swap _ _ _)
theorem xP {i:Nat} {v:Value} {bs:List UInt8} (hC:VC S a) (hi:i<S.nb-96) (h:Sep w0 w (aJ v bs::zD f q p S a i::R)):
  Calls Tryz.prog 98 #[pV f,iV i,v] w fun e w'=>e= .returned (.tuple #[])/\Sep w0 w' (aD f q p (S.put i bs) (a.put i v bs)::R):=by
 have h1:Sep w0 w ([kP f q S a.sb (.map (some a.fb)) false,aG q p false,aN p S.D,eT a.sb a.SM,RN a.fb a.FM i]++(aJ v bs::R)):=(h.perm (List.Perm.swap _ _ _)).bD;have c2:=h1.bC 0 rfl 2;simp only[gA,gB,gC]at c2;have hkey:Sep w0 w (l8 3 a.fb (iH a.FM):: .dR (eG (gN a.FM i))::kP f q S a.sb (.map (some a.fb)) false::aG q p false::aN p S.D::eT a.sb a.SM::aJ v bs::R):=Sep.jG (Sep.dC [4,0,1,2,3,5] h1 aR bK);have hnd:(a.FM.map (·.1)).Nodup:=by have h1:=(hkey.sD 0 rfl).ne;exact Z53
 have h3:Sep w0 w (RN a.fb a.FM i::aJ v bs::kP f q S a.sb (.map (some a.fb)) false::aG q p false::aN p S.D::eT a.sb a.SM::R):=Sep.dC [4,5,0,1,2,3] h1 aR bK;obtain⟨w1,hrun,h4⟩:=h3.au7 (by have:=hC.oU.few;omega) (by have:=hC.anS hnd;omega);have h5:Sep w0 w1 (aD f q p (S.put i bs) (a.put i v bs)::R):=by have h6:Sep w0 w1 (o8 f q p (S.put i bs) (a.put i v bs)++R):=Sep.dC [1,2,3,4,0] h4 aR bK;exact h6.cZ
 clear hkey h3 h h1 hC hi h4;go_enter Tryz.func98,Tryz.ntmps98;go_wp2_with fail
 go_end0
 exact⟨rfl,h5⟩
theorem zQ (hC:VC S a) (hF:VF S) (h:w.cell? ⟨f,3,none⟩=some (iV S.names)):
  Calls Tryz.prog 142 #[pV f] w fun e w'=>e= .returned (iV S.data)/\w'=w:=by
 have hn:=hF.names;have e1:((S.data:Nat):Int)=2+((S.names:Int)+7)/8:=by unfold VS.data;omega
 rw[e1];obtain⟨N,hN⟩:∃N:Int,N=S.names:=⟨_,rfl⟩;have b0:0<=N:=by omega
 have b1:N<=1024:=by omega
 rw[<-hN]at h ⊢;have q1:IntKind.i64.wrap (N+8)=N+8:=IntWalk.i64_in _ aI;have q2:IntKind.i64.wrap (N+7)=N+7:=IntWalk.i64_in _ aI;have q3:IntKind.i64.wrap ((N+7)/8)=(N+7)/8:=IntWalk.i64_in _ aI;have q4:IntKind.i64.wrap (2+(N+7)/8)=2+(N+7)/8:=IntWalk.i64_in _ aI;clear hC hF hn e1;go_enter Tryz.func142,Tryz.ntmps142;go_wp2_with fail;go_ret;refine⟨?_,rfl⟩;show Ending.returned (Value.int IntKind.i64 (2+((S.names:Int)+8-1)/8))=_
 rw[<-hN,show N+8-1=N+7 by omega]
structure FsC (w:World) (f q:Nat) (S:VS) (a:VA):Prop where
 c0:w.cell? ⟨f,0,none⟩=some (pV q)
 c1:w.cell? ⟨f,1,none⟩=some (.map a.sb)
 c2:w.cell? ⟨f,2,none⟩=some (.map (some a.fb))
 c3:w.cell? ⟨f,3,none⟩=some (iV S.names)
 c4:w.cell? ⟨f,4,none⟩=some (.bool false)
 c5:w.cell? ⟨f,5,none⟩=some (jC S.wB S.wI)
 c6:w.cell? ⟨f,6,none⟩=some (iV S.nodes)
 c7:w.cell? ⟨f,7,none⟩=some (jC S.rB S.rI)
theorem Sep.fC (h:Sep w0 w (aD f q p S a::R)):FsC w f q S a:=by
 have h1:=h.bD;have c:=fun j=>h1.bC 0 rfl j
 have c0:=c 0;have c1:=c 1;have c2:=c 2;have c3:=c 3;have c4:=c 4;have c5:=c 5;have c6:=c 6;have c7:=c 7;simp only[gA,gB,gC]at c0 c1 c2 c3 c4 c5 c6 c7;exact⟨c0,c1,c2,c3,c4,c5,c6,c7⟩
theorem BX.fC {k:Nat} {v:Value} (h:BX f q p S a k v w0 w R):FsC w f q S a:=by
 rcases h with⟨_,h⟩|⟨_,h⟩
 ·exact h.fC
 exact h.fC
theorem JR (hC:VC S a) (hF:VF S) (h:Sep w0 w (aD f q p S a::R)):
  Calls Tryz.prog 86 #[pV f] w fun e w'=>e= .returned (iV S.count)/\w'=w:=by
 have hc:=h.fC;have hd:=zQ hC hF hc.c3;have c0:=hc.c0;have hbl:=BP (q:=q) (p:=p) (dead:=false) (R:=kP f q S a.sb (.map (some a.fb)) false::eT a.sb a.SM::jF a.fb a.FM::R) hC.oU (by have:=hC.big;omega) (Sep.dC [1,2,0,3,4] (h.bD) aR (by simp[o8]));have hr:=hF.room;have e1:((S.count:Nat):Int)=((S.nb-96:Nat):Int)-S.data:=by unfold VS.count;omega
 have e2:((S.nb-96:Nat):Int)<=4096:=by have:=hC.oU.few;omega
 have e3:(0:Int)<=(S.data:Int):=by omega
 have e4:(S.data:Int)<=4096:=by have:=hC.oU.few;omega
 have e5:(0:Int)<=((S.nb-96:Nat):Int):=by omega
 rw[e1];obtain⟨N,hN⟩:∃N,N=S.nb-96:=⟨_,rfl⟩;obtain⟨M,hM⟩:∃M,M=S.data:=⟨_,rfl⟩;rw[<-hN]at hbl e2 e5 ⊢;rw[<-hM]at hd e3 e4 ⊢;clear e1 hr hN hM hc;go_enter Tryz.func86,Tryz.ntmps86;go_wp2_with(first |(go_at_call 154;refine hbl.mono ?_;rintro e w9 ⟨rfl,h9⟩;obtain rfl:=h9.symm)|(go_at_call 142;refine hd.mono ?_;rintro e w9 ⟨rfl,h9⟩;obtain rfl:=h9.symm));go_ret;exact⟨rfl,rfl⟩
end
end Go.Proofs.YtmjomdkleikgbaaGreat
