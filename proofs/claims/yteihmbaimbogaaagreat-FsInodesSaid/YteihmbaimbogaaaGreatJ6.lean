/- Parts. -/
import Derived.Test.YteihmbaimbogaaaGreatJ5
import Derived.Laws.FloatArith
import Derived.Laws.ComplexArith
set_option linter.unusedVariables false
set_option linter.unusedSimpArgs false
set_option maxRecDepth 100000
set_option maxHeartbeats 20000000
namespace Go.Proofs.YteihmbaimbogaaaGreat
open Ieee
theorem aaZ (neg:Bool) (q d:Nat) (hq:0<q):Toward.even.cut neg (q*2 ^ d) d=q:=by
 have hl:d<=(q*2 ^ d).log2:=by rw[Nat.le_log2 (IJ (Q6 hq (QU d)))];exact Nat.le_mul_of_pos_left _ hq
 unfold Toward.cut;have hm:min d ((q*2 ^ d).log2+2)=d:=by omega
 simp only[hm,Nat.one_shiftLeft];rw[Nat.mul_div_cancel _ (QU d),Nat.mul_mod_left];have:=QU d;simp
theorem alT {m:Nat} (hm:0<m) (k:Nat):(m*2 ^ k).log2=m.log2+k:=by
 have h1:m*2 ^ k≠0:=IJ (Q6 hm (QU k));apply Nat.le_antisymm
 ·(have h2:(m*2 ^ k).log2<m.log2+k+1:=by rw[YP h1];have:=(YP (k:=m.log2+1) (IJ hm)).1 (YI _);(have e:2 ^ (m.log2+k+1)=2 ^ (m.log2+1)*2 ^ k:=by rw[<-KE];congr 1;omega);rw[e];exact arX this (QU k));omega
 rw[Nat.le_log2 h1,KE];exact aiZ _ ((Nat.le_log2 (IJ hm)).1 (jL _))
def lack (m:Nat):Nat:=52-m.log2
theorem J6 (neg:Bool) (m k:Nat) (hm:0<m) (h53:m<2 ^ 53) (hk:k<=1074):double.nearest neg (m*2 ^ k) (-(k:Int))=double.word neg (((1074-lack m:Nat))*2 ^ 52+m*2 ^ lack m):=by
 have hl:m.log2<=52:=by have:=(YP (k:=53) (IJ hm)).2 h53;omega
 unfold Format.nearest;rw[if_neg (IJ (Q6 hm (QU k))),alT hm];have e1:double.leastPlace= -1074:=by decide
 have e2:double.fractionBits=52:=rfl;have e3:double.binade=2 ^ 52:=rfl;have e4:double.infRung=2047*2 ^ 52:=by decide
 rw[e1,e2,e3,e4];have hlast:max (-(k:Int)+((m.log2+k:Nat):Int)-(52:Nat)) (-1074)= -((lack m:Nat):Int):=by unfold lack;omega
 rw[hlast];dsimp only;have hL:lack m<=52:=by unfold lack;omega
 have ht:(-((lack m:Nat):Int)- -1074).toNat=1074-lack m:=by omega
 rw[ht];have hkept:Toward.even.cut neg ((m*2 ^ k)<<<(-(k:Int)- -((lack m:Nat):Int)).toNat) (-((lack m:Nat):Int)- -(k:Int)).toNat=m*2 ^ lack m:=by
  rcases Nat.le_total k (lack m)with h|h
  ·(have a1:(-(k:Int)- -((lack m:Nat):Int)).toNat=lack m-k:=by omega);(have a2:(-((lack m:Nat):Int)- -(k:Int)).toNat=0:=by omega);rw[a1,a2,Nat.shiftLeft_eq];(have e:m*2 ^ k*2 ^ (lack m-k)=m*2 ^ lack m:=by rw[Nat.mul_assoc,<-KE];congr 2;omega);rw[e];have:=aaZ neg (m*2 ^ lack m) 0 (Q6 hm (QU _));simpa using this
  (have a1:(-(k:Int)- -((lack m:Nat):Int)).toNat=0:=by omega);(have a2:(-((lack m:Nat):Int)- -(k:Int)).toNat=k-lack m:=by omega);rw[a1,a2,Nat.shiftLeft_zero];(have e:m*2 ^ k=m*2 ^ lack m*2 ^ (k-lack m):=by rw[Nat.mul_assoc,<-KE];congr 2;omega);rw[e];exact aaZ neg _ _ (Q6 hm (QU _))
 rw[hkept];have hb:m*2 ^ lack m<2 ^ 53:=by
  have h1:=(YP (k:=m.log2+1) (IJ hm)).1 (YI _);have h2:m*2 ^ lack m<2 ^ (m.log2+1)*2 ^ lack m:=arX h1 (QU _);rw[<-KE]at h2;have e:m.log2+1+lack m=53:=by unfold lack;omega
  rwa [e]at h2
 rw[zH aD]
def fI (n:Int):Nat:=FloatKind.nearest .f64 n
theorem aCF (n:Int):fI n=double.nearest (decide (n<0)) n.natAbs 0:=rfl
theorem QL :fI 0=0:=by decide
def eH (n:Int):Prop:=n.natAbs<2 ^ 53
theorem aw7 {n:Int} (hn:eH n) {k:Nat} (hk:k<=1074):double.nearest (decide (n<0)) (n.natAbs*2 ^ k) (-(k:Int))=fI n:=by
 rw[aCF];rcases H5 n.natAbs with h0|h0
 ·rw[h0,Nat.zero_mul];simp[Format.nearest]
 rw[J6 _ _ _ h0 hn hk];have:=J6 (decide (n<0)) n.natAbs 0 h0 hn aQ;rw[<-this];simp
theorem arA (L:Nat) (h:L=1074):double.read (fI 0)= .number (decide ((0:Int)<0)) ((0:Int).natAbs*2 ^ L) (-(L:Int)):=by rw[Int.natAbs_zero,Nat.zero_mul,QL,h];decide
theorem Z40 {P:Prop} (h:P:=by
 rw[if_neg aD,if_pos aD];have z1:2 ^ 52+(q-2 ^ 52)=q:=by omega
 have z2:(-1074:Int)+((1074-L+1-1:Nat):Int)= -(L:Int):=by omega
 rw[z1,z2];rfl):P:=h
theorem G7 {n:Int} (hn:eH n):∃L:Nat,L<=1074/\double.read (fI n)= .number (decide (n<0)) (n.natAbs*2 ^ L) (-(L:Int)):=by
 rcases H5 n.natAbs with h0|h0
 ·(have:n=0:=by omega);subst this;obtain⟨L,hL⟩:∃L,L=1074:=⟨_,rfl⟩;exact⟨L,by omega,arA L hL⟩
 have hl:n.natAbs.log2<=52:=by have:=(YP (k:=53) (IJ h0)).2 hn;omega
 refine⟨lack n.natAbs,by unfold lack;omega,?_⟩;have e:=J6 (decide (n<0)) n.natAbs 0 h0 hn aQ;have e0:fI n=double.word (decide (n<0)) (((1074-lack n.natAbs:Nat))*2 ^ 52+n.natAbs*2 ^ lack n.natAbs):=by rw[aCF,<-e];simp
 have hb1:n.natAbs*2 ^ lack n.natAbs<2 ^ 53:=by
  have h1:=(YP (k:=n.natAbs.log2+1) (IJ h0)).1 (YI _);have h2:n.natAbs*2 ^ lack n.natAbs<2 ^ (n.natAbs.log2+1)*2 ^ lack n.natAbs:=arX h1 (QU _);rw[<-KE]at h2;have e:n.natAbs.log2+1+lack n.natAbs=53:=by unfold lack;omega
  rwa [e]at h2
 have hb2:2 ^ 52<=n.natAbs*2 ^ lack n.natAbs:=by
  have h1:=(Nat.le_log2 (k:=n.natAbs.log2) (IJ h0)).1 (jL _);have h2:2 ^ n.natAbs.log2*2 ^ lack n.natAbs<=n.natAbs*2 ^ lack n.natAbs:=aiZ _ h1;rw[<-KE]at h2;have e:n.natAbs.log2+lack n.natAbs=52:=by unfold lack;omega
  rwa [e]at h2
 have hlk:lack n.natAbs<=52:=by unfold lack;omega
 rw[e0];generalize n.natAbs*2 ^ lack n.natAbs=q at hb1 hb2 ⊢;generalize lack n.natAbs=L at hlk ⊢;have hr:(1074-L)*2 ^ 52+q<2 ^ 63:=by omega
 have hd:((1074-L)*2 ^ 52+q)/2 ^ 52=1074-L+1:=by omega
 have hm:((1074-L)*2 ^ 52+q)%2 ^ 52=q-2 ^ 52:=by omega
 have e1:double.leastPlace= -1074:=by decide
 have e3:double.binade=2 ^ 52:=rfl;have e4:double.infRung=2047*2 ^ 52:=by decide
 have e5:double.signWeight=2 ^ 63:=rfl;unfold Format.read Format.word;rw[e1,e3,e4,e5];cases decide (n<0)with
 |false=>(have a1:((1074-L)*2 ^ 52+q)/2 ^ 63%2=0:=by omega);have a2:((1074-L)*2 ^ 52+q)%2 ^ 63=(1074-L)*2 ^ 52+q:=Nat.mod_eq_of_lt hr;simp only[I8,if_false,a1,a2,hd,hm];exact Z40
 |true=>(have a1:(2 ^ 63+((1074-L)*2 ^ 52+q))/2 ^ 63%2=1:=by omega);(have a2:(2 ^ 63+((1074-L)*2 ^ 52+q))%2 ^ 63=(1074-L)*2 ^ 52+q:=by omega);simp only[if_true,a1,a2,hd,hm];exact Z40
theorem wH (n:Int) (L K:Nat) (h:L<=K):signed (decide (n<0)) (n.natAbs*2 ^ L) (-(L:Int)- -(K:Int)).toNat=n*2 ^ K:=by
 have e:(-(L:Int)- -(K:Int)).toNat=K-L:=by omega
 rw[e];unfold signed;rw[Nat.shiftLeft_eq,Nat.mul_assoc,<-KE,Nat.add_sub_cancel' h];have hc:((n.natAbs*2 ^ K:Nat):Int)=(n.natAbs:Int)*2 ^ K:=by simp
 rw[hc];by_cases h0:n<0
 ·rw[if_pos (by simpa using h0)];(have:(n.natAbs:Int)= -n:=by omega);rw[this,Int.neg_mul,Int.neg_neg]
 rw[if_neg (by simpa using h0)];have:(n.natAbs:Int)=n:=by omega
 rw[this]
theorem adF (a b:Nat):min (-(a:Int)) (-(b:Int))= -((max a b:Nat):Int):=by omega
theorem alU (s:Bool) (m u:Nat):signed (!s) m u= -(signed s m u):=by unfold signed;cases s<;>simp
theorem PL (K:Nat):(0:Int)<2 ^ K:=by
 have:=QU K;have e:((2 ^ K:Nat):Int)=2 ^ K:=by simp
 omega
theorem WA {a b:Int} {K:Nat} (hs:eH (a+b)) (hK:K<=1074) (z:Bool) (hz:a+b=0->z=false):
  double.write (.number (if a*2 ^ K+b*2 ^ K=0 then z else decide (a*2 ^ K+b*2 ^ K<0)) (a*2 ^ K+b*2 ^ K).natAbs (-(K:Int)))=fI (a+b):=by
 rw[<-Int.add_mul];have hp:=PL K;have hna:((a+b)*2 ^ K).natAbs=(a+b).natAbs*2 ^ K:=by rw[Int.natAbs_mul,Int.natAbs_pow];rfl
 rw[hna];have hneg:(if(a+b)*2 ^ K=0 then z else decide ((a+b)*2 ^ K<0))=decide (a+b<0):=by
  by_cases h0:a+b=0
  ·rw[h0,Int.zero_mul,if_pos rfl,hz h0];rfl
  have h1:(a+b)*2 ^ K≠0:=Int.mul_ne_zero h0 aD;rw[if_neg h1];apply decide_eq_decide.2;constructor
  ·intro h;rw[Int.mul_comm]at h;exact Int.neg_of_mul_neg_right h aD
  intro h;exact Int.mul_neg_of_neg_of_pos h hp
 rw[hneg];exact aw7 hs hK
theorem aw8 {a b:Int} (ha:eH a) (hb:eH b) (hs:eH (a+b)):floatBits .add .f64 (fI a) (fI b)=some (fI (a+b)):=by
 obtain⟨L,hL,ra⟩:=G7 ha;obtain⟨M,hM,rb⟩:=G7 hb;show double.add (fI a) (fI b)=_
 unfold Format.add;rw[ra,rb];unfold Datum.sum;simp only[adF,PQ];rw[wH a L _ (Nat.le_max_left _ _),wH b M _ (Nat.le_max_right _ _)];congr 1;refine WA hs aD _ fun h=>?_
 by_cases h1:a<0
 ·(have:¬b<0:=by omega);simp[this]
 simp[h1]
theorem aw9 {a b:Int} (ha:eH a) (hb:eH b) (hs:eH (a-b)):floatBits .sub .f64 (fI a) (fI b)=some (fI (a-b)):=by
 obtain⟨L,hL,ra⟩:=G7 ha;obtain⟨M,hM,rb⟩:=G7 hb;show double.sub (fI a) (fI b)=_
 unfold Format.sub;rw[ra,rb];unfold Datum.opposite Datum.sum;simp only[adF,PQ];rw[alU,wH a L _ (Nat.le_max_left _ _),wH b M _ (Nat.le_max_right _ _)];congr 1;rw[<-Int.neg_mul];refine WA (b:= -b) (by simpa[Int.sub_eq_add_neg]using hs) aD _ fun h=>?_
 by_cases h1:a<0
 ·(have:b<0:=by omega);simp[this]
 simp[h1]
theorem asP {a b:Int} (ha:eH a) (hb:eH b):double.order (fI a) (fI b)=some (compare a b):=by
 obtain⟨L,hL,ra⟩:=G7 ha;obtain⟨M,hM,rb⟩:=G7 hb;unfold Format.order;rw[ra,rb];unfold Datum.order;simp only[adF];rw[wH a L _ (Nat.le_max_left _ _),wH b M _ (Nat.le_max_right _ _)];congr 1;have hp:=PL (max L M);rcases Int.lt_trichotomy a b with h|h|h
 ·rw[Int.compare_eq_lt.2 h,Int.compare_eq_lt];exact Int.mul_lt_mul_of_pos_right h hp
 ·subst h;rw[Int.compare_eq_eq.2 rfl];exact(Int.compare_eq_eq.2 rfl).symm
 rw[Int.compare_eq_gt.2 h,Int.compare_eq_gt];exact Int.mul_lt_mul_of_pos_right h hp
end Go.Proofs.YteihmbaimbogaaaGreat
namespace Go.Proofs.YteihmbaimbogaaaGreat
def iH (b i:Int):Value:=.complex .f64 (fI b) (fI i)
open Go.RowKit
abbrev BM :=List (Nat×Value×List UInt8)
def KN (n:Nat):Lit:=.int .i64 (n:Int)
def jK (M:BM):List (Lit×Value):=M.map fun x=>(KN x.1,x.2.1)
def dV (M:BM) (k:Nat):Option (Value×List UInt8):=(M.find? fun x=>x.1==k).map (·.2)
def iP (M:BM) (k:Nat):BM:=M.filter fun x=> !(x.1==k)
def fG (M:BM):List bK:=M.map fun x=>aL x.2.1 x.2.2
def jJ (b:Nat) (M:BM):bK:=.star (rP 3 b (jK M)) (.dZ (fG M))
def XF (b:Nat) (M:BM) (k:Nat):bK:=.star (rP 3 b (jK M)) (.dZ (fG (iP M k)))
theorem axA (n:Nat):WideAt.IsKeyLit (KN n):=by simp[KN,WideAt.IsKeyLit]
theorem aa0 (a b:Nat):(KN a).sameKey (KN b)=(a==b):=by
 by_cases h:a=b
 ·subst h;rw[WideAt.sameKey_self (axA a)];simp
 rw[mM.2 h];cases hs:(KN a).sameKey (KN b)with
 |false=>rfl
 |true=>have:=WideAt.sameKey_eq hs;unfold KN at this;injection this with _ h2;exact absurd aD h
theorem aiE (M:BM) (k:Nat):getM (jK M) (KN k)=(dV M k).map (·.1):=by
 unfold getM dV jK
 induction M with
 |nil=>rfl
 |cons x M ih=>
  rw[mH,MS,MS];simp only[aa0];cases h:x.1==k with
  |true=>rfl
  |false=>exact ih
theorem aeV (M:BM) (k:Nat):FR (jK M) (KN k)=jK (iP M k):=by unfold FR jK iP;rw[List.filter_map];congr 1;apply List.filter_congr;intro x _;simp[aa0]
theorem R3 (M:BM) (k:Nat) (v:Value) (bs:List UInt8):YB (jK M) (KN k) v=jK (iP M k++[(k,v,bs)]):=by unfold YB;rw[aeV];unfold jK;simp
theorem kY (n:Nat) (h:n<=100000):keyOf Tryz.prog 3 (.int .i64 n)=some (KN n):=Maps.keyOf_int_mk Tryz.underlying3 (by simp[Lit.wf,IntKind.min,IntKind.max,IntKind.signed,IntKind.bits];omega)
theorem WB (w:World):(zeroValue 35).run Tryz.prog w= .ok (.slice none 0 0) w:=by kernel_rfl
theorem nC {M:BM} {k:Nat} {x:Value×List UInt8} (h:dV M k=some x):(k,x)∈M:=by
 unfold dV at h;rw[QW]at h;obtain⟨y,h1,rfl⟩:=h;have h2:=aa6 h1;have h3:=PM h1;have:y.1=k:=by simpa using h2
 rw[<-this];exact h3
theorem alV {M:BM} {k:Nat} (h:dV M k=none):∀x∈M,x.1≠k:=by unfold dV at h;rw[adW,zI]at h;intro x hx;simpa using h x hx
theorem N7 {M:BM} {k:Nat} (h:dV M k=none):iP M k=M:=by unfold iP;rw[List.filter_eq_self];intro x hx;simpa using alV h x hx
section
variable {w0 w:World} {As R:List bK} {b:Nat} {M:BM}
theorem Sep.alW (i:Nat) (h:Sep w0 w As) (hi:As[i]? =some (jJ b M)):Sep w0 w (rP 3 b (jK M):: .dZ (fG M)::(As.take i++As.drop (i+1))):=by have e:=(oI hi).1;rw[e]at h;exact(h.perm rF).kX
theorem Sep.abC (i:Nat) (h:Sep w0 w As) (hi:As[i]? =some (jJ b M)) (k:Nat) (hk:k<=100000):
  (Instr.lookup 98 (.map (some b)) (.int .i64 k) true).run Tryz.prog w= .ok (.tuple #[((dV M k).map (·.1)).getD (.slice none 0 0),.bool (dV M k).isSome]) w:=by
 have h1:=(h.alW i hi).aCE 0 rfl gT Tryz.underlying98 (WB w) (kY k hk);rw[aiE]at h1;rw[h1];cases dV M k<;>rfl
theorem Z35 {P:Prop} (h:P:=by exact h2.rd (sz:=1) (e:=5) j (by rw[G8 (by unfold fG;rw[kV];exact hj)];unfold fG;rw[lQ,gE hj,e];rfl)):P:=h
theorem Sep.axB (i:Nat) (h:Sep w0 w As) (hi:As[i]? =some (jJ b M)) {k:Nat} {v:Value} {bs:List UInt8} (hf:dV M k=some (v,bs)):BytesAt w v bs:=by have h1:=(h.alW i hi).drop 1;have h2:Sep w0 w (fG M++(As.take i++As.drop (i+1))):=h1.bE;obtain⟨j,hj,e⟩:=QV (nC hf);exact Z35
theorem Z69 {P:Prop} (h:P:=by
 unfold jK at h1;rw[XA]at h1;rw[ad4,XA];refine h1.imp fun h e=>h ?_
 simp only[e]):P:=h
theorem Sep.RP (i:Nat) (h:Sep w0 w As) (hi:As[i]? =some (jJ b M)):(M.map (·.1)).Nodup:=by have h1:=((h.alW i hi).QC 0 rfl).ne;exact Z69
theorem arB {M:BM} {k:Nat} {v:Value} {bs:List UInt8} (hn:(M.map (·.1)).Nodup) (hf:dV M k=some (v,bs)):(fG M).Perm (aL v bs::fG (iP M k)):=by
 induction M with
 |nil=>cases hf
 |cons x M ih=>
  rw[mH,I9]at hn;unfold dV at hf;rw[MS]at hf;cases hx:x.1==k with
  |true=>rw[hx]at hf;simp at hf;(have hk:x.1=k:=by simpa using hx);(have hno:dV M k=none:=by unfold dV;rw[adW,zI];intro y hy hyk;(have:y.1=k:=by simpa using hyk);exact hn.1 (List.mem_map.2 ⟨y,hy,by rw[this,hk]⟩));(have e1:iP (x::M) k=M:=by unfold iP;rw[zG,hx];exact N7 hno);rw[e1];unfold fG;rw[mH,hf]
  |false=>rw[hx]at hf;have h1:=ih hn.2 hf;(have e1:iP (x::M) k=x::iP M k:=by unfold iP;rw[zG,hx];rfl);rw[e1];unfold fG at h1 ⊢;rw[mH,mH];exact(List.Perm.cons _ h1).trans (List.Perm.swap _ _ _)
theorem Sep.aAK {k:Nat} {v:Value} {bs:List UInt8} (h:Sep w0 w (jJ b M::R)) (hf:dV M k=some (v,bs)):Sep w0 w (aL v bs::XF b M k::R):=by have hn:=h.RP 0 rfl;have h1:=h.kX;have h2:Sep w0 w (.dZ (fG M)::rP 3 b (jK M)::R):=h1.perm (List.Perm.swap _ _ _);have h3:=h2.bE;have h4:Sep w0 w (aL v bs::(fG (iP M k)++(rP 3 b (jK M)::R))):=h3.perm ((arB hn hf).append_right _);have h5:Sep w0 w (fG (iP M k)++(aL v bs::rP 3 b (jK M)::R)):=h4.perm rF.symm;have h6:=h5.dG;have h7:Sep w0 w (rP 3 b (jK M):: .dZ (fG (iP M k))::aL v bs::R):=Sep.dE [2,0,1] h6 aQ bM;exact(h7.nW).perm (List.Perm.swap _ _ _)
theorem Sep.KJ {k:Nat} (h:Sep w0 w (jJ b M::R)) (hf:dV M k=none):Sep w0 w (XF b M k::R):=by unfold XF;rw[N7 hf];exact h
theorem Sep.aAL {k:Nat} {v:Value} {bs:List UInt8} (h:Sep w0 w (XF b M k::aL v bs::R)) (hk:k<=100000) (hlen:M.length<100000):
  ∃w',(Instr.mapUpdate 98 (.map (some b)) (.int .i64 k) v).run Tryz.prog w= .ok () w'/\Sep w0 w' (jJ b (iP M k++[(k,v,bs)])::R):=by
 have h1:=h.kX;obtain⟨w',hrun,h2⟩:=h1.uU 0 rfl gT Tryz.underlying98 (by unfold jK;rw[kV];unfold maxLen;omega) (v:=v) (kY k hk);refine⟨w',hrun,?_⟩;rw[R3 M k v bs]at h2;have h3:Sep w0 w' (.dZ (fG (iP M k))::rP 3 b (jK (iP M k++[(k,v,bs)]))::aL v bs::R):=h2.perm (List.Perm.swap _ _ _);have h4:=h3.bE;have e:fG (iP M k++[(k,v,bs)])=fG (iP M k)++[aL v bs]:=by unfold fG;simp
 have h5:Sep w0 w' (fG (iP M k++[(k,v,bs)])++(rP 3 b (jK (iP M k++[(k,v,bs)]))::R)):=by rw[e,uN];refine h4.perm (YD _ ?_);exact List.Perm.swap _ _ _
 exact((h5.dG).perm (List.Perm.swap _ _ _)).nW
theorem Sep.F4 {k:Nat} {v:Value} {bs:List UInt8} (h:Sep w0 w (jJ b M::aL v bs::R)) (hk:k<=100000) (hlen:M.length<100000) (hf:dV M k=none):
  ∃st w1 w2,(Instr.mapEntry 98 (.map (some b)) (.int .i64 k)).run Tryz.prog w= .ok (.tuple #[.slice none 0 0,iV st]) w1/\(Instr.entryStore 98 (.map (some b)) (.int .i64 st) v).run Tryz.prog w1= .ok () w2/\Sep w0 w2 (jJ b (M++[(k,v,bs)])::R):=by
 have h1:=h.kX;obtain⟨st,w1,w2,r1,r2,h2,_⟩:=h1.aw6 0 rfl gT Tryz.underlying98 WB (by unfold jK;rw[kV];unfold maxLen;omega) (val:=v) (kY k hk) (by rw[aiE,hf];rfl);refine⟨st,w1,w2,r1,r2,?_⟩;rw[R3 M k v bs,N7 hf]at h2;have h3:Sep w0 w2 (.dZ (fG M)::rP 3 b (jK (M++[(k,v,bs)]))::aL v bs::R):=h2.perm (List.Perm.swap _ _ _);have h4:=h3.bE;have e:fG (M++[(k,v,bs)])=fG M++[aL v bs]:=by unfold fG;simp
 have h5:Sep w0 w2 (fG (M++[(k,v,bs)])++(rP 3 b (jK (M++[(k,v,bs)]))::R)):=by rw[e,uN];refine h4.perm (YD _ ?_);exact List.Perm.swap _ _ _
 exact((h5.dG).perm (List.Perm.swap _ _ _)).nW
theorem Sep.vK (h:Sep w0 w R):Sep w0 (w.alloc (.map #[] 0)) (jJ w.heap.size []::R):=by have h1:=h.atF 3;have h2:Sep w0 (w.alloc (.map #[] 0)) (.dZ (fG [])::rP 3 w.heap.size (jK [])::R):=h1.wK;exact(h2.perm (List.Perm.swap _ _ _)).nW
end
structure VS where
 nb:Nat
 names:Nat
 D:DK
 cur:fO
 wB:Int
 wI:Int
 nodes:Int
 rB:Int
 rI:Int
 m:Nat
structure VA where
 sb:Option Nat
 SM:BM
 fb:Nat
 FM:BM
structure VC (S:VS) (a:VA):Prop where
 pI:S.D.ok S.nb
 big:96<S.nb
 on:S.D.off=false
 cur:l8 (S.nb-96) S.cur
 seen:∀x∈a.SM,x.1<S.nb-96/\x.2.2=bk S.D.now (96+x.1)
 fresh:∀x∈a.FM,x.1<S.nb-96/\x.2.2=bk S.cur x.1
 rest:∀k,k<S.nb-96->dV a.FM k=none->bk S.cur k=bk S.D.now (96+k)
 few:a.FM.length<=S.m
 none:a.sb=none->a.SM=[]
def l7 (f q:Nat) (S:VS) (sb:Option Nat) (fv:Value) (dead:Bool):bK:=
 .box f 106 #[pV q,.map sb,fv,iV S.names,.bool dead,iH S.wB S.wI,iV S.nodes,iH S.rB S.rI]
def fH :Option Nat->BM->bK
 |none,_=>.emp
 |some b,M=>jJ b M
def pK (f q p:Nat) (S:VS) (a:VA):List bK:=[l7 f q S a.sb (.map (some a.fb)) false,aG q p false,aN p S.D,fH a.sb a.SM,jJ a.fb a.FM]
def aF (f q p:Nat) (S:VS) (a:VA):bK:=.dZ (pK f q p S a)
def DV (f q p:Nat) (S:VS) (a:VA) (k:Nat):bK:=.dZ [l7 f q S a.sb (.map (some a.fb)) false,aG q p false,aN p S.D,fH a.sb a.SM,XF a.fb a.FM k]
def alX (a:VA) (k:Nat) (v:Value) (bs:List UInt8):Prop:=dV a.FM k=some (v,bs)\/(dV a.FM k=none/\dV a.SM k=some (v,bs))
section
variable {w0 w:World} {R:List bK} {f q p:Nat} {S:VS} {a:VA}
theorem VC.short (h:VC S a) (hn:(a.SM.map (·.1)).Nodup):a.SM.length<=4000:=by
 have h1:(a.SM.map (·.1)).length<=(List.range (S.nb-96)).length:=anW hn fun x hx=>by obtain⟨y,hy,rfl⟩:=List.mem_map.1 hx;exact List.mem_range.2 (h.seen y hy).1
 have h2:=h.pI.few;rw[kV,QY]at h1;omega
theorem VC.asO (h:VC S a) (hn:(a.FM.map (·.1)).Nodup):a.FM.length<=4000:=by
 have h1:(a.FM.map (·.1)).length<=(List.range (S.nb-96)).length:=anW hn fun x hx=>by obtain⟨y,hy,rfl⟩:=List.mem_map.1 hx;exact List.mem_range.2 (h.fresh y hy).1
 have h2:=h.pI.few;rw[kV,QY]at h1;omega
theorem Z47 {P:Prop} (h:P:=by
 cases hs:a.sb with
 |none=>rw[hn hs]at hf;cases hf
 |some b=>refine h1.axB (b:=b) 3 ?_ hf;(show some (fH a.sb a.SM)=_);rw[hs];rfl):P:=h
theorem Sep.QA (h:Sep w0 w (aF f q p S a::R)) {k:Nat} {v:Value} {bs:List UInt8} (hp:alX a k v bs) (hn:a.sb=none->a.SM=[]):BytesAt w v bs:=by
 have h1:=h.bE;rcases hp with hf|⟨_,hf⟩
 ·exact h1.axB 4 rfl hf
 exact Z47
theorem alX.tells {k:Nat} {v:Value} {bs:List UInt8} (hp:alX a k v bs) (hn:a.sb=none->a.SM=[]):jB w0 (aF f q p S a::R) v bs:=fun w' X hS=>by have h1:Sep w0 w' (aF f q p S a::(X++R)):=hS.perm rF;exact h1.QA hp hn
theorem VC.axC (h:VC S a) {k:Nat} (hk:k<S.nb-96):(bk S.cur k).length=512:=kJ h.cur hk
theorem VC.amL (h:VC S a) {k:Nat} (hk:k<S.nb-96):(bk S.D.now (96+k)).length=512:=kJ h.pI.now aD
theorem Z14 {P:Prop} (h:P:=by
 obtain⟨b,hb⟩:∃b,a.sb=some b:=by
  cases hs:a.sb with
  |none=>rw[hC.none hs]at hf;cases hf
  |some b=>exact⟨b,rfl⟩
 have h1:=h.bE;have hl:=h1.abC (b:=b) (M:=a.SM) 3 (by show some (fH a.sb a.SM)=_;rw[hb];rfl) i (by have:=hC.pI.few;omega);rw[hf]at hl;simp only[PQ,PO,Option.isSome_some]at hl;have c1:=h1.bC 0 rfl 1;rw[hb]at c1;simp only[gA,gB,gC]at c1;clear h1 h hC;go_enter Tryz.func136,Tryz.ntmps136;go_wp2_with fail;go_ret;exact⟨rfl,rfl⟩):P:=h
theorem aAM {i:Nat} {v:Value} {bs:List UInt8} (hC:VC S a) (hi:i<S.nb-96) (hf:dV a.SM i=some (v,bs)) (h:Sep w0 w (aF f q p S a::R)):
  Calls Tryz.prog 136 #[pV f,iV i] w fun e w'=>e= .returned v/\w'=w:=by
 exact Z14
def VA.read (a:VA) (b i:Nat) (v:Value) (bs:List UInt8):VA:= {a with sb:=some b,SM:=a.SM++[(i,v,bs)]}
theorem M0 {M:BM} {k:Nat} {v:Value} {bs:List UInt8} (h:dV M k=none):dV (M++[(k,v,bs)]) k=some (v,bs):=by unfold dV at h ⊢;rw[adW]at h;rw[amD,h,MS];simp
theorem VC.read (hC:VC S a) (b:Nat) {i:Nat} (v:Value) (hi:i<S.nb-96):VC S (a.read b i v (bk S.D.now (96+i))):=
 ⟨hC.pI,hC.big,hC.on,hC.cur,fun x hx=>by
  rcases gX.1 hx with hx|hx
  ·exact hC.seen x hx
  rw[BB]at hx;subst hx;exact⟨hi,rfl⟩,hC.fresh,hC.rest,hC.few,fun h=>by cases h⟩
theorem dU (x:Int) (w:World):Calls Tryz.prog 43 #[iV x] w fun e w'=>e=(if x=0 then .returned (.tuple #[])else .panicked [{v:=.iface 153 (.agg #[iV x]),recovered:=false}])/\w'=w:=by
 by_cases hx:x=0
 ·subst hx;go_enter Tryz.func43,Tryz.ntmps43;go_wp2_with fail
  go_end0
  exact⟨rfl,rfl⟩
 rw[if_neg hx];go_enter Tryz.func43,Tryz.ntmps43;go_wp2_with fail;exact⟨rfl,rfl,rfl⟩
theorem arC (b:Nat) (w:World):(binOp .eql 98 (.map (some b)) (.map none)).run Tryz.prog w= .ok (.bool false) w:=by kernel_rfl
theorem arD (w:World):(binOp .eql 98 (.map none) (.map none)).run Tryz.prog w= .ok (.bool true) w:=by kernel_rfl
theorem KM (k:Nat) (w:World):(Instr.lookup 98 (.map none) (.int .i64 k) true).run Tryz.prog w= .ok (.tuple #[.slice none 0 0,.bool false]) w:=by kernel_rfl
theorem Z24 {P:Prop} (h:P:=by clear hC hlen hi2 hi hnd h;have hm0:=arC b;go_enter Tryz.func136,Tryz.ntmps136;go_wp2_with(first |(go_at_call 172;refine hrd.mono ?_;rintro e w9 ⟨v,rfl,h9⟩;obtain⟨k1,st,w1,w2,r1,r2,h7⟩:=hend _ _ h9)|(go_at_call 43;refine(dU _ _).mono ?_;rintro e w8 ⟨rfl,h8⟩;obtain rfl:=h8.symm));go_ret;exact⟨_,rfl,h7⟩):P:=h
theorem axD {i b:Nat} (hC:VC S a) (hi:i<S.nb-96) (hf:dV a.SM i=none) (hb:a.sb=some b) (h:Sep w0 w (aF f q p S a::R)):
  Calls Tryz.prog 136 #[pV f,iV i] w fun e w'=>∃v,e= .returned v/\Sep w0 w' (aF f q p S (a.read b i v (bk S.D.now (96+i)))::R):=by
 have h1:=h.bE;unfold pK at h1;rw[hb]at h1;have hnd:=h1.RP (b:=b) (M:=a.SM) 3 rfl;have hlen:=hC.short hnd;have hi2:i<=100000:=by have:=hC.pI.few;omega
 have hl:=h1.abC (b:=b) (M:=a.SM) 3 rfl i hi2;rw[hf]at hl;simp only[aeE,aeB,al9]at hl;have c1:=h1.bC 0 rfl 1;have c0:=h1.bC 0 rfl 0;simp only[gA,gB,gC]at c0 c1;have hrd:=xU (i:=i) (R:=l7 f q S (some b) (.map (some a.fb)) false::jJ b a.SM::jJ a.fb a.FM::R) hC.pI hC.big aD hC.on (Sep.dE [1,2,0] h1 aQ bM);have hend:∀W v,Sep w0 W (aL v (bk S.D.now (96+i))::aG q p false::aN p S.D::l7 f q S (some b) (.map (some a.fb)) false::jJ b a.SM::jJ a.fb a.FM::R)->
   W.cell? ⟨f,1,none⟩=some (.map (some b))/\∃st w1 w2,(Instr.mapEntry 98 (.map (some b)) (.int .i64 i)).run Tryz.prog W= .ok (.tuple #[.slice none 0 0,iV st]) w1/\(Instr.entryStore 98 (.map (some b)) (.int .i64 st) v).run Tryz.prog w1= .ok () w2/\Sep w0 w2 (aF f q p S (a.read b i v (bk S.D.now (96+i)))::R):=fun W v hS=>by
  have k1:=hS.bC 3 rfl 1;simp only[gA,gB,gC]at k1;have h2:Sep w0 W (jJ b a.SM::aL v (bk S.D.now (96+i))::l7 f q S (some b) (.map (some a.fb)) false::aG q p false::aN p S.D::jJ a.fb a.FM::R):=Sep.dE [4,0,3,1,2] hS aQ bM;obtain⟨st,w1,w2,r1,r2,h3⟩:=h2.F4 hi2 aD hf;refine⟨k1,st,w1,w2,r1,r2,?_⟩;have h4:Sep w0 w2 (pK f q p S (a.read b i v (bk S.D.now (96+i)))++R):=Sep.dE [1,2,3,0] h3 aQ bM;exact h4.dG
 exact Z24
theorem Z23 {P:Prop} (h:P:=by clear hC hi2 hi h h1;have hm0:=arD;have hmm:= @run_makeMap Tryz.prog;go_enter Tryz.func136,Tryz.ntmps136;go_wp2_with(first |(go_at_call 172;refine hrd.mono ?_;rintro e w9 ⟨v,rfl,h9⟩;obtain⟨k1,k2,k3,k4,st,w1,w2,r1,r2,h7⟩:=hend _ _ h9;clear c1)|(go_at_call 43;refine(dU _ _).mono ?_;rintro e w8 ⟨rfl,h8⟩;obtain rfl:=h8.symm));go_ret;exact⟨_,_,rfl,h7⟩):P:=h
theorem aAN {i:Nat} (hC:VC S a) (hi:i<S.nb-96) (hb:a.sb=none) (h:Sep w0 w (aF f q p S a::R)):
  Calls Tryz.prog 136 #[pV f,iV i] w fun e w'=>∃v b,e= .returned v/\Sep w0 w' (aF f q p S (a.read b i v (bk S.D.now (96+i)))::R):=by
 have h1:=h.bE;unfold pK at h1;rw[hb]at h1;have hi2:i<=100000:=by have:=hC.pI.few;omega
 have hl:=KM i w;have c1:=h1.bC 0 rfl 1;have c0:=h1.bC 0 rfl 0;simp only[gA,gB,gC]at c0 c1;have hrd:=xU (i:=i) (R:=l7 f q S none (.map (some a.fb)) false::jJ a.fb a.FM::R) hC.pI hC.big aD hC.on ((Sep.dE [3,1,2,0] h1 aQ bM).drop 1);have hSM:=hC.none hb;have hend:∀W v,Sep w0 W (aL v (bk S.D.now (96+i))::aG q p false::aN p S.D::l7 f q S none (.map (some a.fb)) false::jJ a.fb a.FM::R)->
   W.cell? ⟨f,1,none⟩=some (.map none)/\(W.alloc (.map #[] 0)).frozen? ⟨f,1,none⟩=false/\(W.alloc (.map #[] 0)).cell? ⟨f,1,none⟩=some (.map none)/\
   ((W.alloc (.map #[] 0)).setCell ⟨f,1,none⟩ (.map (some W.heap.size))).cell? ⟨f,1,none⟩=some (.map (some W.heap.size))/\∃st w1 w2,(Instr.mapEntry 98 (.map (some W.heap.size)) (.int .i64 i)).run Tryz.prog ((W.alloc (.map #[] 0)).setCell ⟨f,1,none⟩ (.map (some W.heap.size)))= .ok (.tuple #[.slice none 0 0,iV st]) w1/\(Instr.entryStore 98 (.map (some W.heap.size)) (.int .i64 st) v).run Tryz.prog w1= .ok () w2/\Sep w0 w2 (aF f q p S (a.read W.heap.size i v (bk S.D.now (96+i)))::R):=fun W v hS=>by
  have k1:=hS.bC 3 rfl 1;have h2:=hS.vK;have k2:=h2.bC 4 rfl 1;have k3:=h2.bF 4 rfl 1;have h3:=h2.bS 4 rfl 1 (.map (some W.heap.size));have k4:=h3.bC 4 rfl 1;simp only[gA,gB,gC]at k1 k2;refine⟨k1,k3,k2,?_,?_⟩
  ·rw[k4];rfl
  have h4:Sep w0 ((W.alloc (.map #[] 0)).setCell ⟨f,1,none⟩ (.map (some W.heap.size))) (jJ W.heap.size []::aL v (bk S.D.now (96+i))::l7 f q S (some W.heap.size) (.map (some a.fb)) false::aG q p false::aN p S.D::jJ a.fb a.FM::R):=Sep.dE [0,1,4,2,3] h3 aQ bM;obtain⟨st,w1,w2,r1,r2,h5⟩:=h4.F4 (k:=i) hi2 bM rfl;refine⟨st,w1,w2,r1,r2,?_⟩;(have h6:Sep w0 w2 (pK f q p S (a.read W.heap.size i v (bk S.D.now (96+i)))++R):=by unfold pK VA.read;rw[hSM];exact Sep.dE [1,2,3,0] h5 aQ bM);exact h6.dG
 exact Z23
structure Reads (S:VS) (a a':VA):Prop where
 ok:VC S a'
 fb:a'.fb=a.fb
 FM:a'.FM=a.FM
 more:∀k x,dV a.SM k=some x->dV a'.SM k=some x
theorem Reads.refl (h:VC S a):Reads S a a:=⟨h,rfl,rfl,fun _ _ h=>h⟩
theorem Reads.trans {b c:VA} (h1:Reads S a b) (h2:Reads S b c):Reads S a c:=⟨h2.ok,h2.fb.trans h1.fb,h2.FM.trans h1.FM,fun k x h=>h2.more k x (h1.more k x h)⟩
theorem MZ {M N:BM} {k:Nat} {x:Value×List UInt8} (h:dV M k=some x):dV (M++N) k=some x:=by unfold dV at h ⊢;rw[QW]at h;obtain⟨y,h1,h2⟩:=h;rw[amD,h1,Option.some_or,PQ,h2]
theorem Z54 {P:Prop} (h:P:=by rintro e w' ⟨rfl,rfl⟩;refine⟨_,a,rfl,.refl hC,?_,h⟩;have h2:x.2=bk S.D.now (96+i):=hx.2;rw[hf,<-h2]):P:=h
theorem anT {i:Nat} (hC:VC S a) (hi:i<S.nb-96) (h:Sep w0 w (aF f q p S a::R)):
  Calls Tryz.prog 136 #[pV f,iV i] w fun e w'=>∃v a',e= .returned v/\Reads S a a'/\dV a'.SM i=some (v,bk S.D.now (96+i))/\Sep w0 w' (aF f q p S a'::R):=by
 cases hf:dV a.SM i with
 |some x=>have hx:=hC.seen _ (nC hf);refine(aAM hC hi (v:=x.1) (bs:=x.2) hf h).mono ?_;exact Z54
 |none=>
  have key:∀b v,Reads S a (a.read b i v (bk S.D.now (96+i)))/\dV (a.read b i v (bk S.D.now (96+i))).SM i=some (v,bk S.D.now (96+i)):=fun b v=>
   ⟨⟨hC.read b v hi,rfl,rfl,fun k x hx=>MZ hx⟩,M0 hf⟩
  cases hb:a.sb with
  |some b=>refine(axD hC hi hf hb h).mono ?_;rintro e w' ⟨v,rfl,h9⟩;exact⟨v,_,rfl,(key b v).1,(key b v).2,h9⟩
  |none=>refine(aAN hC hi hb h).mono ?_;rintro e w' ⟨v,b,rfl,h9⟩;exact⟨v,_,rfl,(key b v).1,(key b v).2,h9⟩
theorem WC {i:Nat} (hC:VC S a) (hi:i<S.nb-96) (h:Sep w0 w (aF f q p S a::R)):
  w.cell? ⟨f,2,none⟩=some (.map (some a.fb))/\(Instr.lookup 98 (.map (some a.fb)) (.int .i64 i) true).run Tryz.prog w= .ok (.tuple #[((dV a.FM i).map (·.1)).getD (.slice none 0 0),.bool (dV a.FM i).isSome]) w:=by
 have h1:=h.bE;refine⟨?_,h1.abC 4 rfl i (by have:=hC.pI.few;omega)⟩;have c1:=h1.bC 0 rfl 2;simpa using c1
theorem RF {i:Nat} (hC:VC S a) (hi:i<S.nb-96) (h:Sep w0 w (aF f q p S a::R)):
  Calls Tryz.prog 122 #[pV f,iV i] w fun e w'=>∃v a',e= .returned v/\Reads S a a'/\alX a' i v (bk S.cur i)/\Sep w0 w' (aF f q p S a'::R):=by
 obtain⟨c2,hl⟩:=WC hC hi h;have ho:=anT hC hi h;cases hf:dV a.FM i with
 |some x=>rw[hf]at hl;simp only[PQ,PO,Option.isSome_some]at hl;have hx:x.2=bk S.cur i:=(hC.fresh _ (nC hf)).2;have hp:alX a i x.1 (bk S.cur i):=.inl (by rw[hf,<-hx]);have hR:=Reads.refl hC;clear ho hC hi hf hx;go_enter Tryz.func122,Tryz.ntmps122;go_wp2_with fail;go_ret;exact⟨_,a,rfl,hR,hp,h⟩
 |none=>rw[hf]at hl;simp only[aeE,aeB,al9]at hl;have hr:=hC.rest i hi hf;clear h;go_enter Tryz.func122,Tryz.ntmps122;go_wp2_with(go_at_call 136;refine ho.mono ?_;rintro e w9 ⟨v,a',rfl,hR,hs,h9⟩);go_ret;exact⟨_,a',rfl,hR,.inr ⟨by rw[hR.FM];exact hf,by rw[hr];exact hs⟩,h9⟩
def EC (f q p:Nat) (S:VS) (a:VA) (k:Nat) (v:Value) (w0 w:World) (R:List bK):Prop:=
 (dV a.FM k=some (v,bk S.cur k)/\Sep w0 w (aF f q p S a::R))\/(dV a.FM k=none/\Sep w0 w (aF f q p S a::aL v (bk S.cur k)::R))
theorem EC.out {k:Nat} {v:Value} (h:EC f q p S a k v w0 w R):Sep w0 w (aL v (bk S.cur k)::DV f q p S a k::R):=by
 rcases h with⟨hf,h⟩|⟨hf,h⟩
 ·have h1:=h.bE;have h2:Sep w0 w (jJ a.fb a.FM::l7 f q S a.sb (.map (some a.fb)) false::aG q p false::aN p S.D::fH a.sb a.SM::R):=Sep.dE [4,0,1,2,3] h1 aQ (by simp[pK]);have h3:=h2.aAK hf;have h4:Sep w0 w ([l7 f q S a.sb (.map (some a.fb)) false,aG q p false,aN p S.D,fH a.sb a.SM,XF a.fb a.FM k]++(aL v (bk S.cur k)::R)):=Sep.dE [2,3,4,5,1,0] h3 aQ bM;exact(h4.dG).perm (List.Perm.swap _ _ _)
 have h1:=h.bE;have h2:Sep w0 w (jJ a.fb a.FM::l7 f q S a.sb (.map (some a.fb)) false::aG q p false::aN p S.D::fH a.sb a.SM::aL v (bk S.cur k)::R):=Sep.dE [4,0,1,2,3] h1 aQ (by simp[pK]);have h3:=h2.KJ hf;have h4:Sep w0 w ([l7 f q S a.sb (.map (some a.fb)) false,aG q p false,aN p S.D,fH a.sb a.SM,XF a.fb a.FM k]++(aL v (bk S.cur k)::R)):=Sep.dE [1,2,3,4,0] h3 aQ bM;exact(h4.dG).perm (List.Perm.swap _ _ _)
end
def VS.data (S:VS):Nat:=2+(S.names+7)/8
def VS.count (S:VS):Nat:=S.nb-96-S.data
structure VF (S:VS):Prop where
 names:S.names<=1024
 room:96+S.data<S.nb
def VS.put (S:VS) (k:Nat) (bs:List UInt8):VS:= {S with cur:=S.cur.set k bs,m:=S.m+1}
def VA.put (a:VA) (k:Nat) (v:Value) (bs:List UInt8):VA:= {a with FM:=iP a.FM k++[(k,v,bs)]}
theorem arE {M:BM} {k:Nat}:dV (iP M k) k=none:=by unfold dV iP;rw[adW,zI];intro x hx;have:=(List.mem_filter.1 hx).2;simpa using this
theorem adG {M:BM} {k j:Nat} (h:j≠k):dV (iP M k) j=dV M j:=by
 unfold dV iP;congr 1
 induction M with
 |nil=>rfl
 |cons x M ih=>
  rw[zG];by_cases hx:x.1=k
  ·(have e1:(x.1==k)=true:=by simpa using hx);(have e2:(x.1==j)=false:=by simp;omega);rw[e1,MS,e2];exact ih
  (have e1:(x.1==k)=false:=by simpa using hx);rw[e1];simp only[Bool.not_false,if_true];rw[MS,MS,ih]
theorem arF {M:BM} {k:Nat} {v:Value} {bs:List UInt8} (j:Nat):dV (iP M k++[(k,v,bs)]) j=if j=k then some (v,bs)else dV M j:=by
 by_cases e:j=k
 ·subst e;rw[if_pos rfl,M0 arE]
 rw[if_neg e];have h1:=adG (M:=M) e;cases hf:dV (iP M k) j with
 |some x=>rw[MZ hf,<-h1,hf]
 |none=>rw[<-h1,hf];unfold dV at hf ⊢;rw[adW]at hf ⊢;rw[amD,hf,MS];(have e2:(k==j)=false:=by simp;omega);simp[e2]
section
variable {w0 w:World} {R:List bK} {f q p:Nat} {S:VS} {a:VA}
theorem VC.put (hC:VC S a) {k:Nat} (v:Value) {bs:List UInt8} (hk:k<S.nb-96) (hbs:bs.length=512):VC (S.put k bs) (a.put k v bs) where
 pI:=hC.pI
 big:=hC.big
 on:=hC.on
 cur:=hC.cur.set k hbs
 seen:=hC.seen
 fresh:=fun x hx=>by
  (show x.1<S.nb-96/\x.2.2=bk (S.cur.set k bs) x.1);rw[wR _ _ _ _ (by rw[hC.cur.len];exact hk)];rcases gX.1 hx with hx|hx
  ·have h1:=List.mem_filter.1 hx;(have h2:x.1≠k:=by simpa using h1.2);rw[if_neg h2];exact hC.fresh x h1.1
  rw[BB]at hx;subst hx;exact⟨hk,by rw[if_pos rfl]⟩
 rest:=fun j hj hf=>by
  have hf':dV (iP a.FM k++[(k,v,bs)]) j=Option.none:=hf;rw[arF]at hf';(show bk (S.cur.set k bs) j=_);by_cases e:j=k
  ·rw[if_pos e]at hf';cases hf'
  rw[if_neg e]at hf';rw[wR _ _ _ _ (by rw[hC.cur.len];exact hk),if_neg e];exact hC.rest j hj hf'
 few:=by have h1:(iP a.FM k).length<=a.FM.length:=al5 _ _;have h2:=hC.few;(show(iP a.FM k++[(k,v,bs)]).length<=S.m+1);rw[kN];simp only[xL];omega
 none:=hC.none
theorem KF {i:Nat} (hC:VC S a) (hi:i<S.nb-96) (h:Sep w0 w (aF f q p S a::R)):
  Calls Tryz.prog 79 #[pV f,iV i] w fun e w'=>∃v a',e= .returned v/\Reads S a a'/\EC f q p S a' i v w0 w' R:=by
 obtain⟨c2,hl⟩:=WC hC hi h;have ho:=anT hC hi h;cases hf:dV a.FM i with
 |some x=>rw[hf]at hl;simp only[PQ,PO,Option.isSome_some]at hl;have hx:x.2=bk S.cur i:=(hC.fresh _ (nC hf)).2;(have hp:dV a.FM i=some (x.1,bk S.cur i):=by rw[hf,<-hx]);have hR:=Reads.refl hC;clear ho hC hi hf hx;go_enter Tryz.func79,Tryz.ntmps79;go_wp2_with fail;go_ret;exact⟨_,a,rfl,hR,.inl ⟨hp,h⟩⟩
 |none=>rw[hf]at hl;simp only[aeE,aeB,al9]at hl;have hr:=hC.rest i hi hf;have hlen:=hC.amL hi;obtain⟨k0,gN,hk0,hk1,hk2⟩:=lM nX;clear h hi;go_enter Tryz.func79,Tryz.ntmps79;go_wp2_with(first |(go_at_call 136;refine ho.mono ?_;rintro e w9 ⟨v,a',rfl,hR,hs,h9⟩;have hS:=Lh (h9.dX 5 1);have hrd:=Lh (h9.QA (.inr ⟨by rw[hR.FM];exact hf,hs⟩) hR.ok.none))|(at_builtin;refine aS 0 rfl _ _ 35 rfl 5 k0 (.int .u8 0) 1 1 Tryz.underlying35 gN hk0 hk1 hk2 rfl aQ hS.out _ 0 [] rfl rfl v 512 ((bk S.D.now (96+i)).map mR) rfl (by rw[<-hlen];exact hrd.out) vJ oH aD ?_;intro v3 w3 dJ hz3));go_ret;refine⟨_,a',rfl,hR,.inr ⟨by rw[hR.FM];exact hf,?_⟩⟩;rw[hr];(have h8:Sep w0 w3 (aL v3 (bk S.D.now (96+i))::aF f q p S a'::R):=by rw[dB hlen];exact dJ);exact h8.perm (List.Perm.swap _ _ _)
theorem BH {i:Nat} {v:Value} {bs:List UInt8} (hC:VC S a) (hi:i<S.nb-96) (h:Sep w0 w (aL v bs::DV f q p S a i::R)):
  Calls Tryz.prog 88 #[pV f,iV i,v] w fun e w'=>e= .returned (.tuple #[])/\Sep w0 w' (aF f q p (S.put i bs) (a.put i v bs)::R):=by
 have h1:Sep w0 w ([l7 f q S a.sb (.map (some a.fb)) false,aG q p false,aN p S.D,fH a.sb a.SM,XF a.fb a.FM i]++(aL v bs::R)):=(h.perm (List.Perm.swap _ _ _)).bE;have c2:=h1.bC 0 rfl 2;simp only[gA,gB,gC]at c2;have hkey:Sep w0 w (rP 3 a.fb (jK a.FM):: .dZ (fG (iP a.FM i))::l7 f q S a.sb (.map (some a.fb)) false::aG q p false::aN p S.D::fH a.sb a.SM::aL v bs::R):=Sep.kX (Sep.dE [4,0,1,2,3,5] h1 aQ bM);have hnd:(a.FM.map (·.1)).Nodup:=by have h1:=(hkey.QC 0 rfl).ne;exact Z69
 have h3:Sep w0 w (XF a.fb a.FM i::aL v bs::l7 f q S a.sb (.map (some a.fb)) false::aG q p false::aN p S.D::fH a.sb a.SM::R):=Sep.dE [4,5,0,1,2,3] h1 aQ bM;obtain⟨w1,hrun,h4⟩:=h3.aAL (by have:=hC.pI.few;omega) (by have:=hC.asO hnd;omega);have h5:Sep w0 w1 (aF f q p (S.put i bs) (a.put i v bs)::R):=by have h6:Sep w0 w1 (pK f q p (S.put i bs) (a.put i v bs)++R):=Sep.dE [1,2,3,4,0] h4 aQ bM;exact h6.dG
 clear hkey h3 h h1 hC hi h4;go_enter Tryz.func88,Tryz.ntmps88;go_wp2_with fail
 go_end0
 exact⟨rfl,h5⟩
theorem D8 (hC:VC S a) (hF:VF S) (h:w.cell? ⟨f,3,none⟩=some (iV S.names)):
  Calls Tryz.prog 120 #[pV f] w fun e w'=>e= .returned (iV S.data)/\w'=w:=by
 have hn:=hF.names;have e1:((S.data:Nat):Int)=2+((S.names:Int)+7)/8:=by unfold VS.data;omega
 rw[e1];obtain⟨N,hN⟩:∃N:Int,N=S.names:=⟨_,rfl⟩;have b0:0<=N:=by omega
 have b1:N<=1024:=by omega
 rw[<-hN]at h ⊢;have q1:IntKind.i64.wrap (N+8)=N+8:=IntWalk.i64_in _ aD;have q2:IntKind.i64.wrap (N+7)=N+7:=IntWalk.i64_in _ aD;have q3:IntKind.i64.wrap ((N+7)/8)=(N+7)/8:=IntWalk.i64_in _ aD;have q4:IntKind.i64.wrap (2+(N+7)/8)=2+(N+7)/8:=IntWalk.i64_in _ aD;clear hC hF hn e1;go_enter Tryz.func120,Tryz.ntmps120;go_wp2_with fail;go_ret;refine⟨?_,rfl⟩;show Ending.returned (Value.int IntKind.i64 (2+((S.names:Int)+8-1)/8))=_
 rw[<-hN,show N+8-1=N+7 by omega]
structure FsC (w:World) (f q:Nat) (S:VS) (a:VA):Prop where
 c0:w.cell? ⟨f,0,none⟩=some (pV q)
 c1:w.cell? ⟨f,1,none⟩=some (.map a.sb)
 c2:w.cell? ⟨f,2,none⟩=some (.map (some a.fb))
 c3:w.cell? ⟨f,3,none⟩=some (iV S.names)
 c4:w.cell? ⟨f,4,none⟩=some (.bool false)
 c5:w.cell? ⟨f,5,none⟩=some (iH S.wB S.wI)
 c6:w.cell? ⟨f,6,none⟩=some (iV S.nodes)
 c7:w.cell? ⟨f,7,none⟩=some (iH S.rB S.rI)
theorem Sep.gL (h:Sep w0 w (aF f q p S a::R)):FsC w f q S a:=by
 have h1:=h.bE;have c:=fun j=>h1.bC 0 rfl j
 have c0:=c 0;have c1:=c 1;have c2:=c 2;have c3:=c 3;have c4:=c 4;have c5:=c 5;have c6:=c 6;have c7:=c 7;simp only[gA,gB,gC]at c0 c1 c2 c3 c4 c5 c6 c7;exact⟨c0,c1,c2,c3,c4,c5,c6,c7⟩
theorem EC.gL {k:Nat} {v:Value} (h:EC f q p S a k v w0 w R):FsC w f q S a:=by
 rcases h with⟨_,h⟩|⟨_,h⟩
 ·exact h.gL
 exact h.gL
theorem zZ (hC:VC S a) (hF:VF S) (h:Sep w0 w (aF f q p S a::R)):
  Calls Tryz.prog 81 #[pV f] w fun e w'=>e= .returned (iV S.count)/\w'=w:=by
 have hc:=h.gL;have hd:=D8 hC hF hc.c3;have c0:=hc.c0;have hbl:=FL (q:=q) (p:=p) (dead:=false) (R:=l7 f q S a.sb (.map (some a.fb)) false::fH a.sb a.SM::jJ a.fb a.FM::R) hC.pI (by have:=hC.big;omega) (Sep.dE [1,2,0,3,4] (h.bE) aQ (by simp[pK]));have hr:=hF.room;have e1:((S.count:Nat):Int)=((S.nb-96:Nat):Int)-S.data:=by unfold VS.count;omega
 have e2:((S.nb-96:Nat):Int)<=4096:=by have:=hC.pI.few;omega
 have e3:(0:Int)<=(S.data:Int):=by omega
 have e4:(S.data:Int)<=4096:=by have:=hC.pI.few;omega
 have e5:(0:Int)<=((S.nb-96:Nat):Int):=by omega
 rw[e1];obtain⟨N,hN⟩:∃N,N=S.nb-96:=⟨_,rfl⟩;obtain⟨M,hM⟩:∃M,M=S.data:=⟨_,rfl⟩;rw[<-hN]at hbl e2 e5 ⊢;rw[<-hM]at hd e3 e4 ⊢;clear e1 hr hN hM hc;go_enter Tryz.func81,Tryz.ntmps81;go_wp2_with(first |(go_at_call 133;refine hbl.mono ?_;rintro e w9 ⟨rfl,h9⟩;obtain rfl:=h9.symm)|(go_at_call 120;refine hd.mono ?_;rintro e w9 ⟨rfl,h9⟩;obtain rfl:=h9.symm));go_ret;exact⟨rfl,rfl⟩
end
end Go.Proofs.YteihmbaimbogaaaGreat
