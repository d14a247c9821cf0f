/- Parts. -/
import Derived.Test.YtmjomdkleikgbaaGreatK5
import Derived.Laws.FloatArith
import Derived.Laws.ComplexArith
set_option linter.unusedVariables false
set_option linter.unusedSimpArgs false
set_option maxRecDepth 100000
set_option maxHeartbeats 20000000
namespace Go.Proofs.YtmjomdkleikgbaaGreat
open Ieee
theorem YW (neg:Bool) (q d:Nat) (hq:0<q):Toward.even.cut neg (q*2 ^ d) d=q:=by
 have hl:d<=(q*2 ^ d).log2:=by rw[Nat.le_log2 (EY (V3 hq (J9 d)))];exact Nat.le_mul_of_pos_left _ hq
 unfold Toward.cut;have hm:min d ((q*2 ^ d).log2+2)=d:=by omega
 simp only[hm,Nat.one_shiftLeft];rw[Nat.mul_div_cancel _ (J9 d),Nat.mul_mod_left];have:=J9 d;simp
theorem ajL {m:Nat} (hm:0<m) (k:Nat):(m*2 ^ k).log2=m.log2+k:=by
 have h1:m*2 ^ k≠0:=EY (V3 hm (J9 k));apply Nat.le_antisymm
 ·(have h2:(m*2 ^ k).log2<m.log2+k+1:=by rw[V4 h1];have:=(V4 (k:=m.log2+1) (EY hm)).1 (J5 _);(have e:2 ^ (m.log2+k+1)=2 ^ (m.log2+1)*2 ^ k:=by rw[<-MB];congr 1;omega);rw[e];exact apU this (J9 k));omega
 rw[Nat.le_log2 h1,MB];exact OP _ ((Nat.le_log2 (EY hm)).1 (iC _))
def lack (m:Nat):Nat:=52-m.log2
theorem GR (neg:Bool) (m k:Nat) (hm:0<m) (h53:m<2 ^ 53) (hk:k<=1074):double.nearest neg (m*2 ^ k) (-(k:Int))=double.word neg (((1074-lack m:Nat))*2 ^ 52+m*2 ^ lack m):=by
 have hl:m.log2<=52:=by have:=(V4 (k:=53) (EY hm)).2 h53;omega
 unfold Format.nearest;rw[if_neg (EY (V3 hm (J9 k))),ajL hm];have e1:double.leastPlace= -1074:=by decide
 have e2:double.fractionBits=52:=rfl;have e3:double.binade=2 ^ 52:=rfl;have e4:double.infRung=2047*2 ^ 52:=by decide
 rw[e1,e2,e3,e4];have hlast:max (-(k:Int)+((m.log2+k:Nat):Int)-(52:Nat)) (-1074)= -((lack m:Nat):Int):=by unfold lack;omega
 rw[hlast];dsimp only;have hL:lack m<=52:=by unfold lack;omega
 have ht:(-((lack m:Nat):Int)- -1074).toNat=1074-lack m:=by omega
 rw[ht];have hkept:Toward.even.cut neg ((m*2 ^ k)<<<(-(k:Int)- -((lack m:Nat):Int)).toNat) (-((lack m:Nat):Int)- -(k:Int)).toNat=m*2 ^ lack m:=by
  rcases Nat.le_total k (lack m)with h|h
  ·(have a1:(-(k:Int)- -((lack m:Nat):Int)).toNat=lack m-k:=by omega);(have a2:(-((lack m:Nat):Int)- -(k:Int)).toNat=0:=by omega);rw[a1,a2,Nat.shiftLeft_eq];(have e:m*2 ^ k*2 ^ (lack m-k)=m*2 ^ lack m:=by rw[ab6,<-MB];congr 2;omega);rw[e];have:=YW neg (m*2 ^ lack m) 0 (V3 hm (J9 _));simpa using this
  (have a1:(-(k:Int)- -((lack m:Nat):Int)).toNat=0:=by omega);(have a2:(-((lack m:Nat):Int)- -(k:Int)).toNat=k-lack m:=by omega);rw[a1,a2,Nat.shiftLeft_zero];(have e:m*2 ^ k=m*2 ^ lack m*2 ^ (k-lack m):=by rw[ab6,<-MB];congr 2;omega);rw[e];exact YW neg _ _ (V3 hm (J9 _))
 rw[hkept];have hb:m*2 ^ lack m<2 ^ 53:=by
  have h1:=(V4 (k:=m.log2+1) (EY hm)).1 (J5 _);have h2:m*2 ^ lack m<2 ^ (m.log2+1)*2 ^ lack m:=apU h1 (J9 _);rw[<-MB]at h2;have e:m.log2+1+lack m=53:=by unfold lack;omega
  rwa [e]at h2
 rw[yN aD]
def fI (n:Int):Nat:=FloatKind.nearest .f64 n
theorem az5 (n:Int):fI n=double.nearest (decide (n<0)) n.natAbs 0:=rfl
theorem EA :fI 0=0:=by decide
def bW (n:Int):Prop:=n.natAbs<2 ^ 53
theorem au7 {n:Int} (hn:bW n) {k:Nat} (hk:k<=1074):double.nearest (decide (n<0)) (n.natAbs*2 ^ k) (-(k:Int))=fI n:=by
 rw[az5];rcases yL n.natAbs with h0|h0
 ·rw[h0,L8];simp[Format.nearest]
 rw[GR _ _ _ h0 hn hk];have:=GR (decide (n<0)) n.natAbs 0 h0 hn aR;rw[<-this];simp
theorem ao6 (L:Nat) (h:L=1074):double.read (fI 0)= .number (decide ((0:Int)<0)) ((0:Int).natAbs*2 ^ L) (-(L:Int)):=by rw[Int.natAbs_zero,L8,EA,h];decide
theorem Z35 {P:Prop} (h:P:=by
 rw[if_neg aD,if_pos aD];have z1:2 ^ 52+(q-2 ^ 52)=q:=by omega
 have z2:(-1074:Int)+((1074-L+1-1:Nat):Int)= -(L:Int):=by omega
 rw[z1,z2];rfl):P:=h
theorem zI {n:Int} (hn:bW n):∃L:Nat,L<=1074/\double.read (fI n)= .number (decide (n<0)) (n.natAbs*2 ^ L) (-(L:Int)):=by
 rcases yL n.natAbs with h0|h0
 ·(have:n=0:=by omega);subst this;obtain⟨L,hL⟩:∃L,L=1074:=⟨_,rfl⟩;exact⟨L,by omega,ao6 L hL⟩
 have hl:n.natAbs.log2<=52:=by have:=(V4 (k:=53) (EY h0)).2 hn;omega
 refine⟨lack n.natAbs,by unfold lack;omega,?_⟩;have e:=GR (decide (n<0)) n.natAbs 0 h0 hn aR;have e0:fI n=double.word (decide (n<0)) (((1074-lack n.natAbs:Nat))*2 ^ 52+n.natAbs*2 ^ lack n.natAbs):=by rw[az5,<-e];simp
 have hb1:n.natAbs*2 ^ lack n.natAbs<2 ^ 53:=by
  have h1:=(V4 (k:=n.natAbs.log2+1) (EY h0)).1 (J5 _);have h2:n.natAbs*2 ^ lack n.natAbs<2 ^ (n.natAbs.log2+1)*2 ^ lack n.natAbs:=apU h1 (J9 _);rw[<-MB]at h2;have e:n.natAbs.log2+1+lack n.natAbs=53:=by unfold lack;omega
  rwa [e]at h2
 have hb2:2 ^ 52<=n.natAbs*2 ^ lack n.natAbs:=by
  have h1:=(Nat.le_log2 (k:=n.natAbs.log2) (EY h0)).1 (iC _);have h2:2 ^ n.natAbs.log2*2 ^ lack n.natAbs<=n.natAbs*2 ^ lack n.natAbs:=OP _ h1;rw[<-MB]at h2;have e:n.natAbs.log2+lack n.natAbs=52:=by unfold lack;omega
  rwa [e]at h2
 have hlk:lack n.natAbs<=52:=by unfold lack;omega
 rw[e0];generalize n.natAbs*2 ^ lack n.natAbs=q at hb1 hb2 ⊢;generalize lack n.natAbs=L at hlk ⊢;have hr:(1074-L)*2 ^ 52+q<2 ^ 63:=by omega
 have hd:((1074-L)*2 ^ 52+q)/2 ^ 52=1074-L+1:=by omega
 have hm:((1074-L)*2 ^ 52+q)%2 ^ 52=q-2 ^ 52:=by omega
 have e1:double.leastPlace= -1074:=by decide
 have e3:double.binade=2 ^ 52:=rfl;have e4:double.infRung=2047*2 ^ 52:=by decide
 have e5:double.signWeight=2 ^ 63:=rfl;unfold Format.read Format.word;rw[e1,e3,e4,e5];cases decide (n<0)with
 |false=>(have a1:((1074-L)*2 ^ 52+q)/2 ^ 63%2=0:=by omega);have a2:((1074-L)*2 ^ 52+q)%2 ^ 63=(1074-L)*2 ^ 52+q:=Nat.mod_eq_of_lt hr;simp only[J4,if_false,a1,a2,hd,hm];exact Z35
 |true=>(have a1:(2 ^ 63+((1074-L)*2 ^ 52+q))/2 ^ 63%2=1:=by omega);(have a2:(2 ^ 63+((1074-L)*2 ^ 52+q))%2 ^ 63=(1074-L)*2 ^ 52+q:=by omega);simp only[if_true,a1,a2,hd,hm];exact Z35
theorem uN (n:Int) (L K:Nat) (h:L<=K):signed (decide (n<0)) (n.natAbs*2 ^ L) (-(L:Int)- -(K:Int)).toNat=n*2 ^ K:=by
 have e:(-(L:Int)- -(K:Int)).toNat=K-L:=by omega
 rw[e];unfold signed;rw[Nat.shiftLeft_eq,ab6,<-MB,Nat.add_sub_cancel' h];have hc:((n.natAbs*2 ^ K:Nat):Int)=(n.natAbs:Int)*2 ^ K:=by simp
 rw[hc];by_cases h0:n<0
 ·rw[if_pos (by simpa using h0)];(have:(n.natAbs:Int)= -n:=by omega);rw[this,Int.neg_mul,Int.neg_neg]
 rw[if_neg (by simpa using h0)];have:(n.natAbs:Int)=n:=by omega
 rw[this]
theorem abE (a b:Nat):min (-(a:Int)) (-(b:Int))= -((max a b:Nat):Int):=by omega
theorem ajM (s:Bool) (m u:Nat):signed (!s) m u= -(signed s m u):=by unfold signed;cases s<;>simp
theorem M4 (K:Nat):(0:Int)<2 ^ K:=by
 have:=J9 K;have e:((2 ^ K:Nat):Int)=2 ^ K:=by simp
 omega
theorem UB {a b:Int} {K:Nat} (hs:bW (a+b)) (hK:K<=1074) (z:Bool) (hz:a+b=0->z=false):
  double.write (.number (if a*2 ^ K+b*2 ^ K=0 then z else decide (a*2 ^ K+b*2 ^ K<0)) (a*2 ^ K+b*2 ^ K).natAbs (-(K:Int)))=fI (a+b):=by
 rw[<-Int.add_mul];have hp:=M4 K;have hna:((a+b)*2 ^ K).natAbs=(a+b).natAbs*2 ^ K:=by rw[Int.natAbs_mul,Int.natAbs_pow];rfl
 rw[hna];have hneg:(if(a+b)*2 ^ K=0 then z else decide ((a+b)*2 ^ K<0))=decide (a+b<0):=by
  by_cases h0:a+b=0
  ·rw[h0,Int.zero_mul,if_pos rfl,hz h0];rfl
  have h1:(a+b)*2 ^ K≠0:=Int.mul_ne_zero h0 aD;rw[if_neg h1];apply decide_eq_decide.2;constructor
  ·intro h;rw[Int.mul_comm]at h;exact Int.neg_of_mul_neg_right h aD
  intro h;exact Int.mul_neg_of_neg_of_pos h hp
 rw[hneg];exact au7 hs hK
theorem LM {a b:Int} (ha:bW a) (hb:bW b) (hs:bW (a+b)):floatBits .add .f64 (fI a) (fI b)=some (fI (a+b)):=by
 obtain⟨L,hL,ra⟩:=zI ha;obtain⟨M,hM,rb⟩:=zI hb;show double.add (fI a) (fI b)=_
 unfold Format.add;rw[ra,rb];unfold Datum.sum;simp only[abE,UL];rw[uN a L _ (Nat.le_max_left _ _),uN b M _ (Nat.le_max_right _ _)];congr 1;refine UB hs aD _ fun h=>?_
 by_cases h1:a<0
 ·(have:¬b<0:=by omega);simp[this]
 simp[h1]
theorem au8 {a b:Int} (ha:bW a) (hb:bW b) (hs:bW (a-b)):floatBits .sub .f64 (fI a) (fI b)=some (fI (a-b)):=by
 obtain⟨L,hL,ra⟩:=zI ha;obtain⟨M,hM,rb⟩:=zI hb;show double.sub (fI a) (fI b)=_
 unfold Format.sub;rw[ra,rb];unfold Datum.opposite Datum.sum;simp only[abE,UL];rw[ajM,uN a L _ (Nat.le_max_left _ _),uN b M _ (Nat.le_max_right _ _)];congr 1;rw[<-Int.neg_mul];refine UB (b:= -b) (by simpa[Int.sub_eq_add_neg]using hs) aD _ fun h=>?_
 by_cases h1:a<0
 ·(have:b<0:=by omega);simp[this]
 simp[h1]
theorem BJ {a b:Int} (ha:bW a) (hb:bW b):double.order (fI a) (fI b)=some (compare a b):=by
 obtain⟨L,hL,ra⟩:=zI ha;obtain⟨M,hM,rb⟩:=zI hb;unfold Format.order;rw[ra,rb];unfold Datum.order;simp only[abE];rw[uN a L _ (Nat.le_max_left _ _),uN b M _ (Nat.le_max_right _ _)];congr 1;have hp:=M4 (max L M);rcases Int.lt_trichotomy a b with h|h|h
 ·rw[Int.compare_eq_lt.2 h,Int.compare_eq_lt];exact Int.mul_lt_mul_of_pos_right h hp
 ·subst h;rw[Int.compare_eq_eq.2 rfl];exact(Int.compare_eq_eq.2 rfl).symm
 rw[Int.compare_eq_gt.2 h,Int.compare_eq_gt];exact Int.mul_lt_mul_of_pos_right h hp
end Go.Proofs.YtmjomdkleikgbaaGreat
namespace Go.Proofs.YtmjomdkleikgbaaGreat
def iW (b i:Int):Value:=.complex .f64 (fI b) (fI i)
open Go.RowKit
abbrev BM :=List (Nat×Value×List UInt8)
def H7 (n:Nat):Lit:=.int .i64 (n:Int)
def iK (M:BM):List (Lit×Value):=M.map fun x=>(H7 x.1,x.2.1)
def dO (M:BM) (k:Nat):Option (Value×List UInt8):=(M.find? fun x=>x.1==k).map (·.2)
def gY (M:BM) (k:Nat):BM:=M.filter fun x=> !(x.1==k)
def eG (M:BM):List aW:=M.map fun x=>aI x.2.1 x.2.2
def jK (b:Nat) (M:BM):aW:=.star (lJ 3 b (iK M)) (.dU (eG M))
def UM (b:Nat) (M:BM) (k:Nat):aW:=.star (lJ 3 b (iK M)) (.dU (eG (gY M k)))
theorem au9 (n:Nat):WideAt.IsKeyLit (H7 n):=by simp[H7,WideAt.IsKeyLit]
theorem YX (a b:Nat):(H7 a).sameKey (H7 b)=(a==b):=by
 by_cases h:a=b
 ·subst h;rw[WideAt.sameKey_self (au9 a)];simp
 rw[jU.2 h];cases hs:(H7 a).sameKey (H7 b)with
 |false=>rfl
 |true=>have:=WideAt.sameKey_eq hs;unfold H7 at this;injection this with _ h2;exact absurd aD h
theorem agE (M:BM) (k:Nat):getM (iK M) (H7 k)=(dO M k).map (·.1):=by
 unfold getM dO iK
 induction M with
 |nil=>rfl
 |cons x M ih=>
  rw[jV,J8,J8];simp only[YX];cases h:x.1==k with
  |true=>rfl
  |false=>exact ih
theorem acI (M:BM) (k:Nat):nK (iK M) (H7 k)=iK (gY M k):=by unfold nK iK gY;rw[List.filter_map];congr 1;apply List.filter_congr;intro x _;simp[YX]
theorem PW (M:BM) (k:Nat) (v:Value) (bs:List UInt8):qL (iK M) (H7 k) v=iK (gY M k++[(k,v,bs)]):=by unfold qL;rw[acI];unfold iK;simp
theorem jS (n:Nat) (h:n<=100000):keyOf Tryz.prog 3 (.int .i64 n)=some (H7 n):=Maps.keyOf_int_mk Tryz.underlying3 (by simp[Lit.wf,IntKind.min,IntKind.max,IntKind.signed,IntKind.bits];omega)
theorem UC (w:World):(zeroValue 69).run Tryz.prog w= .ok (.slice none 0 0) w:=by kernel_rfl
theorem lQ {M:BM} {k:Nat} {x:Value×List UInt8} (h:dO M k=some x):(k,x)∈M:=by
 unfold dO at h;rw[OT]at h;obtain⟨y,h1,rfl⟩:=h;have h2:=G6 h1;have h3:=UH h1;have:y.1=k:=by simpa using h2
 rw[<-this];exact h3
theorem ajN {M:BM} {k:Nat} (h:dO M k=none):∀x∈M,x.1≠k:=by unfold dO at h;rw[YZ,wV]at h;intro x hx;simpa using h x hx
theorem LU {M:BM} {k:Nat} (h:dO M k=none):gY M k=M:=by unfold gY;rw[EZ];intro x hx;simpa using ajN h x hx
section
variable {w0 w:World} {As R:List aW} {b:Nat} {M:BM}
theorem Sep.ajO (i:Nat) (h:Sep w0 w As) (hi:As[i]? =some (jK b M)):Sep w0 w (lJ 3 b (iK M):: .dU (eG M)::(As.take i++As.drop (i+1))):=by have e:=(sG hi).1;rw[e]at h;exact(h.perm lD).jO
theorem Sep.ZC (i:Nat) (h:Sep w0 w As) (hi:As[i]? =some (jK b M)) (k:Nat) (hk:k<=100000):
  (Instr.lookup 111 (.map (some b)) (.int .i64 k) true).run Tryz.prog w= .ok (.tuple #[((dO M k).map (·.1)).getD (.slice none 0 0),.bool (dO M k).isSome]) w:=by
 have h1:=(h.ajO i hi).YD 0 rfl dN Tryz.underlying111 (UC w) (jS k hk);rw[agE]at h1;rw[h1];cases dO M k<;>rfl
theorem Z31 {P:Prop} (h:P:=by exact h2.rd (sz:=1) (e:=5) j (by rw[EI (by unfold eG;rw[iJ];exact hj)];unfold eG;rw[lC,gE hj,e];rfl)):P:=h
theorem Sep.avA (i:Nat) (h:Sep w0 w As) (hi:As[i]? =some (jK b M)) {k:Nat} {v:Value} {bs:List UInt8} (hf:dO M k=some (v,bs)):BytesAt w v bs:=by have h1:=(h.ajO i hi).drop 1;have h2:Sep w0 w (eG M++(As.take i++As.drop (i+1))):=h1.bG;obtain⟨j,hj,e⟩:=OQ (lQ hf);exact Z31
theorem Z62 {P:Prop} (h:P:=by
 unfold iK at h1;rw[GY]at h1;rw[abW,GY];refine h1.imp fun h e=>h ?_
 simp only[e]):P:=h
theorem Sep.PM (i:Nat) (h:Sep w0 w As) (hi:As[i]? =some (jK b M)):(M.map (·.1)).Nodup:=by have h1:=((h.ajO i hi).rU 0 rfl).ne;exact Z62
theorem ao7 {M:BM} {k:Nat} {v:Value} {bs:List UInt8} (hn:(M.map (·.1)).Nodup) (hf:dO M k=some (v,bs)):(eG M).Perm (aI v bs::eG (gY M k)):=by
 induction M with
 |nil=>cases hf
 |cons x M ih=>
  rw[jV,xJ]at hn;unfold dO at hf;rw[J8]at hf;cases hx:x.1==k with
  |true=>rw[hx]at hf;simp at hf;(have hk:x.1=k:=by simpa using hx);(have hno:dO M k=none:=by unfold dO;rw[YZ,wV];intro y hy hyk;(have:y.1=k:=by simpa using hyk);exact hn.1 (List.mem_map.2 ⟨y,hy,by rw[this,hk]⟩));(have e1:gY (x::M) k=M:=by unfold gY;rw[yM,hx];exact LU hno);rw[e1];unfold eG;rw[jV,hf]
  |false=>rw[hx]at hf;have h1:=ih hn.2 hf;(have e1:gY (x::M) k=x::gY M k:=by unfold gY;rw[yM,hx];rfl);rw[e1];unfold eG at h1 ⊢;rw[jV,jV];exact(List.Perm.cons _ h1).trans (List.Perm.swap _ _ _)
theorem Sep.ayS {k:Nat} {v:Value} {bs:List UInt8} (h:Sep w0 w (jK b M::R)) (hf:dO M k=some (v,bs)):Sep w0 w (aI v bs::UM b M k::R):=by have hn:=h.PM 0 rfl;have h1:=h.jO;have h2:Sep w0 w (.dU (eG M)::lJ 3 b (iK M)::R):=h1.perm (List.Perm.swap _ _ _);have h3:=h2.bG;have h4:Sep w0 w (aI v bs::(eG (gY M k)++(lJ 3 b (iK M)::R))):=h3.perm ((ao7 hn hf).append_right _);have h5:Sep w0 w (eG (gY M k)++(aI v bs::lJ 3 b (iK M)::R)):=h4.perm lD.symm;have h6:=h5.dC;have h7:Sep w0 w (lJ 3 b (iK M):: .dU (eG (gY M k))::aI v bs::R):=Sep.dB [2,0,1] h6 aR bK;exact(h7.mD).perm (List.Perm.swap _ _ _)
theorem Sep.HZ {k:Nat} (h:Sep w0 w (jK b M::R)) (hf:dO M k=none):Sep w0 w (UM b M k::R):=by unfold UM;rw[LU hf];exact h
theorem Sep.ayT {k:Nat} {v:Value} {bs:List UInt8} (h:Sep w0 w (UM b M k::aI v bs::R)) (hk:k<=100000) (hlen:M.length<100000):
  ∃w',(Instr.mapUpdate 111 (.map (some b)) (.int .i64 k) v).run Tryz.prog w= .ok () w'/\Sep w0 w' (jK b (gY M k++[(k,v,bs)])::R):=by
 have h1:=h.jO;obtain⟨w',hrun,h2⟩:=h1.lS 0 rfl dN Tryz.underlying111 (by unfold iK;rw[iJ];unfold maxLen;omega) (v:=v) (jS k hk);refine⟨w',hrun,?_⟩;rw[PW M k v bs]at h2;have h3:Sep w0 w' (.dU (eG (gY M k))::lJ 3 b (iK (gY M k++[(k,v,bs)]))::aI v bs::R):=h2.perm (List.Perm.swap _ _ _);have h4:=h3.bG;have e:eG (gY M k++[(k,v,bs)])=eG (gY M k)++[aI v bs]:=by unfold eG;simp
 have h5:Sep w0 w' (eG (gY M k++[(k,v,bs)])++(lJ 3 b (iK (gY M k++[(k,v,bs)]))::R)):=by rw[e,pG];refine h4.perm (abM _ ?_);exact List.Perm.swap _ _ _
 exact((h5.dC).perm (List.Perm.swap _ _ _)).mD
theorem Sep.DR {k:Nat} {v:Value} {bs:List UInt8} (h:Sep w0 w (jK b M::aI v bs::R)) (hk:k<=100000) (hlen:M.length<100000) (hf:dO M k=none):
  ∃st w1 w2,(Instr.mapEntry 111 (.map (some b)) (.int .i64 k)).run Tryz.prog w= .ok (.tuple #[.slice none 0 0,iV st]) w1/\(Instr.entryStore 111 (.map (some b)) (.int .i64 st) v).run Tryz.prog w1= .ok () w2/\Sep w0 w2 (jK b (M++[(k,v,bs)])::R):=by
 have h1:=h.jO;obtain⟨st,w1,w2,r1,r2,h2,_⟩:=h1.au6 0 rfl dN Tryz.underlying111 UC (by unfold iK;rw[iJ];unfold maxLen;omega) (val:=v) (jS k hk) (by rw[agE,hf];rfl);refine⟨st,w1,w2,r1,r2,?_⟩;rw[PW M k v bs,LU hf]at h2;have h3:Sep w0 w2 (.dU (eG M)::lJ 3 b (iK (M++[(k,v,bs)]))::aI v bs::R):=h2.perm (List.Perm.swap _ _ _);have h4:=h3.bG;have e:eG (M++[(k,v,bs)])=eG M++[aI v bs]:=by unfold eG;simp
 have h5:Sep w0 w2 (eG (M++[(k,v,bs)])++(lJ 3 b (iK (M++[(k,v,bs)]))::R)):=by rw[e,pG];refine h4.perm (abM _ ?_);exact List.Perm.swap _ _ _
 exact((h5.dC).perm (List.Perm.swap _ _ _)).mD
theorem Sep.yT (h:Sep w0 w R):Sep w0 (w.alloc (.map #[] 0)) (jK w.heap.size []::R):=by have h1:=h.BX 3;have h2:Sep w0 (w.alloc (.map #[] 0)) (.dU (eG [])::lJ 3 w.heap.size (iK [])::R):=h1.xK;exact(h2.perm (List.Perm.swap _ _ _)).mD
end
structure VS where
 nb:Nat
 names:Nat
 D:DK
 cur:gI
 wB:Int
 wI:Int
 nodes:Int
 rB:Int
 rI:Int
 m:Nat
structure VA where
 sb:Option Nat
 SM:BM
 fb:Nat
 FM:BM
structure VC (S:VS) (a:VA):Prop where
 nV:S.D.ok S.nb
 big:96<S.nb
 on:S.D.off=false
 cur:kU (S.nb-96) S.cur
 seen:∀x∈a.SM,x.1<S.nb-96/\x.2.2=bk S.D.now (96+x.1)
 fresh:∀x∈a.FM,x.1<S.nb-96/\x.2.2=bk S.cur x.1
 rest:∀k,k<S.nb-96->dO a.FM k=none->bk S.cur k=bk S.D.now (96+k)
 few:a.FM.length<=S.m
 none:a.sb=none->a.SM=[]
def kF (f q:Nat) (S:VS) (sb:Option Nat) (fv:Value) (dead:Bool):aW:=
 .box f 119 #[pV q,.map sb,fv,iV S.names,.bool dead,iW S.wB S.wI,iV S.nodes,iW S.rB S.rI]
def dY :Option Nat->BM->aW
 |none,_=>.emp
 |some b,M=>jK b M
def pU (f q p:Nat) (S:VS) (a:VA):List aW:=[kF f q S a.sb (.map (some a.fb)) false,aG q p false,aO p S.D,dY a.sb a.SM,jK a.fb a.FM]
def aF (f q p:Nat) (S:VS) (a:VA):aW:=.dU (pU f q p S a)
def AP (f q p:Nat) (S:VS) (a:VA) (k:Nat):aW:=.dU [kF f q S a.sb (.map (some a.fb)) false,aG q p false,aO p S.D,dY a.sb a.SM,UM a.fb a.FM k]
def ajP (a:VA) (k:Nat) (v:Value) (bs:List UInt8):Prop:=dO a.FM k=some (v,bs)\/(dO a.FM k=none/\dO a.SM k=some (v,bs))
section
variable {w0 w:World} {R:List aW} {f q p:Nat} {S:VS} {a:VA}
theorem VC.short (h:VC S a) (hn:(a.SM.map (·.1)).Nodup):a.SM.length<=4000:=by
 have h1:(a.SM.map (·.1)).length<=(List.range (S.nb-96)).length:=alW hn fun x hx=>by obtain⟨y,hy,rfl⟩:=List.mem_map.1 hx;exact List.mem_range.2 (h.seen y hy).1
 have h2:=h.nV.few;rw[iJ,LW]at h1;omega
theorem VC.aqK (h:VC S a) (hn:(a.FM.map (·.1)).Nodup):a.FM.length<=4000:=by
 have h1:(a.FM.map (·.1)).length<=(List.range (S.nb-96)).length:=alW hn fun x hx=>by obtain⟨y,hy,rfl⟩:=List.mem_map.1 hx;exact List.mem_range.2 (h.fresh y hy).1
 have h2:=h.nV.few;rw[iJ,LW]at h1;omega
theorem Z42 {P:Prop} (h:P:=by
 cases hs:a.sb with
 |none=>rw[hn hs]at hf;cases hf
 |some b=>refine h1.avA (b:=b) 3 ?_ hf;(show some (dY a.sb a.SM)=_);rw[hs];rfl):P:=h
theorem Sep.NR (h:Sep w0 w (aF f q p S a::R)) {k:Nat} {v:Value} {bs:List UInt8} (hp:ajP a k v bs) (hn:a.sb=none->a.SM=[]):BytesAt w v bs:=by
 have h1:=h.bG;rcases hp with hf|⟨_,hf⟩
 ·exact h1.avA 4 rfl hf
 exact Z42
theorem ajP.tells {k:Nat} {v:Value} {bs:List UInt8} (hp:ajP a k v bs) (hn:a.sb=none->a.SM=[]):jI w0 (aF f q p S a::R) v bs:=fun w' X hS=>by have h1:Sep w0 w' (aF f q p S a::(X++R)):=hS.perm lD;exact h1.NR hp hn
theorem VC.avB (h:VC S a) {k:Nat} (hk:k<S.nb-96):(bk S.cur k).length=512:=jW h.cur hk
theorem VC.akD (h:VC S a) {k:Nat} (hk:k<S.nb-96):(bk S.D.now (96+k)).length=512:=jW h.nV.now aD
theorem Z12 {P:Prop} (h:P:=by
 obtain⟨b,hb⟩:∃b,a.sb=some b:=by
  cases hs:a.sb with
  |none=>rw[hC.none hs]at hf;cases hf
  |some b=>exact⟨b,rfl⟩
 have h1:=h.bG;have hl:=h1.ZC (b:=b) (M:=a.SM) 3 (by show some (dY a.sb a.SM)=_;rw[hb];rfl) i (by have:=hC.nV.few;omega);rw[hf]at hl;simp only[UL,GX,OV]at hl;have c1:=h1.bC 0 rfl 1;rw[hb]at c1;simp only[gA,gB,gC]at c1;clear h1 h hC;go_enter Tryz.func157,Tryz.ntmps157;go_wp2_with fail;go_ret;exact⟨rfl,rfl⟩):P:=h
theorem ayU {i:Nat} {v:Value} {bs:List UInt8} (hC:VC S a) (hi:i<S.nb-96) (hf:dO a.SM i=some (v,bs)) (h:Sep w0 w (aF f q p S a::R)):
  Calls Tryz.prog 157 #[pV f,iV i] w fun e w'=>e= .returned v/\w'=w:=by
 exact Z12
def VA.read (a:VA) (b i:Nat) (v:Value) (bs:List UInt8):VA:= {a with sb:=some b,SM:=a.SM++[(i,v,bs)]}
theorem KG {M:BM} {k:Nat} {v:Value} {bs:List UInt8} (h:dO M k=none):dO (M++[(k,v,bs)]) k=some (v,bs):=by unfold dO at h ⊢;rw[YZ]at h;rw[aj4,h,J8];simp
theorem VC.read (hC:VC S a) (b:Nat) {i:Nat} (v:Value) (hi:i<S.nb-96):VC S (a.read b i v (bk S.D.now (96+i))):=
 ⟨hC.nV,hC.big,hC.on,hC.cur,fun x hx=>by
  rcases iM.1 hx with hx|hx
  ·exact hC.seen x hx
  rw[tJ]at hx;subst hx;exact⟨hi,rfl⟩,hC.fresh,hC.rest,hC.few,fun h=>by cases h⟩
theorem eQ (x:Int) (w:World):Calls Tryz.prog 54 #[iV x] w fun e w'=>e=(if x=0 then .returned (.tuple #[])else .panicked [{v:=.iface 171 (.agg #[iV x]),recovered:=false}])/\w'=w:=by
 by_cases hx:x=0
 ·subst hx;go_enter Tryz.func54,Tryz.ntmps54;go_wp2_with fail
  go_end0
  exact⟨rfl,rfl⟩
 rw[if_neg hx];go_enter Tryz.func54,Tryz.ntmps54;go_wp2_with fail;exact⟨rfl,rfl,rfl⟩
theorem ao8 (b:Nat) (w:World):(binOp .eql 111 (.map (some b)) (.map none)).run Tryz.prog w= .ok (.bool false) w:=by kernel_rfl
theorem ao9 (w:World):(binOp .eql 111 (.map none) (.map none)).run Tryz.prog w= .ok (.bool true) w:=by kernel_rfl
theorem H6 (k:Nat) (w:World):(Instr.lookup 111 (.map none) (.int .i64 k) true).run Tryz.prog w= .ok (.tuple #[.slice none 0 0,.bool false]) w:=by kernel_rfl
theorem Z19 {P:Prop} (h:P:=by clear hC hlen hi2 hi hnd h;have hm0:=ao8 b;go_enter Tryz.func157,Tryz.ntmps157;go_wp2_with(first |(go_at_call 187;refine hrd.mono ?_;rintro e w9 ⟨v,rfl,h9⟩;obtain⟨k1,st,w1,w2,r1,r2,h7⟩:=hend _ _ h9)|(go_at_call 54;refine(eQ _ _).mono ?_;rintro e w8 ⟨rfl,h8⟩;obtain rfl:=h8.symm));go_ret;exact⟨_,rfl,h7⟩):P:=h
theorem avC {i b:Nat} (hC:VC S a) (hi:i<S.nb-96) (hf:dO a.SM i=none) (hb:a.sb=some b) (h:Sep w0 w (aF f q p S a::R)):
  Calls Tryz.prog 157 #[pV f,iV i] w fun e w'=>∃v,e= .returned v/\Sep w0 w' (aF f q p S (a.read b i v (bk S.D.now (96+i)))::R):=by
 have h1:=h.bG;unfold pU at h1;rw[hb]at h1;have hnd:=h1.PM (b:=b) (M:=a.SM) 3 rfl;have hlen:=hC.short hnd;have hi2:i<=100000:=by have:=hC.nV.few;omega
 have hl:=h1.ZC (b:=b) (M:=a.SM) 3 rfl i hi2;rw[hf]at hl;simp only[ab4,J6,UJ]at hl;have c1:=h1.bC 0 rfl 1;have c0:=h1.bC 0 rfl 0;simp only[gA,gB,gC]at c0 c1;have hrd:=wE (i:=i) (R:=kF f q S (some b) (.map (some a.fb)) false::jK b a.SM::jK a.fb a.FM::R) hC.nV hC.big aD hC.on (Sep.dB [1,2,0] h1 aR bK);have hend:∀W v,Sep w0 W (aI v (bk S.D.now (96+i))::aG q p false::aO p S.D::kF f q S (some b) (.map (some a.fb)) false::jK b a.SM::jK a.fb a.FM::R)->
   W.cell? ⟨f,1,none⟩=some (.map (some b))/\∃st w1 w2,(Instr.mapEntry 111 (.map (some b)) (.int .i64 i)).run Tryz.prog W= .ok (.tuple #[.slice none 0 0,iV st]) w1/\(Instr.entryStore 111 (.map (some b)) (.int .i64 st) v).run Tryz.prog w1= .ok () w2/\Sep w0 w2 (aF f q p S (a.read b i v (bk S.D.now (96+i)))::R):=fun W v hS=>by
  have k1:=hS.bC 3 rfl 1;simp only[gA,gB,gC]at k1;have h2:Sep w0 W (jK b a.SM::aI v (bk S.D.now (96+i))::kF f q S (some b) (.map (some a.fb)) false::aG q p false::aO p S.D::jK a.fb a.FM::R):=Sep.dB [4,0,3,1,2] hS aR bK;obtain⟨st,w1,w2,r1,r2,h3⟩:=h2.DR hi2 aD hf;refine⟨k1,st,w1,w2,r1,r2,?_⟩;have h4:Sep w0 w2 (pU f q p S (a.read b i v (bk S.D.now (96+i)))++R):=Sep.dB [1,2,3,0] h3 aR bK;exact h4.dC
 exact Z19
theorem Z17 {P:Prop} (h:P:=by clear hC hi2 hi h h1;have hm0:=ao9;have hmm:= @run_makeMap Tryz.prog;go_enter Tryz.func157,Tryz.ntmps157;go_wp2_with(first |(go_at_call 187;refine hrd.mono ?_;rintro e w9 ⟨v,rfl,h9⟩;obtain⟨k1,k2,k3,k4,st,w1,w2,r1,r2,h7⟩:=hend _ _ h9;clear c1)|(go_at_call 54;refine(eQ _ _).mono ?_;rintro e w8 ⟨rfl,h8⟩;obtain rfl:=h8.symm));go_ret;exact⟨_,_,rfl,h7⟩):P:=h
theorem ayV {i:Nat} (hC:VC S a) (hi:i<S.nb-96) (hb:a.sb=none) (h:Sep w0 w (aF f q p S a::R)):
  Calls Tryz.prog 157 #[pV f,iV i] w fun e w'=>∃v b,e= .returned v/\Sep w0 w' (aF f q p S (a.read b i v (bk S.D.now (96+i)))::R):=by
 have h1:=h.bG;unfold pU at h1;rw[hb]at h1;have hi2:i<=100000:=by have:=hC.nV.few;omega
 have hl:=H6 i w;have c1:=h1.bC 0 rfl 1;have c0:=h1.bC 0 rfl 0;simp only[gA,gB,gC]at c0 c1;have hrd:=wE (i:=i) (R:=kF f q S none (.map (some a.fb)) false::jK a.fb a.FM::R) hC.nV hC.big aD hC.on ((Sep.dB [3,1,2,0] h1 aR bK).drop 1);have hSM:=hC.none hb;have hend:∀W v,Sep w0 W (aI v (bk S.D.now (96+i))::aG q p false::aO p S.D::kF f q S none (.map (some a.fb)) false::jK a.fb a.FM::R)->
   W.cell? ⟨f,1,none⟩=some (.map none)/\(W.alloc (.map #[] 0)).frozen? ⟨f,1,none⟩=false/\(W.alloc (.map #[] 0)).cell? ⟨f,1,none⟩=some (.map none)/\
   ((W.alloc (.map #[] 0)).setCell ⟨f,1,none⟩ (.map (some W.heap.size))).cell? ⟨f,1,none⟩=some (.map (some W.heap.size))/\∃st w1 w2,(Instr.mapEntry 111 (.map (some W.heap.size)) (.int .i64 i)).run Tryz.prog ((W.alloc (.map #[] 0)).setCell ⟨f,1,none⟩ (.map (some W.heap.size)))= .ok (.tuple #[.slice none 0 0,iV st]) w1/\(Instr.entryStore 111 (.map (some W.heap.size)) (.int .i64 st) v).run Tryz.prog w1= .ok () w2/\Sep w0 w2 (aF f q p S (a.read W.heap.size i v (bk S.D.now (96+i)))::R):=fun W v hS=>by
  have k1:=hS.bC 3 rfl 1;have h2:=hS.yT;have k2:=h2.bC 4 rfl 1;have k3:=h2.bF 4 rfl 1;have h3:=h2.bS 4 rfl 1 (.map (some W.heap.size));have k4:=h3.bC 4 rfl 1;simp only[gA,gB,gC]at k1 k2;refine⟨k1,k3,k2,?_,?_⟩
  ·rw[k4];rfl
  have h4:Sep w0 ((W.alloc (.map #[] 0)).setCell ⟨f,1,none⟩ (.map (some W.heap.size))) (jK W.heap.size []::aI v (bk S.D.now (96+i))::kF f q S (some W.heap.size) (.map (some a.fb)) false::aG q p false::aO p S.D::jK a.fb a.FM::R):=Sep.dB [0,1,4,2,3] h3 aR bK;obtain⟨st,w1,w2,r1,r2,h5⟩:=h4.DR (k:=i) hi2 bK rfl;refine⟨st,w1,w2,r1,r2,?_⟩;(have h6:Sep w0 w2 (pU f q p S (a.read W.heap.size i v (bk S.D.now (96+i)))++R):=by unfold pU VA.read;rw[hSM];exact Sep.dB [1,2,3,0] h5 aR bK);exact h6.dC
 exact Z17
structure Reads (S:VS) (a a':VA):Prop where
 ok:VC S a'
 fb:a'.fb=a.fb
 FM:a'.FM=a.FM
 more:∀k x,dO a.SM k=some x->dO a'.SM k=some x
theorem Reads.refl (h:VC S a):Reads S a a:=⟨h,rfl,rfl,fun _ _ h=>h⟩
theorem Reads.trans {b c:VA} (h1:Reads S a b) (h2:Reads S b c):Reads S a c:=⟨h2.ok,h2.fb.trans h1.fb,h2.FM.trans h1.FM,fun k x h=>h2.more k x (h1.more k x h)⟩
theorem KF {M N:BM} {k:Nat} {x:Value×List UInt8} (h:dO M k=some x):dO (M++N) k=some x:=by unfold dO at h ⊢;rw[OT]at h;obtain⟨y,h1,h2⟩:=h;rw[aj4,h1,Option.some_or,UL,h2]
theorem Z51 {P:Prop} (h:P:=by rintro e w' ⟨rfl,rfl⟩;refine⟨_,a,rfl,.refl hC,?_,h⟩;have h2:x.2=bk S.D.now (96+i):=hx.2;rw[hf,<-h2]):P:=h
theorem alT {i:Nat} (hC:VC S a) (hi:i<S.nb-96) (h:Sep w0 w (aF f q p S a::R)):
  Calls Tryz.prog 157 #[pV f,iV i] w fun e w'=>∃v a',e= .returned v/\Reads S a a'/\dO a'.SM i=some (v,bk S.D.now (96+i))/\Sep w0 w' (aF f q p S a'::R):=by
 cases hf:dO a.SM i with
 |some x=>have hx:=hC.seen _ (lQ hf);refine(ayU hC hi (v:=x.1) (bs:=x.2) hf h).mono ?_;exact Z51
 |none=>
  have key:∀b v,Reads S a (a.read b i v (bk S.D.now (96+i)))/\dO (a.read b i v (bk S.D.now (96+i))).SM i=some (v,bk S.D.now (96+i)):=fun b v=>
   ⟨⟨hC.read b v hi,rfl,rfl,fun k x hx=>KF hx⟩,KG hf⟩
  cases hb:a.sb with
  |some b=>refine(avC hC hi hf hb h).mono ?_;rintro e w' ⟨v,rfl,h9⟩;exact⟨v,_,rfl,(key b v).1,(key b v).2,h9⟩
  |none=>refine(ayV hC hi hb h).mono ?_;rintro e w' ⟨v,b,rfl,h9⟩;exact⟨v,_,rfl,(key b v).1,(key b v).2,h9⟩
theorem UD {i:Nat} (hC:VC S a) (hi:i<S.nb-96) (h:Sep w0 w (aF f q p S a::R)):
  w.cell? ⟨f,2,none⟩=some (.map (some a.fb))/\(Instr.lookup 111 (.map (some a.fb)) (.int .i64 i) true).run Tryz.prog w= .ok (.tuple #[((dO a.FM i).map (·.1)).getD (.slice none 0 0),.bool (dO a.FM i).isSome]) w:=by
 have h1:=h.bG;refine⟨?_,h1.ZC 4 rfl i (by have:=hC.nV.few;omega)⟩;have c1:=h1.bC 0 rfl 2;simpa using c1
theorem PD {i:Nat} (hC:VC S a) (hi:i<S.nb-96) (h:Sep w0 w (aF f q p S a::R)):
  Calls Tryz.prog 144 #[pV f,iV i] w fun e w'=>∃v a',e= .returned v/\Reads S a a'/\ajP a' i v (bk S.cur i)/\Sep w0 w' (aF f q p S a'::R):=by
 obtain⟨c2,hl⟩:=UD hC hi h;have ho:=alT hC hi h;cases hf:dO a.FM i with
 |some x=>rw[hf]at hl;simp only[UL,GX,OV]at hl;have hx:x.2=bk S.cur i:=(hC.fresh _ (lQ hf)).2;have hp:ajP a i x.1 (bk S.cur i):=.inl (by rw[hf,<-hx]);have hR:=Reads.refl hC;clear ho hC hi hf hx;go_enter Tryz.func144,Tryz.ntmps144;go_wp2_with fail;go_ret;exact⟨_,a,rfl,hR,hp,h⟩
 |none=>rw[hf]at hl;simp only[ab4,J6,UJ]at hl;have hr:=hC.rest i hi hf;clear h;go_enter Tryz.func144,Tryz.ntmps144;go_wp2_with(go_at_call 157;refine ho.mono ?_;rintro e w9 ⟨v,a',rfl,hR,hs,h9⟩);go_ret;exact⟨_,a',rfl,hR,.inr ⟨by rw[hR.FM];exact hf,by rw[hr];exact hs⟩,h9⟩
def DL (f q p:Nat) (S:VS) (a:VA) (k:Nat) (v:Value) (w0 w:World) (R:List aW):Prop:=
 (dO a.FM k=some (v,bk S.cur k)/\Sep w0 w (aF f q p S a::R))\/(dO a.FM k=none/\Sep w0 w (aF f q p S a::aI v (bk S.cur k)::R))
theorem DL.out {k:Nat} {v:Value} (h:DL f q p S a k v w0 w R):Sep w0 w (aI v (bk S.cur k)::AP f q p S a k::R):=by
 rcases h with⟨hf,h⟩|⟨hf,h⟩
 ·have h1:=h.bG;have h2:Sep w0 w (jK a.fb a.FM::kF f q S a.sb (.map (some a.fb)) false::aG q p false::aO p S.D::dY a.sb a.SM::R):=Sep.dB [4,0,1,2,3] h1 aR (by simp[pU]);have h3:=h2.ayS hf;have h4:Sep w0 w ([kF f q S a.sb (.map (some a.fb)) false,aG q p false,aO p S.D,dY a.sb a.SM,UM a.fb a.FM k]++(aI v (bk S.cur k)::R)):=Sep.dB [2,3,4,5,1,0] h3 aR bK;exact(h4.dC).perm (List.Perm.swap _ _ _)
 have h1:=h.bG;have h2:Sep w0 w (jK a.fb a.FM::kF f q S a.sb (.map (some a.fb)) false::aG q p false::aO p S.D::dY a.sb a.SM::aI v (bk S.cur k)::R):=Sep.dB [4,0,1,2,3] h1 aR (by simp[pU]);have h3:=h2.HZ hf;have h4:Sep w0 w ([kF f q S a.sb (.map (some a.fb)) false,aG q p false,aO p S.D,dY a.sb a.SM,UM a.fb a.FM k]++(aI v (bk S.cur k)::R)):=Sep.dB [1,2,3,4,0] h3 aR bK;exact(h4.dC).perm (List.Perm.swap _ _ _)
end
def VS.data (S:VS):Nat:=2+(S.names+7)/8
def VS.count (S:VS):Nat:=S.nb-96-S.data
structure VF (S:VS):Prop where
 names:S.names<=1024
 room:96+S.data<S.nb
def VS.put (S:VS) (k:Nat) (bs:List UInt8):VS:= {S with cur:=S.cur.set k bs,m:=S.m+1}
def VA.put (a:VA) (k:Nat) (v:Value) (bs:List UInt8):VA:= {a with FM:=gY a.FM k++[(k,v,bs)]}
theorem apA {M:BM} {k:Nat}:dO (gY M k) k=none:=by unfold dO gY;rw[YZ,wV];intro x hx;have:=(List.mem_filter.1 hx).2;simpa using this
theorem abF {M:BM} {k j:Nat} (h:j≠k):dO (gY M k) j=dO M j:=by
 unfold dO gY;congr 1
 induction M with
 |nil=>rfl
 |cons x M ih=>
  rw[yM];by_cases hx:x.1=k
  ·(have e1:(x.1==k)=true:=by simpa using hx);(have e2:(x.1==j)=false:=by simp;omega);rw[e1,J8,e2];exact ih
  (have e1:(x.1==k)=false:=by simpa using hx);rw[e1];simp only[Bool.not_false,if_true];rw[J8,J8,ih]
theorem apB {M:BM} {k:Nat} {v:Value} {bs:List UInt8} (j:Nat):dO (gY M k++[(k,v,bs)]) j=if j=k then some (v,bs)else dO M j:=by
 by_cases e:j=k
 ·subst e;rw[if_pos rfl,KG apA]
 rw[if_neg e];have h1:=abF (M:=M) e;cases hf:dO (gY M k) j with
 |some x=>rw[KF hf,<-h1,hf]
 |none=>rw[<-h1,hf];unfold dO at hf ⊢;rw[YZ]at hf ⊢;rw[aj4,hf,J8];(have e2:(k==j)=false:=by simp;omega);simp[e2]
section
variable {w0 w:World} {R:List aW} {f q p:Nat} {S:VS} {a:VA}
theorem VC.put (hC:VC S a) {k:Nat} (v:Value) {bs:List UInt8} (hk:k<S.nb-96) (hbs:bs.length=512):VC (S.put k bs) (a.put k v bs) where
 nV:=hC.nV
 big:=hC.big
 on:=hC.on
 cur:=hC.cur.set k hbs
 seen:=hC.seen
 fresh:=fun x hx=>by
  (show x.1<S.nb-96/\x.2.2=bk (S.cur.set k bs) x.1);rw[BG _ _ _ _ (by rw[hC.cur.len];exact hk)];rcases iM.1 hx with hx|hx
  ·have h1:=List.mem_filter.1 hx;(have h2:x.1≠k:=by simpa using h1.2);rw[if_neg h2];exact hC.fresh x h1.1
  rw[tJ]at hx;subst hx;exact⟨hk,by rw[if_pos rfl]⟩
 rest:=fun j hj hf=>by
  have hf':dO (gY a.FM k++[(k,v,bs)]) j=Option.none:=hf;rw[apB]at hf';(show bk (S.cur.set k bs) j=_);by_cases e:j=k
  ·rw[if_pos e]at hf';cases hf'
  rw[if_neg e]at hf';rw[BG _ _ _ _ (by rw[hC.cur.len];exact hk),if_neg e];exact hC.rest j hj hf'
 few:=by have h1:(gY a.FM k).length<=a.FM.length:=OJ _ _;have h2:=hC.few;(show(gY a.FM k++[(k,v,bs)]).length<=S.m+1);rw[jM];simp only[oL];omega
 none:=hC.none
theorem NS {i:Nat} (hC:VC S a) (hi:i<S.nb-96) (h:Sep w0 w (aF f q p S a::R)):
  Calls Tryz.prog 84 #[pV f,iV i] w fun e w'=>∃v a',e= .returned v/\Reads S a a'/\DL f q p S a' i v w0 w' R:=by
 obtain⟨c2,hl⟩:=UD hC hi h;have ho:=alT hC hi h;cases hf:dO a.FM i with
 |some x=>rw[hf]at hl;simp only[UL,GX,OV]at hl;have hx:x.2=bk S.cur i:=(hC.fresh _ (lQ hf)).2;(have hp:dO a.FM i=some (x.1,bk S.cur i):=by rw[hf,<-hx]);have hR:=Reads.refl hC;clear ho hC hi hf hx;go_enter Tryz.func84,Tryz.ntmps84;go_wp2_with fail;go_ret;exact⟨_,a,rfl,hR,.inl ⟨hp,h⟩⟩
 |none=>rw[hf]at hl;simp only[ab4,J6,UJ]at hl;have hr:=hC.rest i hi hf;have hlen:=hC.akD hi;obtain⟨k0,pR,hk0,hk1,hk2⟩:=iR mE;clear h hi;go_enter Tryz.func84,Tryz.ntmps84;go_wp2_with(first |(go_at_call 157;refine ho.mono ?_;rintro e w9 ⟨v,a',rfl,hR,hs,h9⟩;have hS:=Lh (h9.gZ 5 1);have hrd:=Lh (h9.NR (.inr ⟨by rw[hR.FM];exact hf,hs⟩) hR.ok.none))|(at_builtin;refine dI 0 rfl _ _ 69 rfl 5 k0 (.int .u8 0) 1 1 Tryz.underlying69 pR hk0 hk1 hk2 rfl aR hS.out _ 0 [] rfl rfl v 512 ((bk S.D.now (96+i)).map kY) rfl (by rw[<-hlen];exact hrd.out) rT vX aD ?_;intro v3 w3 dQ hz3));go_ret;refine⟨_,a',rfl,hR,.inr ⟨by rw[hR.FM];exact hf,?_⟩⟩;rw[hr];(have h8:Sep w0 w3 (aI v3 (bk S.D.now (96+i))::aF f q p S a'::R):=by rw[bV hlen];exact dQ);exact h8.perm (List.Perm.swap _ _ _)
theorem yP {i:Nat} {v:Value} {bs:List UInt8} (hC:VC S a) (hi:i<S.nb-96) (h:Sep w0 w (aI v bs::AP f q p S a i::R)):
  Calls Tryz.prog 98 #[pV f,iV i,v] w fun e w'=>e= .returned (.tuple #[])/\Sep w0 w' (aF f q p (S.put i bs) (a.put i v bs)::R):=by
 have h1:Sep w0 w ([kF f q S a.sb (.map (some a.fb)) false,aG q p false,aO p S.D,dY a.sb a.SM,UM a.fb a.FM i]++(aI v bs::R)):=(h.perm (List.Perm.swap _ _ _)).bG;have c2:=h1.bC 0 rfl 2;simp only[gA,gB,gC]at c2;have hkey:Sep w0 w (lJ 3 a.fb (iK a.FM):: .dU (eG (gY a.FM i))::kF f q S a.sb (.map (some a.fb)) false::aG q p false::aO p S.D::dY a.sb a.SM::aI v bs::R):=Sep.jO (Sep.dB [4,0,1,2,3,5] h1 aR bK);have hnd:(a.FM.map (·.1)).Nodup:=by have h1:=(hkey.rU 0 rfl).ne;exact Z62
 have h3:Sep w0 w (UM a.fb a.FM i::aI v bs::kF f q S a.sb (.map (some a.fb)) false::aG q p false::aO p S.D::dY a.sb a.SM::R):=Sep.dB [4,5,0,1,2,3] h1 aR bK;obtain⟨w1,hrun,h4⟩:=h3.ayT (by have:=hC.nV.few;omega) (by have:=hC.aqK hnd;omega);have h5:Sep w0 w1 (aF f q p (S.put i bs) (a.put i v bs)::R):=by have h6:Sep w0 w1 (pU f q p (S.put i bs) (a.put i v bs)++R):=Sep.dB [1,2,3,4,0] h4 aR bK;exact h6.dC
 clear hkey h3 h h1 hC hi h4;go_enter Tryz.func98,Tryz.ntmps98;go_wp2_with fail
 go_end0
 exact⟨rfl,h5⟩
theorem BA (hC:VC S a) (hF:VF S) (h:w.cell? ⟨f,3,none⟩=some (iV S.names)):
  Calls Tryz.prog 142 #[pV f] w fun e w'=>e= .returned (iV S.data)/\w'=w:=by
 have hn:=hF.names;have e1:((S.data:Nat):Int)=2+((S.names:Int)+7)/8:=by unfold VS.data;omega
 rw[e1];obtain⟨N,hN⟩:∃N:Int,N=S.names:=⟨_,rfl⟩;have b0:0<=N:=by omega
 have b1:N<=1024:=by omega
 rw[<-hN]at h ⊢;have q1:IntKind.i64.wrap (N+8)=N+8:=IntWalk.i64_in _ aD;have q2:IntKind.i64.wrap (N+7)=N+7:=IntWalk.i64_in _ aD;have q3:IntKind.i64.wrap ((N+7)/8)=(N+7)/8:=IntWalk.i64_in _ aD;have q4:IntKind.i64.wrap (2+(N+7)/8)=2+(N+7)/8:=IntWalk.i64_in _ aD;clear hC hF hn e1;go_enter Tryz.func142,Tryz.ntmps142;go_wp2_with fail;go_ret;refine⟨?_,rfl⟩;show Ending.returned (Value.int IntKind.i64 (2+((S.names:Int)+8-1)/8))=_
 rw[<-hN,show N+8-1=N+7 by omega]
structure FsC (w:World) (f q:Nat) (S:VS) (a:VA):Prop where
 c0:w.cell? ⟨f,0,none⟩=some (pV q)
 c1:w.cell? ⟨f,1,none⟩=some (.map a.sb)
 c2:w.cell? ⟨f,2,none⟩=some (.map (some a.fb))
 c3:w.cell? ⟨f,3,none⟩=some (iV S.names)
 c4:w.cell? ⟨f,4,none⟩=some (.bool false)
 c5:w.cell? ⟨f,5,none⟩=some (iW S.wB S.wI)
 c6:w.cell? ⟨f,6,none⟩=some (iV S.nodes)
 c7:w.cell? ⟨f,7,none⟩=some (iW S.rB S.rI)
theorem Sep.fO (h:Sep w0 w (aF f q p S a::R)):FsC w f q S a:=by
 have h1:=h.bG;have c:=fun j=>h1.bC 0 rfl j
 have c0:=c 0;have c1:=c 1;have c2:=c 2;have c3:=c 3;have c4:=c 4;have c5:=c 5;have c6:=c 6;have c7:=c 7;simp only[gA,gB,gC]at c0 c1 c2 c3 c4 c5 c6 c7;exact⟨c0,c1,c2,c3,c4,c5,c6,c7⟩
theorem DL.fO {k:Nat} {v:Value} (h:DL f q p S a k v w0 w R):FsC w f q S a:=by
 rcases h with⟨_,h⟩|⟨_,h⟩
 ·exact h.fO
 exact h.fO
theorem K3 (hC:VC S a) (hF:VF S) (h:Sep w0 w (aF f q p S a::R)):
  Calls Tryz.prog 86 #[pV f] w fun e w'=>e= .returned (iV S.count)/\w'=w:=by
 have hc:=h.fO;have hd:=BA hC hF hc.c3;have c0:=hc.c0;have hbl:=CZ (q:=q) (p:=p) (dead:=false) (R:=kF f q S a.sb (.map (some a.fb)) false::dY a.sb a.SM::jK a.fb a.FM::R) hC.nV (by have:=hC.big;omega) (Sep.dB [1,2,0,3,4] (h.bG) aR (by simp[pU]));have hr:=hF.room;have e1:((S.count:Nat):Int)=((S.nb-96:Nat):Int)-S.data:=by unfold VS.count;omega
 have e2:((S.nb-96:Nat):Int)<=4096:=by have:=hC.nV.few;omega
 have e3:(0:Int)<=(S.data:Int):=by omega
 have e4:(S.data:Int)<=4096:=by have:=hC.nV.few;omega
 have e5:(0:Int)<=((S.nb-96:Nat):Int):=by omega
 rw[e1];obtain⟨N,hN⟩:∃N,N=S.nb-96:=⟨_,rfl⟩;obtain⟨M,hM⟩:∃M,M=S.data:=⟨_,rfl⟩;rw[<-hN]at hbl e2 e5 ⊢;rw[<-hM]at hd e3 e4 ⊢;clear e1 hr hN hM hc;go_enter Tryz.func86,Tryz.ntmps86;go_wp2_with(first |(go_at_call 154;refine hbl.mono ?_;rintro e w9 ⟨rfl,h9⟩;obtain rfl:=h9.symm)|(go_at_call 142;refine hd.mono ?_;rintro e w9 ⟨rfl,h9⟩;obtain rfl:=h9.symm));go_ret;exact⟨rfl,rfl⟩
end
end Go.Proofs.YtmjomdkleikgbaaGreat
