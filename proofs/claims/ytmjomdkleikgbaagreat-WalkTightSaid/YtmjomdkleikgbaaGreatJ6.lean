/- Parts. -/
import Derived.Test.YtmjomdkleikgbaaGreatJ5
import Derived.Laws.FloatArith
import Derived.Laws.ComplexArith
set_option linter.unusedVariables false
set_option linter.unusedSimpArgs false
set_option maxRecDepth 100000
set_option maxHeartbeats 20000000
namespace Go.Proofs.YtmjomdkleikgbaaGreat
open Ieee
theorem YA (neg:Bool) (q d:Nat) (hq:0<q):Toward.even.cut neg (q*2 ^ d) d=q:=by
 have hl:d<=(q*2 ^ d).log2:=by rw[Nat.le_log2 (EL (VD hq (JU d)))];exact Nat.le_mul_of_pos_left _ hq
 unfold Toward.cut;have hm:min d ((q*2 ^ d).log2+2)=d:=by omega
 simp only[hm,Nat.one_shiftLeft];rw[Nat.mul_div_cancel _ (JU d),Nat.mul_mod_left];have:=JU d;simp
theorem aiU {m:Nat} (hm:0<m) (k:Nat):(m*2 ^ k).log2=m.log2+k:=by
 have h1:m*2 ^ k≠0:=EL (VD hm (JU k));apply Nat.le_antisymm
 ·(have h2:(m*2 ^ k).log2<m.log2+k+1:=by rw[VE h1];have:=(VE (k:=m.log2+1) (EL hm)).1 (JQ _);(have e:2 ^ (m.log2+k+1)=2 ^ (m.log2+1)*2 ^ k:=by rw[<-LG];congr 1;omega);rw[e];exact ao2 this (JU k));omega
 rw[Nat.le_log2 h1,LG];exact N8 _ ((Nat.le_log2 (EL hm)).1 (iB _))
def lack (m:Nat):Nat:=52-m.log2
theorem GD (neg:Bool) (m k:Nat) (hm:0<m) (h53:m<2 ^ 53) (hk:k<=1074):double.nearest neg (m*2 ^ k) (-(k:Int))=double.word neg (((1074-lack m:Nat))*2 ^ 52+m*2 ^ lack m):=by
 have hl:m.log2<=52:=by have:=(VE (k:=53) (EL hm)).2 h53;omega
 unfold Format.nearest;rw[if_neg (EL (VD hm (JU k))),aiU hm];have e1:double.leastPlace= -1074:=by decide
 have e2:double.fractionBits=52:=rfl;have e3:double.binade=2 ^ 52:=rfl;have e4:double.infRung=2047*2 ^ 52:=by decide
 rw[e1,e2,e3,e4];have hlast:max (-(k:Int)+((m.log2+k:Nat):Int)-(52:Nat)) (-1074)= -((lack m:Nat):Int):=by unfold lack;omega
 rw[hlast];dsimp only;have hL:lack m<=52:=by unfold lack;omega
 have ht:(-((lack m:Nat):Int)- -1074).toNat=1074-lack m:=by omega
 rw[ht];have hkept:Toward.even.cut neg ((m*2 ^ k)<<<(-(k:Int)- -((lack m:Nat):Int)).toNat) (-((lack m:Nat):Int)- -(k:Int)).toNat=m*2 ^ lack m:=by
  rcases Nat.le_total k (lack m)with h|h
  ·(have a1:(-(k:Int)- -((lack m:Nat):Int)).toNat=lack m-k:=by omega);(have a2:(-((lack m:Nat):Int)- -(k:Int)).toNat=0:=by omega);rw[a1,a2,Nat.shiftLeft_eq];(have e:m*2 ^ k*2 ^ (lack m-k)=m*2 ^ lack m:=by rw[abG,<-LG];congr 2;omega);rw[e];have:=YA neg (m*2 ^ lack m) 0 (VD hm (JU _));simpa using this
  (have a1:(-(k:Int)- -((lack m:Nat):Int)).toNat=0:=by omega);(have a2:(-((lack m:Nat):Int)- -(k:Int)).toNat=k-lack m:=by omega);rw[a1,a2,Nat.shiftLeft_zero];(have e:m*2 ^ k=m*2 ^ lack m*2 ^ (k-lack m):=by rw[abG,<-LG];congr 2;omega);rw[e];exact YA neg _ _ (VD hm (JU _))
 rw[hkept];have hb:m*2 ^ lack m<2 ^ 53:=by
  have h1:=(VE (k:=m.log2+1) (EL hm)).1 (JQ _);have h2:m*2 ^ lack m<2 ^ (m.log2+1)*2 ^ lack m:=ao2 h1 (JU _);rw[<-LG]at h2;have e:m.log2+1+lack m=53:=by unfold lack;omega
  rwa [e]at h2
 rw[xZ aD]
def fI (n:Int):Nat:=FloatKind.nearest .f64 n
theorem azD (n:Int):fI n=double.nearest (decide (n<0)) n.natAbs 0:=rfl
theorem DT :fI 0=0:=by decide
def bK (n:Int):Prop:=n.natAbs<2 ^ 53
theorem at6 {n:Int} (hn:bK n) {k:Nat} (hk:k<=1074):double.nearest (decide (n<0)) (n.natAbs*2 ^ k) (-(k:Int))=fI n:=by
 rw[azD];rcases xW n.natAbs with h0|h0
 ·rw[h0,LF];simp[Format.nearest]
 rw[GD _ _ _ h0 hn hk];have:=GD (decide (n<0)) n.natAbs 0 h0 hn aV;rw[<-this];simp
theorem aoF (L:Nat) (h:L=1074):double.read (fI 0)= .number (decide ((0:Int)<0)) ((0:Int).natAbs*2 ^ L) (-(L:Int)):=by rw[Int.natAbs_zero,LF,DT,h];decide
theorem Z33 {P:Prop} (h:P:=by
 rw[if_neg aD,if_pos aD];have z1:2 ^ 52+(q-2 ^ 52)=q:=by omega
 have z2:(-1074:Int)+((1074-L+1-1:Nat):Int)= -(L:Int):=by omega
 rw[z1,z2];rfl):P:=h
theorem yT {n:Int} (hn:bK n):∃L:Nat,L<=1074/\double.read (fI n)= .number (decide (n<0)) (n.natAbs*2 ^ L) (-(L:Int)):=by
 rcases xW n.natAbs with h0|h0
 ·(have:n=0:=by omega);subst this;obtain⟨L,hL⟩:∃L,L=1074:=⟨_,rfl⟩;exact⟨L,by omega,aoF L hL⟩
 have hl:n.natAbs.log2<=52:=by have:=(VE (k:=53) (EL h0)).2 hn;omega
 refine⟨lack n.natAbs,by unfold lack;omega,?_⟩;have e:=GD (decide (n<0)) n.natAbs 0 h0 hn aV;have e0:fI n=double.word (decide (n<0)) (((1074-lack n.natAbs:Nat))*2 ^ 52+n.natAbs*2 ^ lack n.natAbs):=by rw[azD,<-e];simp
 have hb1:n.natAbs*2 ^ lack n.natAbs<2 ^ 53:=by
  have h1:=(VE (k:=n.natAbs.log2+1) (EL h0)).1 (JQ _);have h2:n.natAbs*2 ^ lack n.natAbs<2 ^ (n.natAbs.log2+1)*2 ^ lack n.natAbs:=ao2 h1 (JU _);rw[<-LG]at h2;have e:n.natAbs.log2+1+lack n.natAbs=53:=by unfold lack;omega
  rwa [e]at h2
 have hb2:2 ^ 52<=n.natAbs*2 ^ lack n.natAbs:=by
  have h1:=(Nat.le_log2 (k:=n.natAbs.log2) (EL h0)).1 (iB _);have h2:2 ^ n.natAbs.log2*2 ^ lack n.natAbs<=n.natAbs*2 ^ lack n.natAbs:=N8 _ h1;rw[<-LG]at h2;have e:n.natAbs.log2+lack n.natAbs=52:=by unfold lack;omega
  rwa [e]at h2
 have hlk:lack n.natAbs<=52:=by unfold lack;omega
 rw[e0];generalize n.natAbs*2 ^ lack n.natAbs=q at hb1 hb2 ⊢;generalize lack n.natAbs=L at hlk ⊢;have hr:(1074-L)*2 ^ 52+q<2 ^ 63:=by omega
 have hd:((1074-L)*2 ^ 52+q)/2 ^ 52=1074-L+1:=by omega
 have hm:((1074-L)*2 ^ 52+q)%2 ^ 52=q-2 ^ 52:=by omega
 have e1:double.leastPlace= -1074:=by decide
 have e3:double.binade=2 ^ 52:=rfl;have e4:double.infRung=2047*2 ^ 52:=by decide
 have e5:double.signWeight=2 ^ 63:=rfl;unfold Format.read Format.word;rw[e1,e3,e4,e5];cases decide (n<0)with
 |false=>(have a1:((1074-L)*2 ^ 52+q)/2 ^ 63%2=0:=by omega);have a2:((1074-L)*2 ^ 52+q)%2 ^ 63=(1074-L)*2 ^ 52+q:=Nat.mod_eq_of_lt hr;simp only[JO,if_false,a1,a2,hd,hm];exact Z33
 |true=>(have a1:(2 ^ 63+((1074-L)*2 ^ 52+q))/2 ^ 63%2=1:=by omega);(have a2:(2 ^ 63+((1074-L)*2 ^ 52+q))%2 ^ 63=(1074-L)*2 ^ 52+q:=by omega);simp only[if_true,a1,a2,hd,hm];exact Z33
theorem uG (n:Int) (L K:Nat) (h:L<=K):signed (decide (n<0)) (n.natAbs*2 ^ L) (-(L:Int)- -(K:Int)).toNat=n*2 ^ K:=by
 have e:(-(L:Int)- -(K:Int)).toNat=K-L:=by omega
 rw[e];unfold signed;rw[Nat.shiftLeft_eq,abG,<-LG,Nat.add_sub_cancel' h];have hc:((n.natAbs*2 ^ K:Nat):Int)=(n.natAbs:Int)*2 ^ K:=by simp
 rw[hc];by_cases h0:n<0
 ·rw[if_pos (by simpa using h0)];(have:(n.natAbs:Int)= -n:=by omega);rw[this,Int.neg_mul,Int.neg_neg]
 rw[if_neg (by simpa using h0)];have:(n.natAbs:Int)=n:=by omega
 rw[this]
theorem aaO (a b:Nat):min (-(a:Int)) (-(b:Int))= -((max a b:Nat):Int):=by omega
theorem aiV (s:Bool) (m u:Nat):signed (!s) m u= -(signed s m u):=by unfold signed;cases s<;>simp
theorem ML (K:Nat):(0:Int)<2 ^ K:=by
 have:=JU K;have e:((2 ^ K:Nat):Int)=2 ^ K:=by simp
 omega
theorem TB {a b:Int} {K:Nat} (hs:bK (a+b)) (hK:K<=1074) (z:Bool) (hz:a+b=0->z=false):
  double.write (.number (if a*2 ^ K+b*2 ^ K=0 then z else decide (a*2 ^ K+b*2 ^ K<0)) (a*2 ^ K+b*2 ^ K).natAbs (-(K:Int)))=fI (a+b):=by
 rw[<-Int.add_mul];have hp:=ML K;have hna:((a+b)*2 ^ K).natAbs=(a+b).natAbs*2 ^ K:=by rw[Int.natAbs_mul,Int.natAbs_pow];rfl
 rw[hna];have hneg:(if(a+b)*2 ^ K=0 then z else decide ((a+b)*2 ^ K<0))=decide (a+b<0):=by
  by_cases h0:a+b=0
  ·rw[h0,Int.zero_mul,if_pos rfl,hz h0];rfl
  have h1:(a+b)*2 ^ K≠0:=Int.mul_ne_zero h0 aD;rw[if_neg h1];apply decide_eq_decide.2;constructor
  ·intro h;rw[Int.mul_comm]at h;exact Int.neg_of_mul_neg_right h aD
  intro h;exact Int.mul_neg_of_neg_of_pos h hp
 rw[hneg];exact at6 hs hK
theorem K5 {a b:Int} (ha:bK a) (hb:bK b) (hs:bK (a+b)):floatBits .add .f64 (fI a) (fI b)=some (fI (a+b)):=by
 obtain⟨L,hL,ra⟩:=yT ha;obtain⟨M,hM,rb⟩:=yT hb;show double.add (fI a) (fI b)=_
 unfold Format.add;rw[ra,rb];unfold Datum.sum;simp only[aaO,TQ];rw[uG a L _ (Nat.le_max_left _ _),uG b M _ (Nat.le_max_right _ _)];congr 1;refine TB hs aD _ fun h=>?_
 by_cases h1:a<0
 ·(have:¬b<0:=by omega);simp[this]
 simp[h1]
theorem at7 {a b:Int} (ha:bK a) (hb:bK b) (hs:bK (a-b)):floatBits .sub .f64 (fI a) (fI b)=some (fI (a-b)):=by
 obtain⟨L,hL,ra⟩:=yT ha;obtain⟨M,hM,rb⟩:=yT hb;show double.sub (fI a) (fI b)=_
 unfold Format.sub;rw[ra,rb];unfold Datum.opposite Datum.sum;simp only[aaO,TQ];rw[aiV,uG a L _ (Nat.le_max_left _ _),uG b M _ (Nat.le_max_right _ _)];congr 1;rw[<-Int.neg_mul];refine TB (b:= -b) (by simpa[Int.sub_eq_add_neg]using hs) aD _ fun h=>?_
 by_cases h1:a<0
 ·(have:b<0:=by omega);simp[this]
 simp[h1]
theorem AV {a b:Int} (ha:bK a) (hb:bK b):double.order (fI a) (fI b)=some (compare a b):=by
 obtain⟨L,hL,ra⟩:=yT ha;obtain⟨M,hM,rb⟩:=yT hb;unfold Format.order;rw[ra,rb];unfold Datum.order;simp only[aaO];rw[uG a L _ (Nat.le_max_left _ _),uG b M _ (Nat.le_max_right _ _)];congr 1;have hp:=ML (max L M);rcases Int.lt_trichotomy a b with h|h|h
 ·rw[Int.compare_eq_lt.2 h,Int.compare_eq_lt];exact Int.mul_lt_mul_of_pos_right h hp
 ·subst h;rw[Int.compare_eq_eq.2 rfl];exact(Int.compare_eq_eq.2 rfl).symm
 rw[Int.compare_eq_gt.2 h,Int.compare_eq_gt];exact Int.mul_lt_mul_of_pos_right h hp
end Go.Proofs.YtmjomdkleikgbaaGreat
namespace Go.Proofs.YtmjomdkleikgbaaGreat
def iK (b i:Int):Value:=.complex .f64 (fI b) (fI i)
open Go.RowKit
abbrev BM :=List (Nat×Value×List UInt8)
def G6 (n:Nat):Lit:=.int .i64 (n:Int)
def iJ (M:BM):List (Lit×Value):=M.map fun x=>(G6 x.1,x.2.1)
def dN (M:BM) (k:Nat):Option (Value×List UInt8):=(M.find? fun x=>x.1==k).map (·.2)
def gX (M:BM) (k:Nat):BM:=M.filter fun x=> !(x.1==k)
def eB (M:BM):List aZ:=M.map fun x=>aI x.2.1 x.2.2
def jI (b:Nat) (M:BM):aZ:=.star (mO 3 b (iJ M)) (.dR (eB M))
def TS (b:Nat) (M:BM) (k:Nat):aZ:=.star (mO 3 b (iJ M)) (.dR (eB (gX M k)))
theorem auA (n:Nat):WideAt.IsKeyLit (G6 n):=by simp[G6,WideAt.IsKeyLit]
theorem YB (a b:Nat):(G6 a).sameKey (G6 b)=(a==b):=by
 by_cases h:a=b
 ·subst h;rw[WideAt.sameKey_self (auA a)];simp
 rw[jM.2 h];cases hs:(G6 a).sameKey (G6 b)with
 |false=>rfl
 |true=>have:=WideAt.sameKey_eq hs;unfold G6 at this;injection this with _ h2;exact absurd aD h
theorem afJ (M:BM) (k:Nat):getM (iJ M) (G6 k)=(dN M k).map (·.1):=by
 unfold getM dN iJ
 induction M with
 |nil=>rfl
 |cons x M ih=>
  rw[jS,JS,JS];simp only[YB];cases h:x.1==k with
  |true=>rfl
  |false=>exact ih
theorem abS (M:BM) (k:Nat):nI (iJ M) (G6 k)=iJ (gX M k):=by unfold nI iJ gX;rw[List.filter_map];congr 1;apply List.filter_congr;intro x _;simp[YB]
theorem PD (M:BM) (k:Nat) (v:Value) (bs:List UInt8):qK (iJ M) (G6 k) v=iJ (gX M k++[(k,v,bs)]):=by unfold qK;rw[abS];unfold iJ;simp
theorem jR (n:Nat) (h:n<=100000):keyOf Tryz.prog 3 (.int .i64 n)=some (G6 n):=Maps.keyOf_int_mk Tryz.underlying3 (by simp[Lit.wf,IntKind.min,IntKind.max,IntKind.signed,IntKind.bits];omega)
theorem TC (w:World):(zeroValue 69).run Tryz.prog w= .ok (.slice none 0 0) w:=by kernel_rfl
theorem lN {M:BM} {k:Nat} {x:Value×List UInt8} (h:dN M k=some x):(k,x)∈M:=by
 unfold dN at h;rw[OA]at h;obtain⟨y,h1,rfl⟩:=h;have h2:=GN h1;have h3:=TJ h1;have:y.1=k:=by simpa using h2
 rw[<-this];exact h3
theorem aiW {M:BM} {k:Nat} (h:dN M k=none):∀x∈M,x.1≠k:=by unfold dN at h;rw[YD,wL]at h;intro x hx;simpa using h x hx
theorem K7 {M:BM} {k:Nat} (h:dN M k=none):gX M k=M:=by unfold gX;rw[EM];intro x hx;simpa using aiW h x hx
section
variable {w0 w:World} {As R:List aZ} {b:Nat} {M:BM}
theorem Sep.aiX (i:Nat) (h:Sep w0 w As) (hi:As[i]? =some (jI b M)):Sep w0 w (mO 3 b (iJ M):: .dR (eB M)::(As.take i++As.drop (i+1))):=by have e:=(rV hi).1;rw[e]at h;exact(h.perm lZ).jN
theorem Sep.YN (i:Nat) (h:Sep w0 w As) (hi:As[i]? =some (jI b M)) (k:Nat) (hk:k<=100000):
  (Instr.lookup 111 (.map (some b)) (.int .i64 k) true).run Tryz.prog w= .ok (.tuple #[((dN M k).map (·.1)).getD (.slice none 0 0),.bool (dN M k).isSome]) w:=by
 have h1:=(h.aiX i hi).aeW 0 rfl dW Tryz.underlying111 (TC w) (jR k hk);rw[afJ]at h1;rw[h1];cases dN M k<;>rfl
theorem Z29 {P:Prop} (h:P:=by exact h2.rd (sz:=1) (e:=5) j (by rw[D6 (by unfold eB;rw[iM];exact hj)];unfold eB;rw[kV,gE hj,e];rfl)):P:=h
theorem Sep.auB (i:Nat) (h:Sep w0 w As) (hi:As[i]? =some (jI b M)) {k:Nat} {v:Value} {bs:List UInt8} (hf:dN M k=some (v,bs)):BytesAt w v bs:=by have h1:=(h.aiX i hi).drop 1;have h2:Sep w0 w (eB M++(As.take i++As.drop (i+1))):=h1.bE;obtain⟨j,hj,e⟩:=N9 (lN hf);exact Z29
theorem Z57 {P:Prop} (h:P:=by
 unfold iJ at h1;rw[GJ]at h1;rw[aa6,GJ];refine h1.imp fun h e=>h ?_
 simp only[e]):P:=h
theorem Sep.O0 (i:Nat) (h:Sep w0 w As) (hi:As[i]? =some (jI b M)):(M.map (·.1)).Nodup:=by have h1:=((h.aiX i hi).tK 0 rfl).ne;exact Z57
theorem aoG {M:BM} {k:Nat} {v:Value} {bs:List UInt8} (hn:(M.map (·.1)).Nodup) (hf:dN M k=some (v,bs)):(eB M).Perm (aI v bs::eB (gX M k)):=by
 induction M with
 |nil=>cases hf
 |cons x M ih=>
  rw[jS,wV]at hn;unfold dN at hf;rw[JS]at hf;cases hx:x.1==k with
  |true=>rw[hx]at hf;simp at hf;(have hk:x.1=k:=by simpa using hx);(have hno:dN M k=none:=by unfold dN;rw[YD,wL];intro y hy hyk;(have:y.1=k:=by simpa using hyk);exact hn.1 (List.mem_map.2 ⟨y,hy,by rw[this,hk]⟩));(have e1:gX (x::M) k=M:=by unfold gX;rw[xY,hx];exact K7 hno);rw[e1];unfold eB;rw[jS,hf]
  |false=>rw[hx]at hf;have h1:=ih hn.2 hf;(have e1:gX (x::M) k=x::gX M k:=by unfold gX;rw[xY,hx];rfl);rw[e1];unfold eB at h1 ⊢;rw[jS,jS];exact(List.Perm.cons _ h1).trans (List.Perm.swap _ _ _)
theorem Sep.axV {k:Nat} {v:Value} {bs:List UInt8} (h:Sep w0 w (jI b M::R)) (hf:dN M k=some (v,bs)):Sep w0 w (aI v bs::TS b M k::R):=by have hn:=h.O0 0 rfl;have h1:=h.jN;have h2:Sep w0 w (.dR (eB M)::mO 3 b (iJ M)::R):=h1.perm (List.Perm.swap _ _ _);have h3:=h2.bE;have h4:Sep w0 w (aI v bs::(eB (gX M k)++(mO 3 b (iJ M)::R))):=h3.perm ((aoG hn hf).append_right _);have h5:Sep w0 w (eB (gX M k)++(aI v bs::mO 3 b (iJ M)::R)):=h4.perm lZ.symm;have h6:=h5.dB;have h7:Sep w0 w (mO 3 b (iJ M):: .dR (eB (gX M k))::aI v bs::R):=Sep.dE [2,0,1] h6 aV bL;exact(h7.l7).perm (List.Perm.swap _ _ _)
theorem Sep.GY {k:Nat} (h:Sep w0 w (jI b M::R)) (hf:dN M k=none):Sep w0 w (TS b M k::R):=by unfold TS;rw[K7 hf];exact h
theorem Sep.axW {k:Nat} {v:Value} {bs:List UInt8} (h:Sep w0 w (TS b M k::aI v bs::R)) (hk:k<=100000) (hlen:M.length<100000):
  ∃w',(Instr.mapUpdate 111 (.map (some b)) (.int .i64 k) v).run Tryz.prog w= .ok () w'/\Sep w0 w' (jI b (gX M k++[(k,v,bs)])::R):=by
 have h1:=h.jN;obtain⟨w',hrun,h2⟩:=h1.mE 0 rfl dW Tryz.underlying111 (by unfold iJ;rw[iM];unfold maxLen;omega) (v:=v) (jR k hk);refine⟨w',hrun,?_⟩;rw[PD M k v bs]at h2;have h3:Sep w0 w' (.dR (eB (gX M k))::mO 3 b (iJ (gX M k++[(k,v,bs)]))::aI v bs::R):=h2.perm (List.Perm.swap _ _ _);have h4:=h3.bE;have e:eB (gX M k++[(k,v,bs)])=eB (gX M k)++[aI v bs]:=by unfold eB;simp
 have h5:Sep w0 w' (eB (gX M k++[(k,v,bs)])++(mO 3 b (iJ (gX M k++[(k,v,bs)]))::R)):=by rw[e,pJ];refine h4.perm (afT _ ?_);exact List.Perm.swap _ _ _
 exact((h5.dB).perm (List.Perm.swap _ _ _)).l7
theorem Sep.CX {k:Nat} {v:Value} {bs:List UInt8} (h:Sep w0 w (jI b M::aI v bs::R)) (hk:k<=100000) (hlen:M.length<100000) (hf:dN M k=none):
  ∃st w1 w2,(Instr.mapEntry 111 (.map (some b)) (.int .i64 k)).run Tryz.prog w= .ok (.tuple #[.slice none 0 0,iV st]) w1/\(Instr.entryStore 111 (.map (some b)) (.int .i64 st) v).run Tryz.prog w1= .ok () w2/\Sep w0 w2 (jI b (M++[(k,v,bs)])::R):=by
 have h1:=h.jN;obtain⟨st,w1,w2,r1,r2,h2,_⟩:=h1.at5 0 rfl dW Tryz.underlying111 TC (by unfold iJ;rw[iM];unfold maxLen;omega) (val:=v) (jR k hk) (by rw[afJ,hf];rfl);refine⟨st,w1,w2,r1,r2,?_⟩;rw[PD M k v bs,K7 hf]at h2;have h3:Sep w0 w2 (.dR (eB M)::mO 3 b (iJ (M++[(k,v,bs)]))::aI v bs::R):=h2.perm (List.Perm.swap _ _ _);have h4:=h3.bE;have e:eB (M++[(k,v,bs)])=eB M++[aI v bs]:=by unfold eB;simp
 have h5:Sep w0 w2 (eB (M++[(k,v,bs)])++(mO 3 b (iJ (M++[(k,v,bs)]))::R)):=by rw[e,pJ];refine h4.perm (afT _ ?_);exact List.Perm.swap _ _ _
 exact((h5.dB).perm (List.Perm.swap _ _ _)).l7
theorem Sep.yF (h:Sep w0 w R):Sep w0 (w.alloc (.map #[] 0)) (jI w.heap.size []::R):=by have h1:=h.KC 3;have h2:Sep w0 (w.alloc (.map #[] 0)) (.dR (eB [])::mO 3 w.heap.size (iJ [])::R):=h1.wW;exact(h2.perm (List.Perm.swap _ _ _)).l7
end
structure VS where
 nb:Nat
 names:Nat
 D:DK
 cur:fZ
 wB:Int
 wI:Int
 nodes:Int
 rB:Int
 rI:Int
 m:Nat
structure VA where
 sb:Option Nat
 SM:BM
 fb:Nat
 FM:BM
structure VC (S:VS) (a:VA):Prop where
 pF:S.D.ok S.nb
 big:96<S.nb
 on:S.D.off=false
 cur:kP (S.nb-96) S.cur
 seen:∀x∈a.SM,x.1<S.nb-96/\x.2.2=bk S.D.now (96+x.1)
 fresh:∀x∈a.FM,x.1<S.nb-96/\x.2.2=bk S.cur x.1
 rest:∀k,k<S.nb-96->dN a.FM k=none->bk S.cur k=bk S.D.now (96+k)
 few:a.FM.length<=S.m
 none:a.sb=none->a.SM=[]
def kX (f q:Nat) (S:VS) (sb:Option Nat) (fv:Value) (dead:Bool):aZ:=
 .box f 119 #[pV q,.map sb,fv,iV S.names,.bool dead,iK S.wB S.wI,iV S.nodes,iK S.rB S.rI]
def eU :Option Nat->BM->aZ
 |none,_=>.emp
 |some b,M=>jI b M
def pQ (f q p:Nat) (S:VS) (a:VA):List aZ:=[kX f q S a.sb (.map (some a.fb)) false,aH q p false,aO p S.D,eU a.sb a.SM,jI a.fb a.FM]
def aF (f q p:Nat) (S:VS) (a:VA):aZ:=.dR (pQ f q p S a)
def zR (f q p:Nat) (S:VS) (a:VA) (k:Nat):aZ:=.dR [kX f q S a.sb (.map (some a.fb)) false,aH q p false,aO p S.D,eU a.sb a.SM,TS a.fb a.FM k]
def aiY (a:VA) (k:Nat) (v:Value) (bs:List UInt8):Prop:=dN a.FM k=some (v,bs)\/(dN a.FM k=none/\dN a.SM k=some (v,bs))
section
variable {w0 w:World} {R:List aZ} {f q p:Nat} {S:VS} {a:VA}
theorem VC.short (h:VC S a) (hn:(a.SM.map (·.1)).Nodup):a.SM.length<=4000:=by
 have h1:(a.SM.map (·.1)).length<=(List.range (S.nb-96)).length:=ak1 hn fun x hx=>by obtain⟨y,hy,rfl⟩:=List.mem_map.1 hx;exact List.mem_range.2 (h.seen y hy).1
 have h2:=h.pF.few;rw[iM,K9]at h1;omega
theorem VC.apS (h:VC S a) (hn:(a.FM.map (·.1)).Nodup):a.FM.length<=4000:=by
 have h1:(a.FM.map (·.1)).length<=(List.range (S.nb-96)).length:=ak1 hn fun x hx=>by obtain⟨y,hy,rfl⟩:=List.mem_map.1 hx;exact List.mem_range.2 (h.fresh y hy).1
 have h2:=h.pF.few;rw[iM,K9]at h1;omega
theorem Z40 {P:Prop} (h:P:=by
 cases hs:a.sb with
 |none=>rw[hn hs]at hf;cases hf
 |some b=>refine h1.auB (b:=b) 3 ?_ hf;(show some (eU a.sb a.SM)=_);rw[hs];rfl):P:=h
theorem Sep.NA (h:Sep w0 w (aF f q p S a::R)) {k:Nat} {v:Value} {bs:List UInt8} (hp:aiY a k v bs) (hn:a.sb=none->a.SM=[]):BytesAt w v bs:=by
 have h1:=h.bE;rcases hp with hf|⟨_,hf⟩
 ·exact h1.auB 4 rfl hf
 exact Z40
theorem aiY.tells {k:Nat} {v:Value} {bs:List UInt8} (hp:aiY a k v bs) (hn:a.sb=none->a.SM=[]):jG w0 (aF f q p S a::R) v bs:=fun w' X hS=>by have h1:Sep w0 w' (aF f q p S a::(X++R)):=hS.perm lZ;exact h1.NA hp hn
theorem VC.auC (h:VC S a) {k:Nat} (hk:k<S.nb-96):(bk S.cur k).length=512:=jT h.cur hk
theorem VC.ajM (h:VC S a) {k:Nat} (hk:k<S.nb-96):(bk S.D.now (96+k)).length=512:=jT h.pF.now aD
theorem Z10 {P:Prop} (h:P:=by
 obtain⟨b,hb⟩:∃b,a.sb=some b:=by
  cases hs:a.sb with
  |none=>rw[hC.none hs]at hf;cases hf
  |some b=>exact⟨b,rfl⟩
 have h1:=h.bE;have hl:=h1.YN (b:=b) (M:=a.SM) 3 (by show some (eU a.sb a.SM)=_;rw[hb];rfl) i (by have:=hC.pF.few;omega);rw[hf]at hl;simp only[TQ,JP,U1]at hl;have c1:=h1.bC 0 rfl 1;rw[hb]at c1;simp only[gA,gB,gC]at c1;clear h1 h hC;go_enter Tryz.func157,Tryz.ntmps157;go_wp2_with fail;go_ret;exact⟨rfl,rfl⟩):P:=h
theorem axX {i:Nat} {v:Value} {bs:List UInt8} (hC:VC S a) (hi:i<S.nb-96) (hf:dN a.SM i=some (v,bs)) (h:Sep w0 w (aF f q p S a::R)):
  Calls Tryz.prog 157 #[pV f,iV i] w fun e w'=>e= .returned v/\w'=w:=by
 exact Z10
def VA.read (a:VA) (b i:Nat) (v:Value) (bs:List UInt8):VA:= {a with sb:=some b,SM:=a.SM++[(i,v,bs)]}
theorem J2 {M:BM} {k:Nat} {v:Value} {bs:List UInt8} (h:dN M k=none):dN (M++[(k,v,bs)]) k=some (v,bs):=by unfold dN at h ⊢;rw[YD]at h;rw[ajD,h,JS];simp
theorem VC.read (hC:VC S a) (b:Nat) {i:Nat} (v:Value) (hi:i<S.nb-96):VC S (a.read b i v (bk S.D.now (96+i))):=
 ⟨hC.pF,hC.big,hC.on,hC.cur,fun x hx=>by
  rcases iN.1 hx with hx|hx
  ·exact hC.seen x hx
  rw[sW]at hx;subst hx;exact⟨hi,rfl⟩,hC.fresh,hC.rest,hC.few,fun h=>by cases h⟩
theorem fB (x:Int) (w:World):Calls Tryz.prog 54 #[iV x] w fun e w'=>e=(if x=0 then .returned (.tuple #[])else .panicked [{v:=.iface 171 (.agg #[iV x]),recovered:=false}])/\w'=w:=by
 by_cases hx:x=0
 ·subst hx;go_enter Tryz.func54,Tryz.ntmps54;go_wp2_with fail
  go_end0
  exact⟨rfl,rfl⟩
 rw[if_neg hx];go_enter Tryz.func54,Tryz.ntmps54;go_wp2_with fail;exact⟨rfl,rfl,rfl⟩
theorem aoH (b:Nat) (w:World):(binOp .eql 111 (.map (some b)) (.map none)).run Tryz.prog w= .ok (.bool false) w:=by kernel_rfl
theorem aoI (w:World):(binOp .eql 111 (.map none) (.map none)).run Tryz.prog w= .ok (.bool true) w:=by kernel_rfl
theorem G5 (k:Nat) (w:World):(Instr.lookup 111 (.map none) (.int .i64 k) true).run Tryz.prog w= .ok (.tuple #[.slice none 0 0,.bool false]) w:=by kernel_rfl
theorem Z17 {P:Prop} (h:P:=by clear hC hlen hi2 hi hnd h;have hm0:=aoH b;go_enter Tryz.func157,Tryz.ntmps157;go_wp2_with(first |(go_at_call 187;refine hrd.mono ?_;rintro e w9 ⟨v,rfl,h9⟩;obtain⟨k1,st,w1,w2,r1,r2,h7⟩:=hend _ _ h9)|(go_at_call 54;refine(fB _ _).mono ?_;rintro e w8 ⟨rfl,h8⟩;obtain rfl:=h8.symm));go_ret;exact⟨_,rfl,h7⟩):P:=h
theorem auD {i b:Nat} (hC:VC S a) (hi:i<S.nb-96) (hf:dN a.SM i=none) (hb:a.sb=some b) (h:Sep w0 w (aF f q p S a::R)):
  Calls Tryz.prog 157 #[pV f,iV i] w fun e w'=>∃v,e= .returned v/\Sep w0 w' (aF f q p S (a.read b i v (bk S.D.now (96+i)))::R):=by
 have h1:=h.bE;unfold pQ at h1;rw[hb]at h1;have hnd:=h1.O0 (b:=b) (M:=a.SM) 3 rfl;have hlen:=hC.short hnd;have hi2:i<=100000:=by have:=hC.pF.few;omega
 have hl:=h1.YN (b:=b) (M:=a.SM) 3 rfl i hi2;rw[hf]at hl;simp only[abD,NZ,aaX]at hl;have c1:=h1.bC 0 rfl 1;have c0:=h1.bC 0 rfl 0;simp only[gA,gB,gC]at c0 c1;have hrd:=vT (i:=i) (R:=kX f q S (some b) (.map (some a.fb)) false::jI b a.SM::jI a.fb a.FM::R) hC.pF hC.big aD hC.on (Sep.dE [1,2,0] h1 aV bL);have hend:∀W v,Sep w0 W (aI v (bk S.D.now (96+i))::aH q p false::aO p S.D::kX f q S (some b) (.map (some a.fb)) false::jI b a.SM::jI a.fb a.FM::R)->
   W.cell? ⟨f,1,none⟩=some (.map (some b))/\∃st w1 w2,(Instr.mapEntry 111 (.map (some b)) (.int .i64 i)).run Tryz.prog W= .ok (.tuple #[.slice none 0 0,iV st]) w1/\(Instr.entryStore 111 (.map (some b)) (.int .i64 st) v).run Tryz.prog w1= .ok () w2/\Sep w0 w2 (aF f q p S (a.read b i v (bk S.D.now (96+i)))::R):=fun W v hS=>by
  have k1:=hS.bC 3 rfl 1;simp only[gA,gB,gC]at k1;have h2:Sep w0 W (jI b a.SM::aI v (bk S.D.now (96+i))::kX f q S (some b) (.map (some a.fb)) false::aH q p false::aO p S.D::jI a.fb a.FM::R):=Sep.dE [4,0,3,1,2] hS aV bL;obtain⟨st,w1,w2,r1,r2,h3⟩:=h2.CX hi2 aD hf;refine⟨k1,st,w1,w2,r1,r2,?_⟩;have h4:Sep w0 w2 (pQ f q p S (a.read b i v (bk S.D.now (96+i)))++R):=Sep.dE [1,2,3,0] h3 aV bL;exact h4.dB
 exact Z17
theorem Z16 {P:Prop} (h:P:=by clear hC hi2 hi h h1;have hm0:=aoI;have hmm:= @run_makeMap Tryz.prog;go_enter Tryz.func157,Tryz.ntmps157;go_wp2_with(first |(go_at_call 187;refine hrd.mono ?_;rintro e w9 ⟨v,rfl,h9⟩;obtain⟨k1,k2,k3,k4,st,w1,w2,r1,r2,h7⟩:=hend _ _ h9;clear c1)|(go_at_call 54;refine(fB _ _).mono ?_;rintro e w8 ⟨rfl,h8⟩;obtain rfl:=h8.symm));go_ret;exact⟨_,_,rfl,h7⟩):P:=h
theorem axY {i:Nat} (hC:VC S a) (hi:i<S.nb-96) (hb:a.sb=none) (h:Sep w0 w (aF f q p S a::R)):
  Calls Tryz.prog 157 #[pV f,iV i] w fun e w'=>∃v b,e= .returned v/\Sep w0 w' (aF f q p S (a.read b i v (bk S.D.now (96+i)))::R):=by
 have h1:=h.bE;unfold pQ at h1;rw[hb]at h1;have hi2:i<=100000:=by have:=hC.pF.few;omega
 have hl:=G5 i w;have c1:=h1.bC 0 rfl 1;have c0:=h1.bC 0 rfl 0;simp only[gA,gB,gC]at c0 c1;have hrd:=vT (i:=i) (R:=kX f q S none (.map (some a.fb)) false::jI a.fb a.FM::R) hC.pF hC.big aD hC.on ((Sep.dE [3,1,2,0] h1 aV bL).drop 1);have hSM:=hC.none hb;have hend:∀W v,Sep w0 W (aI v (bk S.D.now (96+i))::aH q p false::aO p S.D::kX f q S none (.map (some a.fb)) false::jI a.fb a.FM::R)->
   W.cell? ⟨f,1,none⟩=some (.map none)/\(W.alloc (.map #[] 0)).frozen? ⟨f,1,none⟩=false/\(W.alloc (.map #[] 0)).cell? ⟨f,1,none⟩=some (.map none)/\
   ((W.alloc (.map #[] 0)).setCell ⟨f,1,none⟩ (.map (some W.heap.size))).cell? ⟨f,1,none⟩=some (.map (some W.heap.size))/\∃st w1 w2,(Instr.mapEntry 111 (.map (some W.heap.size)) (.int .i64 i)).run Tryz.prog ((W.alloc (.map #[] 0)).setCell ⟨f,1,none⟩ (.map (some W.heap.size)))= .ok (.tuple #[.slice none 0 0,iV st]) w1/\(Instr.entryStore 111 (.map (some W.heap.size)) (.int .i64 st) v).run Tryz.prog w1= .ok () w2/\Sep w0 w2 (aF f q p S (a.read W.heap.size i v (bk S.D.now (96+i)))::R):=fun W v hS=>by
  have k1:=hS.bC 3 rfl 1;have h2:=hS.yF;have k2:=h2.bC 4 rfl 1;have k3:=h2.bF 4 rfl 1;have h3:=h2.bS 4 rfl 1 (.map (some W.heap.size));have k4:=h3.bC 4 rfl 1;simp only[gA,gB,gC]at k1 k2;refine⟨k1,k3,k2,?_,?_⟩
  ·rw[k4];rfl
  have h4:Sep w0 ((W.alloc (.map #[] 0)).setCell ⟨f,1,none⟩ (.map (some W.heap.size))) (jI W.heap.size []::aI v (bk S.D.now (96+i))::kX f q S (some W.heap.size) (.map (some a.fb)) false::aH q p false::aO p S.D::jI a.fb a.FM::R):=Sep.dE [0,1,4,2,3] h3 aV bL;obtain⟨st,w1,w2,r1,r2,h5⟩:=h4.CX (k:=i) hi2 bL rfl;refine⟨st,w1,w2,r1,r2,?_⟩;(have h6:Sep w0 w2 (pQ f q p S (a.read W.heap.size i v (bk S.D.now (96+i)))++R):=by unfold pQ VA.read;rw[hSM];exact Sep.dE [1,2,3,0] h5 aV bL);exact h6.dB
 exact Z16
structure Reads (S:VS) (a a':VA):Prop where
 ok:VC S a'
 fb:a'.fb=a.fb
 FM:a'.FM=a.FM
 more:∀k x,dN a.SM k=some x->dN a'.SM k=some x
theorem Reads.refl (h:VC S a):Reads S a a:=⟨h,rfl,rfl,fun _ _ h=>h⟩
theorem Reads.trans {b c:VA} (h1:Reads S a b) (h2:Reads S b c):Reads S a c:=⟨h2.ok,h2.fb.trans h1.fb,h2.FM.trans h1.FM,fun k x h=>h2.more k x (h1.more k x h)⟩
theorem JZ {M N:BM} {k:Nat} {x:Value×List UInt8} (h:dN M k=some x):dN (M++N) k=some x:=by unfold dN at h ⊢;rw[OA]at h;obtain⟨y,h1,h2⟩:=h;rw[ajD,h1,Option.some_or,TQ,h2]
theorem Z48 {P:Prop} (h:P:=by rintro e w' ⟨rfl,rfl⟩;refine⟨_,a,rfl,.refl hC,?_,h⟩;have h2:x.2=bk S.D.now (96+i):=hx.2;rw[hf,<-h2]):P:=h
theorem akY {i:Nat} (hC:VC S a) (hi:i<S.nb-96) (h:Sep w0 w (aF f q p S a::R)):
  Calls Tryz.prog 157 #[pV f,iV i] w fun e w'=>∃v a',e= .returned v/\Reads S a a'/\dN a'.SM i=some (v,bk S.D.now (96+i))/\Sep w0 w' (aF f q p S a'::R):=by
 cases hf:dN a.SM i with
 |some x=>have hx:=hC.seen _ (lN hf);refine(axX hC hi (v:=x.1) (bs:=x.2) hf h).mono ?_;exact Z48
 |none=>
  have key:∀b v,Reads S a (a.read b i v (bk S.D.now (96+i)))/\dN (a.read b i v (bk S.D.now (96+i))).SM i=some (v,bk S.D.now (96+i)):=fun b v=>
   ⟨⟨hC.read b v hi,rfl,rfl,fun k x hx=>JZ hx⟩,J2 hf⟩
  cases hb:a.sb with
  |some b=>refine(auD hC hi hf hb h).mono ?_;rintro e w' ⟨v,rfl,h9⟩;exact⟨v,_,rfl,(key b v).1,(key b v).2,h9⟩
  |none=>refine(axY hC hi hb h).mono ?_;rintro e w' ⟨v,b,rfl,h9⟩;exact⟨v,_,rfl,(key b v).1,(key b v).2,h9⟩
theorem TD {i:Nat} (hC:VC S a) (hi:i<S.nb-96) (h:Sep w0 w (aF f q p S a::R)):
  w.cell? ⟨f,2,none⟩=some (.map (some a.fb))/\(Instr.lookup 111 (.map (some a.fb)) (.int .i64 i) true).run Tryz.prog w= .ok (.tuple #[((dN a.FM i).map (·.1)).getD (.slice none 0 0),.bool (dN a.FM i).isSome]) w:=by
 have h1:=h.bE;refine⟨?_,h1.YN 4 rfl i (by have:=hC.pF.few;omega)⟩;have c1:=h1.bC 0 rfl 2;simpa using c1
theorem OT {i:Nat} (hC:VC S a) (hi:i<S.nb-96) (h:Sep w0 w (aF f q p S a::R)):
  Calls Tryz.prog 144 #[pV f,iV i] w fun e w'=>∃v a',e= .returned v/\Reads S a a'/\aiY a' i v (bk S.cur i)/\Sep w0 w' (aF f q p S a'::R):=by
 obtain⟨c2,hl⟩:=TD hC hi h;have ho:=akY hC hi h;cases hf:dN a.FM i with
 |some x=>rw[hf]at hl;simp only[TQ,JP,U1]at hl;have hx:x.2=bk S.cur i:=(hC.fresh _ (lN hf)).2;have hp:aiY a i x.1 (bk S.cur i):=.inl (by rw[hf,<-hx]);have hR:=Reads.refl hC;clear ho hC hi hf hx;go_enter Tryz.func144,Tryz.ntmps144;go_wp2_with fail;go_ret;exact⟨_,a,rfl,hR,hp,h⟩
 |none=>rw[hf]at hl;simp only[abD,NZ,aaX]at hl;have hr:=hC.rest i hi hf;clear h;go_enter Tryz.func144,Tryz.ntmps144;go_wp2_with(go_at_call 157;refine ho.mono ?_;rintro e w9 ⟨v,a',rfl,hR,hs,h9⟩);go_ret;exact⟨_,a',rfl,hR,.inr ⟨by rw[hR.FM];exact hf,by rw[hr];exact hs⟩,h9⟩
def CV (f q p:Nat) (S:VS) (a:VA) (k:Nat) (v:Value) (w0 w:World) (R:List aZ):Prop:=
 (dN a.FM k=some (v,bk S.cur k)/\Sep w0 w (aF f q p S a::R))\/(dN a.FM k=none/\Sep w0 w (aF f q p S a::aI v (bk S.cur k)::R))
theorem CV.out {k:Nat} {v:Value} (h:CV f q p S a k v w0 w R):Sep w0 w (aI v (bk S.cur k)::zR f q p S a k::R):=by
 rcases h with⟨hf,h⟩|⟨hf,h⟩
 ·have h1:=h.bE;have h2:Sep w0 w (jI a.fb a.FM::kX f q S a.sb (.map (some a.fb)) false::aH q p false::aO p S.D::eU a.sb a.SM::R):=Sep.dE [4,0,1,2,3] h1 aV (by simp[pQ]);have h3:=h2.axV hf;have h4:Sep w0 w ([kX f q S a.sb (.map (some a.fb)) false,aH q p false,aO p S.D,eU a.sb a.SM,TS a.fb a.FM k]++(aI v (bk S.cur k)::R)):=Sep.dE [2,3,4,5,1,0] h3 aV bL;exact(h4.dB).perm (List.Perm.swap _ _ _)
 have h1:=h.bE;have h2:Sep w0 w (jI a.fb a.FM::kX f q S a.sb (.map (some a.fb)) false::aH q p false::aO p S.D::eU a.sb a.SM::aI v (bk S.cur k)::R):=Sep.dE [4,0,1,2,3] h1 aV (by simp[pQ]);have h3:=h2.GY hf;have h4:Sep w0 w ([kX f q S a.sb (.map (some a.fb)) false,aH q p false,aO p S.D,eU a.sb a.SM,TS a.fb a.FM k]++(aI v (bk S.cur k)::R)):=Sep.dE [1,2,3,4,0] h3 aV bL;exact(h4.dB).perm (List.Perm.swap _ _ _)
end
def VS.data (S:VS):Nat:=2+(S.names+7)/8
def VS.count (S:VS):Nat:=S.nb-96-S.data
structure VF (S:VS):Prop where
 names:S.names<=1024
 room:96+S.data<S.nb
def VS.put (S:VS) (k:Nat) (bs:List UInt8):VS:= {S with cur:=S.cur.set k bs,m:=S.m+1}
def VA.put (a:VA) (k:Nat) (v:Value) (bs:List UInt8):VA:= {a with FM:=gX a.FM k++[(k,v,bs)]}
theorem aoJ {M:BM} {k:Nat}:dN (gX M k) k=none:=by unfold dN gX;rw[YD,wL];intro x hx;have:=(List.mem_filter.1 hx).2;simpa using this
theorem aaP {M:BM} {k j:Nat} (h:j≠k):dN (gX M k) j=dN M j:=by
 unfold dN gX;congr 1
 induction M with
 |nil=>rfl
 |cons x M ih=>
  rw[xY];by_cases hx:x.1=k
  ·(have e1:(x.1==k)=true:=by simpa using hx);(have e2:(x.1==j)=false:=by simp;omega);rw[e1,JS,e2];exact ih
  (have e1:(x.1==k)=false:=by simpa using hx);rw[e1];simp only[U7,if_true];rw[JS,JS,ih]
theorem aoK {M:BM} {k:Nat} {v:Value} {bs:List UInt8} (j:Nat):dN (gX M k++[(k,v,bs)]) j=if j=k then some (v,bs)else dN M j:=by
 by_cases e:j=k
 ·subst e;rw[if_pos rfl,J2 aoJ]
 rw[if_neg e];have h1:=aaP (M:=M) e;cases hf:dN (gX M k) j with
 |some x=>rw[JZ hf,<-h1,hf]
 |none=>rw[<-h1,hf];unfold dN at hf ⊢;rw[YD]at hf ⊢;rw[ajD,hf,JS];(have e2:(k==j)=false:=by simp;omega);simp[e2]
section
variable {w0 w:World} {R:List aZ} {f q p:Nat} {S:VS} {a:VA}
theorem VC.put (hC:VC S a) {k:Nat} (v:Value) {bs:List UInt8} (hk:k<S.nb-96) (hbs:bs.length=512):VC (S.put k bs) (a.put k v bs) where
 pF:=hC.pF
 big:=hC.big
 on:=hC.on
 cur:=hC.cur.set k hbs
 seen:=hC.seen
 fresh:=fun x hx=>by
  (show x.1<S.nb-96/\x.2.2=bk (S.cur.set k bs) x.1);rw[AQ _ _ _ _ (by rw[hC.cur.len];exact hk)];rcases iN.1 hx with hx|hx
  ·have h1:=List.mem_filter.1 hx;(have h2:x.1≠k:=by simpa using h1.2);rw[if_neg h2];exact hC.fresh x h1.1
  rw[sW]at hx;subst hx;exact⟨hk,by rw[if_pos rfl]⟩
 rest:=fun j hj hf=>by
  have hf':dN (gX a.FM k++[(k,v,bs)]) j=Option.none:=hf;rw[aoK]at hf';(show bk (S.cur.set k bs) j=_);by_cases e:j=k
  ·rw[if_pos e]at hf';cases hf'
  rw[if_neg e]at hf';rw[AQ _ _ _ _ (by rw[hC.cur.len];exact hk),if_neg e];exact hC.rest j hj hf'
 few:=by have h1:(gX a.FM k).length<=a.FM.length:=NV _ _;have h2:=hC.few;(show(gX a.FM k++[(k,v,bs)]).length<=S.m+1);rw[jL];simp only[oK];omega
 none:=hC.none
theorem NB {i:Nat} (hC:VC S a) (hi:i<S.nb-96) (h:Sep w0 w (aF f q p S a::R)):
  Calls Tryz.prog 84 #[pV f,iV i] w fun e w'=>∃v a',e= .returned v/\Reads S a a'/\CV f q p S a' i v w0 w' R:=by
 obtain⟨c2,hl⟩:=TD hC hi h;have ho:=akY hC hi h;cases hf:dN a.FM i with
 |some x=>rw[hf]at hl;simp only[TQ,JP,U1]at hl;have hx:x.2=bk S.cur i:=(hC.fresh _ (lN hf)).2;(have hp:dN a.FM i=some (x.1,bk S.cur i):=by rw[hf,<-hx]);have hR:=Reads.refl hC;clear ho hC hi hf hx;go_enter Tryz.func84,Tryz.ntmps84;go_wp2_with fail;go_ret;exact⟨_,a,rfl,hR,.inl ⟨hp,h⟩⟩
 |none=>rw[hf]at hl;simp only[abD,NZ,aaX]at hl;have hr:=hC.rest i hi hf;have hlen:=hC.ajM hi;obtain⟨k0,pO,hk0,hk1,hk2⟩:=iU l8;clear h hi;go_enter Tryz.func84,Tryz.ntmps84;go_wp2_with(first |(go_at_call 157;refine ho.mono ?_;rintro e w9 ⟨v,a',rfl,hR,hs,h9⟩;have hS:=Lh (h9.iO 5 1);have hrd:=Lh (h9.NA (.inr ⟨by rw[hR.FM];exact hf,hs⟩) hR.ok.none))|(at_builtin;refine dH 0 rfl _ _ 69 rfl 5 k0 (.int .u8 0) 1 1 Tryz.underlying69 pO hk0 hk1 hk2 rfl aV hS.out _ 0 [] rfl rfl v 512 ((bk S.D.now (96+i)).map kT) rfl (by rw[<-hlen];exact hrd.out) rM vQ aD ?_;intro v3 w3 dX hz3));go_ret;refine⟨_,a',rfl,hR,.inr ⟨by rw[hR.FM];exact hf,?_⟩⟩;rw[hr];(have h8:Sep w0 w3 (aI v3 (bk S.D.now (96+i))::aF f q p S a'::R):=by rw[bW hlen];exact dX);exact h8.perm (List.Perm.swap _ _ _)
theorem yB {i:Nat} {v:Value} {bs:List UInt8} (hC:VC S a) (hi:i<S.nb-96) (h:Sep w0 w (aI v bs::zR f q p S a i::R)):
  Calls Tryz.prog 98 #[pV f,iV i,v] w fun e w'=>e= .returned (.tuple #[])/\Sep w0 w' (aF f q p (S.put i bs) (a.put i v bs)::R):=by
 have h1:Sep w0 w ([kX f q S a.sb (.map (some a.fb)) false,aH q p false,aO p S.D,eU a.sb a.SM,TS a.fb a.FM i]++(aI v bs::R)):=(h.perm (List.Perm.swap _ _ _)).bE;have c2:=h1.bC 0 rfl 2;simp only[gA,gB,gC]at c2;have hkey:Sep w0 w (mO 3 a.fb (iJ a.FM):: .dR (eB (gX a.FM i))::kX f q S a.sb (.map (some a.fb)) false::aH q p false::aO p S.D::eU a.sb a.SM::aI v bs::R):=Sep.jN (Sep.dE [4,0,1,2,3,5] h1 aV bL);have hnd:(a.FM.map (·.1)).Nodup:=by have h1:=(hkey.tK 0 rfl).ne;exact Z57
 have h3:Sep w0 w (TS a.fb a.FM i::aI v bs::kX f q S a.sb (.map (some a.fb)) false::aH q p false::aO p S.D::eU a.sb a.SM::R):=Sep.dE [4,5,0,1,2,3] h1 aV bL;obtain⟨w1,hrun,h4⟩:=h3.axW (by have:=hC.pF.few;omega) (by have:=hC.apS hnd;omega);have h5:Sep w0 w1 (aF f q p (S.put i bs) (a.put i v bs)::R):=by have h6:Sep w0 w1 (pQ f q p (S.put i bs) (a.put i v bs)++R):=Sep.dE [1,2,3,4,0] h4 aV bL;exact h6.dB
 clear hkey h3 h h1 hC hi h4;go_enter Tryz.func98,Tryz.ntmps98;go_wp2_with fail
 go_end0
 exact⟨rfl,h5⟩
theorem AB (hC:VC S a) (hF:VF S) (h:w.cell? ⟨f,3,none⟩=some (iV S.names)):
  Calls Tryz.prog 142 #[pV f] w fun e w'=>e= .returned (iV S.data)/\w'=w:=by
 have hn:=hF.names;have e1:((S.data:Nat):Int)=2+((S.names:Int)+7)/8:=by unfold VS.data;omega
 rw[e1];obtain⟨N,hN⟩:∃N:Int,N=S.names:=⟨_,rfl⟩;have b0:0<=N:=by omega
 have b1:N<=1024:=by omega
 rw[<-hN]at h ⊢;have q1:IntKind.i64.wrap (N+8)=N+8:=IntWalk.i64_in _ aD;have q2:IntKind.i64.wrap (N+7)=N+7:=IntWalk.i64_in _ aD;have q3:IntKind.i64.wrap ((N+7)/8)=(N+7)/8:=IntWalk.i64_in _ aD;have q4:IntKind.i64.wrap (2+(N+7)/8)=2+(N+7)/8:=IntWalk.i64_in _ aD;clear hC hF hn e1;go_enter Tryz.func142,Tryz.ntmps142;go_wp2_with fail;go_ret;refine⟨?_,rfl⟩;show Ending.returned (Value.int IntKind.i64 (2+((S.names:Int)+8-1)/8))=_
 rw[<-hN,show N+8-1=N+7 by omega]
structure FsC (w:World) (f q:Nat) (S:VS) (a:VA):Prop where
 c0:w.cell? ⟨f,0,none⟩=some (pV q)
 c1:w.cell? ⟨f,1,none⟩=some (.map a.sb)
 c2:w.cell? ⟨f,2,none⟩=some (.map (some a.fb))
 c3:w.cell? ⟨f,3,none⟩=some (iV S.names)
 c4:w.cell? ⟨f,4,none⟩=some (.bool false)
 c5:w.cell? ⟨f,5,none⟩=some (iK S.wB S.wI)
 c6:w.cell? ⟨f,6,none⟩=some (iV S.nodes)
 c7:w.cell? ⟨f,7,none⟩=some (iK S.rB S.rI)
theorem Sep.fK (h:Sep w0 w (aF f q p S a::R)):FsC w f q S a:=by
 have h1:=h.bE;have c:=fun j=>h1.bC 0 rfl j
 have c0:=c 0;have c1:=c 1;have c2:=c 2;have c3:=c 3;have c4:=c 4;have c5:=c 5;have c6:=c 6;have c7:=c 7;simp only[gA,gB,gC]at c0 c1 c2 c3 c4 c5 c6 c7;exact⟨c0,c1,c2,c3,c4,c5,c6,c7⟩
theorem CV.fK {k:Nat} {v:Value} (h:CV f q p S a k v w0 w R):FsC w f q S a:=by
 rcases h with⟨_,h⟩|⟨_,h⟩
 ·exact h.fK
 exact h.fK
theorem KM (hC:VC S a) (hF:VF S) (h:Sep w0 w (aF f q p S a::R)):
  Calls Tryz.prog 86 #[pV f] w fun e w'=>e= .returned (iV S.count)/\w'=w:=by
 have hc:=h.fK;have hd:=AB hC hF hc.c3;have c0:=hc.c0;have hbl:=CK (q:=q) (p:=p) (dead:=false) (R:=kX f q S a.sb (.map (some a.fb)) false::eU a.sb a.SM::jI a.fb a.FM::R) hC.pF (by have:=hC.big;omega) (Sep.dE [1,2,0,3,4] (h.bE) aV (by simp[pQ]));have hr:=hF.room;have e1:((S.count:Nat):Int)=((S.nb-96:Nat):Int)-S.data:=by unfold VS.count;omega
 have e2:((S.nb-96:Nat):Int)<=4096:=by have:=hC.pF.few;omega
 have e3:(0:Int)<=(S.data:Int):=by omega
 have e4:(S.data:Int)<=4096:=by have:=hC.pF.few;omega
 have e5:(0:Int)<=((S.nb-96:Nat):Int):=by omega
 rw[e1];obtain⟨N,hN⟩:∃N,N=S.nb-96:=⟨_,rfl⟩;obtain⟨M,hM⟩:∃M,M=S.data:=⟨_,rfl⟩;rw[<-hN]at hbl e2 e5 ⊢;rw[<-hM]at hd e3 e4 ⊢;clear e1 hr hN hM hc;go_enter Tryz.func86,Tryz.ntmps86;go_wp2_with(first |(go_at_call 154;refine hbl.mono ?_;rintro e w9 ⟨rfl,h9⟩;obtain rfl:=h9.symm)|(go_at_call 142;refine hd.mono ?_;rintro e w9 ⟨rfl,h9⟩;obtain rfl:=h9.symm));go_ret;exact⟨rfl,rfl⟩
end
end Go.Proofs.YtmjomdkleikgbaaGreat
