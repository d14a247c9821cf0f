/- Floats, ModelWt, ModelLook, ModelLG, ModelAt, laid together. -/
import Derived.Test.YtimkjnbihlgbiaaGreatJ13
import Derived.Laws.FloatArith
import Derived.Laws.ComplexArith
import Derived.Laws.RangeString
import Derived.Laws.ResultCell
import Derived.Handy
namespace Go.Proofs.YtimkjnbihlgbiaaGreat
open Ieee
set_option linter.unusedVariables false
theorem cut_exact (neg:Bool) (q d:Nat) (hq:0<q):Toward.even.cut neg (q*2 ^ d) d=q:=by
 have hl:d≤(q*2 ^ d).log2:=by rw[Nat.le_log2 (Nat.ne_of_gt (Nat.mul_pos hq (Nat.two_pow_pos d)))];exact Nat.le_mul_of_pos_left _ hq
 unfold Toward.cut;have hm:min d ((q*2 ^ d).log2+2)=d:=by omega
 simp only[hm,Nat.one_shiftLeft];rw[Nat.mul_div_cancel _ (Nat.two_pow_pos d),Nat.mul_mod_left];have:=Nat.two_pow_pos d;simp
theorem log2_shift {m:Nat} (hm:0<m) (k:Nat):(m*2 ^ k).log2=m.log2+k:=by
 have h1:m*2 ^ k≠0:=Nat.ne_of_gt (Nat.mul_pos hm (Nat.two_pow_pos k));apply Nat.le_antisymm
 ·(have h2:(m*2 ^ k).log2<m.log2+k+1:=by rw[Nat.log2_lt h1];have:=(Nat.log2_lt (k:=m.log2+1) (Nat.ne_of_gt hm)).1 (Nat.lt_succ_self _);(have e:2 ^ (m.log2+k+1)=2 ^ (m.log2+1)*2 ^ k:=by rw[←Nat.pow_add];congr 1;omega);rw[e];exact Nat.mul_lt_mul_of_pos_right this (Nat.two_pow_pos k));omega
 rw[Nat.le_log2 h1,Nat.pow_add];exact Nat.mul_le_mul_right _ ((Nat.le_log2 (Nat.ne_of_gt hm)).1 (Nat.le_refl _))
def lack (m:Nat):Nat:=52-m.log2
theorem near_shift (neg:Bool) (m k:Nat) (hm:0<m) (h53:m<2 ^ 53) (hk:k≤1074):double.nearest neg (m*2 ^ k) (-(k:Int))=double.word neg (((1074-lack m:Nat))*2 ^ 52+m*2 ^ lack m):=by
 have hl:m.log2≤52:=by have:=(Nat.log2_lt (k:=53) (Nat.ne_of_gt hm)).2 h53;omega
 unfold Format.nearest;rw[if_neg (Nat.ne_of_gt (Nat.mul_pos hm (Nat.two_pow_pos k))),log2_shift hm];have e1:double.leastPlace= -1074:=by decide
 have e2:double.fractionBits=52:=rfl;have e3:double.binade=2 ^ 52:=rfl;have e4:double.infRung=2047*2 ^ 52:=by decide
 rw[e1,e2,e3,e4];have hlast:max (-(k:Int)+((m.log2+k:Nat):Int)-(52:Nat)) (-1074)= -((lack m:Nat):Int):=by unfold lack;omega
 rw[hlast];dsimp only;have hL:lack m≤52:=by unfold lack;omega
 have ht:(-((lack m:Nat):Int)- -1074).toNat=1074-lack m:=by omega
 rw[ht];have hkept:Toward.even.cut neg ((m*2 ^ k)<<<(-(k:Int)- -((lack m:Nat):Int)).toNat) (-((lack m:Nat):Int)- -(k:Int)).toNat=m*2 ^ lack m:=by
  rcases Nat.le_total k (lack m)with h|h
  ·(have a1:(-(k:Int)- -((lack m:Nat):Int)).toNat=lack m-k:=by omega);(have a2:(-((lack m:Nat):Int)- -(k:Int)).toNat=0:=by omega);rw[a1,a2,Nat.shiftLeft_eq];(have e:m*2 ^ k*2 ^ (lack m-k)=m*2 ^ lack m:=by rw[Nat.mul_assoc,←Nat.pow_add];congr 2;omega);rw[e];have:=cut_exact neg (m*2 ^ lack m) 0 (Nat.mul_pos hm (Nat.two_pow_pos _));simpa using this
  (have a1:(-(k:Int)- -((lack m:Nat):Int)).toNat=0:=by omega);(have a2:(-((lack m:Nat):Int)- -(k:Int)).toNat=k-lack m:=by omega);rw[a1,a2,Nat.shiftLeft_zero];(have e:m*2 ^ k=m*2 ^ lack m*2 ^ (k-lack m):=by rw[Nat.mul_assoc,←Nat.pow_add];congr 2;omega);rw[e];exact cut_exact neg _ _ (Nat.mul_pos hm (Nat.two_pow_pos _))
 rw[hkept];have hb:m*2 ^ lack m<2 ^ 53:=by
  have h1:=(Nat.log2_lt (k:=m.log2+1) (Nat.ne_of_gt hm)).1 (Nat.lt_succ_self _);have h2:m*2 ^ lack m<2 ^ (m.log2+1)*2 ^ lack m:=Nat.mul_lt_mul_of_pos_right h1 (Nat.two_pow_pos _);rw[←Nat.pow_add]at h2;have e:m.log2+1+lack m=53:=by unfold lack;omega
  rwa [e]at h2
 rw[Nat.min_eq_left (by omega)]
def fI (n:Int):Nat:=FloatKind.nearest .f64 n
theorem fI_eq (n:Int):fI n=double.nearest (decide (n<0)) n.natAbs 0:=rfl
theorem fI_zero :fI 0=0:=by decide
def SmallI (n:Int):Prop:=n.natAbs<2 ^ 53
theorem fI_shift {n:Int} (hn:SmallI n) {k:Nat} (hk:k≤1074):double.nearest (decide (n<0)) (n.natAbs*2 ^ k) (-(k:Int))=fI n:=by
 rw[fI_eq];rcases Nat.eq_zero_or_pos n.natAbs with h0|h0
 ·rw[h0,Nat.zero_mul];simp[Format.nearest]
 rw[near_shift _ _ _ h0 hn hk];have:=near_shift (decide (n<0)) n.natAbs 0 h0 hn (by decide);rw[←this];simp
theorem zero_form (L:Nat) (h:L=1074):double.read (fI 0)= .number (decide ((0:Int)<0)) ((0:Int).natAbs*2 ^ L) (-(L:Int)):=by rw[Int.natAbs_zero,Nat.zero_mul,fI_zero,h];decide
set_option maxRecDepth 100000 in
theorem read_fI {n:Int} (hn:SmallI n):∃L:Nat,L≤1074∧double.read (fI n)= .number (decide (n<0)) (n.natAbs*2 ^ L) (-(L:Int)):=by
 rcases Nat.eq_zero_or_pos n.natAbs with h0|h0
 ·(have:n=0:=by omega);subst this;obtain⟨L,hL⟩:∃L,L=1074:=⟨_,rfl⟩;exact⟨L,by omega,zero_form L hL⟩
 have hl:n.natAbs.log2≤52:=by have:=(Nat.log2_lt (k:=53) (Nat.ne_of_gt h0)).2 hn;omega
 refine⟨lack n.natAbs,by unfold lack;omega,?_⟩;have e:=near_shift (decide (n<0)) n.natAbs 0 h0 hn (by decide);have e0:fI n=double.word (decide (n<0)) (((1074-lack n.natAbs:Nat))*2 ^ 52+n.natAbs*2 ^ lack n.natAbs):=by rw[fI_eq,←e];simp
 have hb1:n.natAbs*2 ^ lack n.natAbs<2 ^ 53:=by
  have h1:=(Nat.log2_lt (k:=n.natAbs.log2+1) (Nat.ne_of_gt h0)).1 (Nat.lt_succ_self _);have h2:n.natAbs*2 ^ lack n.natAbs<2 ^ (n.natAbs.log2+1)*2 ^ lack n.natAbs:=Nat.mul_lt_mul_of_pos_right h1 (Nat.two_pow_pos _);rw[←Nat.pow_add]at h2;have e:n.natAbs.log2+1+lack n.natAbs=53:=by unfold lack;omega
  rwa [e]at h2
 have hb2:2 ^ 52≤n.natAbs*2 ^ lack n.natAbs:=by
  have h1:=(Nat.le_log2 (k:=n.natAbs.log2) (Nat.ne_of_gt h0)).1 (Nat.le_refl _);have h2:2 ^ n.natAbs.log2*2 ^ lack n.natAbs≤n.natAbs*2 ^ lack n.natAbs:=Nat.mul_le_mul_right _ h1;rw[←Nat.pow_add]at h2;have e:n.natAbs.log2+lack n.natAbs=52:=by unfold lack;omega
  rwa [e]at h2
 have hlk:lack n.natAbs≤52:=by unfold lack;omega
 rw[e0];generalize n.natAbs*2 ^ lack n.natAbs=q at hb1 hb2 ⊢;generalize lack n.natAbs=L at hlk ⊢;have hr:(1074-L)*2 ^ 52+q<2 ^ 63:=by omega
 have hd:((1074-L)*2 ^ 52+q)/2 ^ 52=1074-L+1:=by omega
 have hm:((1074-L)*2 ^ 52+q)%2 ^ 52=q-2 ^ 52:=by omega
 have e1:double.leastPlace= -1074:=by decide
 have e3:double.binade=2 ^ 52:=rfl;have e4:double.infRung=2047*2 ^ 52:=by decide
 have e5:double.signWeight=2 ^ 63:=rfl;unfold Format.read Format.word;rw[e1,e3,e4,e5];cases decide (n<0)with
 |false=>(have a1:((1074-L)*2 ^ 52+q)/2 ^ 63%2=0:=by omega);have a2:((1074-L)*2 ^ 52+q)%2 ^ 63=(1074-L)*2 ^ 52+q:=Nat.mod_eq_of_lt hr;simp only[Bool.false_eq_true,if_false,a1,a2,hd,hm];rw[if_neg (by omega),if_pos (by omega)];(have z1:2 ^ 52+(q-2 ^ 52)=q:=by omega);(have z2:(-1074:Int)+((1074-L+1-1:Nat):Int)= -(L:Int):=by omega);rw[z1,z2];rfl
 |true=>(have a1:(2 ^ 63+((1074-L)*2 ^ 52+q))/2 ^ 63%2=1:=by omega);(have a2:(2 ^ 63+((1074-L)*2 ^ 52+q))%2 ^ 63=(1074-L)*2 ^ 52+q:=by omega);simp only[if_true,a1,a2,hd,hm];rw[if_neg (by omega),if_pos (by omega)];(have z1:2 ^ 52+(q-2 ^ 52)=q:=by omega);(have z2:(-1074:Int)+((1074-L+1-1:Nat):Int)= -(L:Int):=by omega);rw[z1,z2];rfl
theorem signed_up (n:Int) (L K:Nat) (h:L≤K):signed (decide (n<0)) (n.natAbs*2 ^ L) (-(L:Int)- -(K:Int)).toNat=n*2 ^ K:=by
 have e:(-(L:Int)- -(K:Int)).toNat=K-L:=by omega
 rw[e];unfold signed;rw[Nat.shiftLeft_eq,Nat.mul_assoc,←Nat.pow_add,Nat.add_sub_cancel' h];have hc:((n.natAbs*2 ^ K:Nat):Int)=(n.natAbs:Int)*2 ^ K:=by simp
 rw[hc];by_cases h0:n<0
 ·rw[if_pos (by simpa using h0)];(have:(n.natAbs:Int)= -n:=by omega);rw[this,Int.neg_mul,Int.neg_neg]
 rw[if_neg (by simpa using h0)];have:(n.natAbs:Int)=n:=by omega
 rw[this]
theorem min_neg (a b:Nat):min (-(a:Int)) (-(b:Int))= -((max a b:Nat):Int):=by omega
theorem signed_not (s:Bool) (m u:Nat):signed (!s) m u= -(signed s m u):=by unfold signed;cases s<;>simp
theorem pow_pos_int (K:Nat):(0:Int)<2 ^ K:=by
 have:=Nat.two_pow_pos K;have e:((2 ^ K:Nat):Int)=2 ^ K:=by simp
 omega
theorem sum_number {a b:Int} {K:Nat} (hs:SmallI (a+b)) (hK:K≤1074) (z:Bool) (hz:a+b=0→z=false):
  double.write (.number (if a*2 ^ K+b*2 ^ K=0 then z else decide (a*2 ^ K+b*2 ^ K<0)) (a*2 ^ K+b*2 ^ K).natAbs (-(K:Int)))=fI (a+b):=by
 rw[←Int.add_mul];have hp:=pow_pos_int K;have hna:((a+b)*2 ^ K).natAbs=(a+b).natAbs*2 ^ K:=by rw[Int.natAbs_mul,Int.natAbs_pow];rfl
 rw[hna];have hneg:(if(a+b)*2 ^ K=0 then z else decide ((a+b)*2 ^ K<0))=decide (a+b<0):=by
  by_cases h0:a+b=0
  ·rw[h0,Int.zero_mul,if_pos rfl,hz h0];rfl
  have h1:(a+b)*2 ^ K≠0:=Int.mul_ne_zero h0 (by omega);rw[if_neg h1];apply decide_eq_decide.2;constructor
  ·intro h;rw[Int.mul_comm]at h;exact Int.neg_of_mul_neg_right h (by omega)
  intro h;exact Int.mul_neg_of_neg_of_pos h hp
 rw[hneg];exact fI_shift hs hK
theorem add_fI {a b:Int} (ha:SmallI a) (hb:SmallI b) (hs:SmallI (a+b)):floatBits .add .f64 (fI a) (fI b)=some (fI (a+b)):=by
 obtain⟨L,hL,ra⟩:=read_fI ha;obtain⟨M,hM,rb⟩:=read_fI hb;show double.add (fI a) (fI b)=_
 unfold Format.add;rw[ra,rb];unfold Datum.sum;simp only[min_neg,Option.map_some];rw[signed_up a L _ (Nat.le_max_left _ _),signed_up b M _ (Nat.le_max_right _ _)];congr 1;refine sum_number hs (by omega) _ fun h=>?_
 by_cases h1:a<0
 ·(have:¬b<0:=by omega);simp[this]
 simp[h1]
theorem sub_fI {a b:Int} (ha:SmallI a) (hb:SmallI b) (hs:SmallI (a-b)):floatBits .sub .f64 (fI a) (fI b)=some (fI (a-b)):=by
 obtain⟨L,hL,ra⟩:=read_fI ha;obtain⟨M,hM,rb⟩:=read_fI hb;show double.sub (fI a) (fI b)=_
 unfold Format.sub;rw[ra,rb];unfold Datum.opposite Datum.sum;simp only[min_neg,Option.map_some];rw[signed_not,signed_up a L _ (Nat.le_max_left _ _),signed_up b M _ (Nat.le_max_right _ _)];congr 1;rw[←Int.neg_mul];refine sum_number (b:= -b) (by simpa[Int.sub_eq_add_neg]using hs) (by omega) _ fun h=>?_
 by_cases h1:a<0
 ·(have:b<0:=by omega);simp[this]
 simp[h1]
theorem order_fI {a b:Int} (ha:SmallI a) (hb:SmallI b):double.order (fI a) (fI b)=some (compare a b):=by
 obtain⟨L,hL,ra⟩:=read_fI ha;obtain⟨M,hM,rb⟩:=read_fI hb;unfold Format.order;rw[ra,rb];unfold Datum.order;simp only[min_neg];rw[signed_up a L _ (Nat.le_max_left _ _),signed_up b M _ (Nat.le_max_right _ _)];congr 1;have hp:=pow_pos_int (max L M);rcases Int.lt_trichotomy a b with h|h|h
 ·rw[Int.compare_eq_lt.2 h,Int.compare_eq_lt];exact Int.mul_lt_mul_of_pos_right h hp
 ·subst h;rw[Int.compare_eq_eq.2 rfl];exact(Int.compare_eq_eq.2 rfl).symm
 rw[Int.compare_eq_gt.2 h,Int.compare_eq_gt];exact Int.mul_lt_mul_of_pos_right h hp
end Go.Proofs.YtimkjnbihlgbiaaGreat
namespace Go.Proofs.YtimkjnbihlgbiaaGreat
open Go.RowKit
set_option linter.unusedVariables false
def dvLen :Value→Nat
 | .slice _ n _=>n
 |_=>0
def fileB (n:Nat):Int:=if 8<((n:Int)+512-1)/512 then((n:Int)+512-1)/512+1 else((n:Int)+512-1)/512
theorem fileB_le {n:Nat} (h:n≤8192):0≤fileB n∧fileB n≤17:=by unfold fileB;split<;>omega
def wB :List FEnt→Int
 |[]=>0
 |f::Fs=>fileB (dvLen f.dv)+wB Fs
def DvOk (Fs:List FEnt):Prop:=∀f∈Fs,∃A n c,f.dv= .slice A n c∧n≤8192
def cplx (b i:Int):Value:=.complex .f64 (fI b) (fI i)
theorem fI_one :fI 1=4607182418800017408:=by decide
theorem wB_le {Fs:List FEnt} (h:DvOk Fs):0≤wB Fs∧wB Fs≤17*Fs.length:=by
 induction Fs with
 |nil=>simp[wB]
 |cons f Fs ih=>(obtain⟨i1,i2⟩:=ih fun g hg=>h g (List.mem_cons_of_mem _ hg));obtain⟨A,n,c,e,hn⟩:=h f (by simp);have:=fileB_le hn;unfold wB;rw[e];simp only[dvLen,List.length_cons];omega
theorem wB_out {Gs:List FEnt} (hk:Gs.Pairwise fun a b=>a.id≠b.id) {f:FEnt} (hf:f∈Gs):
  wB Gs=fileB (dvLen f.dv)+wB (Gs.filter fun g=> !(decide (g.id=f.id)))∧Gs.length=(Gs.filter fun g=> !(decide (g.id=f.id))).length+1:=by
 induction Gs with
 |nil=>cases hf
 |cons g Gs ih=>
  obtain⟨h1,h2⟩:=List.pairwise_cons.1 hk;rcases List.mem_cons.1 hf with rfl|hm
  ·(have e:Gs.filter (fun g=> !(decide (g.id=f.id)))=Gs:=List.filter_eq_self.2 fun g hg=>by have:=h1 g hg;simp;omega);rw[List.filter_cons];simp only[decide_true,Bool.not_true,Bool.false_eq_true,if_false,e];exact⟨rfl,rfl⟩
  obtain⟨i1,i2⟩:=ih h2 hm;(have hne:(decide (g.id=f.id))=false:=by have:=h1 f hm;simpa using this);rw[List.filter_cons];simp only[hne,Bool.not_false,if_true];unfold wB;rw[i1,List.length_cons,List.length_cons,i2];refine⟨by omega,rfl⟩
theorem filesL_del (Gs:List FEnt) (id:Nat):delM (filesL Gs) (.int .i64 id)=filesL (Gs.filter fun g=> !(decide (g.id=id))):=by
 unfold delM filesL;rw[List.filter_map];congr 1;refine List.filter_congr fun g _=>?_
 simp[Lit.sameKey];omega
theorem ids_ne {Fs:List FEnt} (h:KeysM (filesL Fs)):Fs.Pairwise fun a b=>a.id≠b.id:=by
 have:=h.ne;unfold filesL at this;rw[List.pairwise_map]at this;refine this.imp fun {a b} hab e=>hab ?_
 show Lit.int .i64 _=Lit.int .i64 _
 rw[e]
theorem run_csum (t:TypeId) (a b c d:Int) (ha:SmallI a) (hb:SmallI b) (hc:SmallI c) (hd:SmallI d) (h1:SmallI (a+c)) (h2:SmallI (b+d)) (w:World):
  (binOp .add t (cplx a b) (cplx c d)).run Tryz.prog w= .ok (cplx (a+c) (b+d)) w:=by
 refine run_complex_sum (P:=Tryz.prog) (w:=w) .add (.inl rfl) t .f64 (fI a) (fI b) (fI c) (fI d) (fI (a+c)) (fI (b+d)) ?_;unfold cSumBits;rw[add_fI ha hc h1,add_fI hb hd h2];rfl
def Ascii (p:List UInt8):Prop:=∀b∈p,b.toNat<128
theorem run_load_node {w:World} {b:Nat} {x y:Value} (h0:w.cell? ⟨b,0,none⟩=some x) (h1:w.cell? ⟨b,1,none⟩=some y):(loadVar 137 ⟨b,0,none⟩).run Tryz.prog w= .ok (.agg #[x,y]) w:=by simp[loadVar,go_sem,h0,h1]
theorem node_results3 {fn:Func} {p u v:Tmp} (h:fn.results=#[.cell p 137,.tmp u,.tmp v]) {tmps:Array Value} {w:World} {b:Nat} {x y:Value} (hp:tmps.getD p undef= .pointer (some ⟨b,0,none⟩)) (h0:w.cell? ⟨b,0,none⟩=some x) (h1:w.cell? ⟨b,1,none⟩=some y):
  (results fn tmps).run Tryz.prog w= .ok (.tuple #[.agg #[x,y],tmps.getD u undef,tmps.getD v undef]) w:=by
 have hp2:tmps[p]?.getD undef= .pointer (some ⟨b,0,none⟩):=by simpa using hp
 simp only[results,h];simp[Result.andThen,hp2,asAddr,run_load_node h0 h1]
theorem node_results2 {fn:Func} {p u:Tmp} (h:fn.results=#[.cell p 137,.tmp u]) {tmps:Array Value} {w:World} {b:Nat} {x y:Value} (hp:tmps.getD p undef= .pointer (some ⟨b,0,none⟩)) (h0:w.cell? ⟨b,0,none⟩=some x) (h1:w.cell? ⟨b,1,none⟩=some y):
  (results fn tmps).run Tryz.prog w= .ok (.tuple #[.agg #[x,y],tmps.getD u undef]) w:=by
 have hp2:tmps[p]?.getD undef= .pointer (some ⟨b,0,none⟩):=by simpa using hp
 simp only[results,h];simp[Result.andThen,hp2,asAddr,run_load_node h0 h1]
set_option linter.unusedSimpArgs false
def strIter (b:Nat) (s:ByteArray) (pos:Nat):Asn:=
 ⟨fun w F=>w.heap[b]? =some (.stringIter s pos)∧F=[b],
  fun w w' F ⟨h1,h2⟩ hk=>⟨by rw[hk b (by rw[h2];simp)];exact h1,h2⟩,
  fun w F ⟨h1,h2⟩=>by rw[h2];refine⟨by simp,fun b' hb=>?_⟩;simp at hb;subst hb;exact lt_of_heap h1⟩
section
variable {w0 w:World} {As:List Asn}
theorem Sep.siter_new (h:Sep w0 w As) (s:ByteArray):Sep w0 (w.iter s 0) (strIter w.heap.size s 0::As):=
 h.new (F:=[w.heap.size]) (Below.new w (.stringIter s 0)) ⟨World.iter_heap w s 0,rfl⟩ (by simp)
theorem Sep.siter_next {b pos:Nat} {s:ByteArray} (i:Nat) (h:Sep w0 w As) (hi:As[i]? =some (strIter b s pos)) (ty:TypeId) (hp:pos<s.size) (ha:(s[pos]'hp).toNat<128):
  ∃w',(Instr.next (.pointer (some ⟨b,0,none⟩)) true ty).run Tryz.prog w= .ok (.tuple #[.bool true,.int .i64 pos,.int .i32 (s[pos]'hp).toNat]) w'∧Sep w0 w' (As.set i (strIter b s (pos+1))):=by
 obtain⟨F,⟨h1,h2⟩,hlt⟩:=h.get i hi;have hb:=lt_of_heap h1;refine⟨{w with heap:=w.heap.setIfInBounds b (.stringIter s (pos+1))},?_,h.step i hi fun F' ⟨_,hF'⟩ _=>⟨[b],⟨?_,rfl⟩,fun x hx=>?_,?_⟩⟩
 ·simp only[Instr.next,getObj,setObj,Sem.run_bind,Sem.run,h1,Result.andThen,hp,if_true,decode_ascii s pos hp ha];simp[goInt]
 ·(show(w.heap.setIfInBounds b _)[b]? =_);simp[hb]
 ·left;rw[hF'];exact hx
 rw[hF'];refine⟨rfl,rfl,rfl,by simp,fun k hk hne=>?_⟩;have:¬b=k:=fun e=>hne (by rw[e];simp)
 show(w.heap.setIfInBounds b _)[k]? =_
 simp[this]
theorem Sep.siter_end {b pos:Nat} {s:ByteArray} (i:Nat) (h:Sep w0 w As) (hi:As[i]? =some (strIter b s pos)) (ty:TypeId) (hp:¬pos<s.size):
  (Instr.next (.pointer (some ⟨b,0,none⟩)) true ty).run Tryz.prog w= .ok (.tuple #[.bool false]) w:=by
 obtain⟨F,⟨h1,h2⟩,hlt⟩:=h.get i hi;simp[Instr.next,getObj,Sem.run,h1,hp]
end
theorem char_ascii {c:UInt8} (h:charOk c.toNat=true):c.toNat<128:=by unfold charOk at h;simp at h;omega
theorem runV_ascii :∀(p:List UInt8) (n:Nat) (cur:List UInt8),runV p n cur=true→Ascii p
 |[],_,_,_=>fun b hb=>by cases hb
 |c::cs,n,cur,h=>by
  unfold runV at h;intro b hb;split at h
  ·rename_i hc;split at h
   ·cases h
   rcases List.mem_cons.1 hb with rfl|hb
   ·rw[hc];decide
   exact runV_ascii cs _ _ h b hb
  split at h
  ·cases h
  rename_i hc;split at h
  ·cases h
  rcases List.mem_cons.1 hb with rfl|hb
  ·exact char_ascii (by simpa using hc)
  exact runV_ascii cs _ _ h b hb
theorem valid_ascii {p:List UInt8} (h:validL p=true):Ascii p:=runV_ascii p _ _ h
def findN (Ns:List TN) (q:List UInt8):Option TN:=Ns.find? fun n=>n.path==q
theorem find_getM (Ns:List TN) (q:List UInt8):getM (nodesG Ns) (.string q)=(findN Ns q).map nodeV:=by
 unfold getM nodesG findN;rw[List.find?_map];cases h:Ns.find? ((fun p:Lit×Value=>p.1.sameKey (.string q))∘fun n:TN=>(Lit.string n.path,nodeV n))with
 |none=>(have e:(Ns.find? fun n=>n.path==q)=none:=by rw[List.find?_eq_none]at h ⊢;intro x hx;have:=h x hx;simpa[Lit.sameKey]using this);rw[e];rfl
 |some n=>(have e:(Ns.find? fun n=>n.path==q)=some n:=by(have e2:((fun p:Lit×Value=>p.1.sameKey (.string q))∘fun n:TN=>(Lit.string n.path,nodeV n))=fun n:TN=>n.path==q:=by funext x;simp[Lit.sameKey];first |rfl|done);rw[e2]at h;exact h);rw[e];rfl
def nodeOr (Ns:List TN) (q:List UInt8):TN:=(findN Ns q).getD ⟨[],0,0⟩
def hasG (Ns:List TN) (q:List UInt8):Bool:=(findN Ns q).isSome
theorem look_getM (Ns:List TN) (q:List UInt8):(getM (nodesG Ns) (.string q)).getD (.agg #[.int .i64 0,.int .i64 0])=nodeV (nodeOr Ns q):=by rw[find_getM];unfold nodeOr;cases findN Ns q<;>rfl
theorem has_getM (Ns:List TN) (q:List UInt8):(getM (nodesG Ns) (.string q)).isSome=hasG Ns q:=by rw[find_getM];unfold hasG;cases findN Ns q<;>rfl
def lookE (Ns:List TN) (p:List UInt8):Nat→Int
 |0=>0
 |k+1=>if p[p.length-(k+1)]? =some 47 then(match findN Ns (p.take (p.length-(k+1)))with
  |none=>21
  |some n=>if 0≤n.file then 22 else lookE Ns p k)else lookE Ns p k
theorem lookE_step (Ns:List TN) {p:List UInt8} {pos:Nat} (h:pos<p.length):lookE Ns p (p.length-pos)=if p[pos]=47 then(match findN Ns (p.take pos)with
  |none=>21
  |some n=>if 0≤n.file then 22 else lookE Ns p (p.length-(pos+1)))else lookE Ns p (p.length-(pos+1)):=by
 obtain⟨k,hk⟩:∃k,p.length-pos=k+1:=⟨p.length-pos-1,by omega⟩;have e:p.length-(k+1)=pos:=by omega
 rw[hk,show p.length-(pos+1)=k by omega];show(if p[p.length-(k+1)]? =some 47 then _ else _)=_
 rw[e,gE h];by_cases h47:p[pos]=47<;>simp[h47]
def lookV (Ns:List TN) (p:List UInt8) (e:Int):Value:=if e=0 then nodeV (nodeOr Ns p)else nodeV ⟨[],0,0⟩
def lookB (Ns:List TN) (p:List UInt8) (e:Int):Bool:=decide (e=0)&&hasG Ns p
theorem lookV_0 (Ns:List TN) (p:List UInt8):lookV Ns p 0=nodeV (nodeOr Ns p):=rfl
theorem lookB_0 (Ns:List TN) (p:List UInt8):lookB Ns p 0=hasG Ns p:=rfl
set_option maxRecDepth 100000 in
set_option maxHeartbeats 2000000 in
theorem look_g {w0 w:World} {W bn bf bk next:Nat} {Ns:List TN} {Fs:List FEnt} {Lk:List (Lit×Value)} {R:List Asn} (hS:Sep w0 w (gAs W bn bf bk next Ns Fs Lk R)) {p:List UInt8} (hlen:p.length≤1048576) (ha:Ascii p):
  Calls Tryz.prog 158 #[.pointer (some ⟨W,0,none⟩),strV p] w fun e w'=>e= .returned (.tuple #[lookV Ns p (lookE Ns p p.length),.bool (lookB Ns p (lookE Ns p p.length)),.int .i64 (lookE Ns p p.length)])∧Sep w0 w' (gAs W bn bf bk next Ns Fs Lk R):=by
 obtain⟨LE,hLE⟩:∃x,x=lookE Ns p p.length:=⟨_,rfl⟩;rw[←hLE];have hLE':=Lh hLE;have hS':=Lh hS;have ha':=Lh ha;clear hS ha hLE;unfold strV;go_enter Tryz.func158,Tryz.ntmps158;go_wp2_with fail;have hS1:=((hS'.out.bN 137 #[.int .i64 0,.int .i64 0]).siter_new ⟨p.toArray⟩);simp only[World.size_alloc]at hS1;have hS1':=Lh hS1;generalize((w.alloc (Obj.cells #[Value.int .i64 0,Value.int .i64 0] 137)).iter ⟨p.toArray⟩ 0)=v at hS1' ⊢;generalize w.heap.size+1=r at hS1' ⊢;generalize w.heap.size=b at hS1' ⊢;clear hS1 hS';go_loopg[5,6] p.length (fun g i5 i6 wr=>∃pos,pos≤p.length∧Hid (g=p.length-pos)∧i5= .bool false∧i6= .int .i64 0∧Hid (LE=lookE Ns p (p.length-pos))∧Sep w0 wr (strIter r ⟨p.toArray⟩ pos:: .box b 137 #[.int .i64 0,.int .i64 0]::gAs W bn bf bk next Ns Fs Lk R))
 case atStart=>exact⟨0,Nat.zero_le _,rfl,rfl,rfl,hLE',hS1'.out⟩
 clear hS1' hLE';obtain⟨pos,hpos,hg,rfl,rfl,hle,hS⟩:=hrel;by_cases hlt:pos<p.length
 ·have hlt2:pos<(⟨p.toArray⟩:ByteArray).size:=hlt;have hb:((⟨p.toArray⟩:ByteArray)[pos]'hlt2)=p[pos]:=rfl;obtain⟨w1,hnx,hS2⟩:=hS.siter_next 0 rfl 0 hlt2 (by rw[hb];exact ha'.out _ (List.getElem_mem hlt));rw[hb]at hnx;have hst:=lookE_step Ns hlt;rw[←hle.out]at hst;have hg':=Lh hg;by_cases h47:p[pos]=47
  case neg=>
   rw[if_neg h47]at hst;have hst':=Lh hst;have hS2':=Lh hS2;(have hne2:¬((p[pos].toNat:Int)=47):=fun e=>h47 (UInt8.toNat_inj.1 (by rw[show p[pos].toNat=47 by omega];rfl)));generalize p[pos].toNat=c at hnx hne2;clear hb h47 hst hS2 hS hg hle;go_wp2_with fail;go_roundg (p.length-(pos+1))
   case rel=>exact⟨pos+1,by omega,rfl,rfl,rfl,hst',hS2'.out⟩
   case measure=>rw[hg'.out];omega
  rw[if_pos h47]at hst;rw[h47]at hnx;have e47:(47:UInt8).toNat=47:=rfl;rw[e47]at hnx;(have q1:(0:Int)≤(pos:Int):=by omega);(have q2:(pos:Int)≤(p.length:Int):=by omega);have hX:=hS2.drew;(have hk1:(p.take pos).length≤maxLen:=by rw[List.length_take];unfold maxLen;omega);(have hlk:∀(d:Nat) (w':World) (As:List Asn),Sep w0 w' As→As[d]? =some (gmR 9 bn (nodesG Ns))→(Instr.lookup 132 (.map (some bn)) (.string ((⟨p.toArray⟩:ByteArray).extract 0 pos)) true).run Tryz.prog w'= .ok (.tuple #[nodeV (nodeOr Ns (p.take pos)),.bool (hasG Ns (p.take pos))]) w':=fun d w' As h hi=>by have h1:=h.gm_ok d hi keyed_str Tryz.underlying132 (zero_node _) (keyOf_strV (p.take pos) hk1);rw[look_getM,has_getM]at h1;unfold strV at h1;rw[extract_take];exact h1);have hNd:∃fi md,nodeV (nodeOr Ns (p.take pos))= .agg #[.int .i64 fi,.int .i64 md]∧((∃n,findN Ns (p.take pos)=some n∧fi=n.file)∨findN Ns (p.take pos)=none):=by
   unfold nodeOr;cases hf:findN Ns (p.take pos)with
   |none=>exact⟨0,0,rfl,Or.inr rfl⟩
   |some n=>exact⟨n.file,n.mode,rfl,Or.inl ⟨n,rfl,rfl⟩⟩
  obtain⟨fi,md,hnv,hcase⟩:=hNd;have hhs:hasG Ns (p.take pos)=(findN Ns (p.take pos)).isSome:=rfl;rw[hnv]at hlk;obtain⟨hb9,hhb⟩:∃x,x=hasG Ns (p.take pos):=⟨_,rfl⟩;rw[←hhb]at hlk;rw[hhs]at hhb;(have m1:∀(d:Nat) (w':World) (As:List Asn),Sep w0 w' As→As[d+1]? =some (gmR 9 bn (nodesG Ns))→As[d]? =some (.box W 135 (worldCells bn bf bk next))→w'.cell? ⟨W,0,none⟩=some (.map (some bn))∧(Instr.lookup 132 (.map (some bn)) (.string ((⟨p.toArray⟩:ByteArray).extract 0 pos)) true).run Tryz.prog w'= .ok (.tuple #[.agg #[.int .i64 fi,.int .i64 md],.bool hb9]) w':=fun d w' As h h1 h2=>⟨by rw[h.bC d h2 0];rfl,hlk (d+1) w' As h h1⟩);have hE0:=m1 2 _ _ hX rfl rfl;have hZ0:=(hS2.bN 137 #[.int .i64 0,.int .i64 0]).drew;have hE1:=m1 3 _ _ hZ0 rfl rfl;have hZ1:=(hS2.bN 137 #[.int .i64 fi,.int .i64 md]).drew;have hE2:=m1 3 _ _ hZ1 rfl rfl;have hZ1':=Lh hZ1;have hS2':=Lh hS2;have hst':=Lh hst;have hcase':=Lh hcase;have hhb':=Lh hhb;clear hlk m1 hX hZ0 hZ1 hnv hhs hcase hhb hst hS hS2 hb h47 e47 hle hg;go_wp2_with fail;refine wp_region_E (S:=fun w'=>w'.cell? ⟨W,0,none⟩=some (.map (some bn))∧(Instr.lookup 132 (.map (some bn)) (.string ((⟨p.toArray⟩:ByteArray).extract 0 pos)) true).run Tryz.prog w'= .ok (.tuple #[.agg #[.int .i64 fi,.int .i64 md],.bool hb9]) w') 13 (by kernel_rfl) ?_;simp only[List.size_toArray,List.length_cons,List.length_nil,Nat.reduceAdd];refine wpE_tk (i:=0) (v:=?_) hE0 rfl ?_ ?_;rotate_left
  ·rintro w ⟨e1,e2⟩;go_simp;try with_reducible rfl
  simp only[Act.put,gD];refine wpE_tk (i:=1) (v:=?_) hE0 rfl ?_ ?_;rotate_left
  ·rintro w ⟨e1,e2⟩;go_simp;try with_reducible rfl
  simp only[Act.put,gD];refine wpE_tk (i:=2) (v:=?_) hE0 rfl ?_ ?_;rotate_left
  ·rintro w ⟨e1,e2⟩;go_simp;try with_reducible rfl
  simp only[Act.put,gD];refine wpE_tk (i:=3) (v:=?_) hE0 rfl ?_ ?_;rotate_left
  ·rintro w ⟨e1,e2⟩;go_simp;try with_reducible rfl
  simp only[Act.put,gD];refine wpE_tk (i:=4) (v:=?_) hE0 rfl ?_ ?_;rotate_left
  ·rintro w ⟨e1,e2⟩;go_simp;try with_reducible rfl
  simp only[Act.put,gD];refine wpE_tk (i:=5) (v:=?_) hE0 rfl ?_ ?_;rotate_left
  ·rintro w ⟨e1,e2⟩;go_simp;try with_reducible rfl
  simp only[Act.put,gD];refine wpE_tk (i:=6) (v:=?_) hE0 rfl ?_ ?_;rotate_left
  ·rintro w ⟨e1,e2⟩;go_simp;try with_reducible rfl
  simp only[Act.put,gD];refine wpE_tk (i:=7) (v:=?_) hE0 rfl ?_ ?_;rotate_left
  ·rintro w ⟨e1,e2⟩;go_simp;try with_reducible rfl
  simp only[Act.put,gD];refine wpE_tk (i:=8) (v:=?_) hE0 rfl ?_ ?_;rotate_left
  ·rintro w ⟨e1,e2⟩;go_simp;try with_reducible rfl
  simp only[Act.put,gD];refine wpE_tk (i:=9) (v:=?_) hE0 rfl ?_ ?_;rotate_left
  ·rintro w ⟨e1,e2⟩;go_simp;try with_reducible rfl
  simp only[Act.put,gD];refine wpE_tk (i:=10) (v:=?_) hE0 rfl ?_ ?_;rotate_left
  ·rintro w ⟨e1,e2⟩;go_simp;try with_reducible rfl
  simp only[Act.put,gD];refine wpE_one (i:=11) (by kernel_rfl) rfl (fun K hK=>?_);go_simp;refine hK _ _ (fun _=>hE1) ?_;clear hK K;(try simp only[Act.put,gD]);refine wpE_one (i:=12) (by kernel_rfl) rfl (fun K hK=>?_);go_simp;refine hK _ _ (fun _=>hE2) ?_;clear hK K;(try simp only[Act.put,gD]);refine wpE_one (i:=13) (by kernel_rfl) rfl (fun K hK=>?_);go_simp;refine hK _ _ (fun h=>absurd rfl h) ?_;clear hK K;(try simp only[Act.put,gD]);refine wpE_done (by kernel_rfl) ?_ _;have a0:=hZ1'.out.bC 0 rfl 0;have b0:=hZ1'.out.bC 2 rfl 0;have b1:=hZ1'.out.bC 2 rfl 1;have z0:=hZ1'.out.bF 2 rfl 0;have z1:=hZ1'.out.bF 2 rfl 1;simp only[gA,gB,gC]at a0 b0 b1;have b0':=(hS2'.out.bN 137 #[.int .i64 fi,.int .i64 md]).bC 2 rfl 0;have b1':=(hS2'.out.bN 137 #[.int .i64 fi,.int .i64 md]).bC 2 rfl 1;have z0':=(hS2'.out.bN 137 #[.int .i64 fi,.int .i64 md]).bF 2 rfl 0;have z1':=(hS2'.out.bN 137 #[.int .i64 fi,.int .i64 md]).bF 2 rfl 1;simp only[gA,gB,gC]at b0' b1';have hS4:=(hZ1'.out.bS 2 rfl 0 (.int .i64 0)).bS 2 rfl 1 (.int .i64 0);have y0:=Lh (hS4.bC 2 rfl 0);have y1:=Lh (hS4.bC 2 rfl 1);have hS4':=Lh hS4;clear hE0 hE1 hE2 hS4 hS2';cases hb9 with
  |false=>
   have hfn:findN Ns (p.take pos)=none:=by
    have:=hhb'.out;cases h:findN Ns (p.take pos)with
    |none=>rfl
    |some n=>rw[h]at this;cases this
   (have hres:LE=21:=by have:=hst'.out;rw[hfn]at this;exact this);have hres':=Lh hres;clear hfn hres;go_wp2_with fail;refine bodyPost_ret (node_results3 rfl rfl y0.out y1.out) rfl ?_;exact⟨by rw[hres'.out];rfl,Sep.drop 3 hS4'.out⟩
  |true=>
   obtain⟨n,hfn,hfi⟩:∃n,findN Ns (p.take pos)=some n∧fi=n.file:=by
    rcases hcase'.out with h|h
    ·exact h
    have:=hhb'.out;rw[h]at this;cases this
   have hst2:=hst'.out;rw[hfn]at hst2;simp only at hst2;by_cases hf0:0≤fi
   ·(have hres:LE=22:=by rw[if_pos (by omega)]at hst2;exact hst2);have hres':=Lh hres;clear hfn hres hst2 hfi;go_wp2_with fail;refine bodyPost_ret (node_results3 rfl rfl y0.out y1.out) rfl ?_;exact⟨by rw[hres'.out];rfl,Sep.drop 3 hS4'.out⟩
   rw[if_neg (by omega)]at hst2;have hst3:=Lh hst2;clear hfn hst2 hfi;go_wp2_with fail;go_roundg (p.length-(pos+1))
   case rel=>exact⟨pos+1,by omega,rfl,rfl,rfl,hst3,Sep.drop 1 hZ1'.out⟩
   case measure=>rw[hg'.out];omega
 have hlt2:¬pos<(⟨p.toArray⟩:ByteArray).size:=hlt;have hnx:=hS.siter_end 0 rfl 0 hlt2;have hz:LE=0:=by rw[hle.out,show p.length-pos=0 by omega];rfl
 have hlk:=hS.gm_ok 3 rfl keyed_str Tryz.underlying132 (zero_node _) (keyOf_strV p (by unfold maxLen;omega));rw[look_getM,has_getM]at hlk;unfold strV at hlk;obtain⟨hb9,hhb⟩:∃x,x=hasG Ns p:=⟨_,rfl⟩;rw[←hhb]at hlk;obtain⟨fi,md,hnv⟩:∃fi md,nodeV (nodeOr Ns p)= .agg #[.int .i64 fi,.int .i64 md]:=⟨_,_,rfl⟩;rw[hnv]at hlk;have f0:=hS.bC 2 rfl 0;have hS3:=hS.bN 137 #[.int .i64 fi,.int .i64 md];have c0:=hS3.bC 2 rfl 0;have c1:=hS3.bC 2 rfl 1;simp only[worldCells,gA,gB,gC]at f0 c0 c1;have z0:=hS3.bF 2 rfl 0;have z1:=hS3.bF 2 rfl 1;have hS4:=(hS3.bS 2 rfl 0 (.int .i64 fi)).bS 2 rfl 1 (.int .i64 md);have y0:=Lh (hS4.bC 2 rfl 0);have y1:=Lh (hS4.bC 2 rfl 1);have hS4':=Lh hS4;have hz':=Lh hz;have hnv':=Lh hnv;have hhb':=Lh hhb;clear hS hS3 hS4 hz hnv hhb hle hg;go_wp2_with fail;refine bodyPost_ret (node_results3 rfl rfl y0.out y1.out) rfl ?_;exact⟨by first |(rw[lookV_0,lookB_0,hnv'.out,←hhb'.out];rfl)|(rw[hz'.out,lookV_0,lookB_0,hnv'.out,←hhb'.out];rfl),Sep.drop 3 hS4'.out⟩
end Go.Proofs.YtimkjnbihlgbiaaGreat
namespace Go.Proofs.YtimkjnbihlgbiaaGreat
open Go.RowKit
set_option linter.unusedVariables false
end Go.Proofs.YtimkjnbihlgbiaaGreat
