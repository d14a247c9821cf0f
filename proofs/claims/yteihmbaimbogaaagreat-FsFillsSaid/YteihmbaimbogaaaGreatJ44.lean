/- QDocH, QFormP, FzC, QDocJ, laid together. -/
import Derived.Test.YteihmbaimbogaaaGreatJ43
namespace Go.Proofs.YteihmbaimbogaaaGreat
open Go.RowKit
set_option linter.unusedVariables false
set_option linter.unusedSimpArgs false
def uD (xs:List TN) (p:List UInt8):Nat:=(xs.takeWhile fun m=>Op.bytesLess m.path p).length
def K9 (xs:List TN) (n:TN):List TN:=xs.take (uD xs n.path)++n::xs.drop (uD xs n.path)
def dF (ns:List TN):List TN:=ns.foldl K9 []
theorem PN {p:List UInt8}:∀ {xs:List TN} {k:Nat},(∀(j:Nat) (m:TN),j<k→xs[j]? =some m→Op.bytesLess m.path p=true)→k≤xs.length→(∀m,xs[k]? =some m→Op.bytesLess m.path p=false)→uD xs p=k
 |[],k,_,hk,_=>by simp at hk;subst hk;rfl
 |x::xs,0,_,_,h2=>by unfold uD;rw[List.takeWhile_cons,h2 x rfl];rfl
 |x::xs,k+1,h1,hk,h2=>by have ih:=PN (xs:=xs) (k:=k) (fun j m hj hm=>h1 (j+1) m (by omega) (by simpa using hm)) (by simpa using hk) (fun m hm=>h2 m (by simpa using hm));have hx:=h1 0 x (by omega) rfl;unfold uD at ih ⊢;rw[List.takeWhile_cons,if_pos hx,List.length_cons,ih]
theorem y7 (xs:List TN) (n:TN):dF (xs++[n])=K9 (dF xs) n:=by unfold dF;rw[List.foldl_append];rfl
theorem XI {ns:List TN} {i:Nat} {n:TN} (h:ns[i]? =some n):dF (ns.take (i+1))=K9 (dF (ns.take i)) n:=by rw[List.take_add_one,h];exact y7 _ _
theorem acC (xs:List TN) (n:TN):(K9 xs n).Perm (n::xs):=by unfold K9;refine List.perm_middle.trans ?_;rw[List.take_append_drop]
theorem kI (ns:List TN):(dF ns).Perm ns:=by refine lD (P:=fun ns=>(dF ns).Perm ns) (List.Perm.refl _) (fun xs x ih=>?_) ns;rw[y7];exact(acC _ _).trans ((ih.cons x).trans (List.perm_append_singleton _ _).symm)
theorem sJ (ns:List TN):(dF ns).length=ns.length:=(kI ns).length_eq
theorem kJ (xs ys:List TN):aZ (xs++ys)=aZ xs++aZ ys:=by unfold aZ;rw[List.flatMap_append]
theorem uE (xs:List TN) (k:Nat) (hk:k≤xs.length):(aZ xs).take (k*3)=aZ (xs.take k):=by
 conv=>lhs;rw[←List.take_append_drop k xs,kJ]
 have:k*3=(aZ (xs.take k)).length:=by rw[vX,List.length_take,Nat.min_eq_left hk]
 rw[this,List.take_left'];rfl
theorem PO (xs:List TN) (k:Nat) (hk:k≤xs.length):(aZ xs).drop (k*3)=aZ (xs.drop k):=by
 conv=>lhs;rw[←List.take_append_drop k xs,kJ]
 have:k*3=(aZ (xs.take k)).length:=by rw[vX,List.length_take,Nat.min_eq_left hk]
 rw[this,List.drop_left'];rfl
theorem EJ (n:TN):aZ [n]=[aM n.path,.int .i64 n.file,.int .i64 n.mode]:=rfl
theorem nZ (xs:List TN):∀u∈aZ xs,u.oneCell'=true:=by intro u hu;unfold aZ at hu;rw[List.mem_flatMap]at hu;obtain⟨n,_,h⟩:=hu;simp only[KJ,List.mem_cons,List.not_mem_nil,or_false]at h;rcases h with rfl|rfl|rfl<;>rfl
theorem Rd.tail {w:World} {sz g n c k:Nat} {cs:List Value} (h:Rd w sz (.slice (some ⟨g,0,none⟩) n c) n cs) (hn:0<n) (hk:k≤n):Rd w sz (.slice (some ⟨g,k*sz,none⟩) (n-k) (c-k)) (n-k) (cs.drop (k*sz)):=by
 obtain⟨hl,A,c',e,h1,h2,h3⟩:=h;cases e;refine⟨?_,_,_,rfl,by omega,by omega,fun hp=>?_⟩
 ·rw[List.length_drop,hl,Nat.sub_mul]
 obtain⟨ad,e,hb,hc⟩:=h3 hn;cases e;refine⟨_,rfl,hb,fun j u hu=>?_⟩;rw[List.getElem?_drop]at hu;have:=hc (k*sz+j) u hu;rw[←this];congr 1;unfold Addr.add;by_cases hj:j=0
 ·subst hj;by_cases hk0:k*sz=0<;>simp[hk0]
 have hne:¬k*sz+j=0:=by omega
 simp[hj,hne]
def iV (fs:List TF) (id:Int):TF:=fs.getD id.toNat ⟨0,[]⟩
def qE (ns:List TN):List TN:=(dF ns).map (eB (dU (dF ns)))
def oZ (ns:List TN) (fs:List TF):List TF:=(dU (dF ns)).map (iV fs)
def qF (ns:List TN) (fs:List TF):Int:=if iZ ns fs=true then 31 else if jJ (qE ns) (oZ ns fs)=true then 0 else 30
def toL (m:Nat) (ids:List Int):List Int:=(List.range m).map fun(f:Nat)=>if(f:Int)∈ids then((ids.idxOf (f:Int):Nat):Int)else -1
theorem ag4 {m f:Nat} (ids:List Int) (h:f<m):(toL m ids)[f]? =some (if(f:Int)∈ids then((ids.idxOf (f:Int):Nat):Int)else -1):=by unfold toL;rw[List.getElem?_map,List.getElem?_range h];rfl
theorem akQ (m:Nat):toL m []=List.replicate m (-1):=by
 apply List.ext_getElem
 ·simp[toL]
 intro j h1 h2;simp[toL]
theorem akR {m f:Nat} {ids:List Int} (h:f<m) (hn:(f:Int)∉ids):(toL m ids).set f (ids.length:Int)=toL m (ids++[(f:Int)]):=by
 apply List.ext_getElem
 ·simp[toL]
 intro j h1 h2;rw[List.getElem_set];by_cases e:f=j
 ·subst e;simp[toL,List.idxOf_append,hn]
 rw[if_neg e];have e2:¬(j:Int)=(f:Int):=by omega
 simp only[toL,List.getElem_map,List.getElem_range,List.mem_append,List.mem_singleton];by_cases hj:(j:Int)∈ids
 ·rw[if_pos hj,if_pos (Or.inl hj),List.idxOf_append,if_pos hj]
 rw[if_neg hj,if_neg (by rintro(h|h);exact hj h;exact e2 h)]
def uX (xs:List TN) (ids:List Int) (i:Nat):List TN:=(xs.take i).map (eB ids)++xs.drop i
theorem Y8 {xs:List TN} {ids:List Int} {i:Nat} {n:TN} (h:xs[i]? =some n):(uX xs ids i)[i]? =some n:=by have hi:=(gF.1 h).1;unfold uX;rw[List.getElem?_append_right (by simp;omega),List.length_map,List.length_take,Nat.min_eq_left (by omega),Nat.sub_self,List.getElem?_drop];simpa using h
theorem NG {xs:List TN} {ids:List Int} {i:Nat} {n:TN} (h:xs[i]? =some n):uX xs ids (i+1)=(uX xs ids i).set i (eB ids n):=by have hi:=(gF.1 h).1;unfold uX;rw[K8 _ h,List.set_append_right _ _ (by simp;omega),List.length_map,List.length_take,Nat.min_eq_left (by omega),Nat.sub_self,List.drop_eq_getElem_cons hi,List.append_assoc];rfl
theorem ag5 (xs:List TN) (ids:List Int):uX xs ids xs.length=xs.map (eB ids):=by unfold uX;rw[List.take_length,List.drop_length,List.append_nil]
theorem ag6 {xs:List TN} {ids:List Int} {i:Nat} (h:∀n∈xs.take i,¬n.file<0→n.file∈ids) (id:Int):uX xs (ids++[id]) i=uX xs ids i:=by unfold uX;rw[acB h]
theorem uM {xs:List TN} {i:Nat} {n:TN} (h:xs[i]? =some n) (x:Int):(aZ xs).set (i*3+1) (.int .i64 x)=aZ (xs.set i ⟨n.path,x,n.mode⟩):=by
 have hi:=(gF.1 h).1;have e1:xs=xs.take i++n::xs.drop (i+1):=(nM h).1;have e2:xs.set i ⟨n.path,x,n.mode⟩=xs.take i++⟨n.path,x,n.mode⟩::xs.drop (i+1):=(nM h).2 _;have hl:(aZ (xs.take i)).length=i*3:=by rw[vX,List.length_take,Nat.min_eq_left (by omega)]
 rw[e2]
 conv=>lhs;rw[e1]
 rw[kJ,kJ,List.set_append_right _ _ (by omega),hl,show i*3+1-i*3=1 by omega];rfl
theorem sK {p:List UInt8} (h:aP p=true):p≠[]:=fun e=>by subst e;revert h;decide
theorem NH :∀(p:List UInt8) (k:Nat),k<p.length→Op.bytesLess (p.take k) p=true
 |[],k,h=>by simp at h
 |a::p,0,_=>by simp[Op.bytesLess]
 |a::p,k+1,h=>by rw[List.take_succ_cons];unfold Op.bytesLess;rw[NH p k (by simpa using h)];simp
theorem acD {p:List UInt8} (h:p≠[]):mM p<p.length:=by
 rcases jI p with⟨_,h0,_⟩|⟨a,b,e,_,hs,_⟩
 ·rw[h0];exact List.length_pos_iff.2 h
 rw[hs];have:=congrArg List.length e;rw[List.length_append,List.length_cons]at this;omega
theorem EK {p:List UInt8} (h:aP p=true):Op.bytesLess (dE p) p=true:=by unfold dE;rw[if_pos h];exact NH p _ (acD (sK h))
theorem ag7 {p q:List UInt8} (h:Op.bytesLess q p=true):WX p q=false:=by unfold WX;rw[TZ h,Bool.false_or,beq_eq_false_iff_ne];intro e;rw[e,kN]at h;cases h
theorem y8 {pre:List TN} {p:List UInt8} (h:∀m∈pre,m.path≠p):vY pre p=if p=[]then 1 else 0:=by
 revert h;refine lD (P:=fun pre=>(∀m∈pre,m.path≠p)→vY pre p=if p=[]then 1 else 0) ?_ ?_ pre
 ·intro _;rfl
 intro xs x ih h;rw[JP,if_neg (h x (by simp))];exact ih fun m hm=>h m (List.mem_append_left _ hm)
theorem CX {pre:List TN} {m:TN} (hne:pre.Pairwise fun a b=>a.path≠b.path) (h:m∈pre):vY pre m.path=if m.file= -1 then 1 else 2:=by
 revert hne h;refine lD (P:=fun pre=>pre.Pairwise (fun a b=>a.path≠b.path)→m∈pre→vY pre m.path=if m.file= -1 then 1 else 2) ?_ ?_ pre
 ·intro _ h;cases h
 intro xs x ih hne h;rw[JP];rw[List.pairwise_append]at hne;rcases List.mem_append.1 h with h|h
 ·rw[if_neg (fun e=>hne.2.2 m h x (by simp) e.symm)];exact ih hne.1 h
 have e:m=x:=by simpa using h
 subst e;rw[if_pos rfl]
theorem akS {ns:List TN} {fl:Nat}:∀ {j m:Nat},kR ns fl j=some m→j≤ns.length→∀i,i<j→∀n,ns[i]? =some n→∃k,kR ns fl i=some k∧mV ns fl i k n=true∧fV k n≤m:=by
 intro j
 induction j with
 |zero=>intro m _ _ i hi;omega
 |succ j ih=>
  intro m h hjl i hi n hn;cases hr:kR ns fl j with
  |none=>rw[NB hr 1]at h;cases h
  |some k=>
   have hj:ns[j]? =some ns[j]:=gE (by omega);rw[sH hr hj]at h;split at h
   ·rename_i ho;cases h;by_cases hij:i=j
    ·subst hij;rw[hj]at hn;cases hn;exact⟨k,hr,ho,Nat.le_refl _⟩
    obtain⟨k2,h1,h2,h3⟩:=ih hr (by omega) i (by omega) n hn;exact⟨k2,h1,h2,by have:=UA k ns[j];omega⟩
   cases h
theorem acE {ns:List TN} (h:∀(i:Nat) (n:TN),0<i→ns[i]? =some n→Op.bytesLess (lY ns i) n.path=true):ns.Pairwise fun a b=>Op.bytesLess a.path b.path=true:=by
 rw[List.pairwise_iff_getElem];intro i j hi hj hij;obtain⟨d,rfl⟩:∃d,j=i+1+d:=⟨j-i-1,by omega⟩;clear hij
 induction d with
 |zero=>have h1:=h (i+1) _ (by omega) (gE hj);rw[uA (gE hi)]at h1;exact h1
 |succ d ih=>have h1:=ih (by omega);have h2:=h (i+1+d+1) _ (by omega) (gE hj);rw[uA (gE (by omega:i+1+d<ns.length))]at h2;exact p9 h1 h2
theorem NI {ns:List TN} (hne:ns.Pairwise fun a b=>a.path≠b.path) {m:TN} (hm:m∈ns):iH ns m.path=some m:=by
 induction ns with
 |nil=>cases hm
 |cons a ns ih=>
  obtain⟨h1,h2⟩:=List.pairwise_cons.1 hne;unfold iH at ih ⊢;rw[List.find?_cons];rcases List.mem_cons.1 hm with rfl|hm
  ·simp
  (have:(a.path==m.path)=false:=by simpa using h1 m hm);rw[this];exact ih h2 hm
theorem acF {ns:List TN} {fl:Nat} (h:kR ns fl ns.length=some fl):runK ns ns.length=some fl:=by
 have hat:=fun i n hn=>akS h (Nat.le_refl _) i (gF.1 hn).1 n hn
 have hsort:=acE fun i n hi hn=>by
  obtain⟨k,_,h2,_⟩:=hat i n hn;rcases(kH.1 h2).1.1.2 with h3|h3
  ·omega
  exact h3
 have hne:ns.Pairwise fun a b=>a.path≠b.path:=hsort.imp fun {a b} hl e=>by rw[e,kN]at hl;cases hl
 have hval:∀n∈ns,aP n.path=true:=fun n hn=>by obtain⟨i,hi⟩:=List.mem_iff_getElem?.1 hn;obtain⟨k,_,h2,_⟩:=hat i n hi;exact(kH.1 h2).1.1.1
 have key:∀i,i≤ns.length→runK ns i=kR ns fl i:=by
  intro i
  induction i with
  |zero=>intro _;rfl
  |succ i ih=>
   intro hi;have hn:ns[i]? =some ns[i]:=gE (by omega);obtain⟨k,h1,h2,_⟩:=hat i _ hn;have h3:=ih (by omega);rw[h1]at h3;rw[xG h3 hn,sH h1 hn,h2,if_pos rfl,if_pos];obtain⟨⟨⟨hv,axZ⟩,hup⟩,uB⟩:=kH.1 h2;(have htk:(ns.take i).Pairwise fun a b=>a.path≠b.path:=hne.sublist (List.take_sublist _ _));have hk1:vY (ns.take i) (dE ns[i].path)=1:=by
    unfold yX at hup;rw[Bool.or_eq_true,decide_eq_true_eq]at hup;rcases hup with h0|h0
    ·rw[h0,y8 fun m hm=>sK (hval m (List.mem_of_mem_take hm))];rfl
    cases hf:iH ns (dE ns[i].path)with
    |none=>rw[hf]at h0;cases h0
    |some m=>
     rw[hf]at h0;(have QA:m.file= -1:=by simpa using h0);obtain⟨hmm,hmp⟩:=sI hf;obtain⟨j,hj⟩:=List.mem_iff_getElem?.1 hmm;obtain⟨hjl,hje⟩:=gF.1 hj;have hless:=EK hv;have hji:j<i:=by
      rcases Nat.lt_trichotomy j i with h9|h9|h9
      ·exact h9
      ·subst h9;rw[hje]at hless hmp;rw[←hmp,kN]at hless;cases hless
      have h8:=List.pairwise_iff_getElem.1 hsort i j (by omega) hjl h9;rw[hje,hmp]at h8;have:=p9 h8 hless;rw[kN]at this;cases this
     (have hmt:m∈ns.take i:=by rw[List.mem_iff_getElem?];exact⟨j,by rw[List.getElem?_take,if_pos hji];exact hj⟩);rw[←hmp,CX htk hmt,if_pos QA]
   unfold rE;simp only[Bool.and_eq_true,Bool.not_eq_true',decide_eq_true_eq];refine⟨⟨⟨⟨⟨hv,?_⟩,hk1⟩,?_⟩,?_⟩,?_⟩
   ·rcases axZ with h0|h0
    ·subst h0;unfold WX;(have:Op.bytesLess ns[0].path (lY ns 0)=false:=by(show Op.bytesLess ns[0].path []=false);cases ns[0].path<;>simp[Op.bytesLess]);rw[this,Bool.false_or,beq_eq_false_iff_ne];exact sK hv
    exact ag7 h0
   ·rcases uB with⟨h0,_⟩|⟨_,_,h0,_⟩<;>omega
   ·rcases uB with⟨h0,_⟩|⟨_,_,_,h0,_⟩<;>omega
   rcases uB with⟨h0,h5⟩|⟨h0,h5,_⟩
   ·rw[if_pos h0];exact h5
   rw[if_neg h0];simpa using h5
 rw[key _ (Nat.le_refl _)];exact h
theorem acG {ns:List TN} {fl:Nat} (hn9:ns.length≤256) (BG:fl≤256) (h:runK ns ns.length=some fl):kR ns fl ns.length=some fl:=by
 have ho:fM ns (List.replicate fl ⟨0,[]⟩):=⟨hn9,by rw[List.length_replicate];exact BG,fun f hf=>by rw[(List.mem_replicate.1 hf).2];exact Nat.zero_le _,fun f hf=>by rw[(List.mem_replicate.1 hf).2];rfl,by rw[List.length_replicate];exact h⟩;have hne:=ho.ne;have key:∀i,i≤ns.length→kR ns fl i=runK ns i:=by
  intro i
  induction i with
  |zero=>intro _;rfl
  |succ i ih=>
   intro hi;have hn:ns[i]? =some ns[i]:=gE (by omega);obtain⟨k,h1,h2,h4⟩:=agJ h i (by omega) _ hn;have h3:=ih (by omega);rw[h1]at h3;rw[sH h3 hn,xG h1 hn,h2,if_pos rfl,if_pos];obtain⟨a,b,c,d,e,f,g⟩:=AZ h2;refine kH.2 ⟨⟨⟨a,?_⟩,?_⟩,?_⟩
   ·rcases Nat.eq_zero_or_pos i with h0|h0
    ·exact Or.inl h0
    exact Or.inr b
   ·unfold yX;rw[Bool.or_eq_true,decide_eq_true_eq];by_cases h0:dE ns[i].path=[]
    ·exact Or.inl h0
    right;(have hex:∃m∈ns.take i,m.path=dE ns[i].path:=by(refine Decidable.byContradiction fun hno=>?_);(have h5:=y8 (pre:=ns.take i) (p:=dE ns[i].path) fun m hm e=>hno ⟨m,hm,e⟩);rw[c,if_neg h0]at h5;cases h5);obtain⟨m,hm,hmp⟩:=hex;have h5:=CX (hne.sublist (List.take_sublist i _)) hm;rw[hmp,c]at h5;(have QA:m.file= -1:=by(refine Decidable.byContradiction fun hno=>?_);rw[if_neg hno]at h5;cases h5);rw[←hmp,NI hne (List.mem_of_mem_take hm)];simpa using QA
   by_cases h0:ns[i].file= -1
   ·exact Or.inl ⟨h0,f h0⟩
   refine Or.inr ⟨h0,g h0,by omega,e,?_⟩;unfold fV at h4;split at h4<;>omega
 rw[key _ (Nat.le_refl _)];exact h
theorem y9 (ns:List TN) (fs:List TF):(if iZ ns fs=true then 31 else if jJ ns fs=true then 0 else 30)=CV ns fs:=by
 unfold CV;cases hb:iZ ns fs with
 |true=>rw[if_pos rfl,if_pos rfl]
 |false=>
  simp only[Bool.false_eq_true,if_false];unfold iZ at hb;rw[Bool.or_eq_false_iff,Bool.or_eq_false_iff,decide_eq_false_iff_not,decide_eq_false_iff_not]at hb;obtain⟨⟨h1,h2⟩,_⟩:=hb;(have:jJ ns fs=true↔runK ns ns.length=some fs.length∧fs.all (fun f=>eG f.mode)=true:=by unfold jJ;rw[Bool.and_eq_true,decide_eq_true_eq];exact⟨fun⟨a,b⟩=>⟨acF a,b⟩,fun⟨a,b⟩=>⟨acG (by omega) (by omega) a,b⟩⟩);by_cases h:jJ ns fs=true
  ·rw[if_pos h,if_pos (this.1 h)]
  rw[if_neg h,if_neg (fun h3=>h (this.2 h3))]
theorem l5 {Ns:List TN} {n:TN}:n∈dF Ns↔n∈Ns:=(kI Ns).mem_iff
def sM (a b:TN):Prop:=Op.bytesLess a.path b.path=true
theorem Y9 {p:List UInt8}:∀ {xs:List TN} {j:Nat} {m:TN},j<uD xs p→xs[j]? =some m→Op.bytesLess m.path p=true
 |[],j,m,h,_=>by simp[uD]at h
 |x::xs,j,m,h,hj=>by
  unfold uD at h;rw[List.takeWhile_cons]at h;split at h
  ·rename_i hx;cases j with
   |zero=>cases hj;exact hx
   |succ j=>exact Y9 (xs:=xs) (j:=j) (by unfold uD;simpa using h) (by simpa using hj)
  simp at h
theorem akT {p:List UInt8} {xs:List TN} {m:TN} (h:xs[uD xs p]? =some m):Op.bytesLess m.path p=false:=by
 unfold uD at h
 induction xs with
 |nil=>simp at h
 |cons x xs ih=>
  rw[List.takeWhile_cons]at h;cases hx:Op.bytesLess x.path p with
  |true=>rw[hx]at h;simp only[if_true,List.length_cons,gC]at h;exact ih h
  |false=>rw[hx]at h;simp at h;subst h;exact hx
theorem UK {xs:List TN} {n:TN} (hs:xs.Pairwise sM) (hn:∀m∈xs,m.path≠n.path):(K9 xs n).Pairwise sM:=by
 unfold K9;have h1:=hs;rw[←List.take_append_drop (uD xs n.path) xs,List.pairwise_append]at h1;obtain⟨ha,hb,hc⟩:=h1;have hlo:∀a∈xs.take (uD xs n.path),sM a n:=fun a h=>by
  obtain⟨j,hj⟩:=List.mem_iff_getElem?.1 h;rw[List.getElem?_take]at hj;split at hj
  ·rename_i hjl;exact Y9 hjl hj
  cases hj
 have hhi:∀b∈xs.drop (uD xs n.path),sM n b:=fun b h=>by
  cases hd:xs.drop (uD xs n.path)with
  |nil=>rw[hd]at h;cases h
  |cons c l=>
   (have hc0:xs[uD xs n.path]? =some c:=by(have h9:(xs.drop (uD xs n.path))[0]? =some c:=by rw[hd];rfl);rw[List.getElem?_drop]at h9;exact h9);have hcn:sM n c:=WY (akT hc0) (hn c (gG hc0));rw[hd]at h hb;rcases List.mem_cons.1 h with rfl|h
   ·exact hcn
   exact p9 hcn ((List.pairwise_cons.1 hb).1 b h)
 rw[List.pairwise_append];refine⟨ha,?_,fun a h1 b h2=>?_⟩
 ·rw[List.pairwise_cons];exact⟨hhi,hb⟩
 rcases List.mem_cons.1 h2 with rfl|h2
 ·exact hlo a h1
 exact hc a h1 b h2
theorem uF {ns:List TN} (h:ns.Pairwise fun a b=>a.path≠b.path):(dF ns).Pairwise sM:=by revert h;refine lD (P:=fun ns=>ns.Pairwise (fun a b=>a.path≠b.path)→(dF ns).Pairwise sM) (fun _=>List.Pairwise.nil) (fun xs x ih h=>?_) ns;rw[List.pairwise_append]at h;rw[y7];exact UK (ih h.1) fun m hm=>h.2.2 m ((kI xs).mem_iff.1 hm) x (by simp)
theorem acH (a b:List TN):∃l,dU (a++b)=dU a++l:=by
 refine lD (P:=fun b=>∃l,dU (a++b)=dU a++l) ⟨[],by simp⟩ (fun xs x ⟨l,ih⟩=>?_) b;rw[←List.append_assoc,kP,ih];split
 ·exact⟨l,rfl⟩
 split
 ·exact⟨l,rfl⟩
 exact⟨l++[x.file],by rw[List.append_assoc]⟩
theorem UL (xs:List TN) (i:Nat):∃l,dU xs=dU (xs.take i)++l:=by have h:=acH (xs.take i) (xs.drop i);rw[List.take_append_drop]at h;exact h
structure uN (Ns:List TN):Prop where
 ne:Ns.Pairwise fun a b=>a.path≠b.path
 valid:∀n∈Ns,aP n.path=true
 up:∀n∈Ns,dE n.path=[]∨∃m∈Ns,m.path=dE n.path∧m.file= -1
 file:∀n∈Ns,(n.file= -1∧eG n.mode=true)∨(0≤n.file∧n.mode=0)
theorem akU {Ns:List TN} (hne:Ns.Pairwise fun a b=>a.path≠b.path):(dF Ns).Pairwise sM:=by exact uF hne
theorem ax0 {Ns:List TN} (hne:Ns.Pairwise fun a b=>a.path≠b.path):(dF Ns).length=Ns.length:=by exact sJ Ns
theorem qG (ids:List Int) (n:TN):(eB ids n).path=n.path:=by unfold eB;split<;>rfl
theorem XJ (ids:List Int) (n:TN):(eB ids n).mode=n.mode:=by unfold eB;split<;>rfl
theorem akV {Ns:List TN} (h:uN Ns):∀i,i≤(dF Ns).length→runK (qE Ns) i=some (dU ((dF Ns).take i)).length:=by
 obtain⟨xs,hxs⟩:∃xs,dF Ns=xs:=⟨_,rfl⟩;have hs:=akU h.ne;have hmem:∀n,n∈xs↔n∈Ns:=fun n=>by rw[←hxs];exact l5
 unfold qE;rw[hxs]at hs ⊢;have hne:xs.Pairwise fun a b=>a.path≠b.path:=hs.imp fun {a b} hl e=>by unfold sM at hl;rw[e,kN]at hl;cases hl
 intro i
 induction i with
 |zero=>intro _;rfl
 |succ i ih=>
  intro hi;have hn:xs[i]? =some xs[i]:=gE (by omega);obtain⟨n,hnn⟩:∃n,xs[i]=n:=⟨_,rfl⟩;rw[hnn]at hn;(have hy:(xs.map (eB (dU xs)))[i]? =some (eB (dU xs) n):=by rw[List.getElem?_map,hn];rfl);have hnN:=(hmem n).1 (gG hn);have hv:=h.valid n hnN;(have htk:xs.take (i+1)=xs.take i++[n]:=by rw[List.take_add_one,hn];rfl);obtain⟨l,hl⟩:=UL xs i;obtain⟨l2,hl2⟩:=UL xs (i+1);have hsn:=kP (xs.take i) n;rw[←htk]at hsn;rw[xG (ih (by omega)) hy,if_pos]
  ·congr 1;unfold fV;rw[hsn];rcases h.file n hnN with⟨hf,_⟩|⟨hf,_⟩
   ·(have e1:(eB (dU xs) n).file= -1:=by unfold eB;rw[if_pos (by omega)];exact hf);rw[e1,if_neg (by omega),if_pos (by omega)]
   (have e1:(eB (dU xs) n).file=((dU xs).idxOf n.file:Nat):=by unfold eB;rw[if_neg (by omega)]);rw[e1,if_neg (show ¬n.file<0 by omega)];by_cases hm:n.file∈dU (xs.take i)
   ·(have e2:(dU xs).idxOf n.file<(dU (xs.take i)).length:=by rw[hl,List.idxOf_append,if_pos hm];exact List.idxOf_lt_length_iff.2 hm);rw[if_neg (by omega),if_pos hm]
   (have e2:(dU xs).idxOf n.file=(dU (xs.take i)).length:=by rw[hl2,hsn,if_neg (show ¬n.file<0 by omega),if_neg hm,List.append_assoc,List.idxOf_append,if_neg hm];simp);rw[e2,if_pos rfl,if_neg hm,List.length_append];rfl
  unfold rE;simp only[Bool.and_eq_true,Bool.not_eq_true',decide_eq_true_eq];rw[qG,XJ];refine⟨⟨⟨⟨⟨hv,?_⟩,?_⟩,?_⟩,?_⟩,?_⟩
  ·rcases Nat.eq_zero_or_pos i with h0|h0
   ·subst h0;unfold WX;(have:Op.bytesLess n.path (lY (xs.map (eB (dU xs))) 0)=false:=by(show Op.bytesLess n.path []=false);cases n.path<;>simp[Op.bytesLess]);rw[this,Bool.false_or,beq_eq_false_iff_ne];exact sK hv
   obtain⟨j,rfl⟩:∃j,i=j+1:=⟨i-1,by omega⟩;(have hj:(xs.map (eB (dU xs)))[j]? =some (eB (dU xs) xs[j]):=by rw[List.getElem?_map,gE (by omega)];rfl);rw[uA hj,qG];have h8:=List.pairwise_iff_getElem.1 hs j (j+1) (by omega) (by omega) (by omega);rw[hnn]at h8;exact ag7 h8
  ·rcases h.up n hnN with h0|⟨m,hm,hmp,QA⟩
   ·rw[h0,y8]
    ·rfl
    intro m hm;rw[←List.map_take]at hm;obtain⟨m0,hm0,rfl⟩:=List.mem_map.1 hm;rw[qG];exact sK (h.valid m0 ((hmem m0).1 (List.mem_of_mem_take hm0)))
   have hmx:=(hmem m).2 hm;obtain⟨j,hj⟩:=List.mem_iff_getElem?.1 hmx;obtain⟨hjl,hje⟩:=gF.1 hj;have hless:=EK hv;rw[←hmp]at hless;have hji:j<i:=by
    rcases Nat.lt_trichotomy j i with h9|h9|h9
    ·exact h9
    ·subst h9;rw[hnn]at hje;subst hje;rw[kN]at hless;cases hless
    have h8:=List.pairwise_iff_getElem.1 hs i j (by omega) hjl h9;rw[hje,hnn]at h8;have:=p9 h8 hless;rw[kN]at this;cases this
   (have e1:eB (dU xs) m=m:=by unfold eB;rw[if_pos (by omega)]);(have hmt:m∈(xs.map (eB (dU xs))).take i:=by rw[List.mem_iff_getElem?];refine⟨j,?_⟩;rw[List.getElem?_take,if_pos hji,List.getElem?_map,hj];(show some (eB (dU xs) m)=some m);rw[e1]);(have ax1:((xs.map (eB (dU xs))).take i).Pairwise fun a b=>a.path≠b.path:=by refine List.Pairwise.sublist (List.take_sublist _ _) ?_;rw[List.pairwise_map];exact hne.imp fun {a b} h=>by rw[qG,qG];exact h);rw[←hmp,CX ax1 hmt,if_pos QA]
  ·unfold eB;split
   ·rcases h.file n hnN with⟨hf,_⟩|⟨hf,_⟩<;>omega
   (show(-1:Int)≤((List.idxOf n.file (dU xs):Nat):Int));omega
  ·unfold eB;split
   ·omega
   rename_i hf;(show((List.idxOf n.file (dU xs):Nat):Int)≤_);by_cases hm:n.file∈dU (xs.take i)
   ·(have e2:(dU xs).idxOf n.file<(dU (xs.take i)).length:=by rw[hl,List.idxOf_append,if_pos hm];exact List.idxOf_lt_length_iff.2 hm);omega
   (have e2:(dU xs).idxOf n.file=(dU (xs.take i)).length:=by rw[hl2,hsn,if_neg hf,if_neg hm,List.append_assoc,List.idxOf_append,if_neg hm];simp);omega
  rcases h.file n hnN with⟨hf,hmo⟩|⟨hf,hmo⟩
  ·(have e1:(eB (dU xs) n).file= -1:=by unfold eB;rw[if_pos (by omega)];exact hf);rw[if_pos e1];exact hmo
  (have e1:¬(eB (dU xs) n).file= -1:=by unfold eB;rw[if_neg (by omega)];(show ¬((List.idxOf n.file (dU xs):Nat):Int)= -1);omega);rw[if_neg e1,decide_eq_true_eq];exact hmo
theorem NJ {Ns:List TN} {Cs:List TF} (h:uN Ns) (h9:Ns.length≤256) (hc:∀n∈Ns,¬n.file<0→(iV Cs n.file).size≤8192∧eG (iV Cs n.file).mode=true):fM (qE Ns) (oZ Ns Cs):=by
 have hl:=ax0 h.ne;have hlen:(qE Ns).length=Ns.length:=by unfold qE;rw[List.length_map,hl]
 have hc2:∀f∈oZ Ns Cs,f.size≤8192∧eG f.mode=true:=fun f hf=>by unfold oZ at hf;obtain⟨id,hid,rfl⟩:=List.mem_map.1 hf;obtain⟨n,hn,h1,h2⟩:=xK _ id hid;rw[←h1];exact hc n ((l5).1 hn) h2
 refine⟨by omega,?_,fun f hf=>(hc2 f hf).1,fun f hf=>(hc2 f hf).2,?_⟩
 ·unfold oZ;rw[List.length_map];have:=BH (dF Ns);omega
 rw[hlen,←hl,akV h _ (Nat.le_refl _),List.take_length];unfold oZ;rw[List.length_map]
def ren (r:Int→Int) (n:TN):TN:=if n.file<0 then n else⟨n.path,r n.file,n.mode⟩
theorem kK (r:Int→Int) (n:TN):(ren r n).path=n.path:=by unfold ren;split<;>rfl
theorem xL {r:Int→Int} {n:TN} (h:n.file<0):ren r n=n:=by unfold ren;rw[if_pos h]
structure Alike (r:Int→Int) (Ms:List TN) (F:List TF) (Ns:List TN) (G:List TF):Prop where
 perm:Ms.Perm (Ns.map (ren r))
 file:∀n∈Ns,¬n.file<0→0≤r n.file∧r n.file<F.length∧iV F (r n.file)=iV G n.file
 inj:∀n∈Ns,∀m∈Ns,¬n.file<0→¬m.file<0→r n.file=r m.file→n.file=m.file
theorem acI {xs ys:List TN} (hx:xs.Pairwise sM) (hy:ys.Pairwise sM) (hp:xs.Perm ys):xs=ys:=by refine List.Perm.eq_of_pairwise (le:=sM) (fun a b _ _ h1 h2=>?_) hx hy hp;have:=p9 h1 h2;rw[kN]at this;cases this
theorem NK {α β:Type} [BEq α] [LawfulBEq α] [BEq β] [LawfulBEq β] {r:α→β}:∀ {l:List α} {a:α},(∀b∈l,r b=r a→b=a)→(l.map r).idxOf (r a)=l.idxOf a
 |[],_,_=>rfl
 |b::l,a,h=>by
  rw[List.map_cons,List.idxOf_cons,List.idxOf_cons];by_cases e:b=a
  ·subst e;simp
  (have e2:¬r b=r a:=fun e2=>e (h b List.mem_cons_self e2));rw[beq_false_of_ne e,beq_false_of_ne e2,NK fun c hc=>h c (List.mem_cons_of_mem _ hc)]
theorem UM {α β:Type} {r:α→β} {l:List α} {a:α} (h:∀b∈l,r b=r a→b=a):r a∈l.map r↔a∈l:=by rw[List.mem_map];exact⟨fun⟨b,hb,e⟩=>h b hb e▸hb,fun ha=>⟨a,ha,rfl⟩⟩
section
variable {r:Int→Int} {Ms Ns:List TN} {F G:List TF}
theorem akW {Xs:List TN} (hs:∀n∈Xs,n∈Ns) (h:Alike r Ms F Ns G):dU (Xs.map (ren r))=(dU Xs).map r:=by
 revert hs;refine lD (P:=fun Xs=>(∀n∈Xs,n∈Ns)→dU (Xs.map (ren r))=(dU Xs).map r) (fun _=>rfl) (fun xs x ih hs=>?_) Xs;have ih:=ih fun n hn=>hs n (List.mem_append_left _ hn)
 have hx:=hs x (by simp);rw[List.map_append,List.map_singleton,kP,kP,ih];by_cases hf:x.file<0
 ·rw[xL hf,if_pos hf,if_pos hf]
 have h0:=(h.file x hx hf).1;have e1:(ren r x).file=r x.file:=by unfold ren;rw[if_neg hf]
 rw[e1,if_neg hf,if_neg (by omega)];have hm:r x.file∈(dU xs).map r↔x.file∈dU xs:=UM fun b hb e=>by obtain⟨n,hn,h1,h2⟩:=xK _ b hb;rw[←h1]at e ⊢;exact h.inj n (hs n (List.mem_append_left _ hn)) x hx h2 hf e
 by_cases h2:x.file∈dU xs
 ·rw[if_pos h2,if_pos (hm.2 h2)]
 rw[if_neg h2,if_neg (fun e=>h2 (hm.1 e)),List.map_append];rfl
theorem acJ (h:Alike r Ms F Ns G) (hne:Ns.Pairwise fun a b=>a.path≠b.path):dF Ms=(dF Ns).map (ren r):=by
 have an6:(Ns.map (ren r)).Pairwise fun a b=>a.path≠b.path:=by rw[List.pairwise_map];exact hne.imp fun {a b} e=>by rw[kK,kK];exact e
 have ax2:Ms.Pairwise fun a b=>a.path≠b.path:=h.perm.symm.pairwise an6 fun {a b} h e=>h e.symm
 refine acI (uF ax2) ?_ ((kI Ms).trans (h.perm.trans ((kI Ns).symm.map _)));rw[List.pairwise_map];refine(uF hne).imp fun {a b} e=>?_
 unfold sM;rw[kK,kK];exact e
theorem acK (h:Alike r Ms F Ns G) (hne:Ns.Pairwise fun a b=>a.path≠b.path):qE Ms=qE Ns∧oZ Ms F=oZ Ns G:=by
 have hmem:∀n∈dF Ns,n∈Ns:=fun n hn=>l5.1 hn
 unfold qE oZ;rw[acJ h hne,akW hmem h,List.map_map,List.map_map];constructor
 ·apply List.map_congr_left;intro n hn;(show eB ((dU (dF Ns)).map r) (ren r n)=_);by_cases hf:n.file<0
  ·rw[xL hf];unfold eB;rw[if_pos hf,if_pos hf]
  have h0:=(h.file n (hmem n hn) hf).1;unfold eB;(have e1:(ren r n).file=r n.file:=by unfold ren;rw[if_neg hf]);(have e2:(ren r n).mode=n.mode:=by unfold ren;rw[if_neg hf]);rw[e1,if_neg (by omega),if_neg hf,kK,e2,NK fun b hb e=>?_];obtain⟨m,hm,h1,h2⟩:=xK _ b hb;rw[←h1]at e ⊢;exact h.inj m (hmem m hm) n (hmem n hn) h2 hf e
 apply List.map_congr_left;intro id hid;obtain⟨n,hn,h1,h2⟩:=xK _ id hid;rw[←h1];exact(h.file n (hmem n hn) h2).2.2
theorem acL (Xs:List TN):(dU Xs).Nodup:=by
 refine lD (P:=fun Xs=>(dU Xs).Nodup) List.nodup_nil (fun xs x ih=>?_) Xs;rw[kP];split
 ·exact ih
 split
 ·exact ih
 rename_i h;rw[List.nodup_append];refine⟨ih,by simp,fun a ha b hb e=>h ?_⟩;have hb2:b=x.file:=by simpa using hb
 rw[←hb2,←e];exact ha
theorem CY (Ns:List TN) (G:List TF):Alike (fun i=>((dU (dF Ns)).idxOf i:Nat)) (qE Ns) (oZ Ns G) Ns G:=by
 refine⟨?_,fun n hn hf=>?_,fun n hn m hm hf hg e=>?_⟩
 ·unfold qE;exact(kI Ns).map _
 ·have hm:=wD _ n (l5.2 hn) hf;have hl:=List.idxOf_lt_length_iff.2 hm;refine⟨by omega,?_,?_⟩
  ·unfold oZ;rw[List.length_map];exact Int.ofNat_lt.2 hl
  unfold oZ;show iV _ ((List.idxOf n.file (dU (dF Ns)):Nat):Int)=_
  conv=>lhs;unfold iV
  rw[gH,Int.toNat_natCast,List.getElem?_map,gE hl,List.getElem_idxOf hl];rfl
 have hm1:=wD _ n (l5.2 hn) hf;have hm2:=wD _ m (l5.2 hm) hg;have e2:(dU (dF Ns)).idxOf n.file=(dU (dF Ns)).idxOf m.file:=Int.ofNat.inj e;have h1:=List.getElem_idxOf (List.idxOf_lt_length_iff.2 hm1);have h2:=List.getElem_idxOf (List.idxOf_lt_length_iff.2 hm2);rw[←h1,←h2];simp only[e2]
end
theorem Rd.form {w:World} {sz n:Nat} {v:Value} {cs:List Value} (h:Rd w sz v n cs):∃(A:Option Addr) (c:Nat),v= .slice A n c:=h.shape.imp fun A h=>h.imp fun c h=>h.1
end Go.Proofs.YteihmbaimbogaaaGreat
