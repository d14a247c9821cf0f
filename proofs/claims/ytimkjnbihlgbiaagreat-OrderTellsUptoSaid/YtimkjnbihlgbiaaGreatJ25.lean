/- ModelTell, TellP, FormP, RoundPlain, Round, Chain, laid together. -/
import Derived.Test.YtimkjnbihlgbiaaGreatJ17
import Derived.Test.YtimkjnbihlgbiaaGreatJ23
import Derived.Test.YtimkjnbihlgbiaaGreatJ24
namespace Go.Proofs.YtimkjnbihlgbiaaGreat
open Go.RowKit
set_option linter.unusedVariables false
set_option linter.unusedSimpArgs false
theorem info_strT :(Tryz.prog.info? 9).map (fun i=>(i.zero,i.size,i.bytes))=some (some (.string ⟨#[]⟩),1,16):=by kernel_rfl
theorem info_nodeT :(Tryz.prog.info? 51).map (fun i=>(i.zero,i.size,i.bytes))=some (some (.agg #[.string ⟨#[]⟩,.int .i64 0,.int .i64 0]),3,32):=by kernel_rfl
theorem info_fileT :(Tryz.prog.info? 54).map (fun i=>(i.zero,i.size,i.bytes))=some (some (.agg #[.int .i64 0,.slice none 0 0]),2,32):=by kernel_rfl
theorem less_unique :∀ {xs ys:List (List UInt8)},(xs.Pairwise fun x y=>Op.bytesLess x y=true)→(ys.Pairwise fun x y=>Op.bytesLess x y=true)→(∀x,x∈xs↔x∈ys)→xs=ys:=by
 intro xs
 induction xs with
 |nil=>
  intro ys _ _ h;cases ys with
  |nil=>rfl
  |cons y ys=>exact absurd ((h y).2 (by simp)) (by simp)
 |cons x xs ih=>
  intro ys hx hy h;cases ys with
  |nil=>exact absurd ((h x).1 (by simp)) (by simp)
  |cons y ys=>
   obtain⟨a1,a2⟩:=List.pairwise_cons.1 hx;obtain⟨b1,b2⟩:=List.pairwise_cons.1 hy;have e:x=y:=by
    rcases List.mem_cons.1 ((h x).1 (by simp))with e|h1
    ·exact e
    rcases List.mem_cons.1 ((h y).2 (by simp))with e|h2
    ·exact e.symm
    have h3:=bl_asymm (a1 _ h2);rw[b1 _ h1]at h3;cases h3
   subst e;congr 1;refine ih a2 b2 fun z=>⟨fun hz=>?_,fun hz=>?_⟩
   ·rcases List.mem_cons.1 ((h z).1 (List.mem_cons_of_mem _ hz))with e|h1
    ·subst e;have h3:=a1 _ hz;rw[bl_irrefl]at h3;cases h3
    exact h1
   rcases List.mem_cons.1 ((h z).2 (List.mem_cons_of_mem _ hz))with e|h1
   ·subst e;have h3:=b1 _ hz;rw[bl_irrefl]at h3;cases h3
   exact h1
theorem sortS_of_perm {ps qs:List (List UInt8)} (h:ps.Perm qs) (hn:qs.Nodup):sortS ps=sortS qs:=
 less_unique (sortS_less (h.nodup_iff.2 hn)) (sortS_less hn) fun x=>by rw[(sortS_perm ps).mem_iff,(sortS_perm qs).mem_iff,h.mem_iff]
theorem run_load_tree {w:World} {b:Nat} {x y:Value} (h0:w.cell? ⟨b,0,none⟩=some x) (h1:w.cell? ⟨b,1,none⟩=some y):(loadVar 25 ⟨b,0,none⟩).run Tryz.prog w= .ok (.agg #[x,y]) w:=by simp[loadVar,go_sem,h0,h1]
theorem tree_results1 {fn:Func} {p:Tmp} (h:fn.results=#[.cell p 25]) {tmps:Array Value} {w:World} {b:Nat} {x y:Value} (hp:tmps.getD p undef= .pointer (some ⟨b,0,none⟩)) (h0:w.cell? ⟨b,0,none⟩=some x) (h1:w.cell? ⟨b,1,none⟩=some y):
  (results fn tmps).run Tryz.prog w= .ok (.agg #[x,y]) w:=by
 have hp2:tmps[p]?.getD undef= .pointer (some ⟨b,0,none⟩):=by simpa using hp
 simp only[results,h];simp[hp2,asAddr,run_load_tree h0 h1]
theorem tree_results2 {fn:Func} {p u:Tmp} (h:fn.results=#[.cell p 25,.tmp u]) {tmps:Array Value} {w:World} {b:Nat} {x y:Value} (hp:tmps.getD p undef= .pointer (some ⟨b,0,none⟩)) (h0:w.cell? ⟨b,0,none⟩=some x) (h1:w.cell? ⟨b,1,none⟩=some y):
  (results fn tmps).run Tryz.prog w= .ok (.tuple #[.agg #[x,y],tmps.getD u undef]) w:=by
 have hp2:tmps[p]?.getD undef= .pointer (some ⟨b,0,none⟩):=by simpa using hp
 simp only[results,h];simp[Result.andThen,hp2,asAddr,run_load_tree h0 h1]
theorem take_succ_map {α β:Type} (E:α→β) {l:List α} {i:Nat} {p:α} (h:l[i]? =some p):(l.take (i+1)).map E=(l.take i).map E++[E p]:=by rw[List.take_add_one,h,List.map_append];rfl
end Go.Proofs.YtimkjnbihlgbiaaGreat
namespace Go.Proofs.YtimkjnbihlgbiaaGreat
open Go.RowKit
set_option linter.unusedVariables false
theorem snoc_rec {α:Type} {P:List α→Prop} (h0:P []) (h1:∀xs x,P xs→P (xs++[x])) (xs:List α):P xs:=by
 rw[←List.reverse_reverse xs]
 induction xs.reverse with
 |nil=>exact h0
 |cons a l ih=>rw[List.reverse_cons];exact h1 _ _ ih
theorem idx_app {ids:List Int} {a:Int} (h:a∈ids) (l:List Int):(ids++l).idxOf a=ids.idxOf a:=by rw[List.idxOf_append,if_pos h]
theorem idx_ne {a b:Int} (h:¬b=a) (l:List Int):(b::l).idxOf a=l.idxOf a+1:=by
 rw[List.idxOf_cons];have:(b==a)=false:=by simpa using h
 rw[this];rfl
def idsP (xs:List TN):List Int:=xs.foldl (fun ids n=>if n.file<0 then ids else if n.file∈ids then ids else ids++[n.file]) []
theorem idsP_snoc (xs:List TN) (n:TN):idsP (xs++[n])=if n.file<0 then idsP xs else if n.file∈idsP xs then idsP xs else idsP xs++[n.file]:=by unfold idsP;rw[List.foldl_append];rfl
def renum (ids:List Int) (n:TN):TN:=if n.file<0 then n else⟨n.path,(ids.idxOf n.file:Nat),n.mode⟩
theorem idsP_mem (xs:List TN):∀n∈xs,¬n.file<0→n.file∈idsP xs:=by
 refine snoc_rec (P:=fun xs=>∀n∈xs,¬n.file<0→n.file∈idsP xs) ?_ ?_ xs
 ·intro n hn;cases hn
 intro xs m ih;intro n hn hf;rw[idsP_snoc];rcases List.mem_append.1 hn with hn|hn
 ·have:=ih n hn hf;split
  ·exact this
  split
  ·exact this
  exact List.mem_append_left _ this
 have e:n=m:=by simpa using hn
 subst e;rw[if_neg hf];split
 ·assumption
 simp
theorem idsP_of (xs:List TN):∀id∈idsP xs,∃n∈xs,n.file=id∧¬n.file<0:=by
 refine snoc_rec (P:=fun xs=>∀id∈idsP xs,∃n∈xs,n.file=id∧¬n.file<0) ?_ ?_ xs
 ·intro id h;cases h
 intro xs m ih;intro id h;rw[idsP_snoc]at h;have key:id∈idsP xs→∃n∈xs++[m],n.file=id∧¬n.file<0:=fun h=>by obtain⟨n,h1,h2⟩:=ih id h;exact⟨n,List.mem_append_left _ h1,h2⟩
 split at h
 ·exact key h
 split at h
 ·exact key h
 rcases List.mem_append.1 h with h|h
 ·exact key h
 have e:id=m.file:=by simpa using h
 subst e;exact⟨m,by simp,rfl,by assumption⟩
theorem idsP_len (xs:List TN):(idsP xs).length≤xs.length:=by
 refine snoc_rec (P:=fun xs=>(idsP xs).length≤xs.length) ?_ ?_ xs
 ·exact Nat.le_refl _
 intro xs m ih;rw[idsP_snoc,List.length_append,List.length_singleton];split
 ·omega
 split
 ·omega
 rw[List.length_append,List.length_singleton];omega
theorem renum_app {xs:List TN} {ids:List Int} (h:∀n∈xs,¬n.file<0→n.file∈ids) (id:Int):xs.map (renum (ids++[id]))=xs.map (renum ids):=by
 apply List.map_congr_left;intro n hn;unfold renum;split
 ·rfl
 rename_i hf;rw[idx_app (h n hn hf)]
def freshG (ids:List Int):List (Lit×Value):=ids.zipIdx.map fun x=>(.int .i64 x.1,.int .i64 x.2)
theorem fresh_find (ids:List Int) (id:Int):∀k,getM ((ids.zipIdx k).map fun x=>((.int .i64 x.1:Lit),Value.int .i64 x.2)) (.int .i64 id)=if id∈ids then some (.int .i64 ((ids.idxOf id+k:Nat):Int))else none:=by
 induction ids with
 |nil=>intro k;rfl
 |cons a ids ih=>
  intro k;rw[List.zipIdx_cons,List.map_cons];unfold getM at ih ⊢;rw[List.find?_cons];by_cases e:a=id
  ·subst e;simp[Lit.sameKey,List.idxOf_cons_self]
  (have hs:(Lit.int .i64 a).sameKey (.int .i64 id)=false:=by simp[Lit.sameKey];exact e);rw[hs];simp only;rw[ih (k+1)];(have e2:¬id=a:=fun h=>e h.symm);by_cases hm:id∈ids
  ·rw[if_pos hm,if_pos (List.mem_cons_of_mem _ hm),idx_ne e];congr 2;omega
  rw[if_neg hm,if_neg (fun h=>(List.mem_cons.1 h).elim e2 hm)]
theorem fresh_get (ids:List Int) (id:Int):getM (freshG ids) (.int .i64 id)=if id∈ids then some (.int .i64 (ids.idxOf id:Nat))else none:=by have:=fresh_find ids id 0;simpa[freshG]using this
theorem fresh_putG {ids:List Int} {id:Int} (h:id∉ids):putM (freshG ids) (.int .i64 id) (.int .i64 ids.length)=freshG (ids++[id]):=by
 unfold putM delM freshG;rw[List.filter_eq_self.2,List.zipIdx_append,List.map_append]
 ·simp
 intro x hx;obtain⟨y,hy,rfl⟩:=List.mem_map.1 hx;have hy1:y.1∈ids:=by have:=List.mem_zipIdx hy;rw[this.2.2];exact List.getElem_mem _
 have:y.1≠id:=fun e=>h (e▸hy1)
 simp[Lit.sameKey];exact this
theorem freshG_len (ids:List Int):(freshG ids).length=ids.length:=by simp[freshG]
def fAtI (Fs:List FEnt) (id:Int):FEnt:=(Fs.find? (fun f=>decide ((f.id:Int)=id))).getD ⟨0,0,0,0,.slice none 0 0⟩
def fE (Fs:List FEnt) (id:Int):TF:=⟨(fAtI Fs id).mode,dvLen (fAtI Fs id).dv⟩
theorem fAtI_of {Fs:List FEnt} {id:Int} (h:∃f∈Fs,(f.id:Int)=id):fAtI Fs id∈Fs∧((fAtI Fs id).id:Int)=id:=by
 obtain⟨f,hf,he⟩:=h;have hs:(Fs.find? (fun f=>decide ((f.id:Int)=id))).isSome=true:=by rw[List.find?_isSome];exact⟨f,hf,by simpa using he⟩
 obtain⟨g,hg⟩:=Option.isSome_iff_exists.1 hs;unfold fAtI;rw[hg];exact⟨List.mem_of_find?_eq_some hg,by simpa using List.find?_some hg⟩
def sortT (Ns:List TN):List TN:=(sortS (Ns.map TN.path)).map (nodeOr Ns)
def canNs (Ns:List TN):List TN:=(sortT Ns).map (renum (idsP (sortT Ns)))
def canFs (Ns:List TN) (Fs:List FEnt):List TF:=(idsP (sortT Ns)).map (fE Fs)
theorem find_of {Ns:List TN} {p:List UInt8} (h:p∈Ns.map TN.path):∃n,findN Ns p=some n∧n∈Ns∧n.path=p∧nodeOr Ns p=n:=by
 obtain⟨m,hm,rfl⟩:=List.mem_map.1 h;have hs:(findN Ns m.path).isSome=true:=by unfold findN;rw[List.find?_isSome];exact⟨m,hm,by simp⟩
 obtain⟨n,hn⟩:=Option.isSome_iff_exists.1 hs;obtain⟨h1,h2⟩:=find_mem hn;exact⟨n,hn,h1,h2,by unfold nodeOr;rw[hn];rfl⟩
theorem delG_perm {Ms:List TN} (hn:(Ms.map TN.path).Nodup) {nd:TN} (h:nd∈Ms):(Ms.map TN.path).Perm (nd.path::(delG Ms nd.path).map TN.path):=by
 induction Ms with
 |nil=>cases h
 |cons m Ms ih=>
  rw[List.map_cons,List.nodup_cons]at hn;rcases List.mem_cons.1 h with rfl|hm
  ·(have e:delG (nd::Ms) nd.path=Ms:=by unfold delG;rw[List.filter_cons];simp only[beq_self_eq_true,Bool.not_true,Bool.false_eq_true,if_false];(refine List.filter_eq_self.2 fun x hx=>?_);(have:x.path≠nd.path:=fun e=>hn.1 (e▸List.mem_map_of_mem hx));simpa using this);rw[e];exact List.Perm.refl _
  (have hne:(m.path==nd.path)=false:=by(have:m.path≠nd.path:=fun e=>hn.1 (e▸List.mem_map_of_mem hm));simpa using this);(have e:delG (m::Ms) nd.path=m::delG Ms nd.path:=by unfold delG;rw[List.filter_cons,hne];rfl);rw[e,List.map_cons,List.map_cons];exact((ih hn.2 hm).cons _).trans (List.Perm.swap _ _ _)
theorem paths_nodupG {Ns:List TN} (h:Ns.Pairwise fun a b=>a.path≠b.path):(Ns.map TN.path).Nodup:=by rw[List.nodup_iff_pairwise_ne,List.pairwise_map];exact h
theorem tfCells_snoc {fs:List TF} {vs:List Value} (h:vs.length=fs.length) (f:TF) (u:Value):tfCells (fs++[f]) (vs++[u])=tfCells fs vs++[.int .i64 f.mode,u]:=by unfold tfCells;rw[List.zip_append h.symm,List.flatMap_append];rfl
theorem tnCells_snoc (ns:List TN) (n:TN):tnCells (ns++[n])=tnCells ns++[strV n.path,.int .i64 n.file,.int .i64 n.mode]:=by unfold tnCells;rw[List.flatMap_append];simp[tnC]
def keepF (u:Value) (f:TF):Asn:=.keep fun w=>DataAt w u f.size
theorem tree_of {w0 w:World} {ns:List TN} {fs:List TF} {vs:List Value} {nv fv:Value} (hl:vs.length=fs.length) (h:Sep w0 w (.sl 54 2 fv fs.length (tfCells fs vs):: .sl 51 3 nv ns.length (tnCells ns)::List.zipWith keepF vs fs)):TreeAt w nv fv ns fs vs:=
 ⟨hl,h.rd 1 rfl,h.rd 0 rfl,fun k u f hu hf=>h.kept (P:=fun w=>DataAt w u f.size) (k+2) (by(show(List.zipWith _ vs fs)[k]? =_);rw[List.getElem?_zipWith,hu,hf];rfl)⟩
set_option linter.unusedSimpArgs false
theorem valid_ne {p:List UInt8} (h:validL p=true):p≠[]:=fun e=>by subst e;revert h;decide
theorem bl_prefix :∀(p:List UInt8) (k:Nat),k<p.length→Op.bytesLess (p.take k) p=true
 |[],k,h=>by simp at h
 |a::p,0,_=>by simp[Op.bytesLess]
 |a::p,k+1,h=>by rw[List.take_succ_cons];unfold Op.bytesLess;rw[bl_prefix p k (by simpa using h)];simp
theorem slashP_lt {p:List UInt8} (h:p≠[]):slashP p<p.length:=by
 rcases slash_split p with⟨_,h0,_⟩|⟨a,b,e,_,hs,_⟩
 ·rw[h0];exact List.length_pos_iff.2 h
 rw[hs];have:=congrArg List.length e;rw[List.length_append,List.length_cons]at this;omega
theorem parent_less {p:List UInt8} (h:validL p=true):Op.bytesLess (parentL p) p=true:=by unfold parentL;rw[if_pos h];exact bl_prefix p _ (slashP_lt (valid_ne h))
theorem leB_of {p q:List UInt8} (h:Op.bytesLess q p=true):leB p q=false:=by unfold leB;rw[bl_asymm h,Bool.false_or,beq_eq_false_iff_ne];intro e;rw[e,bl_irrefl]at h;cases h
theorem kindP_none {pre:List TN} {p:List UInt8} (h:∀m∈pre,m.path≠p):kindP pre p=if p=[]then 1 else 0:=by
 revert h;refine snoc_rec (P:=fun pre=>(∀m∈pre,m.path≠p)→kindP pre p=if p=[]then 1 else 0) ?_ ?_ pre
 ·intro _;rfl
 intro xs x ih h;rw[kindP_snoc,if_neg (h x (by simp))];exact ih fun m hm=>h m (List.mem_append_left _ hm)
theorem kindP_mem {pre:List TN} {m:TN} (hne:pre.Pairwise fun a b=>a.path≠b.path) (h:m∈pre):kindP pre m.path=if m.file= -1 then 1 else 2:=by
 revert hne h;refine snoc_rec (P:=fun pre=>pre.Pairwise (fun a b=>a.path≠b.path)→m∈pre→kindP pre m.path=if m.file= -1 then 1 else 2) ?_ ?_ pre
 ·intro _ h;cases h
 intro xs x ih hne h;rw[kindP_snoc];rw[List.pairwise_append]at hne;rcases List.mem_append.1 h with h|h
 ·rw[if_neg (fun e=>hne.2.2 m h x (by simp) e.symm)];exact ih hne.1 h
 have e:m=x:=by simpa using h
 subst e;rw[if_pos rfl]
theorem runD_at {ns:List TN} {fl:Nat}:∀ {j m:Nat},runD ns fl j=some m→j≤ns.length→∀i,i<j→∀n,ns[i]? =some n→∃k,runD ns fl i=some k∧nodeD ns fl i k n=true∧nextK k n≤m:=by
 intro j
 induction j with
 |zero=>intro m _ _ i hi;omega
 |succ j ih=>
  intro m h hjl i hi n hn;cases hr:runD ns fl j with
  |none=>rw[runD_none hr 1]at h;cases h
  |some k=>
   have hj:ns[j]? =some ns[j]:=gE (by omega);rw[runD_succ hr hj]at h;split at h
   ·rename_i ho;cases h;by_cases hij:i=j
    ·subst hij;rw[hj]at hn;cases hn;exact⟨k,hr,ho,Nat.le_refl _⟩
    obtain⟨k2,h1,h2,h3⟩:=ih hr (by omega) i (by omega) n hn;exact⟨k2,h1,h2,by have:=nextK_le k ns[j];omega⟩
   cases h
theorem sorted_of {ns:List TN} (h:∀(i:Nat) (n:TN),0<i→ns[i]? =some n→Op.bytesLess (lastQ ns i) n.path=true):ns.Pairwise fun a b=>Op.bytesLess a.path b.path=true:=by
 rw[List.pairwise_iff_getElem];intro i j hi hj hij;obtain⟨d,rfl⟩:∃d,j=i+1+d:=⟨j-i-1,by omega⟩;clear hij
 induction d with
 |zero=>have h1:=h (i+1) _ (by omega) (gE hj);rw[lastQ_succ (gE hi)]at h1;exact h1
 |succ d ih=>have h1:=ih (by omega);have h2:=h (i+1+d+1) _ (by omega) (gE hj);rw[lastQ_succ (gE (by omega:i+1+d<ns.length))]at h2;exact bl_trans h1 h2
theorem find_uniq {ns:List TN} (hne:ns.Pairwise fun a b=>a.path≠b.path) {m:TN} (hm:m∈ns):findN ns m.path=some m:=by
 induction ns with
 |nil=>cases hm
 |cons a ns ih=>
  obtain⟨h1,h2⟩:=List.pairwise_cons.1 hne;unfold findN at ih ⊢;rw[List.find?_cons];rcases List.mem_cons.1 hm with rfl|hm
  ·simp
  (have:(a.path==m.path)=false:=by simpa using h1 m hm);rw[this];exact ih h2 hm
theorem runD_runK {ns:List TN} {fl:Nat} (h:runD ns fl ns.length=some fl):runK ns ns.length=some fl:=by
 have hat:=fun i n hn=>runD_at h (Nat.le_refl _) i (gF.1 hn).1 n hn
 have hsort:=sorted_of fun i n hi hn=>by
  obtain⟨k,_,h2,_⟩:=hat i n hn;rcases(nodeD_of.1 h2).1.1.2 with h3|h3
  ·omega
  exact h3
 have hne:ns.Pairwise fun a b=>a.path≠b.path:=hsort.imp fun {a b} hl e=>by rw[e,bl_irrefl]at hl;cases hl
 have hval:∀n∈ns,validL n.path=true:=fun n hn=>by obtain⟨i,hi⟩:=List.mem_iff_getElem?.1 hn;obtain⟨k,_,h2,_⟩:=hat i n hi;exact(nodeD_of.1 h2).1.1.1
 have key:∀i,i≤ns.length→runK ns i=runD ns fl i:=by
  intro i
  induction i with
  |zero=>intro _;rfl
  |succ i ih=>
   intro hi;have hn:ns[i]? =some ns[i]:=gE (by omega);obtain⟨k,h1,h2,_⟩:=hat i _ hn;have h3:=ih (by omega);rw[h1]at h3;rw[runK_succ h3 hn,runD_succ h1 hn,h2,if_pos rfl,if_pos];obtain⟨⟨⟨hv,hord⟩,hup⟩,hnum⟩:=nodeD_of.1 h2;(have htk:(ns.take i).Pairwise fun a b=>a.path≠b.path:=hne.sublist (List.take_sublist _ _));have hk1:kindP (ns.take i) (parentL ns[i].path)=1:=by
    unfold upOk at hup;rw[Bool.or_eq_true,decide_eq_true_eq]at hup;rcases hup with h0|h0
    ·rw[h0,kindP_none fun m hm=>valid_ne (hval m (List.mem_of_mem_take hm))];rfl
    cases hf:findN ns (parentL ns[i].path)with
    |none=>rw[hf]at h0;cases h0
    |some m=>
     rw[hf]at h0;(have hmf:m.file= -1:=by simpa using h0);obtain⟨hmm,hmp⟩:=find_mem hf;obtain⟨j,hj⟩:=List.mem_iff_getElem?.1 hmm;obtain⟨hjl,hje⟩:=gF.1 hj;have hless:=parent_less hv;have hji:j<i:=by
      rcases Nat.lt_trichotomy j i with h9|h9|h9
      ·exact h9
      ·subst h9;rw[hje]at hless hmp;rw[←hmp,bl_irrefl]at hless;cases hless
      have h8:=List.pairwise_iff_getElem.1 hsort i j (by omega) hjl h9;rw[hje,hmp]at h8;have:=bl_trans h8 hless;rw[bl_irrefl]at this;cases this
     (have hmt:m∈ns.take i:=by rw[List.mem_iff_getElem?];exact⟨j,by rw[List.getElem?_take,if_pos hji];exact hj⟩);rw[←hmp,kindP_mem htk hmt,if_pos hmf]
   unfold nodeOk;simp only[Bool.and_eq_true,Bool.not_eq_true',decide_eq_true_eq];refine⟨⟨⟨⟨⟨hv,?_⟩,hk1⟩,?_⟩,?_⟩,?_⟩
   ·rcases hord with h0|h0
    ·subst h0;unfold leB;(have:Op.bytesLess ns[0].path (lastQ ns 0)=false:=by(show Op.bytesLess ns[0].path []=false);cases ns[0].path<;>simp[Op.bytesLess]);rw[this,Bool.false_or,beq_eq_false_iff_ne];exact valid_ne hv
    exact leB_of h0
   ·rcases hnum with⟨h0,_⟩|⟨_,_,h0,_⟩<;>omega
   ·rcases hnum with⟨h0,_⟩|⟨_,_,_,h0,_⟩<;>omega
   rcases hnum with⟨h0,h5⟩|⟨h0,h5,_⟩
   ·rw[if_pos h0];exact h5
   rw[if_neg h0];simpa using h5
 rw[key _ (Nat.le_refl _)];exact h
theorem runK_runD {ns:List TN} {fl:Nat} (hn9:ns.length≤256) (hf9:fl≤256) (h:runK ns ns.length=some fl):runD ns fl ns.length=some fl:=by
 have ho:LooseOk ns (List.replicate fl ⟨0,0⟩):=⟨hn9,by rw[List.length_replicate];exact hf9,fun f hf=>by rw[(List.mem_replicate.1 hf).2];exact Nat.zero_le _,fun f hf=>by rw[(List.mem_replicate.1 hf).2];rfl,by rw[List.length_replicate];exact h⟩;have hne:=ho.ne;have key:∀i,i≤ns.length→runD ns fl i=runK ns i:=by
  intro i
  induction i with
  |zero=>intro _;rfl
  |succ i ih=>
   intro hi;have hn:ns[i]? =some ns[i]:=gE (by omega);obtain⟨k,h1,h2,h4⟩:=run_at h i (by omega) _ hn;have h3:=ih (by omega);rw[h1]at h3;rw[runD_succ h3 hn,runK_succ h1 hn,h2,if_pos rfl,if_pos];obtain⟨a,b,c,d,e,f,g⟩:=nodeOk_parts h2;refine nodeD_of.2 ⟨⟨⟨a,?_⟩,?_⟩,?_⟩
   ·rcases Nat.eq_zero_or_pos i with h0|h0
    ·exact Or.inl h0
    exact Or.inr b
   ·unfold upOk;rw[Bool.or_eq_true,decide_eq_true_eq];by_cases h0:parentL ns[i].path=[]
    ·exact Or.inl h0
    right;(have hex:∃m∈ns.take i,m.path=parentL ns[i].path:=by(refine Decidable.byContradiction fun hno=>?_);(have h5:=kindP_none (pre:=ns.take i) (p:=parentL ns[i].path) fun m hm e=>hno ⟨m,hm,e⟩);rw[c,if_neg h0]at h5;cases h5);obtain⟨m,hm,hmp⟩:=hex;have h5:=kindP_mem (hne.sublist (List.take_sublist i _)) hm;rw[hmp,c]at h5;(have hmf:m.file= -1:=by(refine Decidable.byContradiction fun hno=>?_);rw[if_neg hno]at h5;cases h5);rw[←hmp,find_uniq hne (List.mem_of_mem_take hm)];simpa using hmf
   by_cases h0:ns[i].file= -1
   ·exact Or.inl ⟨h0,f h0⟩
   refine Or.inr ⟨h0,g h0,by omega,e,?_⟩;unfold nextK at h4;split at h4<;>omega
 rw[key _ (Nat.le_refl _)];exact h
theorem form_loose (ns:List TN) (fs:List TF):(if boundP ns fs=true then 31 else if formD ns fs=true then 0 else 30)=looseP ns fs:=by
 unfold looseP;cases hb:boundP ns fs with
 |true=>rw[if_pos rfl,if_pos rfl]
 |false=>
  simp only[Bool.false_eq_true,if_false];unfold boundP at hb;rw[Bool.or_eq_false_iff,Bool.or_eq_false_iff,decide_eq_false_iff_not,decide_eq_false_iff_not]at hb;obtain⟨⟨h1,h2⟩,_⟩:=hb;(have:formD ns fs=true↔runK ns ns.length=some fs.length∧fs.all (fun f=>modeOk f.mode)=true:=by unfold formD;rw[Bool.and_eq_true,decide_eq_true_eq];exact⟨fun⟨a,b⟩=>⟨runD_runK a,b⟩,fun⟨a,b⟩=>⟨runK_runD (by omega) (by omega) a,b⟩⟩);by_cases h:formD ns fs=true
  ·rw[if_pos h,if_pos (this.1 h)]
  rw[if_neg h,if_neg (fun h3=>h (this.2 h3))]
end Go.Proofs.YtimkjnbihlgbiaaGreat
namespace Go.Proofs.YtimkjnbihlgbiaaGreat
set_option linter.unusedVariables false
section
variable {xss:List (List Int)} {rep:Nat→Nat} {T:List Nat}
def goes (xss:List (List Int)) (rep:Nat→Nat) (i:Nat):Bool:=decide (1<(mem xss.length rep i).length)||(xss.getD i []).contains (i:Int)
theorem mem_sorted (n:Nat) (rep:Nat→Nat) (i:Nat):(mem n rep i).Pairwise (· < ·):=List.Pairwise.filter _ List.pairwise_lt_range
theorem mem_head (hr:IsRep xss rep) {i:Nat} (hi:i<xss.length) (e:rep i=i):∃l,mem xss.length rep i=i::l:=by
 have hm:i∈mem xss.length rep i:=mem_iff.2 ⟨hi,e⟩;have hs:=mem_sorted xss.length rep i;have ha:∀a,a∈mem xss.length rep i→i≤a:=fun a h=>by obtain⟨h1,h2⟩:=mem_iff.1 h;have:=(hr a h1).2.2 a h1 (Mut.refl a);omega
 cases hl:mem xss.length rep i with
 |nil=>rw[hl]at hm;simp at hm
 |cons a l=>
  rw[hl]at hm hs ha;rcases List.mem_cons.1 hm with rfl|h
  ·exact⟨l,rfl⟩
  have:=(List.pairwise_cons.1 hs).1 i h;have:=ha a (by simp);omega
theorem contains_adj (hx:refused xss=0) {v u:Nat} (hv:v<xss.length):(xss.getD v []).contains (u:Int)=true↔u∈adjOf xss v:=by
 have e:xss.getD v []=(adjOf xss v).map (fun(u:Nat)=>(u:Int)):=by rw[adj_back hx hv];simp[List.getD,hv]
 rw[e,List.contains_iff_mem,List.mem_map];constructor
 ·rintro⟨a,h,e⟩;(have:a=u:=by omega);subst this;exact h
 intro h;exact⟨u,h,rfl⟩
theorem goes_iff (hx:refused xss=0) (hr:IsRep xss rep) {i:Nat} (hi:i<xss.length) (e:rep i=i):goes xss rep i=true↔RP xss i i:=by
 unfold goes;rw[Bool.or_eq_true,decide_eq_true_eq,contains_adj hx hi];obtain⟨l,hl⟩:=mem_head hr hi e;constructor
 ·rintro(h|h)
  ·rw[hl]at h;obtain⟨b,l',rfl⟩:∃b l',l=b::l':=by
    cases l with
    |nil=>simp at h
    |cons b l'=>exact⟨b,l',rfl⟩
   have hs:=mem_sorted xss.length rep i;rw[hl]at hs;have hib:=(List.pairwise_cons.1 hs).1 b (by simp);(have hb:b∈mem xss.length rep i:=by rw[hl];simp);obtain⟨b1,b2⟩:=mem_iff.1 hb;have hm:=(hr b b1).2.1;rw[b2]at hm;have h1:=hm.1;cases h1 with
   |refl=>omega
   |step h2 h3=>exact⟨_,h2,h3.trans hm.2⟩
  exact⟨i,h,.refl _⟩
 rintro⟨u,h1,h2⟩;by_cases hu:u=i
 ·subst hu;exact .inr h1
 left;have u1:=adj_lt hx hi h1;have hm:Mut xss i u:=⟨Tarjan.Reach.edge h1,h2⟩;have u2:=(hr.iff hi u1).2 hm;have h3:u∈mem xss.length rep i:=mem_iff.2 ⟨u1,by omega⟩;rw[hl]at h3 ⊢;rcases List.mem_cons.1 h3 with h4|h4
 ·exact absurd h4 hu
 cases l with
 |nil=>simp at h4
 |cons b l'=>simp
noncomputable def roundL (xss:List (List Int)):List Nat:=(List.range xss.length).filter fun i=>(partsRep xss i==i)&&rpB xss i i
theorem roundL_iff {i:Nat}:i∈roundL xss↔i<xss.length∧partsRep xss i=i∧RP xss i i:=by simp[roundL,rpB_iff]
theorem roundL_sorted :(roundL xss).Pairwise (· < ·):=List.Pairwise.filter _ List.pairwise_lt_range
theorem round_rows (xss:List (List Int)):roundTo xss xss.length=(roundL xss).map fun i=>(mem xss.length (partsRep xss) i).map fun(v:Nat)=>(v:Int):=rfl
theorem rounds_perm (hx:refused xss=0) (hr:IsRep xss rep) (hT:Told xss rep T):(T.filter (goes xss rep)).Perm (roundL xss):=by
 refine(List.perm_ext_iff_of_nodup (hT.1.nodup.sublist List.filter_sublist) (roundL_sorted.imp fun h=>by omega)).2 fun i=>?_
 rw[List.mem_filter,roundL_iff];constructor
 ·rintro⟨h1,h2⟩;obtain⟨a1,a2⟩:=hT.1.lt i h1;exact⟨a1,((partsRep_isRep xss).uniq hr a1).trans a2,(goes_iff hx hr a1 a2).1 h2⟩
 rintro⟨a1,a2,a3⟩;have e:=(hr.uniq (partsRep_isRep xss) a1).trans a2;exact⟨hT.2 i a1 e,(goes_iff hx hr a1 e).2 a3⟩
theorem rounds_sorted (hx:refused xss=0) (hr:IsRep xss rep) (hT:Told xss rep T) {l:List Nat} (hp:(T.filter (goes xss rep)).Perm l) (hs:l.Pairwise (· ≤ ·)):l=roundL xss:=by refine List.Perm.eq_of_pairwise (le:=(· ≤ ·)) (fun a b _ _ h1 h2=>by omega) hs (roundL_sorted.imp fun h=>by omega) (hp.symm.trans (rounds_perm hx hr hT))
end
open Go.RowKit
theorem round_refused {xss:List (List Int)} {w:World} {nv:Value} (hx:refused xss≠0) (hn:RowsAt w nv xss):
  Calls Tryz.prog 19 #[nv] w fun e w'=>e= .returned (.tuple #[.slice none 0 0,.int .i64 (refused xss)])∧w'=w:=by
 have hco:=Lh (comps_refused hx hn);have b1:(refused xss !=0)=true:=by simpa using hx
 obtain⟨A,c,rfl,_⟩:=hn.shape;clear hn hx;go_enter Tryz.func19,Tryz.ntmps19;go_wp2_with(go_at_call 41;refine hco.out.mono ?_;rintro e w2 ⟨rfl,rfl⟩)
 go_ret2
 exact⟨rfl,rfl⟩
theorem enc_of {T:List Nat} (hn:T.Nodup):∀ {vs:List Value},vs.length=T.length→∃enc:Nat→Value,T.map enc=vs:=by
 induction T with
 |nil=>intro vs h;exact⟨fun _=>undef,by simp at h;simp[h]⟩
 |cons a T ih=>
  intro vs h;cases vs with
  |nil=>simp at h
  |cons v vs=>rw[List.nodup_cons]at hn;obtain⟨enc,he⟩:=ih hn.2 (by simpa using h);refine⟨fun x=>if x=a then v else enc x,?_⟩;rw[List.map_cons,if_pos rfl];congr 1;rw[←he];apply List.map_congr_left;intro x hx;rw[if_neg];intro e;subst e;exact hn.1 hx
theorem filter_take {α:Type} {T:List α} {p:α→Bool} {k:Nat} {x:α} (h:T[k]? =some x):(T.take (k+1)).filter p=(T.take k).filter p++if p x then [x]else []:=by rw[List.take_add_one,h,List.filter_append];congr 1;cases hp:p x<;>simp[hp]
set_option maxHeartbeats 1000000 in
theorem round_told {xss:List (List Int)} {w:World} {nv:Value} (hx:refused xss=0) (hn:RowsAt w nv xss):
  Calls Tryz.prog 19 #[nv] w fun e w'=>∃v,e= .returned (.tuple #[v,.int .i64 0])∧Sep w w' [rowsR v (roundTo xss xss.length)]:=by
 have hco:=Lh (comps_told hx hn);obtain⟨hl,hrowl,_⟩:=refused_zero hx;obtain⟨i1,hi1,hz10,hz11,hz12⟩:=info_parts info_ints;obtain⟨A,c,rfl,_⟩:=hn.shape;have hn':=Lh hn;have hx':=Lh hx;clear hn hx hrowl;go_enter Tryz.func19,Tryz.ntmps19;go_wp2_with(go_at_call 41;refine hco.out.mono ?_;rintro e w1 ⟨lv,rep,T,rfl,hr,hT,hS⟩;obtain⟨AL,cL,eL,hcL⟩:=(hS.rows 0 rfl).shape;rw[List.length_map]at eL hcL;subst eL;(have hr':=Lh hr);(have hT':=Lh hT);(have hS':=Lh hS);clear hr hT hS);have hTn:T.length≤1024:=by(have h2:T.length≤(List.range xss.length).length:=List.Nodup.length_le_of_subset hT'.out.1.nodup fun x hx=>List.mem_range.2 (hT'.out.1.lt x hx).1);rw[List.length_range]at h2;omega
 obtain⟨row,hrow⟩:∃row:Nat→List Int,row=fun i=>(mem xss.length rep i).map fun(v:Nat)=>(v:Int):=⟨_,rfl⟩
 have hrow':=Lh hrow;obtain⟨vs,hvl,hS1⟩:=Sep.list_open hS'.out;obtain⟨enc,henc⟩:=enc_of hT'.out.1.nodup (vs:=vs) (by simpa using hvl);have hS2:Sep w w1 (.sl 36 1 (.slice none 0 0) 0 []:: .sl 36 1 (.slice AL T.length cL) T.length (T.map enc)::partsOf enc row T):=by have h:=hS1.sl_nil 36 1;rw[←henc]at h;rw[hrow];(have e:List.zipWith intsR (T.map enc) (T.map fun i=>(mem xss.length rep i).map fun(v:Nat)=>(v:Int))=partsOf enc (fun i=>(mem xss.length rep i).map fun(v:Nat)=>(v:Int)) T:=by unfold partsOf;rw[List.zipWith_map,List.zipWith_self]);rw[e,List.append_nil,List.length_map]at h;exact h
 clear hvl hS1 henc hrow;obtain⟨go,hgo⟩:∃go:Nat→Bool,go=goes xss rep:=⟨_,rfl⟩;have hgo':=Lh hgo;clear hgo;have bT:(T.length:Int)≤1024:=by omega
 have hS2':=Lh hS2;clear hS2 hcL hS' hco;go_loopg[6,19] T.length (fun g ov kk wr=>∃k:Nat,k≤T.length∧Hid (g=T.length-k)∧kk= .int .i64 k∧
  Sep w wr (.sl 36 1 ov ((T.take k).filter go).length (((T.take k).filter go).map enc):: .sl 36 1 (.slice AL T.length cL) T.length (T.map enc)::partsOf enc row T))
 case atStart=>exact⟨0,Nat.zero_le _,rfl,rfl,by simpa using hS2'.out⟩
 obtain⟨k,hk,hm,rfl,hS⟩:=hrel;by_cases hlt:k<T.length
 case neg=>
  (obtain rfl:k=T.length:=by omega);rw[List.take_length]at hS;(have hperm:T.Perm (T.filter go++T.filter fun x=> !go x):=by have:=List.filter_append_perm go T;exact this.symm);(have hS3:Sep w wr (.sl 36 1 u6 (T.filter go).length ((T.filter go).map enc)::(partsOf enc row (T.filter go)++(.sl 36 1 (.slice AL T.length cL) T.length (T.map enc)::partsOf enc row (T.filter fun x=> !go x)))):=by refine hS.perm (.cons _ ?_);(have e:partsOf enc row (T.filter go++T.filter fun x=> !go x)=partsOf enc row (T.filter go)++partsOf enc row (T.filter fun x=> !go x):=by simp[partsOf]);(have h1:(partsOf enc row T).Perm (partsOf enc row (T.filter go)++partsOf enc row (T.filter fun x=> !go x)):=by rw[←e];exact hperm.map _);exact(List.Perm.cons _ h1).trans List.perm_middle.symm);have hlen:(T.filter go).length≤1024:=Nat.le_trans (List.length_filter_le _ _) hTn;have hso:=Lh (sort_any hS3 (fun i hi=>by
   obtain⟨h1,h2⟩:=hT'.out.1.lt i (List.mem_filter.1 hi).1;obtain⟨l,hl⟩:=mem_head hr'.out h1 h2;exact⟨l.map fun(v:Nat)=>(v:Int),by rw[hrow'.out];simp[hl]⟩) (fun i hi=>by
   obtain⟨h1,h2⟩:=hT'.out.1.lt i (List.mem_filter.1 hi).1;omega) hlen)
  clear hS hS3 hperm;go_wp2_with(go_at_call 43;refine hso.out.mono ?_;rintro e w2 ⟨rfl,L',hp,hs,hS4⟩;(have hp':=Lh hp);(have hs':=Lh hs);(have hS4':=Lh hS4);clear hp hs hS4)
  go_ret2
  refine⟨u6,rfl,?_⟩;have hp:=hp'.out;rw[hgo'.out]at hp;have e:=rounds_sorted hx'.out hr'.out hT'.out hp hs'.out;have h:=Sep.fst (X:=[rowsR u6 (L'.map row)]) hS4'.out;rw[e,hrow'.out]at h;rw[round_rows];(have e2:((roundL xss).map fun i=>(mem xss.length rep i).map fun(v:Nat)=>(v:Int))=(roundL xss).map fun i=>(mem xss.length (partsRep xss) i).map fun(v:Nat)=>(v:Int):=by apply List.map_congr_left;intro i _;rw[mem_congr hr'.out (partsRep_isRep xss) i]);rw[←e2];exact h
 obtain⟨i,hki⟩:∃i,T[k]? =some i:=⟨T[k],gE hlt⟩;obtain⟨h1,h2⟩:=hT'.out.1.lt i (gG hki);obtain⟨l0,hl0⟩:=mem_head hr'.out h1 h2;have hri:row i=(i:Int)::l0.map fun(v:Nat)=>(v:Int):=by rw[hrow'.out];simp[hl0]
 obtain⟨ln,hln⟩:∃ln:Nat,ln=(row i).length:=⟨_,rfl⟩;have hln1:ln=l0.length+1:=by rw[hln,hri];simp
 have hpk:(.sl 36 1 u6 ((T.take k).filter go).length (((T.take k).filter go).map enc):: .sl 36 1 (.slice AL T.length cL) T.length (T.map enc)::partsOf enc row T)[k+2]? =some (intsR (enc i) (row i)):=by simp[partsOf,hki]
 obtain⟨gi,ci,hei,_⟩:=hS.sl_form (k+2) hpk (by omega);rw[←hln]at hei;have a0:wr.cell? ⟨gi,0,none⟩=some (.int .i64 i):=by unfold intsR at hpk;rw[hei,←hln]at hpk;rw[hS.cellAt (k+2) hpk 0 (by omega),hri];rfl
 obtain⟨gL,cL',eL,_⟩:=hS.sl_form 1 rfl (by omega);obtain⟨rfl,rfl⟩:AL=some ⟨gL,0,none⟩∧cL=cL':=by simpa using eL
 have a1:wr.cell? ⟨gL,k,none⟩=some (.slice (some ⟨gi,0,none⟩) ln ci):=by rw[hS.cellAt 1 rfl k (by omega),←hei];simp[hki]
 obtain⟨ad,c',un,e,hun,hcn⟩:=hn'.out.all h1;cases e;have a2:=fun m=>hcn (wr.drewN m) (hS.drewN m).below
 obtain⟨Au,cu,rfl,hum⟩:=hun.shape;have hcall:=fun m=>(contains_any (hun.below (hS.drewN m).below) (i:Int)).mono fun _ _ ⟨he,hw⟩=>(⟨he,hw.symm⟩:_∧_)
 have hgoi:go i=(decide (1<ln)||(xss[i]).contains (i:Int)):=by rw[hgo'.out];unfold goes;rw[hl0,hln1];simp[List.getD,h1]
 have b1:(0:Int)≤(i:Int):=by omega
 have b2:(i:Int)<(xss.length:Int):=by omega
 have b3:(0:Int)≤(k:Int):=by omega
 have b4:(k:Int)<(T.length:Int):=by omega
 have b5:(0:Int)<(ln:Int):=by omega
 have hfl:((T.take k).filter go).length≤1024:=by have h1:=List.length_filter_le go (T.take k);have h2:=List.length_take_le k T;omega
 have hS':=Lh hS;have hcall':=Lh hcall;replace hki:=Lh hki;replace hei:=Lh hei;clear hS hcall hpk hri hl0 eL hln hln1 hcn hun;generalize xss[i].contains (i:Int)=cb at hgoi hcall';generalize xss[i].length=nu at hcall' a2 hum;by_cases hl1:1<ln
 ·have hgt:=Lh (show go i=true by rw[hgoi];simp[hl1]);(have b6:(1:Int)<(ln:Int):=by omega);clear hgoi hcall';go_wp2_with fail;go_quiet (fail);have hS3:=Lh ((hS'.out.drewN nq).alloc (.cells #[.slice (some ⟨gi,0,none⟩) ln ci] 36));clear hS';go_wp2_with(at_builtin;refine wpList_append_sep 0 rfl _ _ 27 rfl 36 i1 (.slice none 0 0) 1 24 Tryz.underlying27 hi1 hz10 hz11 hz12 rfl (by decide) hS3.out _ _ _ rfl rfl ⟨wr.heap.size,0,none⟩ 1 1 [.slice (some ⟨gi,0,none⟩) ln ci] rfl rfl (cell_one_new _ _ _) (by simp[Value.oneCell']) (by decide) (by unfold maxLen;omega) (by omega) ?_);intro g cap w2 hS4 hsz;(have hS5:Sep w w2 (.sl 36 1 (.slice (some ⟨g,0,none⟩) (((T.take k).filter go).length+1) cap) ((T.take (k+1)).filter go).length (((T.take (k+1)).filter go).map enc):: .sl 36 1 (.slice (some ⟨gL,0,none⟩) T.length cL) T.length (T.map enc)::partsOf enc row T):=by rw[filter_take hki.out,if_pos hgt.out,List.map_append,List.length_append,List.map_cons,List.map_nil,hei.out];exact hS4);have hS5':=Lh hS5;clear hS3 hS4 hS5 hsz;go_wp2_with fail;go_roundg (T.length-(k+1))
  case measure=>rw[hm.out];omega
  case rel=>exact⟨k+1,by omega,rfl,by go_num,hS5'.out⟩
 obtain rfl:ln=1:=by omega
 cases cb
 ·have hgt:=Lh (show go i=false by rw[hgoi];rfl);clear hgoi;go_wp2_with fail;go_quiet ((go_at_call 42;exact Calls.quiet_of_same (hcall'.out _)));have hS3:=hS'.out.drewN nq;(have e:(T.take (k+1)).filter go=(T.take k).filter go:=by rw[filter_take hki.out,hgt.out];simp);rw[←e]at hS3;have hS3':=Lh hS3;clear hS' hS3 e hcall';go_wp2_with fail;go_roundg (T.length-(k+1))
  case measure=>rw[hm.out];omega
  case rel=>exact⟨k+1,by omega,rfl,by go_num,hS3'.out⟩
 have hgt:=Lh (show go i=true by rw[hgoi];rfl);clear hgoi;go_wp2_with fail;go_quiet ((go_at_call 42;exact Calls.quiet_of_same (hcall'.out _)));have hS3:=Lh ((hS'.out.drewN nq).alloc (.cells #[.slice (some ⟨gi,0,none⟩) 1 ci] 36));clear hS' hcall';go_wp2_with(at_builtin;refine wpList_append_sep 0 rfl _ _ 27 rfl 36 i1 (.slice none 0 0) 1 24 Tryz.underlying27 hi1 hz10 hz11 hz12 rfl (by decide) hS3.out _ _ _ rfl rfl ⟨wr.heap.size,0,none⟩ 1 1 [.slice (some ⟨gi,0,none⟩) 1 ci] rfl rfl (cell_one_new _ _ _) (by simp[Value.oneCell']) (by decide) (by unfold maxLen;omega) (by omega) ?_);intro g cap w2 hS4 hsz;have hS5:Sep w w2 (.sl 36 1 (.slice (some ⟨g,0,none⟩) (((T.take k).filter go).length+1) cap) ((T.take (k+1)).filter go).length (((T.take (k+1)).filter go).map enc):: .sl 36 1 (.slice (some ⟨gL,0,none⟩) T.length cL) T.length (T.map enc)::partsOf enc row T):=by rw[filter_take hki.out,if_pos hgt.out,List.map_append,List.length_append,List.map_cons,List.map_nil,hei.out];exact hS4
 have hS5':=Lh hS5;clear hS3 hS4 hS5 hsz;go_wp2_with fail;go_roundg (T.length-(k+1))
 case measure=>rw[hm.out];omega
 case rel=>exact⟨k+1,by omega,rfl,by go_num,hS5'.out⟩
end Go.Proofs.YtimkjnbihlgbiaaGreat
namespace Go.Proofs.YtimkjnbihlgbiaaGreat
set_option linter.unusedVariables false
end Go.Proofs.YtimkjnbihlgbiaaGreat
