/- Greedy, Frame, laid together. -/
import Derived.Test.YtimkjnbihlgbiaaGreatJ3
namespace Go.Proofs.YtimkjnbihlgbiaaGreat
def adjOf (xss:List (List Int)) (v:Nat):List Nat:=(xss.getD v []).map Int.toNat
theorem adjOf_at {xss:List (List Int)} {d:Nat} (hd:d<xss.length):adjOf xss d=(xss[d]).map Int.toNat:=by simp[adjOf,List.getD,hd]
structure Good (xss:List (List Int)) (of:Nat→Int) (count:Nat):Prop where
 lo:∀v,v<xss.length→0≤of v
 hi:∀v,of v<count
 needs:∀v,v<xss.length→∀u,u∈adjOf xss v→of u≤of v
 scc:∀u v,u<xss.length→v<xss.length→of u=of v→Tarjan.Reach (adjOf xss) u v
 full:∀c:Nat,c<count→∃v,v<xss.length∧of v=c
 le:count≤xss.length
theorem adj_lt {xss:List (List Int)} (h:refused xss=0) {v u:Nat} (hv:v<xss.length) (hu:u∈adjOf xss v):u<xss.length:=by obtain⟨_,_,hg⟩:=refused_zero h;rw[adjOf_at hv]at hu;obtain⟨x,hx,rfl⟩:=List.mem_map.1 hu;obtain⟨i,hi,rfl⟩:=List.mem_iff_getElem.1 hx;have:=hg v hv i hi;omega
def Mut (xss:List (List Int)) (u v:Nat):Prop:=Tarjan.Reach (adjOf xss) u v∧Tarjan.Reach (adjOf xss) v u
def IsRep (xss:List (List Int)) (rep:Nat→Nat):Prop:=∀v,v<xss.length→rep v<xss.length∧Mut xss (rep v) v∧∀u,u<xss.length→Mut xss u v→rep v≤u
def mem (n:Nat) (rep:Nat→Nat) (i:Nat):List Nat:=(List.range n).filter fun v=>rep v==i
def ReadyR (xss:List (List Int)) (rep:Nat→Nat) (T:List Nat) (i:Nat):Prop:=∀v,v<xss.length→rep v=i→∀u,u∈adjOf xss v→rep u=i∨rep u∈T
inductive Pre (xss:List (List Int)) (rep:Nat→Nat):List Nat→Prop
 |nil:Pre xss rep []
 |snoc {T:List Nat} {i:Nat}:Pre xss rep T→i<xss.length→rep i=i→i∉T→ReadyR xss rep T i→(∀j,j<i→rep j=j→j∉T→¬ReadyR xss rep T j)→Pre xss rep (T++[i])
def Told (xss:List (List Int)) (rep:Nat→Nat) (T:List Nat):Prop:=Pre xss rep T∧∀i,i<xss.length→rep i=i→i∈T
section
variable {xss:List (List Int)} {rep rep':Nat→Nat} {T T':List Nat}
theorem Mut.refl (v:Nat):Mut xss v v:=⟨.refl _,.refl _⟩
theorem Mut.symm {u v:Nat} (h:Mut xss u v):Mut xss v u:=⟨h.2,h.1⟩
theorem Mut.trans {u v x:Nat} (h:Mut xss u v) (k:Mut xss v x):Mut xss u x:=⟨h.1.trans k.1,k.2.trans h.2⟩
theorem IsRep.uniq (h:IsRep xss rep) (h':IsRep xss rep') {v:Nat} (hv:v<xss.length):rep v=rep' v:=by obtain⟨a1,a2,a3⟩:=h v hv;obtain⟨b1,b2,b3⟩:=h' v hv;have:=a3 _ b1 b2;have:=b3 _ a1 a2;omega
theorem IsRep.iff (h:IsRep xss rep) {u v:Nat} (hu:u<xss.length) (hv:v<xss.length):rep u=rep v↔Mut xss u v:=by
 obtain⟨a1,a2,a3⟩:=h u hu;obtain⟨b1,b2,b3⟩:=h v hv;constructor
 ·intro e;rw[e]at a2;exact a2.symm.trans b2
 intro m;have:=a3 _ b1 (b2.trans m.symm);have:=b3 _ a1 (a2.trans m);omega
theorem IsRep.idem (h:IsRep xss rep) {v:Nat} (hv:v<xss.length):rep (rep v)=rep v:=by obtain⟨a1,a2,a3⟩:=h v hv;exact(h.iff a1 hv).2 a2
theorem Pre.lt (h:Pre xss rep T):∀i,i∈T→i<xss.length∧rep i=i:=by
 induction h with
 |nil=>intro i hi;simp at hi
 |snoc _ h1 h2 _ _ _ ih=>
  intro i hi;rw[List.mem_append,List.mem_singleton]at hi;rcases hi with hi|rfl
  ·exact ih i hi
  exact⟨h1,h2⟩
theorem Pre.nodup (h:Pre xss rep T):T.Nodup:=by
 induction h with
 |nil=>simp
 |snoc _ _ _ h3 _ _ ih=>rw[List.nodup_append];exact⟨ih,by simp,fun a ha b hb=>by simp at hb;subst hb;exact fun e=>h3 (e▸ha)⟩
theorem mem_congr (hr:IsRep xss rep) (hr':IsRep xss rep') (i:Nat):mem xss.length rep i=mem xss.length rep' i:=by unfold mem;apply List.filter_congr;intro v hv;rw[hr.uniq hr' (List.mem_range.1 hv)]
theorem mem_iff {n:Nat} {i v:Nat}:v∈mem n rep i↔v<n∧rep v=i:=by simp[mem]
end
open Go Go.RowKit
def Fm (n:Nat) (a:Act) (ks:List Value):Prop:=a.defers=[]∧a.tmps.size=n∧a.tmps.toList.take ks.length=ks
def lits (f:Nat→Value):Nat→Nat→List Value
 |_,0=>[]
 |k,m+1=>f k::lits f (k+1) m
theorem lits_of (us:List Value):∀(k:Nat) (pre:List Value),pre.length=k→us=lits (fun i=>(pre++us).getD i undef) k us.length:=by
 induction us with
 |nil=>intro k pre _;rfl
 |cons u us ih=>intro k pre hk;simp only[List.length_cons,lits];(have h1:(pre++u::us).getD k undef=u:=by subst hk;simp[List.getD]);rw[h1];have h2:=ih (k+1) (pre++[u]) (by simp[hk]);simp only[List.append_assoc,List.cons_append,List.nil_append]at h2;rw[←h2]
theorem Fm.lit {n m:Nat} {a:Act} {ks:List Value} (h:Fm n a ks) (hm:n=ks.length+m):∃f:Nat→Value,a=⟨(ks++lits f 0 m).toArray,[]⟩:=by
 obtain⟨h1,h2,h3⟩:=h;obtain⟨⟨l⟩,d⟩:=a;simp only at h1 h2 h3;subst h1;have hl:(l.drop ks.length).length=m:=by simp at h2 ⊢;omega
 refine⟨fun i=>(l.drop ks.length).getD i undef,?_⟩;have h4:=lits_of (l.drop ks.length) 0 [] rfl;rw[hl]at h4;simp only[List.nil_append]at h4;rw[←h4]
 conv=>lhs;rw[←List.take_append_drop ks.length l]
 rw[show List.take ks.length l=ks from h3]
def Holds (a:Act):List (Nat×Value)→Prop
 |[]=>True
 |p::l=>a.tmps.getD p.1 undef=p.2∧Holds a l
def Fs (n:Nat) (a:Act) (l:List (Nat×Value)):Prop:=a.defers=[]∧a.tmps.size=n∧Holds a l
def HoldsF (f:Nat→Value):List (Nat×Value)→Prop
 |[]=>True
 |p::l=>f p.1=p.2∧HoldsF f l
theorem holdsF_of {f:Nat→Value}:∀ {l:List (Nat×Value)},(∀p,p∈l→f p.1=p.2)→HoldsF f l
 |[],_=>trivial
 |p::l,h=>⟨h p (by simp),holdsF_of fun q hq=>h q (by simp[hq])⟩
theorem Fs.lit {n:Nat} {a:Act} {l:List (Nat×Value)} (h:Fs n a l):∃f:Nat→Value,a=⟨(lits f 0 n).toArray,[]⟩∧HoldsF f l:=by
 obtain⟨h1,h2,h3⟩:=h;obtain⟨⟨t⟩,d⟩:=a;simp only at h1 h2 h3;subst h1;refine⟨fun i=>t.getD i undef,?_,holdsF_of ?_⟩
 ·have h4:=lits_of t 0 [] rfl;(have h5:t.length=n:=by simpa using h2);rw[h5]at h4;simp only[List.nil_append]at h4;rw[←h4]
 intro p hp;have:∀l:List (Nat×Value),Holds ⟨⟨t⟩,[]⟩ l→p∈l→t.getD p.1 undef=p.2:=by
  intro l
  induction l with
  |nil=>intro _ h;cases h
  |cons q l ih=>
   intro hh hm;rcases List.mem_cons.1 hm with rfl|hm
   ·have:=hh.1;rw[←this];by_cases hlt:p.1<t.length<;>simp[Array.getD,List.getD,hlt]
   exact ih hh.2 hm
 exact this l h3 hp
def blockAt (k:Nat):Code→Option Code
 | .block i c=>if i=k then some (.block i c)else blockAt k c
 | .seq a b=>match blockAt k a with
  |some c=>some c
  |none=>blockAt k b
 | .cond _ a b=>match blockAt k a with
  |some c=>some c
  |none=>blockAt k b
 | .loop c=>blockAt k c
 | .scope c=>blockAt k c
 |_=>none
def Jumps (J:Nat→Act→World→Prop) (Q:Exit→Act→World→Prop):Exit→Act→World→Prop
 | .goto l,a,w=>J l a w
 |e,a,w=>Q e a w
theorem wp_scope_labels {P:Program} {a:Act} {w:World} {Q:Exit→Act→World→Prop} {c:Code} (rest:Nat→Code) (J:Nat→Nat→Act→World→Prop)
  (hf:∀m l a w,J m l a w→findLabel c l=some (rest l))
  (first:c.wp P (Jumps (fun l a w=>∃m,J m l a w) Q) a w)
  (pass:∀m l a w,J m l a w→(rest l).wp P (Jumps (fun l' a' w'=>∃m',m'<m∧J m' l' a' w') Q) a w):(Code.scope c).wp P Q a w:=by
 intro b k cs;have hg:∀l r,findLabel c l=some r→gotoIn l (.inScope c::k)=some (.code r:: .inScope c::k):=fun l r h=>by simp[gotoIn,h]
 have key:∀m l a w,J m l a w→∃e a' w',Q e a' w'∧Arrives P (lone (b.at a (.code (rest l):: .inScope c::k)) cs w) b k cs e a' w':=by
  intro m
  induction m using Nat.strongRecOn with
  |_ m ih=>
   intro l a w hJ;obtain⟨e,a₁,w₁,hq,harr⟩:=pass m l a w hJ b (.inScope c::k) cs;cases e with
   |normal=>exact⟨.normal,a₁,w₁,hq,Steps.trans harr (.one step_inScope)⟩
   |exit id=>exact⟨.exit id,a₁,w₁,hq,fun k' hk=>harr k' (by simp[exitTo,hk])⟩
   |goto l'=>obtain⟨m',hlt,hJ'⟩:=hq;obtain⟨e₂,a₂,w₂,hq₂,harr₂⟩:=ih m' hlt l' a₁ w₁ hJ';exact⟨e₂,a₂,w₂,hq₂,.of_steps (harr _ (hg l' _ (hf m' l' a₁ w₁ hJ'))) harr₂⟩
   |ret=>exact⟨_,a₁,w₁,hq,harr⟩
   |panic ch=>exact⟨_,a₁,w₁,hq,harr⟩
   |outgrown=>exact⟨_,a₁,w₁,hq,harr⟩
 obtain⟨e,a₁,w₁,hq,harr⟩:=first b (.inScope c::k) cs
 cases e with
 |normal=>exact⟨.normal,a₁,w₁,hq,.head step_scope (Steps.trans harr (.one step_inScope))⟩
 |exit id=>exact⟨.exit id,a₁,w₁,hq,fun k' hk=>.head step_scope (harr k' (by simp[exitTo,hk]))⟩
 |goto l'=>obtain⟨m',hJ'⟩:=hq;obtain⟨e₂,a₂,w₂,hq₂,harr₂⟩:=key m' l' a₁ w₁ hJ';exact⟨e₂,a₂,w₂,hq₂,.of_steps (.head step_scope (harr _ (hg l' _ (hf m' l' a₁ w₁ hJ')))) harr₂⟩
 |ret=>exact⟨_,a₁,w₁,hq,.of_steps (.one step_scope) harr⟩
 |panic ch=>exact⟨_,a₁,w₁,hq,.of_steps (.one step_scope) harr⟩
 |outgrown=>exact⟨_,a₁,w₁,hq,.of_steps (.one step_scope) harr⟩
end Go.Proofs.YtimkjnbihlgbiaaGreat
