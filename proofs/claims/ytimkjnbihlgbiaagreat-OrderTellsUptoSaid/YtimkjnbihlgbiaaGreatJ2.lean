/- Parts, GMap, Tail, laid together. -/
import Derived.Test.YtimkjnbihlgbiaaGreatJ1
import Derived.Test.YtimkjnbihlgbiaaGreatProg
import Derived.Maps.Own
import Derived.Maps.OwnSet
import Derived.Maps.Range
import Derived.Maps.RangeWalk
import Derived.StillTail
import Derived.Deep.Quiet
namespace Go.Proofs.YtimkjnbihlgbiaaGreat
open Go.RowKit
def intsR (v:Value) (xs:List Int):Asn:=.sl 3 1 v xs.length (xs.map (.int .i64))
def boolsR (v:Value) (xs:List Bool):Asn:=.sl 4 1 v xs.length (xs.map .bool)
def Asn.list {α:Type} (e:TypeId) (One:Value→α→Asn) (v:Value) (xs:List α):Asn:=
 .ex fun vs:List Value=>.star (.pure (vs.length=xs.length)) (.star (.sl e 1 v xs.length vs) (.starL (List.zipWith One vs xs)))
def rowsR (v:Value) (xss:List (List Int)):Asn:=.list 36 intsR v xss
section
variable {w0 w w':World} {As R:List Asn} {α:Type} {e:TypeId} {One:Value→α→Asn} {v:Value} {xs:List α}
theorem sl_rd {w:World} {F:List Nat} {e:TypeId} {sz n:Nat} {v:Value} {cs:List Value} (h:(Asn.sl e sz v n cs).on w F):Rd w sz v n cs:=by
 obtain⟨ho,_⟩:=h;refine⟨ho.1,?_⟩;rcases ho.2 with⟨rfl,rfl⟩|⟨g,cap,cur,rfl,_,hg,hc,hm,_⟩
 ·exact⟨none,0,rfl,Nat.le_refl _,by simp[maxLen],fun h=>absurd h (Nat.lt_irrefl _)⟩
 exact⟨_,cap,rfl,hc,hm,fun _=>⟨_,rfl,lt_of_heap hg,ho.cells (g:=g) rfl⟩⟩
theorem intsR_at {w:World} {F:List Nat} {v:Value} {xs:List Int} (h:(intsR v xs).on w F):IntsAt w v xs:=sl_rd h
theorem boolsR_at {w:World} {F:List Nat} {v:Value} {xs:List Bool} (h:(boolsR v xs).on w F):BoolsAt w v xs:=sl_rd h
theorem starL_get {w:World}:∀ {As:List Asn} {F:List Nat} {k:Nat} {A:Asn},(Asn.starL As).on w F→As[k]? =some A→∃G,A.on w G
 |[],_,_,_,_,h=>by simp at h
 |B::As,F,0,A,hf,h=>by obtain⟨_,F1,F2,_,h1,_⟩:=hf;simp at h;subst h;exact⟨F1,h1⟩
 |B::As,F,k+1,A,hf,h=>by obtain⟨_,F1,F2,_,_,h2⟩:=hf;exact starL_get h2 (by simpa using h)
theorem list_at {w:World} {F:List Nat} {At:World→Value→α→Prop} (hone:∀u x G,(One u x).on w G→At w u x) (h:(Asn.list e One v xs).on w F):ListAt At w v xs:=by obtain⟨vs,_,_,_,_,⟨hlen,_⟩,_,F1,F2,_,h1,h2⟩:=h;refine⟨vs,sl_rd h1,fun k u x hu hx=>?_⟩;obtain⟨G,hg⟩:=starL_get h2 (k:=k) (A:=One u x) (by rw[List.getElem?_zipWith,hu,hx]);exact hone u x G hg
theorem rowsR_at {w:World} {F:List Nat} {v:Value} {xss:List (List Int)} (h:(rowsR v xss).on w F):RowsAt w v xss:=list_at (fun _ _ _=>intsR_at) h
theorem Sep.ints (i:Nat) {v:Value} {xs:List Int} (h:Sep w0 w As) (hi:As[i]? =some (intsR v xs)):IntsAt w v xs:=by obtain⟨F,ho,_⟩:=h.get i hi;exact intsR_at ho
theorem Sep.bools (i:Nat) {v:Value} {xs:List Bool} (h:Sep w0 w As) (hi:As[i]? =some (boolsR v xs)):BoolsAt w v xs:=by obtain⟨F,ho,_⟩:=h.get i hi;exact boolsR_at ho
theorem Sep.rows (i:Nat) {v:Value} {xss:List (List Int)} (h:Sep w0 w As) (hi:As[i]? =some (rowsR v xss)):RowsAt w v xss:=by obtain⟨F,ho,_⟩:=h.get i hi;exact rowsR_at ho
theorem Sep.list_open (h:Sep w0 w (Asn.list e One v xs::R)):∃vs:List Value,vs.length=xs.length∧Sep w0 w (.sl e 1 v xs.length vs::(List.zipWith One vs xs++R)):=by obtain⟨vs,h⟩:=h.ex_open;obtain⟨hl,h⟩:=h.star_open.pure_open;have h2:=h.star_open;exact⟨vs,hl,(h2.perm (List.Perm.swap _ _ _)).starL_open.perm List.perm_middle⟩
theorem Sep.list_shut {vs:List Value} (hl:vs.length=xs.length) (h:Sep w0 w (.sl e 1 v xs.length vs::(List.zipWith One vs xs++R))):Sep w0 w (Asn.list e One v xs::R):=by have h1:Sep w0 w (List.zipWith One vs xs++(.sl e 1 v xs.length vs::R)):=h.perm List.perm_middle.symm;have h2:=(h1.starL_shut.perm (List.Perm.swap _ _ _)).star_shut;exact Sep.ex_shut vs (Sep.star_shut (h2.pure_shut hl))
theorem Sep.list_nil (h:Sep w0 w R) (e:TypeId) (One:Value→α→Asn):Sep w0 w (Asn.list e One (.slice none 0 0) []::R):=
 Sep.list_shut (vs:=[]) rfl (by simpa using h.sl_nil e 1)
theorem Sep.list_push {vs:List Value} {u:Value} {x:α} (hl:vs.length=xs.length) (h:Sep w0 w (.sl e 1 v (xs.length+1) (vs++[u])::(List.zipWith One vs xs++(One u x::R)))):
  Sep w0 w (Asn.list e One v (xs++[x])::R):=by
 refine Sep.list_shut (vs:=vs++[u]) (by simp[hl]) ?_;rw[List.zipWith_append hl];simpa using h
theorem zip_at {β:Type} {f:Value→α→β} {vs:List Value} {xs:List α} (hl:vs.length=xs.length) {k:Nat} (hk:k<xs.length) (R:List β):
  (List.zipWith f vs xs++R)[k]? =some (f (vs[k]'(by omega)) xs[k]):=by
 rw[List.getElem?_append_left (by simp[hl,hk]),List.getElem?_zipWith];simp[hk,hl]
theorem zip_some {β:Type} {f:Value→α→β} {vs:List Value} {xs:List α} {k:Nat} {v:Value} {x:α} (hv:vs[k]? =some v) (hx:xs[k]? =some x):(List.zipWith f vs xs)[k]? =some (f v x):=by rw[List.getElem?_zipWith,hv,hx]
theorem zip_set {β:Type} {f:Value→α→β}:∀(vs:List Value) (xs:List α) (k:Nat) (u:Value) (x:α),List.zipWith f (vs.set k u) (xs.set k x)=(List.zipWith f vs xs).set k (f u x)
 |[],_,_,_,_=>by simp
 |_::_,[],_,_,_=>by simp
 |_::_,_::_,0,_,_=>by simp
 |a::vs,b::xs,k+1,u,x=>by simp[zip_set vs xs k u x]
theorem intsR_nil (h:Sep w0 w R):Sep w0 w (intsR (.slice none 0 0) []::R):=h.sl_nil _ _
theorem Sep.snoc_sl_nil (h:Sep w0 w As) (e:TypeId) (sz:Nat):Sep w0 w (As++[.sl e sz (.slice none 0 0) 0 []]):=(h.sl_nil e sz).perm (List.perm_append_singleton _ _).symm
theorem Sep.nils (h:Sep w0 w As) (m:Nat):Sep w0 w (As++List.zipWith intsR (List.replicate m (.slice none 0 0)) (List.replicate m [])):=by
 induction m with
 |zero=>simpa using h
 |succ m ih=>have h1:=ih.snoc_sl_nil 3 1;rw[List.append_assoc]at h1;(have e:List.zipWith intsR (List.replicate (m+1) (.slice none 0 0)) (List.replicate (m+1) [])=List.zipWith intsR (List.replicate m (.slice none 0 0)) (List.replicate m [])++[.sl 3 1 (.slice none 0 0) 0 []]:=by rw[List.replicate_succ',List.replicate_succ',List.zipWith_append (by simp)];rfl);rw[e];exact h1
end
set_option linter.unusedVariables false
def heldE (v:Value):Option (DataW Value×List MemPlace):=some (.held v,[])
def getM (L:List (Lit×Value)) (k:Lit):Option Value:=(L.find? fun p=>p.1.sameKey k).map (·.2)
def delM (L:List (Lit×Value)) (k:Lit):List (Lit×Value):=L.filter fun p=> !p.1.sameKey k
def putM (L:List (Lit×Value)) (k:Lit) (v:Value):List (Lit×Value):=delM L k++[(k,v)]
structure KeysM (L:List (Lit×Value)):Prop where
 lit:∀p∈L,WideAt.IsKeyLit p.1
 ne:L.Pairwise fun p q=>p.1≠q.1
theorem KeysM.nil :KeysM []:=⟨by simp,List.Pairwise.nil⟩
theorem KeysM.sub {L M:List (Lit×Value)} (h:KeysM L) (hs:M.Sublist L):KeysM M:=⟨fun p hp=>h.lit p (hs.subset hp),h.ne.sublist hs⟩
theorem KeysM.del {L:List (Lit×Value)} (h:KeysM L) (k:Lit):KeysM (delM L k):=h.sub List.filter_sublist
theorem KeysM.put {L:List (Lit×Value)} (h:KeysM L) {k:Lit} (hk:WideAt.IsKeyLit k) (v:Value):KeysM (putM L k v):=by
 refine⟨fun p hp=>?_,?_⟩
 ·rcases List.mem_append.1 hp with hp|hp
  ·exact(h.del k).lit p hp
  rw[List.mem_singleton]at hp;subst hp;exact hk
 refine List.pairwise_append.2 ⟨(h.del k).ne,by simp,fun p hp q hq=>?_⟩;rw[List.mem_singleton]at hq;subst hq;intro e;have h1:=(List.mem_filter.1 hp).2;rw[e,WideAt.sameKey_self hk]at h1;simp at h1
theorem getM_mem {L:List (Lit×Value)} (h:KeysM L) {k:Lit} {v:Value} (hm:(k,v)∈L):getM L k=some v:=by
 unfold getM
 induction L with
 |nil=>cases hm
 |cons p L ih=>
  rw[List.find?_cons];obtain⟨h1,h2⟩:=List.pairwise_cons.1 h.ne;rcases List.mem_cons.1 hm with rfl|hm
  ·rw[show(k,v).1.sameKey k=true from WideAt.sameKey_self (h.lit (k,v) (by simp))];rfl
  have hne:p.1.sameKey k=false:=by
   cases hs:p.1.sameKey k with
   |false=>rfl
   |true=>exact absurd (WideAt.sameKey_eq hs) (h1 _ hm)
  rw[hne];exact ih (h.sub (List.sublist_cons_self _ _)) hm
theorem getM_some {L:List (Lit×Value)} {k:Lit} {v:Value} (h:getM L k=some v):(k,v)∈L:=by unfold getM at h;rw[Option.map_eq_some_iff]at h;obtain⟨p,h1,rfl⟩:=h;have h2:=WideAt.sameKey_eq (by simpa using List.find?_some h1);rw[←h2];exact List.mem_of_find?_eq_some h1
def gmapOn (w:World) (k:TypeId) (b n:Nat) (L:List (Lit×Value)):Prop:=
 ∃D:DataW Value,w.ownsMap Tryz.prog k heldE b n D∧KeysM L∧Maps.size D=L.length∧(∀kl,WideAt.IsKeyLit kl→Maps.has D kl=(getM L kl).isSome)∧∀kl zd,WideAt.IsKeyLit kl→D.atKey kl zd=match getM L kl with|some v=>.held v|none=>zd
def gmapR (k:TypeId) (b n:Nat) (L:List (Lit×Value)):Asn:=
 ⟨fun w F=>gmapOn w k b n L∧F=[b],
  fun w w' F ⟨⟨D,⟨es,clock,hb,hr⟩,h2⟩,hF⟩ hk=>⟨⟨D,⟨es,clock,by rw[hk b (by rw[hF];simp)];exact hb,hr⟩,h2⟩,hF⟩,
  fun w F ⟨⟨D,h1,_⟩,hF⟩=>by rw[hF];exact⟨by simp,fun b' hb=>by simp at hb;subst hb;exact h1.lt⟩⟩
theorem key_same {k:Lit} (hk:WideAt.IsKeyLit k):k.sameKey k=true:=WideAt.sameKey_self hk
theorem key_other {k k':Lit} (h:k'≠k):¬k'.sameKey k=true:=fun hs=>h (WideAt.sameKey_eq hs)
theorem getM_put {L:List (Lit×Value)} {k:Lit} (hk:WideAt.IsKeyLit k) (v:Value) (k':Lit) (hk':WideAt.IsKeyLit k'):getM (putM L k v) k'=if k'.sameKey k=true then some v else getM L k':=by
 unfold getM putM;rw[List.find?_append];by_cases e:k'=k
 ·subst e;rw[if_pos (key_same hk')];(have h1:(delM L k').find? (fun p=>p.1.sameKey k')=none:=by rw[List.find?_eq_none];intro p hp;have:=(List.mem_filter.1 hp).2;simpa using this);rw[h1];simp[WideAt.sameKey_self hk']
 rw[if_neg (key_other e)];have h2:([(k,v)]:List (Lit×Value)).find? (fun p=>p.1.sameKey k')=none:=by
  have:k.sameKey k'=false:=by
   cases hs:k.sameKey k' with
   |false=>rfl
   |true=>exact absurd (WideAt.sameKey_eq hs).symm e
  simp[this]
 rw[h2,Option.or_none];unfold delM;rw[Maps.find_filter_keep];intro p hp;have:=WideAt.sameKey_eq hp;cases hs:p.1.sameKey k with
 |false=>rfl
 |true=>exact absurd (this.symm.trans (WideAt.sameKey_eq hs)) e
theorem getM_del {L:List (Lit×Value)} {k:Lit} (hk:WideAt.IsKeyLit k) (k':Lit) (hk':WideAt.IsKeyLit k'):getM (delM L k) k'=if k'.sameKey k=true then none else getM L k':=by
 unfold getM;by_cases e:k'=k
 ·subst e;rw[if_pos (key_same hk')];(have h1:(delM L k').find? (fun p=>p.1.sameKey k')=none:=by rw[List.find?_eq_none];intro p hp;have:=(List.mem_filter.1 hp).2;simpa using this);rw[h1];rfl
 rw[if_neg (key_other e)];unfold delM;rw[Maps.find_filter_keep];intro p hp;have:=WideAt.sameKey_eq hp;cases hs:p.1.sameKey k with
 |false=>rfl
 |true=>exact absurd (this.symm.trans (WideAt.sameKey_eq hs)) e
theorem delM_len {L:List (Lit×Value)} (h:KeysM L) {k:Lit} (hk:WideAt.IsKeyLit k):(delM L k).length+(if(getM L k).isSome then 1 else 0)=L.length:=by
 induction L with
 |nil=>rfl
 |cons p L ih=>
  obtain⟨h1,h2⟩:=List.pairwise_cons.1 h.ne;have ih':=ih (h.sub (List.sublist_cons_self _ _));cases hs:p.1.sameKey k with
  |true=>
   have e:=WideAt.sameKey_eq hs;have h3:delM L k=L:=List.filter_eq_self.2 fun q hq=>by
    cases hs2:q.1.sameKey k with
    |false=>rfl
    |true=>exact absurd (e.trans (WideAt.sameKey_eq hs2).symm) (h1 q hq)
   (have h4:getM (p::L) k=some p.2:=by unfold getM;rw[List.find?_cons,hs];rfl);(have h5:delM (p::L) k=delM L k:=by unfold delM;rw[List.filter_cons,hs];rfl);rw[h4,h5,h3];simp
  |false=>(have h4:getM (p::L) k=getM L k:=by unfold getM;rw[List.find?_cons,hs]);(have h5:delM (p::L) k=p::delM L k:=by unfold delM;rw[List.filter_cons,hs];rfl);rw[h4,h5];simp only[List.length_cons];omega
theorem putM_len {L:List (Lit×Value)} (h:KeysM L) {k:Lit} (hk:WideAt.IsKeyLit k) (v:Value):(putM L k v).length=if(getM L k).isSome then L.length else L.length+1:=by
 have:=delM_len h hk;unfold putM;rw[List.length_append,List.length_singleton];split at this
 ·rename_i hc;rw[if_pos hc];omega
 rename_i hc;rw[if_neg hc];omega
section
variable {w0 w w':World} {As:List Asn} {k e t:TypeId} {b n:Nat} {L:List (Lit×Value)}
theorem Sep.gmap_new (h:Sep w0 w As) (k:TypeId):Sep w0 (w.alloc (.map #[] 0)) (gmapR k w.heap.size 0 []::As):=
 h.new ((Below.refl _ _).alloc (Nat.le_refl _) _) (F:=[w.heap.size]) ⟨⟨.map [],World.ownsMap_made w _ _ _,KeysM.nil,rfl,fun kl _=>rfl,fun kl _ _=>rfl⟩,rfl⟩ (by simp)
theorem Sep.gmap_keys (i:Nat) (h:Sep w0 w As) (hi:As[i]? =some (gmapR k b n L)):KeysM L:=by obtain⟨F,⟨⟨D,_,h2,_⟩,_⟩,_⟩:=h.get i hi;exact h2
theorem Sep.gmap_look (i:Nat) (h:Sep w0 w As) (hi:As[i]? =some (gmapR k b n L)) (K:Maps.Keyed Tryz.prog k) (ht:Tryz.prog.underlying t=some (.map k e)) {z:Value} (hz:(zeroValue e).run Tryz.prog w= .ok z w) {key:Value} {kl:Lit} (hkey:keyOf Tryz.prog k key=some kl):
  (Instr.lookup t (.map (some b)) key false).run Tryz.prog w= .ok ((getM L kl).getD z) w:=by
 obtain⟨F,⟨⟨D,h1,h2,h3,h4,h5⟩,_⟩,_⟩:=h.get i hi;obtain⟨v,ps,hrun,hv⟩:=h1.lookup K ht hz (zd:=.held z) (zp:=[]) rfl hkey;rw[hrun];have hk:=K.key hkey;rw[h5 kl _ hk]at hv;cases hg:getM L kl with
 |none=>rw[hg]at hv;simp[heldE]at hv;rw[hv.1];rfl
 |some u=>rw[hg]at hv;simp[heldE]at hv;rw[hv.1];rfl
theorem Sep.gmap_ok (i:Nat) (h:Sep w0 w As) (hi:As[i]? =some (gmapR k b n L)) (K:Maps.Keyed Tryz.prog k) (ht:Tryz.prog.underlying t=some (.map k e)) {z:Value} (hz:(zeroValue e).run Tryz.prog w= .ok z w) {key:Value} {kl:Lit} (hkey:keyOf Tryz.prog k key=some kl):
  (Instr.lookup t (.map (some b)) key true).run Tryz.prog w= .ok (.tuple #[(getM L kl).getD z,.bool (getM L kl).isSome]) w:=by
 obtain⟨F,⟨⟨D,h1,h2,h3,h4,h5⟩,_⟩,_⟩:=h.get i hi;obtain⟨v,ps,hrun,hv⟩:=h1.look_ok K ht hz (zd:=.held z) (zp:=[]) rfl hkey;have hk:=K.key hkey;rw[hrun,h4 kl hk];rw[h5 kl _ hk]at hv;cases hg:getM L kl with
 |none=>rw[hg]at hv;simp[heldE]at hv;rw[hv.1];rfl
 |some u=>rw[hg]at hv;simp[heldE]at hv;rw[hv.1];rfl
theorem Sep.gmap_put (i:Nat) (h:Sep w0 w As) (hi:As[i]? =some (gmapR k b n L)) (K:Maps.Keyed Tryz.prog k) (ht:Tryz.prog.underlying t=some (.map k e)) (hn:n<maxLen) {key v:Value} {kl:Lit} (hkey:keyOf Tryz.prog k key=some kl):
  ∃w',(Instr.mapUpdate t (.map (some b)) key v).run Tryz.prog w= .ok () w'∧Sep w0 w' (As.set i (gmapR k b (n+1) (putM L kl v))):=by
 obtain⟨F,⟨⟨D,h1,h2,h3,h4,h5⟩,hF⟩,_⟩:=h.get i hi;have hk:=K.key hkey;obtain⟨w',hrun,hown,hgrow⟩:=h1.update K ht hn (val:=v) (d:=.held v) (ps:=[]) hkey rfl;refine⟨w',hrun,h.step i hi fun F' ⟨_,hF'⟩ _=>⟨[b],⟨⟨_,hown,h2.put hk v,?_,fun k' hk'=>?_,fun k' zd hk'=>?_⟩,rfl⟩,fun x hx=>by rw[hF'];exact .inl hx,by rw[hF'];exact Keeps.of_grown hgrow⟩⟩
 ·rw[Maps.size_put (h1.tidy K),putM_len h2 hk,h4 kl hk,h3]
 ·rw[getM_put hk v k' hk'];by_cases he:k'=kl
  ·subst he;rw[if_pos (key_same hk'),Maps.has_put_same h1.isMap hk];rfl
  rw[if_neg (key_other he),Maps.has_put_other he,h4 k' hk']
 rw[getM_put hk v k' hk'];by_cases he:k'=kl
 ·subst he;rw[if_pos (key_same hk'),Maps.atKey_put_same h1.isMap hk]
 rw[if_neg (key_other he),Maps.atKey_put_other he,h5 k' zd hk']
theorem Sep.gmap_del (i:Nat) (h:Sep w0 w As) (hi:As[i]? =some (gmapR k b n L)) (K:Maps.Keyed Tryz.prog k) (ht:Tryz.prog.underlying t=some (.map k e)) {key:Value} {kl:Lit} (hkey:keyOf Tryz.prog k key=some kl) (ty:TypeId):
  ∃w',(Builtin.delete_ #[t,k] ty #[.map (some b),key]).run Tryz.prog w= .ok (.tuple #[]) w'∧Sep w0 w' (As.set i (gmapR k b n (delM L kl))):=by
 obtain⟨F,⟨⟨D,h1,h2,h3,h4,h5⟩,hF⟩,_⟩:=h.get i hi;have hk:=K.key hkey;obtain⟨w',hrun,hown,hturn⟩:=h1.drop K ht hkey ty;refine⟨w',hrun,h.step i hi fun F' ⟨_,hF'⟩ _=>⟨[b],⟨⟨_,hown,h2.del kl,?_,fun k' hk'=>?_,fun k' zd hk'=>?_⟩,rfl⟩,fun x hx=>by rw[hF'];exact .inl hx,by rw[hF'];exact Keeps.of_grown hturn.grown⟩⟩
 ·have a1:=Maps.size_del (k:=kl) (h1.tidy K);have a2:=delM_len h2 hk;rw[h4 kl hk]at a1;omega
 ·rw[getM_del hk k' hk'];by_cases he:k'=kl
  ·subst he;rw[if_pos (key_same hk'),Maps.has_del_same];rfl
  rw[if_neg (key_other he),Maps.has_del_other he,h4 k' hk']
 rw[getM_del hk k' hk'];by_cases he:k'=kl
 ·subst he;rw[if_pos (key_same hk'),Maps.atKey_del_same]
 rw[if_neg (key_other he),Maps.atKey_del_other he,h5 k' zd hk']
theorem Sep.gmap_len (i:Nat) (h:Sep w0 w As) (hi:As[i]? =some (gmapR k b n L)) (ht:Tryz.prog.underlying t=some (.map k e)) (ty:TypeId):(Builtin.len_ #[t] ty #[.map (some b)]).run Tryz.prog w= .ok (.int .i64 (L.length:Int)) w:=by obtain⟨F,⟨⟨D,h1,h2,h3,h4,h5⟩,_⟩,_⟩:=h.get i hi;rw[h1.len ht ty,h3]
def grangeR (k:TypeId) (b r n:Nat) (L left:List (Lit×Value)):Asn:=
 ⟨fun w F=>(∃(D:DataW Value) (lf:Lit→Bool) (cnt:Nat),w.ranges Tryz.prog k heldE b r n D lf cnt∧KeysM L∧Maps.size D=L.length∧(∀kl,WideAt.IsKeyLit kl→Maps.has D kl=(getM L kl).isSome)∧(∀kl zd,WideAt.IsKeyLit kl→D.atKey kl zd=match getM L kl with|some v=>.held v|none=>zd)∧
   left.Sublist L∧(∀kl,WideAt.IsKeyLit kl→lf kl=(getM left kl).isSome))∧F=[b,r]∧b≠r,
  fun w w' F ⟨⟨D,lf,cnt,⟨es,clock,since,seen,c0,hb,F0,hs,hD,hr,r5⟩,h2⟩,hF,hne⟩ hk=>⟨⟨D,lf,cnt,⟨es,clock,since,seen,c0,by rw[hk b (by rw[hF];simp)];exact hb,F0,hs,hD,by rw[hk r (by rw[hF];simp)];exact hr,r5⟩,h2⟩,hF,hne⟩,
  fun w F ⟨⟨D,lf,cnt,h1,_⟩,hF,hne⟩=>by
   rw[hF];refine⟨by simp[hne],fun b' hb=>?_⟩;simp at hb;rcases hb with rfl|rfl
   ·exact h1.owns.lt
   exact h1.lt⟩
theorem Sep.gmap_range (i:Nat) (h:Sep w0 w As) (hi:As[i]? =some (gmapR k b n L)) (K:Maps.Keyed Tryz.prog k) (ht:Tryz.prog.underlying t=some (.map k e)):
  ∃w',(Instr.range t (.map (some b))).run Tryz.prog w= .ok (.pointer (some ⟨w.heap.size,0,none⟩)) w'∧Sep w0 w' (As.set i (grangeR k b w.heap.size n L L))∧w'.heap.size=w.heap.size+1:=by
 obtain⟨F,⟨⟨D,h1,h2,h3,h4,h5⟩,hF⟩,hlt⟩:=h.get i hi;obtain⟨w',hrun,hrg,hgrow,hsz⟩:=h1.range K ht;have hbl:=(hlt b (by rw[hF];simp)).2;refine⟨w',hrun,h.step i hi fun F' ⟨_,hF'⟩ _=>⟨[b,w.heap.size],⟨⟨D,_,_,hrg,h2,h3,h4,h5,List.Sublist.refl _,fun kl hk=>h4 kl hk⟩,rfl,by omega⟩,fun x hx=>?_,?_⟩,hsz⟩
 ·rw[hF'];simp at hx;rcases hx with rfl|rfl
  ·left;simp
  right;omega
 have:=Keeps.of_grown hgrow;exact⟨this.os,this.tape,this.output,this.size,fun j hj _=>this.block j hj (by simp)⟩
theorem Sep.grange_next {r:Nat} {left:List (Lit×Value)} (i:Nat) (h:Sep w0 w As) (hi:As[i]? =some (grangeR k b r n L left)) (K:Maps.Keyed Tryz.prog k) (ty:TypeId):
  (left=[]∧(Instr.next (.pointer (some ⟨r,0,none⟩)) false ty).run Tryz.prog w= .ok (.tuple #[.bool false]) w)∨
  ∃key v kl w',keyOf Tryz.prog k key=some kl∧(kl,v)∈left∧(Instr.next (.pointer (some ⟨r,0,none⟩)) false ty).run Tryz.prog w= .ok (.tuple #[.bool true,key,v]) w'∧
   Sep w0 w' (As.set i (grangeR k b r n L (delM left kl)))∧w'.heap.size=w.heap.size∧(Instr.entry (.pointer (some ⟨r,0,none⟩))).run Tryz.prog w'= .ok (.tuple #[key,v]) w':=by
 obtain⟨F,⟨⟨D,lf,cnt,h1,h2,h3,h4,h5,h6,h7⟩,hF,hne⟩,hlt⟩:=h.get i hi
 rcases h1.next K ty with⟨_,hl,hrun⟩|⟨key,v,kl,y,w',cnt',hkey,hlk,hv,hat,hrun,hrg,_,hgrow,hsz,hen⟩
 ·left;refine⟨?_,hrun⟩;cases left with
  |nil=>rfl
  |cons p l=>have hkl:=h2.lit p (h6.subset (by simp));have:=h7 p.1 hkl;rw[hl,getM_mem (h2.sub h6) (v:=p.2) (by simp)]at this;cases this
 ·right;have hk:=K.key hkey;(have hv':y=(.held v,[]):=by simp[heldE]at hv;exact hv.symm);have h8:=h7 kl hk;rw[hlk]at h8;obtain⟨u,hu⟩:=Option.isSome_iff_exists.1 h8.symm;have hm:=getM_some hu;have hg:=getM_mem h2 (h6.subset hm);(have hu2:u=v:=by have:=hat (.held u);rw[h5 kl _ hk,hg,hv']at this;simpa using this);subst hu2;refine⟨key,u,kl,w',hkey,hm,hrun,h.step i hi fun F' ⟨_,hF',_⟩ _=>⟨[b,r],⟨⟨D,_,cnt',hrg,h2,h3,h4,h5,List.filter_sublist.trans h6,fun k' hk'=>?_⟩,rfl,hne⟩,fun x hx=>by rw[hF'];exact .inl hx,?_⟩,hsz,hen⟩
  ·rw[getM_del hk k' hk',h7 k' hk'];by_cases he:k'=kl
   ·subst he;rw[if_pos (key_same hk),WideAt.sameKey_self hk];simp
   rw[if_neg (key_other he)];have:k'.sameKey kl=false:=by
    cases hs:k'.sameKey kl with
    |false=>rfl
    |true=>exact absurd (WideAt.sameKey_eq hs) he
   rw[this];simp
  rw[hF'];have:=Keeps.of_grown hgrow;exact⟨this.os,this.tape,this.output,this.size,fun j hj hjn=>this.block j hj (by simp at hjn ⊢;exact hjn.2)⟩
theorem Sep.grange_end {r:Nat} {left:List (Lit×Value)} (i:Nat) (h:Sep w0 w As) (hi:As[i]? =some (grangeR k b r n L left)):Sep w0 w (As.set i (gmapR k b n L)):=by refine h.step i hi fun F ⟨⟨D,lf,cnt,h1,h2,h3,h4,h5,_⟩,hF,_⟩ _=>⟨[b],⟨⟨D,h1.owns,h2,h3,h4,h5⟩,rfl⟩,fun x hx=>by rw[hF];left;simp at hx ⊢;exact .inl hx,Keeps.refl _ _⟩
def gmR (k:TypeId) (b:Nat) (L:List (Lit×Value)):Asn:=gmapR k b L.length L
theorem Sep.gm_tight (i:Nat) (h:Sep w0 w As) (hi:As[i]? =some (gmapR k b n L)):Sep w0 w (As.set i (gmR k b L)):=by
 refine h.step i hi fun F ⟨⟨D,h1,h2,h3,h4,h5⟩,hF⟩ _=>⟨[b],⟨⟨D,?_,h2,h3,h4,h5⟩,rfl⟩,fun x hx=>by rw[hF];exact .inl hx,Keeps.refl _ _⟩
 obtain⟨es,clock,hb,F0,hs,hD⟩:=h1;refine⟨es,clock,hb,F0,?_,hD⟩;rw[←h3,hD];simp[Maps.size,length_sorted]
theorem Sep.gm_new (h:Sep w0 w As) (k:TypeId):Sep w0 (w.alloc (.map #[] 0)) (gmR k w.heap.size []::As):=h.gmap_new k
theorem Sep.gm_keys (i:Nat) (h:Sep w0 w As) (hi:As[i]? =some (gmR k b L)):KeysM L:=h.gmap_keys i hi
theorem Sep.gm_look (i:Nat) (h:Sep w0 w As) (hi:As[i]? =some (gmR k b L)) (K:Maps.Keyed Tryz.prog k) (ht:Tryz.prog.underlying t=some (.map k e)) {z:Value} (hz:(zeroValue e).run Tryz.prog w= .ok z w) {key:Value} {kl:Lit} (hkey:keyOf Tryz.prog k key=some kl):
 (Instr.lookup t (.map (some b)) key false).run Tryz.prog w= .ok ((getM L kl).getD z) w:=h.gmap_look i hi K ht hz hkey
theorem Sep.gm_ok (i:Nat) (h:Sep w0 w As) (hi:As[i]? =some (gmR k b L)) (K:Maps.Keyed Tryz.prog k) (ht:Tryz.prog.underlying t=some (.map k e)) {z:Value} (hz:(zeroValue e).run Tryz.prog w= .ok z w) {key:Value} {kl:Lit} (hkey:keyOf Tryz.prog k key=some kl):
 (Instr.lookup t (.map (some b)) key true).run Tryz.prog w= .ok (.tuple #[(getM L kl).getD z,.bool (getM L kl).isSome]) w:=h.gmap_ok i hi K ht hz hkey
theorem Sep.gm_put (i:Nat) (h:Sep w0 w As) (hi:As[i]? =some (gmR k b L)) (K:Maps.Keyed Tryz.prog k) (ht:Tryz.prog.underlying t=some (.map k e)) (hn:L.length<maxLen) {key v:Value} {kl:Lit} (hkey:keyOf Tryz.prog k key=some kl):
  ∃w',(Instr.mapUpdate t (.map (some b)) key v).run Tryz.prog w= .ok () w'∧Sep w0 w' (As.set i (gmR k b (putM L kl v))):=by
 obtain⟨w',h1,h2⟩:=h.gmap_put i hi K ht hn (v:=v) hkey;have hlt:=(gF.1 hi).1;have h3:=h2.gm_tight i (by rw[List.getElem?_set_self hlt]);rw[List.set_set]at h3;exact⟨w',h1,h3⟩
theorem Sep.gm_del (i:Nat) (h:Sep w0 w As) (hi:As[i]? =some (gmR k b L)) (K:Maps.Keyed Tryz.prog k) (ht:Tryz.prog.underlying t=some (.map k e)) {key:Value} {kl:Lit} (hkey:keyOf Tryz.prog k key=some kl) (ty:TypeId):
  ∃w',(Builtin.delete_ #[t,k] ty #[.map (some b),key]).run Tryz.prog w= .ok (.tuple #[]) w'∧Sep w0 w' (As.set i (gmR k b (delM L kl))):=by
 obtain⟨w',h1,h2⟩:=h.gmap_del i hi K ht hkey ty;have hlt:=(gF.1 hi).1;have h3:=h2.gm_tight i (by rw[List.getElem?_set_self hlt]);rw[List.set_set]at h3;exact⟨w',h1,h3⟩
theorem Sep.gm_len (i:Nat) (h:Sep w0 w As) (hi:As[i]? =some (gmR k b L)) (ht:Tryz.prog.underlying t=some (.map k e)) (ty:TypeId):(Builtin.len_ #[t] ty #[.map (some b)]).run Tryz.prog w= .ok (.int .i64 (L.length:Int)) w:=h.gmap_len i hi ht ty
theorem Sep.gm_range (i:Nat) (h:Sep w0 w As) (hi:As[i]? =some (gmR k b L)) (K:Maps.Keyed Tryz.prog k) (ht:Tryz.prog.underlying t=some (.map k e)):
 ∃w',(Instr.range t (.map (some b))).run Tryz.prog w= .ok (.pointer (some ⟨w.heap.size,0,none⟩)) w'∧Sep w0 w' (As.set i (grangeR k b w.heap.size L.length L L))∧w'.heap.size=w.heap.size+1:=h.gmap_range i hi K ht
theorem Sep.gm_end {r:Nat} {left:List (Lit×Value)} (i:Nat) (h:Sep w0 w As) (hi:As[i]? =some (grangeR k b r L.length L left)):Sep w0 w (As.set i (gmR k b L)):=h.grange_end i hi
end
end Go.Proofs.YtimkjnbihlgbiaaGreat
namespace Go.Proofs.YtimkjnbihlgbiaaGreat
open Go
section
variable {P:Program} {ops:Array Oper} {md:Region.Mode} {C:World→Prop}
def wpAnyH (P:Program) (md:Region.Mode) (ops:Array Oper) (C:World→Prop) (n:Nat) (L:Array Bool→Act→Prop):Nat→Array Bool→Act→Prop
 |0,listed,a=>L listed a
 |f+1,listed,a=>Region.ready md ops listed≠[]∧∀i∈Region.ready md ops listed,i<n∧qOp P ops C i (wpAnyH P md ops C n L f (listed.setIfInBounds i true)) a
theorem wpAny_of_headH {n g:Nat} {L:Array Bool→Act→Prop} {Q':Exit→Act→World→Prop} (hL:∀listed a w,C w→L listed a→wpAny P md ops Q' g listed a w):
  ∀(f:Nat) (listed:Array Bool) (a:Act) (w:World),C w→wpAnyH P md ops C n L f listed a→wpAny P md ops Q' (f+g) listed a w
 |0,listed,a,w,hw,h=>by rw[Nat.zero_add];exact hL _ _ _ hw h
 |f+1,listed,a,w,hw,h=>by rw[show f+1+g=(f+g)+1 by omega];exact⟨fun h0=>absurd h0 h.1,fun i hi=>wpOp_of_qOp hw (fun a' w' hw' h'=>wpAny_of_headH hL f _ a' w' hw' h') (h.2 i hi).2⟩
theorem wpAnyH_first {n i:Nat} {oi:Oper} {v:Value} {L:Array Bool→Act→Prop} (hi:ops[i]? =some oi) (hsel:∀(j:Nat) (o:Oper) cs b,ops[j]? =some o→o.op≠ .select cs b)
  (hs:Region.sinkB md ops n=true) (hc:Region.chainB md ops n=true) (hn:n<ops.size) (hin:i<n)
  (hdone:∀listed a,L listed a→∀j∈Region.ready md ops listed,n≤j):
  ∀(f:Nat) (listed:Array Bool) (a:Act),HeadInv md ops n listed→
   (∀j oj,ops[j]? =some oj→j≠i→listed.getD j true=false→(∀e∈oj.after,Region.binds md e=true→e.on≠i)→oi.apart ops oj=true)→
   i∈Region.ready md ops listed→YieldsIn P ops C oi v a→
   wpAnyH P md ops C n L f (listed.setIfInBounds i true) (a.put oi.dst v)→wpAnyH P md ops C n L (f+1) listed a:=by
 intro f
 induction f with
 |zero=>
  intro listed a inv _ hr hy H;have hun:=(mem_ready.1 hr).1;refine⟨fun h=>(by rw[h]at hr;cases hr),fun j hj=>?_⟩;have hjn:j<n:=by
   rcases Nat.lt_or_ge j n with h|h
   ·exact h
   exact absurd hj (tail_waits hs hc hn inv _ i rfl hin hun j h)
  refine⟨hjn,?_⟩;by_cases hji:j=i
  ·subst hji;exact hy.qOp hi H
  have:=hdone _ _ H j (ready_mono hj hji);omega
 |succ f ih=>
  intro listed a inv hfree hr hy H;have hun:=(mem_ready.1 hr).1;refine⟨fun h=>(by rw[h]at hr;cases hr),fun j hj=>?_⟩;have hjn:j<n:=by
   rcases Nat.lt_or_ge j n with h|h
   ·exact h
   exact absurd hj (tail_waits hs hc hn inv _ i rfl hin hun j h)
  refine⟨hjn,?_⟩;by_cases hji:j=i
  ·subst hji;exact hy.qOp hi H
  have h1:=(H.2 j (ready_mono hj hji)).2;obtain⟨hjun,oj,hoj,hall⟩:=mem_ready.1 hj;(have hnot:∀e∈oj.after,Region.binds md e=true→e.on≠i:=fun e he hb heq=>by have h1:=hall e he hb;rw[heq,getD_both hun]at h1;cases h1);have h2:=qOp_put hoj (hfree j oj hoj hji hjun hnot) (fun cs b=>hsel i oi cs b hi) (fun cs b=>hsel j oj cs b hoj) hy h1;have hfree':∀k ok,ops[k]? =some ok→k≠i→(listed.setIfInBounds j true).getD k true=false→
    (∀e∈ok.after,Region.binds md e=true→e.on≠i)→oi.apart ops ok=true:=fun k ok hk hki hun hno=>by
   refine hfree k ok hk hki ?_ hno;by_cases hjk:j=k
   ·subst hjk;exact hjun
   rw[getD_set_ne true hjk]at hun;exact hun
  refine qOp_mono (fun a' h3=>ih (listed.setIfInBounds j true) a' (inv.set hj hjn) hfree' (ready_mono hr (Ne.symm hji)) h3.1 ?_) h2;rw[Array.setIfInBounds_comm _ _ hji];exact h3.2
theorem wpAnyH_lex {n g:Nat} {Lq:Act→Prop} (hsel:Region.noSelect ops=true) (hs:Region.sinkB md ops n=true) (hc:Region.chainB md ops n=true) (hn:n<ops.size):
  ∀(l:List Oper) (k:Nat) (listed:Array Bool) (a:Act),(∀j,j<l.length→l[j]? =ops[k+j]?)→k+l.length=n→HeadInv md ops n listed→
  Region.lexHead md ops g l.length k listed=true→wpQuiet P ops C Lq l a→
  wpAnyH P md ops C n (fun listed' a'=>Region.seqB md ops g n listed'=true∧Lq a') l.length listed a
 |[],k,listed,a,_,hk,_,hB,h=>by(have:k=n:=by simpa using hk);subst this;exact⟨by simpa[Region.lexHead]using hB,h⟩
 |o::l,k,listed,a,hl,hk,inv,hB,h=>by
  (have h0:ops[k]? =some o:=by simpa using(hl 0 (by simp)).symm);simp only[List.length_cons,Region.lexHead,Bool.and_eq_true]at hB;obtain⟨⟨hr,hf⟩,hB'⟩:=hB;(have hkn:k<n:=by simp only[List.length_cons]at hk;omega);(have hr':k∈Region.ready md ops listed:=by simpa using hr);(have hst:qOp P ops C k (wpQuiet P ops C Lq l) a:=by unfold qOp;simp only[h0];exact h);obtain⟨v,hy,hK⟩:=yieldsIn_of_qOp h0 hst;exact wpAnyH_first h0 (Region.noSelect_spec hsel) hs hc hn hkn (fun listed' a' hL=>seqB_ready hL.1) l.length listed a inv (Region.free_spec h0 hf) hr' hy
   (wpAnyH_lex hsel hs hc hn l (k+1) _ _ (fun j hj=>by have:=hl (j+1) (by simp;omega);simpa[Nat.add_assoc,Nat.add_comm 1 j]using this) (by simp only[List.length_cons]at hk;omega) (inv.set hr' hkn) hB' hK)
theorem wp_quiet_tail {id:Nat} {Q:Exit→Act→World→Prop} {a:Act} {w:World} {l:List Oper} (n:Nat) (hm:P.follows .mixedOrders=true) (hB:Region.lexTailB .any l.toArray n=true)
  (h:wpQuiet P l.toArray (fun w'=>∃k,w'=w.drewN k) (fun a'=>∀w',(∃k,w'=w.drewN k)→wpList P l.toArray Q (l.drop n) a' w') (l.take n) a):(Code.region id l.toArray true).wp P Q a w:=by
 simp only[Region.lexTailB,Bool.and_eq_true,decide_eq_true_eq]at hB;obtain⟨⟨⟨⟨hsel,hn⟩,hs⟩,hc⟩,hlex⟩:=hB;have hn':n<l.length:=by simpa using hn
 have htl:(l.take n).length=n:=by simp;omega
 have hdl:(l.drop n).length=l.toArray.size-n:=by simp
 have inv0:HeadInv .any l.toArray n (Array.replicate l.toArray.size false):=
  ⟨by simp,fun j oj _ hl=>(by rw[getD_replicate_false]at hl;cases hl),fun t _ ht=>getD_in (by simpa using ht) (getD_replicate_false _ _)⟩
 have H:=wpAnyH_lex (md:=.any) (g:=l.toArray.size-n) hsel hs hc hn (l.take n) 0 _ a (fun j hj=>by(have hj':j<n:=by rw[htl]at hj;exact hj);simp[hj']) (by simpa using htl) inv0 (by rw[htl];exact hlex) h;refine wp_region_any hm ?_;have:=wpAny_of_headH (Q':=Q) (g:=l.toArray.size-n) (fun listed a' w' hw' hL=>by
  have:=wpAny_of_seq (md:=.any) (Q':=Q) (l.drop n) n listed a' w' (fun j=>by simp[List.getElem?_drop]) (by rw[hdl];exact hL.1) (hL.2 w' hw')
  rwa [hdl]at this) _ _ _ {w with drawn:=w.drawn+1} ⟨1,rfl⟩ H
 rw[htl,show n+(l.toArray.size-n)=l.toArray.size by omega]at this;exact this
end
end Go.Proofs.YtimkjnbihlgbiaaGreat
