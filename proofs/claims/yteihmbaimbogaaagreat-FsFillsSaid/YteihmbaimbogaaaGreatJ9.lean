/- GMap, FsQ, Floats, Cplx, laid together. -/
import Derived.Test.YteihmbaimbogaaaGreatJ2
import Derived.Maps.Own
import Derived.Maps.OwnSet
import Derived.Maps.Range
import Derived.Maps.RangeWalk
import Derived.Laws.FloatArith
import Derived.Laws.ComplexArith
namespace Go.Proofs.YteihmbaimbogaaaGreat
open Go.RowKit
set_option linter.unusedVariables false
def KF (v:Value):Option (DataW Value×List MemPlace):=some (.held v,[])
def getM (L:List (Lit×Value)) (k:Lit):Option Value:=(L.find? fun p=>p.1.sameKey k).map (·.2)
def uP (L:List (Lit×Value)) (k:Lit):List (Lit×Value):=L.filter fun p=> !p.1.sameKey k
def KM (L:List (Lit×Value)) (k:Lit) (v:Value):List (Lit×Value):=uP L k++[(k,v)]
structure mP (L:List (Lit×Value)):Prop where
 lit:∀p∈L,WideAt.IsKeyLit p.1
 ne:L.Pairwise fun p q=>p.1≠q.1
theorem mP.nil :mP []:=⟨by simp,List.Pairwise.nil⟩
theorem mP.sub {L M:List (Lit×Value)} (h:mP L) (hs:M.Sublist L):mP M:=⟨fun p hp=>h.lit p (hs.subset hp),h.ne.sublist hs⟩
theorem mP.del {L:List (Lit×Value)} (h:mP L) (k:Lit):mP (uP L k):=h.sub List.filter_sublist
theorem mP.put {L:List (Lit×Value)} (h:mP L) {k:Lit} (hk:WideAt.IsKeyLit k) (v:Value):mP (KM L k v):=by
 refine⟨fun p hp=>?_,?_⟩
 ·rcases List.mem_append.1 hp with hp|hp
  ·exact(h.del k).lit p hp
  rw[List.mem_singleton]at hp;subst hp;exact hk
 refine List.pairwise_append.2 ⟨(h.del k).ne,by simp,fun p hp q hq=>?_⟩;rw[List.mem_singleton]at hq;subst hq;intro e;have h1:=(List.mem_filter.1 hp).2;rw[e,WideAt.sameKey_self hk]at h1;simp at h1
theorem U4 {L:List (Lit×Value)} (h:mP L) {k:Lit} {v:Value} (hm:(k,v)∈L):getM L k=some v:=by
 unfold getM
 induction L with
 |nil=>cases hm
 |cons p L ih=>
  rw[List.find?_cons];obtain⟨h1,h2⟩:=List.pairwise_cons.1 h.ne;rcases List.mem_cons.1 hm with rfl|hm
  ·rw[show(k,v).1.sameKey k=true from WideAt.sameKey_self (h.lit (k,v) (by simp))];rfl
  have hne:p.1.sameKey k=false:=by
   cases hs:p.1.sameKey k with
   |false=>rfl
   |true=>exact absurd (WideAt.sameKey_eq hs) (h1 _ hm)
  rw[hne];exact ih (h.sub (List.sublist_cons_self _ _)) hm
theorem getM_some {L:List (Lit×Value)} {k:Lit} {v:Value} (h:getM L k=some v):(k,v)∈L:=by unfold getM at h;rw[Option.map_eq_some_iff]at h;obtain⟨p,h1,rfl⟩:=h;have h2:=WideAt.sameKey_eq (by simpa using List.find?_some h1);rw[←h2];exact List.mem_of_find?_eq_some h1
def aoM (w:World) (k:TypeId) (b n:Nat) (L:List (Lit×Value)):Prop:=
 ∃D:DataW Value,w.ownsMap Tryz.prog k KF b n D∧mP L∧Maps.size D=L.length∧(∀kl,WideAt.IsKeyLit kl→Maps.has D kl=(getM L kl).isSome)∧∀kl zd,WideAt.IsKeyLit kl→D.atKey kl zd=match getM L kl with|some v=>.held v|none=>zd
def yG (k:TypeId) (b n:Nat) (L:List (Lit×Value)):aU:=
 ⟨fun w F=>aoM w k b n L∧F=[b],
  fun w w' F ⟨⟨D,⟨es,clock,hb,hr⟩,h2⟩,hF⟩ hk=>⟨⟨D,⟨es,clock,by rw[hk b (by rw[hF];simp)];exact hb,hr⟩,h2⟩,hF⟩,
  fun w F ⟨⟨D,h1,_⟩,hF⟩=>by rw[hF];exact⟨by simp,fun b' hb=>by simp at hb;subst hb;exact h1.lt⟩⟩
theorem wM {k:Lit} (hk:WideAt.IsKeyLit k):k.sameKey k=true:=WideAt.sameKey_self hk
theorem sP {k k':Lit} (h:k'≠k):¬k'.sameKey k=true:=fun hs=>h (WideAt.sameKey_eq hs)
theorem U5 {L:List (Lit×Value)} {k:Lit} (hk:WideAt.IsKeyLit k) (v:Value) (k':Lit) (hk':WideAt.IsKeyLit k'):getM (KM L k v) k'=if k'.sameKey k=true then some v else getM L k':=by
 unfold getM KM;rw[List.find?_append];by_cases e:k'=k
 ·subst e;rw[if_pos (wM hk')];(have h1:(uP L k').find? (fun p=>p.1.sameKey k')=none:=by rw[List.find?_eq_none];intro p hp;have:=(List.mem_filter.1 hp).2;simpa using this);rw[h1];simp[WideAt.sameKey_self hk']
 rw[if_neg (sP e)];have h2:([(k,v)]:List (Lit×Value)).find? (fun p=>p.1.sameKey k')=none:=by
  have:k.sameKey k'=false:=by
   cases hs:k.sameKey k' with
   |false=>rfl
   |true=>exact absurd (WideAt.sameKey_eq hs).symm e
  simp[this]
 rw[h2,Option.or_none];unfold uP;rw[Maps.find_filter_keep];intro p hp;have:=WideAt.sameKey_eq hp;cases hs:p.1.sameKey k with
 |false=>rfl
 |true=>exact absurd (this.symm.trans (WideAt.sameKey_eq hs)) e
theorem aiC {L:List (Lit×Value)} {k:Lit} (hk:WideAt.IsKeyLit k) (k':Lit) (hk':WideAt.IsKeyLit k'):getM (uP L k) k'=if k'.sameKey k=true then none else getM L k':=by
 unfold getM;by_cases e:k'=k
 ·subst e;rw[if_pos (wM hk')];(have h1:(uP L k').find? (fun p=>p.1.sameKey k')=none:=by rw[List.find?_eq_none];intro p hp;have:=(List.mem_filter.1 hp).2;simpa using this);rw[h1];rfl
 rw[if_neg (sP e)];unfold uP;rw[Maps.find_filter_keep];intro p hp;have:=WideAt.sameKey_eq hp;cases hs:p.1.sameKey k with
 |false=>rfl
 |true=>exact absurd (this.symm.trans (WideAt.sameKey_eq hs)) e
theorem aiD {L:List (Lit×Value)} (h:mP L) {k:Lit} (hk:WideAt.IsKeyLit k):(uP L k).length+(if(getM L k).isSome then 1 else 0)=L.length:=by
 induction L with
 |nil=>rfl
 |cons p L ih=>
  obtain⟨h1,h2⟩:=List.pairwise_cons.1 h.ne;have ih':=ih (h.sub (List.sublist_cons_self _ _));cases hs:p.1.sameKey k with
  |true=>
   have e:=WideAt.sameKey_eq hs;have h3:uP L k=L:=List.filter_eq_self.2 fun q hq=>by
    cases hs2:q.1.sameKey k with
    |false=>rfl
    |true=>exact absurd (e.trans (WideAt.sameKey_eq hs2).symm) (h1 q hq)
   (have h4:getM (p::L) k=some p.2:=by unfold getM;rw[List.find?_cons,hs];rfl);(have h5:uP (p::L) k=uP L k:=by unfold uP;rw[List.filter_cons,hs];rfl);rw[h4,h5,h3];simp
  |false=>(have h4:getM (p::L) k=getM L k:=by unfold getM;rw[List.find?_cons,hs]);(have h5:uP (p::L) k=p::uP L k:=by unfold uP;rw[List.filter_cons,hs];rfl);rw[h4,h5];simp only[List.length_cons];omega
theorem aiE {L:List (Lit×Value)} (h:mP L) {k:Lit} (hk:WideAt.IsKeyLit k) (v:Value):(KM L k v).length=if(getM L k).isSome then L.length else L.length+1:=by
 have:=aiD h hk;unfold KM;rw[List.length_append,List.length_singleton];split at this
 ·rename_i hc;rw[if_pos hc];omega
 rename_i hc;rw[if_neg hc];omega
section
variable {w0 w w':World} {As:List aU} {k e t:TypeId} {b n:Nat} {L:List (Lit×Value)}
theorem Sep.aiF (h:Sep w0 w As) (k:TypeId):Sep w0 (w.alloc (.map #[] 0)) (yG k w.heap.size 0 []::As):=
 h.new ((Below.refl _ _).alloc (Nat.le_refl _) _) (F:=[w.heap.size]) ⟨⟨.map [],World.ownsMap_made w _ _ _,mP.nil,rfl,fun kl _=>rfl,fun kl _ _=>rfl⟩,rfl⟩ (by simp)
theorem Sep.ac7 (i:Nat) (h:Sep w0 w As) (hi:As[i]? =some (yG k b n L)):mP L:=by obtain⟨F,⟨⟨D,_,h2,_⟩,_⟩,_⟩:=h.get i hi;exact h2
theorem Sep.ac8 (i:Nat) (h:Sep w0 w As) (hi:As[i]? =some (yG k b n L)) (K:Maps.Keyed Tryz.prog k) (ht:Tryz.prog.underlying t=some (.map k e)) {z:Value} (hz:(zeroValue e).run Tryz.prog w= .ok z w) {key:Value} {kl:Lit} (hkey:keyOf Tryz.prog k key=some kl):
  (Instr.lookup t (.map (some b)) key false).run Tryz.prog w= .ok ((getM L kl).getD z) w:=by
 obtain⟨F,⟨⟨D,h1,h2,h3,h4,h5⟩,_⟩,_⟩:=h.get i hi;obtain⟨v,ps,hrun,hv⟩:=h1.lookup K ht hz (zd:=.held z) (zp:=[]) rfl hkey;rw[hrun];have hk:=K.key hkey;rw[h5 kl _ hk]at hv;cases hg:getM L kl with
 |none=>rw[hg]at hv;simp[KF]at hv;rw[hv.1];rfl
 |some u=>rw[hg]at hv;simp[KF]at hv;rw[hv.1];rfl
theorem Sep.alM (i:Nat) (h:Sep w0 w As) (hi:As[i]? =some (yG k b n L)) (K:Maps.Keyed Tryz.prog k) (ht:Tryz.prog.underlying t=some (.map k e)) {z:Value} (hz:(zeroValue e).run Tryz.prog w= .ok z w) {key:Value} {kl:Lit} (hkey:keyOf Tryz.prog k key=some kl):
  (Instr.lookup t (.map (some b)) key true).run Tryz.prog w= .ok (.tuple #[(getM L kl).getD z,.bool (getM L kl).isSome]) w:=by
 obtain⟨F,⟨⟨D,h1,h2,h3,h4,h5⟩,_⟩,_⟩:=h.get i hi;obtain⟨v,ps,hrun,hv⟩:=h1.look_ok K ht hz (zd:=.held z) (zp:=[]) rfl hkey;have hk:=K.key hkey;rw[hrun,h4 kl hk];rw[h5 kl _ hk]at hv;cases hg:getM L kl with
 |none=>rw[hg]at hv;simp[KF]at hv;rw[hv.1];rfl
 |some u=>rw[hg]at hv;simp[KF]at hv;rw[hv.1];rfl
theorem Sep.aiG (i:Nat) (h:Sep w0 w As) (hi:As[i]? =some (yG k b n L)) (K:Maps.Keyed Tryz.prog k) (ht:Tryz.prog.underlying t=some (.map k e)) (hn:n<maxLen) {key v:Value} {kl:Lit} (hkey:keyOf Tryz.prog k key=some kl):
  ∃w',(Instr.mapUpdate t (.map (some b)) key v).run Tryz.prog w= .ok () w'∧Sep w0 w' (As.set i (yG k b (n+1) (KM L kl v))):=by
 obtain⟨F,⟨⟨D,h1,h2,h3,h4,h5⟩,hF⟩,_⟩:=h.get i hi;have hk:=K.key hkey;obtain⟨w',hrun,hown,hgrow⟩:=h1.update K ht hn (val:=v) (d:=.held v) (ps:=[]) hkey rfl;refine⟨w',hrun,h.step i hi fun F' ⟨_,hF'⟩ _=>⟨[b],⟨⟨_,hown,h2.put hk v,?_,fun k' hk'=>?_,fun k' zd hk'=>?_⟩,rfl⟩,fun x hx=>by rw[hF'];exact .inl hx,by rw[hF'];exact j3.o7 hgrow⟩⟩
 ·rw[Maps.size_put (h1.tidy K),aiE h2 hk,h4 kl hk,h3]
 ·rw[U5 hk v k' hk'];by_cases he:k'=kl
  ·subst he;rw[if_pos (wM hk'),Maps.has_put_same h1.isMap hk];rfl
  rw[if_neg (sP he),Maps.has_put_other he,h4 k' hk']
 rw[U5 hk v k' hk'];by_cases he:k'=kl
 ·subst he;rw[if_pos (wM hk'),Maps.atKey_put_same h1.isMap hk]
 rw[if_neg (sP he),Maps.atKey_put_other he,h5 k' zd hk']
def tK (k:TypeId) (b r n:Nat) (L left:List (Lit×Value)):aU:=
 ⟨fun w F=>(∃(D:DataW Value) (lf:Lit→Bool) (cnt:Nat),w.ranges Tryz.prog k KF b r n D lf cnt∧mP L∧Maps.size D=L.length∧(∀kl,WideAt.IsKeyLit kl→Maps.has D kl=(getM L kl).isSome)∧(∀kl zd,WideAt.IsKeyLit kl→D.atKey kl zd=match getM L kl with|some v=>.held v|none=>zd)∧
   left.Sublist L∧(∀kl,WideAt.IsKeyLit kl→lf kl=(getM left kl).isSome))∧F=[b,r]∧b≠r,
  fun w w' F ⟨⟨D,lf,cnt,⟨es,clock,since,seen,c0,hb,F0,hs,hD,hr,r5⟩,h2⟩,hF,hne⟩ hk=>⟨⟨D,lf,cnt,⟨es,clock,since,seen,c0,by rw[hk b (by rw[hF];simp)];exact hb,F0,hs,hD,by rw[hk r (by rw[hF];simp)];exact hr,r5⟩,h2⟩,hF,hne⟩,
  fun w F ⟨⟨D,lf,cnt,h1,_⟩,hF,hne⟩=>by
   rw[hF];refine⟨by simp[hne],fun b' hb=>?_⟩;simp at hb;rcases hb with rfl|rfl
   ·exact h1.owns.lt
   exact h1.lt⟩
theorem Sep.XY (i:Nat) (h:Sep w0 w As) (hi:As[i]? =some (yG k b n L)) (K:Maps.Keyed Tryz.prog k) (ht:Tryz.prog.underlying t=some (.map k e)):
  ∃w',(Instr.range t (.map (some b))).run Tryz.prog w= .ok (.pointer (some ⟨w.heap.size,0,none⟩)) w'∧Sep w0 w' (As.set i (tK k b w.heap.size n L L))∧w'.heap.size=w.heap.size+1:=by
 obtain⟨F,⟨⟨D,h1,h2,h3,h4,h5⟩,hF⟩,hlt⟩:=h.get i hi;obtain⟨w',hrun,hrg,hgrow,hsz⟩:=h1.range K ht;have hbl:=(hlt b (by rw[hF];simp)).2;refine⟨w',hrun,h.step i hi fun F' ⟨_,hF'⟩ _=>⟨[b,w.heap.size],⟨⟨D,_,_,hrg,h2,h3,h4,h5,List.Sublist.refl _,fun kl hk=>h4 kl hk⟩,rfl,by omega⟩,fun x hx=>?_,?_⟩,hsz⟩
 ·rw[hF'];simp at hx;rcases hx with rfl|rfl
  ·left;simp
  right;omega
 have:=j3.o7 hgrow;exact⟨this.os,this.tape,this.output,this.size,fun j hj _=>this.block j hj (by simp)⟩
theorem Sep.QV {r:Nat} {left:List (Lit×Value)} (i:Nat) (h:Sep w0 w As) (hi:As[i]? =some (tK k b r n L left)) (K:Maps.Keyed Tryz.prog k) (ty:TypeId):
  (left=[]∧(Instr.next (.pointer (some ⟨r,0,none⟩)) false ty).run Tryz.prog w= .ok (.tuple #[.bool false]) w)∨
  ∃key v kl w',keyOf Tryz.prog k key=some kl∧(kl,v)∈left∧(Instr.next (.pointer (some ⟨r,0,none⟩)) false ty).run Tryz.prog w= .ok (.tuple #[.bool true,key,v]) w'∧
   Sep w0 w' (As.set i (tK k b r n L (uP left kl)))∧w'.heap.size=w.heap.size∧(Instr.entry (.pointer (some ⟨r,0,none⟩))).run Tryz.prog w'= .ok (.tuple #[key,v]) w':=by
 obtain⟨F,⟨⟨D,lf,cnt,h1,h2,h3,h4,h5,h6,h7⟩,hF,hne⟩,hlt⟩:=h.get i hi
 rcases h1.next K ty with⟨_,hl,hrun⟩|⟨key,v,kl,y,w',cnt',hkey,hlk,hv,hat,hrun,hrg,_,hgrow,hsz,hen⟩
 ·left;refine⟨?_,hrun⟩;cases left with
  |nil=>rfl
  |cons p l=>have hkl:=h2.lit p (h6.subset (by simp));have:=h7 p.1 hkl;rw[hl,U4 (h2.sub h6) (v:=p.2) (by simp)]at this;cases this
 ·right;have hk:=K.key hkey;(have hv':y=(.held v,[]):=by simp[KF]at hv;exact hv.symm);have h8:=h7 kl hk;rw[hlk]at h8;obtain⟨u,hu⟩:=Option.isSome_iff_exists.1 h8.symm;have hm:=getM_some hu;have hg:=U4 h2 (h6.subset hm);(have hu2:u=v:=by have:=hat (.held u);rw[h5 kl _ hk,hg,hv']at this;simpa using this);subst hu2;refine⟨key,u,kl,w',hkey,hm,hrun,h.step i hi fun F' ⟨_,hF',_⟩ _=>⟨[b,r],⟨⟨D,_,cnt',hrg,h2,h3,h4,h5,List.filter_sublist.trans h6,fun k' hk'=>?_⟩,rfl,hne⟩,fun x hx=>by rw[hF'];exact .inl hx,?_⟩,hsz,hen⟩
  ·rw[aiC hk k' hk',h7 k' hk'];by_cases he:k'=kl
   ·subst he;rw[if_pos (wM hk),WideAt.sameKey_self hk];simp
   rw[if_neg (sP he)];have:k'.sameKey kl=false:=by
    cases hs:k'.sameKey kl with
    |false=>rfl
    |true=>exact absurd (WideAt.sameKey_eq hs) he
   rw[this];simp
  rw[hF'];have:=j3.o7 hgrow;exact⟨this.os,this.tape,this.output,this.size,fun j hj hjn=>this.block j hj (by simp at hjn ⊢;exact hjn.2)⟩
theorem Sep.XZ {r:Nat} {left:List (Lit×Value)} (i:Nat) (h:Sep w0 w As) (hi:As[i]? =some (tK k b r n L left)):Sep w0 w (As.set i (yG k b n L)):=by refine h.step i hi fun F ⟨⟨D,lf,cnt,h1,h2,h3,h4,h5,_⟩,hF,_⟩ _=>⟨[b],⟨⟨D,h1.owns,h2,h3,h4,h5⟩,rfl⟩,fun x hx=>by rw[hF];left;simp at hx ⊢;exact .inl hx,j3.refl _ _⟩
def l7 (k:TypeId) (b:Nat) (L:List (Lit×Value)):aU:=yG k b L.length L
theorem Sep.aiH (i:Nat) (h:Sep w0 w As) (hi:As[i]? =some (yG k b n L)):Sep w0 w (As.set i (l7 k b L)):=by
 refine h.step i hi fun F ⟨⟨D,h1,h2,h3,h4,h5⟩,hF⟩ _=>⟨[b],⟨⟨D,?_,h2,h3,h4,h5⟩,rfl⟩,fun x hx=>by rw[hF];exact .inl hx,j3.refl _ _⟩
 obtain⟨es,clock,hb,F0,hs,hD⟩:=h1;refine⟨es,clock,hb,F0,?_,hD⟩;rw[←h3,hD];simp[Maps.size,length_sorted]
theorem Sep.adH (h:Sep w0 w As) (k:TypeId):Sep w0 (w.alloc (.map #[] 0)) (l7 k w.heap.size []::As):=h.aiF k
theorem Sep.FE (i:Nat) (h:Sep w0 w As) (hi:As[i]? =some (l7 k b L)):mP L:=h.ac7 i hi
theorem Sep.ajV (i:Nat) (h:Sep w0 w As) (hi:As[i]? =some (l7 k b L)) (K:Maps.Keyed Tryz.prog k) (ht:Tryz.prog.underlying t=some (.map k e)) {z:Value} (hz:(zeroValue e).run Tryz.prog w= .ok z w) {key:Value} {kl:Lit} (hkey:keyOf Tryz.prog k key=some kl):
 (Instr.lookup t (.map (some b)) key false).run Tryz.prog w= .ok ((getM L kl).getD z) w:=h.ac8 i hi K ht hz hkey
theorem Sep.alP (i:Nat) (h:Sep w0 w As) (hi:As[i]? =some (l7 k b L)) (K:Maps.Keyed Tryz.prog k) (ht:Tryz.prog.underlying t=some (.map k e)) {z:Value} (hz:(zeroValue e).run Tryz.prog w= .ok z w) {key:Value} {kl:Lit} (hkey:keyOf Tryz.prog k key=some kl):
 (Instr.lookup t (.map (some b)) key true).run Tryz.prog w= .ok (.tuple #[(getM L kl).getD z,.bool (getM L kl).isSome]) w:=h.alM i hi K ht hz hkey
theorem Sep.nU (i:Nat) (h:Sep w0 w As) (hi:As[i]? =some (l7 k b L)) (K:Maps.Keyed Tryz.prog k) (ht:Tryz.prog.underlying t=some (.map k e)) (hn:L.length<maxLen) {key v:Value} {kl:Lit} (hkey:keyOf Tryz.prog k key=some kl):
  ∃w',(Instr.mapUpdate t (.map (some b)) key v).run Tryz.prog w= .ok () w'∧Sep w0 w' (As.set i (l7 k b (KM L kl v))):=by
 obtain⟨w',h1,h2⟩:=h.aiG i hi K ht hn (v:=v) hkey;have hlt:=(gF.1 hi).1;have h3:=h2.aiH i (by rw[List.getElem?_set_self hlt]);rw[List.set_set]at h3;exact⟨w',h1,h3⟩
theorem Sep.Q5 (i:Nat) (h:Sep w0 w As) (hi:As[i]? =some (l7 k b L)) (K:Maps.Keyed Tryz.prog k) (ht:Tryz.prog.underlying t=some (.map k e)):
 ∃w',(Instr.range t (.map (some b))).run Tryz.prog w= .ok (.pointer (some ⟨w.heap.size,0,none⟩)) w'∧Sep w0 w' (As.set i (tK k b w.heap.size L.length L L))∧w'.heap.size=w.heap.size+1:=h.XY i hi K ht
theorem Sep.aeN {r:Nat} {left:List (Lit×Value)} (i:Nat) (h:Sep w0 w As) (hi:As[i]? =some (tK k b r L.length L left)):Sep w0 w (As.set i (l7 k b L)):=h.XZ i hi
end
end Go.Proofs.YteihmbaimbogaaaGreat
namespace Go.Proofs.YteihmbaimbogaaaGreat
open Go.RowKit Go.ChangeMaps Go.WideElems
set_option linter.unusedVariables false
set_option linter.unusedSimpArgs false
theorem findIdx_push {p:MapEntry→Bool} {es:Array MapEntry} {e:MapEntry} (h:∀x∈es.toList,p x=false) (he:p e=true):(es.push e).findIdx? p=some es.size:=by
 have h0:es.findIdx? p=none:=by rw[Array.findIdx?_eq_none_iff];intro x hx;exact h x (by simpa using hx)
 rw[Array.findIdx?_push,h0];simp[he]
theorem alN {α:Type} (f:α→α) (a:α) (l:List α):(l++[a]).modify l.length f=l++[f a]:=by
 induction l with
 |nil=>rfl
 |cons b r ih=>rw[List.cons_append,List.length_cons,List.modify_succ_cons,ih];rfl
set_option maxRecDepth 100000 in
theorem Sep.adG {w0 w:World} {As:List aU} {k e t:TypeId} {b:Nat} {L:List (Lit×Value)} (i:Nat) (h:Sep w0 w As) (hi:As[i]? =some (l7 k b L)) (K:Maps.Keyed Tryz.prog k) (ht:Tryz.prog.underlying t=some (.map k e)) {z:Value} (hz:∀w,(zeroValue e).run Tryz.prog w= .ok z w) (hn:L.length<maxLen) {key val:Value} {kl:Lit} (hkey:keyOf Tryz.prog k key=some kl) (hno:getM L kl=none):
  ∃st w1 w2,(Instr.mapEntry t (.map (some b)) key).run Tryz.prog w= .ok (.tuple #[z,.int .i64 st]) w1∧(Instr.entryStore t (.map (some b)) (.int .i64 st) val).run Tryz.prog w1= .ok () w2∧Sep w0 w2 (As.set i (l7 k b (KM L kl val)))∧w2.heap.size=w.heap.size:=by
 obtain⟨w',hrun,hS⟩:=h.nU i hi K ht hn (v:=val) hkey;obtain⟨F,⟨⟨D,⟨es,clock,hb,hfit,hsz,hD⟩,h2,h3,h4,h5⟩,_⟩,_⟩:=h.get i hi;have hkl:=K.key hkey;have aEX:Maps.has D kl=false:=by rw[h4 kl hkl,hno];rfl
 rcases K.find w hkey es.toList (fun e he=>by obtain⟨y,hy⟩:=hfit.reads e he;exact⟨_,rd_key hy⟩)with⟨f1,f2⟩|⟨j,e0,f1,f2,f3⟩
 ·have hst:=hfit.stamped.1;have hidx:(es.push ⟨key,z,clock⟩).findIdx? (fun e=>((e.born:Nat):Int)==((clock:Nat):Int))=some es.size:=
   findIdx_push (fun x hx=>by have:=hst x hx;exact beq_eq_false_iff_ne.2 (by omega)) (by simp)
  (have hmod:(es.push ⟨key,z,clock⟩).modify es.size (fun e=> {e with val:=val})=es.push ⟨key,val,clock⟩:=by apply Array.ext';rw[Array.toList_modify,Array.toList_push,Array.toList_push,←Array.length_toList,alN]);have hw2:(setBlock w b (.map (es.push ⟨key,z,clock⟩) (clock+1))).heap[b]? =some (.map (es.push ⟨key,z,clock⟩) (clock+1)):=heap_setBlock_same hb _;(have hup:(Instr.mapUpdate t (.map (some b)) key val).run Tryz.prog w= .ok () (setBlock w b (.map (es.push ⟨key,val,clock⟩) (clock+1))):=by simp[Instr.mapUpdate,run_underlying ht,MapKept.run_getObj_map hb,K.check w false hkey,f1,MapKept.run_setObj_map _ hb,Result.andThen,setBlock]);rw[hup]at hrun;injection hrun with _ hw;refine⟨clock,setBlock w b (.map (es.push ⟨key,z,clock⟩) (clock+1)),w',?_,?_,hS,?_⟩
  ·simp[Instr.mapEntry,run_underlying ht,MapKept.run_getObj_map hb,K.check w false hkey,f1,hz,MapKept.run_setObj_map _ hb,Result.andThen,setBlock,goInt]
  ·rw[←hw];(have hfin:setBlock (setBlock w b (.map (es.push ⟨key,z,clock⟩) (clock+1))) b (.map (es.push ⟨key,val,clock⟩) (clock+1))=setBlock w b (.map (es.push ⟨key,val,clock⟩) (clock+1)):=by simp[setBlock]);rw[←hfin];generalize setBlock w b (.map (es.push ⟨key,z,clock⟩) (clock+1))=W1 at hw2;simp[Instr.entryStore,MapKept.run_getObj_map hw2,asInt,asIntOf,goInt,hidx,hmod,MapKept.run_setObj_map _ hw2,Result.andThen,setBlock]
  rw[←hw];simp[setBlock]
 exfalso;have hlk:=h.alP i hi K ht (hz w) hkey;rw[hno]at hlk;have hck:=fun em=>K.check w em hkey
 simp[Instr.lookup,run_underlying ht,MapKept.run_getObj_map hb,hck,f1,Result.andThen]at hlk
end Go.Proofs.YteihmbaimbogaaaGreat
namespace Go.Proofs.YteihmbaimbogaaaGreat
open Ieee
set_option linter.unusedVariables false
theorem NV (neg:Bool) (q d:Nat) (hq:0<q):Toward.even.cut neg (q*2 ^ d) d=q:=by
 have hl:d≤(q*2 ^ d).log2:=by rw[Nat.le_log2 (Nat.ne_of_gt (Nat.mul_pos hq (Nat.two_pow_pos d)))];exact Nat.le_mul_of_pos_left _ hq
 unfold Toward.cut;have hm:min d ((q*2 ^ d).log2+2)=d:=by omega
 simp only[hm,Nat.one_shiftLeft];rw[Nat.mul_div_cancel _ (Nat.two_pow_pos d),Nat.mul_mod_left];have:=Nat.two_pow_pos d;simp
theorem X3 {m:Nat} (hm:0<m) (k:Nat):(m*2 ^ k).log2=m.log2+k:=by
 have h1:m*2 ^ k≠0:=Nat.ne_of_gt (Nat.mul_pos hm (Nat.two_pow_pos k));apply Nat.le_antisymm
 ·(have h2:(m*2 ^ k).log2<m.log2+k+1:=by rw[Nat.log2_lt h1];have:=(Nat.log2_lt (k:=m.log2+1) (Nat.ne_of_gt hm)).1 (Nat.lt_succ_self _);(have e:2 ^ (m.log2+k+1)=2 ^ (m.log2+1)*2 ^ k:=by rw[←Nat.pow_add];congr 1;omega);rw[e];exact Nat.mul_lt_mul_of_pos_right this (Nat.two_pow_pos k));omega
 rw[Nat.le_log2 h1,Nat.pow_add];exact Nat.mul_le_mul_right _ ((Nat.le_log2 (Nat.ne_of_gt hm)).1 (Nat.le_refl _))
def lack (m:Nat):Nat:=52-m.log2
theorem zG (neg:Bool) (m k:Nat) (hm:0<m) (h53:m<2 ^ 53) (hk:k≤1074):double.nearest neg (m*2 ^ k) (-(k:Int))=double.word neg (((1074-lack m:Nat))*2 ^ 52+m*2 ^ lack m):=by
 have hl:m.log2≤52:=by have:=(Nat.log2_lt (k:=53) (Nat.ne_of_gt hm)).2 h53;omega
 unfold Format.nearest;rw[if_neg (Nat.ne_of_gt (Nat.mul_pos hm (Nat.two_pow_pos k))),X3 hm];have e1:double.leastPlace= -1074:=by decide
 have e2:double.fractionBits=52:=rfl;have e3:double.binade=2 ^ 52:=rfl;have e4:double.infRung=2047*2 ^ 52:=by decide
 rw[e1,e2,e3,e4];have hlast:max (-(k:Int)+((m.log2+k:Nat):Int)-(52:Nat)) (-1074)= -((lack m:Nat):Int):=by unfold lack;omega
 rw[hlast];dsimp only;have hL:lack m≤52:=by unfold lack;omega
 have ht:(-((lack m:Nat):Int)- -1074).toNat=1074-lack m:=by omega
 rw[ht];have hkept:Toward.even.cut neg ((m*2 ^ k)<<<(-(k:Int)- -((lack m:Nat):Int)).toNat) (-((lack m:Nat):Int)- -(k:Int)).toNat=m*2 ^ lack m:=by
  rcases Nat.le_total k (lack m)with h|h
  ·(have a1:(-(k:Int)- -((lack m:Nat):Int)).toNat=lack m-k:=by omega);(have a2:(-((lack m:Nat):Int)- -(k:Int)).toNat=0:=by omega);rw[a1,a2,Nat.shiftLeft_eq];(have e:m*2 ^ k*2 ^ (lack m-k)=m*2 ^ lack m:=by rw[Nat.mul_assoc,←Nat.pow_add];congr 2;omega);rw[e];have:=NV neg (m*2 ^ lack m) 0 (Nat.mul_pos hm (Nat.two_pow_pos _));simpa using this
  (have a1:(-(k:Int)- -((lack m:Nat):Int)).toNat=0:=by omega);(have a2:(-((lack m:Nat):Int)- -(k:Int)).toNat=k-lack m:=by omega);rw[a1,a2,Nat.shiftLeft_zero];(have e:m*2 ^ k=m*2 ^ lack m*2 ^ (k-lack m):=by rw[Nat.mul_assoc,←Nat.pow_add];congr 2;omega);rw[e];exact NV neg _ _ (Nat.mul_pos hm (Nat.two_pow_pos _))
 rw[hkept];have hb:m*2 ^ lack m<2 ^ 53:=by
  have h1:=(Nat.log2_lt (k:=m.log2+1) (Nat.ne_of_gt hm)).1 (Nat.lt_succ_self _);have h2:m*2 ^ lack m<2 ^ (m.log2+1)*2 ^ lack m:=Nat.mul_lt_mul_of_pos_right h1 (Nat.two_pow_pos _);rw[←Nat.pow_add]at h2;have e:m.log2+1+lack m=53:=by unfold lack;omega
  rwa [e]at h2
 rw[Nat.min_eq_left (by omega)]
def fI (n:Int):Nat:=FloatKind.nearest .f64 n
theorem amY (n:Int):fI n=double.nearest (decide (n<0)) n.natAbs 0:=rfl
theorem N9 :fI 0=0:=by decide
def cO (n:Int):Prop:=n.natAbs<2 ^ 53
theorem aiI {n:Int} (hn:cO n) {k:Nat} (hk:k≤1074):double.nearest (decide (n<0)) (n.natAbs*2 ^ k) (-(k:Int))=fI n:=by
 rw[amY];rcases Nat.eq_zero_or_pos n.natAbs with h0|h0
 ·rw[h0,Nat.zero_mul];simp[Format.nearest]
 rw[zG _ _ _ h0 hn hk];have:=zG (decide (n<0)) n.natAbs 0 h0 hn (by decide);rw[←this];simp
theorem ac9 (L:Nat) (h:L=1074):double.read (fI 0)= .number (decide ((0:Int)<0)) ((0:Int).natAbs*2 ^ L) (-(L:Int)):=by rw[Int.natAbs_zero,Nat.zero_mul,N9,h];decide
set_option maxRecDepth 100000 in
theorem xN {n:Int} (hn:cO n):∃L:Nat,L≤1074∧double.read (fI n)= .number (decide (n<0)) (n.natAbs*2 ^ L) (-(L:Int)):=by
 rcases Nat.eq_zero_or_pos n.natAbs with h0|h0
 ·(have:n=0:=by omega);subst this;obtain⟨L,hL⟩:∃L,L=1074:=⟨_,rfl⟩;exact⟨L,by omega,ac9 L hL⟩
 have hl:n.natAbs.log2≤52:=by have:=(Nat.log2_lt (k:=53) (Nat.ne_of_gt h0)).2 hn;omega
 refine⟨lack n.natAbs,by unfold lack;omega,?_⟩;have e:=zG (decide (n<0)) n.natAbs 0 h0 hn (by decide);have e0:fI n=double.word (decide (n<0)) (((1074-lack n.natAbs:Nat))*2 ^ 52+n.natAbs*2 ^ lack n.natAbs):=by rw[amY,←e];simp
 have hb1:n.natAbs*2 ^ lack n.natAbs<2 ^ 53:=by
  have h1:=(Nat.log2_lt (k:=n.natAbs.log2+1) (Nat.ne_of_gt h0)).1 (Nat.lt_succ_self _);have h2:n.natAbs*2 ^ lack n.natAbs<2 ^ (n.natAbs.log2+1)*2 ^ lack n.natAbs:=Nat.mul_lt_mul_of_pos_right h1 (Nat.two_pow_pos _);rw[←Nat.pow_add]at h2;have e:n.natAbs.log2+1+lack n.natAbs=53:=by unfold lack;omega
  rwa [e]at h2
 have hb2:2 ^ 52≤n.natAbs*2 ^ lack n.natAbs:=by
  have h1:=(Nat.le_log2 (k:=n.natAbs.log2) (Nat.ne_of_gt h0)).1 (Nat.le_refl _);have h2:2 ^ n.natAbs.log2*2 ^ lack n.natAbs≤n.natAbs*2 ^ lack n.natAbs:=Nat.mul_le_mul_right _ h1;rw[←Nat.pow_add]at h2;have e:n.natAbs.log2+lack n.natAbs=52:=by unfold lack;omega
  rwa [e]at h2
 have hlk:lack n.natAbs≤52:=by unfold lack;omega
 rw[e0];generalize n.natAbs*2 ^ lack n.natAbs=q at hb1 hb2 ⊢;generalize lack n.natAbs=L at hlk ⊢;have hr:(1074-L)*2 ^ 52+q<2 ^ 63:=by omega
 have hd:((1074-L)*2 ^ 52+q)/2 ^ 52=1074-L+1:=by omega
 have hm:((1074-L)*2 ^ 52+q)%2 ^ 52=q-2 ^ 52:=by omega
 have e1:double.leastPlace= -1074:=by decide
 have e3:double.binade=2 ^ 52:=rfl;have e4:double.infRung=2047*2 ^ 52:=by decide
 have e5:double.signWeight=2 ^ 63:=rfl;unfold Format.read Format.word;rw[e1,e3,e4,e5];cases decide (n<0)with
 |false=>(have a1:((1074-L)*2 ^ 52+q)/2 ^ 63%2=0:=by omega);have a2:((1074-L)*2 ^ 52+q)%2 ^ 63=(1074-L)*2 ^ 52+q:=Nat.mod_eq_of_lt hr;simp only[Bool.false_eq_true,if_false,a1,a2,hd,hm];rw[if_neg (by omega),if_pos (by omega)];(have z1:2 ^ 52+(q-2 ^ 52)=q:=by omega);(have z2:(-1074:Int)+((1074-L+1-1:Nat):Int)= -(L:Int):=by omega);rw[z1,z2];rfl
 |true=>(have a1:(2 ^ 63+((1074-L)*2 ^ 52+q))/2 ^ 63%2=1:=by omega);(have a2:(2 ^ 63+((1074-L)*2 ^ 52+q))%2 ^ 63=(1074-L)*2 ^ 52+q:=by omega);simp only[if_true,a1,a2,hd,hm];rw[if_neg (by omega),if_pos (by omega)];(have z1:2 ^ 52+(q-2 ^ 52)=q:=by omega);(have z2:(-1074:Int)+((1074-L+1-1:Nat):Int)= -(L:Int):=by omega);rw[z1,z2];rfl
theorem o6 (n:Int) (L K:Nat) (h:L≤K):signed (decide (n<0)) (n.natAbs*2 ^ L) (-(L:Int)- -(K:Int)).toNat=n*2 ^ K:=by
 have e:(-(L:Int)- -(K:Int)).toNat=K-L:=by omega
 rw[e];unfold signed;rw[Nat.shiftLeft_eq,Nat.mul_assoc,←Nat.pow_add,Nat.add_sub_cancel' h];have hc:((n.natAbs*2 ^ K:Nat):Int)=(n.natAbs:Int)*2 ^ K:=by simp
 rw[hc];by_cases h0:n<0
 ·rw[if_pos (by simpa using h0)];(have:(n.natAbs:Int)= -n:=by omega);rw[this,Int.neg_mul,Int.neg_neg]
 rw[if_neg (by simpa using h0)];have:(n.natAbs:Int)=n:=by omega
 rw[this]
theorem P8 (a b:Nat):min (-(a:Int)) (-(b:Int))= -((max a b:Nat):Int):=by omega
theorem X4 (s:Bool) (m u:Nat):signed (!s) m u= -(signed s m u):=by unfold signed;cases s<;>simp
theorem EO (K:Nat):(0:Int)<2 ^ K:=by
 have:=Nat.two_pow_pos K;have e:((2 ^ K:Nat):Int)=2 ^ K:=by simp
 omega
theorem KG {a b:Int} {K:Nat} (hs:cO (a+b)) (hK:K≤1074) (z:Bool) (hz:a+b=0→z=false):
  double.write (.number (if a*2 ^ K+b*2 ^ K=0 then z else decide (a*2 ^ K+b*2 ^ K<0)) (a*2 ^ K+b*2 ^ K).natAbs (-(K:Int)))=fI (a+b):=by
 rw[←Int.add_mul];have hp:=EO K;have hna:((a+b)*2 ^ K).natAbs=(a+b).natAbs*2 ^ K:=by rw[Int.natAbs_mul,Int.natAbs_pow];rfl
 rw[hna];have hneg:(if(a+b)*2 ^ K=0 then z else decide ((a+b)*2 ^ K<0))=decide (a+b<0):=by
  by_cases h0:a+b=0
  ·rw[h0,Int.zero_mul,if_pos rfl,hz h0];rfl
  have h1:(a+b)*2 ^ K≠0:=Int.mul_ne_zero h0 (by omega);rw[if_neg h1];apply decide_eq_decide.2;constructor
  ·intro h;rw[Int.mul_comm]at h;exact Int.neg_of_mul_neg_right h (by omega)
  intro h;exact Int.mul_neg_of_neg_of_pos h hp
 rw[hneg];exact aiI hs hK
theorem adR {a b:Int} (ha:cO a) (hb:cO b) (hs:cO (a+b)):floatBits .add .f64 (fI a) (fI b)=some (fI (a+b)):=by
 obtain⟨L,hL,ra⟩:=xN ha;obtain⟨M,hM,rb⟩:=xN hb;show double.add (fI a) (fI b)=_
 unfold Format.add;rw[ra,rb];unfold Datum.sum;simp only[P8,Option.map_some];rw[o6 a L _ (Nat.le_max_left _ _),o6 b M _ (Nat.le_max_right _ _)];congr 1;refine KG hs (by omega) _ fun h=>?_
 by_cases h1:a<0
 ·(have:¬b<0:=by omega);simp[this]
 simp[h1]
theorem adS {a b:Int} (ha:cO a) (hb:cO b) (hs:cO (a-b)):floatBits .sub .f64 (fI a) (fI b)=some (fI (a-b)):=by
 obtain⟨L,hL,ra⟩:=xN ha;obtain⟨M,hM,rb⟩:=xN hb;show double.sub (fI a) (fI b)=_
 unfold Format.sub;rw[ra,rb];unfold Datum.opposite Datum.sum;simp only[P8,Option.map_some];rw[X4,o6 a L _ (Nat.le_max_left _ _),o6 b M _ (Nat.le_max_right _ _)];congr 1;rw[←Int.neg_mul];refine KG (b:= -b) (by simpa[Int.sub_eq_add_neg]using hs) (by omega) _ fun h=>?_
 by_cases h1:a<0
 ·(have:b<0:=by omega);simp[this]
 simp[h1]
theorem HZ {a b:Int} (ha:cO a) (hb:cO b):double.order (fI a) (fI b)=some (compare a b):=by
 obtain⟨L,hL,ra⟩:=xN ha;obtain⟨M,hM,rb⟩:=xN hb;unfold Format.order;rw[ra,rb];unfold Datum.order;simp only[P8];rw[o6 a L _ (Nat.le_max_left _ _),o6 b M _ (Nat.le_max_right _ _)];congr 1;have hp:=EO (max L M);rcases Int.lt_trichotomy a b with h|h|h
 ·rw[Int.compare_eq_lt.2 h,Int.compare_eq_lt];exact Int.mul_lt_mul_of_pos_right h hp
 ·subst h;rw[Int.compare_eq_eq.2 rfl];exact(Int.compare_eq_eq.2 rfl).symm
 rw[Int.compare_eq_gt.2 h,Int.compare_eq_gt];exact Int.mul_lt_mul_of_pos_right h hp
end Go.Proofs.YteihmbaimbogaaaGreat
namespace Go.Proofs.YteihmbaimbogaaaGreat
def fP (b i:Int):Value:=.complex .f64 (fI b) (fI i)
end Go.Proofs.YteihmbaimbogaaaGreat
