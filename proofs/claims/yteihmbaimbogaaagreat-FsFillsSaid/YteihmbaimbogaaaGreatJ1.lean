/- Mem, Post, Sep, Laws, laid together. -/
import Derived.WalkKit
import Derived.WalkSpells
import Derived.WalkLawsBesides
import Derived.Deep.DeepFit
import Derived.Deep.Draws
import Derived.Deep.AppendLies
import Derived.Lib.Hide
import Derived.Deep.QuietTactic
import Derived.BigQuiet
import Derived.StillTailTactics
import Derived.Test.YteihmbaimbogaaaGreatRows
import Derived.ProofKit
import Derived.OpenShut
import Derived.Below
import Derived.ChangeSame
import Derived.WideKeyArgs
import Derived.Deep.Matrix
namespace Go.Proofs.YteihmbaimbogaaaGreat
theorem gA {α:Type _} {l:List α} {i:Nat}:l.toArray[i]? =l[i]? :=List.getElem?_toArray
theorem gB {α:Type _} {a:α} {l:List α}:(a::l)[0]? =some a:=rfl
theorem gC {α:Type _} {a:α} {l:List α} {i:Nat}:(a::l)[i+1]? =l[i]? :=rfl
theorem gD {α:Type _} (l:List α) (i:Nat) (a:α):l.toArray.setIfInBounds i a=(l.set i a).toArray:=List.setIfInBounds_toArray l i a
theorem gE {α:Type _} {l:List α} {i:Nat} (h:i<l.length):l[i]? =some l[i]:=List.getElem?_eq_getElem h
theorem gF {α:Type _} {i:Nat} {a:α} {l:List α}:l[i]? =some a↔∃h,l[i]=a:=List.getElem?_eq_some_iff
theorem gG {α:Type _} {l:List α} {i:Nat} {a:α} (h:l[i]? =some a):a∈l:=List.mem_of_getElem? h
theorem gH {α:Type _} {l:List α} {i:Nat} {a:α}:l.getD i a=l[i]?.getD a:=List.getD_eq_getElem?_getD
theorem Lh {p:Prop} (h:p):Go.RowKit.Hid p:=Go.Lib.hid h
open Go.RowKit
theorem zH (a:Addr) (n:Nat):(a.add n).block=a.block:=by unfold Addr.add;split<;>rfl
def Rd (w:World) (sz:Nat) (v:Value) (n:Nat) (cs:List Value):Prop:=
 cs.length=n*sz∧∃A c,v= .slice A n c∧n≤c∧c≤maxLen∧
  (0<n→∃ad,A=some ad∧ad.block<w.heap.size∧∀j u,cs[j]? =some u→w.cell? (ad.add j)=some u)
def FU (w:World) (v:Value) (xs:List Int):Prop:=Rd w 1 v xs.length (xs.map (.int .i64))
section
variable {w w':World} {sz n:Nat} {v:Value} {cs:List Value}
theorem Rd.shape (h:Rd w sz v n cs):∃A c,v= .slice A n c∧n≤maxLen:=by obtain⟨_,A,c,rfl,h1,h2,_⟩:=h;exact⟨A,c,rfl,Nat.le_trans h1 h2⟩
theorem Rd.at_ {k:Nat} (h:Rd w 1 v n cs) (hk:k<n):∃ad c u,v= .slice (some ad) n c∧cs[k]? =some u∧w.cell? (ad.add k)=some u:=by
 obtain⟨hl,A,c,rfl,h1,h2,h3⟩:=h;obtain⟨ad,rfl,hb,hc⟩:=h3 (by omega);have hk':k<cs.length:=by omega
 exact⟨ad,c,cs[k],rfl,gE hk',hc k _ (gE hk')⟩
theorem Rd.below (h:Rd w sz v n cs) (hk:Below w.heap.size w w'):Rd w' sz v n cs:=by obtain⟨hl,A,c,rfl,h1,h2,h3⟩:=h;refine⟨hl,A,c,rfl,h1,h2,fun hn=>?_⟩;obtain⟨ad,rfl,hb,hc⟩:=h3 hn;exact⟨ad,rfl,Nat.lt_of_lt_of_le hb hk.size,fun j u hu=>(World.cell?_of_block (by rw[zH];exact hk.block _ hb)).trans (hc j u hu)⟩
end
section
variable {w w':World} {v:Value} {xs:List Int} {xss:List (List Int)} {bs:List Bool} {bss:List (List Bool)}
theorem FU.shape (h:FU w v xs):∃A c,v= .slice A xs.length c∧xs.length≤maxLen:=Rd.shape h
end
open Go.ChangeShapes Go.WideShapes Go.ChangeAt Go.RowKit Go.Deep
set_option linter.unusedVariables false
section
variable {H:Type} {enc:TypeId×Value→H} {P:Program}
theorem post_below {f:Func} {s:ChangeSpec} {apart fresh handsOn again:Bool} {W W':World} {args:Array Value} {v:Value} {ds gs:List (DataW H)} {before pa pv:List MemPlace}
  (hW:DataW.Whole enc P f.params.toList s.vars apart W args.toList ds gs before)
  (hres:∀(b:Nat) (sp:Nat→Bool) (hd:Bool),DataW.TrodAll enc P W' b sp hd f.resultTypes.toList (v.resultList f.resultTypes.size) (s.fn H (ds++gs)).results [])
  (hargs:∀sp:Nat→Bool,(∀p∈before,sp p.block=true)→DataW.TrodAll enc P W' 0 sp true f.params.toList args.toList (s.fn H (ds++gs)).args pa)
  (hvars:∀sp:Nat→Bool,(∀p∈before,sp p.block=true)→DataW.TrodVars enc P W' sp s.vars (s.fn H (ds++gs)).vars pv)
  (hps:before=pa++pv) (hb:Below W.heap.size W W')
  (hok:∀(j:Nat) (t:TypeId) (r:Value),f.resultTypes[j]? =some t→(v.resultList f.resultTypes.size)[j]? =some r→Value.okWide P W' .any 0 t r):
  s.post enc P f apart fresh handsOn again W args v W':=by
 have hlt:∀p∈before,p.block<W.heap.size:=fun p hp=>hW.lt p hp
 have hold:∀p∈before,(fun b=>decide (b<W.heap.size)) p.block=true:=fun p hp=>by simpa using hlt p hp
 refine⟨ds,gs,before,[],pa,pv,hW,hres _ _ _,hargs _ hold,hvars _ hold,World.keptBut_mono (fun p hp=>⟨hp,?_⟩) (hb.frame (· ∈before)),fun _=>?_⟩
 ·rw[hps,List.mem_append]at hp;exact Or.inr hp
 obtain⟨_,_,_,_,_,hz,hn⟩:=hW;refine⟨hok,_,_,([]++pa)++pv,⟨[]++pa,pv,trodAll_append (hargs _ (fun _ _=>rfl)) (hres _ _ _),hvars _ (fun _ _=>rfl),rfl,?_,?_⟩,?_⟩
 ·intro b off hp;(have hin:MemPlace.cell b off∈before:=by rw[hps];simpa using hp);rw[hb.frozen (hlt _ hin)];exact hz b off hin
 ·intro ha;have:=hn ha;rw[hps]at this;simpa using this
 intro p hp _;rw[hps];simpa using hp
end
end Go.Proofs.YteihmbaimbogaaaGreat
namespace Go.Proofs.YteihmbaimbogaaaGreat
open Go.RowKit
structure j3 (w w':World) (F:List Nat):Prop where
 os:w'.os=w.os
 tape:w'.tape=w.tape
 output:w'.output=w.output
 size:w.heap.size≤w'.heap.size
 block:∀k,k<w.heap.size→k∉F→w'.heap[k]? =w.heap[k]?
theorem j3.refl (w:World) (F:List Nat):j3 w w F:=⟨rfl,rfl,rfl,Nat.le_refl _,fun _ _ _=>rfl⟩
theorem j3.o7 {w w':World} {row:Option Nat} (h:w.grownBy w' row):j3 w w' row.toList:=
 ⟨h.os,h.tape,h.output,h.size,fun k hk hn=>h.block k hk (fun e=>hn (by rw[←e];simp))⟩
theorem j3.setCell (w:World) (a:Addr) (u:Value):j3 w (w.setCell a u) [a.block]:=
 ⟨rfl,rfl,rfl,by simp[World.setCell],fun k _ hn=>Below.heap_setCell w a u k (by simpa using hn)⟩
theorem j3.below {w w':World} {F:List Nat} {B:Nat} (h:j3 w w' F) (hB:B≤w.heap.size) (hF:∀b,b∈F→B≤b):Below B w w':=
 ⟨h.os,h.tape,h.output,h.size,fun k hk=>h.block k (by omega) (fun hm=>by have:=hF k hm;omega)⟩
structure aU where
 on:World→List Nat→Prop
 loc:∀(w w':World) (F:List Nat),on w F→(∀b,b∈F→w'.heap[b]? =w.heap[b]?)→on w' F
 fin:∀(w:World) (F:List Nat),on w F→F.Nodup∧∀b,b∈F→b<w.heap.size
theorem lt_of_heap {w:World} {b:Nat} {o:Obj} (h:w.heap[b]? =some o):b<w.heap.size:=(Array.getElem?_eq_some_iff.1 h).1
def aU.emp :aU:=⟨fun _ F=>F=[],fun _ _ _ h _=>h,fun _ _ h=>by subst h;simp⟩
def jA (w:World):List aU→List (List Nat)→Prop
 |[],Fs=>Fs=[]
 |A::As,Fs=>∃F Gs,Fs=F::Gs∧A.on w F∧jA w As Gs
theorem jA.append {w:World} {As Bs:List aU}:∀ {Fs:List (List Nat)},jA w (As++Bs) Fs↔∃Gs Hs,Fs=Gs++Hs∧jA w As Gs∧jA w Bs Hs:=by
 induction As with
 |nil=>
  intro Fs;constructor
  ·intro h;exact⟨[],Fs,rfl,rfl,h⟩
  rintro⟨_,_,rfl,rfl,h⟩;exact h
 |cons A As ih=>
  intro Fs;simp only[List.cons_append,jA];constructor
  ·rintro⟨F,Gs,rfl,h1,h2⟩;obtain⟨G1,G2,rfl,h3,h4⟩:=ih.1 h2;exact⟨F::G1,G2,rfl,⟨F,G1,rfl,h1,h3⟩,h4⟩
  rintro⟨G1,G2,rfl,⟨F,Gs,rfl,h1,h2⟩,h3⟩;exact⟨F,Gs++G2,rfl,h1,ih.2 ⟨Gs,G2,rfl,h2,h3⟩⟩
theorem jA.loc {w w':World} {As:List aU}:∀ {Fs:List (List Nat)},jA w As Fs→(∀b,b∈Fs.flatten→w'.heap[b]? =w.heap[b]?)→jA w' As Fs:=by
 induction As with
 |nil=>intro Fs h _;exact h
 |cons A As ih=>rintro Fs ⟨F,Gs,rfl,h1,h2⟩ hk;exact⟨F,Gs,rfl,A.loc _ _ _ h1 (fun b hb=>hk b (by simp[hb])),ih h2 (fun b hb=>hk b (by rw[List.flatten_cons,List.mem_append];exact .inr hb))⟩
theorem jA.lt {w:World} {As:List aU}:∀ {Fs:List (List Nat)},jA w As Fs→∀b,b∈Fs.flatten→b<w.heap.size:=by
 induction As with
 |nil=>intro Fs h b hb;subst h;simp at hb
 |cons A As ih=>
  rintro Fs ⟨F,Gs,rfl,h1,h2⟩ b hb;rw[List.flatten_cons,List.mem_append]at hb;rcases hb with hb|hb
  ·exact(A.fin _ _ h1).2 b hb
  exact ih h2 b hb
def Sep (w0 w:World) (As:List aU):Prop:=
 Below w0.heap.size w0 w∧∃Fs,jA w As Fs∧Fs.flatten.Nodup∧∀b,b∈Fs.flatten→w0.heap.size≤b
section
variable {w0 w w':World} {As R:List aU} {A A':aU}
theorem Sep.below (h:Sep w0 w As):Below w0.heap.size w0 w:=h.1
theorem Sep.base (h:Sep w0 w As):w0.heap.size≤w.heap.size:=h.1.size
theorem Sep.nil (w:World):Sep w w []:=⟨Below.refl _ _,[],rfl,by simp,by simp⟩
theorem Sep.pure (h:Sep w0 w As) (hb:Below w.heap.size w w'):Sep w0 w' As:=by obtain⟨h1,Fs,h3,h4,h5⟩:=h;exact⟨h1.trans (hb.mono h1.size),Fs,h3.loc (fun b hm=>hb.block b (h3.lt b hm)),h4,h5⟩
theorem Sep.drew (h:Sep w0 w As):Sep w0 w.drew As:=h.pure ((Below.refl _ _).drew)
theorem Sep.drewN (h:Sep w0 w As) (n:Nat):Sep w0 (w.drewN n) As:=
 h.pure ⟨rfl,rfl,rfl,Nat.le_refl _,fun _ _=>rfl⟩
theorem Sep.new {F:List Nat} (h:Sep w0 w As) (hb:Below w.heap.size w w') (ha:A.on w' F) (hF:∀b,b∈F→w.heap.size≤b):Sep w0 w' (A::As):=by
 have hbase:=h.base;obtain⟨h1,Fs,h3,h4,h5⟩:=h;refine⟨h1.trans (hb.mono hbase),F::Fs,⟨F,Fs,rfl,ha,h3.loc (fun b hm=>hb.block b (h3.lt b hm))⟩,?_,?_⟩
 ·rw[List.flatten_cons,List.nodup_append];exact⟨(A.fin _ _ ha).1,h4,fun a haF b hbF=>by have:=hF a haF;have:=h3.lt b hbF;omega⟩
 intro b hm;rw[List.flatten_cons,List.mem_append]at hm;rcases hm with hm|hm
 ·have:=hF b hm;omega
 exact h5 b hm
theorem Sep.turn {X Y:List aU} (h:Sep w0 w (X++A::Y))
  (hc:∀F,A.on w F→(∀b,b∈F→w0.heap.size≤b)→∃F',A'.on w' F'∧(∀b,b∈F'→b∈F∨w.heap.size≤b)∧j3 w w' F):Sep w0 w' (X++A'::Y):=by
 have hbase:=h.base;obtain⟨h1,Fs,h3,h4,h5⟩:=h;obtain⟨Gs,Hs,rfl,h6,F,Hs',rfl,h7,h8⟩:=jA.append.1 h3;have hG:∀b,b∈Gs.flatten→b<w.heap.size:=h6.lt;have hH:∀b,b∈Hs'.flatten→b<w.heap.size:=h8.lt;simp only[List.flatten_append,List.flatten_cons,List.nodup_append,List.mem_append]at h4 h5;obtain⟨F',ha,hsub,hk⟩:=hc F h7 (fun b hb=>h5 b (.inr (.inl hb)));obtain⟨n1,⟨n2,n3,n4⟩,n5⟩:=h4;refine⟨h1.trans (hk.below hbase (fun b hb=>h5 b (.inr (.inl hb)))),Gs++F'::Hs',jA.append.2 ⟨Gs,F'::Hs',rfl,h6.loc (fun b hb=>hk.block b (hG b hb) (fun hf=>n5 b hb b (.inl hf) rfl)),F',Hs',rfl,ha,h8.loc (fun b hb=>hk.block b (hH b hb) (fun hf=>n4 b hf b hb rfl))⟩,?_,?_⟩
 ·simp only[List.flatten_append,List.flatten_cons,List.nodup_append,List.mem_append];refine⟨n1,⟨(A'.fin _ _ ha).1,n3,fun a haF b hb=>?_⟩,fun a haG b hb=>?_⟩
  ·rcases hsub a haF with hf|hf
   ·exact n4 a hf b hb
   have:=hH b hb;omega
  rcases hb with hb|hb
  ·rcases hsub b hb with hf|hf
   ·exact n5 a haG b (.inl hf)
   have:=hG a haG;omega
  exact n5 a haG b (.inr hb)
 intro b hm;simp only[List.flatten_append,List.flatten_cons,List.mem_append]at hm;rcases hm with hm|hm|hm
 ·exact h5 b (.inl hm)
 ·rcases hsub b hm with hf|hf
  ·exact h5 b (.inr (.inl hf))
  omega
 exact h5 b (.inr (.inr hm))
theorem nM {α:Type}:∀ {l:List α} {i:Nat} {x:α},l[i]? =some x→l=l.take i++x::l.drop (i+1)∧∀y,l.set i y=l.take i++y::l.drop (i+1)
 |[],i,x,h=>by simp at h
 |a::l,0,x,h=>by simp at h;subst h;simp
 |a::l,i+1,x,h=>by
  (have h':l[i]? =some x:=by simpa using h);obtain⟨e1,e2⟩:=nM h';refine⟨?_,fun y=>?_⟩
  ·simp only[List.take_succ_cons,List.drop_succ_cons,List.cons_append];rw[←e1]
  simp only[List.set_cons_succ,List.take_succ_cons,List.drop_succ_cons,List.cons_append];rw[e2 y]
theorem Sep.step (i:Nat) (h:Sep w0 w As) (hi:As[i]? =some A)
  (hc:∀F,A.on w F→(∀b,b∈F→w0.heap.size≤b)→∃F',A'.on w' F'∧(∀b,b∈F'→b∈F∨w.heap.size≤b)∧j3 w w' F):Sep w0 w' (As.set i A'):=by
 obtain⟨e1,e2⟩:=nM hi;rw[e2];rw[e1]at h;exact h.turn hc
theorem Sep.get (i:Nat) (h:Sep w0 w As) (hi:As[i]? =some A):∃F,A.on w F∧∀b,b∈F→w0.heap.size≤b∧b<w.heap.size:=by obtain⟨h1,Fs,h3,h4,h5⟩:=h;rw[(nM hi).1]at h3;obtain⟨Gs,Hs,rfl,h6,F,Hs',rfl,h7,h8⟩:=jA.append.1 h3;exact⟨F,h7,fun b hb=>⟨h5 b (by simp[hb]),(A.fin _ _ h7).2 b hb⟩⟩
theorem Sep.join {Bs:List aU} (h:Sep w0 w As) (k:Sep w w' Bs):Sep w0 w' (Bs++As):=by
 have hbase:=h.base;obtain⟨h1,Fs,h3,h4,h5⟩:=h;obtain⟨k1,Gs,k3,k4,k5⟩:=k;refine⟨h1.trans (k1.mono hbase),Gs++Fs,jA.append.2 ⟨Gs,Fs,rfl,k3,h3.loc (fun b hm=>k1.block b (h3.lt b hm))⟩,?_,?_⟩
 ·rw[List.flatten_append,List.nodup_append];exact⟨k4,h4,fun a ha b hb=>by have:=k5 a ha;have:=h3.lt b hb;omega⟩
 intro b hm;rw[List.flatten_append,List.mem_append]at hm;rcases hm with hm|hm
 ·have:=k5 b hm;omega
 exact h5 b hm
theorem Sep.same {Bs:List aU} (h:Sep w0 w As) (hc:∀Fs,jA w As Fs→Fs.flatten.Nodup→∃Gs,jA w Bs Gs∧Gs.flatten.Nodup∧∀b,b∈Gs.flatten→b∈Fs.flatten):Sep w0 w Bs:=by obtain⟨h1,Fs,h3,h4,h5⟩:=h;obtain⟨Gs,g1,g2,g3⟩:=hc Fs h3 h4;exact⟨h1,Gs,g1,g2,fun b hb=>h5 b (g3 b hb)⟩
theorem Sep.fst {X Y:List aU} (h:Sep w0 w (X++Y)):Sep w0 w X:=h.same fun Fs hf hn=>by obtain⟨Gs,Hs,rfl,h6,h7⟩:=jA.append.1 hf;rw[List.flatten_append,List.nodup_append]at hn;exact⟨Gs,h6,hn.1,fun b hb=>by rw[List.flatten_append];exact List.mem_append.2 (.inl hb)⟩
theorem Sep.snd {X Y:List aU} (h:Sep w0 w (X++Y)):Sep w0 w Y:=h.same fun Fs hf hn=>by obtain⟨Gs,Hs,rfl,h6,h7⟩:=jA.append.1 hf;rw[List.flatten_append,List.nodup_append]at hn;exact⟨Hs,h7,hn.2.1,fun b hb=>by rw[List.flatten_append];exact List.mem_append.2 (.inr hb)⟩
theorem Sep.perm {Bs:List aU} (h:Sep w0 w As) (hp:As.Perm Bs):Sep w0 w Bs:=by
 refine h.same ?_;clear h
 induction hp with
 |nil=>intro Fs hf hn;exact⟨Fs,hf,hn,fun _ h=>h⟩
 |cons x _ ih=>
  rintro Fs ⟨F,Gs,rfl,h1,h2⟩ hn;rw[List.flatten_cons,List.nodup_append]at hn;obtain⟨Gs',g1,g2,g3⟩:=ih Gs h2 hn.2.1;refine⟨F::Gs',⟨F,Gs',rfl,h1,g1⟩,?_,?_⟩
  ·rw[List.flatten_cons,List.nodup_append];exact⟨hn.1,g2,fun a ha b hb=>hn.2.2 a ha b (g3 b hb)⟩
  intro b hb;rw[List.flatten_cons,List.mem_append]at hb ⊢;rcases hb with hb|hb
  ·exact .inl hb
  exact .inr (g3 b hb)
 |swap x y l=>
  rintro Fs ⟨F,Gs,rfl,h1,G,Hs,rfl,h2,h3⟩ hn;refine⟨G::F::Hs,⟨G,F::Hs,rfl,h2,F,Hs,rfl,h1,h3⟩,?_,?_⟩
  ·simp only[List.flatten_cons,List.nodup_append,List.mem_append]at hn ⊢;obtain⟨n1,⟨n2,n3,n4⟩,n5⟩:=hn;refine⟨n2,⟨n1,n3,fun a ha b hb=>n5 a ha b (.inr hb)⟩,fun a ha b hb=>?_⟩;rcases hb with hb|hb
   ·exact(n5 b hb a (.inl ha)).symm
   exact n4 a ha b hb
  intro b hb;simp only[List.flatten_cons,List.mem_append]at hb ⊢;rcases hb with hb|hb|hb
  ·exact .inr (.inl hb)
  ·exact .inl hb
  exact .inr (.inr hb)
 |trans _ _ ih1 ih2=>intro Fs hf hn;obtain⟨Gs,g1,g2,g3⟩:=ih1 Fs hf hn;obtain⟨Hs,k1,k2,k3⟩:=ih2 Gs g1 g2;exact⟨Hs,k1,k2,fun b hb=>g3 b (k3 b hb)⟩
theorem QD {α:Type} (l:List α) (d:α) (is:List Nat) (h:is.Perm (List.range l.length)):l.Perm (is.map fun i=>l.getD i d):=by
 have e:l=(List.range l.length).map fun i=>l.getD i d:=by
  apply List.ext_getElem?;intro i;by_cases hi:i<l.length
  ·simp[hi,List.getD]
  simp[hi]
 exact(List.Perm.of_eq e).trans (h.symm.map _)
theorem Sep.bZ (is:List Nat) (h:Sep w0 w As) (hp:is.Perm (List.range is.length)) (hl:is.length≤As.length):Sep w0 w ((is.map fun i=>(As.take is.length).getD i aU.emp)++As.drop is.length):=by
 have e:As=As.take is.length++As.drop is.length:=(List.take_append_drop _ _).symm;have hlen:(As.take is.length).length=is.length:=by simp;omega
 rw[e]at h;exact h.perm ((QD _ aU.emp is (by rw[hlen];exact hp)).append_right _)
theorem Sep.drop (n:Nat) (h:Sep w0 w As):Sep w0 w (As.drop n):=by rw[←List.take_append_drop n As]at h;exact h.snd
end
def aU.pure (p:Prop):aU:=⟨fun _ F=>p∧F=[],fun _ _ _ h _=>h,fun _ _ h=>by rw[h.2];simp⟩
def aU.ex {α:Type} (A:α→aU):aU:=⟨fun w F=>∃x,(A x).on w F,fun w w' F ⟨x,h⟩ hk=>⟨x,(A x).loc w w' F h hk⟩,fun w F ⟨x,h⟩=>(A x).fin w F h⟩
def aU.star (A B:aU):aU:=
 ⟨fun w F=>F.Nodup∧∃F1 F2,F=F1++F2∧A.on w F1∧B.on w F2,
  fun w w' _ ⟨hn,F1,F2,e,h1,h2⟩ hk=>⟨hn,F1,F2,e,A.loc w w' F1 h1 (fun b hb=>hk b (by rw[e];exact List.mem_append.2 (.inl hb))),B.loc w w' F2 h2 (fun b hb=>hk b (by rw[e];exact List.mem_append.2 (.inr hb)))⟩,
  fun w _ ⟨hn,F1,F2,e,h1,h2⟩=>⟨hn,fun b hb=>by
   rw[e,List.mem_append]at hb;rcases hb with hb|hb
   ·exact(A.fin w F1 h1).2 b hb
   exact(B.fin w F2 h2).2 b hb⟩⟩
def aU.bX :List aU→aU
 |[]=>aU.emp
 |A::As=>aU.star A (aU.bX As)
def aU.box (b:Nat) (t:TypeId) (cs:Array Value):aU:=
 ⟨fun w F=>w.heap[b]? =some (.cells cs t (0,0))∧F=[b],
  fun w w' F h hk=>⟨by rw[hk b (by rw[h.2];simp)];exact h.1,h.2⟩,
  fun w F h=>by rw[h.2];exact⟨by simp,fun b' hb=>by simp at hb;subst hb;exact lt_of_heap h.1⟩⟩
def aU.sl (e:TypeId) (sz:Nat) (v:Value) (n:Nat) (cs:List Value):aU:=
 ⟨fun w F=>w.ownsRow 0 e sz v n cs∧F=v.ownBlock.toList,
  fun w w' F ⟨h,hF⟩ hk=>⟨by
   refine⟨h.1,?_⟩;rcases h.2 with h|⟨g,cap,cur,hv,hb,hg,r⟩
   ·exact .inl h
   exact .inr ⟨g,cap,cur,hv,hb,by rw[hk g (by rw[hF,hv];simp[Value.ownBlock])];exact hg,r⟩,hF⟩,
  fun w F ⟨h,hF⟩=>by subst hF;refine⟨by cases v.ownBlock<;>simp,fun b hb=>?_⟩;(have:v.ownBlock=some b:=by simpa using hb);exact(h.lt b this).2⟩
section
variable {w0 w w':World} {As R:List aU} {A C:aU}
theorem Sep.FB {α:Type} {A:α→aU} (h:Sep w0 w (aU.ex A::R)):∃x,Sep w0 w (A x::R):=by obtain⟨h1,Fs,⟨F,Gs,rfl,⟨x,h3⟩,h4⟩,h5,h6⟩:=h;exact⟨x,h1,F::Gs,⟨F,Gs,rfl,h3,h4⟩,h5,h6⟩
theorem Sep.FC {α:Type} {A:α→aU} (x:α) (h:Sep w0 w (A x::R)):Sep w0 w (aU.ex A::R):=by obtain⟨h1,Fs,⟨F,Gs,rfl,h3,h4⟩,h5,h6⟩:=h;exact⟨h1,F::Gs,⟨F,Gs,rfl,⟨x,h3⟩,h4⟩,h5,h6⟩
theorem Sep.LG {p:Prop} (h:Sep w0 w (aU.pure p::R)):p∧Sep w0 w R:=by obtain⟨h1,Fs,⟨F,Gs,rfl,⟨hp,rfl⟩,h4⟩,h5,h6⟩:=h;exact⟨hp,h1,Gs,h4,by simpa using h5,by simpa using h6⟩
theorem Sep.LH {p:Prop} (hp:p) (h:Sep w0 w R):Sep w0 w (aU.pure p::R):=by obtain⟨h1,Fs,h4,h5,h6⟩:=h;exact⟨h1,[]::Fs,⟨[],Fs,rfl,⟨hp,rfl⟩,h4⟩,by simpa using h5,by simpa using h6⟩
theorem Sep.QE (h:Sep w0 w (aU.emp::R)):Sep w0 w R:=h.drop 1
theorem Sep.rH (h:Sep w0 w R):Sep w0 w (aU.emp::R):=by obtain⟨h1,Fs,h4,h5,h6⟩:=h;exact⟨h1,[]::Fs,⟨[],Fs,rfl,rfl,h4⟩,by simpa using h5,by simpa using h6⟩
theorem Sep.gX (h:Sep w0 w (aU.star A C::R)):Sep w0 w (A::C::R):=h.same fun Fs hf hn=>by obtain⟨F,Gs,rfl,⟨_,F1,F2,rfl,h3,h4⟩,h5⟩:=hf;exact⟨F1::F2::Gs,⟨F1,_,rfl,h3,F2,Gs,rfl,h4,h5⟩,by simpa[List.append_assoc]using hn,fun b hb=>by simpa[or_assoc]using hb⟩
theorem Sep.jU (h:Sep w0 w (A::C::R)):Sep w0 w (aU.star A C::R):=h.same fun Fs hf hn=>by
 obtain⟨F1,Gs',rfl,h3,F2,Gs,rfl,h4,h5⟩:=hf;have hn':((F1++F2)++Gs.flatten).Nodup:=by simpa[List.append_assoc]using hn
 exact⟨(F1++F2)::Gs,⟨F1++F2,Gs,rfl,⟨(List.nodup_append.1 hn').1,F1,F2,rfl,h3,h4⟩,h5⟩,by simpa using hn',fun b hb=>by simpa[or_assoc]using hb⟩
theorem Sep.aS :∀ {As:List aU} {R:List aU},Sep w0 w (aU.bX As::R)→Sep w0 w (As++R)
 |[],_,h=>h.QE
 |A::As,R,h=>by have h1:=h.gX;have h2:Sep w0 w (aU.bX As::A::R):=h1.perm (List.Perm.swap _ _ _);have h3:=aS h2;exact h3.perm List.perm_middle
theorem Sep.bM :∀ {As:List aU} {R:List aU},Sep w0 w (As++R)→Sep w0 w (aU.bX As::R)
 |[],_,h=>h.rH
 |A::As,R,h=>by have h1:Sep w0 w (As++A::R):=h.perm List.perm_middle.symm;have h2:=bM h1;exact(h2.perm (List.Perm.swap _ _ _)).jU
end
section
variable {w0 w w':World} {As R:List aU} {e:TypeId} {sz n:Nat} {v:Value} {cs:List Value}
theorem Sep.iP (i:Nat) (h:Sep w0 w As) (hi:As[i]? =some (.sl e sz v n cs)) (hn:0<n):
  ∃g cap,v= .slice (some ⟨g,0,none⟩) n cap∧w0.heap.size≤g∧g<w.heap.size∧n≤cap∧cap≤maxLen:=by
 obtain⟨F,⟨ho,rfl⟩,hF⟩:=h.get i hi;rcases ho.2 with⟨_,h0⟩|⟨g,cap,cur,hv,_,hg,hc,hm,_⟩
 ·omega
 have:=hF g (by rw[hv];simp[Value.ownBlock]);exact⟨g,cap,hv,this.1,this.2,hc,hm⟩
theorem Sep.vB (i:Nat) (h:Sep w0 w As) (hi:As[i]? =some (.sl e sz v n cs)):
  ∃A cap,v= .slice A n cap∧n≤cap∧cap≤maxLen∧cs.length=n*sz:=by
 obtain⟨F,⟨ho,rfl⟩,hF⟩:=h.get i hi;rcases ho.2 with⟨rfl,rfl⟩|⟨g,cap,cur,hv,_,hg,hc,hm,_⟩
 ·exact⟨none,0,rfl,Nat.le_refl _,by simp[maxLen],ho.1⟩
 exact⟨_,cap,hv,hc,hm,ho.1⟩
theorem Sep.rd (i:Nat) (h:Sep w0 w As) (hi:As[i]? =some (.sl e sz v n cs)):Rd w sz v n cs:=by
 obtain⟨A,cap,hv,h1,h2,h3⟩:=h.vB i hi;refine⟨h3,A,cap,hv,h1,h2,fun hn=>?_⟩;obtain⟨g,cap',hv',h4,h5,_⟩:=h.iP i hi hn;obtain⟨F,⟨ho,_⟩,_⟩:=h.get i hi;have hA:A=some ⟨g,0,none⟩:=by rw[hv]at hv';injection hv'
 subst hA;exact⟨_,rfl,h5,ho.cells (g:=g) (by rw[hv'];rfl)⟩
theorem Sep.cellAt {g cap:Nat} (i:Nat) (h:Sep w0 w As) (hi:As[i]? =some (.sl e sz (.slice (some ⟨g,0,none⟩) n cap) n cs)) (j:Nat) (hj:j<n*sz):w.cell? ⟨g,j,none⟩=cs[j]? :=by obtain⟨F,⟨ho,_⟩,_⟩:=h.get i hi;exact ho.cellAt j hj
theorem Sep.frozenAt {g cap:Nat} (i:Nat) (h:Sep w0 w As) (hi:As[i]? =some (.sl e sz (.slice (some ⟨g,0,none⟩) n cap) n cs)) (j:Nat):w.frozen? ⟨g,j,none⟩=false:=by obtain⟨F,⟨ho,_⟩,_⟩:=h.get i hi;exact ho.frozenAt j
theorem Sep.stored {g cap:Nat} (i:Nat) (h:Sep w0 w As) (hi:As[i]? =some (.sl e sz (.slice (some ⟨g,0,none⟩) n cap) n cs)) (j:Nat) (u:Value):
  Sep w0 (w.setCell ⟨g,j,none⟩ u) (As.set i (.sl e sz (.slice (some ⟨g,0,none⟩) n cap) n (cs.set j u))):=by
 refine h.step i hi fun F ⟨ho,hF⟩ _=>⟨F,⟨(ho.stored j u).1,hF⟩,fun b hb=>.inl hb,?_⟩
 have:=j3.setCell w ⟨g,j,none⟩ u;rw[hF];simpa[Value.ownBlock]using this
theorem Sep.alO {b:Nat} {t:TypeId} {cs:Array Value} (i:Nat) (h:Sep w0 w As) (hi:As[i]? =some (.box b t cs)):w.heap[b]? =some (.cells cs t (0,0))∧w0.heap.size≤b∧b<w.heap.size:=by obtain⟨F,⟨ho,rfl⟩,hF⟩:=h.get i hi;exact⟨ho,hF b (by simp)⟩
theorem Sep.bC {b:Nat} {t:TypeId} {cs:Array Value} (i:Nat) (h:Sep w0 w As) (hi:As[i]? =some (.box b t cs)) (j:Nat):w.cell? ⟨b,j,none⟩=cs[j]? :=
 cell_of_row w b j cs t (0,0) (h.alO i hi).1
theorem Sep.bF {b:Nat} {t:TypeId} {cs:Array Value} (i:Nat) (h:Sep w0 w As) (hi:As[i]? =some (.box b t cs)) (j:Nat):w.frozen? ⟨b,j,none⟩=false:=
 frozen_of_row w b j cs t (h.alO i hi).1
theorem Sep.bS {b:Nat} {t:TypeId} {cs:Array Value} (i:Nat) (h:Sep w0 w As) (hi:As[i]? =some (.box b t cs)) (j:Nat) (u:Value):
  Sep w0 (w.setCell ⟨b,j,none⟩ u) (As.set i (.box b t (cs.setIfInBounds j u))):=by
 refine h.step i hi fun F ⟨ho,hF⟩ _=>⟨F,⟨heap_setCell_same w b j cs t u ho,hF⟩,fun b hb=>.inl hb,?_⟩
 rw[hF];exact j3.setCell w ⟨b,j,none⟩ u
theorem Sep.bN (h:Sep w0 w As) (t:TypeId) (cs:Array Value):Sep w0 (w.alloc (.cells cs t)) (.box w.heap.size t cs::As):=
 h.new ((Below.refl _ _).alloc (Nat.le_refl _) _) (F:=[w.heap.size]) ⟨heap_alloc_new w _,rfl⟩ (by simp)
theorem Sep.alloc (h:Sep w0 w As) (o:Obj):Sep w0 (w.alloc o) As:=h.pure ((Below.refl _ _).alloc (Nat.le_refl _) _)
theorem jA.nth {w:World}:∀ {As:List aU} {Fs:List (List Nat)} {i:Nat} {A:aU},jA w As Fs→As[i]? =some A→∃F,Fs[i]? =some F∧A.on w F
 |[],_,_,_,_,h=>by simp at h
 |A::As,_,0,_,⟨F,Gs,rfl,h1,_⟩,h=>by simp at h;subst h;exact⟨F,rfl,h1⟩
 |A::As,_,i+1,_,⟨F,Gs,rfl,_,h2⟩,h=>by obtain⟨G,hg,ho⟩:=h2.nth (i:=i) (by simpa using h);exact⟨G,by simpa using hg,ho⟩
theorem DD :∀ {Fs:List (List Nat)} {i j:Nat} {F G:List Nat},Fs.flatten.Nodup→Fs[i]? =some F→Fs[j]? =some G→i<j→∀b,b∈F→b∉G
 |[],_,_,_,_,_,h,_,_=>by simp at h
 |E::Fs,0,j+1,F,G,hn,h1,h2,_=>fun b hb hg=>by simp at h1;subst h1;rw[List.flatten_cons,List.nodup_append]at hn;exact hn.2.2 b hb b (List.mem_flatten.2 ⟨G,gG (by simpa using h2),hg⟩) rfl
 |E::Fs,i+1,j+1,F,G,hn,h1,h2,h3=>by rw[List.flatten_cons,List.nodup_append]at hn;exact DD hn.2.1 (by simpa using h1) (by simpa using h2) (by omega)
 |_::_,_,0,_,_,_,_,_,h3=>by omega
theorem Sep.apart (i j:Nat) (hij:i<j) {A C:aU} (h:Sep w0 w As) (hi:As[i]? =some A) (hj:As[j]? =some C):∃F G,A.on w F∧C.on w G∧∀b,b∈F→b∉G:=by obtain⟨_,Fs,h3,h4,_⟩:=h;obtain⟨F,f1,f2⟩:=h3.nth hi;obtain⟨G,g1,g2⟩:=h3.nth hj;exact⟨F,G,f2,g2,DD h4 f1 g1 hij⟩
theorem Sep.adE (i j:Nat) (hij:i<j) {e1 e2:TypeId} {s1 s2 n1 n2 c1 c2 g1 g2:Nat} {l1 l2:List Value} (h:Sep w0 w As)
  (hi:As[i]? =some (.sl e1 s1 (.slice (some ⟨g1,0,none⟩) n1 c1) n1 l1)) (hj:As[j]? =some (.sl e2 s2 (.slice (some ⟨g2,0,none⟩) n2 c2) n2 l2)):g1≠g2:=by
 obtain⟨F,G,⟨_,rfl⟩,⟨_,rfl⟩,hne⟩:=h.apart i j hij hi hj;intro e;exact hne g1 (by simp[Value.ownBlock]) (by simp[Value.ownBlock,e])
theorem iN (w:World) (cs:Array Value) (t:TypeId) (g:Nat) (hg:g=w.heap.size):∀(j:Nat) u,cs.toList[j]? =some u→(w.alloc (.cells cs t)).cell? ((⟨g,0,none⟩:Addr).add j)=some u:=by subst hg;exact World.news_of_block (fr:=(0,0)) (heap_alloc_new w _)
theorem Sep.fO (h:Sep w0 w As) (e:TypeId) (sz:Nat):Sep w0 w (.sl e sz (.slice none 0 0) 0 []::As):=by obtain⟨h1,Fs,h4,h5,h6⟩:=h;exact⟨h1,[]::Fs,⟨[],Fs,rfl,⟨World.ownsRow_nil _ _ _ _,rfl⟩,h4⟩,by simpa using h5,by simpa using h6⟩
theorem Sep.grown {g cap m:Nat} {cs':List Value} (i:Nat) (h:Sep w0 w As) (hi:As[i]? =some (.sl e sz v n cs))
  (hown:w'.ownsRow 0 e sz (.slice (some ⟨g,0,none⟩) m cap) m cs') (hgrow:w.grownBy w' v.ownBlock) (hat:v.ownBlock=some g∨g=w.heap.size):
  Sep w0 w' (As.set i (.sl e sz (.slice (some ⟨g,0,none⟩) m cap) m cs')):=by
 refine h.step i hi fun F ⟨ho,hF⟩ _=>⟨[g],⟨hown,rfl⟩,fun b hb=>?_,?_⟩
 ·simp at hb;subst hb;rcases hat with hat|hat
  ·left;rw[hF,hat];simp
  right;omega
 rw[hF];exact j3.o7 hgrow
theorem Sep.FV {g cap:Nat} (i:Nat) (h:Sep w0 w As) (hi:As[i]? =some (.sl e sz (.slice (some ⟨g,0,none⟩) n cap) n cs)) (k:Nat) (hk:k≤n):
  Sep w0 w (As.set i (.sl e sz (.slice (some ⟨g,0,none⟩) k cap) k (cs.take (k*sz)))):=by
 refine h.step i hi fun F ⟨ho,hF⟩ _=>⟨F,⟨⟨?_,?_⟩,by rw[hF];rfl⟩,fun b hb=>.inl hb,j3.refl _ _⟩
 ·rw[List.length_take,ho.1];exact Nat.min_eq_left (Nat.mul_le_mul_right _ hk)
 rcases ho.2 with⟨h',_⟩|⟨g',cap',cur,h',hb,hg,hc,hm,hs,ht⟩
 ·simp at h'
 simp only[Value.slice.injEq,Option.some.injEq,Addr.mk.injEq,and_true,true_and]at h';obtain⟨rfl,rfl⟩:=h';refine .inr ⟨g,cap,cur,rfl,hb,hg,by omega,hm,hs,?_⟩;rw[←ht,List.take_take,Nat.min_eq_left (Nat.mul_le_mul_right _ hk)]
end
section
variable {P:Program} {w0 w:World} {As:List aU} {ops:Array Oper} {rest:List Oper} {o:Oper} {a:Act} {Q:Exit→Act→World→Prop}
theorem gK (k:Nat) (hgd:o.guard=none) (s x:Operand) (t:TypeId)
  (ho:o.op= .call {callee:=.builtin .append,args:=#[s,x],argTypes:=#[t,t]})
  (e:TypeId) (i:TypeInfo) (z:Value) (size bytes:Nat) (ht:P.underlying t=some (.slice e)) (hi:P.info? e=some i) (hz:i.zero=some z)
  (hsize:i.size=size) (hby:i.bytes=bytes) (hzs:z.cells.size=size) (hsz:0<size)
  (hS:Sep w0 w As) (v:Value) (n:Nat) (cs:List Value) (hk:As[k]? =some (.sl e size v n cs)) (hs:a.eval s=v)
  (ad:Addr) (m c:Nat) (news:List Value) (hx:a.eval x= .slice (some ad) m c) (hl:news.length=m*size) (hnews:∀j u,news[j]? =some u→w.cell? (ad.add j)=some u) (h1:∀u∈news,u.oneCell'=true)
  (hm:0<m) (h63:n+m≤maxLen) (hbytes:(n+m)*bytes≤140737488355328)
  (h:∀g cap w',Sep w0 w' (As.set k (.sl e size (.slice (some ⟨g,0,none⟩) (n+m) cap) (n+m) (cs++news)))→w.heap.size≤w'.heap.size→wpList P ops Q rest (a.put o.dst (.slice (some ⟨g,0,none⟩) (n+m) cap)) w'):
  wpList P ops Q (o::rest) a w:=by
 obtain⟨F,⟨hown,hF⟩,_⟩:=hS.get k hk;exact wpList_append_lies w hgd s x t ho 0 e i z size bytes ht hi hz hsize hby hzs hsz v n cs hs hown ad m c news hx hl hnews h1 hm h63 hbytes (Nat.zero_le _) _ rfl
  fun g cap w' h2 h3 h4 _=>h g cap w' (hS.grown k hk h2 h3 h4) h3.size
theorem iO {K:Act→World→Prop} {E:Prop} (k:Nat) (hgd:o.guard=none) (s x:Operand) (t:TypeId)
  (ho:o.op= .call {callee:=.builtin .append,args:=#[s,x],argTypes:=#[t,t]})
  (e:TypeId) (i:TypeInfo) (z:Value) (size bytes:Nat) (ht:P.underlying t=some (.slice e)) (hi:P.info? e=some i) (hz:i.zero=some z)
  (hsize:i.size=size) (hby:i.bytes=bytes) (hzs:z.cells.size=size) (hsz:0<size)
  (hS:Sep w0 w As) (v:Value) (n:Nat) (cs:List Value) (hk:As[k]? =some (.sl e size v n cs)) (hs:a.eval s=v)
  (ad:Addr) (m c:Nat) (news:List Value) (hx:a.eval x= .slice (some ad) m c) (hl:news.length=m*size) (hnews:∀j u,news[j]? =some u→w.cell? (ad.add j)=some u) (h1:∀u∈news,u.oneCell'=true)
  (hm:0<m) (h63:n+m≤maxLen) (hbytes:(n+m)*bytes≤140737488355328)
  (h:∀g cap w',Sep w0 w' (As.set k (.sl e size (.slice (some ⟨g,0,none⟩) (n+m) cap) (n+m) (cs++news)))→w.heap.size≤w'.heap.size→K (a.put o.dst (.slice (some ⟨g,0,none⟩) (n+m) cap)) w'):
  if Region.wanted o (yielded ops a.tmps)=true then Oper.wp P o a w K Q else E:=by
 obtain⟨F,⟨hown,hF⟩,_⟩:=hS.get k hk;exact step_append_lies w hgd s x t ho 0 e i z size bytes ht hi hz hsize hby hzs hsz v n cs hs hown ad m c news hx hl hnews h1 hm h63 hbytes (Nat.zero_le _) _ rfl
  fun g cap w' h2 h3 h4 _=>h g cap w' (hS.grown k hk h2 h3 h4) h3.size
theorem kF (t e:TypeId) (i:TypeInfo) (z:Value) (bytes:Nat) (h1:P.underlying t=some (.slice e)) (h2:P.info? e=some i) (h3:i.zero=some z) (h4:i.size=1) (h5:i.bytes=bytes) (h6:z.cells=#[z])
  (kl kc:IntKind) (n:Nat) (b2:bytes*n≤281474976710656) (b3:n≤maxLen) (W:World):
  (Instr.makeSlice t (.int kl (n:Int)) (.int kc (n:Int))).run P W= .ok (.slice (some ⟨W.heap.size,0,none⟩) n n) (W.alloc (.cells (madeCells #[z] n) e)):=by
 have h63':(n:Int)≤9223372036854775807:=by have h:=b3;simp[maxLen]at h;omega
 have hb':(i.bytes:Int)*(n:Int)≤281474976710656:=by
  have h:((i.bytes*n:Nat):Int)≤281474976710656:=by rw[h5];omega
  rwa [Int.natCast_mul]at h
 have hr:=run_make (P:=P) W t e i z h1 h2 h3 kl kc n n (by omega) (Int.le_refl _) hb' h63';simpa[h4,h6]using hr
theorem Sep.made (h:Sep w0 w As) (e:TypeId) (z:Value) (n:Nat) (b3:n≤maxLen):Sep w0 (w.alloc (.cells (madeCells #[z] n) e)) (.sl e 1 (.slice (some ⟨w.heap.size,0,none⟩) n n) n (List.replicate n z)::As):=by have hown:=World.ownsRow_lit (base:=0) (e:=e) (size:=1) w (madeCells #[z] n) n (Nat.zero_le _) b3 (by rw[size_madeCells,Nat.mul_one]);rw[toList_madeCells_one]at hown;exact h.new (F:=[w.heap.size]) ((Below.refl _ _).alloc (Nat.le_refl _) _) ⟨hown,rfl⟩ (by simp)
end
end Go.Proofs.YteihmbaimbogaaaGreat
