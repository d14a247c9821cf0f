/- Parts. -/
import Derived.WalkKit
import Derived.WalkSpells
import Derived.WalkLawsBesides
import Derived.Deep.DeepFit
import Derived.Deep.Draws
import Derived.Deep.AppendLies
import Derived.Lib.Hide
import Derived.Deep.QuietTactic
import Derived.BigQuiet
import Derived.StillTailTactics
import Derived.Test.YtmjomdkleikgbaaGreatRows
import Derived.ProofKit
import Derived.OpenShut
import Derived.Below
import Derived.ChangeSame
import Derived.WideKeyArgs
import Derived.Deep.Matrix
set_option linter.unusedVariables false
namespace Go.Proofs.YtmjomdkleikgbaaGreat
theorem gA {α:Type _} {l:List α} {i:Nat}:l.toArray[i]? =l[i]? :=List.getElem?_toArray
theorem gB {α:Type _} {a:α} {l:List α}:(a::l)[0]? =some a:=rfl
theorem gC {α:Type _} {a:α} {l:List α} {i:Nat}:(a::l)[i+1]? =l[i]? :=rfl
theorem gD {α:Type _} (l:List α) (i:Nat) (a:α):l.toArray.setIfInBounds i a=(l.set i a).toArray:=List.setIfInBounds_toArray l i a
theorem gE {α:Type _} {l:List α} {i:Nat} (h:i<l.length):l[i]? =some l[i]:=List.getElem?_eq_getElem h
theorem gF {α:Type _} {i:Nat} {a:α} {l:List α}:l[i]? =some a↔∃h,l[i]=a:=List.getElem?_eq_some_iff
theorem gG {α:Type _} {l:List α} {i:Nat} {a:α} (h:l[i]? =some a):a∈l:=List.mem_of_getElem? h
theorem gH {α:Type _} {l:List α} {i:Nat} {a:α}:l.getD i a=l[i]?.getD a:=List.getD_eq_getElem?_getD
theorem Lh {p:Prop} (h:p):Go.RowKit.Hid p:=Go.Lib.hid h
abbrev jM := @List.length_append
abbrev iJ := @List.length_map
abbrev kH := @List.length_cons
abbrev iC := @Nat.le_refl
abbrev mZ := @List.map_append
abbrev pG := @List.append_assoc
abbrev vR := @List.mem_cons_of_mem
abbrev qP := @List.length_take
abbrev qQ := @List.length_nil
abbrev uB := @List.size_toArray
abbrev jN := @decide_eq_true_eq
abbrev fZ := @Nat.zero_le
abbrev kI := @List.cons_append
abbrev lC := @List.getElem?_map
abbrev oL := @List.length_singleton
abbrev jU := @beq_eq_false_iff_ne
abbrev vS := @List.eq_nil_of_length_eq_zero
abbrev pM := @List.take_of_length_le
abbrev nH := @List.mem_cons_self
abbrev jV := @List.map_cons
abbrev nA := @Int.toNat_natCast
abbrev vT := @List.getElem?_append_right
abbrev mI := @List.nil_append
abbrev nW := @List.getElem_mem
abbrev pI := @List.take_add_one
abbrev vU := @List.mem_append_left
abbrev uO := @List.map_congr_left
abbrev rZ := @List.length_drop
abbrev xD := @Array.replicate_succ
abbrev xE := @Array.replicate_zero
abbrev EI := @List.getElem?_append_left
abbrev sP := @Bool.and_eq_true
abbrev tJ := @List.mem_singleton
abbrev vV := @List.getElem?_take
abbrev xG := @List.append_toArray
abbrev tK := @List.nodup_append
abbrev vW := @List.flatten_cons
abbrev qN := @List.sum_cons
abbrev iM := @List.mem_append
abbrev AJ := @List.mem_of_mem_take
abbrev yL := @Nat.eq_zero_or_pos
abbrev xH := @List.push_toArray
abbrev xI := @List.flatMap_cons
abbrev sD := @Nat.add_assoc
abbrev qO := @List.map_map
abbrev EJ := @List.take_append_drop
abbrev yX46 := @List.append_nil
abbrev FK := @List.getElem?_eq_none
abbrev FL := @List.length_replicate
abbrev sF := @Nat.add_zero
abbrev AV := @List.getElem?_drop
abbrev lD := @List.perm_middle
abbrev yM := @List.filter_cons
abbrev J2 := @Nat.add_sub_cancel_left
abbrev yN := @Nat.min_eq_left
abbrev FN := @List.filter_append
abbrev xJ := @List.nodup_cons
abbrev EK := @List.not_mem_nil
abbrev wV := @List.find?_eq_none
abbrev GU := @List.set_cons_zero
abbrev UH := @List.mem_of_find?_eq_some
abbrev J3 := @List.perm_iff_count
abbrev OI := @List.getElem?_set_self
abbrev GV := @List.ext_getElem?
abbrev J4 := @Bool.false_eq_true
abbrev OJ := @List.length_filter_le
abbrev FO := @Nat.not_lt_zero
abbrev GX := @Option.getD_some
abbrev GY := @List.pairwise_map
abbrev M5 := @List.map_singleton
abbrev M6 := @List.set_cons_succ
abbrev kE := @List.mem_cons
abbrev J5 := @Nat.lt_succ_self
abbrev J6 := @Option.getD_none
abbrev abK := @Int.tdiv_eq_ediv_of_nonneg
abbrev UI := @List.dropLast_concat
abbrev abL := @List.drop_eq_getElem_cons
abbrev tL := @beq_iff_eq
abbrev J7 := @List.length_set
abbrev J8 := @List.find?_cons
abbrev J9 := @Nat.two_pow_pos
abbrev M7 := @List.take_length
abbrev OL := @List.count_append
abbrev FP := @Nat.sub_self
abbrev M8 := @Bool.or_eq_true
abbrev alW := @List.Nodup.length_le_of_subset
abbrev UJ := @Option.isSome_none
abbrev YZ := @Option.map_eq_none_iff
abbrev Y3 := @List.flatMap_append
abbrev Y4 := @List.flatten_append
abbrev UK := @Nat.lt_trichotomy
abbrev abM := @List.Perm.append_left
abbrev GZ := @Nat.zero_add
abbrev alX := @List.mem_zipIdx_iff_getElem?
abbrev OM := @List.count_cons
abbrev agL := @decide_eq_false_iff_not
abbrev abN := @List.length_dropLast
abbrev Y5 := @Bool.or_eq_false_iff
abbrev OO := @List.take_zero
abbrev UL := @Option.map_some
abbrev zL := @List.map_nil
abbrev G5 := @List.getElem_map
abbrev AX := @Bool.false_or
abbrev EW := @List.Perm.refl
abbrev OP := @Nat.mul_le_mul_right
abbrev LW := @List.length_range
abbrev LX := @Bool.not_eq_true'
abbrev G6 := @List.find?_some
abbrev OQ := @List.getElem_of_mem
abbrev AY := @Nat.le_trans
abbrev abO := @List.findIdx?_eq_some_iff_getElem
abbrev OT := @Option.map_eq_some_iff
abbrev AZ := @Nat.lt_or_ge
abbrev zM := @Nat.mul_one
abbrev abP := @List.perm_append_singleton
abbrev LY := @List.countP_cons
abbrev OU := @Nat.add_sub_cancel
abbrev G7 := @List.drop_left
abbrev OV := @Option.isSome_some
abbrev EX := @List.pairwise_iff_getElem
abbrev LZ := @List.sum_append
abbrev EY := @Nat.ne_of_gt
abbrev OW := @List.foldl_append
abbrev EZ := @List.filter_eq_self
abbrev G8 := @List.filter_sublist
abbrev VN := @List.getElem?_range
abbrev VO := @List.take_succ_cons
abbrev L6 := @List.drop_drop
abbrev abQ := @List.drop_eq_nil_of_le
abbrev VP := @Nat.lt_of_lt_of_le
abbrev abR := @List.mem_append_right
abbrev abS := @List.eq_nil_or_concat
abbrev abT := @List.concat_eq_append
abbrev abU := @List.set_append_right
abbrev OX := @List.range_succ
abbrev abV := @List.set_getElem_self
abbrev abW := @List.nodup_iff_pairwise_ne
abbrev ajS := @List.perm_ext_iff_of_nodup
abbrev VQ := @Option.some.injEq
abbrev abX := @List.findIdx?_eq_none_iff
abbrev abY := @List.getElem?_set_ne
abbrev OY := @List.pairwise_append
abbrev OZ := @List.count_nil
abbrev O0 := @List.nodup_nil
abbrev O1 := @Bool.false_and
abbrev VT := @List.ext_getElem
abbrev L8 := @Nat.zero_mul
abbrev ajT := @List.find?_range_eq_some
abbrev VU := @Nat.min_eq_right
abbrev abZ := @List.drop_succ_cons
abbrev VV := @Int.natCast_add
abbrev VX := @List.take_left'
abbrev ab0 := @List.getElem_idxOf
abbrev ajU := @List.filter_eq_nil_iff
abbrev MB := @Nat.pow_add
abbrev apS := @List.drop_append_of_le_length
abbrev ab1 := @List.getElem_drop
abbrev O3 := @List.perm_append_comm
abbrev O4 := @Nat.mul_comm
abbrev O5 := @List.map_set
abbrev O6 := @Bool.true_or
abbrev apT := @List.countP_eq_length_filter
abbrev apU := @Nat.mul_lt_mul_of_pos_right
abbrev ab2 := @List.Sublist.map
abbrev ajV := @Array.getElem_toList
abbrev apV := @Int.tmod_eq_emod_of_nonneg
abbrev O7 := @Int.le_refl
abbrev ajW := @Int.toNat_of_nonneg
abbrev ab3 := @Option.some.inj
abbrev ab4 := @Option.map_none
abbrev apW := @List.Pairwise.imp_of_mem
abbrev ajX := @List.countP_append
abbrev VY := @Nat.succ_mul
abbrev ajY := @List.length_zipIdx
abbrev ajZ := @List.zipIdx_append
abbrev aj0 := @List.getElem_range
abbrev VZ := @List.set_set
abbrev aj1 := @List.append_of_mem
abbrev aj2 := @Bool.not_eq_false'
abbrev ab5 := @List.drop_zero
abbrev aj3 := @List.take_sublist
abbrev aj4 := @List.find?_append
abbrev aj5 := @List.any_eq_false
abbrev V3 := @Nat.mul_pos
abbrev V4 := @Nat.log2_lt
abbrev ab6 := @Nat.mul_assoc
abbrev ab7 := @List.map_take
abbrev pV (b:Nat):Value:=.pointer (some ⟨b,0,none⟩)
abbrev iV (x:Int):Value:=.int .i64 x
abbrev sV (b n c:Nat):Value:=.slice (some ⟨b,0,none⟩) n c
theorem fE {P:Prop} (h:P:=by kernel_rfl):P:=h
theorem aD {P:Prop} (h:P:=by omega):P:=h
theorem aR {P:Prop} (h:P:=by decide):P:=h
theorem bK {P:Prop} (h:P:=by simp):P:=h
theorem EL {P:Prop} (h:P:=by rfl):P:=h
theorem vX {P:Prop} (h:P:=by unfold maxLen;omega):P:=h
theorem E8 {P:Prop} (h:P:=by simp;omega):P:=h
theorem oCl {P:Prop} (h:P:=by simp[Value.oneCell']):P:=h
theorem aEv {P:Prop} (h:P:=by simp[Act.eval]):P:=h
theorem fRs {P:Prop} (h:P:=by first |rfl|simp):P:=h
open Go.RowKit
theorem yO (a:Addr) (n:Nat):(a.add n).block=a.block:=by unfold Addr.add;split<;>rfl
theorem agN (a:Addr) (i j:Nat):(a.add i).add j=a.add (i+j):=by unfold Addr.add;by_cases hi:i=0<;>by_cases hj:j=0<;>simp[hi,hj,sD]
def Rd (w:World) (sz:Nat) (v:Value) (n:Nat) (cs:List Value):Prop:=
 cs.length=n*sz/\∃A c,v= .slice A n c/\n<=c/\c<=maxLen/\
  (0<n->∃ad,A=some ad/\ad.block<w.heap.size/\∀j u,cs[j]? =some u->w.cell? (ad.add j)=some u)
def O8 (w:World) (v:Value) (xs:List Int):Prop:=Rd w 1 v xs.length (xs.map (.int .i64))
section
variable {w w':World} {sz n:Nat} {v:Value} {cs:List Value}
theorem Rd.shape (h:Rd w sz v n cs):∃A c,v= .slice A n c/\n<=maxLen:=by obtain⟨_,A,c,rfl,h1,h2,_⟩:=h;exact⟨A,c,rfl,AY h1 h2⟩
theorem Rd.at_ {k:Nat} (h:Rd w 1 v n cs) (hk:k<n):∃ad c u,v= .slice (some ad) n c/\cs[k]? =some u/\w.cell? (ad.add k)=some u:=by
 obtain⟨hl,A,c,rfl,h1,h2,h3⟩:=h;obtain⟨ad,rfl,hb,hc⟩:=h3 aD;have hk':k<cs.length:=by omega
 exact⟨ad,c,cs[k],rfl,gE hk',hc k _ (gE hk')⟩
theorem Rd.below (h:Rd w sz v n cs) (hk:Below w.heap.size w w'):Rd w' sz v n cs:=by obtain⟨hl,A,c,rfl,h1,h2,h3⟩:=h;refine⟨hl,A,c,rfl,h1,h2,fun hn=>?_⟩;obtain⟨ad,rfl,hb,hc⟩:=h3 hn;exact⟨ad,rfl,VP hb hk.size,fun j u hu=>(World.cell?_of_block (by rw[yO];exact hk.block _ hb)).trans (hc j u hu)⟩
end
section
variable {w w':World} {v:Value} {xs:List Int} {xss:List (List Int)} {bs:List Bool} {bss:List (List Bool)}
theorem O8.shape (h:O8 w v xs):∃A c,v= .slice A xs.length c/\xs.length<=maxLen:=Rd.shape h
end
open Go.ChangeShapes Go.WideShapes Go.ChangeAt Go.RowKit Go.Deep
section
variable {H:Type} {enc:TypeId×Value->H} {P:Program}
theorem post_below {f:Func} {s:ChangeSpec} {apart fresh handsOn again:Bool} {W W':World} {args:Array Value} {v:Value} {ds gs:List (DataW H)} {before pa pv:List MemPlace}
  (hW:DataW.Whole enc P f.params.toList s.vars apart W args.toList ds gs before)
  (hres:∀(b:Nat) (sp:Nat->Bool) (hd:Bool),DataW.TrodAll enc P W' b sp hd f.resultTypes.toList (v.resultList f.resultTypes.size) (s.fn H (ds++gs)).results [])
  (hargs:∀sp:Nat->Bool,(∀p∈before,sp p.block=true)->DataW.TrodAll enc P W' 0 sp true f.params.toList args.toList (s.fn H (ds++gs)).args pa)
  (hvars:∀sp:Nat->Bool,(∀p∈before,sp p.block=true)->DataW.TrodVars enc P W' sp s.vars (s.fn H (ds++gs)).vars pv)
  (hps:before=pa++pv) (hb:Below W.heap.size W W')
  (hok:∀(j:Nat) (t:TypeId) (r:Value),f.resultTypes[j]? =some t->(v.resultList f.resultTypes.size)[j]? =some r->Value.okWide P W' .any 0 t r):
  s.post enc P f apart fresh handsOn again W args v W':=by
 have hlt:∀p∈before,p.block<W.heap.size:=fun p hp=>hW.lt p hp
 have hold:∀p∈before,(fun b=>decide (b<W.heap.size)) p.block=true:=fun p hp=>by simpa using hlt p hp
 refine⟨ds,gs,before,[],pa,pv,hW,hres _ _ _,hargs _ hold,hvars _ hold,World.keptBut_mono (fun p hp=>⟨hp,?_⟩) (hb.frame (· ∈before)),fun _=>?_⟩
 ·rw[hps,iM]at hp;exact Or.inr hp
 obtain⟨_,_,_,_,_,hz,hn⟩:=hW;refine⟨hok,_,_,([]++pa)++pv,⟨[]++pa,pv,trodAll_append (hargs _ (fun _ _=>rfl)) (hres _ _ _),hvars _ (fun _ _=>rfl),rfl,?_,?_⟩,?_⟩
 ·intro b off hp;(have hin:MemPlace.cell b off∈before:=by rw[hps];simpa using hp);rw[hb.frozen (hlt _ hin)];exact hz b off hin
 ·intro ha;have:=hn ha;rw[hps]at this;simpa using this
 intro p hp _;rw[hps];simpa using hp
end
end Go.Proofs.YtmjomdkleikgbaaGreat
namespace Go.Proofs.YtmjomdkleikgbaaGreat
open Go.RowKit
structure mP (w w':World) (F:List Nat):Prop where
 os:w'.os=w.os
 tape:w'.tape=w.tape
 output:w'.output=w.output
 size:w.heap.size<=w'.heap.size
 block:∀k,k<w.heap.size->k∉F->w'.heap[k]? =w.heap[k]?
theorem mP.refl (w:World) (F:List Nat):mP w w F:=⟨rfl,rfl,rfl,iC _,fun _ _ _=>rfl⟩
theorem mP.uP {w w':World} {row:Option Nat} (h:w.grownBy w' row):mP w w' row.toList:=
 ⟨h.os,h.tape,h.output,h.size,fun k hk hn=>h.block k hk (fun e=>hn (by rw[<-e];simp))⟩
theorem mP.setCell (w:World) (a:Addr) (u:Value):mP w (w.setCell a u) [a.block]:=
 ⟨rfl,rfl,rfl,by simp[World.setCell],fun k _ hn=>Below.heap_setCell w a u k (by simpa using hn)⟩
theorem mP.below {w w':World} {F:List Nat} {B:Nat} (h:mP w w' F) (hB:B<=w.heap.size) (hF:∀b,b∈F->B<=b):Below B w w':=
 ⟨h.os,h.tape,h.output,h.size,fun k hk=>h.block k aD (fun hm=>by have:=hF k hm;omega)⟩
structure aW where
 on:World->List Nat->Prop
 loc:∀(w w':World) (F:List Nat),on w F->(∀b,b∈F->w'.heap[b]? =w.heap[b]?)->on w' F
 fin:∀(w:World) (F:List Nat),on w F->F.Nodup/\∀b,b∈F->b<w.heap.size
theorem lt_of_heap {w:World} {b:Nat} {o:Obj} (h:w.heap[b]? =some o):b<w.heap.size:=(Array.getElem?_eq_some_iff.1 h).1
def aW.emp :aW:=⟨fun _ F=>F=[],fun _ _ _ h _=>h,fun _ _ h=>by subst h;simp⟩
def nM (w:World):List aW->List (List Nat)->Prop
 |[],Fs=>Fs=[]
 |A::As,Fs=>∃F Gs,Fs=F::Gs/\A.on w F/\nM w As Gs
theorem nM.append {w:World} {As Bs:List aW}:∀ {Fs:List (List Nat)},nM w (As++Bs) Fs↔∃Gs Hs,Fs=Gs++Hs/\nM w As Gs/\nM w Bs Hs:=by
 induction As with
 |nil=>
  intro Fs;constructor
  ·intro h;exact⟨[],Fs,rfl,rfl,h⟩
  rintro⟨_,_,rfl,rfl,h⟩;exact h
 |cons A As ih=>
  intro Fs;simp only[kI,nM];constructor
  ·rintro⟨F,Gs,rfl,h1,h2⟩;obtain⟨G1,G2,rfl,h3,h4⟩:=ih.1 h2;exact⟨F::G1,G2,rfl,⟨F,G1,rfl,h1,h3⟩,h4⟩
  rintro⟨G1,G2,rfl,⟨F,Gs,rfl,h1,h2⟩,h3⟩;exact⟨F,Gs++G2,rfl,h1,ih.2 ⟨Gs,G2,rfl,h2,h3⟩⟩
theorem nM.loc {w w':World} {As:List aW}:∀ {Fs:List (List Nat)},nM w As Fs->(∀b,b∈Fs.flatten->w'.heap[b]? =w.heap[b]?)->nM w' As Fs:=by
 induction As with
 |nil=>intro Fs h _;exact h
 |cons A As ih=>rintro Fs ⟨F,Gs,rfl,h1,h2⟩ hk;exact⟨F,Gs,rfl,A.loc _ _ _ h1 (fun b hb=>hk b (by simp[hb])),ih h2 (fun b hb=>hk b (by rw[vW,iM];exact .inr hb))⟩
theorem nM.lt {w:World} {As:List aW}:∀ {Fs:List (List Nat)},nM w As Fs->∀b,b∈Fs.flatten->b<w.heap.size:=by
 induction As with
 |nil=>intro Fs h b hb;subst h;simp at hb
 |cons A As ih=>
  rintro Fs ⟨F,Gs,rfl,h1,h2⟩ b hb;rw[vW,iM]at hb;rcases hb with hb|hb
  ·exact(A.fin _ _ h1).2 b hb
  exact ih h2 b hb
def Sep (w0 w:World) (As:List aW):Prop:=
 Below w0.heap.size w0 w/\∃Fs,nM w As Fs/\Fs.flatten.Nodup/\∀b,b∈Fs.flatten->w0.heap.size<=b
section
variable {w0 w w':World} {As R:List aW} {A A':aW}
theorem Sep.below (h:Sep w0 w As):Below w0.heap.size w0 w:=h.1
theorem Sep.base (h:Sep w0 w As):w0.heap.size<=w.heap.size:=h.1.size
theorem Sep.nil (w:World):Sep w w []:=⟨Below.refl _ _,[],rfl,by simp,by simp⟩
theorem Sep.pure (h:Sep w0 w As) (hb:Below w.heap.size w w'):Sep w0 w' As:=by obtain⟨h1,Fs,h3,h4,h5⟩:=h;exact⟨h1.trans (hb.mono h1.size),Fs,h3.loc (fun b hm=>hb.block b (h3.lt b hm)),h4,h5⟩
theorem Sep.drew (h:Sep w0 w As):Sep w0 w.drew As:=h.pure ((Below.refl _ _).drew)
theorem Sep.drewN (h:Sep w0 w As) (n:Nat):Sep w0 (w.drewN n) As:=
 h.pure ⟨rfl,rfl,rfl,iC _,fun _ _=>rfl⟩
theorem Sep.new {F:List Nat} (h:Sep w0 w As) (hb:Below w.heap.size w w') (ha:A.on w' F) (hF:∀b,b∈F->w.heap.size<=b):Sep w0 w' (A::As):=by
 have hbase:=h.base;obtain⟨h1,Fs,h3,h4,h5⟩:=h;refine⟨h1.trans (hb.mono hbase),F::Fs,⟨F,Fs,rfl,ha,h3.loc (fun b hm=>hb.block b (h3.lt b hm))⟩,?_,?_⟩
 ·rw[vW,tK];exact⟨(A.fin _ _ ha).1,h4,fun a haF b hbF=>by have:=hF a haF;have:=h3.lt b hbF;omega⟩
 intro b hm;rw[vW,iM]at hm;rcases hm with hm|hm
 ·have:=hF b hm;omega
 exact h5 b hm
theorem Sep.turn {X Y:List aW} (h:Sep w0 w (X++A::Y))
  (hc:∀F,A.on w F->(∀b,b∈F->w0.heap.size<=b)->∃F',A'.on w' F'/\(∀b,b∈F'->b∈F\/w.heap.size<=b)/\mP w w' F):Sep w0 w' (X++A'::Y):=by
 have hbase:=h.base;obtain⟨h1,Fs,h3,h4,h5⟩:=h;obtain⟨Gs,Hs,rfl,h6,F,Hs',rfl,h7,h8⟩:=nM.append.1 h3;have hG:∀b,b∈Gs.flatten->b<w.heap.size:=h6.lt;have hH:∀b,b∈Hs'.flatten->b<w.heap.size:=h8.lt;simp only[Y4,vW,tK,iM]at h4 h5;obtain⟨F',ha,hsub,hk⟩:=hc F h7 (fun b hb=>h5 b (.inr (.inl hb)));obtain⟨n1,⟨n2,n3,n4⟩,n5⟩:=h4;refine⟨h1.trans (hk.below hbase (fun b hb=>h5 b (.inr (.inl hb)))),Gs++F'::Hs',nM.append.2 ⟨Gs,F'::Hs',rfl,h6.loc (fun b hb=>hk.block b (hG b hb) (fun hf=>n5 b hb b (.inl hf) rfl)),F',Hs',rfl,ha,h8.loc (fun b hb=>hk.block b (hH b hb) (fun hf=>n4 b hf b hb rfl))⟩,?_,?_⟩
 ·simp only[Y4,vW,tK,iM];refine⟨n1,⟨(A'.fin _ _ ha).1,n3,fun a haF b hb=>?_⟩,fun a haG b hb=>?_⟩
  ·rcases hsub a haF with hf|hf
   ·exact n4 a hf b hb
   have:=hH b hb;omega
  rcases hb with hb|hb
  ·rcases hsub b hb with hf|hf
   ·exact n5 a haG b (.inl hf)
   have:=hG a haG;omega
  exact n5 a haG b (.inr hb)
 intro b hm;simp only[Y4,vW,iM]at hm;rcases hm with hm|hm|hm
 ·exact h5 b (.inl hm)
 ·rcases hsub b hm with hf|hf
  ·exact h5 b (.inr (.inl hf))
  omega
 exact h5 b (.inr (.inr hm))
theorem sG {α:Type}:∀ {l:List α} {i:Nat} {x:α},l[i]? =some x->l=l.take i++x::l.drop (i+1)/\∀y,l.set i y=l.take i++y::l.drop (i+1)
 |[],i,x,h=>by simp at h
 |a::l,0,x,h=>by simp at h;subst h;simp
 |a::l,i+1,x,h=>by
  (have h':l[i]? =some x:=by simpa using h);obtain⟨e1,e2⟩:=sG h';refine⟨?_,fun y=>?_⟩
  ·simp only[VO,abZ,kI];rw[<-e1]
  simp only[M6,VO,abZ,kI];rw[e2 y]
theorem Sep.step (i:Nat) (h:Sep w0 w As) (hi:As[i]? =some A)
  (hc:∀F,A.on w F->(∀b,b∈F->w0.heap.size<=b)->∃F',A'.on w' F'/\(∀b,b∈F'->b∈F\/w.heap.size<=b)/\mP w w' F):Sep w0 w' (As.set i A'):=by
 obtain⟨e1,e2⟩:=sG hi;rw[e2];rw[e1]at h;exact h.turn hc
theorem Sep.get (i:Nat) (h:Sep w0 w As) (hi:As[i]? =some A):∃F,A.on w F/\∀b,b∈F->w0.heap.size<=b/\b<w.heap.size:=by obtain⟨h1,Fs,h3,h4,h5⟩:=h;rw[(sG hi).1]at h3;obtain⟨Gs,Hs,rfl,h6,F,Hs',rfl,h7,h8⟩:=nM.append.1 h3;exact⟨F,h7,fun b hb=>⟨h5 b (by simp[hb]),(A.fin _ _ h7).2 b hb⟩⟩
theorem Sep.join {Bs:List aW} (h:Sep w0 w As) (k:Sep w w' Bs):Sep w0 w' (Bs++As):=by
 have hbase:=h.base;obtain⟨h1,Fs,h3,h4,h5⟩:=h;obtain⟨k1,Gs,k3,k4,k5⟩:=k;refine⟨h1.trans (k1.mono hbase),Gs++Fs,nM.append.2 ⟨Gs,Fs,rfl,k3,h3.loc (fun b hm=>k1.block b (h3.lt b hm))⟩,?_,?_⟩
 ·rw[Y4,tK];exact⟨k4,h4,fun a ha b hb=>by have:=k5 a ha;have:=h3.lt b hb;omega⟩
 intro b hm;rw[Y4,iM]at hm;rcases hm with hm|hm
 ·have:=k5 b hm;omega
 exact h5 b hm
theorem Sep.same {Bs:List aW} (h:Sep w0 w As) (hc:∀Fs,nM w As Fs->Fs.flatten.Nodup->∃Gs,nM w Bs Gs/\Gs.flatten.Nodup/\∀b,b∈Gs.flatten->b∈Fs.flatten):Sep w0 w Bs:=by obtain⟨h1,Fs,h3,h4,h5⟩:=h;obtain⟨Gs,g1,g2,g3⟩:=hc Fs h3 h4;exact⟨h1,Gs,g1,g2,fun b hb=>h5 b (g3 b hb)⟩
theorem Sep.fst {X Y:List aW} (h:Sep w0 w (X++Y)):Sep w0 w X:=h.same fun Fs hf hn=>by obtain⟨Gs,Hs,rfl,h6,h7⟩:=nM.append.1 hf;rw[Y4,tK]at hn;exact⟨Gs,h6,hn.1,fun b hb=>by rw[Y4];exact iM.2 (.inl hb)⟩
theorem Sep.snd {X Y:List aW} (h:Sep w0 w (X++Y)):Sep w0 w Y:=h.same fun Fs hf hn=>by obtain⟨Gs,Hs,rfl,h6,h7⟩:=nM.append.1 hf;rw[Y4,tK]at hn;exact⟨Hs,h7,hn.2.1,fun b hb=>by rw[Y4];exact iM.2 (.inr hb)⟩
theorem Sep.perm {Bs:List aW} (h:Sep w0 w As) (hp:As.Perm Bs):Sep w0 w Bs:=by
 refine h.same ?_;clear h
 induction hp with
 |nil=>intro Fs hf hn;exact⟨Fs,hf,hn,fun _ h=>h⟩
 |cons x _ ih=>
  rintro Fs ⟨F,Gs,rfl,h1,h2⟩ hn;rw[vW,tK]at hn;obtain⟨Gs',g1,g2,g3⟩:=ih Gs h2 hn.2.1;refine⟨F::Gs',⟨F,Gs',rfl,h1,g1⟩,?_,?_⟩
  ·rw[vW,tK];exact⟨hn.1,g2,fun a ha b hb=>hn.2.2 a ha b (g3 b hb)⟩
  intro b hb;rw[vW,iM]at hb ⊢;rcases hb with hb|hb
  ·exact .inl hb
  exact .inr (g3 b hb)
 |swap x y l=>
  rintro Fs ⟨F,Gs,rfl,h1,G,Hs,rfl,h2,h3⟩ hn;refine⟨G::F::Hs,⟨G,F::Hs,rfl,h2,F,Hs,rfl,h1,h3⟩,?_,?_⟩
  ·simp only[vW,tK,iM]at hn ⊢;obtain⟨n1,⟨n2,n3,n4⟩,n5⟩:=hn;refine⟨n2,⟨n1,n3,fun a ha b hb=>n5 a ha b (.inr hb)⟩,fun a ha b hb=>?_⟩;rcases hb with hb|hb
   ·exact(n5 b hb a (.inl ha)).symm
   exact n4 a ha b hb
  intro b hb;simp only[vW,iM]at hb ⊢;rcases hb with hb|hb|hb
  ·exact .inr (.inl hb)
  ·exact .inl hb
  exact .inr (.inr hb)
 |trans _ _ ih1 ih2=>intro Fs hf hn;obtain⟨Gs,g1,g2,g3⟩:=ih1 Fs hf hn;obtain⟨Hs,k1,k2,k3⟩:=ih2 Gs g1 g2;exact⟨Hs,k1,k2,fun b hb=>g3 b (k3 b hb)⟩
theorem ab8 {α:Type} (l:List α) (d:α) (is:List Nat) (h:is.Perm (List.range l.length)):l.Perm (is.map fun i=>l.getD i d):=by
 have e:l=(List.range l.length).map fun i=>l.getD i d:=by
  apply GV;intro i;by_cases hi:i<l.length
  ·simp[hi,List.getD]
  simp[hi]
 exact(List.Perm.of_eq e).trans (h.symm.map _)
theorem Sep.dB (is:List Nat) (h:Sep w0 w As) (hp:is.Perm (List.range is.length)) (hl:is.length<=As.length):Sep w0 w ((is.map fun i=>(As.take is.length).getD i aW.emp)++As.drop is.length):=by
 have e:As=As.take is.length++As.drop is.length:=(EJ _ _).symm;have hlen:(As.take is.length).length=is.length:=by simp;omega
 rw[e]at h;exact h.perm ((ab8 _ aW.emp is (by rw[hlen];exact hp)).append_right _)
theorem Sep.drop (n:Nat) (h:Sep w0 w As):Sep w0 w (As.drop n):=by rw[<-EJ n As]at h;exact h.snd
end
def aW.pure (p:Prop):aW:=⟨fun _ F=>p/\F=[],fun _ _ _ h _=>h,fun _ _ h=>by rw[h.2];simp⟩
def aW.ex {α:Type} (A:α->aW):aW:=⟨fun w F=>∃x,(A x).on w F,fun w w' F ⟨x,h⟩ hk=>⟨x,(A x).loc w w' F h hk⟩,fun w F ⟨x,h⟩=>(A x).fin w F h⟩
def aW.star (A B:aW):aW:=
 ⟨fun w F=>F.Nodup/\∃F1 F2,F=F1++F2/\A.on w F1/\B.on w F2,
  fun w w' _ ⟨hn,F1,F2,e,h1,h2⟩ hk=>⟨hn,F1,F2,e,A.loc w w' F1 h1 (fun b hb=>hk b (by rw[e];exact iM.2 (.inl hb))),B.loc w w' F2 h2 (fun b hb=>hk b (by rw[e];exact iM.2 (.inr hb)))⟩,
  fun w _ ⟨hn,F1,F2,e,h1,h2⟩=>⟨hn,fun b hb=>by
   rw[e,iM]at hb;rcases hb with hb|hb
   ·exact(A.fin w F1 h1).2 b hb
   exact(B.fin w F2 h2).2 b hb⟩⟩
def aW.dU :List aW->aW
 |[]=>aW.emp
 |A::As=>aW.star A (aW.dU As)
def aW.box (b:Nat) (t:TypeId) (cs:Array Value):aW:=
 ⟨fun w F=>w.heap[b]? =some (.cells cs t (0,0))/\F=[b],
  fun w w' F h hk=>⟨by rw[hk b (by rw[h.2];simp)];exact h.1,h.2⟩,
  fun w F h=>by rw[h.2];exact⟨by simp,fun b' hb=>by simp at hb;subst hb;exact lt_of_heap h.1⟩⟩
def aW.sl (e:TypeId) (sz:Nat) (v:Value) (n:Nat) (cs:List Value):aW:=
 ⟨fun w F=>w.ownsRow 0 e sz v n cs/\F=v.ownBlock.toList,
  fun w w' F ⟨h,hF⟩ hk=>⟨by
   refine⟨h.1,?_⟩;rcases h.2 with h|⟨g,cap,cur,hv,hb,hg,r⟩
   ·exact .inl h
   exact .inr ⟨g,cap,cur,hv,hb,by rw[hk g (by rw[hF,hv];simp[Value.ownBlock])];exact hg,r⟩,hF⟩,
  fun w F ⟨h,hF⟩=>by subst hF;refine⟨by cases v.ownBlock<;>simp,fun b hb=>?_⟩;(have:v.ownBlock=some b:=by simpa using hb);exact(h.lt b this).2⟩
section
variable {w0 w w':World} {As R:List aW} {A C:aW}
theorem Sep.NP {α:Type} {A:α->aW} (h:Sep w0 w (aW.ex A::R)):∃x,Sep w0 w (A x::R):=by obtain⟨h1,Fs,⟨F,Gs,rfl,⟨x,h3⟩,h4⟩,h5,h6⟩:=h;exact⟨x,h1,F::Gs,⟨F,Gs,rfl,h3,h4⟩,h5,h6⟩
theorem Sep.NQ {α:Type} {A:α->aW} (x:α) (h:Sep w0 w (A x::R)):Sep w0 w (aW.ex A::R):=by obtain⟨h1,Fs,⟨F,Gs,rfl,h3,h4⟩,h5,h6⟩:=h;exact⟨h1,F::Gs,⟨F,Gs,rfl,⟨x,h3⟩,h4⟩,h5,h6⟩
theorem Sep.V5 {p:Prop} (h:Sep w0 w (aW.pure p::R)):p/\Sep w0 w R:=by obtain⟨h1,Fs,⟨F,Gs,rfl,⟨hp,rfl⟩,h4⟩,h5,h6⟩:=h;exact⟨hp,h1,Gs,h4,by simpa using h5,by simpa using h6⟩
theorem Sep.V6 {p:Prop} (hp:p) (h:Sep w0 w R):Sep w0 w (aW.pure p::R):=by obtain⟨h1,Fs,h4,h5,h6⟩:=h;exact⟨h1,[]::Fs,⟨[],Fs,rfl,⟨hp,rfl⟩,h4⟩,by simpa using h5,by simpa using h6⟩
theorem Sep.ab9 (h:Sep w0 w (aW.emp::R)):Sep w0 w R:=h.drop 1
theorem Sep.xK (h:Sep w0 w R):Sep w0 w (aW.emp::R):=by obtain⟨h1,Fs,h4,h5,h6⟩:=h;exact⟨h1,[]::Fs,⟨[],Fs,rfl,rfl,h4⟩,by simpa using h5,by simpa using h6⟩
theorem Sep.jO (h:Sep w0 w (aW.star A C::R)):Sep w0 w (A::C::R):=h.same fun Fs hf hn=>by obtain⟨F,Gs,rfl,⟨_,F1,F2,rfl,h3,h4⟩,h5⟩:=hf;exact⟨F1::F2::Gs,⟨F1,_,rfl,h3,F2,Gs,rfl,h4,h5⟩,by simpa[pG]using hn,fun b hb=>by simpa[or_assoc]using hb⟩
theorem Sep.mD (h:Sep w0 w (A::C::R)):Sep w0 w (aW.star A C::R):=h.same fun Fs hf hn=>by
 obtain⟨F1,Gs',rfl,h3,F2,Gs,rfl,h4,h5⟩:=hf;have hn':((F1++F2)++Gs.flatten).Nodup:=by simpa[pG]using hn
 exact⟨(F1++F2)::Gs,⟨F1++F2,Gs,rfl,⟨(tK.1 hn').1,F1,F2,rfl,h3,h4⟩,h5⟩,by simpa using hn',fun b hb=>by simpa[or_assoc]using hb⟩
theorem Sep.bG :∀ {As:List aW} {R:List aW},Sep w0 w (aW.dU As::R)->Sep w0 w (As++R)
 |[],_,h=>h.ab9
 |A::As,R,h=>by have h1:=h.jO;have h2:Sep w0 w (aW.dU As::A::R):=h1.perm (List.Perm.swap _ _ _);have h3:=bG h2;exact h3.perm lD
theorem Sep.dC :∀ {As:List aW} {R:List aW},Sep w0 w (As++R)->Sep w0 w (aW.dU As::R)
 |[],_,h=>h.xK
 |A::As,R,h=>by have h1:Sep w0 w (As++A::R):=h.perm lD.symm;have h2:=dC h1;exact(h2.perm (List.Perm.swap _ _ _)).mD
end
section
variable {w0 w w':World} {As R:List aW} {e:TypeId} {sz n:Nat} {v:Value} {cs:List Value}
theorem Sep.kC (i:Nat) (h:Sep w0 w As) (hi:As[i]? =some (.sl e sz v n cs)) (hn:0<n):
  ∃g cap,v=sV g n cap/\w0.heap.size<=g/\g<w.heap.size/\n<=cap/\cap<=maxLen:=by
 obtain⟨F,⟨ho,rfl⟩,hF⟩:=h.get i hi;rcases ho.2 with⟨_,h0⟩|⟨g,cap,cur,hv,_,hg,hc,hm,_⟩
 ·omega
 have:=hF g (by rw[hv];simp[Value.ownBlock]);exact⟨g,cap,hv,this.1,this.2,hc,hm⟩
theorem Sep.gL (i:Nat) (h:Sep w0 w As) (hi:As[i]? =some (.sl e sz v n cs)):
  ∃A cap,v= .slice A n cap/\n<=cap/\cap<=maxLen/\cs.length=n*sz:=by
 obtain⟨F,⟨ho,rfl⟩,hF⟩:=h.get i hi;rcases ho.2 with⟨rfl,rfl⟩|⟨g,cap,cur,hv,_,hg,hc,hm,_⟩
 ·exact⟨none,0,rfl,iC _,by simp[maxLen],ho.1⟩
 exact⟨_,cap,hv,hc,hm,ho.1⟩
theorem Sep.rd (i:Nat) (h:Sep w0 w As) (hi:As[i]? =some (.sl e sz v n cs)):Rd w sz v n cs:=by
 obtain⟨A,cap,hv,h1,h2,h3⟩:=h.gL i hi;refine⟨h3,A,cap,hv,h1,h2,fun hn=>?_⟩;obtain⟨g,cap',hv',h4,h5,_⟩:=h.kC i hi hn;obtain⟨F,⟨ho,_⟩,_⟩:=h.get i hi;have hA:A=some ⟨g,0,none⟩:=by rw[hv]at hv';injection hv'
 subst hA;exact⟨_,rfl,h5,ho.cells (g:=g) (by rw[hv'];rfl)⟩
theorem Sep.cellAt {g cap:Nat} (i:Nat) (h:Sep w0 w As) (hi:As[i]? =some (.sl e sz (sV g n cap) n cs)) (j:Nat) (hj:j<n*sz):w.cell? ⟨g,j,none⟩=cs[j]? :=by obtain⟨F,⟨ho,_⟩,_⟩:=h.get i hi;exact ho.cellAt j hj
theorem Sep.frozenAt {g cap:Nat} (i:Nat) (h:Sep w0 w As) (hi:As[i]? =some (.sl e sz (sV g n cap) n cs)) (j:Nat):w.frozen? ⟨g,j,none⟩=false:=by obtain⟨F,⟨ho,_⟩,_⟩:=h.get i hi;exact ho.frozenAt j
theorem Sep.stored {g cap:Nat} (i:Nat) (h:Sep w0 w As) (hi:As[i]? =some (.sl e sz (sV g n cap) n cs)) (j:Nat) (u:Value):
  Sep w0 (w.setCell ⟨g,j,none⟩ u) (As.set i (.sl e sz (sV g n cap) n (cs.set j u))):=by
 refine h.step i hi fun F ⟨ho,hF⟩ _=>⟨F,⟨(ho.stored j u).1,hF⟩,fun b hb=>.inl hb,?_⟩
 have:=mP.setCell w ⟨g,j,none⟩ u;rw[hF];simpa[Value.ownBlock]using this
theorem Sep.ayZ {b:Nat} {t:TypeId} {cs:Array Value} (i:Nat) (h:Sep w0 w As) (hi:As[i]? =some (.box b t cs)):w.heap[b]? =some (.cells cs t (0,0))/\w0.heap.size<=b/\b<w.heap.size:=by obtain⟨F,⟨ho,rfl⟩,hF⟩:=h.get i hi;exact⟨ho,hF b bK⟩
theorem Sep.bC {b:Nat} {t:TypeId} {cs:Array Value} (i:Nat) (h:Sep w0 w As) (hi:As[i]? =some (.box b t cs)) (j:Nat):w.cell? ⟨b,j,none⟩=cs[j]? :=
 cell_of_row w b j cs t (0,0) (h.ayZ i hi).1
theorem Sep.bF {b:Nat} {t:TypeId} {cs:Array Value} (i:Nat) (h:Sep w0 w As) (hi:As[i]? =some (.box b t cs)) (j:Nat):w.frozen? ⟨b,j,none⟩=false:=
 frozen_of_row w b j cs t (h.ayZ i hi).1
theorem Sep.bS {b:Nat} {t:TypeId} {cs:Array Value} (i:Nat) (h:Sep w0 w As) (hi:As[i]? =some (.box b t cs)) (j:Nat) (u:Value):
  Sep w0 (w.setCell ⟨b,j,none⟩ u) (As.set i (.box b t (cs.setIfInBounds j u))):=by
 refine h.step i hi fun F ⟨ho,hF⟩ _=>⟨F,⟨heap_setCell_same w b j cs t u ho,hF⟩,fun b hb=>.inl hb,?_⟩
 rw[hF];exact mP.setCell w ⟨b,j,none⟩ u
theorem Sep.bN (h:Sep w0 w As) (t:TypeId) (cs:Array Value):Sep w0 (w.alloc (.cells cs t)) (.box w.heap.size t cs::As):=
 h.new ((Below.refl _ _).alloc (iC _) _) (F:=[w.heap.size]) ⟨heap_alloc_new w _,rfl⟩ bK
theorem Sep.alloc (h:Sep w0 w As) (o:Obj):Sep w0 (w.alloc o) As:=h.pure ((Below.refl _ _).alloc (iC _) _)
theorem nM.nth {w:World}:∀ {As:List aW} {Fs:List (List Nat)} {i:Nat} {A:aW},nM w As Fs->As[i]? =some A->∃F,Fs[i]? =some F/\A.on w F
 |[],_,_,_,_,h=>by simp at h
 |A::As,_,0,_,⟨F,Gs,rfl,h1,_⟩,h=>by simp at h;subst h;exact⟨F,rfl,h1⟩
 |A::As,_,i+1,_,⟨F,Gs,rfl,_,h2⟩,h=>by obtain⟨G,hg,ho⟩:=h2.nth (i:=i) (by simpa using h);exact⟨G,by simpa using hg,ho⟩
theorem MC :∀ {Fs:List (List Nat)} {i j:Nat} {F G:List Nat},Fs.flatten.Nodup->Fs[i]? =some F->Fs[j]? =some G->i<j->∀b,b∈F->b∉G
 |[],_,_,_,_,_,h,_,_=>by simp at h
 |E::Fs,0,j+1,F,G,hn,h1,h2,_=>fun b hb hg=>by simp at h1;subst h1;rw[vW,tK]at hn;exact hn.2.2 b hb b (List.mem_flatten.2 ⟨G,gG (by simpa using h2),hg⟩) rfl
 |E::Fs,i+1,j+1,F,G,hn,h1,h2,h3=>by rw[vW,tK]at hn;exact MC hn.2.1 (by simpa using h1) (by simpa using h2) aD
 |_::_,_,0,_,_,_,_,_,h3=>by omega
theorem Sep.apart (i j:Nat) (hij:i<j) {A C:aW} (h:Sep w0 w As) (hi:As[i]? =some A) (hj:As[j]? =some C):∃F G,A.on w F/\C.on w G/\∀b,b∈F->b∉G:=by obtain⟨_,Fs,h3,h4,_⟩:=h;obtain⟨F,f1,f2⟩:=h3.nth hi;obtain⟨G,g1,g2⟩:=h3.nth hj;exact⟨F,G,f2,g2,MC h4 f1 g1 hij⟩
theorem Sep.ay0 (i j:Nat) (hij:i<j) {e1 e2:TypeId} {s1 s2 n1 n2 c1 c2 g1 g2:Nat} {l1 l2:List Value} (h:Sep w0 w As)
  (hi:As[i]? =some (.sl e1 s1 (sV g1 n1 c1) n1 l1)) (hj:As[j]? =some (.sl e2 s2 (sV g2 n2 c2) n2 l2)):g1≠g2:=by
 obtain⟨F,G,⟨_,rfl⟩,⟨_,rfl⟩,hne⟩:=h.apart i j hij hi hj;intro e;exact hne g1 (by simp[Value.ownBlock]) (by simp[Value.ownBlock,e])
theorem jP (w:World) (cs:Array Value) (t:TypeId) (g:Nat) (hg:g=w.heap.size):∀(j:Nat) u,cs.toList[j]? =some u->(w.alloc (.cells cs t)).cell? ((⟨g,0,none⟩:Addr).add j)=some u:=by subst hg;exact World.news_of_block (fr:=(0,0)) (heap_alloc_new w _)
theorem Sep.gZ (h:Sep w0 w As) (e:TypeId) (sz:Nat):Sep w0 w (.sl e sz (.slice none 0 0) 0 []::As):=by obtain⟨h1,Fs,h4,h5,h6⟩:=h;exact⟨h1,[]::Fs,⟨[],Fs,rfl,⟨World.ownsRow_nil _ _ _ _,rfl⟩,h4⟩,by simpa using h5,by simpa using h6⟩
theorem Sep.grown {g cap m:Nat} {cs':List Value} (i:Nat) (h:Sep w0 w As) (hi:As[i]? =some (.sl e sz v n cs))
  (hown:w'.ownsRow 0 e sz (sV g m cap) m cs') (hgrow:w.grownBy w' v.ownBlock) (hat:v.ownBlock=some g\/g=w.heap.size):
  Sep w0 w' (As.set i (.sl e sz (sV g m cap) m cs')):=by
 refine h.step i hi fun F ⟨ho,hF⟩ _=>⟨[g],⟨hown,rfl⟩,fun b hb=>?_,?_⟩
 ·simp at hb;subst hb;rcases hat with hat|hat
  ·left;rw[hF,hat];simp
  right;omega
 rw[hF];exact mP.uP hgrow
theorem Sep.agO {g cap:Nat} (i:Nat) (h:Sep w0 w As) (hi:As[i]? =some (.sl e sz (sV g n cap) n cs)) (k:Nat) (hk:k<=n):
  Sep w0 w (As.set i (.sl e sz (sV g k cap) k (cs.take (k*sz)))):=by
 refine h.step i hi fun F ⟨ho,hF⟩ _=>⟨F,⟨⟨?_,?_⟩,by rw[hF];rfl⟩,fun b hb=>.inl hb,mP.refl _ _⟩
 ·rw[qP,ho.1];exact yN (OP _ hk)
 rcases ho.2 with⟨h',_⟩|⟨g',cap',cur,h',hb,hg,hc,hm,hs,ht⟩
 ·simp at h'
 simp only[Value.slice.injEq,VQ,Addr.mk.injEq,and_true,true_and]at h';obtain⟨rfl,rfl⟩:=h';refine .inr ⟨g,cap,cur,rfl,hb,hg,by omega,hm,hs,?_⟩;rw[<-ht,List.take_take,yN (OP _ hk)]
end
section
variable {P:Program} {w0 w:World} {As:List aW} {ops:Array Oper} {rest:List Oper} {o:Oper} {a:Act} {Q:Exit->Act->World->Prop}
theorem mQ (k:Nat) (hgd:o.guard=none) (s x:Operand) (t:TypeId)
  (ho:o.op= .call {callee:=.builtin .append,args:=#[s,x],argTypes:=#[t,t]})
  (e:TypeId) (i:TypeInfo) (z:Value) (size bytes:Nat) (ht:P.underlying t=some (.slice e)) (hi:P.info? e=some i) (hz:i.zero=some z)
  (hsize:i.size=size) (hby:i.bytes=bytes) (hzs:z.cells.size=size) (hsz:0<size)
  (hS:Sep w0 w As) (v:Value) (n:Nat) (cs:List Value) (hk:As[k]? =some (.sl e size v n cs)) (hs:a.eval s=v)
  (ad:Addr) (m c:Nat) (news:List Value) (hx:a.eval x= .slice (some ad) m c) (hl:news.length=m*size) (hnews:∀j u,news[j]? =some u->w.cell? (ad.add j)=some u) (h1:∀u∈news,u.oneCell'=true)
  (hm:0<m) (h63:n+m<=maxLen) (hbytes:(n+m)*bytes<=140737488355328)
  (h:∀g cap w',Sep w0 w' (As.set k (.sl e size (sV g (n+m) cap) (n+m) (cs++news)))->w.heap.size<=w'.heap.size->wpList P ops Q rest (a.put o.dst (sV g (n+m) cap)) w'):
  wpList P ops Q (o::rest) a w:=by
 obtain⟨F,⟨hown,hF⟩,_⟩:=hS.get k hk;exact wpList_append_lies w hgd s x t ho 0 e i z size bytes ht hi hz hsize hby hzs hsz v n cs hs hown ad m c news hx hl hnews h1 hm h63 hbytes (fZ _) _ rfl
  fun g cap w' h2 h3 h4 _=>h g cap w' (hS.grown k hk h2 h3 h4) h3.size
theorem M9 {K:Act->World->Prop} {E:Prop} (k:Nat) (hgd:o.guard=none) (s x:Operand) (t:TypeId)
  (ho:o.op= .call {callee:=.builtin .append,args:=#[s,x],argTypes:=#[t,t]})
  (e:TypeId) (i:TypeInfo) (z:Value) (size bytes:Nat) (ht:P.underlying t=some (.slice e)) (hi:P.info? e=some i) (hz:i.zero=some z)
  (hsize:i.size=size) (hby:i.bytes=bytes) (hzs:z.cells.size=size) (hsz:0<size)
  (hS:Sep w0 w As) (v:Value) (n:Nat) (cs:List Value) (hk:As[k]? =some (.sl e size v n cs)) (hs:a.eval s=v)
  (ad:Addr) (m c:Nat) (news:List Value) (hx:a.eval x= .slice (some ad) m c) (hl:news.length=m*size) (hnews:∀j u,news[j]? =some u->w.cell? (ad.add j)=some u) (h1:∀u∈news,u.oneCell'=true)
  (hm:0<m) (h63:n+m<=maxLen) (hbytes:(n+m)*bytes<=140737488355328)
  (h:∀g cap w',Sep w0 w' (As.set k (.sl e size (sV g (n+m) cap) (n+m) (cs++news)))->w.heap.size<=w'.heap.size->K (a.put o.dst (sV g (n+m) cap)) w'):
  if Region.wanted o (yielded ops a.tmps)=true then Oper.wp P o a w K Q else E:=by
 obtain⟨F,⟨hown,hF⟩,_⟩:=hS.get k hk;exact step_append_lies w hgd s x t ho 0 e i z size bytes ht hi hz hsize hby hzs hsz v n cs hs hown ad m c news hx hl hnews h1 hm h63 hbytes (fZ _) _ rfl
  fun g cap w' h2 h3 h4 _=>h g cap w' (hS.grown k hk h2 h3 h4) h3.size
theorem qX (t e:TypeId) (i:TypeInfo) (z:Value) (bytes:Nat) (h1:P.underlying t=some (.slice e)) (h2:P.info? e=some i) (h3:i.zero=some z) (h4:i.size=1) (h5:i.bytes=bytes) (h6:z.cells=#[z])
  (kl kc:IntKind) (n:Nat) (b2:bytes*n<=281474976710656) (b3:n<=maxLen) (W:World):
  (Instr.makeSlice t (.int kl (n:Int)) (.int kc (n:Int))).run P W= .ok (sV W.heap.size n n) (W.alloc (.cells (madeCells #[z] n) e)):=by
 have h63':(n:Int)<=9223372036854775807:=by have h:=b3;simp[maxLen]at h;omega
 have hb':(i.bytes:Int)*(n:Int)<=281474976710656:=by
  have h:((i.bytes*n:Nat):Int)<=281474976710656:=by rw[h5];omega
  rwa [Int.natCast_mul]at h
 have hr:=run_make (P:=P) W t e i z h1 h2 h3 kl kc n n aD (O7 _) hb' h63';simpa[h4,h6]using hr
theorem Z34 {P:Prop} (h:P:=by exact h.new (F:=[w.heap.size]) ((Below.refl _ _).alloc (iC _) _) ⟨hown,rfl⟩ bK):P:=h
theorem Sep.made (h:Sep w0 w As) (e:TypeId) (z:Value) (n:Nat) (b3:n<=maxLen):Sep w0 (w.alloc (.cells (madeCells #[z] n) e)) (.sl e 1 (sV w.heap.size n n) n (List.replicate n z)::As):=by have hown:=World.ownsRow_lit (base:=0) (e:=e) (size:=1) w (madeCells #[z] n) n (fZ _) b3 (by rw[size_madeCells,zM]);rw[toList_madeCells_one]at hown;exact Z34
end
theorem Sep.apX {w0 w w':World} {As:List aW} {e:TypeId} {sz n m:Nat} {v v':Value} {cs cs':List Value} (i:Nat) (h:Sep w0 w As) (hi:As[i]? =some (.sl e sz v n cs))
  (hown:w'.ownsRow 0 e sz v' m cs') (hgrow:w.grownBy w' v.ownBlock) (hat:v'.ownBlock=v.ownBlock\/v'.ownBlock=some w.heap.size):
  Sep w0 w' (As.set i (.sl e sz v' m cs')):=by
 refine h.step i hi fun F ⟨ho,hF⟩ _=>⟨v'.ownBlock.toList,⟨hown,rfl⟩,fun b hb=>?_,?_⟩
 ·rcases hat with hat|hat
  ·left;rw[hF,<-hat];exact hb
  right;rw[hat]at hb;simp at hb;omega
 rw[hF];exact mP.uP hgrow
theorem O9 {P:Program} {w0 w:World} {As:List aW} (k:Nat) (t ty e:TypeId) (i:TypeInfo) (z:Value) (size bytes:Nat) (ht:P.underlying t=some (.slice e)) (hi:P.info? e=some i) (hz:i.zero=some z)
  (hsize:i.size=size) (hby:i.bytes=bytes) (hzs:z.cells.size=size) (hsz:0<size)
  (hS:Sep w0 w As) (v:Value) (n:Nat) (cs:List Value) (hk:As[k]? =some (.sl e size v n cs))
  (xv:Value) (m:Nat) (news:List Value) (hr:Rd w size xv m news) (h1:∀u∈news,u.oneCell'=true) (h63:n+m<=maxLen) (hbytes:(n+m)*bytes<=140737488355328):
  ∃v' w',(Builtin.append_ #[t,t] ty #[v,xv]).run P w= .ok v' w'/\Sep w0 w' (As.set k (.sl e size v' (n+m) (cs++news)))/\w.heap.size<=w'.heap.size:=by
 obtain⟨F,⟨hown,hF⟩,_⟩:=hS.get k hk;obtain⟨hl,A,c,rfl,h2,h3,h4⟩:=hr;rcases A with _|ad
 ·have hm:m=0:=by
   rcases yL m with h0|h0
   ·exact h0
   obtain⟨ad,h,_⟩:=h4 h0;cases h
  subst hm;have hn:news=[]:=vS (by simpa using hl);subst hn;have hrun:(Builtin.append_ #[t,t] ty #[v,.slice none 0 c]).run P w= .ok v w:=by
   rcases hown.2 with⟨rfl,rfl⟩|⟨g,cap,cur,rfl,_,_,hnc,_⟩
   ·simp[Builtin.append_,run_underlying ht,sizeOf,typeInfo,hi,Builtin.lenOf,Builtin.firstCells]
   simp[Builtin.append_,run_underlying ht,sizeOf,typeInfo,hi,Builtin.lenOf,Builtin.firstCells,hnc,storeCells]
  refine⟨v,w,hrun,?_,iC _⟩;rw[sF,yX46];obtain⟨hlt,e'⟩:=gF.1 hk;rw[<-e',abV];exact hS
 have hcells:∀j u,news[j]? =some u->w.cell? (ad.add j)=some u:=by
  intro j u hu;rcases yL m with h0|h0
  ·subst h0;have hn:news=[]:=vS (by simpa using hl);subst hn;simp at hu
  obtain⟨ad',h,_,hc⟩:=h4 h0;injection h with h;subst h;exact hc j u hu
 obtain⟨v',w',hrun,h5,h6,_,h7⟩:=run_append_own_at (P:=P) w 0 t ty e i z size bytes ht hi hz hsize hby hzs hsz v n cs hown ad m c news hl hcells h1 h63 hbytes (fZ _);exact⟨v',w',hrun,hS.apX k hk h5 h6 h7,h6.size⟩
section
variable {P:Program} {w0 w:World} {As:List aW} {ops:Array Oper} {rest:List Oper} {o:Oper} {a:Act} {Q:Exit->Act->World->Prop}
theorem pO {K:Act->World->Prop} (k:Nat) (s x:Operand) (t:TypeId)
  (ho:o.op= .call {callee:=.builtin .append,args:=#[s,x],argTypes:=#[t,t]})
  (e:TypeId) (i:TypeInfo) (z:Value) (size bytes:Nat) (ht:P.underlying t=some (.slice e)) (hi:P.info? e=some i) (hz:i.zero=some z)
  (hsize:i.size=size) (hby:i.bytes=bytes) (hzs:z.cells.size=size) (hsz:0<size)
  (hS:Sep w0 w As) (v:Value) (n:Nat) (cs:List Value) (hk:As[k]? =some (.sl e size v n cs)) (hs:a.eval s=v)
  (xv:Value) (m:Nat) (news:List Value) (hx:a.eval x=xv) (hr:Rd w size xv m news) (h1:∀u∈news,u.oneCell'=true)
  (h63:n+m<=maxLen) (hbytes:(n+m)*bytes<=140737488355328)
  (h:∀v' w',Sep w0 w' (As.set k (.sl e size v' (n+m) (cs++news)))->w.heap.size<=w'.heap.size->K (a.put o.dst v') w'):
  o.wp P a w K Q:=by
 obtain⟨v',w',hrun,h2,h3⟩:=O9 (P:=P) k t o.type e i z size bytes ht hi hz hsize hby hzs hsz hS v n cs hk xv m news hr h1 h63 hbytes;unfold Oper.wp execOp;simp only[ho,resolve,invoke,builtin,Sem.run_bind,Sem.run_pure,Result.andThen_ok,List.map_toArray,jV,zL,hs,hx,hrun];exact h v' w' h2 h3
theorem dI (k:Nat) (hgd:o.guard=none) (s x:Operand) (t:TypeId)
  (ho:o.op= .call {callee:=.builtin .append,args:=#[s,x],argTypes:=#[t,t]})
  (e:TypeId) (i:TypeInfo) (z:Value) (size bytes:Nat) (ht:P.underlying t=some (.slice e)) (hi:P.info? e=some i) (hz:i.zero=some z)
  (hsize:i.size=size) (hby:i.bytes=bytes) (hzs:z.cells.size=size) (hsz:0<size)
  (hS:Sep w0 w As) (v:Value) (n:Nat) (cs:List Value) (hk:As[k]? =some (.sl e size v n cs)) (hs:a.eval s=v)
  (xv:Value) (m:Nat) (news:List Value) (hx:a.eval x=xv) (hr:Rd w size xv m news) (h1:∀u∈news,u.oneCell'=true)
  (h63:n+m<=maxLen) (hbytes:(n+m)*bytes<=140737488355328)
  (h:∀v' w',Sep w0 w' (As.set k (.sl e size v' (n+m) (cs++news)))->w.heap.size<=w'.heap.size->wpList P ops Q rest (a.put o.dst v') w'):
  wpList P ops Q (o::rest) a w:=
 wpList_plain hgd fun _ hK=>pO k s x t ho e i z size bytes ht hi hz hsize hby hzs hsz hS v n cs hk hs xv m news hx hr h1 h63 hbytes fun v' w' h2 h3=>hK _ _ (h v' w' h2 h3)
theorem jH {K:Act->World->Prop} {E:Prop} (k:Nat) (hgd:o.guard=none) (s x:Operand) (t:TypeId)
  (ho:o.op= .call {callee:=.builtin .append,args:=#[s,x],argTypes:=#[t,t]})
  (e:TypeId) (i:TypeInfo) (z:Value) (size bytes:Nat) (ht:P.underlying t=some (.slice e)) (hi:P.info? e=some i) (hz:i.zero=some z)
  (hsize:i.size=size) (hby:i.bytes=bytes) (hzs:z.cells.size=size) (hsz:0<size)
  (hS:Sep w0 w As) (v:Value) (n:Nat) (cs:List Value) (hk:As[k]? =some (.sl e size v n cs)) (hs:a.eval s=v)
  (xv:Value) (m:Nat) (news:List Value) (hx:a.eval x=xv) (hr:Rd w size xv m news) (h1:∀u∈news,u.oneCell'=true)
  (h63:n+m<=maxLen) (hbytes:(n+m)*bytes<=140737488355328)
  (h:∀v' w',Sep w0 w' (As.set k (.sl e size v' (n+m) (cs++news)))->w.heap.size<=w'.heap.size->K (a.put o.dst v') w'):
  if Region.wanted o (yielded ops a.tmps)=true then Oper.wp P o a w K Q else E:=by
 have hw:Region.wanted o (yielded ops a.tmps)=true:=by simp[Region.wanted,hgd]
 rw[if_pos hw];exact pO k s x t ho e i z size bytes ht hi hz hsize hby hzs hsz hS v n cs hk hs xv m news hx hr h1 h63 hbytes h
end
def aS (v:Value) (xs:List Int):aW:=.sl 3 1 v xs.length (xs.map (.int .i64))
section
variable {w0 w w':World} {As R:List aW} {α:Type} {e:TypeId} {One:Value->α->aW} {v:Value} {xs:List α}
theorem aC9 {w:World} {F:List Nat} {e:TypeId} {sz n:Nat} {v:Value} {cs:List Value} (h:(aW.sl e sz v n cs).on w F):Rd w sz v n cs:=by
 obtain⟨ho,_⟩:=h;refine⟨ho.1,?_⟩;rcases ho.2 with⟨rfl,rfl⟩|⟨g,cap,cur,rfl,_,hg,hc,hm,_⟩
 ·exact⟨none,0,rfl,iC _,by simp[maxLen],fun h=>absurd h (Nat.lt_irrefl _)⟩
 exact⟨_,cap,rfl,hc,hm,fun _=>⟨_,rfl,lt_of_heap hg,ho.cells (g:=g) rfl⟩⟩
theorem apY {w:World} {F:List Nat} {v:Value} {xs:List Int} (h:(aS v xs).on w F):O8 w v xs:=aC9 h
theorem Sep.ints (i:Nat) {v:Value} {xs:List Int} (h:Sep w0 w As) (hi:As[i]? =some (aS v xs)):O8 w v xs:=by obtain⟨F,ho,_⟩:=h.get i hi;exact apY ho
theorem apZ {β:Type} {f:Value->α->β} {vs:List Value} {xs:List α} {k:Nat} {v:Value} {x:α} (hv:vs[k]? =some v) (hx:xs[k]? =some x):(List.zipWith f vs xs)[k]? =some (f v x):=by rw[List.getElem?_zipWith,hv,hx]
theorem alY (h:Sep w0 w R):Sep w0 w (aS (.slice none 0 0) []::R):=h.gZ _ _
end
theorem Z37 {P:Prop} (h:P:=by unfold Go.Proofs.sortWorld Go.Sort.grow Go.Sort.putRow Go.Sort.mapBlock Go.Sort.ahead;simp only;rw[Array.getElem?_append_left (by simpa using hb),Array.getElem?_modify]):P:=h
end Go.Proofs.YtmjomdkleikgbaaGreat
