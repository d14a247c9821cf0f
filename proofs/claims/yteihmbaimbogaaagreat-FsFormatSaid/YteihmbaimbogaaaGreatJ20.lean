/- FuD, FuF, laid together. -/
import Derived.Test.YteihmbaimbogaaaGreatJ19
namespace Go.Proofs.YteihmbaimbogaaaGreat
open Go.RowKit
set_option linter.unusedVariables false
set_option linter.unusedSimpArgs false
def putsP (S:VS):List (Nat×List UInt8):=((List.range (S.nb-96)).filter fun k=>bk S.cur k !=bk S.D.now (96+k)).map fun k=>(k,bk S.cur k)
def VS.commit (S:VS):DK×Bool:=if putsP S=[]then(S.D,true)else runD (commitActs (putsP S)) S.D
def nowL :List DAct→Blks→Blks
 |[],c=>c
 |some x::l,c=>nowL l (c.set x.1 x.2)
 |none::l,c=>nowL l c
theorem runD_now :∀ {l:List DAct} {D D':DK},runD l D=(D',true)→D'.now=nowL l D.now
 |[],D,D',h=>by cases h;rfl
 |none::l,D,D',h=>by
  rw[runD]at h;split at h
  ·cases h
  rw[runD_now h];(show nowL l (D.fl).now=nowL l D.now);unfold DK.fl;rw[DK.step_now]
 |some x::l,D,D',h=>by
  rw[runD]at h;split at h
  ·cases h
  rw[runD_now h];(show nowL l (D.wr x.1 x.2).now=nowL l (D.now.set x.1 x.2));unfold DK.wr;rw[DK.step_now]
theorem nowL_append (xs ys:List DAct) (c:Blks):nowL (xs++ys) c=nowL ys (nowL xs c):=by
 induction xs generalizing c with
 |nil=>rfl
 |cons x xs ih=>
  cases x with
  |none=>exact ih c
  |some y=>exact ih _
theorem nowL_far {l:List DAct} {c:Blks} {j:Nat} (h:∀x∈l,∀i b,x=some (i,b)→i≠j):bk (nowL l c) j=bk c j:=by
 induction l generalizing c with
 |nil=>rfl
 |cons x l ih=>
  cases x with
  |none=>exact ih fun y hy=>h y (List.mem_cons_of_mem _ hy)
  |some y=>(show bk (nowL l (c.set y.1 y.2)) j=_);rw[ih fun z hz=>h z (List.mem_cons_of_mem _ hz),bk_set_ne _ _ (fun e=>h (some y) (List.mem_cons_self ..) y.1 y.2 rfl e.symm)]
theorem nowL_puts :∀(ps:List (Nat×List UInt8)) (c:Blks) (k:Nat),(ps.map (·.1)).Nodup→96+k<c.length→bk (nowL (putActs ps) c) (96+k)=match ps.find? fun x=>x.1==k with
  |some x=>x.2
  |none=>bk c (96+k)
 |[],c,k,_,_=>rfl
 |x::ps,c,k,hn,hk=>by
  rw[List.map_cons,List.nodup_cons]at hn;(show bk (nowL (putActs ps) (c.set (96+x.1) x.2)) (96+k)=_);rw[nowL_puts ps _ k hn.2 (by rw[List.length_set];exact hk),List.find?_cons];by_cases e:x.1=k
  ·(have hno:ps.find? (fun y=>y.1==k)=none:=by rw[List.find?_eq_none];intro y hy hyk;(have:y.1=k:=by simpa using hyk);exact hn.1 (List.mem_map.2 ⟨y,hy,by rw[this,e]⟩));rw[hno];simp only[e,beq_self_eq_true];rw[bk_set _ _ _ _ (by omega),if_pos rfl]
  (have e2:(x.1==k)=false:=by simpa using e);rw[e2];simp only;cases hf:ps.find? (fun y=>y.1==k)with
  |some y=>rfl
  |none=>(show bk (c.set (96+x.1) x.2) (96+k)=_);rw[bk_set_ne _ _ (by omega)]
theorem nowL_length (l:List DAct) (c:Blks):(nowL l c).length=c.length:=by
 induction l generalizing c with
 |nil=>rfl
 |cons x l ih=>
  cases x with
  |none=>exact ih c
  |some y=>exact(ih _).trans (List.length_set ..)
theorem nowL_commit {ps:List (Nat×List UInt8)} {c:Blks} {k:Nat} (hn:(ps.map (·.1)).Nodup) (hlen:ps.length≤40) (hk:96+k<c.length):bk (nowL (commitActs ps) c) (96+k)=match ps.find? fun x=>x.1==k with
  |some x=>x.2
  |none=>bk c (96+k):=by
 unfold commitActs;rw[nowL_append];have e1:∀c':Blks,nowL (none::some (0,headB (ps.map (·.1)))::none::(putActs ps++[none,some (0,headB []),none])) c'=(nowL (putActs ps) (c'.set 0 (headB (ps.map (·.1))))).set 0 (headB []):=fun c'=>by(show nowL (putActs ps++[none,some (0,headB []),none]) _=_);rw[nowL_append];rfl
 rw[e1,bk_set_ne _ _ (by omega),nowL_puts ps _ k hn (by rw[List.length_set,nowL_length];exact hk)];have e2:bk ((nowL (logActs ps) c).set 0 (headB (ps.map (·.1)))) (96+k)=bk c (96+k):=by rw[bk_set_ne _ _ (by omega)];(refine nowL_far fun x hx i b e=>?_);unfold logActs at hx;obtain⟨y,hy,e3⟩:=List.mem_map.1 hx;rw[e]at e3;injection e3 with e4;injection e4 with e5 _;have:=List.snd_lt_of_mem_zipIdx hy;omega
 cases hf:ps.find? (fun y=>y.1==k)with
 |some y=>rfl
 |none=>exact e2
theorem putsP_keys (S:VS):(putsP S).map (·.1)=(List.range (S.nb-96)).filter fun k=>bk S.cur k !=bk S.D.now (96+k):=by unfold putsP;rw[List.map_map];exact List.map_id _
theorem putsP_nodup (S:VS):((putsP S).map (·.1)).Nodup:=by rw[putsP_keys];exact List.nodup_range.filter _
theorem putsP_mem {S:VS} {x:Nat×List UInt8} (h:x∈putsP S):x.1<S.nb-96∧x.2=bk S.cur x.1∧bk S.cur x.1≠bk S.D.now (96+x.1):=by unfold putsP at h;obtain⟨k,hk,rfl⟩:=List.mem_map.1 h;obtain⟨h1,h2⟩:=List.mem_filter.1 hk;exact⟨List.mem_range.1 h1,rfl,by simpa using h2⟩
theorem putsP_find (S:VS) {k:Nat} (hk:k<S.nb-96):(match (putsP S).find? fun x=>x.1==k with
  |some x=>x.2
  |none=>bk S.D.now (96+k))=bk S.cur k:=by
 cases hf:(putsP S).find? (fun y=>y.1==k)with
 |some y=>(have h1:y.1=k:=by simpa using List.find?_some hf);have h2:=(putsP_mem (List.mem_of_find?_eq_some hf)).2.1;rw[h1]at h2;exact h2
 |none=>
  rw[List.find?_eq_none]at hf;(show bk S.D.now (96+k)=_);by_cases e:bk S.cur k=bk S.D.now (96+k)
  ·exact e.symm
  refine absurd ?_ (hf (k,bk S.cur k) ?_)
  ·simp
  unfold putsP;exact List.mem_map.2 ⟨k,List.mem_filter.2 ⟨List.mem_range.2 hk,by simpa using e⟩,rfl⟩
theorem commit_now {S:VS} (hlen:S.D.now.length=S.nb) (hfew:(putsP S).length≤40) (h:S.commit.2=true) {k:Nat} (hk:k<S.nb-96):bk S.commit.1.now (96+k)=bk S.cur k:=by
 unfold VS.commit at h ⊢;by_cases e:putsP S=[]
 ·rw[if_pos e];have:=putsP_find S hk;rw[e]at this;exact this
 rw[if_neg e]at h ⊢;have h1:runD (commitActs (putsP S)) S.D=((runD (commitActs (putsP S)) S.D).1,true):=by rw[←h]
 rw[runD_now h1,nowL_commit (putsP_nodup S) hfew (by omega),putsP_find S hk]
theorem commitActs_ok {nb:Nat} {ps:List (Nat×List UInt8)} (h96:96<nb) (hps:∀x∈ps,96+x.1<nb∧x.2.length=512) (hlen:ps.length≤40):∀x∈commitActs ps,∀i b,x=some (i,b)→i<nb∧b.length=512:=by
 intro x hx i b e;subst e;unfold commitActs at hx;rcases List.mem_append.1 hx with hx|hx
 ·unfold logActs at hx;obtain⟨y,hy,e⟩:=List.mem_map.1 hx;injection e with e1;injection e1 with e2 e3;subst e2 e3;have h1:=List.snd_lt_of_mem_zipIdx hy;have h2:=List.fst_mem_of_mem_zipIdx hy;exact⟨by omega,(hps _ h2).2⟩
 simp only[List.mem_cons,List.mem_append,reduceCtorEq,Option.some.injEq,Prod.mk.injEq,false_or,List.not_mem_nil,or_false]at hx;rcases hx with⟨rfl,rfl⟩|hx|⟨rfl,rfl⟩
 ·exact⟨by omega,headB_len (by rw[List.length_map];omega)⟩
 ·unfold putActs at hx;obtain⟨y,hy,e⟩:=List.mem_map.1 hx;injection e with e1;injection e1 with e2 e3;subst e2 e3;exact hps _ hy
 exact⟨by omega,headB_len (by simp)⟩
theorem commit_ok {S:VS} (hD:S.D.ok S.nb) (h96:96<S.nb) (hcur:BlksOk (S.nb-96) S.cur) (hfew:(putsP S).length≤40):S.commit.1.ok S.nb:=by
 unfold VS.commit;split
 ·exact hD
 refine runD_ok hD (commitActs_ok h96 (fun x hx=>?_) hfew);obtain⟨h1,h2,_⟩:=putsP_mem hx;exact⟨by omega,by rw[h2];exact bk_len hcur h1⟩
def putsB (M V:BM):BM:=V.foldl (fun M x=>delB M x.1++[x]) M
theorem putsB_snoc (M V:BM) (x:Nat×Value×List UInt8):putsB M (V++[x])=delB (putsB M V) x.1++[x]:=by unfold putsB;rw[List.foldl_append];rfl
theorem putsB_mem {M V:BM} {x:Nat×Value×List UInt8} (h:x∈putsB M V):x∈V∨(x∈M∧∀y∈V,y.1≠x.1):=by
 induction V generalizing M with
 |nil=>exact .inr ⟨h,fun y hy=>by cases hy⟩
 |cons y V ih=>
  have h2:x∈putsB (delB M y.1++[y]) V:=h;rcases ih h2 with h3|⟨h3,h4⟩
  ·exact .inl (List.mem_cons_of_mem _ h3)
  rcases List.mem_append.1 h3 with h3|h3
  ·unfold delB at h3;obtain⟨h5,h6⟩:=List.mem_filter.1 h3;(have h7:x.1≠y.1:=by simpa using h6);refine .inr ⟨h5,fun z hz=>?_⟩;rcases List.mem_cons.1 hz with rfl|hz
   ·exact fun e=>h7 e.symm
   exact h4 z hz
  rw[List.mem_singleton]at h3;exact .inl (by rw[h3];exact List.mem_cons_self ..)
theorem putsB_perm (M V:BM):∃rest:BM,(putsB M V++rest).Perm (M++V):=by
 induction V generalizing M with
 |nil=>exact⟨[],by simp[putsB]⟩
 |cons y V ih=>obtain⟨r,hr⟩:=ih (delB M y.1++[y]);refine⟨r++M.filter (fun x=>x.1==y.1),?_⟩;(have e1:(putsB M (y::V)++(r++M.filter fun x=>x.1==y.1)).Perm ((delB M y.1++[y])++V++M.filter fun x=>x.1==y.1):=by rw[←List.append_assoc];exact hr.append_right _);refine e1.trans ?_;have e2:(M.filter (fun x=>x.1==y.1)++delB M y.1).Perm M:=List.filter_append_perm (fun x=>x.1==y.1) M;(have e3:((delB M y.1++[y])++V++M.filter fun x=>x.1==y.1).Perm ((M.filter fun x=>x.1==y.1)++(delB M y.1++(y::V))):=by refine List.perm_append_comm.trans ?_;simp only[List.append_assoc,List.singleton_append];exact .refl _);refine e3.trans ?_;rw[←List.append_assoc];exact e2.append_right _
def VCw (S:VS) (a:VA):Prop:=VC {S with D:= {S.D with off:=false}} a
theorem VCw.on {S:VS} {a:VA} (h:VCw S a) (ho:S.D.off=false):VC S a:=
 ⟨⟨h.dok.now,h.dok.fast,h.dok.few,h.dok.some,h.dok.back,h.dok.left⟩,h.big,ho,h.cur,h.seen,h.fresh,h.rest,h.few,h.none⟩
def VS.settled (S:VS):VS:= {S with D:=S.commit.1,m:=0}
section
variable {w0 w:World} {R:List Asn} {f q p:Nat} {S:VS} {a:VA}
theorem perm_sorted_eq {l1 l2:List Nat} (h:l1.Perm l2) (h1:l1.Pairwise (· ≤ ·)) (h2:l2.Pairwise (· ≤ ·)):l1=l2:=
 h.eq_of_pairwise (fun a b _ _ h3 h4=>Nat.le_antisymm h3 h4) h1 h2
theorem puts_sorted {V:BM} {P P':List PutX} (hC:VC S a) (hnd:(a.FM.map (·.1)).Nodup) (hV:V.Perm a.FM) (hP:P.map (·.1)=(V.filter (diffB S)).map fun x=>(x.1,x.2.1)) (hp:P.Perm P') (hs:P'.Pairwise fun x y=>x.1.1≤y.1.1):
  P'.map (fun x=>(x.1.1,bk S.cur x.1.1))=putsP S:=by
 have hk:P.map (·.1.1)=(V.filter (diffB S)).map (·.1):=by have:=congrArg (List.map Prod.fst) hP;rw[List.map_map,List.map_map]at this;exact this
 have hndV:(V.map (·.1)).Nodup:=(hV.map (·.1)).nodup_iff.2 hnd;have e:P'.map (·.1.1)=(putsP S).map (·.1):=by
  refine perm_sorted_eq ?_ ?_ ?_
  ·(have h1:(P'.map (·.1.1)).Perm ((V.filter (diffB S)).map (·.1)):=by rw[←hk];exact(hp.map _).symm);refine h1.trans ?_;rw[List.perm_ext_iff_of_nodup (hndV.sublist (List.filter_sublist.map _)) (putsP_nodup S)];intro k;rw[putsP_keys];constructor
   ·intro hm;obtain⟨x,hx,rfl⟩:=List.mem_map.1 hm;obtain⟨h2,h3⟩:=List.mem_filter.1 hx;have h4:=hC.fresh x (hV.subset h2);refine List.mem_filter.2 ⟨List.mem_range.2 h4.1,?_⟩;unfold diffB at h3;rw[h4.2]at h3;exact h3
   intro hm;obtain⟨h2,h3⟩:=List.mem_filter.1 hm;cases hf:findB a.FM k with
   |none=>have:=hC.rest k (List.mem_range.1 h2) hf;rw[this]at h3;simp at h3
   |some y=>have h5:=findB_some hf;refine List.mem_map.2 ⟨(k,y),List.mem_filter.2 ⟨hV.symm.subset h5,?_⟩,rfl⟩;unfold diffB;rw[(hC.fresh _ h5).2];exact h3
  ·rw[List.pairwise_map];exact hs
  rw[putsP_keys];exact(List.pairwise_lt_range.imp Nat.le_of_lt).filter _
 have h2:P'.map (fun x=>(x.1.1,bk S.cur x.1.1))=(P'.map (·.1.1)).map fun k=>(k,bk S.cur k):=by rw[List.map_map];rfl
 rw[h2,e,putsP_keys];rfl
theorem Sep.blkP_at {As:List Asn} {M:BM} {x:Nat×Value×List UInt8} (i:Nat) (h:Sep w0 w As) (hi:As[i]? =some (.starL (blkP M))) (hx:x∈M):BytesAt w x.2.1 x.2.2:=by have e:=(split_at hi).1;rw[e]at h;exact(h.perm List.perm_middle).blkP_rd hx
theorem puts_in {V:BM} {P P':List PutX} {g n c:Nat} {R':List Asn} (hC:VC S a) (hV:V.Perm a.FM) (hP:P.map (·.1)=(V.filter (diffB S)).map fun x=>(x.1,x.2.1)) (hp:P.Perm P') (hn:P'.length=n)
  (hS0:Sep w0 w R') (i j:Nat) (hi:R'[i]? =some (.sl 190 2 (.slice (some ⟨g,0,none⟩) n c) n (P'.flatMap putC))) (hj:R'[j]? =some (.starL (blkP a.FM))):
  PutsIn w0 R' g n (P'.map fun x=>(x.1.1,bk S.cur x.1.1)) (P'.map (·.1.2)):=by
 have hmem:∀x∈P',∃y∈a.FM,y.1=x.1.1∧y.2.1=x.1.2∧y.2.2=bk S.cur x.1.1∧y.1<S.nb-96:=fun x hx=>by have h1:x.1∈P.map (·.1):=List.mem_map.2 ⟨x,hp.symm.subset hx,rfl⟩;rw[hP]at h1;obtain⟨y,hy,e⟩:=List.mem_map.1 h1;have h2:=hV.subset (List.mem_filter.1 hy).1;have h3:=hC.fresh y h2;(have e1:y.1=x.1.1:=by rw[←e]);exact⟨y,h2,e1,by rw[←e],by rw[←e1];exact h3.2,h3.1⟩
 have hat:∀(w':World) (X:List Asn) (k:Nat),(X++R')[X.length+k]? =R'[k]? :=fun w' X k=>by rw[List.getElem?_append_right (by omega),Nat.add_sub_cancel_left]
 have hk2:∀x,(putC x).length=2:=fun _=>rfl
 refine⟨by rw[List.length_map];exact hn,by rw[List.length_map];exact hn,fun w' X hS k hk=>?_,fun k hk=>?_,fun u hu=>?_⟩
 ·(have h1:=fun j hj=>hS.cellAt (X.length+i) ((hat w' X i).trans hi) j hj);have h2:P'[k]? =some P'[k]:=gE (by omega);refine⟨?_,?_⟩
  ·have h3:=h1 (k*2) (by omega);have h4:=flat_get hk2 P' k 0 (by decide);rw[Nat.add_zero]at h4;rw[h3,h4,h2];simp[putC]
  have h3:=h1 (k*2+1) (by omega);rw[h3,flat_get hk2 P' k 1 (by decide),h2];simp[putC]
 ·intro w' X hS;obtain⟨y,hy,_,e2,e3,_⟩:=hmem (P'[k]'(by omega)) (List.getElem_mem _);have h5:=hS.blkP_at (X.length+j) ((hat w' X j).trans hj) hy;rw[e2,e3]at h5;simpa using h5
 obtain⟨x,hx,rfl⟩:=List.mem_map.1 hu;obtain⟨y,hy,e1,e2,e3,e4⟩:=hmem x hx;have h5:=hS0.blkP_at j hj hy;obtain⟨_,A,c',e,_⟩:=h5;rw[e3,bk_len hC.cur (by rw[←e1];exact e4),e2]at e;exact⟨A,c',e⟩
theorem puts_ok {V:BM} {P P':List PutX} (hC:VC S a) (hps:P'.map (fun x=>(x.1.1,bk S.cur x.1.1))=putsP S) (h1:1≤P'.length) (h40:P'.length≤40):PutsOk S.nb (P'.map fun x=>(x.1.1,bk S.cur x.1.1)):=by
 refine⟨by rw[List.length_map];exact h1,by rw[List.length_map];exact h40,fun x hx=>?_,?_⟩
 ·rw[hps]at hx;obtain⟨h2,h3,_⟩:=putsP_mem hx;have:=hC.big;exact⟨by omega,by rw[h3];exact bk_len hC.cur h2⟩
 rw[hps];exact putsP_nodup S
def seenG :Option Nat→BM→Asn
 |none,_=>.emp
 |some b,M=>gmR 3 b (blkL M)
theorem Sep.seen_split {sb:Option Nat} {M:BM} (hn:sb=none→M=[]) (h:Sep w0 w (seenR sb M::R)):Sep w0 w (seenG sb M:: .starL (blkP M)::R):=by
 cases sb with
 |none=>rw[hn rfl];exact(h.emp_open).emp_shut.emp_shut
 |some b=>exact h.star_open
theorem Sep.seen_join {sb:Option Nat} {M V FM:BM} (hV:V.Perm FM) (hn:sb=none→M=[]∧V=[]) (h:Sep w0 w (seenG sb (putsB M V):: .starL (blkP M):: .starL (blkP FM)::R)):Sep w0 w (seenR sb (putsB M V)::R):=by
 cases sb with
 |none=>exact((h.drop 3).emp_shut)
 |some b=>obtain⟨rest,hr⟩:=putsB_perm M V;have h1:Sep w0 w (.starL (blkP M):: .starL (blkP FM)::gmR 3 b (blkL (putsB M V))::R):=Sep.sel [1,2,0] h (by decide) (by simp);have h2:Sep w0 w (blkP M++(.starL (blkP FM)::gmR 3 b (blkL (putsB M V))::R)):=h1.starL_open;have h3:Sep w0 w (.starL (blkP FM)::(blkP M++(gmR 3 b (blkL (putsB M V))::R))):=h2.perm List.perm_middle;have h4:Sep w0 w (blkP FM++(blkP M++(gmR 3 b (blkL (putsB M V))::R))):=h3.starL_open;(have e:(blkP FM++(blkP M++(gmR 3 b (blkL (putsB M V))::R))).Perm (blkP (putsB M V)++(blkP rest++(gmR 3 b (blkL (putsB M V))::R))):=by rw[←List.append_assoc,←List.append_assoc];refine List.Perm.append_right _ ?_;(have h5:(blkP (putsB M V)++blkP rest).Perm (blkP M++blkP V):=by have:=hr.map (fun x:Nat×Value×List UInt8=>bytesR x.2.1 x.2.2);rw[List.map_append,List.map_append]at this;exact this);exact(List.perm_append_comm.trans (List.Perm.append_left _ (hV.symm.map _))).trans h5.symm);have h5:=h4.perm e;have h6:Sep w0 w (blkP rest++(.starL (blkP (putsB M V))::gmR 3 b (blkL (putsB M V))::R)):=(h5.starL_shut).perm List.perm_middle.symm;have h7:=h6.drop (blkP rest).length;rw[List.drop_left]at h7;exact(h7.perm (List.Perm.swap _ _ _)).star_shut
theorem settled_vc {b:VA} {V:BM} (hC:VC S a) (hR:Reads S a b) (hV:V.Perm a.FM) (hm:S.m≤40) (hc:S.commit.2=true) (hne:a.FM≠[]→b.SM≠[]) (nb:Nat):VCw S.settled ⟨b.sb,putsB b.SM V,nb,[]⟩:=by
 have hfew:(putsP S).length≤40:=by
  have h1:((putsP S).map (·.1)).length≤(a.FM.map (·.1)).length:=List.Nodup.length_le_of_subset (putsP_nodup S) fun k hk=>by
   rw[putsP_keys]at hk;obtain⟨h2,h3⟩:=List.mem_filter.1 hk;cases hf:findB a.FM k with
   |none=>rw[hC.rest k (List.mem_range.1 h2) hf]at h3;simp at h3
   |some y=>exact List.mem_map.2 ⟨(k,y),findB_some hf,rfl⟩
  rw[List.length_map,List.length_map]at h1;have:=hC.few;omega
 have hnow:=fun k hk=>commit_now (S:=S) hC.dok.now.len hfew hc (k:=k) hk
 have hok:=commit_ok hC.dok hC.big hC.cur hfew;refine⟨⟨hok.now,hok.fast,hok.few,hok.some,hok.back,hok.left⟩,hC.big,rfl,hC.cur,fun x hx=>?_,(fun x hx=>absurd hx List.not_mem_nil),fun k hk _=>(hnow k hk).symm,Nat.zero_le _,fun hs=>?_⟩
 ·rcases putsB_mem hx with h1|⟨h1,h2⟩
  ·have h3:=hC.fresh x (hV.subset h1);exact⟨h3.1,by rw[h3.2];exact(hnow _ h3.1).symm⟩
  have h3:=hR.ok.seen x h1;refine⟨h3.1,?_⟩;have hf:findB a.FM x.1=none:=by
   cases hf:findB a.FM x.1 with
   |none=>rfl
   |some y=>exact(h2 (x.1,y) (hV.symm.subset (findB_some hf)) rfl).elim
  rw[h3.2,←hC.rest x.1 h3.1 hf];exact(hnow _ h3.1).symm
 have h1:=hR.ok.none hs;have h2:a.FM=[]:=by
  by_cases e:a.FM=[]
  ·exact e
  exact absurd h1 (hne e)
 have h3:V=[]:=by rw[h2]at hV;exact List.Perm.eq_nil hV
 show putsB b.SM V=[]
 rw[h1,h3];rfl
structure Set2 (f q p:Nat) (S:VS) (a b:VA) (D:DK) (r:Nat) (w0 wr:World) (R:List Asn) (Ms V:BM):Prop where
 perm:(V++Ms).Perm a.FM
 sep:Sep w0 wr (rngA a.fb r a.FM Ms::seenG b.sb (putsB b.SM V):: .starL (blkP b.SM):: .starL (blkP a.FM)::fsB f q S b.sb (.map (some a.fb)) false::ledgerR q p false::diskR p D::R)
end
end Go.Proofs.YteihmbaimbogaaaGreat
