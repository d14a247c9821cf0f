/- FuD, FuF, laid together. -/
import Derived.Test.YteihmbaimbogaaaGreatJ18
namespace Go.Proofs.YteihmbaimbogaaaGreat
open Go.RowKit
set_option linter.unusedVariables false
set_option linter.unusedSimpArgs false
def gT (S:VS):List (Nat×List UInt8):=((List.range (S.nb-96)).filter fun k=>bk S.cur k !=bk S.D.now (96+k)).map fun k=>(k,bk S.cur k)
def VS.aV (S:VS):DK×Bool:=if gT S=[]then(S.D,true)else iY (bD (gT S)) S.D
def rU :List oJ→dW→dW
 |[],c=>c
 |some x::l,c=>rU l (c.set x.1 x.2)
 |none::l,c=>rU l c
theorem GR :∀ {l:List oJ} {D D':DK},iY l D=(D',true)→D'.now=rU l D.now
 |[],D,D',h=>by cases h;rfl
 |none::l,D,D',h=>by
  rw[iY]at h;split at h
  ·cases h
  rw[GR h];(show rU l (D.fl).now=rU l D.now);unfold DK.fl;rw[DK.zR]
 |some x::l,D,D',h=>by
  rw[iY]at h;split at h
  ·cases h
  rw[GR h];(show rU l (D.wr x.1 x.2).now=rU l (D.now.set x.1 x.2));unfold DK.wr;rw[DK.zR]
theorem DL (xs ys:List oJ) (c:dW):rU (xs++ys) c=rU ys (rU xs c):=by
 induction xs generalizing c with
 |nil=>rfl
 |cons x xs ih=>
  cases x with
  |none=>exact ih c
  |some y=>exact ih _
theorem aeG {l:List oJ} {c:dW} {j:Nat} (h:∀x∈l,∀i b,x=some (i,b)→i≠j):bk (rU l c) j=bk c j:=by
 induction l generalizing c with
 |nil=>rfl
 |cons x l ih=>
  cases x with
  |none=>exact ih fun y hy=>h y (List.mem_cons_of_mem _ hy)
  |some y=>(show bk (rU l (c.set y.1 y.2)) j=_);rw[ih fun z hz=>h z (List.mem_cons_of_mem _ hz),bR _ _ (fun e=>h (some y) (List.mem_cons_self ..) y.1 y.2 rfl e.symm)]
theorem L6 :∀(ps:List (Nat×List UInt8)) (c:dW) (k:Nat),(ps.map (·.1)).Nodup→96+k<c.length→bk (rU (eT ps) c) (96+k)=match ps.find? fun x=>x.1==k with
  |some x=>x.2
  |none=>bk c (96+k)
 |[],c,k,_,_=>rfl
 |x::ps,c,k,hn,hk=>by
  rw[List.map_cons,List.nodup_cons]at hn;(show bk (rU (eT ps) (c.set (96+x.1) x.2)) (96+k)=_);rw[L6 ps _ k hn.2 (by rw[List.length_set];exact hk),List.find?_cons];by_cases e:x.1=k
  ·(have hno:ps.find? (fun y=>y.1==k)=none:=by rw[List.find?_eq_none];intro y hy hyk;(have:y.1=k:=by simpa using hyk);exact hn.1 (List.mem_map.2 ⟨y,hy,by rw[this,e]⟩));rw[hno];simp only[e,beq_self_eq_true];rw[vC _ _ _ _ (by omega),if_pos rfl]
  (have e2:(x.1==k)=false:=by simpa using e);rw[e2];simp only;cases hf:ps.find? (fun y=>y.1==k)with
  |some y=>rfl
  |none=>(show bk (c.set (96+x.1) x.2) (96+k)=_);rw[bR _ _ (by omega)]
theorem QX (l:List oJ) (c:dW):(rU l c).length=c.length:=by
 induction l generalizing c with
 |nil=>rfl
 |cons x l ih=>
  cases x with
  |none=>exact ih c
  |some y=>exact(ih _).trans (List.length_set ..)
theorem QY {ps:List (Nat×List UInt8)} {c:dW} {k:Nat} (hn:(ps.map (·.1)).Nodup) (hlen:ps.length≤40) (hk:96+k<c.length):bk (rU (bD ps) c) (96+k)=match ps.find? fun x=>x.1==k with
  |some x=>x.2
  |none=>bk c (96+k):=by
 unfold bD;rw[DL];have e1:∀c':dW,rU (none::some (0,dM (ps.map (·.1)))::none::(eT ps++[none,some (0,dM []),none])) c'=(rU (eT ps) (c'.set 0 (dM (ps.map (·.1))))).set 0 (dM []):=fun c'=>by(show rU (eT ps++[none,some (0,dM []),none]) _=_);rw[DL];rfl
 rw[e1,bR _ _ (by omega),L6 ps _ k hn (by rw[List.length_set,QX];exact hk)];have e2:bk ((rU (iT ps) c).set 0 (dM (ps.map (·.1)))) (96+k)=bk c (96+k):=by rw[bR _ _ (by omega)];(refine aeG fun x hx i b e=>?_);unfold iT at hx;obtain⟨y,hy,e3⟩:=List.mem_map.1 hx;rw[e]at e3;injection e3 with e4;injection e4 with e5 _;have:=List.snd_lt_of_mem_zipIdx hy;omega
 cases hf:ps.find? (fun y=>y.1==k)with
 |some y=>rfl
 |none=>exact e2
theorem pJ (S:VS):(gT S).map (·.1)=(List.range (S.nb-96)).filter fun k=>bk S.cur k !=bk S.D.now (96+k):=by unfold gT;rw[List.map_map];exact List.map_id _
theorem qO (S:VS):((gT S).map (·.1)).Nodup:=by rw[pJ];exact List.nodup_range.filter _
theorem CB {S:VS} {x:Nat×List UInt8} (h:x∈gT S):x.1<S.nb-96∧x.2=bk S.cur x.1∧bk S.cur x.1≠bk S.D.now (96+x.1):=by unfold gT at h;obtain⟨k,hk,rfl⟩:=List.mem_map.1 h;obtain⟨h1,h2⟩:=List.mem_filter.1 hk;exact⟨List.mem_range.1 h1,rfl,by simpa using h2⟩
theorem GU (S:VS) {k:Nat} (hk:k<S.nb-96):(match (gT S).find? fun x=>x.1==k with
  |some x=>x.2
  |none=>bk S.D.now (96+k))=bk S.cur k:=by
 cases hf:(gT S).find? (fun y=>y.1==k)with
 |some y=>(have h1:y.1=k:=by simpa using List.find?_some hf);have h2:=(CB (List.mem_of_find?_eq_some hf)).2.1;rw[h1]at h2;exact h2
 |none=>
  rw[List.find?_eq_none]at hf;(show bk S.D.now (96+k)=_);by_cases e:bk S.cur k=bk S.D.now (96+k)
  ·exact e.symm
  refine absurd ?_ (hf (k,bk S.cur k) ?_)
  ·simp
  unfold gT;exact List.mem_map.2 ⟨k,List.mem_filter.2 ⟨List.mem_range.2 hk,by simpa using e⟩,rfl⟩
theorem GV {S:VS} (hlen:S.D.now.length=S.nb) (mE:(gT S).length≤40) (h:S.aV.2=true) {k:Nat} (hk:k<S.nb-96):bk S.aV.1.now (96+k)=bk S.cur k:=by
 unfold VS.aV at h ⊢;by_cases e:gT S=[]
 ·rw[if_pos e];have:=GU S hk;rw[e]at this;exact this
 rw[if_neg e]at h ⊢;have h1:iY (bD (gT S)) S.D=((iY (bD (gT S)) S.D).1,true):=by rw[←h]
 rw[GR h1,QY (qO S) mE (by omega),GU S hk]
theorem KQ {nb:Nat} {ps:List (Nat×List UInt8)} (KR:96<nb) (hps:∀x∈ps,96+x.1<nb∧x.2.length=512) (hlen:ps.length≤40):∀x∈bD ps,∀i b,x=some (i,b)→i<nb∧b.length=512:=by
 intro x hx i b e;subst e;unfold bD at hx;rcases List.mem_append.1 hx with hx|hx
 ·unfold iT at hx;obtain⟨y,hy,e⟩:=List.mem_map.1 hx;injection e with e1;injection e1 with e2 e3;subst e2 e3;have h1:=List.snd_lt_of_mem_zipIdx hy;have h2:=List.fst_mem_of_mem_zipIdx hy;exact⟨by omega,(hps _ h2).2⟩
 simp only[List.mem_cons,List.mem_append,reduceCtorEq,Option.some.injEq,Prod.mk.injEq,false_or,List.not_mem_nil,or_false]at hx;rcases hx with⟨rfl,rfl⟩|hx|⟨rfl,rfl⟩
 ·exact⟨by omega,lM (by rw[List.length_map];omega)⟩
 ·unfold eT at hx;obtain⟨y,hy,e⟩:=List.mem_map.1 hx;injection e with e1;injection e1 with e2 e3;subst e2 e3;exact hps _ hy
 exact⟨by omega,lM (by simp)⟩
theorem L8 {S:VS} (hD:S.D.ok S.nb) (KR:96<S.nb) (aeH:iX (S.nb-96) S.cur) (mE:(gT S).length≤40):S.aV.1.ok S.nb:=by
 unfold VS.aV;split
 ·exact hD
 refine YF hD (KQ KR (fun x hx=>?_) mE);obtain⟨h1,h2,_⟩:=CB hx;exact⟨by omega,by rw[h2];exact iL aeH h1⟩
def iE (M V:BM):BM:=V.foldl (fun M x=>eY M x.1++[x]) M
theorem VO (M V:BM) (x:Nat×Value×List UInt8):iE M (V++[x])=eY (iE M V) x.1++[x]:=by unfold iE;rw[List.foldl_append];rfl
theorem MB {M V:BM} {x:Nat×Value×List UInt8} (h:x∈iE M V):x∈V∨(x∈M∧∀y∈V,y.1≠x.1):=by
 induction V generalizing M with
 |nil=>exact .inr ⟨h,fun y hy=>by cases hy⟩
 |cons y V ih=>
  have h2:x∈iE (eY M y.1++[y]) V:=h;rcases ih h2 with h3|⟨h3,h4⟩
  ·exact .inl (List.mem_cons_of_mem _ h3)
  rcases List.mem_append.1 h3 with h3|h3
  ·unfold eY at h3;obtain⟨h5,h6⟩:=List.mem_filter.1 h3;(have h7:x.1≠y.1:=by simpa using h6);refine .inr ⟨h5,fun z hz=>?_⟩;rcases List.mem_cons.1 hz with rfl|hz
   ·exact fun e=>h7 e.symm
   exact h4 z hz
  rw[List.mem_singleton]at h3;exact .inl (by rw[h3];exact List.mem_cons_self ..)
theorem VP (M V:BM):∃rest:BM,(iE M V++rest).Perm (M++V):=by
 induction V generalizing M with
 |nil=>exact⟨[],by simp[iE]⟩
 |cons y V ih=>obtain⟨r,hr⟩:=ih (eY M y.1++[y]);refine⟨r++M.filter (fun x=>x.1==y.1),?_⟩;(have e1:(iE M (y::V)++(r++M.filter fun x=>x.1==y.1)).Perm ((eY M y.1++[y])++V++M.filter fun x=>x.1==y.1):=by rw[←List.append_assoc];exact hr.append_right _);refine e1.trans ?_;have e2:(M.filter (fun x=>x.1==y.1)++eY M y.1).Perm M:=List.filter_append_perm (fun x=>x.1==y.1) M;(have e3:((eY M y.1++[y])++V++M.filter fun x=>x.1==y.1).Perm ((M.filter fun x=>x.1==y.1)++(eY M y.1++(y::V))):=by refine List.perm_append_comm.trans ?_;simp only[List.append_assoc,List.singleton_append];exact .refl _);refine e3.trans ?_;rw[←List.append_assoc];exact e2.append_right _
def VCw (S:VS) (a:VA):Prop:=VC {S with D:= {S.D with off:=false}} a
theorem VCw.on {S:VS} {a:VA} (h:VCw S a) (ho:S.D.off=false):VC S a:=
 ⟨⟨h.l8.now,h.l8.fast,h.l8.few,h.l8.some,h.l8.back,h.l8.left⟩,h.big,ho,h.cur,h.seen,h.fresh,h.rest,h.few,h.none⟩
def VS.settled (S:VS):VS:= {S with D:=S.aV.1,m:=0}
section
variable {w0 w:World} {R:List aU} {f q p:Nat} {S:VS} {a:VA}
theorem GX {l1 l2:List Nat} (h:l1.Perm l2) (h1:l1.Pairwise (· ≤ ·)) (h2:l2.Pairwise (· ≤ ·)):l1=l2:=
 h.eq_of_pairwise (fun a b _ _ h3 h4=>Nat.le_antisymm h3 h4) h1 h2
theorem QZ {V:BM} {P P':List rT} (hC:VC S a) (hnd:(a.FM.map (·.1)).Nodup) (hV:V.Perm a.FM) (hP:P.map (·.1)=(V.filter (qN S)).map fun x=>(x.1,x.2.1)) (hp:P.Perm P') (hs:P'.Pairwise fun x y=>x.1.1≤y.1.1):
  P'.map (fun x=>(x.1.1,bk S.cur x.1.1))=gT S:=by
 have hk:P.map (·.1.1)=(V.filter (qN S)).map (·.1):=by have:=congrArg (List.map Prod.fst) hP;rw[List.map_map,List.map_map]at this;exact this
 have avW:(V.map (·.1)).Nodup:=(hV.map (·.1)).nodup_iff.2 hnd;have e:P'.map (·.1.1)=(gT S).map (·.1):=by
  refine GX ?_ ?_ ?_
  ·(have h1:(P'.map (·.1.1)).Perm ((V.filter (qN S)).map (·.1)):=by rw[←hk];exact(hp.map _).symm);refine h1.trans ?_;rw[List.perm_ext_iff_of_nodup (avW.sublist (List.filter_sublist.map _)) (qO S)];intro k;rw[pJ];constructor
   ·intro hm;obtain⟨x,hx,rfl⟩:=List.mem_map.1 hm;obtain⟨h2,h3⟩:=List.mem_filter.1 hx;have h4:=hC.fresh x (hV.subset h2);refine List.mem_filter.2 ⟨List.mem_range.2 h4.1,?_⟩;unfold qN at h3;rw[h4.2]at h3;exact h3
   intro hm;obtain⟨h2,h3⟩:=List.mem_filter.1 hm;cases hf:bV a.FM k with
   |none=>have:=hC.rest k (List.mem_range.1 h2) hf;rw[this]at h3;simp at h3
   |some y=>have h5:=jL hf;refine List.mem_map.2 ⟨(k,y),List.mem_filter.2 ⟨hV.symm.subset h5,?_⟩,rfl⟩;unfold qN;rw[(hC.fresh _ h5).2];exact h3
  ·rw[List.pairwise_map];exact hs
  rw[pJ];exact(List.pairwise_lt_range.imp Nat.le_of_lt).filter _
 have h2:P'.map (fun x=>(x.1.1,bk S.cur x.1.1))=(P'.map (·.1.1)).map fun k=>(k,bk S.cur k):=by rw[List.map_map];rfl
 rw[h2,e,pJ];rfl
theorem Sep.FJ {As:List aU} {M:BM} {x:Nat×Value×List UInt8} (i:Nat) (h:Sep w0 w As) (hi:As[i]? =some (.bX (dC M))) (hx:x∈M):BytesAt w x.2.1 x.2.2:=by have e:=(nM hi).1;rw[e]at h;exact(h.perm List.perm_middle).YE hx
theorem ai8 {V:BM} {P P':List rT} {g n c:Nat} {R':List aU} (hC:VC S a) (hV:V.Perm a.FM) (hP:P.map (·.1)=(V.filter (qN S)).map fun x=>(x.1,x.2.1)) (hp:P.Perm P') (hn:P'.length=n)
  (hS0:Sep w0 w R') (i j:Nat) (hi:R'[i]? =some (.sl 190 2 (.slice (some ⟨g,0,none⟩) n c) n (P'.flatMap oI))) (hj:R'[j]? =some (.bX (dC a.FM))):
  aeI w0 R' g n (P'.map fun x=>(x.1.1,bk S.cur x.1.1)) (P'.map (·.1.2)):=by
 have hmem:∀x∈P',∃y∈a.FM,y.1=x.1.1∧y.2.1=x.1.2∧y.2.2=bk S.cur x.1.1∧y.1<S.nb-96:=fun x hx=>by have h1:x.1∈P.map (·.1):=List.mem_map.2 ⟨x,hp.symm.subset hx,rfl⟩;rw[hP]at h1;obtain⟨y,hy,e⟩:=List.mem_map.1 h1;have h2:=hV.subset (List.mem_filter.1 hy).1;have h3:=hC.fresh y h2;(have e1:y.1=x.1.1:=by rw[←e]);exact⟨y,h2,e1,by rw[←e],by rw[←e1];exact h3.2,h3.1⟩
 have hat:∀(w':World) (X:List aU) (k:Nat),(X++R')[X.length+k]? =R'[k]? :=fun w' X k=>by rw[List.getElem?_append_right (by omega),Nat.add_sub_cancel_left]
 have hk2:∀x,(oI x).length=2:=fun _=>rfl
 refine⟨by rw[List.length_map];exact hn,by rw[List.length_map];exact hn,fun w' X hS k hk=>?_,fun k hk=>?_,fun u hu=>?_⟩
 ·(have h1:=fun j hj=>hS.cellAt (X.length+i) ((hat w' X i).trans hi) j hj);have h2:P'[k]? =some P'[k]:=gE (by omega);refine⟨?_,?_⟩
  ·have h3:=h1 (k*2) (by omega);have h4:=flat_get hk2 P' k 0 (by decide);rw[Nat.add_zero]at h4;rw[h3,h4,h2];simp[oI]
  have h3:=h1 (k*2+1) (by omega);rw[h3,flat_get hk2 P' k 1 (by decide),h2];simp[oI]
 ·intro w' X hS;obtain⟨y,hy,_,e2,e3,_⟩:=hmem (P'[k]'(by omega)) (List.getElem_mem _);have h5:=hS.FJ (X.length+j) ((hat w' X j).trans hj) hy;rw[e2,e3]at h5;simpa using h5
 obtain⟨x,hx,rfl⟩:=List.mem_map.1 hu;obtain⟨y,hy,e1,e2,e3,e4⟩:=hmem x hx;have h5:=hS0.FJ j hj hy;obtain⟨_,A,c',e,_⟩:=h5;rw[e3,iL hC.cur (by rw[←e1];exact e4),e2]at e;exact⟨A,c',e⟩
theorem ai9 {V:BM} {P P':List rT} (hC:VC S a) (hps:P'.map (fun x=>(x.1.1,bk S.cur x.1.1))=gT S) (h1:1≤P'.length) (h40:P'.length≤40):aeJ S.nb (P'.map fun x=>(x.1.1,bk S.cur x.1.1)):=by
 refine⟨by rw[List.length_map];exact h1,by rw[List.length_map];exact h40,fun x hx=>?_,?_⟩
 ·rw[hps]at hx;obtain⟨h2,h3,_⟩:=CB hx;have:=hC.big;exact⟨by omega,by rw[h3];exact iL hC.cur h2⟩
 rw[hps];exact qO S
def MC :Option Nat→BM→aU
 |none,_=>.emp
 |some b,M=>l7 3 b (fC M)
theorem Sep.VQ {sb:Option Nat} {M:BM} (hn:sb=none→M=[]) (h:Sep w0 w (dH sb M::R)):Sep w0 w (MC sb M:: .bX (dC M)::R):=by
 cases sb with
 |none=>rw[hn rfl];exact(h.QE).rH.rH
 |some b=>exact h.gX
theorem Sep.aaB {sb:Option Nat} {M V FM:BM} (hV:V.Perm FM) (hn:sb=none→M=[]∧V=[]) (h:Sep w0 w (MC sb (iE M V):: .bX (dC M):: .bX (dC FM)::R)):Sep w0 w (dH sb (iE M V)::R):=by
 cases sb with
 |none=>exact((h.drop 3).rH)
 |some b=>obtain⟨rest,hr⟩:=VP M V;have h1:Sep w0 w (.bX (dC M):: .bX (dC FM)::l7 3 b (fC (iE M V))::R):=Sep.bZ [1,2,0] h (by decide) (by simp);have h2:Sep w0 w (dC M++(.bX (dC FM)::l7 3 b (fC (iE M V))::R)):=h1.aS;have h3:Sep w0 w (.bX (dC FM)::(dC M++(l7 3 b (fC (iE M V))::R))):=h2.perm List.perm_middle;have h4:Sep w0 w (dC FM++(dC M++(l7 3 b (fC (iE M V))::R))):=h3.aS;(have e:(dC FM++(dC M++(l7 3 b (fC (iE M V))::R))).Perm (dC (iE M V)++(dC rest++(l7 3 b (fC (iE M V))::R))):=by rw[←List.append_assoc,←List.append_assoc];refine List.Perm.append_right _ ?_;(have h5:(dC (iE M V)++dC rest).Perm (dC M++dC V):=by have:=hr.map (fun x:Nat×Value×List UInt8=>aH x.2.1 x.2.2);rw[List.map_append,List.map_append]at this;exact this);exact(List.perm_append_comm.trans (List.Perm.append_left _ (hV.symm.map _))).trans h5.symm);have h5:=h4.perm e;have h6:Sep w0 w (dC rest++(.bX (dC (iE M V))::l7 3 b (fC (iE M V))::R)):=(h5.bM).perm List.perm_middle.symm;have h7:=h6.drop (dC rest).length;rw[List.drop_left]at h7;exact(h7.perm (List.Perm.swap _ _ _)).jU
theorem VT {b:VA} {V:BM} (hC:VC S a) (hR:Reads S a b) (hV:V.Perm a.FM) (hm:S.m≤40) (hc:S.aV.2=true) (hne:a.FM≠[]→b.SM≠[]) (nb:Nat):VCw S.settled ⟨b.sb,iE b.SM V,nb,[]⟩:=by
 have mE:(gT S).length≤40:=by
  have h1:((gT S).map (·.1)).length≤(a.FM.map (·.1)).length:=List.Nodup.length_le_of_subset (qO S) fun k hk=>by
   rw[pJ]at hk;obtain⟨h2,h3⟩:=List.mem_filter.1 hk;cases hf:bV a.FM k with
   |none=>rw[hC.rest k (List.mem_range.1 h2) hf]at h3;simp at h3
   |some y=>exact List.mem_map.2 ⟨(k,y),jL hf,rfl⟩
  rw[List.length_map,List.length_map]at h1;have:=hC.few;omega
 have aaC:=fun k hk=>GV (S:=S) hC.l8.now.len mE hc (k:=k) hk
 have hok:=L8 hC.l8 hC.big hC.cur mE;refine⟨⟨hok.now,hok.fast,hok.few,hok.some,hok.back,hok.left⟩,hC.big,rfl,hC.cur,fun x hx=>?_,(fun x hx=>absurd hx List.not_mem_nil),fun k hk _=>(aaC k hk).symm,Nat.zero_le _,fun hs=>?_⟩
 ·rcases MB hx with h1|⟨h1,h2⟩
  ·have h3:=hC.fresh x (hV.subset h1);exact⟨h3.1,by rw[h3.2];exact(aaC _ h3.1).symm⟩
  have h3:=hR.ok.seen x h1;refine⟨h3.1,?_⟩;have hf:bV a.FM x.1=none:=by
   cases hf:bV a.FM x.1 with
   |none=>rfl
   |some y=>exact(h2 (x.1,y) (hV.symm.subset (jL hf)) rfl).elim
  rw[h3.2,←hC.rest x.1 h3.1 hf];exact(aaC _ h3.1).symm
 have h1:=hR.ok.none hs;have h2:a.FM=[]:=by
  by_cases e:a.FM=[]
  ·exact e
  exact absurd h1 (hne e)
 have h3:V=[]:=by rw[h2]at hV;exact List.Perm.eq_nil hV
 show iE b.SM V=[]
 rw[h1,h3];rfl
structure Q0 (f q p:Nat) (S:VS) (a b:VA) (D:DK) (r:Nat) (w0 wr:World) (R:List aU) (Ms V:BM):Prop where
 perm:(V++Ms).Perm a.FM
 sep:Sep w0 wr (KP a.fb r a.FM Ms::MC b.sb (iE b.SM V):: .bX (dC b.SM):: .bX (dC a.FM)::jG f q S b.sb (.map (some a.fb)) false::aD q p false::aJ p D::R)
end
end Go.Proofs.YteihmbaimbogaaaGreat
