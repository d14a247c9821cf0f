/- FvD, FvE, FvF, FvG, FvH, TNode, laid together. -/
import Derived.Test.YteihmbaimbogaaaGreatJ40
namespace Go.Proofs.YteihmbaimbogaaaGreat
set_option linter.unusedVariables false
set_option linter.unusedSimpArgs false
def needN (g:LT) (n:Nat):Nat:=((List.range n).map fun i=>(g i).need).sum
theorem needN_succ (g:LT) (n:Nat):needN g (n+1)=needN g n+(g n).need:=by unfold needN;rw[List.range_succ,List.map_append,List.sum_append];simp
theorem needN_congr {g k:LT} {n:Nat} (h:∀i<n,(g i).need=(k i).need):needN g n=needN k n:=by
 induction n with
 |zero=>rfl
 |succ n ih=>rw[needN_succ,needN_succ,ih fun i hi=>h i (by omega),h n (by omega)]
theorem needN_upd {g:LT} {n k:Nat} (hk:k<n) (x:LI):needN (updT g k x) n+(g k).need=needN g n+x.need:=by
 induction n with
 |zero=>omega
 |succ n ih=>
  rw[needN_succ,needN_succ];by_cases e:k=n
  ·subst e;rw[updT_same,needN_congr (g:=updT g k x) (k:=g) fun i hi=>by rw[updT_ne _ _ (by omega)]];omega
  rw[updT_ne _ _ (fun h=>e h.symm)];have:=ih (by omega);omega
theorem Phys.used {S:VS} {g:LT} (h:Phys S g) (t:List Nat) (ht:∀j<S.count,S.bit j=true∨j∈t):S.count≤needN g S.names+t.length:=by
 have h1:∀n≤S.names,((List.range n).flatMap fun i=>(inoP S.cur i).spots).length=needN g n:=by
  intro n
  induction n with
  |zero=>intro _;rfl
  |succ n ih=>intro hn;rw[List.range_succ,List.flatMap_append,List.length_append,ih (by omega),needN_succ];simp only[List.flatMap_cons,List.flatMap_nil,List.append_nil];rw[h.len n (by omega)]
 have h2:(List.range S.count).length≤(((List.range S.names).flatMap fun i=>(inoP S.cur i).spots)++t).length:=List.Nodup.length_le_of_subset List.nodup_range fun j hj=>by
  have hj2:=List.mem_range.1 hj;rw[List.mem_append];rcases ht j hj2 with h3|h3
  ·obtain⟨n,hn,h4⟩:=(h.bits j hj2).1 h3;exact .inl (List.mem_flatMap.2 ⟨n,List.mem_range.2 hn,h4⟩)
  exact .inr h3
 rw[List.length_range,List.length_append,h1 _ (Nat.le_refl _)]at h2;exact h2
def LI.more (x:LI) (name:List UInt8) (n:Nat):LI:= {x with ents:=x.ents++[(name,n)]}
theorem LI.more_fair {x:LI} (h:x.fair) (hk:x.kind=1) {name:List UInt8} {n:Nat} (hl:x.ents.length<448) (hn:name.length≤15) (hm:n≤65535):(x.more name n).fair:=
 ⟨h.kind,fun e=>absurd hk e,h.data,by show(x.ents++[(name,n)]).length≤448;rw[List.length_append];simp;omega,h.short,h.mode,h.links,fun e he=>by
  rcases List.mem_append.1 he with he|he
  ·exact h.names e he
  rw[List.mem_singleton]at he;subst he;exact⟨hn,hm⟩⟩
theorem dir_need {x:LI} (hk:x.kind=1):x.need=max 1 ((x.ents.length+15)/16):=by unfold LI.need;rw[if_pos hk]
theorem dir_size {x:LI} (hk:x.kind=1):x.size=x.ents.length:=by unfold LI.size;rw[if_pos hk]
theorem Phys.spots_bit {S:VS} {g:LT} (h:Phys S g) {n:Nat} (hn:n<S.names) {s:Nat} (hs:s∈(inoP S.cur n).spots):S.bit s=true:=(h.bits s (h.lt n hn s hs)).2 ⟨n,hn,hs⟩
theorem used_bits {S S1:VS} {k:Nat} (h:Used S S1 k) (s:Nat):bk S1.cur (S.data+s)=bk S.cur (S.data+s):=h.blk _ (by unfold VS.data;omega)
theorem dirL_split {c:Blks} {d:Nat} {x:VI} {n:Nat} (h:x.size=n+1):dirL c d x=(List.range n).map (fun i=>(enN (entAt c d x i),enI (entAt c d x i)))++[(enN (entAt c d x n),enI (entAt c d x n))]:=by unfold dirL;rw[h,List.range_succ,List.map_append];rfl
theorem dirL_map {c:Blks} {d:Nat} {x:VI} {L:Ents} (h:dirL c d x=L):L=(List.range x.size).map fun i=>(enN (entAt c d x i),enI (entAt c d x i)):=h.symm
theorem getD_append {l t:List Nat} {a:Nat} (h:a<l.length):(l++t).getD a 0=l.getD a 0:=by rw[gH,gH,List.getElem?_append_left h]
theorem Phys.enter {S:VS} {g:LT} (h:Phys S g) {dir n:Nat} {name:List UInt8} (hd:dir<S.names) (hk:(g dir).kind=1) (hsz:(g dir).ents.length<448) (hname:name.length≤15) (hn:n≤65535):
  (∀S1,enterP S dir name n=some S1→Phys S1 (updT g dir ((g dir).more name n)))∧
  (enterP S dir name n=none→S.count<needN (updT g dir ((g dir).more name n)) S.names):=by
 have hx:=h.head dir hd;have hsize:(inoP S.cur dir).size=(g dir).ents.length:=by rw[h.size hd,dir_size hk]
 have hlen:(inoP S.cur dir).spots.length=max 1 (((g dir).ents.length+15)/16):=by rw[h.len dir hd,dir_need hk]
 obtain⟨L,hL⟩:∃L,L=(g dir).ents.length:=⟨_,rfl⟩;rw[←hL]at hsize hlen hsz;obtain⟨sp,hsp⟩:∃sp,sp=(inoP S.cur dir).spots:=⟨_,rfl⟩;rw[←hsp]at hlen;have hfair:=LI.more_fair (h.fair dir hd) hk (by omega) hname hn;have hneed:((g dir).more name n).need=(L+16)/16:=by rw[dir_need (show((g dir).more name n).kind=1 from hk)];(show max 1 ((((g dir).ents++[(name,n)]).length+15)/16)=_);rw[List.length_append,←hL];simp only[List.length_singleton];omega
 have hu0:UseOk (S.node (S.nodes+1)):=(Mid.node h.use _).use;obtain⟨f1,f2⟩:=fit_more (S:=S.node (S.nodes+1)) (l:=sp) (n:=(L+16)/16) hu0 (by omega);have he:enterP S dir name n=(match fitP (S.node (S.nodes+1)) sp ((L+16)/16)with
  |none=>none
  |some (S1,l)=>some ((S1.keep dir {inoP S.cur dir with size:=L+1,spots:=l}).setE (l.getD (L/16) 0) L name n)):=by
  unfold enterP
  rw[hsize,←hsp]
  rfl
 rw[he];cases hf:fitP (S.node (S.nodes+1)) sp ((L+16)/16)with
 |none=>refine⟨fun S1 e=>(by cases e),fun _=>?_⟩;obtain⟨t,ht1,ht2⟩:=f2 hf;have h1:=h.used t ht2;have h2:=needN_upd hd ((g dir).more name n) (g:=g);rw[hneed,dir_need hk,←hL]at h2;omega
 |some r=>
  obtain⟨S1,l⟩:=r;obtain⟨hu1,t,hl,htl,htn,htb,hbit⟩:=f1 S1 l hf;have hus:=(fitP_used hf).1;refine⟨fun S2 e=>?_,fun e=>(by cases e)⟩;cases e;have hm1:Mid S S1:=(Mid.node h.use _).trans (Mid.used hus hu1);(have hd1:dir<S1.names:=by rw[hm1.names];exact hd);rw[keep_setE S1 hd1];(have hll:l.length=(L+16)/16:=by rw[hl,List.length_append,htl];omega);have hlt:∀s∈l,s<S.count:=fun s hs=>by
   rw[hl]at hs;rcases List.mem_append.1 hs with hs|hs
   ·exact h.lt dir hd s (by rw[←hsp];exact hs)
   exact(htb s hs).1
  (have htS:∀s∈t,S.bit s=false:=fun s hs=>(htb s hs).2);(have hnd:l.Nodup:=by rw[hl,List.nodup_append];refine⟨by rw[hsp];exact h.nodup dir hd,htn,fun a ha b hb e=>?_⟩;subst e;have h1:=h.spots_bit hd (by rw[←hsp];exact ha);rw[htS a hb]at h1;cases h1);have hdis:∀m<S.names,m≠dir→∀s∈(inoP S.cur m).spots,s∉l:=fun m hmm e s hs hs2=>by
   rw[hl]at hs2;rcases List.mem_append.1 hs2 with hs2|hs2
   ·exact h.others hd m hmm e s hs (by rw[←hsp];exact hs2)
   have h1:=h.spots_bit hmm hs;rw[htS s hs2]at h1;cases h1
  have hsl:l.getD (L/16) 0∈l:=getD_mem (by omega);(have hs1:l.getD (L/16) 0<S1.count:=by rw[hm1.count];exact hlt _ hsl);have hm2:Mid S (S1.setE (l.getD (L/16) 0) L name n):=hm1.trans (Mid.laid (Laid.setE S1 _ _ _ _) (hu1.setE hs1 _ _ hname));(have hy:({inoP S.cur dir with size:=L+1,spots:=l}:VI)=((g dir).more name n).vi l:=by rw[hx];unfold LI.vi LI.more;simp only[VI.mk.injEq,true_and,and_true];unfold LI.size;rw[if_pos hk];simp only[List.length_append,List.length_singleton];omega);rw[hy];(have hd16:∀k,k<16*l.length→∀x:VI,x.spots=l→entAt (S1.setE (l.getD (L/16) 0) L name n).cur S.data x k=if k=L then entE name n else entAt S1.cur S.data x k:=fun k hk2 x hxl=>by have:=setE_ent (S:=S1) hu1 (x:=x) (by rw[hxl];exact hnd) (i:=L) (k:=k) (n:=n) (name:=name) (by rw[hxl];omega) (by rw[hxl];exact hk2) (by rw[hxl,hm1.count];exact hlt) hname;rw[hxl,hm1.data]at this;exact this);refine h.step hd (Step.keep h hd hm2 hfair (by rw[hneed];exact hll) hlt hnd hdis (fun j hj=>?_) (fun m hmm e s hs=>?_) (fun _=>?_) (fun k2=>?_) ?_)
  ·rw[setE_bit hu1,hbit];have hb2:=h.bits2 hd hj;rw[←hsp]at hb2;(show((S.bit j||decide (j∈t))=true)↔_);rw[Bool.or_eq_true,hb2,hl,List.mem_append,decide_eq_true_eq];constructor
   ·rintro((h1|h1)|h1)
    ·exact .inl (.inl h1)
    ·exact .inr h1
    exact .inl (.inr h1)
   rintro((h1|h1)|h1)
   ·exact .inl (.inl h1)
   ·exact .inr h1
   exact .inl (.inr h1)
  ·(have hne:s≠l.getD (L/16) 0:=fun e2=>hdis m hmm e s hs (by rw[e2];exact hsl));have:=setE_blk S1 (s:=l.getD (L/16) 0) (t:=s) L name n hne;rw[hm1.data]at this;rw[this];exact used_bits hus s
  ·rw[dirL_split (n:=L) (by show((g dir).more name n).size=_;unfold LI.size;rw[if_pos (by exact hk)];show((g dir).ents++[(name,n)]).length=_;rw[List.length_append,←hL];rfl)];(have e1:(g dir).ents=(List.range L).map fun i=>(enN (entAt S.cur S.data (inoP S.cur dir) i),enI (entAt S.cur S.data (inoP S.cur dir) i)):=by have:=dirL_map (h.ents dir hd hk);rw[hsize]at this;exact this);(show _=(g dir).ents++[(name,n)]);rw[e1];congr 1
   ·(refine List.map_congr_left fun i hi=>?_);have hi2:=List.mem_range.1 hi;(have hi3:i/16<sp.length:=by omega);rw[hd16 i (by omega) _ rfl,if_neg (by omega)];(have e2:entAt S1.cur S.data (((g dir).more name n).vi l) i=entAt S.cur S.data (inoP S.cur dir) i:=by unfold entAt;(show entB (bk S1.cur (S.data+l.getD (i/16) 0)) i=_);have eb:bk S1.cur (S.data+sp.getD (i/16) 0)=bk S.cur (S.data+sp.getD (i/16) 0):=used_bits hus _;rw[hl,getD_append hi3,eb,hsp]);rw[e2]
   rw[hd16 L (by omega) _ rfl,if_pos rfl,enN_entE hname,enI_entE hname hn]
  ·exact absurd (show(g dir).kind=2 from k2) (by omega)
  (show S1.nodes=S.nodes-(g dir).ents.length+(((g dir).ents++[(name,n)]).length:Nat));rw[hus.nodes,List.length_append];(show S.nodes+1=_);simp only[List.length_singleton];omega
theorem fit_gen {S S1:VS} {l l1:List Nat} {n:Nat} (h:UseOk S) (hl:∀s∈l,s<S.count∧S.bit s=true) (hn:l.Nodup) (hf:fitP S l n=some (S1,l1)):
  UseOk S1∧l1.length=n∧(∀s∈l1,s<S.count)∧l1.Nodup∧(∀s∈l1,s∈l∨S.bit s=false)∧∀i,S1.bit i=((S.bit i&& !decide (i∈l))||decide (i∈l1)):=by
 have hlen:=(fitP_used hf).2;by_cases hle:n≤l.length
 ·(obtain⟨S2,h1,h2,h3⟩:=fit_less h hle fun s hs=>(hl s hs).1);rw[h1]at hf;cases hf;refine⟨h2,hlen,fun s hs=>(hl s (List.mem_of_mem_take hs)).1,hn.sublist (List.take_sublist _ _),fun s hs=>.inl (List.mem_of_mem_take hs),fun i=>?_⟩;rw[h3];have hsp:l.take n++l.drop n=l:=List.take_append_drop n l;by_cases h4:i∈l.take n
  ·(have h5:i∉l.drop n:=fun h6=>by have:=hn;rw[←hsp,List.nodup_append]at this;exact this.2.2 i h4 i h6 rfl);have h7:S.bit i=true:=(hl i (List.mem_of_mem_take h4)).2;simp[h4,h5,h7]
  by_cases h5:i∈l.drop n
  ·have h6:i∈l:=List.mem_of_mem_drop h5;simp[h4,h5,h6]
  have h6:i∉l:=fun h7=>by
   rw[←hsp,List.mem_append]at h7;rcases h7 with h7|h7
   ·exact h4 h7
   exact h5 h7
  simp[h4,h5,h6]
 obtain⟨h1,t,h2,h3,h4,h5,h6⟩:=(fit_more h (by omega)).1 S1 l1 hf;have hdj:∀s∈l,s∉t:=fun s hs hs2=>by have:=(hl s hs).2;rw[(h5 s hs2).2]at this;cases this
 refine⟨h1,hlen,fun s hs=>?_,?_,fun s hs=>?_,fun i=>?_⟩
 ·rw[h2]at hs;rcases List.mem_append.1 hs with hs|hs
  ·exact(hl s hs).1
  exact(h5 s hs).1
 ·rw[h2,List.nodup_append];exact⟨hn,h4,fun a ha b hb e=>hdj a ha (by rw[e];exact hb)⟩
 ·rw[h2]at hs;rcases List.mem_append.1 hs with hs|hs
  ·exact .inl hs
  exact .inr (h5 s hs).2
 rw[h6,h2];by_cases h7:i∈l
 ·have:=(hl i h7).2;simp[h7,this]
 simp[h7]
theorem Phys.spots_ok {S:VS} {g:LT} (h:Phys S g) {n:Nat} (hn:n<S.names):∀s∈(inoP S.cur n).spots,s<S.count∧S.bit s=true:=fun s hs=>⟨h.lt n hn s hs,h.spots_bit hn hs⟩
theorem Phys.fit_bits {S T:VS} {g:LT} (h:Phys S g) {n:Nat} (hn:n<S.names) {l1:List Nat} (hb:∀i,T.bit i=((S.bit i&& !decide (i∈(inoP S.cur n).spots))||decide (i∈l1))) {j:Nat} (hj:j<S.count):
  T.bit j=true↔j∈l1∨∃m<S.names,m≠n∧j∈(inoP S.cur m).spots:=by
 rw[hb,Bool.or_eq_true,Bool.and_eq_true,decide_eq_true_eq,h.bits2 hn hj];constructor
 ·rintro(⟨h1|h1,h2⟩|h1)
  ·simp[h1]at h2
  ·exact .inr h1
  exact .inl h1
 rintro(h1|⟨m,hm,e,h1⟩)
 ·exact .inr h1
 refine .inl ⟨.inr ⟨m,hm,e,h1⟩,?_⟩;have:=h.others hn m hm e j h1;simp[this]
theorem Phys.fit_dis {S:VS} {g:LT} (h:Phys S g) {n:Nat} (hn:n<S.names) {l1:List Nat} (hb:∀s∈l1,s∈(inoP S.cur n).spots∨S.bit s=false):∀m<S.names,m≠n→∀s∈(inoP S.cur m).spots,s∉l1:=fun m hm e s hs hs2=>by
 rcases hb s hs2 with h1|h1
 ·exact h.others hn m hm e s hs h1
 rw[h.spots_bit hm hs]at h1;cases h1
theorem eat_mem {L:Ents} {i:Nat} (h:i<L.length):eat L i∈L:=by rw[←eat_of h];exact List.getElem_mem h
theorem LI0_fair :LI0.fair:=⟨by decide,fun _=>rfl,fun _=>rfl,by decide,by decide,by decide,by decide,fun e he=>by cases he⟩
theorem zero_len :zeroB.length=512:=zeroB_len
theorem Phys.newDir {S:VS} {g:LT} (h:Phys S g) {n mode links:Nat} (hn:n<S.names) (h0:(g n).kind=0) (hm:mode<65536) (hl:links<65536):
  (∀j,freeL (bk S.cur 1) S.count=some j→Phys (madeDirP S n ⟨1,mode,links,0,[]⟩ j) (updT g n ⟨1,mode,links,[],[]⟩))∧
  (freeL (bk S.cur 1) S.count=none→S.count<needN (updT g n ⟨1,mode,links,[],[]⟩) S.names):=by
 have he:(g n).ents=[]:=(h.fair n hn).ents (by omega);have hz:(inoP S.cur n).spots=[]:=List.eq_nil_of_length_eq_zero (by rw[h.len n hn];unfold LI.need;rw[if_neg (by omega),if_neg (by omega)]);have hf:(⟨1,mode,links,[],[]⟩:LI).fair:=⟨Nat.le_succ 1,fun e=>absurd rfl e,fun _=>rfl,Nat.zero_le _,Nat.zero_le _,hm,hl,fun e he=>by cases he⟩;constructor
 ·intro j hj;obtain⟨hj1,hj2,_⟩:=freeL_some hj;have hj2':S.bit j=false:=hj2;have hu1:=h.use.set j;have hm1:Mid S (S.put 1 (setB (bk S.cur 1) j)):=⟨hu1,rfl,rfl,fun m _=>by unfold inoP;(show viD (((bk (S.cur.set 1 _) (2+m/8)).drop (m%8*64)).take 64)=_);rw[bk_set_ne _ _ (by omega)],rfl,rfl⟩;have hu2:UseOk (madeBlkP S j):=hu1.put _ zero_len;have hm2:Mid S (madeBlkP S j):=hm1.trans ⟨hu2,rfl,rfl,fun m hmm=>by unfold inoP madeBlkP;(show viD (((bk ((S.put 1 (setB (bk S.cur 1) j)).cur.set ((S.put 1 (setB (bk S.cur 1) j)).data+j) zeroB) (2+m/8)).drop (m%8*64)).take 64)=_);rw[bk_set_ne _ _ (by have:m<S.names:=hmm;show 2+m/8≠S.data+j;unfold VS.data;omega)],rfl,rfl⟩;(have hbit:∀i,(madeBlkP S j).bit i=(decide (i=j)||S.bit i):=fun i=>by(have e1:(madeBlkP S j).bit i=(S.put 1 (setB (bk S.cur 1) j)).bit i:=by(show bitB (bk ((S.put 1 (setB (bk S.cur 1) j)).cur.set (S.data+j) zeroB) 1) i=_);rw[bk_set_ne _ _ (by unfold VS.data;omega)];rfl);rw[e1,set_bit h.use hj1]);(have hblk:∀s,s≠j→bk (madeBlkP S j).cur (S.data+s)=bk S.cur (S.data+s):=fun s hs=>by(show bk ((S.cur.set 1 _).set (S.data+j) zeroB) (S.data+s)=_);rw[bk_set_ne _ _ (by omega),bk_set_ne _ _ (by unfold VS.data;omega)]);refine h.step (x:=⟨1,mode,links,[],[]⟩) (l:=[j]) hn (Step.keep (x:=⟨1,mode,links,[],[]⟩) (l:=[j]) h hn hm2 hf (by simp[LI.need]) (fun s hs=>by rw[List.mem_singleton]at hs;rw[hs];exact hj1) (by simp) (fun m hmm e s hs hs2=>?_) (fun i hi=>?_) (fun m hmm e s hs=>hblk s fun e2=>?_) (fun _=>rfl) (fun k=>by cases k) ?_)
  ·rw[List.mem_singleton]at hs2;have:=h.spots_bit hmm hs;rw[hs2,hj2']at this;cases this
  ·rw[hbit,Bool.or_eq_true,decide_eq_true_eq,h.bits2 hn hi,hz,List.mem_singleton];simp
  ·have:=h.spots_bit hmm hs;rw[e2,hj2']at this;cases this
  rw[he];(show S.nodes=S.nodes-0+0);omega
 intro hno;have h1:=h.used [] fun j hj=>.inl (freeL_none hno j hj)
 have h2:=needN_upd hn (⟨1,mode,links,[],[]⟩:LI) (g:=g);have h3:(g n).need=0:=by unfold LI.need;rw[if_neg (by omega),if_neg (by omega)]
 have h4:(⟨1,mode,links,[],[]⟩:LI).need=1:=by simp[LI.need]
 rw[h3,h4]at h2;simp at h1;omega
theorem lays_law (bs:List UInt8):∀(l:List Nat) (k:Nat) (S:VS),UseOk S→(∀s∈l,s<S.count)→l.Nodup→
  UseOk (laysP bs l k S)∧(∀j,(laysP bs l k S).bit j=S.bit j)∧(∀s,s∉l→bk (laysP bs l k S).cur (S.data+s)=bk S.cur (S.data+s))∧∀i,i<l.length→bk (laysP bs l k S).cur (S.data+l.getD i 0)=chunkB bs (k+i)
 |[],k,S,h,_,_=>⟨h,fun _=>rfl,fun _ _=>rfl,fun i hi=>absurd hi (Nat.not_lt_zero _)⟩
 |s::l,k,S,h,hl,hn=>by
  rw[List.nodup_cons]at hn;have hs:=hl s (List.mem_cons_self ..);have hu:UseOk (S.put (S.data+s) (chunkB bs k)):=h.put _ (chunkB_len bs k);obtain⟨h1,h2,h3,h4⟩:=lays_law bs l (k+1) (S.put (S.data+s) (chunkB bs k)) hu (fun t ht=>hl t (List.mem_cons_of_mem _ ht)) hn.2;refine⟨h1,fun j=>?_,fun t ht=>?_,fun i hi=>?_⟩
  ·(show(laysP bs l (k+1) (S.put (S.data+s) (chunkB bs k))).bit j=_);rw[h2];(show bitB (bk (S.cur.set (S.data+s) _) 1) j=_);rw[bk_set_ne _ _ (by unfold VS.data;omega)];rfl
  ·rw[List.mem_cons,not_or]at ht;have:=h3 t ht.2;(show bk (laysP bs l (k+1) (S.put (S.data+s) (chunkB bs k))).cur (S.data+t)=_);refine this.trans ?_;exact bk_set_ne _ _ (fun e=>ht.1 (by have:S.data+t=S.data+s:=e;omega))
  cases i with
  |zero=>have:=h3 s hn.1;(show bk (laysP bs l (k+1) (S.put (S.data+s) (chunkB bs k))).cur (S.data+s)=_);refine this.trans ?_;(show bk (S.cur.set (S.data+s) _) (S.data+s)=_);rw[bk_set _ _ _ _ (by rw[h.cur.len];exact h.room hs),if_pos rfl];rfl
  |succ i=>have:=h4 i (by simpa using hi);rw[show k+1+i=k+(i+1)by omega]at this;exact this
def chunksF (bs:List UInt8) (m k:Nat):List UInt8:=(List.range m).flatMap fun i=>chunkB bs (k+i)
theorem chunksF_succ (bs:List UInt8) (m k:Nat):chunksF bs (m+1) k=chunkB bs k++chunksF bs m (k+1):=by
 unfold chunksF;rw[List.range_succ_eq_map,List.flatMap_cons,List.flatMap_map];congr 1;congr 1;funext i;congr 1;show k+(i+1)=k+1+i
 omega
theorem chunkB_eq (bs:List UInt8) (k:Nat):chunkB bs k=(bs.drop (512*k)).take 512++zeroB.drop ((bs.drop (512*k)).take 512).length:=by unfold chunkB layB;rw[List.take_zero,List.nil_append,Nat.zero_add]
theorem chunks_take (bs:List UInt8):∀(m k:Nat),bs.length≤512*(k+m)→(chunksF bs m k).take (bs.length-512*k)=bs.drop (512*k)
 |0,k,h=>by rw[List.drop_eq_nil_of_le (by omega)];unfold chunksF;simp
 |m+1,k,h=>by
  rw[chunksF_succ,List.take_append,chunkB_len];by_cases hr:512≤bs.length-512*k
  ·(have hl:((bs.drop (512*k)).take 512).length=512:=by rw[List.length_take,List.length_drop];omega);(have e1:chunkB bs k=(bs.drop (512*k)).take 512:=by have hz:zeroB.drop 512=[]:=List.drop_eq_nil_of_le (by rw[zeroB_len];exact Nat.le_refl _);rw[chunkB_eq,hl,hz,List.append_nil]);rw[e1,List.take_of_length_le (by rw[hl];exact hr),show bs.length-512*k-512=bs.length-512*(k+1)by omega,chunks_take bs m (k+1) (by omega)];rw[show 512*(k+1)=512*k+512 by omega,←List.drop_drop,List.take_append_drop]
  rw[show bs.length-512*k-512=0 by omega,List.take_zero,List.append_nil];have hl:(bs.drop (512*k)).length=bs.length-512*k:=List.length_drop;have e1:(bs.drop (512*k)).take 512=bs.drop (512*k):=List.take_of_length_le (by omega);rw[chunkB_eq,e1,List.take_append,hl,Nat.sub_self,List.take_zero,List.append_nil,List.take_of_length_le (by omega)]
theorem list_getD (l:List Nat):l=(List.range l.length).map fun i=>l.getD i 0:=by
 apply List.ext_getElem?;intro k;rw[List.getElem?_map];by_cases hk:k<l.length
 ·rw[List.getElem?_range hk,Option.map_some,gH,gE hk];rfl
 rw[List.getElem?_eq_none (by omega),List.getElem?_eq_none (by rw[List.length_range];omega)];rfl
theorem flat_chunks {c:Blks} {d:Nat} {l:List Nat} {bs:List UInt8} (h:∀i,i<l.length→bk c (d+l.getD i 0)=chunkB bs (0+i)):flatP c d l=chunksF bs l.length 0:=by
 unfold flatP chunksF
 conv=>lhs;rw[list_getD l]
 rw[List.flatMap_map,List.flatMap_def,List.flatMap_def];congr 1;exact List.map_congr_left fun i hi=>h i (List.mem_range.1 hi)
theorem Phys.fill {S:VS} {g:LT} (h:Phys S g) {n:Nat} {bs:List UInt8} (hn:n<S.names) (hk:(g n).kind=2) (hbs:bs.length≤8192):
  (∀S1,fillP S n bs=some S1→Phys S1 (updT g n {g n with data:=bs}))∧(fillP S n bs=none→S.count<needN (updT g n {g n with data:=bs}) S.names):=by
 have hx:=h.head n hn;have hfn:=h.fair n hn;have he:(g n).ents=[]:=hfn.ents (by omega);have hfair:({g n with data:=bs}:LI).fair:=⟨hfn.kind,hfn.ents,fun e=>absurd hk e,hfn.few,hbs,hfn.mode,hfn.links,hfn.names⟩;have hneed:({g n with data:=bs}:LI).need=(bs.length+511)/512:=by unfold LI.need;rw[if_neg (by show ¬(g n).kind=1;omega),if_pos (by exact hk)]
 obtain⟨sp,hsp⟩:∃sp,sp=(inoP S.cur n).spots:=⟨_,rfl⟩;have hspl:=h.spots_ok hn;have hspn:=h.nodup n hn;unfold fillP;cases hf:fitP S (inoP S.cur n).spots ((bs.length+511)/512)with
 |none=>
  refine⟨fun S1 e=>(by cases e),fun _=>?_⟩;have hgt:(inoP S.cur n).spots.length<(bs.length+511)/512:=by
   rcases Nat.lt_or_ge (inoP S.cur n).spots.length ((bs.length+511)/512)with h1|h1
   ·exact h1
   obtain⟨S1,h2⟩:=fitP_down (S:=S) (l:=(inoP S.cur n).spots) (n:=(bs.length+511)/512) h1;rw[h2]at hf;cases hf
  obtain⟨t,ht1,ht2⟩:=(fit_more h.use (by omega)).2 hf;have h1:=h.used t ht2;have h2:=needN_upd hn ({g n with data:=bs}:LI) (g:=g);rw[hneed,←h.len n hn]at h2;omega
 |some r=>
  obtain⟨S1,l⟩:=r;obtain⟨hu1,hl1,hlt1,hnd1,hor1,hb1⟩:=fit_gen h.use hspl hspn hf;have hus:=(fitP_used hf).1;have hm1:Mid S S1:=Mid.used hus hu1;obtain⟨hu2,hb2,hblk2,hch2⟩:=lays_law bs l 0 S1 hu1 (fun s hs=>by rw[hm1.count];exact hlt1 s hs) hnd1;have hm2:Mid S (laysP bs l 0 S1):=hm1.trans (Mid.laid (laysP_laid bs l 0 S1) hu2);rw[hm1.data]at hblk2 hch2;refine⟨fun S2 e=>?_,fun e=>(by cases e)⟩;cases e;(have hy:({inoP S.cur n with size:=bs.length,spots:=l}:VI)=({g n with data:=bs}:LI).vi l:=by rw[hx];unfold LI.vi;simp only[VI.mk.injEq,true_and,and_true];unfold LI.size;rw[if_neg (by show ¬(g n).kind=1;omega)]);rw[hy];have hdis:=h.fit_dis hn hor1;refine h.step hn (Step.keep h hn hm2 hfair (by rw[hneed];exact hl1) hlt1 hnd1 hdis (fun j hj=>?_) (fun m hmm e s hs=>?_) (fun k1=>?_) (fun _=>?_) ?_)
  ·rw[hb2];exact h.fit_bits hn hb1 hj
  ·rw[hblk2 s (hdis m hmm e s hs)];exact used_bits hus s
  ·exact absurd (show(g n).kind=1 from k1) (by omega)
  ·unfold contentP;(show(flatP _ _ l).take ({g n with data:=bs}:LI).size=bs);rw[flat_chunks hch2];(have e1:({g n with data:=bs}:LI).size=bs.length:=by unfold LI.size;rw[if_neg (by show ¬(g n).kind=1;omega)]);have:=chunks_take bs l.length 0 (by rw[hl1];omega);rw[Nat.mul_zero,Nat.sub_zero,List.drop_zero]at this;rw[e1,this]
  (show(laysP bs l 0 S1).nodes=S.nodes-((g n).ents.length:Nat)+((g n).ents.length:Nat));rw[(laysP_laid bs l 0 S1).nodes,hus.nodes];omega
theorem sumN_bound {f:Nat→Int} {n:Nat} {a b:Int} (h:∀i<n,a≤f i∧f i≤b):a*n≤sumN f n∧sumN f n≤b*n:=by
 induction n with
 |zero=>simp[sumN]
 |succ n ih=>rw[sumN_succ];(have h1:=ih fun i hi=>h i (by omega));have h2:=h n (by omega);push_cast;rw[Int.mul_add,Int.mul_add];omega
theorem LI.wgh_le {x:LI} (h:x.fair):0≤wghB x.kind x.size∧wghB x.kind x.size≤28:=by
 unfold wghB;have h1:=h.few;have h2:=h.short;by_cases k1:x.kind=1
 ·rw[if_pos k1,dir_size k1];omega
 rw[if_neg k1];by_cases k2:x.kind=2
 ·(have e:x.size=x.data.length:=by unfold LI.size;rw[if_neg k1]);rw[if_pos k2,e];split<;>omega
 rw[if_neg k2];omega
section
variable {S:VS} {g:LT}
theorem Phys.names_le (h:Phys S g):S.names≤1024:=h.use.vf.names
theorem Phys.smallW (h:Phys S g):0≤S.wB∧S.wB≤28*S.names∧0≤S.wI∧S.wI≤S.names:=by
 have h1:=sumN_bound (f:=fun n=>wghB (g n).kind (g n).size) (n:=S.names) (a:=0) (b:=28) fun i hi=>LI.wgh_le (h.fair i hi)
 have h2:=sumN_bound (f:=fun n=>wghI (g n).kind) (n:=S.names) (a:=0) (b:=1) fun i _=>wghI_le
 rw[h.wB,h.wI];omega
theorem Phys.sw (h:Phys S g):SmallW S:=by have:=h.smallW;have:=h.names_le;exact⟨by omega,by omega,by omega,by omega⟩
theorem Phys.nodes_le (h:Phys S g):0≤S.nodes∧S.nodes≤448*S.names:=by
 have h1:=sumN_bound (f:=fun n=>((g n).ents.length:Int)) (n:=S.names) (a:=0) (b:=448) fun i hi=>⟨by omega,by have:=(h.fair i hi).few;omega⟩
 rw[h.nodes];omega
theorem Phys.sv (h:Phys S g):SmallV S:=by have:=h.nodes_le;have:=h.names_le;exact⟨h.sw,by omega,by omega⟩
theorem Phys.inoOk (h:Phys S g) {n:Nat} (hn:n<S.names):InoOk S n:=⟨hn,h.few hn,h.lt n hn⟩
theorem Phys.tabOk (h:Phys S g):TabOk S.cur S.names:=fun n hn=>h.few hn
theorem sumN_nonneg {f:Nat→Int} {n:Nat} (h:∀i<n,0≤f i):0≤sumN f n:=by
 induction n with
 |zero=>exact Int.le_refl _
 |succ n ih=>rw[sumN_succ];(have h1:=ih fun i hi=>h i (by omega));have h2:=h n (by omega);omega
theorem ents_le_nodes {g:LT} {n d:Nat} (hd:d<n):((g d).ents.length:Int)≤sumN (fun i=>((g i).ents.length:Int)) n:=by
 have h1:=sumN_upd (f:=fun i=>((g i).ents.length:Int)) (g:=fun i=>if i=d then 0 else((g i).ents.length:Int)) hd fun i _ e=>if_neg e
 have h2:=sumN_nonneg (f:=fun i=>if i=d then(0:Int)else((g i).ents.length:Int)) (n:=n) fun i hi=>by split<;>omega
 simp only[if_pos]at h1;omega
theorem Phys.ents_le (h:Phys S g) {d:Nat} (hd:d<S.names):((g d).ents.length:Int)≤S.nodes:=by rw[h.nodes];exact ents_le_nodes hd
theorem entAt_len (h:Phys S g) {n i:Nat} (hn:n<S.names) (hi:i<16*(inoP S.cur n).spots.length):(entAt S.cur S.data (inoP S.cur n) i).length=32:=by unfold entAt entB;have hs:=h.lt n hn _ (getD_mem (l:=(inoP S.cur n).spots) (a:=i/16) (by omega));have hl:=bk_len h.use.cur (h.use.room hs);rw[List.length_take,List.length_drop,hl];omega
theorem Phys.dirOk (h:Phys S g) {n:Nat} (hn:n<S.names) (hk:(g n).kind=1):DirOk S (inoP S.cur n):=by
 have hroom:=h.dirRoom hn hk;refine⟨h.few hn,hroom,h.lt n hn,fun i hi=>?_⟩;have he:=h.ents n hn hk;have hl:=entAt_len h hn (i:=i) (by omega);have hm:eat (dirL S.cur S.data (inoP S.cur n)) i∈(g n).ents:=by rw[he];exact eat_mem (by rw[←he,dirL_len];exact hi)
 have h15:=((h.fair n hn).names _ hm).1;rw[dirL_at hi]at h15;simp only[enN,List.length_take,List.length_drop,hl]at h15;omega
structure Vol (S:VS) (g:LT):Prop where
 ph:Phys S g
 ent:∀n<S.names,∀e∈(g n).ents,e.2<S.names
 root:(g 0).kind=1
 few:S.nodes≤256
 rB:S.rB=S.count
 rI:S.rI=S.names
theorem Vol.vw (h:Vol S g):VW S:=
 ⟨h.ph.use.vf,h.ph.n0,fun n hn=>h.ph.few hn,fun n hn=>h.ph.lt n hn,fun n hn hk=>h.ph.dirOk hn (by rw[←h.ph.kind hn];exact hk),fun n hn hk e he=>by(have hk1:(g n).kind=1:=by rw[←h.ph.kind hn];exact hk);rw[h.ph.ents n hn hk1]at he;exact⟨h.ent n hn e he,((h.ph.fair n hn).names e he).1⟩⟩
theorem Vol.rootI (h:Vol S g):(inoP S.cur 0).kind=1:=by rw[h.ph.kind h.ph.n0];exact h.root
theorem Vol.fileRoom (h:Vol S g):∀m<S.names,(inoP S.cur m).kind≠1→(inoP S.cur m).size≤512*(inoP S.cur m).spots.length:=fun m hm hk=>by
 rw[h.ph.size hm,h.ph.len m hm];rw[h.ph.kind hm]at hk;have hf:=h.ph.fair m hm;unfold LI.size LI.need;rw[if_neg hk,if_neg hk];by_cases k2:(g m).kind=2
 ·rw[if_pos k2];omega
 rw[hf.data k2];simp
theorem Phys.enterOk (h:Phys S g) {dir n:Nat} {name:List UInt8} (hd:dir<S.names) (hk:(g dir).kind=1) (hsz:(g dir).ents.length<448) (hn:name.length≤15) (hm:n≤65535):EnterOk S dir n name:=
 ⟨h.inoOk hd,by rw[h.size hd,dir_size hk];exact hsz,hn,hm⟩
theorem small_of {z:Int} (h0: -10000000≤z) (h1:z≤10000000):SmallI z:=by unfold SmallI;omega
theorem Phys.changeOk {S1:VS} {g1:LT} (hr:S.rB=S.count∧S.rI=S.names) (hu:UseOk S) (hL:Like S S1) (h1:Phys S1 g1) (hm:S1.m≤40):ChangeOk S S1:=by
 have h2:=h1.smallW;have h3:=h1.names_le;have h4:=hu.nb;have h5:=hL.rB;have h6:=hL.rI;have h7:(S.count:Int)≤4096:=by unfold VS.count;omega
 have h8:=hu.vf.names;refine⟨hL,hm,small_of (by omega) (by omega),small_of (by omega) (by omega),small_of ?_ ?_,small_of ?_ ?_⟩
 ·rw[h5,hr.1];omega
 ·rw[h5,hr.1];omega
 ·rw[h6,hr.2];omega
 rw[h6,hr.2];omega
theorem Phys.enter_m (h:Phys S g) {dir n:Nat} {name:List UInt8} (hd:dir<S.names) (hk:(g dir).kind=1) {S1:VS} (he:enterP S dir name n=some S1):S1.m≤S.m+3:=by
 unfold enterP at he;have hsz:(inoP S.cur dir).size=(g dir).ents.length:=by rw[h.size hd,dir_size hk]
 have hl:(inoP S.cur dir).spots.length=max 1 (((g dir).ents.length+15)/16):=by rw[h.len dir hd,dir_need hk]
 split at he
 ·cases he
 rename_i S2 l hf;cases he;have:=(fitP_used hf).1.m;show S2.m+1+1≤_
 rw[this];show S.m+_+1+1≤_
 rw[hsz,hl];omega
theorem fill_m {S1:VS} {n:Nat} {bs:List UInt8} (hf:fillP S n bs=some S1):S1.m≤S.m+(inoP S.cur n).spots.length+2*((bs.length+511)/512)+1:=by
 unfold fillP at hf;split at hf
 ·cases hf
 rename_i S2 l h1;cases hf;have h2:=(fitP_used h1);have h3:=(laysP_laid bs l 0 S2).m;show(laysP bs l 0 S2).m+1≤_
 rw[h3,h2.1.m,h2.2];omega
end
end Go.Proofs.YteihmbaimbogaaaGreat
namespace Go.Proofs.YteihmbaimbogaaaGreat
structure TN where
 path:List UInt8
 file:Int
 mode:Int
deriving DecidableEq
end Go.Proofs.YteihmbaimbogaaaGreat
