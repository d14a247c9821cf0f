/- FvA, FvB, FvC, laid together. -/
import Derived.Test.YteihmbaimbogaaaGreatJ24
namespace Go.Proofs.YteihmbaimbogaaaGreat
set_option linter.unusedVariables false
set_option linter.unusedSimpArgs false
def VS.bit (S:VS) (j:Nat):Bool:=bitB (bk S.cur 1) j
structure UseOk (S:VS):Prop where
 cur:BlksOk (S.nb-96) S.cur
 vf:VF S
 nb:S.nb≤4096
theorem UseOk.len1 {S:VS} (h:UseOk S):1<S.cur.length:=by have:=h.vf.room;unfold VS.data at this;rw[h.cur.len];omega
theorem UseOk.in1 {S:VS} (h:UseOk S) {j:Nat} (hj:j<S.count):j/8<(bk S.cur 1).length:=by have h1:=h.len1;rw[h.cur.len]at h1;rw[bk_len h.cur h1];have:=h.nb;unfold VS.count at hj;omega
theorem UseOk.put {S:VS} (h:UseOk S) (k:Nat) {u:List UInt8} (hu:u.length=512):UseOk (S.put k u):=⟨h.cur.set _ hu,⟨h.vf.names,h.vf.room⟩,h.nb⟩
theorem UseOk.one {S:VS} (h:UseOk S):(bk S.cur 1).length=512:=bk_len h.cur (by have:=h.len1;rw[h.cur.len]at this;exact this)
theorem UseOk.set {S:VS} (h:UseOk S) (j:Nat):UseOk (S.put 1 (setB (bk S.cur 1) j)):=h.put 1 (by rw[setB_len];exact h.one)
theorem UseOk.clr {S:VS} (h:UseOk S) (j:Nat):UseOk (S.put 1 (clrB (bk S.cur 1) j)):=h.put 1 (by rw[clrB_len];exact h.one)
theorem set_bit {S:VS} (h:UseOk S) {j:Nat} (hj:j<S.count) (i:Nat):(S.put 1 (setB (bk S.cur 1) j)).bit i=(decide (i=j)||S.bit i):=by
 show bitB (bk (S.cur.set 1 _) 1) i=_
 rw[bk_set _ _ _ _ h.len1,if_pos rfl,bit_set (h.in1 hj)];rfl
theorem clr_bit {S:VS} (h:UseOk S) {j:Nat} (hj:j<S.count) (i:Nat):(S.put 1 (clrB (bk S.cur 1) j)).bit i=(!decide (i=j)&&S.bit i):=by
 show bitB (bk (S.cur.set 1 _) 1) i=_
 rw[bk_set _ _ _ _ h.len1,if_pos rfl,bit_clr (h.in1 hj)];rfl
theorem downP_bits :∀(k:Nat) (S:VS) (l:List Nat),UseOk S→k≤l.length→(∀s∈l,s<S.count)→UseOk (downP k S l).1∧∀i,(downP k S l).1.bit i=(S.bit i&& !decide (i∈l.drop (l.length-k)))
 |0,S,l,h,_,_=>⟨h,fun i=>by(show S.bit i=_);rw[Nat.sub_zero,List.drop_length];simp⟩
 |k+1,S,l,h,hk,hl=>by
  rcases List.eq_nil_or_concat l with e|⟨l',z,e⟩
  ·subst e;simp at hk
  rw[List.concat_eq_append]at e;subst e;have hz:z<S.count:=hl z (by simp);(have e1:(l'++[z]).getLastD 0=z:=by simp);(have e2:(l'++[z]).dropLast=l':=by simp);(show UseOk (downP k (S.put 1 (clrB (bk S.cur 1) ((l'++[z]).getLastD 0))) (l'++[z]).dropLast).1∧∀i,(downP k (S.put 1 (clrB (bk S.cur 1) ((l'++[z]).getLastD 0))) (l'++[z]).dropLast).1.bit i=_);rw[e1,e2];rw[List.length_append,List.length_singleton]at hk;(obtain⟨h1,h2⟩:=downP_bits k _ l' (h.clr z) (by omega) fun s hs=>hl s (List.mem_append_left _ hs));refine⟨h1,fun i=>?_⟩;rw[h2,clr_bit h hz];(have e3:(l'++[z]).drop ((l'++[z]).length-(k+1))=l'.drop (l'.length-k)++[z]:=by rw[List.length_append,List.length_singleton,show l'.length+1-(k+1)=l'.length-k by omega,List.drop_append_of_le_length (by omega)]);rw[e3];by_cases ei:i=z
  ·simp[ei]
  simp[ei]
theorem upP_bits :∀(k:Nat) (S:VS) (l:List Nat),UseOk S→
  (∀S1 l1,upP k S l=some (S1,l1)→UseOk S1∧∃t,l1=l++t∧t.length=k∧t.Nodup∧(∀j∈t,j<S.count∧S.bit j=false)∧∀i,S1.bit i=(S.bit i||decide (i∈t)))∧
  (upP k S l=none→∃t:List Nat,t.length<k∧∀j<S.count,S.bit j=true∨j∈t)
 |0,S,l,h=>⟨fun S1 l1 e=>by cases e;exact⟨h,[],by simp,rfl,.nil,fun j hj=>(List.not_mem_nil hj).elim,fun i=>by simp⟩,fun e=>by cases e⟩
 |k+1,S,l,h=>by
  cases hf:freeL (bk S.cur 1) S.count with
  |none=>(have e:upP (k+1) S l=none:=by unfold upP;rw[hf]);refine⟨fun S1 l1 e1=>(by rw[e]at e1;cases e1),fun _=>⟨[],by simp,fun j hj=>.inl (freeL_none hf j hj)⟩⟩
  |some j=>
   have e:upP (k+1) S l=upP k (S.put 1 (setB (bk S.cur 1) j)) (l++[j]):=by
    conv=>lhs;unfold upP
    rw[hf]
   obtain⟨hj,hbj,_⟩:=freeL_some hf;obtain⟨h1,h2⟩:=upP_bits k (S.put 1 (setB (bk S.cur 1) j)) (l++[j]) (h.set j);rw[e];constructor
   ·intro S1 l1 e1;obtain⟨h3,t,h4,h5,h6,h7,h8⟩:=h1 S1 l1 e1;(have hjt:j∉t:=fun hm=>by have:=(h7 j hm).2;rw[set_bit h hj]at this;simp at this);refine⟨h3,j::t,by rw[h4,List.append_assoc];rfl,by rw[List.length_cons,h5],List.nodup_cons.2 ⟨hjt,h6⟩,fun i hi=>?_,fun i=>?_⟩
    ·rcases List.mem_cons.1 hi with rfl|hi
     ·exact⟨hj,hbj⟩
     have:=h7 i hi;rw[set_bit h hj]at this;simp at this;exact⟨this.1,this.2.2⟩
    rw[h8,set_bit h hj];by_cases ei:i=j
    ·simp[ei]
    simp[ei]
   intro e1;obtain⟨t,h3,h4⟩:=h2 e1;refine⟨j::t,by rw[List.length_cons];omega,fun i hi=>?_⟩;rcases h4 i hi with h5|h5
   ·rw[set_bit h hj]at h5;by_cases ei:i=j
    ·exact .inr (by rw[ei];exact List.mem_cons_self ..)
    simp[ei]at h5;exact .inl h5
   exact .inr (List.mem_cons_of_mem _ h5)
theorem fit_more {S:VS} {l:List Nat} {n:Nat} (h:UseOk S) (hn:l.length≤n):
  (∀S1 l1,fitP S l n=some (S1,l1)→UseOk S1∧∃t,l1=l++t∧t.length=n-l.length∧t.Nodup∧(∀j∈t,j<S.count∧S.bit j=false)∧∀i,S1.bit i=(S.bit i||decide (i∈t)))∧
  (fitP S l n=none→∃t:List Nat,t.length<n-l.length∧∀j<S.count,S.bit j=true∨j∈t):=by
 have e:fitP S l n=upP (n-l.length) S l:=by unfold fitP;rw[Nat.sub_eq_zero_of_le hn];rfl
 rw[e];exact upP_bits _ _ _ h
theorem fit_less {S:VS} {l:List Nat} {n:Nat} (h:UseOk S) (hn:n≤l.length) (hl:∀s∈l,s<S.count):
  ∃S1,fitP S l n=some (S1,l.take n)∧UseOk S1∧∀i,S1.bit i=(S.bit i&& !decide (i∈l.drop n)):=by
 obtain⟨h1,h2⟩:=downP_bits (l.length-n) S l h (by omega) hl;have h3:=downP_list (l.length-n) S l;rw[show l.length-(l.length-n)=n by omega]at h2 h3;refine⟨(downP (l.length-n) S l).1,?_,h1,h2⟩;unfold fitP;rw[h3,List.length_take,show n-min n l.length=0 by omega];rfl
def sumN (f:Nat→Int) (n:Nat):Int:=((List.range n).map f).sum
theorem sumN_succ (f:Nat→Int) (n:Nat):sumN f (n+1)=sumN f n+f n:=by unfold sumN;rw[List.range_succ,List.map_append,List.sum_append];simp
theorem sumN_congr {f g:Nat→Int} {n:Nat} (h:∀i<n,f i=g i):sumN f n=sumN g n:=by
 induction n with
 |zero=>rfl
 |succ n ih=>rw[sumN_succ,sumN_succ,ih fun i hi=>h i (by omega),h n (by omega)]
theorem sumN_upd {f g:Nat→Int} {n k:Nat} (hk:k<n) (h:∀i<n,i≠k→g i=f i):sumN g n=sumN f n-f k+g k:=by
 induction n with
 |zero=>omega
 |succ n ih=>
  rw[sumN_succ,sumN_succ];by_cases e:k=n
  ·subst e;rw[sumN_congr fun i hi=>h i (by omega) (by omega)];omega
  rw[ih (by omega) fun i hi=>h i (by omega),h n (by omega) (fun e2=>e e2.symm)];omega
structure LI where
 kind:Nat
 mode:Nat
 links:Nat
 ents:Ents
 data:List UInt8
def LI.size (x:LI):Nat:=if x.kind=1 then x.ents.length else x.data.length
def LI.need (x:LI):Nat:=if x.kind=1 then max 1 ((x.ents.length+15)/16)else if x.kind=2 then(x.data.length+511)/512 else 0
def LI0 :LI:=⟨0,0,0,[],[]⟩
abbrev LT :=Nat→LI
def updT (g:LT) (n:Nat) (x:LI):LT:=fun i=>if i=n then x else g i
theorem updT_same (g:LT) (n:Nat) (x:LI):updT g n x n=x:=if_pos rfl
theorem updT_ne (g:LT) {n i:Nat} (x:LI) (h:i≠n):updT g n x i=g i:=if_neg h
structure LI.fair (x:LI):Prop where
 kind:x.kind≤2
 ents:x.kind≠1→x.ents=[]
 data:x.kind≠2→x.data=[]
 few:x.ents.length≤448
 short:x.data.length≤8192
 mode:x.mode<65536
 links:x.links<65536
 names:∀e∈x.ents,e.1.length≤15∧e.2≤65535
def LI.vi (x:LI) (l:List Nat):VI:=⟨x.kind,x.mode,x.links,x.size,l⟩
theorem LI.need_le {x:LI} (h:x.fair):x.need≤28:=by
 unfold LI.need;have:=h.few;have:=h.short;split
 ·omega
 split<;>omega
theorem LI.size_le {x:LI} (h:x.fair):x.size≤8192:=by unfold LI.size;have:=h.few;have:=h.short;split<;>omega
structure Phys (S:VS) (g:LT):Prop where
 use:UseOk S
 n0:0<S.names
 fair:∀n<S.names,(g n).fair
 head:∀n<S.names,inoP S.cur n=(g n).vi (inoP S.cur n).spots
 len:∀n<S.names,(inoP S.cur n).spots.length=(g n).need
 lt:∀n<S.names,∀s∈(inoP S.cur n).spots,s<S.count
 nodup:∀n<S.names,(inoP S.cur n).spots.Nodup
 dis:∀n<S.names,∀m<S.names,n≠m→∀s∈(inoP S.cur n).spots,s∉(inoP S.cur m).spots
 bits:∀j<S.count,S.bit j=true↔∃n<S.names,j∈(inoP S.cur n).spots
 ents:∀n<S.names,(g n).kind=1→dirL S.cur S.data (inoP S.cur n)=(g n).ents
 data:∀n<S.names,(g n).kind=2→contentP S.cur S.data (inoP S.cur n)=(g n).data
 wB:S.wB=sumN (fun n=>wghB (g n).kind (g n).size) S.names
 wI:S.wI=sumN (fun n=>wghI (g n).kind) S.names
 nodes:S.nodes=sumN (fun n=>((g n).ents.length:Int)) S.names
theorem flatP_congr {c c':Blks} {d:Nat} {l:List Nat} (h:∀s∈l,bk c' (d+s)=bk c (d+s)):flatP c' d l=flatP c d l:=by
 unfold flatP
 induction l with
 |nil=>rfl
 |cons s l ih=>rw[List.flatMap_cons,List.flatMap_cons,h s (List.mem_cons_self ..),ih fun t ht=>h t (List.mem_cons_of_mem _ ht)]
theorem content_congr {c c':Blks} {d:Nat} {x:VI} (h:∀s∈x.spots,bk c' (d+s)=bk c (d+s)):contentP c' d x=contentP c d x:=by unfold contentP;rw[flatP_congr h]
theorem entAt_congr {c c':Blks} {d:Nat} {x:VI} {i:Nat} (hi:i<16*x.spots.length) (h:∀s∈x.spots,bk c' (d+s)=bk c (d+s)):entAt c' d x i=entAt c d x i:=by
 unfold entAt;have hk:i/16<x.spots.length:=by omega
 rw[h _ (by rw[gH,gE hk];exact List.getElem_mem hk)]
theorem dirL_congr {c c':Blks} {d:Nat} {x:VI} (hs:x.size≤16*x.spots.length) (h:∀s∈x.spots,bk c' (d+s)=bk c (d+s)):dirL c' d x=dirL c d x:=by
 unfold dirL;refine List.map_congr_left fun i hi=>?_
 rw[entAt_congr (by have:=List.mem_range.1 hi;omega) h]
theorem Phys.few {S:VS} {g:LT} (h:Phys S g) {n:Nat} (hn:n<S.names):(inoP S.cur n).spots.length≤28:=by rw[h.len n hn];exact LI.need_le (h.fair n hn)
theorem Phys.size {S:VS} {g:LT} (h:Phys S g) {n:Nat} (hn:n<S.names):(inoP S.cur n).size=(g n).size:=by rw[h.head n hn];rfl
theorem Phys.kind {S:VS} {g:LT} (h:Phys S g) {n:Nat} (hn:n<S.names):(inoP S.cur n).kind=(g n).kind:=by rw[h.head n hn];rfl
theorem Phys.dirRoom {S:VS} {g:LT} (h:Phys S g) {n:Nat} (hn:n<S.names) (hk:(g n).kind=1):(inoP S.cur n).size≤16*(inoP S.cur n).spots.length:=by rw[h.size hn,h.len n hn];unfold LI.size LI.need;rw[if_pos hk,if_pos hk];omega
structure Step (S S':VS) (g:LT) (n:Nat) (x:LI) (l:List Nat):Prop where
 use:UseOk S'
 names:S'.names=S.names
 nb:S'.nb=S.nb
 ino:∀m<S.names,inoP S'.cur m=if m=n then x.vi l else inoP S.cur m
 fair:x.fair
 len:l.length=x.need
 lt:∀s∈l,s<S.count
 nodup:l.Nodup
 dis:∀m<S.names,m≠n→∀s∈(inoP S.cur m).spots,s∉l
 bits:∀j<S.count,S'.bit j=true↔j∈l∨∃m<S.names,m≠n∧j∈(inoP S.cur m).spots
 blk:∀m<S.names,m≠n→∀s∈(inoP S.cur m).spots,bk S'.cur (S.data+s)=bk S.cur (S.data+s)
 ents:x.kind=1→dirL S'.cur S.data (x.vi l)=x.ents
 data:x.kind=2→contentP S'.cur S.data (x.vi l)=x.data
 wB:S'.wB=S.wB-wghB (g n).kind (g n).size+wghB x.kind x.size
 wI:S'.wI=S.wI-wghI (g n).kind+wghI x.kind
 nodes:S'.nodes=S.nodes-(g n).ents.length+x.ents.length
theorem Phys.step {S S':VS} {g:LT} {n:Nat} {x:LI} {l:List Nat} (h:Phys S g) (hn:n<S.names) (st:Step S S' g n x l):Phys S' (updT g n x):=by
 have hd:S'.data=S.data:=by unfold VS.data;rw[st.names]
 have hc:S'.count=S.count:=by unfold VS.count;rw[hd,st.nb]
 have hin:inoP S'.cur n=x.vi l:=by rw[st.ino n hn,if_pos rfl]
 have hino:∀m,m<S.names→m≠n→inoP S'.cur m=inoP S.cur m:=fun m hm e=>by rw[st.ino m hm,if_neg e]
 refine⟨st.use,by rw[st.names];exact h.n0,?_,?_,?_,?_,?_,?_,?_,?_,?_,?_,?_,?_⟩<;>rw[st.names]at*
 ·intro m hm;by_cases e:m=n
  ·rw[e,updT_same];exact st.fair
  rw[updT_ne _ _ e];exact h.fair m hm
 ·intro m hm;by_cases e:m=n
  ·rw[e,updT_same,hin];rfl
  rw[updT_ne _ _ e,hino m hm e];exact h.head m hm
 ·intro m hm;by_cases e:m=n
  ·rw[e,updT_same,hin];exact st.len
  rw[updT_ne _ _ e,hino m hm e];exact h.len m hm
 ·intro m hm;rw[hc];by_cases e:m=n
  ·rw[e,hin];exact st.lt
  rw[hino m hm e];exact h.lt m hm
 ·intro m hm;by_cases e:m=n
  ·rw[e,hin];exact st.nodup
  rw[hino m hm e];exact h.nodup m hm
 ·intro m hm k hk hmk;by_cases e:m=n
  ·subst e;rw[hin,hino k hk (fun e=>hmk e.symm)];intro s hs hs2;exact st.dis k hk (fun e=>hmk e.symm) s hs2 hs
  rw[hino m hm e];by_cases e2:k=n
  ·subst e2;rw[hin];exact st.dis m hm e
  rw[hino k hk e2];exact h.dis m hm k hk hmk
 ·intro j hj;rw[hc]at hj;rw[st.bits j hj];constructor
  ·rintro(h1|⟨m,hm,e,h1⟩)
   ·exact⟨n,hn,by rw[hin];exact h1⟩
   exact⟨m,hm,by rw[hino m hm e];exact h1⟩
  rintro⟨m,hm,h1⟩;by_cases e:m=n
  ·subst e;rw[hin]at h1;exact .inl h1
  rw[hino m hm e]at h1;exact .inr ⟨m,hm,e,h1⟩
 ·intro m hm hk;rw[hd];by_cases e:m=n
  ·subst e;rw[updT_same]at hk ⊢;rw[hin];exact st.ents hk
  rw[updT_ne _ _ e]at hk ⊢;rw[hino m hm e,dirL_congr (h.dirRoom hm hk) (st.blk m hm e)];exact h.ents m hm hk
 ·intro m hm hk;rw[hd];by_cases e:m=n
  ·subst e;rw[updT_same]at hk ⊢;rw[hin];exact st.data hk
  rw[updT_ne _ _ e]at hk ⊢;rw[hino m hm e,content_congr (st.blk m hm e)];exact h.data m hm hk
 ·rw[st.wB,h.wB,sumN_upd (f:=fun n=>wghB (g n).kind (g n).size) (g:=fun i=>wghB (updT g n x i).kind (updT g n x i).size) hn fun i _ e=>by rw[updT_ne _ _ e]];simp only[updT_same]
 ·rw[st.wI,h.wI,sumN_upd (f:=fun n=>wghI (g n).kind) (g:=fun i=>wghI (updT g n x i).kind) hn fun i _ e=>by rw[updT_ne _ _ e]];simp only[updT_same]
 rw[st.nodes,h.nodes,sumN_upd (f:=fun n=>((g n).ents.length:Int)) (g:=fun i=>((updT g n x i).ents.length:Int)) hn fun i _ e=>by rw[updT_ne _ _ e]];simp only[updT_same]
theorem UseOk.tab {S:VS} (h:UseOk S) {n:Nat} (hn:n<S.names):2+n/8<S.nb-96:=by have:=h.vf.room;unfold VS.data at this;omega
theorem UseOk.keep {S:VS} (h:UseOk S) {n:Nat} (hn:n<S.names) {x:VI} (hx:x.spots.length≤28):UseOk (S.keep n x):=
 ⟨keepP_ok h.cur (h.tab hn) hx,⟨h.vf.names,h.vf.room⟩,h.nb⟩
theorem keep_blk (c:Blks) {n k:Nat} (x:VI) (h:k≠2+n/8):bk (keepP c n x) k=bk c k:=bk_set_ne c _ h
theorem keep_bit (S:VS) (n:Nat) (x:VI) (j:Nat):(S.keep n x).bit j=S.bit j:=by
 show bitB (bk (keepP S.cur n x) 1) j=_
 rw[keep_blk _ _ (by omega)];rfl
theorem keep_data {S:VS} {n:Nat} (hn:n<S.names) (x:VI) (s:Nat):bk (S.keep n x).cur (S.data+s)=bk S.cur (S.data+s):=
 keep_blk _ _ (by unfold VS.data;omega)
theorem keep_ino {S:VS} (h:UseOk S) {n:Nat} (hn:n<S.names) {x:VI} (hx:x.ok) (m:Nat):inoP (S.keep n x).cur m=if m=n then x else inoP S.cur m:=
 inoP_keep h.cur (h.tab hn) hx m
theorem LI.vi_ok {x:LI} (h:x.fair) {l:List Nat} (hl:l.length≤28) (h2:∀s∈l,s<65536):(x.vi l).ok:=
 ⟨by have:=h.kind;unfold LI.vi;simp only;omega,h.mode,h.links,by have:=LI.size_le h;unfold LI.vi;simp only;omega,hl,h2⟩
theorem Phys.spot_small {S:VS} {g:LT} (h:Phys S g) {s:Nat} (hs:s<S.count):s<65536:=by have:=h.use.nb;unfold VS.count at hs;omega
theorem entE_get {name:List UInt8} {n:Nat} (h:name.length≤15) (k:Nat):(entE name n)[k]? =if 16≤k∧k<18 then(w2 n)[k-16]? else if 1≤k∧k<1+name.length then name[k-1]? else((List.replicate 32 (0:UInt8)).set 0 (UInt8.ofNat name.length))[k]? :=by
 unfold entE;rw[layB_get (by rw[layB_len (by simp;omega)];simp[w2_len]),w2_len];by_cases h1:16≤k∧k<16+2
 ·rw[if_pos h1,if_pos (by omega)]
 rw[if_neg h1,if_neg (by omega),layB_get (by simp;omega)]
theorem entE_len0 {name:List UInt8} {n:Nat} (h:name.length≤15):((entE name n).getD 0 0).toNat=name.length:=by rw[gH,entE_get h,if_neg (by omega),if_neg (by omega),List.getElem?_set_self (by simp),Option.getD_some,u8_of];omega
theorem enN_entE {name:List UInt8} {n:Nat} (h:name.length≤15):enN (entE name n)=name:=by
 unfold enN;rw[entE_len0 h];apply List.ext_getElem?;intro k;rw[List.getElem?_take];by_cases hk:k<name.length
 ·rw[if_pos hk,List.getElem?_drop,entE_get h,if_neg (by omega),if_pos (by omega),Nat.add_sub_cancel_left]
 rw[if_neg hk,List.getElem?_eq_none (by omega)]
theorem enI_entE {name:List UInt8} {n:Nat} (h:name.length≤15) (hn:n≤65535):enI (entE name n)=n:=by
 unfold enI r2;rw[gH,gH,entE_get h,entE_get h,if_pos (by omega),if_pos (by omega)];show(UInt8.ofNat n).toNat+256*(UInt8.ofNat (n/256)).toNat=n
 rw[u8_of,u8_of];omega
theorem entB_lay {b e:List UInt8} {i k:Nat} (hb:b.length=512) (he:e.length=32):entB (layB b (i%16*32) e) k=if k%16=i%16 then e else entB b k:=by
 have hr:i%16*32+e.length≤b.length:=by omega
 unfold entB;by_cases hk:k%16=i%16
 ·rw[if_pos hk,hk];have:=layB_same hr;rw[he]at this;exact this
 rw[if_neg hk];apply List.ext_getElem?;intro t;rw[List.getElem?_take,List.getElem?_take];by_cases ht:t<32
 ·rw[if_pos ht,if_pos ht,List.getElem?_drop,List.getElem?_drop,layB_get hr,he,if_neg (by omega)]
 rw[if_neg ht,if_neg ht]
theorem UseOk.room {S:VS} (h:UseOk S) {s:Nat} (hs:s<S.count):S.data+s<S.nb-96:=by unfold VS.count at hs;omega
theorem UseOk.setE {S:VS} (h:UseOk S) {s:Nat} (hs:s<S.count) (i:Nat) {name:List UInt8} (n:Nat) (hn:name.length≤15):UseOk (S.setE s i name n):=
 h.put _ (by have hl:=bk_len h.cur (h.room hs);rw[layB_len (by rw[hl,entE_len hn];omega),hl])
theorem setE_bit {S:VS} (h:UseOk S) (s i:Nat) (name:List UInt8) (n j:Nat):(S.setE s i name n).bit j=S.bit j:=by
 show bitB (bk (S.cur.set (S.data+s) _) 1) j=_
 rw[bk_set_ne _ _ (by unfold VS.data;omega)];rfl
theorem setE_blk (S:VS) {s t:Nat} (i:Nat) (name:List UInt8) (n:Nat) (h:t≠s):bk (S.setE s i name n).cur (S.data+t)=bk S.cur (S.data+t):=bk_set_ne _ _ (by omega)
theorem getD_inj {l:List Nat} (h:l.Nodup) {a b:Nat} (ha:a<l.length) (hb:b<l.length) (e:l.getD a 0=l.getD b 0):a=b:=by
 rw[gH,gH,gE ha,gE hb]at e;simp only[Option.getD_some]at e;have hp:=List.pairwise_iff_getElem.1 h;rcases Nat.lt_trichotomy a b with h1|h1|h1
 ·exact absurd e (hp a b ha hb h1)
 ·exact h1
 exact absurd e.symm (hp b a hb ha h1)
theorem getD_mem {l:List Nat} {a:Nat} (ha:a<l.length):l.getD a 0∈l:=by rw[gH,gE ha];exact List.getElem_mem ha
theorem setE_ent {S:VS} (h:UseOk S) {x:VI} (hx:x.spots.Nodup) {i k n:Nat} {name:List UInt8} (hi:i<16*x.spots.length) (hk:k<16*x.spots.length) (hlt:∀s∈x.spots,s<S.count) (hn:name.length≤15):
  entAt (S.setE (x.spots.getD (i/16) 0) i name n).cur S.data x k=if k=i then entE name n else entAt S.cur S.data x k:=by
 have hi2:i/16<x.spots.length:=by omega
 have hk2:k/16<x.spots.length:=by omega
 have hs:=hlt _ (getD_mem hi2);have hl:=bk_len h.cur (h.room hs);unfold entAt;by_cases e:k/16=i/16
 ·rw[e];(show entB (bk (S.cur.set _ _) _) k=_);rw[bk_set _ _ _ _ (by rw[h.cur.len];exact h.room hs),if_pos rfl,entB_lay hl (entE_len hn)];by_cases e2:k%16=i%16
  ·rw[if_pos e2,if_pos (by omega)]
  rw[if_neg e2,if_neg (by omega)]
 rw[setE_blk _ _ _ _ (fun e2=>e (getD_inj hx hk2 hi2 e2)),if_neg (by omega)]
theorem keep_setE (S:VS) {n:Nat} (hn:n<S.names) (y:VI) (s i:Nat) (name:List UInt8) (k:Nat):(S.keep n y).setE s i name k=(S.setE s i name k).keep n y:=by
 have hne:2+n/8≠S.data+s:=by unfold VS.data;omega
 have e1:bk (keepP S.cur n y) (S.data+s)=bk S.cur (S.data+s):=keep_blk _ _ (fun e=>hne e.symm);have e2:inoP (S.setE s i name k).cur n=inoP S.cur n:=(Laid.setE S s i name k).ino hn;have e3:bk (S.setE s i name k).cur (2+n/8)=bk S.cur (2+n/8):=(Laid.setE S s i name k).blk _ (by unfold VS.data;omega);have h1:((S.keep n y).setE s i name k).cur=((S.setE s i name k).keep n y).cur:=by(show(keepP S.cur n y).set (S.data+s) (layB (bk (keepP S.cur n y) (S.data+s)) _ _)=keepP (S.setE s i name k).cur n y);rw[e1];unfold keepP;rw[e3];exact List.set_comm _ _ hne
 have h2:((S.keep n y).setE s i name k).wB=((S.setE s i name k).keep n y).wB:=by(show S.wB-wghB (inoP S.cur n).kind (inoP S.cur n).size+wghB y.kind y.size=S.wB-wghB (inoP (S.setE s i name k).cur n).kind (inoP (S.setE s i name k).cur n).size+wghB y.kind y.size);rw[e2]
 have h3:((S.keep n y).setE s i name k).wI=((S.setE s i name k).keep n y).wI:=by(show S.wI-wghI (inoP S.cur n).kind+wghI y.kind=S.wI-wghI (inoP (S.setE s i name k).cur n).kind+wghI y.kind);rw[e2]
 have:∀(a b:VS),a.nb=b.nb→a.names=b.names→a.D=b.D→a.cur=b.cur→a.wB=b.wB→a.wI=b.wI→a.nodes=b.nodes→a.rB=b.rB→a.rI=b.rI→a.m=b.m→a=b:=fun a b=>by cases a;cases b;simp only[VS.mk.injEq];intros;simp_all
 exact this _ _ rfl rfl rfl h1 h2 h3 rfl rfl rfl rfl
structure Mid (S S1:VS):Prop where
 use:UseOk S1
 names:S1.names=S.names
 nb:S1.nb=S.nb
 ino:∀m<S.names,inoP S1.cur m=inoP S.cur m
 wB:S1.wB=S.wB
 wI:S1.wI=S.wI
theorem Mid.data {S S1:VS} (h:Mid S S1):S1.data=S.data:=by unfold VS.data;rw[h.names]
theorem Mid.count {S S1:VS} (h:Mid S S1):S1.count=S.count:=by unfold VS.count;rw[h.data,h.nb]
theorem Mid.used {S S1:VS} {k:Nat} (h:Used S S1 k) (hu:UseOk S1):Mid S S1:=⟨hu,h.names,h.nb,fun m _=>h.ino m,h.wB,h.wI⟩
theorem Mid.laid {S S1:VS} {k:Nat} (h:Laid S S1 k) (hu:UseOk S1):Mid S S1:=⟨hu,h.like.names,h.like.nb,fun m hm=>h.ino hm,h.wB,h.wI⟩
theorem Mid.trans {S T U:VS} (h:Mid S T) (g:Mid T U):Mid S U:=⟨g.use,g.names.trans h.names,g.nb.trans h.nb,fun m hm=>(g.ino m (by rw[h.names];exact hm)).trans (h.ino m hm),g.wB.trans h.wB,g.wI.trans h.wI⟩
theorem Mid.refl {S:VS} (h:UseOk S):Mid S S:=⟨h,rfl,rfl,fun _ _=>rfl,rfl,rfl⟩
theorem Mid.node {S:VS} (h:UseOk S) (z:Int):Mid S (S.node z):=⟨⟨h.cur,⟨h.vf.names,h.vf.room⟩,h.nb⟩,rfl,rfl,fun _ _=>rfl,rfl,rfl⟩
theorem Step.keep {S S1:VS} {g:LT} {n:Nat} {x:LI} {l:List Nat} (h:Phys S g) (hn:n<S.names) (hm:Mid S S1) (fair:x.fair) (len:l.length=x.need) (lt:∀s∈l,s<S.count) (nodup:l.Nodup)
  (dis:∀m<S.names,m≠n→∀s∈(inoP S.cur m).spots,s∉l) (bits:∀j<S.count,S1.bit j=true↔j∈l∨∃m<S.names,m≠n∧j∈(inoP S.cur m).spots)
  (blk:∀m<S.names,m≠n→∀s∈(inoP S.cur m).spots,bk S1.cur (S.data+s)=bk S.cur (S.data+s))
  (ents:x.kind=1→dirL S1.cur S.data (x.vi l)=x.ents) (data:x.kind=2→contentP S1.cur S.data (x.vi l)=x.data) (nodes:S1.nodes=S.nodes-(g n).ents.length+x.ents.length):
  Step S (S1.keep n (x.vi l)) g n x l:=by
 have hn1:n<S1.names:=by rw[hm.names];exact hn
 have hl28:l.length≤28:=by rw[len];exact LI.need_le fair
 have hok:(x.vi l).ok:=LI.vi_ok fair hl28 fun s hs=>h.spot_small (lt s hs)
 have hkd:∀s,bk (S1.keep n (x.vi l)).cur (S.data+s)=bk S1.cur (S.data+s):=fun s=>by have:=keep_data hn1 (x.vi l) s;rw[hm.data]at this;exact this
 refine⟨hm.use.keep hn1 hl28,hm.names,hm.nb,fun m hmm=>?_,fair,len,lt,nodup,dis,fun j hj=>?_,fun m hmm e s hs=>?_,fun hk=>?_,fun hk=>?_,?_,?_,nodes⟩
 ·rw[keep_ino hm.use hn1 hok,hm.ino m hmm]
 ·rw[keep_bit];exact bits j hj
 ·rw[hkd];exact blk m hmm e s hs
 ·rw[←ents hk];(refine dirL_congr ?_ fun s _=>hkd s);(show x.size≤16*l.length);rw[len];unfold LI.size LI.need;rw[if_pos hk,if_pos hk];omega
 ·rw[←data hk];exact content_congr fun s _=>hkd s
 ·(show S1.wB-wghB (inoP S1.cur n).kind (inoP S1.cur n).size+wghB x.kind x.size=_);rw[hm.ino n hn,hm.wB,h.kind hn,h.size hn]
 show S1.wI-wghI (inoP S1.cur n).kind+wghI x.kind=_
 rw[hm.ino n hn,hm.wI,h.kind hn]
theorem Phys.others {S:VS} {g:LT} (h:Phys S g) {n:Nat} (hn:n<S.names):∀m<S.names,m≠n→∀s∈(inoP S.cur m).spots,s∉(inoP S.cur n).spots:=fun m hm e=>h.dis m hm n hn e
theorem Phys.bits2 {S:VS} {g:LT} (h:Phys S g) {n:Nat} (hn:n<S.names) {j:Nat} (hj:j<S.count):S.bit j=true↔j∈(inoP S.cur n).spots∨∃m<S.names,m≠n∧j∈(inoP S.cur m).spots:=by
 rw[h.bits j hj];constructor
 ·rintro⟨m,hm,h1⟩;by_cases e:m=n
  ·subst e;exact .inl h1
  exact .inr ⟨m,hm,e,h1⟩
 rintro(h1|⟨m,hm,_,h1⟩)
 ·exact⟨n,hn,h1⟩
 exact⟨m,hm,h1⟩
theorem dirL_same {c:Blks} {d:Nat} {x y:VI} (h1:x.size=y.size) (h2:x.spots=y.spots):dirL c d x=dirL c d y:=by unfold dirL entAt;rw[h1,h2]
theorem content_same {c:Blks} {d:Nat} {x y:VI} (h1:x.size=y.size) (h2:x.spots=y.spots):contentP c d x=contentP c d y:=by unfold contentP;rw[h1,h2]
theorem Phys.meta {S:VS} {g:LT} (h:Phys S g) {n:Nat} (hn:n<S.names) {x:LI} (hx:x.fair) (hk:x.kind=(g n).kind) (he:x.ents=(g n).ents) (hd:x.data=(g n).data):
  Phys (S.keep n (x.vi (inoP S.cur n).spots)) (updT g n x):=by
 have hs:x.size=(g n).size:=by unfold LI.size;rw[hk,he,hd]
 have hneed:x.need=(g n).need:=by unfold LI.need;rw[hk,he,hd]
 refine h.step hn (Step.keep h hn (Mid.refl h.use) hx (by rw[hneed];exact h.len n hn) (h.lt n hn) (h.nodup n hn) (h.others hn) (fun j hj=>h.bits2 hn hj) (fun _ _ _ _ _=>rfl) (fun k1=>?_) (fun k2=>?_) (by rw[he];omega))
 ·rw[he,←h.ents n hn (by rw[←hk];exact k1)];exact dirL_same (by rw[h.size hn];exact hs) rfl
 rw[hd,←h.data n hn (by rw[←hk];exact k2)];exact content_same (by rw[h.size hn];exact hs) rfl
theorem Phys.newFile {S:VS} {g:LT} (h:Phys S g) {n:Nat} (hn:n<S.names) (h0:(g n).kind=0) {mode links:Nat} (hm:mode<65536) (hl:links<65536):
  (inoP S.cur n).spots=[]∧Phys (S.keep n ⟨2,mode,links,0,[]⟩) (updT g n ⟨2,mode,links,[],[]⟩):=by
 have hz:(inoP S.cur n).spots=[]:=List.eq_nil_of_length_eq_zero (by rw[h.len n hn];unfold LI.need;rw[if_neg (by omega),if_neg (by omega)]);have he:(g n).ents=[]:=(h.fair n hn).ents (by omega);have hf:(⟨2,mode,links,[],[]⟩:LI).fair:=⟨Nat.le_refl 2,fun _=>rfl,fun e=>absurd rfl e,Nat.zero_le _,Nat.zero_le _,hm,hl,fun e he=>by cases he⟩;refine⟨hz,h.step (x:=⟨2,mode,links,[],[]⟩) (l:=[]) hn (Step.keep (x:=⟨2,mode,links,[],[]⟩) (l:=[]) h hn (Mid.refl h.use) hf (by simp[LI.need]) (fun s hs=>by cases hs) .nil (fun _ _ _ s _ hs=>by cases hs) (fun j hj=>?_) (fun _ _ _ _ _=>rfl) (fun k1=>by cases k1) (fun _=>rfl) (by rw[he];simp))⟩;rw[h.bits2 hn hj,hz]
end Go.Proofs.YteihmbaimbogaaaGreat
