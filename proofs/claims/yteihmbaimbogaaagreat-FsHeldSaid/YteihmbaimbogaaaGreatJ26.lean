/- FvD, laid together. -/
import Derived.Test.YteihmbaimbogaaaGreatJ25
namespace Go.Proofs.YteihmbaimbogaaaGreat
set_option linter.unusedVariables false
set_option linter.unusedSimpArgs false
def needN (g:LT) (n:Nat):Nat:=((List.range n).map fun i=>(g i).need).sum
theorem needN_succ (g:LT) (n:Nat):needN g (n+1)=needN g n+(g n).need:=by unfold needN;rw[List.range_succ,List.map_append,List.sum_append];simp
theorem needN_congr {g k:LT} {n:Nat} (h:∀i<n,(g i).need=(k i).need):needN g n=needN k n:=by
 induction n with
 |zero=>rfl
 |succ n ih=>rw[needN_succ,needN_succ,ih fun i hi=>h i (by omega),h n (by omega)]
theorem needN_upd {g:LT} {n k:Nat} (hk:k<n) (x:LI):needN (updT g k x) n+(g k).need=needN g n+x.need:=by
 induction n with
 |zero=>omega
 |succ n ih=>
  rw[needN_succ,needN_succ];by_cases e:k=n
  ·subst e;rw[updT_same,needN_congr (g:=updT g k x) (k:=g) fun i hi=>by rw[updT_ne _ _ (by omega)]];omega
  rw[updT_ne _ _ (fun h=>e h.symm)];have:=ih (by omega);omega
theorem Phys.used {S:VS} {g:LT} (h:Phys S g) (t:List Nat) (ht:∀j<S.count,S.bit j=true∨j∈t):S.count≤needN g S.names+t.length:=by
 have h1:∀n≤S.names,((List.range n).flatMap fun i=>(inoP S.cur i).spots).length=needN g n:=by
  intro n
  induction n with
  |zero=>intro _;rfl
  |succ n ih=>intro hn;rw[List.range_succ,List.flatMap_append,List.length_append,ih (by omega),needN_succ];simp only[List.flatMap_cons,List.flatMap_nil,List.append_nil];rw[h.len n (by omega)]
 have h2:(List.range S.count).length≤(((List.range S.names).flatMap fun i=>(inoP S.cur i).spots)++t).length:=List.Nodup.length_le_of_subset List.nodup_range fun j hj=>by
  have hj2:=List.mem_range.1 hj;rw[List.mem_append];rcases ht j hj2 with h3|h3
  ·obtain⟨n,hn,h4⟩:=(h.bits j hj2).1 h3;exact .inl (List.mem_flatMap.2 ⟨n,List.mem_range.2 hn,h4⟩)
  exact .inr h3
 rw[List.length_range,List.length_append,h1 _ (Nat.le_refl _)]at h2;exact h2
def LI.more (x:LI) (name:List UInt8) (n:Nat):LI:= {x with ents:=x.ents++[(name,n)]}
theorem LI.more_fair {x:LI} (h:x.fair) (hk:x.kind=1) {name:List UInt8} {n:Nat} (hl:x.ents.length<448) (hn:name.length≤15) (hm:n≤65535):(x.more name n).fair:=
 ⟨h.kind,fun e=>absurd hk e,h.data,by show(x.ents++[(name,n)]).length≤448;rw[List.length_append];simp;omega,h.short,h.mode,h.links,fun e he=>by
  rcases List.mem_append.1 he with he|he
  ·exact h.names e he
  rw[List.mem_singleton]at he;subst he;exact⟨hn,hm⟩⟩
theorem dir_need {x:LI} (hk:x.kind=1):x.need=max 1 ((x.ents.length+15)/16):=by unfold LI.need;rw[if_pos hk]
theorem dir_size {x:LI} (hk:x.kind=1):x.size=x.ents.length:=by unfold LI.size;rw[if_pos hk]
theorem Phys.spots_bit {S:VS} {g:LT} (h:Phys S g) {n:Nat} (hn:n<S.names) {s:Nat} (hs:s∈(inoP S.cur n).spots):S.bit s=true:=(h.bits s (h.lt n hn s hs)).2 ⟨n,hn,hs⟩
theorem used_bits {S S1:VS} {k:Nat} (h:Used S S1 k) (s:Nat):bk S1.cur (S.data+s)=bk S.cur (S.data+s):=h.blk _ (by unfold VS.data;omega)
theorem dirL_split {c:Blks} {d:Nat} {x:VI} {n:Nat} (h:x.size=n+1):dirL c d x=(List.range n).map (fun i=>(enN (entAt c d x i),enI (entAt c d x i)))++[(enN (entAt c d x n),enI (entAt c d x n))]:=by unfold dirL;rw[h,List.range_succ,List.map_append];rfl
theorem dirL_map {c:Blks} {d:Nat} {x:VI} {L:Ents} (h:dirL c d x=L):L=(List.range x.size).map fun i=>(enN (entAt c d x i),enI (entAt c d x i)):=h.symm
theorem getD_append {l t:List Nat} {a:Nat} (h:a<l.length):(l++t).getD a 0=l.getD a 0:=by rw[gH,gH,List.getElem?_append_left h]
theorem Phys.enter {S:VS} {g:LT} (h:Phys S g) {dir n:Nat} {name:List UInt8} (hd:dir<S.names) (hk:(g dir).kind=1) (hsz:(g dir).ents.length<448) (hname:name.length≤15) (hn:n≤65535):
  (∀S1,enterP S dir name n=some S1→Phys S1 (updT g dir ((g dir).more name n)))∧
  (enterP S dir name n=none→S.count<needN (updT g dir ((g dir).more name n)) S.names):=by
 have hx:=h.head dir hd;have hsize:(inoP S.cur dir).size=(g dir).ents.length:=by rw[h.size hd,dir_size hk]
 have hlen:(inoP S.cur dir).spots.length=max 1 (((g dir).ents.length+15)/16):=by rw[h.len dir hd,dir_need hk]
 obtain⟨L,hL⟩:∃L,L=(g dir).ents.length:=⟨_,rfl⟩;rw[←hL]at hsize hlen hsz;obtain⟨sp,hsp⟩:∃sp,sp=(inoP S.cur dir).spots:=⟨_,rfl⟩;rw[←hsp]at hlen;have hfair:=LI.more_fair (h.fair dir hd) hk (by omega) hname hn;have hneed:((g dir).more name n).need=(L+16)/16:=by rw[dir_need (show((g dir).more name n).kind=1 from hk)];(show max 1 ((((g dir).ents++[(name,n)]).length+15)/16)=_);rw[List.length_append,←hL];simp only[List.length_singleton];omega
 have hu0:UseOk (S.node (S.nodes+1)):=(Mid.node h.use _).use;obtain⟨f1,f2⟩:=fit_more (S:=S.node (S.nodes+1)) (l:=sp) (n:=(L+16)/16) hu0 (by omega);have he:enterP S dir name n=(match fitP (S.node (S.nodes+1)) sp ((L+16)/16)with
  |none=>none
  |some (S1,l)=>some ((S1.keep dir {inoP S.cur dir with size:=L+1,spots:=l}).setE (l.getD (L/16) 0) L name n)):=by
  unfold enterP
  rw[hsize,←hsp]
  rfl
 rw[he];cases hf:fitP (S.node (S.nodes+1)) sp ((L+16)/16)with
 |none=>refine⟨fun S1 e=>(by cases e),fun _=>?_⟩;obtain⟨t,ht1,ht2⟩:=f2 hf;have h1:=h.used t ht2;have h2:=needN_upd hd ((g dir).more name n) (g:=g);rw[hneed,dir_need hk,←hL]at h2;omega
 |some r=>
  obtain⟨S1,l⟩:=r;obtain⟨hu1,t,hl,htl,htn,htb,hbit⟩:=f1 S1 l hf;have hus:=(fitP_used hf).1;refine⟨fun S2 e=>?_,fun e=>(by cases e)⟩;cases e;have hm1:Mid S S1:=(Mid.node h.use _).trans (Mid.used hus hu1);(have hd1:dir<S1.names:=by rw[hm1.names];exact hd);rw[keep_setE S1 hd1];(have hll:l.length=(L+16)/16:=by rw[hl,List.length_append,htl];omega);have hlt:∀s∈l,s<S.count:=fun s hs=>by
   rw[hl]at hs;rcases List.mem_append.1 hs with hs|hs
   ·exact h.lt dir hd s (by rw[←hsp];exact hs)
   exact(htb s hs).1
  (have htS:∀s∈t,S.bit s=false:=fun s hs=>(htb s hs).2);(have hnd:l.Nodup:=by rw[hl,List.nodup_append];refine⟨by rw[hsp];exact h.nodup dir hd,htn,fun a ha b hb e=>?_⟩;subst e;have h1:=h.spots_bit hd (by rw[←hsp];exact ha);rw[htS a hb]at h1;cases h1);have hdis:∀m<S.names,m≠dir→∀s∈(inoP S.cur m).spots,s∉l:=fun m hmm e s hs hs2=>by
   rw[hl]at hs2;rcases List.mem_append.1 hs2 with hs2|hs2
   ·exact h.others hd m hmm e s hs (by rw[←hsp];exact hs2)
   have h1:=h.spots_bit hmm hs;rw[htS s hs2]at h1;cases h1
  have hsl:l.getD (L/16) 0∈l:=getD_mem (by omega);(have hs1:l.getD (L/16) 0<S1.count:=by rw[hm1.count];exact hlt _ hsl);have hm2:Mid S (S1.setE (l.getD (L/16) 0) L name n):=hm1.trans (Mid.laid (Laid.setE S1 _ _ _ _) (hu1.setE hs1 _ _ hname));(have hy:({inoP S.cur dir with size:=L+1,spots:=l}:VI)=((g dir).more name n).vi l:=by rw[hx];unfold LI.vi LI.more;simp only[VI.mk.injEq,true_and,and_true];unfold LI.size;rw[if_pos hk];simp only[List.length_append,List.length_singleton];omega);rw[hy];(have hd16:∀k,k<16*l.length→∀x:VI,x.spots=l→entAt (S1.setE (l.getD (L/16) 0) L name n).cur S.data x k=if k=L then entE name n else entAt S1.cur S.data x k:=fun k hk2 x hxl=>by have:=setE_ent (S:=S1) hu1 (x:=x) (by rw[hxl];exact hnd) (i:=L) (k:=k) (n:=n) (name:=name) (by rw[hxl];omega) (by rw[hxl];exact hk2) (by rw[hxl,hm1.count];exact hlt) hname;rw[hxl,hm1.data]at this;exact this);refine h.step hd (Step.keep h hd hm2 hfair (by rw[hneed];exact hll) hlt hnd hdis (fun j hj=>?_) (fun m hmm e s hs=>?_) (fun _=>?_) (fun k2=>?_) ?_)
  ·rw[setE_bit hu1,hbit];have hb2:=h.bits2 hd hj;rw[←hsp]at hb2;(show((S.bit j||decide (j∈t))=true)↔_);rw[Bool.or_eq_true,hb2,hl,List.mem_append,decide_eq_true_eq];constructor
   ·rintro((h1|h1)|h1)
    ·exact .inl (.inl h1)
    ·exact .inr h1
    exact .inl (.inr h1)
   rintro((h1|h1)|h1)
   ·exact .inl (.inl h1)
   ·exact .inr h1
   exact .inl (.inr h1)
  ·(have hne:s≠l.getD (L/16) 0:=fun e2=>hdis m hmm e s hs (by rw[e2];exact hsl));have:=setE_blk S1 (s:=l.getD (L/16) 0) (t:=s) L name n hne;rw[hm1.data]at this;rw[this];exact used_bits hus s
  ·rw[dirL_split (n:=L) (by show((g dir).more name n).size=_;unfold LI.size;rw[if_pos (by exact hk)];show((g dir).ents++[(name,n)]).length=_;rw[List.length_append,←hL];rfl)];(have e1:(g dir).ents=(List.range L).map fun i=>(enN (entAt S.cur S.data (inoP S.cur dir) i),enI (entAt S.cur S.data (inoP S.cur dir) i)):=by have:=dirL_map (h.ents dir hd hk);rw[hsize]at this;exact this);(show _=(g dir).ents++[(name,n)]);rw[e1];congr 1
   ·(refine List.map_congr_left fun i hi=>?_);have hi2:=List.mem_range.1 hi;(have hi3:i/16<sp.length:=by omega);rw[hd16 i (by omega) _ rfl,if_neg (by omega)];(have e2:entAt S1.cur S.data (((g dir).more name n).vi l) i=entAt S.cur S.data (inoP S.cur dir) i:=by unfold entAt;(show entB (bk S1.cur (S.data+l.getD (i/16) 0)) i=_);have eb:bk S1.cur (S.data+sp.getD (i/16) 0)=bk S.cur (S.data+sp.getD (i/16) 0):=used_bits hus _;rw[hl,getD_append hi3,eb,hsp]);rw[e2]
   rw[hd16 L (by omega) _ rfl,if_pos rfl,enN_entE hname,enI_entE hname hn]
  ·exact absurd (show(g dir).kind=2 from k2) (by omega)
  (show S1.nodes=S.nodes-(g dir).ents.length+(((g dir).ents++[(name,n)]).length:Nat));rw[hus.nodes,List.length_append];(show S.nodes+1=_);simp only[List.length_singleton];omega
end Go.Proofs.YteihmbaimbogaaaGreat
