/- FvB, FvC, FvD, laid together. -/
import Derived.Test.YteihmbaimbogaaaGreatJ23
namespace Go.Proofs.YteihmbaimbogaaaGreat
set_option linter.unusedVariables false
set_option linter.unusedSimpArgs false
structure LI where
 kind:Nat
 mode:Nat
 links:Nat
 aY:qZ
 data:List UInt8
def LI.size (x:LI):Nat:=if x.kind=1 then x.aY.length else x.data.length
def LI.need (x:LI):Nat:=if x.kind=1 then max 1 ((x.aY.length+15)/16)else if x.kind=2 then(x.data.length+511)/512 else 0
def LI0 :LI:=⟨0,0,0,[],[]⟩
abbrev LT :=Nat→LI
def dO (g:LT) (n:Nat) (x:LI):LT:=fun i=>if i=n then x else g i
theorem dQ (g:LT) (n:Nat) (x:LI):dO g n x n=x:=if_pos rfl
theorem eU (g:LT) {n i:Nat} (x:LI) (h:i≠n):dO g n x i=g i:=if_neg h
structure LI.fair (x:LI):Prop where
 kind:x.kind≤2
 aY:x.kind≠1→x.aY=[]
 data:x.kind≠2→x.data=[]
 few:x.aY.length≤448
 short:x.data.length≤8192
 mode:x.mode<65536
 links:x.links<65536
 names:∀e∈x.aY,e.1.length≤15∧e.2≤65535
def LI.vi (x:LI) (l:List Nat):VI:=⟨x.kind,x.mode,x.links,x.size,l⟩
theorem LI.YN {x:LI} (h:x.fair):x.need≤28:=by
 unfold LI.need;have:=h.few;have:=h.short;split
 ·omega
 split<;>omega
theorem LI.size_le {x:LI} (h:x.fair):x.size≤8192:=by unfold LI.size;have:=h.few;have:=h.short;split<;>omega
structure bI (S:VS) (g:LT):Prop where
 use:dB S
 n0:0<S.names
 fair:∀n<S.names,(g n).fair
 head:∀n<S.names,aF S.cur n=(g n).vi (aF S.cur n).aB
 len:∀n<S.names,(aF S.cur n).aB.length=(g n).need
 lt:∀n<S.names,∀s∈(aF S.cur n).aB,s<S.count
 nodup:∀n<S.names,(aF S.cur n).aB.Nodup
 dis:∀n<S.names,∀m<S.names,n≠m→∀s∈(aF S.cur n).aB,s∉(aF S.cur m).aB
 bits:∀j<S.count,S.bit j=true↔∃n<S.names,j∈(aF S.cur n).aB
 aY:∀n<S.names,(g n).kind=1→iJ S.cur S.data (aF S.cur n)=(g n).aY
 data:∀n<S.names,(g n).kind=2→jR S.cur S.data (aF S.cur n)=(g n).data
 wB:S.wB=pO (fun n=>eO (g n).kind (g n).size) S.names
 wI:S.wI=pO (fun n=>kT (g n).kind) S.names
 nodes:S.nodes=pO (fun n=>((g n).aY.length:Int)) S.names
theorem RO {c c':dW} {d:Nat} {l:List Nat} (h:∀s∈l,bk c' (d+s)=bk c (d+s)):GI c' d l=GI c d l:=by
 unfold GI
 induction l with
 |nil=>rfl
 |cons s l ih=>rw[List.flatMap_cons,List.flatMap_cons,h s (List.mem_cons_self ..),ih fun t ht=>h t (List.mem_cons_of_mem _ ht)]
theorem rC {c c':dW} {d:Nat} {x:VI} (h:∀s∈x.aB,bk c' (d+s)=bk c (d+s)):jR c' d x=jR c d x:=by unfold jR;rw[RO h]
theorem RP {c c':dW} {d:Nat} {x:VI} {i:Nat} (hi:i<16*x.aB.length) (h:∀s∈x.aB,bk c' (d+s)=bk c (d+s)):eX c' d x i=eX c d x i:=by
 unfold eX;have hk:i/16<x.aB.length:=by omega
 rw[h _ (by rw[gH,gE hk];exact List.getElem_mem hk)]
theorem yO {c c':dW} {d:Nat} {x:VI} (hs:x.size≤16*x.aB.length) (h:∀s∈x.aB,bk c' (d+s)=bk c (d+s)):iJ c' d x=iJ c d x:=by
 unfold iJ;refine List.map_congr_left fun i hi=>?_
 rw[RP (by have:=List.mem_range.1 hi;omega) h]
theorem bI.few {S:VS} {g:LT} (h:bI S g) {n:Nat} (hn:n<S.names):(aF S.cur n).aB.length≤28:=by rw[h.len n hn];exact LI.YN (h.fair n hn)
theorem bI.size {S:VS} {g:LT} (h:bI S g) {n:Nat} (hn:n<S.names):(aF S.cur n).size=(g n).size:=by rw[h.head n hn];rfl
theorem bI.kind {S:VS} {g:LT} (h:bI S g) {n:Nat} (hn:n<S.names):(aF S.cur n).kind=(g n).kind:=by rw[h.head n hn];rfl
theorem bI.OQ {S:VS} {g:LT} (h:bI S g) {n:Nat} (hn:n<S.names) (hk:(g n).kind=1):(aF S.cur n).size≤16*(aF S.cur n).aB.length:=by rw[h.size hn,h.len n hn];unfold LI.size LI.need;rw[if_pos hk,if_pos hk];omega
structure Step (S S':VS) (g:LT) (n:Nat) (x:LI) (l:List Nat):Prop where
 use:dB S'
 names:S'.names=S.names
 nb:S'.nb=S.nb
 ino:∀m<S.names,aF S'.cur m=if m=n then x.vi l else aF S.cur m
 fair:x.fair
 len:l.length=x.need
 lt:∀s∈l,s<S.count
 nodup:l.Nodup
 dis:∀m<S.names,m≠n→∀s∈(aF S.cur m).aB,s∉l
 bits:∀j<S.count,S'.bit j=true↔j∈l∨∃m<S.names,m≠n∧j∈(aF S.cur m).aB
 blk:∀m<S.names,m≠n→∀s∈(aF S.cur m).aB,bk S'.cur (S.data+s)=bk S.cur (S.data+s)
 aY:x.kind=1→iJ S'.cur S.data (x.vi l)=x.aY
 data:x.kind=2→jR S'.cur S.data (x.vi l)=x.data
 wB:S'.wB=S.wB-eO (g n).kind (g n).size+eO x.kind x.size
 wI:S'.wI=S.wI-kT (g n).kind+kT x.kind
 nodes:S'.nodes=S.nodes-(g n).aY.length+x.aY.length
theorem bI.step {S S':VS} {g:LT} {n:Nat} {x:LI} {l:List Nat} (h:bI S g) (hn:n<S.names) (st:Step S S' g n x l):bI S' (dO g n x):=by
 have hd:S'.data=S.data:=by unfold VS.data;rw[st.names]
 have hc:S'.count=S.count:=by unfold VS.count;rw[hd,st.nb]
 have hin:aF S'.cur n=x.vi l:=by rw[st.ino n hn,if_pos rfl]
 have qJ:∀m,m<S.names→m≠n→aF S'.cur m=aF S.cur m:=fun m hm e=>by rw[st.ino m hm,if_neg e]
 refine⟨st.use,by rw[st.names];exact h.n0,?_,?_,?_,?_,?_,?_,?_,?_,?_,?_,?_,?_⟩<;>rw[st.names]at*
 ·intro m hm;by_cases e:m=n
  ·rw[e,dQ];exact st.fair
  rw[eU _ _ e];exact h.fair m hm
 ·intro m hm;by_cases e:m=n
  ·rw[e,dQ,hin];rfl
  rw[eU _ _ e,qJ m hm e];exact h.head m hm
 ·intro m hm;by_cases e:m=n
  ·rw[e,dQ,hin];exact st.len
  rw[eU _ _ e,qJ m hm e];exact h.len m hm
 ·intro m hm;rw[hc];by_cases e:m=n
  ·rw[e,hin];exact st.lt
  rw[qJ m hm e];exact h.lt m hm
 ·intro m hm;by_cases e:m=n
  ·rw[e,hin];exact st.nodup
  rw[qJ m hm e];exact h.nodup m hm
 ·intro m hm k hk hmk;by_cases e:m=n
  ·subst e;rw[hin,qJ k hk (fun e=>hmk e.symm)];intro s hs hs2;exact st.dis k hk (fun e=>hmk e.symm) s hs2 hs
  rw[qJ m hm e];by_cases e2:k=n
  ·subst e2;rw[hin];exact st.dis m hm e
  rw[qJ k hk e2];exact h.dis m hm k hk hmk
 ·intro j hj;rw[hc]at hj;rw[st.bits j hj];constructor
  ·rintro(h1|⟨m,hm,e,h1⟩)
   ·exact⟨n,hn,by rw[hin];exact h1⟩
   exact⟨m,hm,by rw[qJ m hm e];exact h1⟩
  rintro⟨m,hm,h1⟩;by_cases e:m=n
  ·subst e;rw[hin]at h1;exact .inl h1
  rw[qJ m hm e]at h1;exact .inr ⟨m,hm,e,h1⟩
 ·intro m hm hk;rw[hd];by_cases e:m=n
  ·subst e;rw[dQ]at hk ⊢;rw[hin];exact st.aY hk
  rw[eU _ _ e]at hk ⊢;rw[qJ m hm e,yO (h.OQ hm hk) (st.blk m hm e)];exact h.aY m hm hk
 ·intro m hm hk;rw[hd];by_cases e:m=n
  ·subst e;rw[dQ]at hk ⊢;rw[hin];exact st.data hk
  rw[eU _ _ e]at hk ⊢;rw[qJ m hm e,rC (st.blk m hm e)];exact h.data m hm hk
 ·rw[st.wB,h.wB,vM (f:=fun n=>eO (g n).kind (g n).size) (g:=fun i=>eO (dO g n x i).kind (dO g n x i).size) hn fun i _ e=>by rw[eU _ _ e]];simp only[dQ]
 ·rw[st.wI,h.wI,vM (f:=fun n=>kT (g n).kind) (g:=fun i=>kT (dO g n x i).kind) hn fun i _ e=>by rw[eU _ _ e]];simp only[dQ]
 rw[st.nodes,h.nodes,vM (f:=fun n=>((g n).aY.length:Int)) (g:=fun i=>((dO g n x i).aY.length:Int)) hn fun i _ e=>by rw[eU _ _ e]];simp only[dQ]
theorem dB.tab {S:VS} (h:dB S) {n:Nat} (hn:n<S.names):2+n/8<S.nb-96:=by have:=h.vf.room;unfold VS.data at this;omega
theorem dB.keep {S:VS} (h:dB S) {n:Nat} (hn:n<S.names) {x:VI} (hx:x.aB.length≤28):dB (S.keep n x):=
 ⟨aeM h.cur (h.tab hn) hx,⟨h.vf.names,h.vf.room⟩,h.nb⟩
theorem vN (c:dW) {n k:Nat} (x:VI) (h:k≠2+n/8):bk (o8 c n x) k=bk c k:=bR c _ h
theorem aeU (S:VS) (n:Nat) (x:VI) (j:Nat):(S.keep n x).bit j=S.bit j:=by
 show l6 (bk (o8 S.cur n x) 1) j=_
 rw[vN _ _ (by omega)];rfl
theorem aaN {S:VS} {n:Nat} (hn:n<S.names) (x:VI) (s:Nat):bk (S.keep n x).cur (S.data+s)=bk S.cur (S.data+s):=
 vN _ _ (by unfold VS.data;omega)
theorem aeV {S:VS} (h:dB S) {n:Nat} (hn:n<S.names) {x:VI} (hx:x.ok) (m:Nat):aF (S.keep n x).cur m=if m=n then x else aF S.cur m:=
 aaF h.cur (h.tab hn) hx m
theorem LI.aq8 {x:LI} (h:x.fair) {l:List Nat} (hl:l.length≤28) (h2:∀s∈l,s<65536):(x.vi l).ok:=
 ⟨by have:=h.kind;unfold LI.vi;simp only;omega,h.mode,h.links,by have:=LI.size_le h;unfold LI.vi;simp only;omega,hl,h2⟩
theorem bI.IC {S:VS} {g:LT} (h:bI S g) {s:Nat} (hs:s<S.count):s<65536:=by have:=h.use.nb;unfold VS.count at hs;omega
theorem zU {name:List UInt8} {n:Nat} (h:name.length≤15) (k:Nat):(uT name n)[k]? =if 16≤k∧k<18 then(w2 n)[k-16]? else if 1≤k∧k<1+name.length then name[k-1]? else((List.replicate 32 (0:UInt8)).set 0 (UInt8.ofNat name.length))[k]? :=by
 unfold uT;rw[pG (by rw[dL (by simp;omega)];simp[nV]),nV];by_cases h1:16≤k∧k<16+2
 ·rw[if_pos h1,if_pos (by omega)]
 rw[if_neg h1,if_neg (by omega),pG (by simp;omega)]
theorem aaO {name:List UInt8} {n:Nat} (h:name.length≤15):((uT name n).getD 0 0).toNat=name.length:=by rw[gH,zU h,if_neg (by omega),if_neg (by omega),List.getElem?_set_self (by simp),Option.getD_some,qQ];omega
theorem RQ {name:List UInt8} {n:Nat} (h:name.length≤15):YC (uT name n)=name:=by
 unfold YC;rw[aaO h];apply List.ext_getElem?;intro k;rw[List.getElem?_take];by_cases hk:k<name.length
 ·rw[if_pos hk,List.getElem?_drop,zU h,if_neg (by omega),if_pos (by omega),Nat.add_sub_cancel_left]
 rw[if_neg hk,List.getElem?_eq_none (by omega)]
theorem RS {name:List UInt8} {n:Nat} (h:name.length≤15) (hn:n≤65535):YD (uT name n)=n:=by
 unfold YD r2;rw[gH,gH,zU h,zU h,if_pos (by omega),if_pos (by omega)];show(UInt8.ofNat n).toNat+256*(UInt8.ofNat (n/256)).toNat=n
 rw[qQ,qQ];omega
theorem aeW {b e:List UInt8} {i k:Nat} (hb:b.length=512) (he:e.length=32):uS (bW b (i%16*32) e) k=if k%16=i%16 then e else uS b k:=by
 have hr:i%16*32+e.length≤b.length:=by omega
 unfold uS;by_cases hk:k%16=i%16
 ·rw[if_pos hk,hk];have:=MG hr;rw[he]at this;exact this
 rw[if_neg hk];apply List.ext_getElem?;intro t;rw[List.getElem?_take,List.getElem?_take];by_cases ht:t<32
 ·rw[if_pos ht,if_pos ht,List.getElem?_drop,List.getElem?_drop,pG hr,he,if_neg (by omega)]
 rw[if_neg ht,if_neg ht]
theorem dB.room {S:VS} (h:dB S) {s:Nat} (hs:s<S.count):S.data+s<S.nb-96:=by unfold VS.count at hs;omega
theorem dB.fE {S:VS} (h:dB S) {s:Nat} (hs:s<S.count) (i:Nat) {name:List UInt8} (n:Nat) (hn:name.length≤15):dB (S.fE s i name n):=
 h.put _ (by have hl:=iL h.cur (h.room hs);rw[dL (by rw[hl,GK hn];omega),hl])
theorem IE {S:VS} (h:dB S) (s i:Nat) (name:List UInt8) (n j:Nat):(S.fE s i name n).bit j=S.bit j:=by
 show l6 (bk (S.cur.set (S.data+s) _) 1) j=_
 rw[bR _ _ (by unfold VS.data;omega)];rfl
theorem zV (S:VS) {s t:Nat} (i:Nat) (name:List UInt8) (n:Nat) (h:t≠s):bk (S.fE s i name n).cur (S.data+t)=bk S.cur (S.data+t):=bR _ _ (by omega)
theorem getD_inj {l:List Nat} (h:l.Nodup) {a b:Nat} (ha:a<l.length) (hb:b<l.length) (e:l.getD a 0=l.getD b 0):a=b:=by
 rw[gH,gH,gE ha,gE hb]at e;simp only[Option.getD_some]at e;have hp:=List.pairwise_iff_getElem.1 h;rcases Nat.lt_trichotomy a b with h1|h1|h1
 ·exact absurd e (hp a b ha hb h1)
 ·exact h1
 exact absurd e.symm (hp b a hb ha h1)
theorem pQ {l:List Nat} {a:Nat} (ha:a<l.length):l.getD a 0∈l:=by rw[gH,gE ha];exact List.getElem_mem ha
theorem IG {S:VS} (h:dB S) {x:VI} (hx:x.aB.Nodup) {i k n:Nat} {name:List UInt8} (hi:i<16*x.aB.length) (hk:k<16*x.aB.length) (hlt:∀s∈x.aB,s<S.count) (hn:name.length≤15):
  eX (S.fE (x.aB.getD (i/16) 0) i name n).cur S.data x k=if k=i then uT name n else eX S.cur S.data x k:=by
 have hi2:i/16<x.aB.length:=by omega
 have hk2:k/16<x.aB.length:=by omega
 have hs:=hlt _ (pQ hi2);have hl:=iL h.cur (h.room hs);unfold eX;by_cases e:k/16=i/16
 ·rw[e];(show uS (bk (S.cur.set _ _) _) k=_);rw[vC _ _ _ _ (by rw[h.cur.len];exact h.room hs),if_pos rfl,aeW hl (GK hn)];by_cases e2:k%16=i%16
  ·rw[if_pos e2,if_pos (by omega)]
  rw[if_neg e2,if_neg (by omega)]
 rw[zV _ _ _ _ (fun e2=>e (getD_inj hx hk2 hi2 e2)),if_neg (by omega)]
theorem aaP (S:VS) {n:Nat} (hn:n<S.names) (y:VI) (s i:Nat) (name:List UInt8) (k:Nat):(S.keep n y).fE s i name k=(S.fE s i name k).keep n y:=by
 have hne:2+n/8≠S.data+s:=by unfold VS.data;omega
 have e1:bk (o8 S.cur n y) (S.data+s)=bk S.cur (S.data+s):=vN _ _ (fun e=>hne e.symm);have e2:aF (S.fE s i name k).cur n=aF S.cur n:=(Laid.fE S s i name k).ino hn;have e3:bk (S.fE s i name k).cur (2+n/8)=bk S.cur (2+n/8):=(Laid.fE S s i name k).blk _ (by unfold VS.data;omega);have h1:((S.keep n y).fE s i name k).cur=((S.fE s i name k).keep n y).cur:=by(show(o8 S.cur n y).set (S.data+s) (bW (bk (o8 S.cur n y) (S.data+s)) _ _)=o8 (S.fE s i name k).cur n y);rw[e1];unfold o8;rw[e3];exact List.set_comm _ _ hne
 have h2:((S.keep n y).fE s i name k).wB=((S.fE s i name k).keep n y).wB:=by(show S.wB-eO (aF S.cur n).kind (aF S.cur n).size+eO y.kind y.size=S.wB-eO (aF (S.fE s i name k).cur n).kind (aF (S.fE s i name k).cur n).size+eO y.kind y.size);rw[e2]
 have h3:((S.keep n y).fE s i name k).wI=((S.fE s i name k).keep n y).wI:=by(show S.wI-kT (aF S.cur n).kind+kT y.kind=S.wI-kT (aF (S.fE s i name k).cur n).kind+kT y.kind);rw[e2]
 have:∀(a b:VS),a.nb=b.nb→a.names=b.names→a.D=b.D→a.cur=b.cur→a.wB=b.wB→a.wI=b.wI→a.nodes=b.nodes→a.rB=b.rB→a.rI=b.rI→a.m=b.m→a=b:=fun a b=>by cases a;cases b;simp only[VS.mk.injEq];intros;simp_all
 exact this _ _ rfl rfl rfl h1 h2 h3 rfl rfl rfl rfl
structure Mid (S S1:VS):Prop where
 use:dB S1
 names:S1.names=S.names
 nb:S1.nb=S.nb
 ino:∀m<S.names,aF S1.cur m=aF S.cur m
 wB:S1.wB=S.wB
 wI:S1.wI=S.wI
theorem Mid.data {S S1:VS} (h:Mid S S1):S1.data=S.data:=by unfold VS.data;rw[h.names]
theorem Mid.count {S S1:VS} (h:Mid S S1):S1.count=S.count:=by unfold VS.count;rw[h.data,h.nb]
theorem Mid.used {S S1:VS} {k:Nat} (h:Used S S1 k) (hu:dB S1):Mid S S1:=⟨hu,h.names,h.nb,fun m _=>h.ino m,h.wB,h.wI⟩
theorem Mid.laid {S S1:VS} {k:Nat} (h:Laid S S1 k) (hu:dB S1):Mid S S1:=⟨hu,h.like.names,h.like.nb,fun m hm=>h.ino hm,h.wB,h.wI⟩
theorem Mid.trans {S T U:VS} (h:Mid S T) (g:Mid T U):Mid S U:=⟨g.use,g.names.trans h.names,g.nb.trans h.nb,fun m hm=>(g.ino m (by rw[h.names];exact hm)).trans (h.ino m hm),g.wB.trans h.wB,g.wI.trans h.wI⟩
theorem Mid.refl {S:VS} (h:dB S):Mid S S:=⟨h,rfl,rfl,fun _ _=>rfl,rfl,rfl⟩
theorem Mid.node {S:VS} (h:dB S) (z:Int):Mid S (S.node z):=⟨⟨h.cur,⟨h.vf.names,h.vf.room⟩,h.nb⟩,rfl,rfl,fun _ _=>rfl,rfl,rfl⟩
theorem Step.keep {S S1:VS} {g:LT} {n:Nat} {x:LI} {l:List Nat} (h:bI S g) (hn:n<S.names) (hm:Mid S S1) (fair:x.fair) (len:l.length=x.need) (lt:∀s∈l,s<S.count) (nodup:l.Nodup)
  (dis:∀m<S.names,m≠n→∀s∈(aF S.cur m).aB,s∉l) (bits:∀j<S.count,S1.bit j=true↔j∈l∨∃m<S.names,m≠n∧j∈(aF S.cur m).aB)
  (blk:∀m<S.names,m≠n→∀s∈(aF S.cur m).aB,bk S1.cur (S.data+s)=bk S.cur (S.data+s))
  (aY:x.kind=1→iJ S1.cur S.data (x.vi l)=x.aY) (data:x.kind=2→jR S1.cur S.data (x.vi l)=x.data) (nodes:S1.nodes=S.nodes-(g n).aY.length+x.aY.length):
  Step S (S1.keep n (x.vi l)) g n x l:=by
 have hn1:n<S1.names:=by rw[hm.names];exact hn
 have aq9:l.length≤28:=by rw[len];exact LI.YN fair
 have hok:(x.vi l).ok:=LI.aq8 fair aq9 fun s hs=>h.IC (lt s hs)
 have hkd:∀s,bk (S1.keep n (x.vi l)).cur (S.data+s)=bk S1.cur (S.data+s):=fun s=>by have:=aaN hn1 (x.vi l) s;rw[hm.data]at this;exact this
 refine⟨hm.use.keep hn1 aq9,hm.names,hm.nb,fun m hmm=>?_,fair,len,lt,nodup,dis,fun j hj=>?_,fun m hmm e s hs=>?_,fun hk=>?_,fun hk=>?_,?_,?_,nodes⟩
 ·rw[aeV hm.use hn1 hok,hm.ino m hmm]
 ·rw[aeU];exact bits j hj
 ·rw[hkd];exact blk m hmm e s hs
 ·rw[←aY hk];(refine yO ?_ fun s _=>hkd s);(show x.size≤16*l.length);rw[len];unfold LI.size LI.need;rw[if_pos hk,if_pos hk];omega
 ·rw[←data hk];exact rC fun s _=>hkd s
 ·(show S1.wB-eO (aF S1.cur n).kind (aF S1.cur n).size+eO x.kind x.size=_);rw[hm.ino n hn,hm.wB,h.kind hn,h.size hn]
 show S1.wI-kT (aF S1.cur n).kind+kT x.kind=_
 rw[hm.ino n hn,hm.wI,h.kind hn]
theorem bI.others {S:VS} {g:LT} (h:bI S g) {n:Nat} (hn:n<S.names):∀m<S.names,m≠n→∀s∈(aF S.cur m).aB,s∉(aF S.cur n).aB:=fun m hm e=>h.dis m hm n hn e
theorem bI.RU {S:VS} {g:LT} (h:bI S g) {n:Nat} (hn:n<S.names) {j:Nat} (hj:j<S.count):S.bit j=true↔j∈(aF S.cur n).aB∨∃m<S.names,m≠n∧j∈(aF S.cur m).aB:=by
 rw[h.bits j hj];constructor
 ·rintro⟨m,hm,h1⟩;by_cases e:m=n
  ·subst e;exact .inl h1
  exact .inr ⟨m,hm,e,h1⟩
 rintro(h1|⟨m,hm,_,h1⟩)
 ·exact⟨n,hn,h1⟩
 exact⟨m,hm,h1⟩
theorem aaQ {c:dW} {d:Nat} {x y:VI} (h1:x.size=y.size) (h2:x.aB=y.aB):iJ c d x=iJ c d y:=by unfold iJ eX;rw[h1,h2]
theorem OT {c:dW} {d:Nat} {x y:VI} (h1:x.size=y.size) (h2:x.aB=y.aB):jR c d x=jR c d y:=by unfold jR;rw[h1,h2]
theorem bI.meta {S:VS} {g:LT} (h:bI S g) {n:Nat} (hn:n<S.names) {x:LI} (hx:x.fair) (hk:x.kind=(g n).kind) (he:x.aY=(g n).aY) (hd:x.data=(g n).data):
  bI (S.keep n (x.vi (aF S.cur n).aB)) (dO g n x):=by
 have hs:x.size=(g n).size:=by unfold LI.size;rw[hk,he,hd]
 have zW:x.need=(g n).need:=by unfold LI.need;rw[hk,he,hd]
 refine h.step hn (Step.keep h hn (Mid.refl h.use) hx (by rw[zW];exact h.len n hn) (h.lt n hn) (h.nodup n hn) (h.others hn) (fun j hj=>h.RU hn hj) (fun _ _ _ _ _=>rfl) (fun k1=>?_) (fun k2=>?_) (by rw[he];omega))
 ·rw[he,←h.aY n hn (by rw[←hk];exact k1)];exact aaQ (by rw[h.size hn];exact hs) rfl
 rw[hd,←h.data n hn (by rw[←hk];exact k2)];exact OT (by rw[h.size hn];exact hs) rfl
theorem bI.ajM {S:VS} {g:LT} (h:bI S g) {n:Nat} (hn:n<S.names) (h0:(g n).kind=0) {mode links:Nat} (hm:mode<65536) (hl:links<65536):
  (aF S.cur n).aB=[]∧bI (S.keep n ⟨2,mode,links,0,[]⟩) (dO g n ⟨2,mode,links,[],[]⟩):=by
 have hz:(aF S.cur n).aB=[]:=List.eq_nil_of_length_eq_zero (by rw[h.len n hn];unfold LI.need;rw[if_neg (by omega),if_neg (by omega)]);have he:(g n).aY=[]:=(h.fair n hn).aY (by omega);have hf:(⟨2,mode,links,[],[]⟩:LI).fair:=⟨Nat.le_refl 2,fun _=>rfl,fun e=>absurd rfl e,Nat.zero_le _,Nat.zero_le _,hm,hl,fun e he=>by cases he⟩;refine⟨hz,h.step (x:=⟨2,mode,links,[],[]⟩) (l:=[]) hn (Step.keep (x:=⟨2,mode,links,[],[]⟩) (l:=[]) h hn (Mid.refl h.use) hf (by simp[LI.need]) (fun s hs=>by cases hs) .nil (fun _ _ _ s _ hs=>by cases hs) (fun j hj=>?_) (fun _ _ _ _ _=>rfl) (fun k1=>by cases k1) (fun _=>rfl) (by rw[he];simp))⟩;rw[h.RU hn hj,hz]
def lS (g:LT) (n:Nat):Nat:=((List.range n).map fun i=>(g i).need).sum
theorem nC (g:LT) (n:Nat):lS g (n+1)=lS g n+(g n).need:=by unfold lS;rw[List.range_succ,List.map_append,List.sum_append];simp
theorem RV {g k:LT} {n:Nat} (h:∀i<n,(g i).need=(k i).need):lS g n=lS k n:=by
 induction n with
 |zero=>rfl
 |succ n ih=>rw[nC,nC,ih fun i hi=>h i (by omega),h n (by omega)]
theorem rY {g:LT} {n k:Nat} (hk:k<n) (x:LI):lS (dO g k x) n+(g k).need=lS g n+x.need:=by
 induction n with
 |zero=>omega
 |succ n ih=>
  rw[nC,nC];by_cases e:k=n
  ·subst e;rw[dQ,RV (g:=dO g k x) (k:=g) fun i hi=>by rw[eU _ _ (by omega)]];omega
  rw[eU _ _ (fun h=>e h.symm)];have:=ih (by omega);omega
theorem bI.used {S:VS} {g:LT} (h:bI S g) (t:List Nat) (ht:∀j<S.count,S.bit j=true∨j∈t):S.count≤lS g S.names+t.length:=by
 have h1:∀n≤S.names,((List.range n).flatMap fun i=>(aF S.cur i).aB).length=lS g n:=by
  intro n
  induction n with
  |zero=>intro _;rfl
  |succ n ih=>intro hn;rw[List.range_succ,List.flatMap_append,List.length_append,ih (by omega),nC];simp only[List.flatMap_cons,List.flatMap_nil,List.append_nil];rw[h.len n (by omega)]
 have h2:(List.range S.count).length≤(((List.range S.names).flatMap fun i=>(aF S.cur i).aB)++t).length:=List.Nodup.length_le_of_subset List.nodup_range fun j hj=>by
  have hj2:=List.mem_range.1 hj;rw[List.mem_append];rcases ht j hj2 with h3|h3
  ·obtain⟨n,hn,h4⟩:=(h.bits j hj2).1 h3;exact .inl (List.mem_flatMap.2 ⟨n,List.mem_range.2 hn,h4⟩)
  exact .inr h3
 rw[List.length_range,List.length_append,h1 _ (Nat.le_refl _)]at h2;exact h2
def LI.more (x:LI) (name:List UInt8) (n:Nat):LI:= {x with aY:=x.aY++[(name,n)]}
theorem LI.MM {x:LI} (h:x.fair) (hk:x.kind=1) {name:List UInt8} {n:Nat} (hl:x.aY.length<448) (hn:name.length≤15) (hm:n≤65535):(x.more name n).fair:=
 ⟨h.kind,fun e=>absurd hk e,h.data,by show(x.aY++[(name,n)]).length≤448;rw[List.length_append];simp;omega,h.short,h.mode,h.links,fun e he=>by
  rcases List.mem_append.1 he with he|he
  ·exact h.names e he
  rw[List.mem_singleton]at he;subst he;exact⟨hn,hm⟩⟩
theorem jS {x:LI} (hk:x.kind=1):x.need=max 1 ((x.aY.length+15)/16):=by unfold LI.need;rw[if_pos hk]
theorem pR {x:LI} (hk:x.kind=1):x.size=x.aY.length:=by unfold LI.size;rw[if_pos hk]
theorem bI.oP {S:VS} {g:LT} (h:bI S g) {n:Nat} (hn:n<S.names) {s:Nat} (hs:s∈(aF S.cur n).aB):S.bit s=true:=(h.bits s (h.lt n hn s hs)).2 ⟨n,hn,hs⟩
theorem oQ {S S1:VS} {k:Nat} (h:Used S S1 k) (s:Nat):bk S1.cur (S.data+s)=bk S.cur (S.data+s):=h.blk _ (by unfold VS.data;omega)
theorem V4 {c:dW} {d:Nat} {x:VI} {n:Nat} (h:x.size=n+1):iJ c d x=(List.range n).map (fun i=>(YC (eX c d x i),YD (eX c d x i)))++[(YC (eX c d x n),YD (eX c d x n))]:=by unfold iJ;rw[h,List.range_succ,List.map_append];rfl
theorem aeX {c:dW} {d:Nat} {x:VI} {L:qZ} (h:iJ c d x=L):L=(List.range x.size).map fun i=>(YC (eX c d x i),YD (eX c d x i)):=h.symm
theorem RX {l t:List Nat} {a:Nat} (h:a<l.length):(l++t).getD a 0=l.getD a 0:=by rw[gH,gH,List.getElem?_append_left h]
theorem bI.enter {S:VS} {g:LT} (h:bI S g) {dir n:Nat} {name:List UInt8} (hd:dir<S.names) (hk:(g dir).kind=1) (hsz:(g dir).aY.length<448) (hname:name.length≤15) (hn:n≤65535):
  (∀S1,fF S dir name n=some S1→bI S1 (dO g dir ((g dir).more name n)))∧
  (fF S dir name n=none→S.count<lS (dO g dir ((g dir).more name n)) S.names):=by
 have hx:=h.head dir hd;have hsize:(aF S.cur dir).size=(g dir).aY.length:=by rw[h.size hd,pR hk]
 have hlen:(aF S.cur dir).aB.length=max 1 (((g dir).aY.length+15)/16):=by rw[h.len dir hd,jS hk]
 obtain⟨L,hL⟩:∃L,L=(g dir).aY.length:=⟨_,rfl⟩;rw[←hL]at hsize hlen hsz;obtain⟨sp,hsp⟩:∃sp,sp=(aF S.cur dir).aB:=⟨_,rfl⟩;rw[←hsp]at hlen;have hfair:=LI.MM (h.fair dir hd) hk (by omega) hname hn;have zW:((g dir).more name n).need=(L+16)/16:=by rw[jS (show((g dir).more name n).kind=1 from hk)];(show max 1 ((((g dir).aY++[(name,n)]).length+15)/16)=_);rw[List.length_append,←hL];simp only[List.length_singleton];omega
 have hu0:dB (S.node (S.nodes+1)):=(Mid.node h.use _).use;obtain⟨f1,f2⟩:=IA (S:=S.node (S.nodes+1)) (l:=sp) (n:=(L+16)/16) hu0 (by omega);have he:fF S dir name n=(match iD (S.node (S.nodes+1)) sp ((L+16)/16)with
  |none=>none
  |some (S1,l)=>some ((S1.keep dir {aF S.cur dir with size:=L+1,aB:=l}).fE (l.getD (L/16) 0) L name n)):=by
  unfold fF
  rw[hsize,←hsp]
  rfl
 rw[he];cases hf:iD (S.node (S.nodes+1)) sp ((L+16)/16)with
 |none=>refine⟨fun S1 e=>(by cases e),fun _=>?_⟩;obtain⟨t,ht1,ht2⟩:=f2 hf;have h1:=h.used t ht2;have h2:=rY hd ((g dir).more name n) (g:=g);rw[zW,jS hk,←hL]at h2;omega
 |some r=>
  obtain⟨S1,l⟩:=r;obtain⟨hu1,t,hl,htl,htn,htb,hbit⟩:=f1 S1 l hf;have FK:=(iA hf).1;refine⟨fun S2 e=>?_,fun e=>(by cases e)⟩;cases e;have hm1:Mid S S1:=(Mid.node h.use _).trans (Mid.used FK hu1);(have hd1:dir<S1.names:=by rw[hm1.names];exact hd);rw[aaP S1 hd1];(have hll:l.length=(L+16)/16:=by rw[hl,List.length_append,htl];omega);have hlt:∀s∈l,s<S.count:=fun s hs=>by
   rw[hl]at hs;rcases List.mem_append.1 hs with hs|hs
   ·exact h.lt dir hd s (by rw[←hsp];exact hs)
   exact(htb s hs).1
  (have htS:∀s∈t,S.bit s=false:=fun s hs=>(htb s hs).2);(have hnd:l.Nodup:=by rw[hl,List.nodup_append];refine⟨by rw[hsp];exact h.nodup dir hd,htn,fun a ha b hb e=>?_⟩;subst e;have h1:=h.oP hd (by rw[←hsp];exact ha);rw[htS a hb]at h1;cases h1);have aeY:∀m<S.names,m≠dir→∀s∈(aF S.cur m).aB,s∉l:=fun m hmm e s hs hs2=>by
   rw[hl]at hs2;rcases List.mem_append.1 hs2 with hs2|hs2
   ·exact h.others hd m hmm e s hs (by rw[←hsp];exact hs2)
   have h1:=h.oP hmm hs;rw[htS s hs2]at h1;cases h1
  have hsl:l.getD (L/16) 0∈l:=pQ (by omega);(have hs1:l.getD (L/16) 0<S1.count:=by rw[hm1.count];exact hlt _ hsl);have hm2:Mid S (S1.fE (l.getD (L/16) 0) L name n):=hm1.trans (Mid.laid (Laid.fE S1 _ _ _ _) (hu1.fE hs1 _ _ hname));(have hy:({aF S.cur dir with size:=L+1,aB:=l}:VI)=((g dir).more name n).vi l:=by rw[hx];unfold LI.vi LI.more;simp only[VI.mk.injEq,true_and,and_true];unfold LI.size;rw[if_pos hk];simp only[List.length_append,List.length_singleton];omega);rw[hy];(have arA:∀k,k<16*l.length→∀x:VI,x.aB=l→eX (S1.fE (l.getD (L/16) 0) L name n).cur S.data x k=if k=L then uT name n else eX S1.cur S.data x k:=fun k hk2 x hxl=>by have:=IG (S:=S1) hu1 (x:=x) (by rw[hxl];exact hnd) (i:=L) (k:=k) (n:=n) (name:=name) (by rw[hxl];omega) (by rw[hxl];exact hk2) (by rw[hxl,hm1.count];exact hlt) hname;rw[hxl,hm1.data]at this;exact this);refine h.step hd (Step.keep h hd hm2 hfair (by rw[zW];exact hll) hlt hnd aeY (fun j hj=>?_) (fun m hmm e s hs=>?_) (fun _=>?_) (fun k2=>?_) ?_)
  ·rw[IE hu1,hbit];have hb2:=h.RU hd hj;rw[←hsp]at hb2;(show((S.bit j||decide (j∈t))=true)↔_);rw[Bool.or_eq_true,hb2,hl,List.mem_append,decide_eq_true_eq];constructor
   ·rintro((h1|h1)|h1)
    ·exact .inl (.inl h1)
    ·exact .inr h1
    exact .inl (.inr h1)
   rintro((h1|h1)|h1)
   ·exact .inl (.inl h1)
   ·exact .inr h1
   exact .inl (.inr h1)
  ·(have hne:s≠l.getD (L/16) 0:=fun e2=>aeY m hmm e s hs (by rw[e2];exact hsl));have:=zV S1 (s:=l.getD (L/16) 0) (t:=s) L name n hne;rw[hm1.data]at this;rw[this];exact oQ FK s
  ·rw[V4 (n:=L) (by show((g dir).more name n).size=_;unfold LI.size;rw[if_pos (by exact hk)];show((g dir).aY++[(name,n)]).length=_;rw[List.length_append,←hL];rfl)];(have e1:(g dir).aY=(List.range L).map fun i=>(YC (eX S.cur S.data (aF S.cur dir) i),YD (eX S.cur S.data (aF S.cur dir) i)):=by have:=aeX (h.aY dir hd hk);rw[hsize]at this;exact this);(show _=(g dir).aY++[(name,n)]);rw[e1];congr 1
   ·(refine List.map_congr_left fun i hi=>?_);have hi2:=List.mem_range.1 hi;(have hi3:i/16<sp.length:=by omega);rw[arA i (by omega) _ rfl,if_neg (by omega)];(have e2:eX S1.cur S.data (((g dir).more name n).vi l) i=eX S.cur S.data (aF S.cur dir) i:=by unfold eX;(show uS (bk S1.cur (S.data+l.getD (i/16) 0)) i=_);have eb:bk S1.cur (S.data+sp.getD (i/16) 0)=bk S.cur (S.data+sp.getD (i/16) 0):=oQ FK _;rw[hl,RX hi3,eb,hsp]);rw[e2]
   rw[arA L (by omega) _ rfl,if_pos rfl,RQ hname,RS hname hn]
  ·exact absurd (show(g dir).kind=2 from k2) (by omega)
  (show S1.nodes=S.nodes-(g dir).aY.length+(((g dir).aY++[(name,n)]).length:Nat));rw[FK.nodes,List.length_append];(show S.nodes+1=_);simp only[List.length_singleton];omega
end Go.Proofs.YteihmbaimbogaaaGreat
