/- FvE, FvF, FvG, FuR, laid together. -/
import Derived.Test.YteihmbaimbogaaaGreatJ24
import Derived.Test.YteihmbaimbogaaaGreatJ26
namespace Go.Proofs.YteihmbaimbogaaaGreat
set_option linter.unusedVariables false
set_option linter.unusedSimpArgs false
def lH (L:qZ) (i:Nat):qZ:=(L.set i (pI L (L.length-1))).dropLast
theorem ajO {L:qZ} {i:Nat} (h:i<L.length):L[i]? =some (pI L i):=by rw[gE h,nW h]
theorem nP {L:qZ} {i:Nat}:(lH L i).length=L.length-1:=by unfold lH;rw[List.length_dropLast,List.length_set]
theorem RZ {L:qZ} {i n:Nat} (hn:L.length=n+1):lH L i=(List.range n).map fun k=>if k=i then pI L n else pI L k:=by
 unfold lH;apply List.ext_getElem?;intro k;rw[List.getElem?_dropLast,List.length_set,List.getElem?_map,hn,Nat.add_sub_cancel];by_cases hk:k<n
 ·rw[if_pos hk,List.getElem?_range hk,Option.map_some,List.getElem?_set];by_cases e:i=k
  ·rw[if_pos e,if_pos e.symm,if_pos (by omega)]
  rw[if_neg e,if_neg (fun h=>e h.symm),ajO (by omega)]
 rw[if_neg hk,List.getElem?_eq_none (by rw[List.length_range];omega)];rfl
theorem ae4 {A:qZ} {z:List UInt8×Nat} {i:Nat} (h:i<A.length):(A++[z]).Perm (pI A i::A.set i z):=by
 have e1:A=A.take i++pI A i::A.drop (i+1):=by
  conv=>lhs;rw[←List.take_append_drop i A]
  congr 1;rw[List.drop_eq_getElem_cons h,nW h]
 have e2:A.set i z=A.take i++z::A.drop (i+1):=by rw[List.set_eq_take_append_cons_drop,if_pos h]
 rw[e2]
 conv=>lhs;rw[e1]
 rw[List.append_assoc,List.cons_append];refine List.perm_middle.trans (List.Perm.cons _ ?_);refine List.Perm.append_left _ ?_;exact List.perm_append_singleton _ _
theorem zX {L:qZ} {i:Nat} (h:i<L.length):L.Perm (pI L i::lH L i):=by
 rcases List.eq_nil_or_concat L with e|⟨A,z,e⟩
 ·subst e;simp at h
 rw[List.concat_eq_append]at e;subst e;rw[List.length_append,List.length_singleton]at h;have ez:pI (A++[z]) A.length=z:=by unfold pI;rw[gH,List.getElem?_append_right (Nat.le_refl _),Nat.sub_self];rfl
 unfold lH;rw[List.length_append,List.length_singleton,Nat.add_sub_cancel,ez];by_cases e:i=A.length
 ·rw[e,List.set_append_right _ _ (Nat.le_refl _),Nat.sub_self,List.set_cons_zero,List.dropLast_concat,ez];exact List.perm_append_singleton _ _
 have hi:i<A.length:=by omega
 rw[List.set_append_left _ _ hi,List.dropLast_concat];have e2:pI (A++[z]) i=pI A i:=by unfold pI;rw[gH,gH,List.getElem?_append_left hi]
 rw[e2];exact ae4 hi
theorem OU {S S1:VS} {l l1:List Nat} {n:Nat} (h:dB S) (hl:∀s∈l,s<S.count∧S.bit s=true) (hn:l.Nodup) (hf:iD S l n=some (S1,l1)):
  dB S1∧l1.length=n∧(∀s∈l1,s<S.count)∧l1.Nodup∧(∀s∈l1,s∈l∨S.bit s=false)∧∀i,S1.bit i=((S.bit i&& !decide (i∈l))||decide (i∈l1)):=by
 have hlen:=(iA hf).2;by_cases hle:n≤l.length
 ·(obtain⟨S2,h1,h2,h3⟩:=RN h hle fun s hs=>(hl s hs).1);rw[h1]at hf;cases hf;refine⟨h2,hlen,fun s hs=>(hl s (List.mem_of_mem_take hs)).1,hn.sublist (List.take_sublist _ _),fun s hs=>.inl (List.mem_of_mem_take hs),fun i=>?_⟩;rw[h3];have hsp:l.take n++l.drop n=l:=List.take_append_drop n l;by_cases h4:i∈l.take n
  ·(have h5:i∉l.drop n:=fun h6=>by have:=hn;rw[←hsp,List.nodup_append]at this;exact this.2.2 i h4 i h6 rfl);have h7:S.bit i=true:=(hl i (List.mem_of_mem_take h4)).2;simp[h4,h5,h7]
  by_cases h5:i∈l.drop n
  ·have h6:i∈l:=List.mem_of_mem_drop h5;simp[h4,h5,h6]
  have h6:i∉l:=fun h7=>by
   rw[←hsp,List.mem_append]at h7;rcases h7 with h7|h7
   ·exact h4 h7
   exact h5 h7
  simp[h4,h5,h6]
 obtain⟨h1,t,h2,h3,h4,h5,h6⟩:=(IA h (by omega)).1 S1 l1 hf;have hdj:∀s∈l,s∉t:=fun s hs hs2=>by have:=(hl s hs).2;rw[(h5 s hs2).2]at this;cases this
 refine⟨h1,hlen,fun s hs=>?_,?_,fun s hs=>?_,fun i=>?_⟩
 ·rw[h2]at hs;rcases List.mem_append.1 hs with hs|hs
  ·exact(hl s hs).1
  exact(h5 s hs).1
 ·rw[h2,List.nodup_append];exact⟨hn,h4,fun a ha b hb e=>hdj a ha (by rw[e];exact hb)⟩
 ·rw[h2]at hs;rcases List.mem_append.1 hs with hs|hs
  ·exact .inl hs
  exact .inr (h5 s hs).2
 rw[h6,h2];by_cases h7:i∈l
 ·have:=(hl i h7).2;simp[h7,this]
 simp[h7]
theorem bI.IM {S:VS} {g:LT} (h:bI S g) {n:Nat} (hn:n<S.names):∀s∈(aF S.cur n).aB,s<S.count∧S.bit s=true:=fun s hs=>⟨h.lt n hn s hs,h.oP hn hs⟩
theorem bI.IP {S T:VS} {g:LT} (h:bI S g) {n:Nat} (hn:n<S.names) {l1:List Nat} (hb:∀i,T.bit i=((S.bit i&& !decide (i∈(aF S.cur n).aB))||decide (i∈l1))) {j:Nat} (hj:j<S.count):
  T.bit j=true↔j∈l1∨∃m<S.names,m≠n∧j∈(aF S.cur m).aB:=by
 rw[hb,Bool.or_eq_true,Bool.and_eq_true,decide_eq_true_eq,h.RU hn hj];constructor
 ·rintro(⟨h1|h1,h2⟩|h1)
  ·simp[h1]at h2
  ·exact .inr h1
  exact .inl h1
 rintro(h1|⟨m,hm,e,h1⟩)
 ·exact .inr h1
 refine .inl ⟨.inr ⟨m,hm,e,h1⟩,?_⟩;have:=h.others hn m hm e j h1;simp[this]
theorem bI.OV {S:VS} {g:LT} (h:bI S g) {n:Nat} (hn:n<S.names) {l1:List Nat} (hb:∀s∈l1,s∈(aF S.cur n).aB∨S.bit s=false):∀m<S.names,m≠n→∀s∈(aF S.cur m).aB,s∉l1:=fun m hm e s hs hs2=>by
 rcases hb s hs2 with h1|h1
 ·exact h.others hn m hm e s hs h1
 rw[h.oP hm hs]at h1;cases h1
def LI.less (x:LI) (i:Nat):LI:= {x with aY:=lH x.aY i}
theorem FL {L:qZ} {i:Nat} (h:i<L.length):pI L i∈L:=by rw[←nW h];exact List.getElem_mem h
theorem LI.aaU {x:LI} (h:x.fair) (hk:x.kind=1) {i:Nat} (hi:i<x.aY.length):(x.less i).fair:=
 ⟨h.kind,fun e=>absurd hk e,h.data,by show(lH x.aY i).length≤448;rw[nP];have:=h.few;omega,h.short,h.mode,h.links,fun e he=>h.names e ((zX hi).mem_iff.2 (List.mem_cons_of_mem _ he))⟩
theorem bI.leave {S:VS} {g:LT} (h:bI S g) {dir i:Nat} {name:List UInt8} (hd:dir<S.names) (hk:(g dir).kind=1) (hi:i<(g dir).aY.length) (hf:(iR (g dir).aY name).1=i):
  bI (bY S dir name) (dO g dir ((g dir).less i)):=by
 have hx:=h.head dir hd;have hsize:(aF S.cur dir).size=(g dir).aY.length:=by rw[h.size hd,pR hk]
 have hlen:(aF S.cur dir).aB.length=max 1 (((g dir).aY.length+15)/16):=by rw[h.len dir hd,jS hk]
 have ae5:=h.aY dir hd hk;have hfair:=LI.aaU (h.fair dir hd) hk hi;have mE:=(h.fair dir hd).few;have hnm:=(h.fair dir hd).names;obtain⟨n,hn⟩:∃n,(g dir).aY.length=n+1:=⟨(g dir).aY.length-1,by omega⟩;obtain⟨L,hL⟩:∃L,L=(g dir).aY:=⟨_,rfl⟩;rw[←hL]at hn ae5 hnm hi hf;obtain⟨sp,hsp⟩:∃sp,sp=(aF S.cur dir).aB:=⟨_,rfl⟩;have zW:((g dir).less i).need=max 1 ((n+15)/16):=by rw[jS (show((g dir).less i).kind=1 from hk)];(show max 1 (((lH (g dir).aY i).length+15)/16)=_);rw[nP,←hL,hn,Nat.add_sub_cancel]
 rw[←hL,hn]at hsize hlen;rw[←hsp]at hlen
 --the entries
 obtain⟨e,he⟩:∃e,e=pI L n:=⟨_,rfl⟩;have hem:e∈L:=by rw[he];exact FL (by omega)
 obtain⟨he1,he2⟩:=hnm e hem;have KT:=h.IM hd;rw[←hsp]at KT;have aaV:=h.nodup dir hd;rw[←hsp]at aaV;obtain⟨S1,hS1⟩:∃S1,S1=S.fE (sp.getD (i/16) 0) i e.1 e.2:=⟨_,rfl⟩;obtain⟨S2,hS2⟩:∃S2,S2=S1.fE (sp.getD (n/16) 0) n [] 0:=⟨_,rfl⟩;have arG:i/16<sp.length:=by omega
 have hn16:n/16<sp.length:=by omega
 have hu1:dB S1:=by rw[hS1];exact h.use.fE (KT _ (pQ arG)).1 _ _ he1
 have hm1:Mid S S1:=by rw[hS1]at hu1 ⊢;exact Mid.laid (Laid.fE S _ _ _ _) hu1
 have hu2:dB S2:=by rw[hS2];exact hu1.fE (by rw[hm1.count];exact(KT _ (pQ hn16)).1) _ _ (by simp)
 have hm2:Mid S S2:=by rw[hS2]at hu2 ⊢;exact hm1.trans (Mid.laid (Laid.fE S1 _ _ _ _) hu2)
 have awC:S2.nodes=S.nodes:=by rw[hS2,hS1];rfl
 have al5:∀j,S2.bit j=S.bit j:=fun j=>by rw[hS2,IE hu1,hS1,IE h.use]
 have hblk2:∀s,s∉sp→bk S2.cur (S.data+s)=bk S.cur (S.data+s):=fun s hs=>by(have e1:bk S2.cur (S1.data+s)=bk S1.cur (S1.data+s):=by rw[hS2];exact zV S1 _ _ _ fun e=>hs (by rw[e];exact pQ hn16));(have e2:bk S1.cur (S.data+s)=bk S.cur (S.data+s):=by rw[hS1];exact zV S _ _ _ fun e=>hs (by rw[e];exact pQ arG));rw[hm1.data]at e1;rw[e1,e2]
 have arH:∀k,k<n→∀x:VI,x.aB=sp→eX S2.cur S.data x k=if k=i then uT e.1 e.2 else eX S.cur S.data x k:=fun k hk2 x hxs=>by(have k16:k<16*sp.length:=by omega);(have e1:eX S2.cur S1.data x k=if k=n then uT [] 0 else eX S1.cur S1.data x k:=by have:=IG (S:=S1) hu1 (x:=x) (by rw[hxs];exact aaV) (i:=n) (k:=k) (n:=0) (name:=[]) (by rw[hxs];omega) (by rw[hxs];omega) (by rw[hxs,hm1.count];exact fun s hs=>(KT s hs).1) (by simp);rw[hxs]at this;rw[hS2];exact this);(have e2:eX S1.cur S.data x k=if k=i then uT e.1 e.2 else eX S.cur S.data x k:=by have:=IG (S:=S) h.use (x:=x) (by rw[hxs];exact aaV) (i:=i) (k:=k) (n:=e.2) (name:=e.1) (by rw[hxs];omega) (by rw[hxs];omega) (by rw[hxs];exact fun s hs=>(KT s hs).1) he1;rw[hxs]at this;rw[hS1];exact this);rw[hm1.data]at e1;rw[e1,if_neg (by omega),e2]
 --the fit
 have arI:dB (S2.node (S2.nodes-1)):=(Mid.node hu2 _).use;obtain⟨S4,iW⟩:∃S4,iD (S2.node (S2.nodes-1)) sp (max 1 ((n+15)/16))=some (S4,sp.take (max 1 ((n+15)/16))):=by(obtain⟨S4,h4,_⟩:=RN arI (l:=sp) (n:=max 1 ((n+15)/16)) (by omega) fun s hs=>by(show s<S2.count);rw[hm2.count];exact(KT s hs).1);exact⟨S4,h4⟩
 obtain⟨hu4,hl4,arJ,arK,awD,hb4⟩:=OU arI (l:=sp) (fun s hs=>⟨by show s<S2.count;rw[hm2.count];exact(KT s hs).1,by show S2.bit s=true;rw[al5];exact(KT s hs).2⟩) aaV iW;have FK:=(iA iW).1;have hm4:Mid S S4:=hm2.trans ((Mid.node hu2 _).trans (Mid.used FK hu4));obtain⟨l,hl⟩:∃l,l=sp.take (max 1 ((n+15)/16)):=⟨_,rfl⟩;rw[←hl]at hl4 arJ arK awD hb4 iW;have hleave:bY S dir name=S4.keep dir (((g dir).less i).vi l):=by unfold bY yJ;simp only;rw[ae5,hf,Int.toNat_natCast,hsize,Nat.add_sub_cancel,←hsp,←he,←hS1,←hS2,show n+1+14=n+15 by omega,iW];simp only;congr 1;rw[hx];unfold LI.vi LI.less;simp only[VI.mk.injEq,true_and,and_true];unfold LI.size;rw[if_pos hk,nP,←hL,hn];rfl
 rw[hleave];have hlt:∀s∈l,s<S.count:=fun s hs=>by have:=arJ s hs;rw[show(S2.node (S2.nodes-1)).count=S2.count from rfl,hm2.count]at this;exact this
 have hsub:∀s∈l,s∈sp:=fun s hs=>by rw[hl]at hs;exact List.mem_of_mem_take hs
 refine h.step hd (Step.keep h hd hm4 hfair (by rw[zW];exact hl4) hlt arK (h.OV hd fun s hs=>.inl (by rw[←hsp];exact hsub s hs)) (fun j hj=>h.IP hd (l1:=l) (fun t=>?_) hj) (fun m hmm e2 s hs=>?_) (fun _=>?_) (fun k2=>?_) ?_)
 ·rw[hb4];(show((S2.bit t&& !decide (t∈sp))||decide (t∈l))=_);rw[al5,←hsp]
 ·(have h1:bk S4.cur (S.data+s)=bk S2.cur (S.data+s):=by have:=oQ FK s;rw[show(S2.node (S2.nodes-1)).data=S2.data from rfl,hm2.data]at this;exact this);rw[h1];exact hblk2 s fun h2=>h.others hd m hmm e2 s hs (by rw[←hsp];exact h2)
 ·(have hvs:(((g dir).less i).vi l).size=n:=by(show((g dir).less i).size=n);unfold LI.size;rw[if_pos (show((g dir).less i).kind=1 from hk)];(show(lH (g dir).aY i).length=n);rw[nP,←hL,hn];rfl);unfold iJ;rw[hvs];(show _=lH (g dir).aY i);rw[←hL,RZ hn];(refine List.map_congr_left fun k hk3=>?_);have hk4:=List.mem_range.1 hk3;(have hkl:k/16<l.length:=by rw[hl4];omega);(have h1:eX S4.cur S.data (((g dir).less i).vi l) k=eX S2.cur S.data (aF S.cur dir) k:=by unfold eX;(show uS (bk S4.cur (S.data+l.getD (k/16) 0)) k=uS (bk S2.cur (S.data+(aF S.cur dir).aB.getD (k/16) 0)) k);(have e3:l.getD (k/16) 0=sp.getD (k/16) 0:=by rw[hl,gH,gH,List.getElem?_take,if_pos (by rw[hl4]at hkl;exact hkl)]);(have e4:bk S4.cur (S.data+sp.getD (k/16) 0)=bk S2.cur (S.data+sp.getD (k/16) 0):=by have:=oQ FK (sp.getD (k/16) 0);rw[show(S2.node (S2.nodes-1)).data=S2.data from rfl,hm2.data]at this;exact this);rw[e3,e4,hsp]);rw[h1,arH k hk4 _ hsp.symm];(have hLk:(YC (eX S.cur S.data (aF S.cur dir) k),YD (eX S.cur S.data (aF S.cur dir) k))=pI L k:=by rw[←ae5,wR (by rw[hsize];omega)]);by_cases e5:k=i
  ·rw[if_pos e5,if_pos e5,RQ he1,RS he1 he2,←he]
  rw[if_neg e5,if_neg e5];exact hLk
 ·exact absurd (show(g dir).kind=2 from k2) (by omega)
 show S4.nodes=S.nodes-((g dir).aY.length:Nat)+((lH (g dir).aY i).length:Nat)
 rw[FK.nodes,nP,←hL,hn];show S2.nodes-1=_
 rw[awC];omega
theorem R3 :LI0.fair:=⟨by decide,fun _=>rfl,fun _=>rfl,by decide,by decide,by decide,by decide,fun e he=>by cases he⟩
theorem bI.drop {S:VS} {g:LT} (h:bI S g) {n:Nat} (hn:n<S.names) (he:(g n).aY=[]):bI (nO S n) (dO g n LI0):=by
 obtain⟨S1,h1,h2⟩:=vL (S:=S) (n:=n);rw[h2];obtain⟨hu,hl,hlt,hnd,hor,hb⟩:=OU h.use (h.IM hn) (h.nodup n hn) h1;have FK:=(iA h1).1;have hm:Mid S S1:=Mid.used FK hu;refine h.step (x:=LI0) (l:=[]) hn (Step.keep (x:=LI0) (l:=[]) h hn hm R3 rfl (fun s hs=>by cases hs) .nil (h.OV hn fun s hs=>by cases hs) (fun j hj=>h.IP hn hb hj) (fun m hmm e s hs=>oQ FK s) (fun k=>by cases k) (fun k=>by cases k) ?_);rw[FK.nodes,he];show S.nodes=S.nodes-0+0
 omega
theorem ae6 :bB.length=512:=dP
theorem bI.ae7 {S:VS} {g:LT} (h:bI S g) {n mode links:Nat} (hn:n<S.names) (h0:(g n).kind=0) (hm:mode<65536) (hl:links<65536):
  (∀j,iC (bk S.cur 1) S.count=some j→bI (iU S n ⟨1,mode,links,0,[]⟩ j) (dO g n ⟨1,mode,links,[],[]⟩))∧
  (iC (bk S.cur 1) S.count=none→S.count<lS (dO g n ⟨1,mode,links,[],[]⟩) S.names):=by
 have he:(g n).aY=[]:=(h.fair n hn).aY (by omega);have hz:(aF S.cur n).aB=[]:=List.eq_nil_of_length_eq_zero (by rw[h.len n hn];unfold LI.need;rw[if_neg (by omega),if_neg (by omega)]);have hf:(⟨1,mode,links,[],[]⟩:LI).fair:=⟨Nat.le_succ 1,fun e=>absurd rfl e,fun _=>rfl,Nat.zero_le _,Nat.zero_le _,hm,hl,fun e he=>by cases he⟩;constructor
 ·intro j hj;obtain⟨hj1,hj2,_⟩:=tF hj;have arL:S.bit j=false:=hj2;have hu1:=h.use.set j;have hm1:Mid S (S.put 1 (jB (bk S.cur 1) j)):=⟨hu1,rfl,rfl,fun m _=>by unfold aF;(show wQ (((bk (S.cur.set 1 _) (2+m/8)).drop (m%8*64)).take 64)=_);rw[bR _ _ (by omega)],rfl,rfl⟩;have hu2:dB (eP S j):=hu1.put _ ae6;have hm2:Mid S (eP S j):=hm1.trans ⟨hu2,rfl,rfl,fun m hmm=>by unfold aF eP;(show wQ (((bk ((S.put 1 (jB (bk S.cur 1) j)).cur.set ((S.put 1 (jB (bk S.cur 1) j)).data+j) bB) (2+m/8)).drop (m%8*64)).take 64)=_);rw[bR _ _ (by have:m<S.names:=hmm;show 2+m/8≠S.data+j;unfold VS.data;omega)],rfl,rfl⟩;(have hbit:∀i,(eP S j).bit i=(decide (i=j)||S.bit i):=fun i=>by(have e1:(eP S j).bit i=(S.put 1 (jB (bk S.cur 1) j)).bit i:=by(show l6 (bk ((S.put 1 (jB (bk S.cur 1) j)).cur.set (S.data+j) bB) 1) i=_);rw[bR _ _ (by unfold VS.data;omega)];rfl);rw[e1,zT h.use hj1]);(have hblk:∀s,s≠j→bk (eP S j).cur (S.data+s)=bk S.cur (S.data+s):=fun s hs=>by(show bk ((S.cur.set 1 _).set (S.data+j) bB) (S.data+s)=_);rw[bR _ _ (by omega),bR _ _ (by unfold VS.data;omega)]);refine h.step (x:=⟨1,mode,links,[],[]⟩) (l:=[j]) hn (Step.keep (x:=⟨1,mode,links,[],[]⟩) (l:=[j]) h hn hm2 hf (by simp[LI.need]) (fun s hs=>by rw[List.mem_singleton]at hs;rw[hs];exact hj1) (by simp) (fun m hmm e s hs hs2=>?_) (fun i hi=>?_) (fun m hmm e s hs=>hblk s fun e2=>?_) (fun _=>rfl) (fun k=>by cases k) ?_)
  ·rw[List.mem_singleton]at hs2;have:=h.oP hmm hs;rw[hs2,arL]at this;cases this
  ·rw[hbit,Bool.or_eq_true,decide_eq_true_eq,h.RU hn hi,hz,List.mem_singleton];simp
  ·have:=h.oP hmm hs;rw[e2,arL]at this;cases this
  rw[he];(show S.nodes=S.nodes-0+0);omega
 intro hno;have h1:=h.used [] fun j hj=>.inl (GZ hno j hj)
 have h2:=rY hn (⟨1,mode,links,[],[]⟩:LI) (g:=g);have h3:(g n).need=0:=by unfold LI.need;rw[if_neg (by omega),if_neg (by omega)]
 have h4:(⟨1,mode,links,[],[]⟩:LI).need=1:=by simp[LI.need]
 rw[h3,h4]at h2;simp at h1;omega
theorem R4 (bs:List UInt8):∀(l:List Nat) (k:Nat) (S:VS),dB S→(∀s∈l,s<S.count)→l.Nodup→
  dB (j4 bs l k S)∧(∀j,(j4 bs l k S).bit j=S.bit j)∧(∀s,s∉l→bk (j4 bs l k S).cur (S.data+s)=bk S.cur (S.data+s))∧∀i,i<l.length→bk (j4 bs l k S).cur (S.data+l.getD i 0)=gM bs (k+i)
 |[],k,S,h,_,_=>⟨h,fun _=>rfl,fun _ _=>rfl,fun i hi=>absurd hi (Nat.not_lt_zero _)⟩
 |s::l,k,S,h,hl,hn=>by
  rw[List.nodup_cons]at hn;have hs:=hl s (List.mem_cons_self ..);have hu:dB (S.put (S.data+s) (gM bs k)):=h.put _ (tJ bs k);obtain⟨h1,h2,h3,h4⟩:=R4 bs l (k+1) (S.put (S.data+s) (gM bs k)) hu (fun t ht=>hl t (List.mem_cons_of_mem _ ht)) hn.2;refine⟨h1,fun j=>?_,fun t ht=>?_,fun i hi=>?_⟩
  ·(show(j4 bs l (k+1) (S.put (S.data+s) (gM bs k))).bit j=_);rw[h2];(show l6 (bk (S.cur.set (S.data+s) _) 1) j=_);rw[bR _ _ (by unfold VS.data;omega)];rfl
  ·rw[List.mem_cons,not_or]at ht;have:=h3 t ht.2;(show bk (j4 bs l (k+1) (S.put (S.data+s) (gM bs k))).cur (S.data+t)=_);refine this.trans ?_;exact bR _ _ (fun e=>ht.1 (by have:S.data+t=S.data+s:=e;omega))
  cases i with
  |zero=>have:=h3 s hn.1;(show bk (j4 bs l (k+1) (S.put (S.data+s) (gM bs k))).cur (S.data+s)=_);refine this.trans ?_;(show bk (S.cur.set (S.data+s) _) (S.data+s)=_);rw[vC _ _ _ _ (by rw[h.cur.len];exact h.room hs),if_pos rfl];rfl
  |succ i=>have:=h4 i (by simpa using hi);rw[show k+1+i=k+(i+1)by omega]at this;exact this
def tL (bs:List UInt8) (m k:Nat):List UInt8:=(List.range m).flatMap fun i=>gM bs (k+i)
theorem OW (bs:List UInt8) (m k:Nat):tL bs (m+1) k=gM bs k++tL bs m (k+1):=by
 unfold tL;rw[List.range_succ_eq_map,List.flatMap_cons,List.flatMap_map];congr 1;congr 1;funext i;congr 1;show k+(i+1)=k+1+i
 omega
theorem MO (bs:List UInt8) (k:Nat):gM bs k=(bs.drop (512*k)).take 512++bB.drop ((bs.drop (512*k)).take 512).length:=by unfold gM bW;rw[List.take_zero,List.nil_append,Nat.zero_add]
theorem D8 (bs:List UInt8):∀(m k:Nat),bs.length≤512*(k+m)→(tL bs m k).take (bs.length-512*k)=bs.drop (512*k)
 |0,k,h=>by rw[List.drop_eq_nil_of_le (by omega)];unfold tL;simp
 |m+1,k,h=>by
  rw[OW,List.take_append,tJ];by_cases hr:512≤bs.length-512*k
  ·(have hl:((bs.drop (512*k)).take 512).length=512:=by rw[List.length_take,List.length_drop];omega);(have e1:gM bs k=(bs.drop (512*k)).take 512:=by have hz:bB.drop 512=[]:=List.drop_eq_nil_of_le (by rw[dP];exact Nat.le_refl _);rw[MO,hl,hz,List.append_nil]);rw[e1,List.take_of_length_le (by rw[hl];exact hr),show bs.length-512*k-512=bs.length-512*(k+1)by omega,D8 bs m (k+1) (by omega)];rw[show 512*(k+1)=512*k+512 by omega,←List.drop_drop,List.take_append_drop]
  rw[show bs.length-512*k-512=0 by omega,List.take_zero,List.append_nil];have hl:(bs.drop (512*k)).length=bs.length-512*k:=List.length_drop;have e1:(bs.drop (512*k)).take 512=bs.drop (512*k):=List.take_of_length_le (by omega);rw[MO,e1,List.take_append,hl,Nat.sub_self,List.take_zero,List.append_nil,List.take_of_length_le (by omega)]
theorem aaW (l:List Nat):l=(List.range l.length).map fun i=>l.getD i 0:=by
 apply List.ext_getElem?;intro k;rw[List.getElem?_map];by_cases hk:k<l.length
 ·rw[List.getElem?_range hk,Option.map_some,gH,gE hk];rfl
 rw[List.getElem?_eq_none (by omega),List.getElem?_eq_none (by rw[List.length_range];omega)];rfl
theorem R5 {c:dW} {d:Nat} {l:List Nat} {bs:List UInt8} (h:∀i,i<l.length→bk c (d+l.getD i 0)=gM bs (0+i)):GI c d l=tL bs l.length 0:=by
 unfold GI tL
 conv=>lhs;rw[aaW l]
 rw[List.flatMap_map,List.flatMap_def,List.flatMap_def];congr 1;exact List.map_congr_left fun i hi=>h i (List.mem_range.1 hi)
theorem bI.fill {S:VS} {g:LT} (h:bI S g) {n:Nat} {bs:List UInt8} (hn:n<S.names) (hk:(g n).kind=2) (hbs:bs.length≤8192):
  (∀S1,j5 S n bs=some S1→bI S1 (dO g n {g n with data:=bs}))∧(j5 S n bs=none→S.count<lS (dO g n {g n with data:=bs}) S.names):=by
 have hx:=h.head n hn;have hfn:=h.fair n hn;have he:(g n).aY=[]:=hfn.aY (by omega);have hfair:({g n with data:=bs}:LI).fair:=⟨hfn.kind,hfn.aY,fun e=>absurd hk e,hfn.few,hbs,hfn.mode,hfn.links,hfn.names⟩;have zW:({g n with data:=bs}:LI).need=(bs.length+511)/512:=by unfold LI.need;rw[if_neg (by show ¬(g n).kind=1;omega),if_pos (by exact hk)]
 obtain⟨sp,hsp⟩:∃sp,sp=(aF S.cur n).aB:=⟨_,rfl⟩;have KT:=h.IM hn;have aaV:=h.nodup n hn;unfold j5;cases hf:iD S (aF S.cur n).aB ((bs.length+511)/512)with
 |none=>
  refine⟨fun S1 e=>(by cases e),fun _=>?_⟩;have hgt:(aF S.cur n).aB.length<(bs.length+511)/512:=by
   rcases Nat.lt_or_ge (aF S.cur n).aB.length ((bs.length+511)/512)with h1|h1
   ·exact h1
   obtain⟨S1,h2⟩:=BV (S:=S) (l:=(aF S.cur n).aB) (n:=(bs.length+511)/512) h1;rw[h2]at hf;cases hf
  obtain⟨t,ht1,ht2⟩:=(IA h.use (by omega)).2 hf;have h1:=h.used t ht2;have h2:=rY hn ({g n with data:=bs}:LI) (g:=g);rw[zW,←h.len n hn]at h2;omega
 |some r=>
  obtain⟨S1,l⟩:=r;obtain⟨hu1,hl1,hlt1,arM,awE,hb1⟩:=OU h.use KT aaV hf;have FK:=(iA hf).1;have hm1:Mid S S1:=Mid.used FK hu1;obtain⟨hu2,hb2,hblk2,arN⟩:=R4 bs l 0 S1 hu1 (fun s hs=>by rw[hm1.count];exact hlt1 s hs) arM;have hm2:Mid S (j4 bs l 0 S1):=hm1.trans (Mid.laid (mX bs l 0 S1) hu2);rw[hm1.data]at hblk2 arN;refine⟨fun S2 e=>?_,fun e=>(by cases e)⟩;cases e;(have hy:({aF S.cur n with size:=bs.length,aB:=l}:VI)=({g n with data:=bs}:LI).vi l:=by rw[hx];unfold LI.vi;simp only[VI.mk.injEq,true_and,and_true];unfold LI.size;rw[if_neg (by show ¬(g n).kind=1;omega)]);rw[hy];have aeY:=h.OV hn awE;refine h.step hn (Step.keep h hn hm2 hfair (by rw[zW];exact hl1) hlt1 arM aeY (fun j hj=>?_) (fun m hmm e s hs=>?_) (fun k1=>?_) (fun _=>?_) ?_)
  ·rw[hb2];exact h.IP hn hb1 hj
  ·rw[hblk2 s (aeY m hmm e s hs)];exact oQ FK s
  ·exact absurd (show(g n).kind=1 from k1) (by omega)
  ·unfold jR;(show(GI _ _ l).take ({g n with data:=bs}:LI).size=bs);rw[R5 arN];(have e1:({g n with data:=bs}:LI).size=bs.length:=by unfold LI.size;rw[if_neg (by show ¬(g n).kind=1;omega)]);have:=D8 bs l.length 0 (by rw[hl1];omega);rw[Nat.mul_zero,Nat.sub_zero,List.drop_zero]at this;rw[e1,this]
  (show(j4 bs l 0 S1).nodes=S.nodes-((g n).aY.length:Nat)+((g n).aY.length:Nat));rw[(mX bs l 0 S1).nodes,FK.nodes];omega
open Go.RowKit
structure tN (S:VS) (x:VI) (bs:List UInt8) (dir:Nat) (path:List UInt8):Prop where
 tab:GA S.cur S.names
 w:fD S
 valid:aP path=true
 len:path.length≤1048576
 kind:x.kind=1∨x.kind=2
 aB:x.aB=[]
 ok:x.ok
 few:bs.length≤8192
 file:∀n,jQ S.cur S.names=some n→x.kind=2→oF (S.keep n x) n∧fD (S.keep n x)∧∀S2,j5 (S.keep n x) n bs=some S2→dY S S2∧nL S2 dir n (aR path)∧lJ S2
 dr:∀n j,jQ S.cur S.names=some n→iC (bk S.cur 1) S.count=some j→x.kind=1→({x with aB:=[j]}:VI).ok∧oF (eP S j) n∧fD (eP S j)∧nL (iU S n x j) dir n (aR path)∧lJ (iU S n x j)
 chg:∀S1,j6 S x bs dir (aR path)=some S1→mG S S1
theorem Sep.gQ {w0 W:World} {Y R:List aU} {b:Nat} {t:TypeId} {cs:Array Value} (i:Nat) (h:Sep w0 W (Y++R)) (hi:R[i]? =some (.box b t cs)) (j:Nat):W.cell? ⟨b,j,none⟩=cs[j]? :=
 h.bC (Y.length+i) ((List.getElem?_append_right (by omega)).trans (by rw[Nat.add_sub_cancel_left];exact hi)) j
theorem tO {f q p:Nat} {S:VS} {r:Option VS} {w0:World} {Y R:List aU} {e:Ending} {w':World} (h:fA f q p S r w0 (Y++R) e w'):fA f q p S r w0 R e w':=by
 have hd:∀(A:aU),Sep w0 w' (A::(Y++R))→Sep w0 w' (A::R):=fun A hA=>by have h1:Sep w0 w' (Y++(A::R)):=hA.perm List.perm_middle.symm;have h2:=h1.drop Y.length;rw[List.drop_left]at h2;exact h2
 unfold fA at*;cases r with
 |none=>obtain⟨h1,S1,a1,h2,h3,h4⟩:=h;exact⟨h1,S1,a1,h2,h3,hd _ h4⟩
 |some S1=>obtain⟨h1,a1,h2,h3⟩:=h;exact⟨h1,a1,h2,hd _ h3⟩
section
variable {w0 w:World} {R:List aU} {f q p:Nat} {S:VS} {a:VA}
theorem aaX {bf bd bp bx bb dir L c0:Nat} {A0:Option Addr} {x:VI} {bs path:List UInt8} (hC:VC S a) (hF:VF S) (hm:tN S x bs dir path) (hv:iB w0 R (.slice A0 L c0) bs)
  (h:Sep w0 w (aG f q p S a:: .box bx 118 (aL x (.slice none 0 0))::aQ (.slice none 0 0) []:: .box bf 24 #[.pointer (some ⟨f,0,none⟩)]:: .box bd 3 #[.int .i64 dir]:: .box bp 9 #[aM path]:: .box bb 35 #[.slice A0 L c0]::R)):
  Calls Tryz.prog 118 #[.pointer (some ⟨bf,0,none⟩),.pointer (some ⟨bx,0,none⟩),.pointer (some ⟨bb,0,none⟩),.pointer (some ⟨bd,0,none⟩),.pointer (some ⟨bp,0,none⟩)] w (fA f q p S (j6 S x bs dir (aR path)) w0 R):=by
 unfold j6;cases hfr:jQ S.cur S.names with
 |none=>exact(V5 (fun W Y hW=>hW.gQ 2 rfl 0) hC hF hm.tab hfr h).mono fun e w' ho=>tO (Y:=[_,_,_,_,_,_]) ho
 |some n=>
  rcases hm.kind with hk|hk
  ·simp only[hk,if_true];cases hfl:iC (bk S.cur 1) S.count with
   |none=>exact(V7 (fun W Y hW=>hW.gQ 0 rfl 0) hC hF hm.tab hk hm.aB hfr hfl h).mono fun e w' ho=>tO (Y:=[_,_,_,_]) ho
   |some j=>obtain⟨h1,h2,h3,h4,h5⟩:=hm.dr n j hfr hfl hk;exact(aaT (fun W Y hW=>⟨hW.gQ 0 rfl 0,hW.gQ 1 rfl 0,hW.gQ 2 rfl 0⟩) hC hF hm.tab h1 hk hm.aB hm.valid hm.len hfr hfl h2 h3 h4 h5 h).mono fun e w' ho=>tO (Y:=[_,_,_,_]) ho
  (have hk1:¬x.kind=1:=by rw[hk];decide);simp only[if_neg hk1];obtain⟨h1,h2,h3⟩:=hm.file n hfr hk;(refine(V6 (x:=x) (fun W Y hW=>?_) hC hF hm.tab hm.ok hk hm.aB hm.few (hv.more (Y:=[_,_,_,_,_,_])) hm.valid hm.len hm.w (gN 1 rfl) hfr h1 h2 h3 h).mono fun e w' ho=>tO (Y:=[_,_,_,_,_,_]) ho);have k0:W.cell? ⟨bx,0,none⟩=some (.int .i64 (x.kind:Nat)):=hW.gQ 0 rfl 0;rw[hk]at k0;exact⟨hW.gQ 2 rfl 0,hW.gQ 5 rfl 0,hW.gQ 3 rfl 0,hW.gQ 4 rfl 0,k0,hW.gQ 0 rfl 1,hW.gQ 0 rfl 2,hW.gQ 0 rfl 3,hW.gQ 0 rfl 4⟩
theorem OX (w:World) (o:Obj):(w.alloc o).heap.size=w.heap.size+1:=by simp
theorem lU {f q p:Nat} {S:VS} {r:Option VS} {w0:World} {R:List aU} {e:Ending} {w':World} (h:cZ f q p S r w0 R e w'):e= .returned (.tuple #[])∨∃k,e= .panicked (eH k):=by
 unfold cZ at h;cases r with
 |none=>exact .inr ⟨_,h.1⟩
 |some S1=>
  simp only at h;split at h
  ·split at h
   ·exact .inl h.1
   exact .inr ⟨_,h.1⟩
  exact .inr ⟨_,h.1⟩
theorem OY :∀args w,(callFunc 118 args).run Tryz.prog w= .ok (.enter 118 args) w:=Go.Proofs.enters_of Tryz.func118 (by kernel_rfl) rfl
set_option maxRecDepth 100000 in
set_option maxHeartbeats 1000000 in
theorem R6 {dir:Nat} {v:Value} {x:VI} {bs path:List UInt8} (hC:VC S a) (hF:VF S) (hb:S.D.back=[]) (hm:tN S x bs dir path) (hv:iB w0 R v bs) (h:Sep w0 w (aG f q p S a::R)):
  Calls Tryz.prog 63 #[.pointer (some ⟨f,0,none⟩),.int .i64 dir,aM path,.agg #[.int .i64 (x.kind:Nat),.int .i64 (x.mode:Nat),.int .i64 (x.links:Nat),.int .i64 (x.size:Nat),.slice none 0 0],v] w (cZ f q p S (j6 S x bs dir (aR path)) w0 R):=by
 obtain⟨L,A0,c0,hv0⟩:∃L A c,v= .slice A L c:=by obtain⟨_,A,c,e,_⟩:=hv w [_] h;exact⟨_,A,c,e⟩
 subst hv0;have hch:Hid (∀W bf bd bp bx bb,Sep w0 W (.box bb 35 #[.slice A0 L c0]:: .box bx 118 (aL x (.slice none 0 0)):: .box bp 9 #[aM path]:: .box bd 3 #[.int .i64 dir]:: .box bf 24 #[.pointer (some ⟨f,0,none⟩)]::aG f q p S a::R)→
   W.cell? ⟨bf,0,none⟩=some (.pointer (some ⟨f,0,none⟩))∧Calls Tryz.prog 65 #[.pointer (some ⟨f,0,none⟩),.func (.func 118) #[] #[.pointer (some ⟨bf,0,none⟩),.pointer (some ⟨bx,0,none⟩),.pointer (some ⟨bb,0,none⟩),.pointer (some ⟨bd,0,none⟩),.pointer (some ⟨bp,0,none⟩)]] W (cZ f q p S (j6 S x bs dir (aR path)) w0 R)):=Lh fun W bf bd bp bx bb hW=>by
  refine⟨hW.bC 4 rfl 0,?_⟩;have h1:Sep w0 W (aG f q p S a:: .box bx 118 (aL x (.slice none 0 0))::aQ (.slice none 0 0) []:: .box bf 24 #[.pointer (some ⟨f,0,none⟩)]:: .box bd 3 #[.int .i64 dir]:: .box bp 9 #[aM path]:: .box bb 35 #[.slice A0 L c0]::R):=Sep.bZ [6,2,0,5,4,3,1] (hW.fO 3 1) (by decide) (by simp);refine H5 OY hC hb hm.chg (fun W2 X hX=>?_) h1;(have h2:Sep w0 W2 (aG f q p S a::(.box bx 118 (aL x (.slice none 0 0))::aQ (.slice none 0 0) []:: .box bf 24 #[.pointer (some ⟨f,0,none⟩)]:: .box bd 3 #[.int .i64 dir]:: .box bp 9 #[aM path]:: .box bb 35 #[.slice A0 L c0]::(X++R))):=by refine hX.perm (List.Perm.cons _ ?_);have e:=List.perm_append_comm_assoc X [.box bx 118 (aL x (.slice none 0 0)),aQ (.slice none 0 0) [],.box bf 24 #[.pointer (some ⟨f,0,none⟩)],.box bd 3 #[.int .i64 dir],.box bp 9 #[aM path],.box bb 35 #[.slice A0 L c0]] R;exact e);exact aaX hC hF hm hv.more h2
 have hs:=((((h.bN 24 #[.pointer (some ⟨f,0,none⟩)]).bN 3 #[.int .i64 dir]).bN 9 #[aM path]).bN 118 (aL x (.slice none 0 0))).bN 35 #[.slice A0 L c0];have hc:=hch.out _ _ _ _ _ _ hs;simp only[OX]at hc;obtain⟨c0',hcall⟩:=hc;clear hch hs h hC hF hb hm hv;unfold aL aM at*;go_enter Tryz.func63,Tryz.ntmps63;go_wp2_with(go_at_call 65;refine hcall.mono ?_;intro e w9 ho;rcases lU ho with rfl|⟨k,rfl⟩)
 ·go_end0
  exact ho
 exact⟨rfl,ho⟩
end
end Go.Proofs.YteihmbaimbogaaaGreat
