/- Parts. -/
import Derived.Test.YtmjomdkleikgbaaGreatJ16
set_option linter.unusedVariables false
set_option linter.unusedSimpArgs false
namespace Go.Proofs.YtmjomdkleikgbaaGreat
theorem GA {name:List UInt8} {n:Nat} (h:name.length<=15) (k:Nat):(zC name n)[k]? =if 16<=k/\k<18 then(w2 n)[k-16]? else if 1<=k/\k<1+name.length then name[k-1]? else((List.replicate 32 (0:UInt8)).set 0 (UInt8.ofNat name.length))[k]? :=by
 unfold zC;rw[tH (by rw[fD D7];simp[rJ]),rJ];by_cases h1:16<=k/\k<16+2
 ·rw[if_pos h1,if_pos aI]
 rw[if_neg h1,if_neg aI,tH D7]
theorem ajU {name:List UInt8} {n:Nat} (h:name.length<=15):((zC name n).getD 0 0).toNat=name.length:=by rw[gH,GA h,if_neg aI,if_neg aI,MU bK,IW,vL];omega
theorem aaQ {name:List UInt8} {n:Nat} (h:name.length<=15):enN (zC name n)=name:=by
 unfold enN;rw[ajU h];apply FI;intro k;rw[uU];by_cases hk:k<name.length
 ·rw[if_pos hk,zP,GA h,if_neg aI,if_pos aI,IQ]
 rw[if_neg hk,EE aI]
theorem aaR {name:List UInt8} {n:Nat} (h:name.length<=15) (hn:n<=65535):enI (zC name n)=n:=by
 unfold enI r2;rw[gH,gH,GA h,GA h,if_pos aI,if_pos aI];show(UInt8.ofNat n).toNat+256*(UInt8.ofNat (n/256)).toNat=n
 rw[vL,vL];omega
theorem an5 {b e:List UInt8} {i k:Nat} (hb:b.length=512) (he:e.length=32):zB (dP b (i%16*32) e) k=if k%16=i%16 then e else zB b k:=by
 have hr:i%16*32+e.length<=b.length:=by omega
 unfold zB;by_cases hk:k%16=i%16
 ·rw[if_pos hk,hk];have:=UH hr;rw[he]at this;exact this
 rw[if_neg hk];apply FI;intro t;rw[uU,uU];by_cases ht:t<32
 ·rw[if_pos ht,if_pos ht,zP,zP,tH hr,he,if_neg aI]
 rw[if_neg ht,if_neg ht]
theorem dW.room {S:VS} (h:dW S) {s:Nat} (hs:s<S.count):S.data+s<S.nb-96:=by unfold VS.count at hs;omega
theorem dW.gZ {S:VS} (h:dW S) {s:Nat} (hs:s<S.count) (i:Nat) {name:List UInt8} (n:Nat) (hn:name.length<=15):dW (S.gZ s i name n):=
 h.put _ (by have hl:=jK h.cur (h.room hs);rw[fD (by rw[hl,NK hn];omega),hl])
theorem OT {S:VS} (h:dW S) (s i:Nat) (name:List UInt8) (n j:Nat):(S.gZ s i name n).bit j=S.bit j:=by
 show oV (bk (S.cur.set (S.data+s) _) 1) j=_
 rw[dJ _ _ (by unfold VS.data;omega)];rfl
theorem GD (S:VS) {s t:Nat} (i:Nat) (name:List UInt8) (n:Nat) (h:t≠s):bk (S.gZ s i name n).cur (S.data+t)=bk S.cur (S.data+t):=dJ _ _ aI
theorem getD_inj {l:List Nat} (h:l.Nodup) {a b:Nat} (ha:a<l.length) (hb:b<l.length) (e:l.getD a 0=l.getD b 0):a=b:=by
 rw[gH,gH,gE ha,gE hb]at e;simp only[IW]at e;have hp:=DY.1 h;rcases TI a b with h1|h1|h1
 ·exact absurd e (hp a b ha hb h1)
 ·exact h1
 exact absurd e.symm (hp b a hb ha h1)
theorem tZ {l:List Nat} {a:Nat} (ha:a<l.length):l.getD a 0∈l:=by rw[gH,gE ha];exact nJ ha
theorem OU {S:VS} (h:dW S) {x:VI} (hx:x.aB.Nodup) {i k n:Nat} {name:List UInt8} (hi:i<16*x.aB.length) (hk:k<16*x.aB.length) (hlt:∀s∈x.aB,s<S.count) (hn:name.length<=15):
  gJ (S.gZ (x.aB.getD (i/16) 0) i name n).cur S.data x k=if k=i then zC name n else gJ S.cur S.data x k:=by
 have hi2:i/16<x.aB.length:=by omega
 have hk2:k/16<x.aB.length:=by omega
 have hs:=hlt _ (tZ hi2);have hl:=jK h.cur (h.room hs);unfold gJ;by_cases e:k/16=i/16
 ·rw[e];(show zB (bk (S.cur.set _ _) _) k=_);rw[zV _ _ _ _ (by rw[h.cur.len];exact h.room hs),if_pos rfl,an5 hl (NK hn)];by_cases e2:k%16=i%16
  ·rw[if_pos e2,if_pos aI]
  rw[if_neg e2,if_neg aI]
 rw[GD _ _ _ _ (fun e2=>e (getD_inj hx hk2 hi2 e2)),if_neg aI]
theorem ajV (S:VS) {n:Nat} (hn:n<S.names) (y:VI) (s i:Nat) (name:List UInt8) (k:Nat):(S.keep n y).gZ s i name k=(S.gZ s i name k).keep n y:=by
 have hne:2+n/8≠S.data+s:=by unfold VS.data;omega
 have e1:bk (tY S.cur n y) (S.data+s)=bk S.cur (S.data+s):=AA _ _ (fun e=>hne e.symm);have e2:aF (S.gZ s i name k).cur n=aF S.cur n:=(Laid.gZ S s i name k).ino hn;have e3:bk (S.gZ s i name k).cur (2+n/8)=bk S.cur (2+n/8):=(Laid.gZ S s i name k).blk _ (by unfold VS.data;omega);have h1:((S.keep n y).gZ s i name k).cur=((S.gZ s i name k).keep n y).cur:=by(show(tY S.cur n y).set (S.data+s) (dP (bk (tY S.cur n y) (S.data+s)) _ _)=tY (S.gZ s i name k).cur n y);rw[e1];unfold tY;rw[e3];exact List.set_comm _ _ hne
 have h2:((S.keep n y).gZ s i name k).wB=((S.gZ s i name k).keep n y).wB:=by(show S.wB-fJ (aF S.cur n).kind (aF S.cur n).size+fJ y.kind y.size=S.wB-fJ (aF (S.gZ s i name k).cur n).kind (aF (S.gZ s i name k).cur n).size+fJ y.kind y.size);rw[e2]
 have h3:((S.keep n y).gZ s i name k).wI=((S.gZ s i name k).keep n y).wI:=by(show S.wI-nG (aF S.cur n).kind+nG y.kind=S.wI-nG (aF (S.gZ s i name k).cur n).kind+nG y.kind);rw[e2]
 have:∀(a b:VS),a.nb=b.nb->a.names=b.names->a.D=b.D->a.cur=b.cur->a.wB=b.wB->a.wI=b.wI->a.nodes=b.nodes->a.rB=b.rB->a.rI=b.rI->a.m=b.m->a=b:=fun a b=>by cases a;cases b;simp only[VS.mk.injEq];intros;simp_all
 exact this _ _ rfl rfl rfl h1 h2 h3 rfl rfl rfl rfl
structure Mid (S S1:VS):Prop where
 use:dW S1
 names:S1.names=S.names
 nb:S1.nb=S.nb
 ino:∀m<S.names,aF S1.cur m=aF S.cur m
 wB:S1.wB=S.wB
 wI:S1.wI=S.wI
theorem Mid.data {S S1:VS} (h:Mid S S1):S1.data=S.data:=by unfold VS.data;rw[h.names]
theorem Mid.count {S S1:VS} (h:Mid S S1):S1.count=S.count:=by unfold VS.count;rw[h.data,h.nb]
theorem Mid.used {S S1:VS} {k:Nat} (h:Used S S1 k) (hu:dW S1):Mid S S1:=⟨hu,h.names,h.nb,fun m _=>h.ino m,h.wB,h.wI⟩
theorem Mid.laid {S S1:VS} {k:Nat} (h:Laid S S1 k) (hu:dW S1):Mid S S1:=⟨hu,h.like.names,h.like.nb,fun m hm=>h.ino hm,h.wB,h.wI⟩
theorem Mid.trans {S T U:VS} (h:Mid S T) (g:Mid T U):Mid S U:=⟨g.use,g.names.trans h.names,g.nb.trans h.nb,fun m hm=>(g.ino m (by rw[h.names];exact hm)).trans (h.ino m hm),g.wB.trans h.wB,g.wI.trans h.wI⟩
theorem Mid.refl {S:VS} (h:dW S):Mid S S:=⟨h,rfl,rfl,fun _ _=>rfl,rfl,rfl⟩
theorem Mid.node {S:VS} (h:dW S) (z:Int):Mid S (S.node z):=⟨⟨h.cur,⟨h.vf.names,h.vf.room⟩,h.nb⟩,rfl,rfl,fun _ _=>rfl,rfl,rfl⟩
theorem Step.keep {S S1:VS} {g:LT} {n:Nat} {x:LI} {l:List Nat} (h:dB S g) (hn:n<S.names) (hm:Mid S S1) (fair:x.fair) (len:l.length=x.need) (lt:∀s∈l,s<S.count) (nodup:l.Nodup)
  (dis:∀m<S.names,m≠n->∀s∈(aF S.cur m).aB,s∉l) (bits:∀j<S.count,S1.bit j=true↔j∈l\/∃m<S.names,m≠n/\j∈(aF S.cur m).aB)
  (blk:∀m<S.names,m≠n->∀s∈(aF S.cur m).aB,bk S1.cur (S.data+s)=bk S.cur (S.data+s))
  (bB:x.kind=1->jL S1.cur S.data (x.vi l)=x.bB) (data:x.kind=2->eU S1.cur S.data (x.vi l)=x.data) (nodes:S1.nodes=S.nodes-(g n).bB.length+x.bB.length):
  Step S (S1.keep n (x.vi l)) g n x l:=by
 have hn1:n<S1.names:=by rw[hm.names];exact hn
 have az4:l.length<=28:=by rw[len];exact LI.ahT fair
 have hok:(x.vi l).ok:=LI.az3 fair az4 fun s hs=>h.OQ (lt s hs)
 have hkd:∀s,bk (S1.keep n (x.vi l)).cur (S.data+s)=bk S1.cur (S.data+s):=fun s=>by have:=ajS hn1 (x.vi l) s;rw[hm.data]at this;exact this
 refine⟨hm.use.keep hn1 az4,hm.names,hm.nb,fun m hmm=>?_,fair,len,lt,nodup,dis,fun j hj=>?_,fun m hmm e s hs=>?_,fun hk=>?_,fun hk=>?_,?_,?_,nodes⟩
 ·rw[an4 hm.use hn1 hok,hm.ino m hmm]
 ·rw[an3];exact bits j hj
 ·rw[hkd];exact blk m hmm e s hs
 ·rw[<-bB hk];(refine EK ?_ fun s _=>hkd s);(show x.size<=16*l.length);rw[len];unfold LI.size LI.need;rw[if_pos hk,if_pos hk];omega
 ·rw[<-data hk];exact vZ fun s _=>hkd s
 ·(show S1.wB-fJ (aF S1.cur n).kind (aF S1.cur n).size+fJ x.kind x.size=_);rw[hm.ino n hn,hm.wB,h.kind hn,h.size hn]
 show S1.wI-nG (aF S1.cur n).kind+nG x.kind=_
 rw[hm.ino n hn,hm.wI,h.kind hn]
theorem dB.others {S:VS} {g:LT} (h:dB S g) {n:Nat} (hn:n<S.names):∀m<S.names,m≠n->∀s∈(aF S.cur m).aB,s∉(aF S.cur n).aB:=fun m hm e=>h.dis m hm n hn e
theorem dB.aaS {S:VS} {g:LT} (h:dB S g) {n:Nat} (hn:n<S.names) {j:Nat} (hj:j<S.count):S.bit j=true↔j∈(aF S.cur n).aB\/∃m<S.names,m≠n/\j∈(aF S.cur m).aB:=by
 rw[h.bits j hj];constructor
 ·rintro⟨m,hm,h1⟩;by_cases e:m=n
  ·subst e;exact .inl h1
  exact .inr ⟨m,hm,e,h1⟩
 rintro(h1|⟨m,hm,_,h1⟩)
 ·exact⟨n,hn,h1⟩
 exact⟨m,hm,h1⟩
theorem ajW {c:fK} {d:Nat} {x y:VI} (h1:x.size=y.size) (h2:x.aB=y.aB):jL c d x=jL c d y:=by unfold jL gJ;rw[h1,h2]
theorem WX {c:fK} {d:Nat} {x y:VI} (h1:x.size=y.size) (h2:x.aB=y.aB):eU c d x=eU c d y:=by unfold eU;rw[h1,h2]
theorem dB.meta {S:VS} {g:LT} (h:dB S g) {n:Nat} (hn:n<S.names) {x:LI} (hx:x.fair) (hk:x.kind=(g n).kind) (he:x.bB=(g n).bB) (hd:x.data=(g n).data):
  dB (S.keep n (x.vi (aF S.cur n).aB)) (dM g n x):=by
 have hs:x.size=(g n).size:=by unfold LI.size;rw[hk,he,hd]
 have GG:x.need=(g n).need:=by unfold LI.need;rw[hk,he,hd]
 refine h.step hn (Step.keep h hn (Mid.refl h.use) hx (by rw[GG];exact h.len n hn) (h.lt n hn) (h.nodup n hn) (h.others hn) (fun j hj=>h.aaS hn hj) (fun _ _ _ _ _=>rfl) (fun k1=>?_) (fun k2=>?_) (by rw[he];omega))
 ·rw[he,<-h.bB n hn (by rw[<-hk];exact k1)];exact ajW (by rw[h.size hn];exact hs) rfl
 rw[hd,<-h.data n hn (by rw[<-hk];exact k2)];exact WX (by rw[h.size hn];exact hs) rfl
theorem dB.asX {S:VS} {g:LT} (h:dB S g) {n:Nat} (hn:n<S.names) (h0:(g n).kind=0) {mode links:Nat} (hm:mode<65536) (hl:links<65536):
  (aF S.cur n).aB=[]/\dB (S.keep n ⟨2,mode,links,0,[]⟩) (dM g n ⟨2,mode,links,[],[]⟩):=by
 have hz:(aF S.cur n).aB=[]:=uR (by rw[h.len n hn];unfold LI.need;rw[if_neg aI,if_neg aI]);have he:(g n).bB=[]:=(h.fair n hn).bB aI;have hf:(⟨2,mode,links,[],[]⟩:LI).fair:=⟨iU 2,fun _=>rfl,fun e=>absurd rfl e,fZ _,fZ _,hm,hl,fun e he=>by cases he⟩;refine⟨hz,h.step (x:=⟨2,mode,links,[],[]⟩) (l:=[]) hn (Step.keep (x:=⟨2,mode,links,[],[]⟩) (l:=[]) h hn (Mid.refl h.use) hf (by simp[LI.need]) (fun s hs=>by cases hs) .nil (fun _ _ _ s _ hs=>by cases hs) (fun j hj=>?_) (fun _ _ _ _ _=>rfl) (fun k1=>by cases k1) (fun _=>rfl) (by rw[he];simp))⟩;rw[h.aaS hn hj,hz]
def oL (g:LT) (n:Nat):Nat:=((List.range n).map fun i=>(g i).need).sum
theorem qF (g:LT) (n:Nat):oL g (n+1)=oL g n+(g n).need:=by unfold oL;rw[M7,mM,M8];simp
theorem aaT {g k:LT} {n:Nat} (h:∀i<n,(g i).need=(k i).need):oL g n=oL k n:=by
 induction n with
 |zero=>rfl
 |succ n ih=>rw[qF,qF,ih fun i hi=>h i aI,h n aI]
theorem wU {g:LT} {n k:Nat} (hk:k<n) (x:LI):oL (dM g k x) n+(g k).need=oL g n+x.need:=by
 induction n with
 |zero=>omega
 |succ n ih=>
  rw[qF,qF];by_cases e:k=n
  ·subst e;rw[bJ,aaT (g:=dM g k x) (k:=g) fun i hi=>by rw[bL _ _ aI]];omega
  rw[bL _ _ (fun h=>e h.symm)];have:=ih aI;omega
theorem dB.used {S:VS} {g:LT} (h:dB S g) (t:List Nat) (ht:∀j<S.count,S.bit j=true\/j∈t):S.count<=oL g S.names+t.length:=by
 have h1:∀n≤S.names,((List.range n).flatMap fun i=>(aF S.cur i).aB).length=oL g n:=by
  intro n
  induction n with
  |zero=>intro _;rfl
  |succ n ih=>intro hn;rw[M7,WE,jJ,ih aI,qF];simp only[wJ,List.flatMap_nil,yX42];rw[h.len n aI]
 have h2:(List.range S.count).length<=(((List.range S.names).flatMap fun i=>(aF S.cur i).aB)++t).length:=aiZ List.nodup_range fun j hj=>by
  have hj2:=List.mem_range.1 hj;rw[iM];rcases ht j hj2 with h3|h3
  ·obtain⟨n,hn,h4⟩:=(h.bits j hj2).1 h3;exact .inl (List.mem_flatMap.2 ⟨n,List.mem_range.2 hn,h4⟩)
  exact .inr h3
 rw[KD,jJ,h1 _ (iU _)]at h2;exact h2
def LI.more (x:LI) (name:List UInt8) (n:Nat):LI:= {x with bB:=x.bB++[(name,n)]}
theorem LI.CJ {x:LI} (h:x.fair) (hk:x.kind=1) {name:List UInt8} {n:Nat} (hl:x.bB.length<448) (hn:name.length<=15) (hm:n<=65535):(x.more name n).fair:=
 ⟨h.kind,fun e=>absurd hk e,h.data,by show(x.bB++[(name,n)]).length<=448;rw[jJ];simp;omega,h.short,h.mode,h.links,fun e he=>by
  rcases iM.1 he with he|he
  ·exact h.names e he
  rw[rW]at he;subst he;exact⟨hn,hm⟩⟩
theorem kQ {x:LI} (hk:x.kind=1):x.need=max 1 ((x.bB.length+15)/16):=by unfold LI.need;rw[if_pos hk]
theorem uA {x:LI} (hk:x.kind=1):x.size=x.bB.length:=by unfold LI.size;rw[if_pos hk]
theorem dB.sN {S:VS} {g:LT} (h:dB S g) {n:Nat} (hn:n<S.names) {s:Nat} (hs:s∈(aF S.cur n).aB):S.bit s=true:=(h.bits s (h.lt n hn s hs)).2 ⟨n,hn,hs⟩
theorem sO {S S1:VS} {k:Nat} (h:Used S S1 k) (s:Nat):bk S1.cur (S.data+s)=bk S.cur (S.data+s):=h.blk _ (by unfold VS.data;omega)
theorem aeH {c:fK} {d:Nat} {x:VI} {n:Nat} (h:x.size=n+1):jL c d x=(List.range n).map (fun i=>(enN (gJ c d x i),enI (gJ c d x i)))++[(enN (gJ c d x n),enI (gJ c d x n))]:=by unfold jL;rw[h,M7,mM];rfl
theorem an6 {c:fK} {d:Nat} {x:VI} {L:tJ} (h:jL c d x=L):L=(List.range x.size).map fun i=>(enN (gJ c d x i),enI (gJ c d x i)):=h.symm
theorem aaU {l t:List Nat} {a:Nat} (h:a<l.length):(l++t).getD a 0=l.getD a 0:=by rw[gH,gH,C9 h]
theorem dB.enter {S:VS} {g:LT} (h:dB S g) {dir n:Nat} {name:List UInt8} (hd:dir<S.names) (hk:(g dir).kind=1) (hsz:(g dir).bB.length<448) (hname:name.length<=15) (hn:n<=65535):
  (∀S1,gL S dir name n=some S1->dB S1 (dM g dir ((g dir).more name n)))/\
  (gL S dir name n=none->S.count<oL (dM g dir ((g dir).more name n)) S.names):=by
 have hx:=h.head dir hd;have hsize:(aF S.cur dir).size=(g dir).bB.length:=by rw[h.size hd,uA hk]
 have hlen:(aF S.cur dir).aB.length=max 1 (((g dir).bB.length+15)/16):=by rw[h.len dir hd,kQ hk]
 obtain⟨L,hL⟩:∃L,L=(g dir).bB.length:=⟨_,rfl⟩;rw[<-hL]at hsize hlen hsz;obtain⟨sp,hsp⟩:∃sp,sp=(aF S.cur dir).aB:=⟨_,rfl⟩;rw[<-hsp]at hlen;have hfair:=LI.CJ (h.fair dir hd) hk aI hname hn;have GG:((g dir).more name n).need=(L+16)/16:=by rw[kQ (show((g dir).more name n).kind=1 from hk)];(show max 1 ((((g dir).bB++[(name,n)]).length+15)/16)=_);rw[jJ,<-hL];simp only[nZ];omega
 have hu0:dW (S.node (S.nodes+1)):=(Mid.node h.use _).use;obtain⟨f1,f2⟩:=OO (S:=S.node (S.nodes+1)) (l:=sp) (n:=(L+16)/16) hu0 aI;have he:gL S dir name n=(match jM (S.node (S.nodes+1)) sp ((L+16)/16)with
  |none=>none
  |some (S1,l)=>some ((S1.keep dir {aF S.cur dir with size:=L+1,aB:=l}).gZ (l.getD (L/16) 0) L name n)):=by
  unfold gL
  rw[hsize,<-hsp]
  rfl
 rw[he];cases hf:jM (S.node (S.nodes+1)) sp ((L+16)/16)with
 |none=>refine⟨fun S1 e=>(by cases e),fun _=>?_⟩;obtain⟨t,ht1,ht2⟩:=f2 hf;have h1:=h.used t ht2;have h2:=wU hd ((g dir).more name n) (g:=g);rw[GG,kQ hk,<-hL]at h2;omega
 |some r=>
  obtain⟨S1,l⟩:=r;obtain⟨hu1,t,hl,htl,htn,htb,hbit⟩:=f1 S1 l hf;have MH:=(iX hf).1;refine⟨fun S2 e=>?_,fun e=>(by cases e)⟩;cases e;have hm1:Mid S S1:=(Mid.node h.use _).trans (Mid.used MH hu1);(have hd1:dir<S1.names:=by rw[hm1.names];exact hd);rw[ajV S1 hd1];(have hll:l.length=(L+16)/16:=by rw[hl,jJ,htl];omega);have hlt:∀s∈l,s<S.count:=fun s hs=>by
   rw[hl]at hs;rcases iM.1 hs with hs|hs
   ·exact h.lt dir hd s (by rw[<-hsp];exact hs)
   exact(htb s hs).1
  (have htS:∀s∈t,S.bit s=false:=fun s hs=>(htb s hs).2);(have hnd:l.Nodup:=by rw[hl,uW];refine⟨by rw[hsp];exact h.nodup dir hd,htn,fun a ha b hb e=>?_⟩;subst e;have h1:=h.sN hd (by rw[<-hsp];exact ha);rw[htS a hb]at h1;cases h1);have an7:∀m<S.names,m≠dir->∀s∈(aF S.cur m).aB,s∉l:=fun m hmm e s hs hs2=>by
   rw[hl]at hs2;rcases iM.1 hs2 with hs2|hs2
   ·exact h.others hd m hmm e s hs (by rw[<-hsp];exact hs2)
   have h1:=h.sN hmm hs;rw[htS s hs2]at h1;cases h1
  have hsl:l.getD (L/16) 0∈l:=tZ aI;(have hs1:l.getD (L/16) 0<S1.count:=by rw[hm1.count];exact hlt _ hsl);have hm2:Mid S (S1.gZ (l.getD (L/16) 0) L name n):=hm1.trans (Mid.laid (Laid.gZ S1 _ _ _ _) (hu1.gZ hs1 _ _ hname));(have hy:({aF S.cur dir with size:=L+1,aB:=l}:VI)=((g dir).more name n).vi l:=by rw[hx];unfold LI.vi LI.more;simp only[VI.mk.injEq,true_and,and_true];unfold LI.size;rw[if_pos hk];simp only[jJ,nZ];omega);rw[hy];(have az5:∀k,k<16*l.length->∀x:VI,x.aB=l->gJ (S1.gZ (l.getD (L/16) 0) L name n).cur S.data x k=if k=L then zC name n else gJ S1.cur S.data x k:=fun k hk2 x hxl=>by have:=OU (S:=S1) hu1 (x:=x) (by rw[hxl];exact hnd) (i:=L) (k:=k) (n:=n) (name:=name) (by rw[hxl];omega) (by rw[hxl];exact hk2) (by rw[hxl,hm1.count];exact hlt) hname;rw[hxl,hm1.data]at this;exact this);refine h.step hd (Step.keep h hd hm2 hfair (by rw[GG];exact hll) hlt hnd an7 (fun j hj=>?_) (fun m hmm e s hs=>?_) (fun _=>?_) (fun k2=>?_) ?_)
  ·rw[OT hu1,hbit];have hb2:=h.aaS hd hj;rw[<-hsp]at hb2;(show((S.bit j||decide (j∈t))=true)↔_);rw[LC,hb2,hl,iM,uQ];constructor
   ·rintro((h1|h1)|h1)
    ·exact .inl (.inl h1)
    ·exact .inr h1
    exact .inl (.inr h1)
   rintro((h1|h1)|h1)
   ·exact .inl (.inl h1)
   ·exact .inr h1
   exact .inl (.inr h1)
  ·(have hne:s≠l.getD (L/16) 0:=fun e2=>an7 m hmm e s hs (by rw[e2];exact hsl));have:=GD S1 (s:=l.getD (L/16) 0) (t:=s) L name n hne;rw[hm1.data]at this;rw[this];exact sO MH s
  ·rw[aeH (n:=L) (by show((g dir).more name n).size=_;unfold LI.size;rw[if_pos (by exact hk)];show((g dir).bB++[(name,n)]).length=_;rw[jJ,<-hL];rfl)];(have e1:(g dir).bB=(List.range L).map fun i=>(enN (gJ S.cur S.data (aF S.cur dir) i),enI (gJ S.cur S.data (aF S.cur dir) i)):=by have:=an6 (h.bB dir hd hk);rw[hsize]at this;exact this);(show _=(g dir).bB++[(name,n)]);rw[e1];congr 1
   ·(refine vW fun i hi=>?_);have hi2:=List.mem_range.1 hi;(have hi3:i/16<sp.length:=by omega);rw[az5 i aI _ rfl,if_neg aI];(have e2:gJ S1.cur S.data (((g dir).more name n).vi l) i=gJ S.cur S.data (aF S.cur dir) i:=by unfold gJ;(show zB (bk S1.cur (S.data+l.getD (i/16) 0)) i=_);have eb:bk S1.cur (S.data+sp.getD (i/16) 0)=bk S.cur (S.data+sp.getD (i/16) 0):=sO MH _;rw[hl,aaU hi3,eb,hsp]);rw[e2]
   rw[az5 L aI _ rfl,if_pos rfl,aaQ hname,aaR hname hn]
  ·exact absurd (show(g dir).kind=2 from k2) aI
  (show S1.nodes=S.nodes-(g dir).bB.length+(((g dir).bB++[(name,n)]).length:Nat));rw[MH.nodes,jJ];(show S.nodes+1=_);simp only[nZ];omega
end Go.Proofs.YtmjomdkleikgbaaGreat
