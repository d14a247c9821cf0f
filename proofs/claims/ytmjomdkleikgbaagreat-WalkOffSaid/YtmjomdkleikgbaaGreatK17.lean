/- Parts. -/
import Derived.Test.YtmjomdkleikgbaaGreatK16
set_option linter.unusedVariables false
set_option linter.unusedSimpArgs false
namespace Go.Proofs.YtmjomdkleikgbaaGreat
theorem IG {name:List UInt8} {n:Nat} (h:name.length<=15) (k:Nat):(AO name n)[k]? =if 16<=k/\k<18 then(w2 n)[k-16]? else if 1<=k/\k<1+name.length then name[k-1]? else((List.replicate 32 (0:UInt8)).set 0 (UInt8.ofNat name.length))[k]? :=by
 unfold AO;rw[uR (by rw[fP E8];simp[sQ]),sQ];by_cases h1:16<=k/\k<16+2
 ·rw[if_pos h1,if_pos aD]
 rw[if_neg h1,if_neg aD,uR E8]
theorem amP {name:List UInt8} {n:Nat} (h:name.length<=15):((AO name n).getD 0 0).toNat=name.length:=by rw[gH,IG h,if_neg aD,if_neg aD,OI bK,GX,wL];omega
theorem acZ {name:List UInt8} {n:Nat} (h:name.length<=15):enN (AO name n)=name:=by
 unfold enN;rw[amP h];apply GV;intro k;rw[vV];by_cases hk:k<name.length
 ·rw[if_pos hk,AV,IG h,if_neg aD,if_pos aD,J2]
 rw[if_neg hk,FK aD]
theorem ac0 {name:List UInt8} {n:Nat} (h:name.length<=15) (hn:n<=65535):enI (AO name n)=n:=by
 unfold enI r2;rw[gH,gH,IG h,IG h,if_pos aD,if_pos aD];show(UInt8.ofNat n).toNat+256*(UInt8.ofNat (n/256)).toNat=n
 rw[wL,wL];omega
theorem aqX {b e:List UInt8} {i k:Nat} (hb:b.length=512) (he:e.length=32):AL (dR b (i%16*32) e) k=if k%16=i%16 then e else AL b k:=by
 have hr:i%16*32+e.length<=b.length:=by omega
 unfold AL;by_cases hk:k%16=i%16
 ·rw[if_pos hk,hk];have:=WJ hr;rw[he]at this;exact this
 rw[if_neg hk];apply GV;intro t;rw[vV,vV];by_cases ht:t<32
 ·rw[if_pos ht,if_pos ht,AV,AV,uR hr,he,if_neg aD]
 rw[if_neg ht,if_neg ht]
theorem dZ.room {S:VS} (h:dZ S) {s:Nat} (hs:s<S.count):S.data+s<S.nb-96:=by unfold VS.count at hs;omega
theorem dZ.iD {S:VS} (h:dZ S) {s:Nat} (hs:s<S.count) (i:Nat) {name:List UInt8} (n:Nat) (hn:name.length<=15):dZ (S.iD s i name n):=
 h.put _ (by have hl:=jW h.cur (h.room hs);rw[fP (by rw[hl,PG hn];omega),hl])
theorem QI {S:VS} (h:dZ S) (s i:Nat) (name:List UInt8) (n j:Nat):(S.iD s i name n).bit j=S.bit j:=by
 show pJ (bk (S.cur.set (S.data+s) _) 1) j=_
 rw[dK _ _ (by unfold VS.data;omega)];rfl
theorem II (S:VS) {s t:Nat} (i:Nat) (name:List UInt8) (n:Nat) (h:t≠s):bk (S.iD s i name n).cur (S.data+t)=bk S.cur (S.data+t):=dK _ _ aD
theorem getD_inj {l:List Nat} (h:l.Nodup) {a b:Nat} (ha:a<l.length) (hb:b<l.length) (e:l.getD a 0=l.getD b 0):a=b:=by
 rw[gH,gH,gE ha,gE hb]at e;simp only[GX]at e;have hp:=EX.1 h;rcases UK a b with h1|h1|h1
 ·exact absurd e (hp a b ha hb h1)
 ·exact h1
 exact absurd e.symm (hp b a hb ha h1)
theorem vD {l:List Nat} {a:Nat} (ha:a<l.length):l.getD a 0∈l:=by rw[gH,gE ha];exact nW ha
theorem QJ {S:VS} (h:dZ S) {x:VI} (hx:x.aB.Nodup) {i k n:Nat} {name:List UInt8} (hi:i<16*x.aB.length) (hk:k<16*x.aB.length) (hlt:∀s∈x.aB,s<S.count) (hn:name.length<=15):
  gT (S.iD (x.aB.getD (i/16) 0) i name n).cur S.data x k=if k=i then AO name n else gT S.cur S.data x k:=by
 have hi2:i/16<x.aB.length:=by omega
 have hk2:k/16<x.aB.length:=by omega
 have hs:=hlt _ (vD hi2);have hl:=jW h.cur (h.room hs);unfold gT;by_cases e:k/16=i/16
 ·rw[e];(show AL (bk (S.cur.set _ _) _) k=_);rw[BG _ _ _ _ (by rw[h.cur.len];exact h.room hs),if_pos rfl,aqX hl (PG hn)];by_cases e2:k%16=i%16
  ·rw[if_pos e2,if_pos aD]
  rw[if_neg e2,if_neg aD]
 rw[II _ _ _ _ (fun e2=>e (getD_inj hx hk2 hi2 e2)),if_neg aD]
theorem amQ (S:VS) {n:Nat} (hn:n<S.names) (y:VI) (s i:Nat) (name:List UInt8) (k:Nat):(S.keep n y).iD s i name k=(S.iD s i name k).keep n y:=by
 have hne:2+n/8≠S.data+s:=by unfold VS.data;omega
 have e1:bk (vC S.cur n y) (S.data+s)=bk S.cur (S.data+s):=BO _ _ (fun e=>hne e.symm);have e2:aH (S.iD s i name k).cur n=aH S.cur n:=(Laid.iD S s i name k).ino hn;have e3:bk (S.iD s i name k).cur (2+n/8)=bk S.cur (2+n/8):=(Laid.iD S s i name k).blk _ (by unfold VS.data;omega);have h1:((S.keep n y).iD s i name k).cur=((S.iD s i name k).keep n y).cur:=by(show(vC S.cur n y).set (S.data+s) (dR (bk (vC S.cur n y) (S.data+s)) _ _)=vC (S.iD s i name k).cur n y);rw[e1];unfold vC;rw[e3];exact List.set_comm _ _ hne
 have h2:((S.keep n y).iD s i name k).wB=((S.iD s i name k).keep n y).wB:=by(show S.wB-eO (aH S.cur n).kind (aH S.cur n).size+eO y.kind y.size=S.wB-eO (aH (S.iD s i name k).cur n).kind (aH (S.iD s i name k).cur n).size+eO y.kind y.size);rw[e2]
 have h3:((S.keep n y).iD s i name k).wI=((S.iD s i name k).keep n y).wI:=by(show S.wI-nS (aH S.cur n).kind+nS y.kind=S.wI-nS (aH (S.iD s i name k).cur n).kind+nS y.kind);rw[e2]
 have:∀(a b:VS),a.nb=b.nb->a.names=b.names->a.D=b.D->a.cur=b.cur->a.wB=b.wB->a.wI=b.wI->a.nodes=b.nodes->a.rB=b.rB->a.rI=b.rI->a.m=b.m->a=b:=fun a b=>by cases a;cases b;simp only[VS.mk.injEq];intros;simp_all
 exact this _ _ rfl rfl rfl h1 h2 h3 rfl rfl rfl rfl
structure Mid (S S1:VS):Prop where
 use:dZ S1
 names:S1.names=S.names
 nb:S1.nb=S.nb
 ino:∀m<S.names,aH S1.cur m=aH S.cur m
 wB:S1.wB=S.wB
 wI:S1.wI=S.wI
theorem Mid.data {S S1:VS} (h:Mid S S1):S1.data=S.data:=by unfold VS.data;rw[h.names]
theorem Mid.count {S S1:VS} (h:Mid S S1):S1.count=S.count:=by unfold VS.count;rw[h.data,h.nb]
theorem Mid.used {S S1:VS} {k:Nat} (h:Used S S1 k) (hu:dZ S1):Mid S S1:=⟨hu,h.names,h.nb,fun m _=>h.ino m,h.wB,h.wI⟩
theorem Mid.laid {S S1:VS} {k:Nat} (h:Laid S S1 k) (hu:dZ S1):Mid S S1:=⟨hu,h.like.names,h.like.nb,fun m hm=>h.ino hm,h.wB,h.wI⟩
theorem Mid.trans {S T U:VS} (h:Mid S T) (g:Mid T U):Mid S U:=⟨g.use,g.names.trans h.names,g.nb.trans h.nb,fun m hm=>(g.ino m (by rw[h.names];exact hm)).trans (h.ino m hm),g.wB.trans h.wB,g.wI.trans h.wI⟩
theorem Mid.refl {S:VS} (h:dZ S):Mid S S:=⟨h,rfl,rfl,fun _ _=>rfl,rfl,rfl⟩
theorem Mid.node {S:VS} (h:dZ S) (z:Int):Mid S (S.node z):=⟨⟨h.cur,⟨h.vf.names,h.vf.room⟩,h.nb⟩,rfl,rfl,fun _ _=>rfl,rfl,rfl⟩
theorem Step.keep {S S1:VS} {g:LT} {n:Nat} {x:LI} {l:List Nat} (h:dD S g) (hn:n<S.names) (hm:Mid S S1) (fair:x.fair) (len:l.length=x.need) (lt:∀s∈l,s<S.count) (nodup:l.Nodup)
  (dis:∀m<S.names,m≠n->∀s∈(aH S.cur m).aB,s∉l) (bits:∀j<S.count,S1.bit j=true↔j∈l\/∃m<S.names,m≠n/\j∈(aH S.cur m).aB)
  (blk:∀m<S.names,m≠n->∀s∈(aH S.cur m).aB,bk S1.cur (S.data+s)=bk S.cur (S.data+s))
  (bH:x.kind=1->jX S1.cur S.data (x.vi l)=x.bH) (data:x.kind=2->fB S1.cur S.data (x.vi l)=x.data) (nodes:S1.nodes=S.nodes-(g n).bH.length+x.bH.length):
  Step S (S1.keep n (x.vi l)) g n x l:=by
 have hn1:n<S1.names:=by rw[hm.names];exact hn
 have aD3:l.length<=28:=by rw[len];exact LI.akJ fair
 have hok:(x.vi l).ok:=LI.aD2 fair aD3 fun s hs=>h.QH (lt s hs)
 have hkd:∀s,bk (S1.keep n (x.vi l)).cur (S.data+s)=bk S1.cur (S.data+s):=fun s=>by have:=amN hn1 (x.vi l) s;rw[hm.data]at this;exact this
 refine⟨hm.use.keep hn1 aD3,hm.names,hm.nb,fun m hmm=>?_,fair,len,lt,nodup,dis,fun j hj=>?_,fun m hmm e s hs=>?_,fun hk=>?_,fun hk=>?_,?_,?_,nodes⟩
 ·rw[aqW hm.use hn1 hok,hm.ino m hmm]
 ·rw[aqV];exact bits j hj
 ·rw[hkd];exact blk m hmm e s hs
 ·rw[<-bH hk];(refine FW ?_ fun s _=>hkd s);(show x.size<=16*l.length);rw[len];unfold LI.size LI.need;rw[if_pos hk,if_pos hk];omega
 ·rw[<-data hk];exact wW fun s _=>hkd s
 ·(show S1.wB-eO (aH S1.cur n).kind (aH S1.cur n).size+eO x.kind x.size=_);rw[hm.ino n hn,hm.wB,h.kind hn,h.size hn]
 show S1.wI-nS (aH S1.cur n).kind+nS x.kind=_
 rw[hm.ino n hn,hm.wI,h.kind hn]
theorem dD.others {S:VS} {g:LT} (h:dD S g) {n:Nat} (hn:n<S.names):∀m<S.names,m≠n->∀s∈(aH S.cur m).aB,s∉(aH S.cur n).aB:=fun m hm e=>h.dis m hm n hn e
theorem dD.ac1 {S:VS} {g:LT} (h:dD S g) {n:Nat} (hn:n<S.names) {j:Nat} (hj:j<S.count):S.bit j=true↔j∈(aH S.cur n).aB\/∃m<S.names,m≠n/\j∈(aH S.cur m).aB:=by
 rw[h.bits j hj];constructor
 ·rintro⟨m,hm,h1⟩;by_cases e:m=n
  ·subst e;exact .inl h1
  exact .inr ⟨m,hm,e,h1⟩
 rintro(h1|⟨m,hm,_,h1⟩)
 ·exact⟨n,hn,h1⟩
 exact⟨m,hm,h1⟩
theorem amR {c:gI} {d:Nat} {x y:VI} (h1:x.size=y.size) (h2:x.aB=y.aB):jX c d x=jX c d y:=by unfold jX gT;rw[h1,h2]
theorem ZM {c:gI} {d:Nat} {x y:VI} (h1:x.size=y.size) (h2:x.aB=y.aB):fB c d x=fB c d y:=by unfold fB;rw[h1,h2]
theorem dD.meta {S:VS} {g:LT} (h:dD S g) {n:Nat} (hn:n<S.names) {x:LI} (hx:x.fair) (hk:x.kind=(g n).kind) (he:x.bH=(g n).bH) (hd:x.data=(g n).data):
  dD (S.keep n (x.vi (aH S.cur n).aB)) (dP g n x):=by
 have hs:x.size=(g n).size:=by unfold LI.size;rw[hk,he,hd]
 have IJ:x.need=(g n).need:=by unfold LI.need;rw[hk,he,hd]
 refine h.step hn (Step.keep h hn (Mid.refl h.use) hx (by rw[IJ];exact h.len n hn) (h.lt n hn) (h.nodup n hn) (h.others hn) (fun j hj=>h.ac1 hn hj) (fun _ _ _ _ _=>rfl) (fun k1=>?_) (fun k2=>?_) (by rw[he];omega))
 ·rw[he,<-h.bH n hn (by rw[<-hk];exact k1)];exact amR (by rw[h.size hn];exact hs) rfl
 rw[hd,<-h.data n hn (by rw[<-hk];exact k2)];exact ZM (by rw[h.size hn];exact hs) rfl
theorem dD.awH {S:VS} {g:LT} (h:dD S g) {n:Nat} (hn:n<S.names) (h0:(g n).kind=0) {mode links:Nat} (hm:mode<65536) (hl:links<65536):
  (aH S.cur n).aB=[]/\dD (S.keep n ⟨2,mode,links,0,[]⟩) (dP g n ⟨2,mode,links,[],[]⟩):=by
 have hz:(aH S.cur n).aB=[]:=vS (by rw[h.len n hn];unfold LI.need;rw[if_neg aD,if_neg aD]);have he:(g n).bH=[]:=(h.fair n hn).bH aD;have hf:(⟨2,mode,links,[],[]⟩:LI).fair:=⟨iC 2,fun _=>rfl,fun e=>absurd rfl e,fZ _,fZ _,hm,hl,fun e he=>by cases he⟩;refine⟨hz,h.step (x:=⟨2,mode,links,[],[]⟩) (l:=[]) hn (Step.keep (x:=⟨2,mode,links,[],[]⟩) (l:=[]) h hn (Mid.refl h.use) hf (by simp[LI.need]) (fun s hs=>by cases hs) .nil (fun _ _ _ s _ hs=>by cases hs) (fun j hj=>?_) (fun _ _ _ _ _=>rfl) (fun k1=>by cases k1) (fun _=>rfl) (by rw[he];simp))⟩;rw[h.ac1 hn hj,hz]
def oZ (g:LT) (n:Nat):Nat:=((List.range n).map fun i=>(g i).need).sum
theorem rE (g:LT) (n:Nat):oZ g (n+1)=oZ g n+(g n).need:=by unfold oZ;rw[OX,mZ,LZ];simp
theorem ac2 {g k:LT} {n:Nat} (h:∀i<n,(g i).need=(k i).need):oZ g n=oZ k n:=by
 induction n with
 |zero=>rfl
 |succ n ih=>rw[rE,rE,ih fun i hi=>h i aD,h n aD]
theorem xV {g:LT} {n k:Nat} (hk:k<n) (x:LI):oZ (dP g k x) n+(g k).need=oZ g n+x.need:=by
 induction n with
 |zero=>omega
 |succ n ih=>
  rw[rE,rE];by_cases e:k=n
  ·subst e;rw[bM,ac2 (g:=dP g k x) (k:=g) fun i hi=>by rw[bR _ _ aD]];omega
  rw[bR _ _ (fun h=>e h.symm)];have:=ih aD;omega
theorem dD.used {S:VS} {g:LT} (h:dD S g) (t:List Nat) (ht:∀j<S.count,S.bit j=true\/j∈t):S.count<=oZ g S.names+t.length:=by
 have h1:∀n≤S.names,((List.range n).flatMap fun i=>(aH S.cur i).aB).length=oZ g n:=by
  intro n
  induction n with
  |zero=>intro _;rfl
  |succ n ih=>intro hn;rw[OX,Y3,jM,ih aD,rE];simp only[xI,List.flatMap_nil,yX46];rw[h.len n aD]
 have h2:(List.range S.count).length<=(((List.range S.names).flatMap fun i=>(aH S.cur i).aB)++t).length:=alW List.nodup_range fun j hj=>by
  have hj2:=List.mem_range.1 hj;rw[iM];rcases ht j hj2 with h3|h3
  ·obtain⟨n,hn,h4⟩:=(h.bits j hj2).1 h3;exact .inl (List.mem_flatMap.2 ⟨n,List.mem_range.2 hn,h4⟩)
  exact .inr h3
 rw[LW,jM,h1 _ (iC _)]at h2;exact h2
def LI.more (x:LI) (name:List UInt8) (n:Nat):LI:= {x with bH:=x.bH++[(name,n)]}
theorem LI.DW {x:LI} (h:x.fair) (hk:x.kind=1) {name:List UInt8} {n:Nat} (hl:x.bH.length<448) (hn:name.length<=15) (hm:n<=65535):(x.more name n).fair:=
 ⟨h.kind,fun e=>absurd hk e,h.data,by show(x.bH++[(name,n)]).length<=448;rw[jM];simp;omega,h.short,h.mode,h.links,fun e he=>by
  rcases iM.1 he with he|he
  ·exact h.names e he
  rw[tJ]at he;subst he;exact⟨hn,hm⟩⟩
theorem lF {x:LI} (hk:x.kind=1):x.need=max 1 ((x.bH.length+15)/16):=by unfold LI.need;rw[if_pos hk]
theorem vE {x:LI} (hk:x.kind=1):x.size=x.bH.length:=by unfold LI.size;rw[if_pos hk]
theorem dD.uE {S:VS} {g:LT} (h:dD S g) {n:Nat} (hn:n<S.names) {s:Nat} (hs:s∈(aH S.cur n).aB):S.bit s=true:=(h.bits s (h.lt n hn s hs)).2 ⟨n,hn,hs⟩
theorem uF {S S1:VS} {k:Nat} (h:Used S S1 k) (s:Nat):bk S1.cur (S.data+s)=bk S.cur (S.data+s):=h.blk _ (by unfold VS.data;omega)
theorem ag4 {c:gI} {d:Nat} {x:VI} {n:Nat} (h:x.size=n+1):jX c d x=(List.range n).map (fun i=>(enN (gT c d x i),enI (gT c d x i)))++[(enN (gT c d x n),enI (gT c d x n))]:=by unfold jX;rw[h,OX,mZ];rfl
theorem aqY {c:gI} {d:Nat} {x:VI} {L:uS} (h:jX c d x=L):L=(List.range x.size).map fun i=>(enN (gT c d x i),enI (gT c d x i)):=h.symm
theorem ac3 {l t:List Nat} {a:Nat} (h:a<l.length):(l++t).getD a 0=l.getD a 0:=by rw[gH,gH,EI h]
theorem dD.enter {S:VS} {g:LT} (h:dD S g) {dir n:Nat} {name:List UInt8} (hd:dir<S.names) (hk:(g dir).kind=1) (hsz:(g dir).bH.length<448) (hname:name.length<=15) (hn:n<=65535):
  (∀S1,gV S dir name n=some S1->dD S1 (dP g dir ((g dir).more name n)))/\
  (gV S dir name n=none->S.count<oZ (dP g dir ((g dir).more name n)) S.names):=by
 have hx:=h.head dir hd;have hsize:(aH S.cur dir).size=(g dir).bH.length:=by rw[h.size hd,vE hk]
 have hlen:(aH S.cur dir).aB.length=max 1 (((g dir).bH.length+15)/16):=by rw[h.len dir hd,lF hk]
 obtain⟨L,hL⟩:∃L,L=(g dir).bH.length:=⟨_,rfl⟩;rw[<-hL]at hsize hlen hsz;obtain⟨sp,hsp⟩:∃sp,sp=(aH S.cur dir).aB:=⟨_,rfl⟩;rw[<-hsp]at hlen;have hfair:=LI.DW (h.fair dir hd) hk aD hname hn;have IJ:((g dir).more name n).need=(L+16)/16:=by rw[lF (show((g dir).more name n).kind=1 from hk)];(show max 1 ((((g dir).bH++[(name,n)]).length+15)/16)=_);rw[jM,<-hL];simp only[oL];omega
 have hu0:dZ (S.node (S.nodes+1)):=(Mid.node h.use _).use;obtain⟨f1,f2⟩:=QF (S:=S.node (S.nodes+1)) (l:=sp) (n:=(L+16)/16) hu0 aD;have he:gV S dir name n=(match jY (S.node (S.nodes+1)) sp ((L+16)/16)with
  |none=>none
  |some (S1,l)=>some ((S1.keep dir {aH S.cur dir with size:=L+1,aB:=l}).iD (l.getD (L/16) 0) L name n)):=by
  unfold gV
  rw[hsize,<-hsp]
  rfl
 rw[he];cases hf:jY (S.node (S.nodes+1)) sp ((L+16)/16)with
 |none=>refine⟨fun S1 e=>(by cases e),fun _=>?_⟩;obtain⟨t,ht1,ht2⟩:=f2 hf;have h1:=h.used t ht2;have h2:=xV hd ((g dir).more name n) (g:=g);rw[IJ,lF hk,<-hL]at h2;omega
 |some r=>
  obtain⟨S1,l⟩:=r;obtain⟨hu1,t,hl,htl,htn,htb,hbit⟩:=f1 S1 l hf;have NW:=(jR hf).1;refine⟨fun S2 e=>?_,fun e=>(by cases e)⟩;cases e;have hm1:Mid S S1:=(Mid.node h.use _).trans (Mid.used NW hu1);(have hd1:dir<S1.names:=by rw[hm1.names];exact hd);rw[amQ S1 hd1];(have hll:l.length=(L+16)/16:=by rw[hl,jM,htl];omega);have hlt:∀s∈l,s<S.count:=fun s hs=>by
   rw[hl]at hs;rcases iM.1 hs with hs|hs
   ·exact h.lt dir hd s (by rw[<-hsp];exact hs)
   exact(htb s hs).1
  (have htS:∀s∈t,S.bit s=false:=fun s hs=>(htb s hs).2);(have hnd:l.Nodup:=by rw[hl,tK];refine⟨by rw[hsp];exact h.nodup dir hd,htn,fun a ha b hb e=>?_⟩;subst e;have h1:=h.uE hd (by rw[<-hsp];exact ha);rw[htS a hb]at h1;cases h1);have aqZ:∀m<S.names,m≠dir->∀s∈(aH S.cur m).aB,s∉l:=fun m hmm e s hs hs2=>by
   rw[hl]at hs2;rcases iM.1 hs2 with hs2|hs2
   ·exact h.others hd m hmm e s hs (by rw[<-hsp];exact hs2)
   have h1:=h.uE hmm hs;rw[htS s hs2]at h1;cases h1
  have hsl:l.getD (L/16) 0∈l:=vD aD;(have hs1:l.getD (L/16) 0<S1.count:=by rw[hm1.count];exact hlt _ hsl);have hm2:Mid S (S1.iD (l.getD (L/16) 0) L name n):=hm1.trans (Mid.laid (Laid.iD S1 _ _ _ _) (hu1.iD hs1 _ _ hname));(have hy:({aH S.cur dir with size:=L+1,aB:=l}:VI)=((g dir).more name n).vi l:=by rw[hx];unfold LI.vi LI.more;simp only[VI.mk.injEq,true_and,and_true];unfold LI.size;rw[if_pos hk];simp only[jM,oL];omega);rw[hy];(have aD4:∀k,k<16*l.length->∀x:VI,x.aB=l->gT (S1.iD (l.getD (L/16) 0) L name n).cur S.data x k=if k=L then AO name n else gT S1.cur S.data x k:=fun k hk2 x hxl=>by have:=QJ (S:=S1) hu1 (x:=x) (by rw[hxl];exact hnd) (i:=L) (k:=k) (n:=n) (name:=name) (by rw[hxl];omega) (by rw[hxl];exact hk2) (by rw[hxl,hm1.count];exact hlt) hname;rw[hxl,hm1.data]at this;exact this);refine h.step hd (Step.keep h hd hm2 hfair (by rw[IJ];exact hll) hlt hnd aqZ (fun j hj=>?_) (fun m hmm e s hs=>?_) (fun _=>?_) (fun k2=>?_) ?_)
  ·rw[QI hu1,hbit];have hb2:=h.ac1 hd hj;rw[<-hsp]at hb2;(show((S.bit j||decide (j∈t))=true)↔_);rw[M8,hb2,hl,iM,jN];constructor
   ·rintro((h1|h1)|h1)
    ·exact .inl (.inl h1)
    ·exact .inr h1
    exact .inl (.inr h1)
   rintro((h1|h1)|h1)
   ·exact .inl (.inl h1)
   ·exact .inr h1
   exact .inl (.inr h1)
  ·(have hne:s≠l.getD (L/16) 0:=fun e2=>aqZ m hmm e s hs (by rw[e2];exact hsl));have:=II S1 (s:=l.getD (L/16) 0) (t:=s) L name n hne;rw[hm1.data]at this;rw[this];exact uF NW s
  ·rw[ag4 (n:=L) (by show((g dir).more name n).size=_;unfold LI.size;rw[if_pos (by exact hk)];show((g dir).bH++[(name,n)]).length=_;rw[jM,<-hL];rfl)];(have e1:(g dir).bH=(List.range L).map fun i=>(enN (gT S.cur S.data (aH S.cur dir) i),enI (gT S.cur S.data (aH S.cur dir) i)):=by have:=aqY (h.bH dir hd hk);rw[hsize]at this;exact this);(show _=(g dir).bH++[(name,n)]);rw[e1];congr 1
   ·(refine uO fun i hi=>?_);have hi2:=List.mem_range.1 hi;(have hi3:i/16<sp.length:=by omega);rw[aD4 i aD _ rfl,if_neg aD];(have e2:gT S1.cur S.data (((g dir).more name n).vi l) i=gT S.cur S.data (aH S.cur dir) i:=by unfold gT;(show AL (bk S1.cur (S.data+l.getD (i/16) 0)) i=_);have eb:bk S1.cur (S.data+sp.getD (i/16) 0)=bk S.cur (S.data+sp.getD (i/16) 0):=uF NW _;rw[hl,ac3 hi3,eb,hsp]);rw[e2]
   rw[aD4 L aD _ rfl,if_pos rfl,acZ hname,ac0 hname hn]
  ·exact absurd (show(g dir).kind=2 from k2) aD
  (show S1.nodes=S.nodes-(g dir).bH.length+(((g dir).bH++[(name,n)]).length:Nat));rw[NW.nodes,jM];(show S.nodes+1=_);simp only[oL];omega
end Go.Proofs.YtmjomdkleikgbaaGreat
