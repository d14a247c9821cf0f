/- Parts. -/
import Derived.Test.YtmjomdkleikgbaaGreatJ24
set_option linter.unusedVariables false
set_option linter.unusedSimpArgs false
namespace Go.Proofs.YtmjomdkleikgbaaGreat
theorem DL {F:Nat->Int} {n:Nat} (h:∀i<n,F i=0):uT F n=0:=by
 induction n with
 |zero=>rfl
 |succ n ih=>rw[oU,ih fun i hi=>h i aD,h n aD];rfl
theorem MH :∀ {l:List Nat} {F:Nat->Int} {n:Nat},l.Nodup->(∀i∈l,i<n)->(∀i<n,F i≠0->i∈l)->uT F n=(l.map F).sum
 |[],F,n,_,_,hc=>DL fun i hi=>Classical.byContradiction fun h=>by cases hc i hi h
 |a::t,F,n,hu,hl,hc=>by
  rw[wV]at hu;have ha:a<n:=hl a nE;have h1:=MH (l:=t) (F:=fun i=>if i=a then 0 else F i) (n:=n) hu.2 (fun i hi=>hl i (vK _ hi)) fun i hi hne=>by
   by_cases e:i=a
   ·simp only[e,if_true]at hne;exact absurd rfl hne
   simp only[if_neg e]at hne;rcases kC.1 (hc i hi hne)with h|h
   ·exact absurd h e
   exact h
  (have h2:=AZ (f:=F) (g:=fun i=>if i=a then 0 else F i) ha fun i _ hne=>if_neg hne);(have h3:t.map (fun i=>if i=a then 0 else F i)=t.map F:=uH fun i hi=>if_neg fun e=>hu.1 (by rw[<-e];exact hi));rw[h1,h3]at h2;simp only[if_true]at h2;rw[jS,qI];omega
def fD :List TN->List Int
 |[]=>[]
 |n::t=>if n.file= -1\/n.file∈fD t then fD t else n.file::fD t
theorem jE :∀ {ns:List TN} {k:Int},k∈fD ns↔k≠ -1/\∃n∈ns,n.file=k
 |[],k=>by simp[fD]
 |n::t,k=>by
  unfold fD;by_cases h:n.file= -1\/n.file∈fD t
  ·rw[if_pos h,jE];constructor
   ·rintro⟨h1,m,hm,e⟩;exact⟨h1,m,vK _ hm,e⟩
   rintro⟨h1,m,hm,e⟩;refine⟨h1,?_⟩;rcases kC.1 hm with e2|hm
   ·rw[e2]at e;rcases h with h|h
    ·exact absurd (e.symm.trans h) h1
    rw[e]at h;exact(jE.1 h).2
   exact⟨m,hm,e⟩
  rw[if_neg h,kC,jE];constructor
  ·rintro(h1|⟨h1,m,hm,e⟩)
   ·rw[h1];exact⟨fun e=>h (.inl e),n,nE,rfl⟩
   exact⟨h1,m,vK _ hm,e⟩
  rintro⟨h1,m,hm,e⟩;rcases kC.1 hm with e2|hm
  ·rw[e2]at e;exact .inl e.symm
  exact .inr ⟨h1,m,hm,e⟩
theorem lU :∀(ns:List TN),(fD ns).Nodup
 |[]=>OG
 |n::t=>by
  unfold fD;split
  ·exact lU t
  rename_i h;rw[not_or]at h;exact wV.2 ⟨h.2,lU t⟩
def jK (ns:List TN):List TN:=ns.filter fun n=>decide (n.file= -1)
theorem iQ {ns:List TN} {n:TN}:n∈jK ns↔n∈ns/\n.file= -1:=by unfold jK;rw[List.mem_filter,tX]
section
variable {g:LT} {nm:Nat} {ns:List TN} {fs:List FT} {dn:Key->Nat} {φ:Int->Nat}
theorem lY.avT (h:lY g nm ns fs dn φ) {n m:TN} (hn:n∈ns) (hm:m∈ns) (hf:n.file≠ -1) (hg:m.file≠ -1) (e:φ n.file=φ m.file):n.file=m.file:=by
 rcases h.inj n hn m hm (by unfold dD;rw[if_neg hf,if_neg hg,e])with h1|h1
 ·rw[h1]
 exact h1.2
def QQ (ns:List TN) (dn:Key->Nat) (φ:Int->Nat):List Nat:=(0::(jK ns).map fun n=>dn (bD n))++(fD ns).map φ
theorem lY.aIZ (h:lY g nm ns fs dn φ):(QQ ns dn φ).Nodup/\(∀i∈QQ ns dn φ,i<nm)/\∀i<nm,(g i).kind≠0->i∈QQ ns dn φ:=by
 have key:∀n∈jK ns,dD dn φ n=dn (bD n):=fun n hn=>by unfold dD;rw[if_pos (iQ.1 hn).2]
 have kd:∀n∈jK ns,(g (dn (bD n))).kind=1:=fun n hn=>(h.dir n (iQ.1 hn).1 (iQ.1 hn).2).2.1
 have kf:∀k∈fD ns,(g (φ k)).kind=2/\φ k<nm:=fun k hk=>by obtain⟨h1,n,hn,e⟩:=jE.1 hk;rw[<-e]at h1 ⊢;exact⟨(h.file n hn h1).2.2.1,(h.file n hn h1).2.1⟩
 refine⟨?_,?_,?_⟩
 ·unfold QQ;rw[sZ];refine⟨?_,?_,?_⟩
  ·rw[wV];constructor
   ·intro h0;obtain⟨n,hn,e⟩:=List.mem_map.1 h0;refine h.ne0 n (iQ.1 hn).1 ?_;rw[key n hn];exact e
   have hu:((jK ns).map bD).Nodup:=h.uniq.sublist (abC _ GR);rw[aa6,GJ]at hu ⊢;refine ao4 (fun {a b} ha hb hab e=>hab ?_) hu;exact h.ZI (.inr ⟨a,(iQ.1 ha).1,rfl,(iQ.1 ha).2⟩) (.inr ⟨b,(iQ.1 hb).1,rfl,(iQ.1 hb).2⟩) e
  ·have hu:=lU ns;rw[aa6]at hu ⊢;rw[GJ];refine ao4 (fun {a b} ha hb hab e=>hab ?_) hu;obtain⟨h1,n,hn,e1⟩:=jE.1 ha;obtain⟨h2,m,hm,e2⟩:=jE.1 hb;rw[<-e1]at h1 e ⊢;rw[<-e2]at h2 e ⊢;exact h.avT hn hm h1 h2 e
  intro a ha b hb e;obtain⟨k,hk,e1⟩:=List.mem_map.1 hb;have hb2:=(kf k hk).1;rw[e1,<-e]at hb2;rcases kC.1 ha with e2|ha
  ·rw[e2,h.rk]at hb2;cases hb2
  obtain⟨n,hn,e3⟩:=List.mem_map.1 ha;have:=kd n hn;have e3':dn (bD n)=a:=e3;rw[e3',hb2]at this;cases this
 ·intro i hi;unfold QQ at hi;rcases iN.1 hi with hi|hi
  ·rcases kC.1 hi with e|hi
   ·rw[e];exact h.n0
   obtain⟨n,hn,e⟩:=List.mem_map.1 hi;rw[<-e];exact(h.dir n (iQ.1 hn).1 (iQ.1 hn).2).1
  obtain⟨k,hk,e⟩:=List.mem_map.1 hi;rw[<-e];exact(kf k hk).2
 intro i hi hk;unfold QQ;rw[iN,kC];rcases h.cover i hi hk with e|⟨n,hn,e⟩
 ·exact .inl (.inl e)
 unfold dD at e;by_cases hf:n.file= -1
 ·rw[if_pos hf]at e;exact .inl (.inr (List.mem_map.2 ⟨n,iQ.2 ⟨hn,hf⟩,e⟩))
 rw[if_neg hf]at e;exact .inr (List.mem_map.2 ⟨n.file,jE.2 ⟨hf,n,hn,rfl⟩,e⟩)
theorem lY.sum (h:lY g nm ns fs dn φ) (G:LI->Int) (hG:∀x:LI,x.kind=0->G x=0) (hfair:∀i<nm,(g i).fair):
  uT (fun i=>G (g i)) nm=G (g 0)+((jK ns).map fun n=>G (g (dn (bD n)))).sum+((fD ns).map fun k=>G (g (φ k))).sum:=by
 obtain⟨h1,h2,h3⟩:=h.aIZ;rw[MH (F:=fun i=>G (g i)) h1 h2 fun i hi hne=>h3 i hi fun e=>hne (hG _ e)];unfold QQ;rw[mV,LC,jS,qI,qJ,qJ];rfl
end
theorem agX {S S1:VS} {n:Nat} {bs:List UInt8} (h:mM S n bs=some S1):eZ S S1:=by
 unfold mM at h;split at h
 ·cases h
 rename_i S2 l h1;cases h;exact((qQ h1).trans (qR bs l 0 S2).like).keep n _
structure Chg (S:VS) (g':LT) (S1:VS):Prop where
 ph:dC S1 g'
 like:eZ S S1
 m:S1.m<=40
def nZ (kind mode:Nat) (bs:List UInt8):LI:=⟨kind,mode,1,[],bs⟩
theorem agY {kind mode:Nat} {bs:List UInt8} (hk:kind=1/\bs=[]\/kind=2) (hm:mode<65536) (hb:bs.length<=8192):(nZ kind mode bs).fair:=
 ⟨by show kind<=2;omega,fun _=>rfl,fun h=>by rcases hk with hk|hk;exact hk.2;exact absurd hk h,by show 0<=448;omega,hb,hm,by show 1<65536;omega,fun e he=>by cases he⟩
section
variable {S:VS} {g:LT}
theorem dC.DN (h:dC S g) {n:Nat} (hn:l6 S.cur S.names=some n):n<S.names/\(g n).kind=0:=by have h1:=P6 hn;refine⟨h1,?_⟩;have h2:=GN hn;rw[h.kind h1]at h2;simpa using h2
theorem dC.amL (h:dC S g) (hn:l6 S.cur S.names=none):∀i<S.names,(g i).kind≠0:=fun i hi e=>by have:=wL.1 hn i (List.mem_range.2 hi);rw[h.kind hi,e]at this;exact this rfl
theorem dC.ac0 (h:dC S g) (hm0:S.m=0) {dir n mode:Nat} {name bs:List UInt8} (hd:dir<S.names) (hk:(g dir).kind=1) (hsz:(g dir).bG.length<448) (hname:name.length<=15) (hmode:mode<65536) (hbs:bs.length<=8192)
  (hn:l6 S.cur S.names=some n):
  (∀S1,l9 S n (⟨2,mode,1,0,[]⟩:VI) bs dir name=some S1->Chg S (dO (dO g n (nZ 2 mode bs)) dir ((g dir).more name n)) S1)/\
  (l9 S n (⟨2,mode,1,0,[]⟩:VI) bs dir name=none->S.count<oV (dO (dO g n (nZ 2 mode bs)) dir ((g dir).more name n)) S.names)/\
  (pW (S.keep n (⟨2,mode,1,0,[]⟩:VI)) n/\gL (S.keep n (⟨2,mode,1,0,[]⟩:VI))/\∀S2,mM (S.keep n (⟨2,mode,1,0,[]⟩:VI)) n bs=some S2->eZ S S2/\oF S2 dir n name/\lT S2):=by
 obtain⟨hn1,hn0⟩:=h.DN hn;have hnd:dir≠n:=fun e=>by rw[e,hn0]at hk;cases hk
 obtain⟨hsp,hA⟩:=h.avE (n:=n) (mode:=mode) (links:=1) hn1 hn0 hmode aD;obtain⟨SA,IP⟩:∃SA,SA=S.keep n (⟨2,mode,1,0,[]⟩:VI):=⟨_,rfl⟩;rw[<-IP]at hA ⊢;have hLA:eZ S SA:=by rw[IP];exact(eZ.refl S).keep n _
 have hnA:SA.names=S.names:=hLA.names;have hmA:SA.m=1:=by rw[IP];show S.m+1=1;rw[hm0]
 have amM:n<=65535:=by have:=h.nW;omega
 have gAn:dO g n ⟨2,mode,1,[],[]⟩ n=⟨2,mode,1,[],[]⟩:=bM _ _ _;obtain⟨hF1,hF2⟩:=hA.fill (n:=n) (bs:=bs) (by rw[hnA];exact hn1) (by rw[gAn]) hbs;have eg:dO (dO g n ⟨2,mode,1,[],[]⟩) n {dO g n ⟨2,mode,1,[],[]⟩ n with data:=bs}=dO g n (nZ 2 mode bs):=by rw[gAn];funext i;unfold dO;split<;>rfl
 rw[eg]at hF1 hF2;have gd:dO g n (nZ 2 mode bs) dir=g dir:=bT _ _ hnd;have hsA:(aG SA.cur n).aB=[]:=vL (by rw[hA.len n (by rw[hnA];exact hn1),gAn];simp[LI.need]);have hcnt:SA.count=S.count:=hLA.count;have two:∀S2,mM SA n bs=some S2->dC S2 (dO g n (nZ 2 mode bs))/\eZ S S2/\S2.m<=34:=fun S2 hS2=>by refine⟨hF1 S2 hS2,hLA.trans (agX hS2),?_⟩;have:=azT hS2;rw[hsA,hmA]at this;simp only[rT]at this;omega
 refine⟨fun S1 hS1=>?_,fun hno=>?_,hA.acX (by rw[hnA];exact hn1),hA.sw,fun S2 hS2=>?_⟩
 ·unfold l9 at hS1;rw[<-IP]at hS1;split at hS1
  ·cases hS1
  rename_i S2 hS2;obtain⟨h2,hL2,hm2⟩:=two S2 hS2;have hE:=(h2.enter (dir:=dir) (n:=n) (name:=name) (by rw[hL2.names];exact hd) (by rw[gd];exact hk) (by rw[gd];exact hsz) hname amM).1 S1 hS1;rw[gd]at hE;refine⟨hE,hL2.trans (vX hS1),?_⟩;have:=h2.NK (by rw[hL2.names];exact hd) (by rw[gd];exact hk) hS1;omega
 ·unfold l9 at hno;rw[<-IP]at hno;split at hno
  ·rename_i hf;have:=hF2 hf;rw[hcnt,hnA]at this;refine U0 this ?_;have h1:=xE (g:=dO g n (nZ 2 mode bs)) hd ((g dir).more name n);(have h2:(dO g n (nZ 2 mode bs) dir).need<=((g dir).more name n).need:=by rw[gd,kY hk,kY (x:=(g dir).more name n) hk];have e:((g dir).more name n).bG.length=(g dir).bG.length+1:=jL;rw[e];omega);omega
  rename_i S2 hS2;obtain⟨h2,hL2,hm2⟩:=two S2 hS2;have hE:=(h2.enter (dir:=dir) (n:=n) (name:=name) (by rw[hL2.names];exact hd) (by rw[gd];exact hk) (by rw[gd];exact hsz) hname amM).2 hno;rw[gd,hL2.count,hL2.names]at hE;exact hE
 obtain⟨h2,hL2,hm2⟩:=two S2 hS2;exact⟨hL2,h2.NJ (by rw[hL2.names];exact hd) (by rw[gd];exact hk) (by rw[gd];exact hsz) hname amM,h2.sv⟩
theorem MI (S:VS) (j:Nat) {m:Nat} (hm:m<S.names):aG (gN S j).cur m=aG S.cur m:=by
 unfold aG;show CU (((bk ((S.cur.set 1 _).set (S.data+j) bX) (2+m/8)).drop (m%8*64)).take 64)=_
 rw[dJ _ _ (by unfold VS.data;omega),dJ _ _ aD]
theorem amN {x:LI} (hk:x.kind=1) (name:List UInt8) (n:Nat):x.need<=(x.more name n).need:=by rw[kY hk,kY (x:=x.more name n) hk];have e:(x.more name n).bG.length=x.bG.length+1:=jL;rw[e];omega
theorem dC.aj2 (h:dC S g) (hm0:S.m=0) {dir n mode:Nat} {name:List UInt8} (hd:dir<S.names) (hk:(g dir).kind=1) (hsz:(g dir).bG.length<448) (hname:name.length<=15) (hmode:mode<65536)
  (hn:l6 S.cur S.names=some n):
  (∀j,jX (bk S.cur 1) S.count=some j->
   (∀S1,gV (kJ S n (⟨1,mode,1,0,[]⟩:VI) j) dir name n=some S1->Chg S (dO (dO g n (nZ 1 mode [])) dir ((g dir).more name n)) S1)/\
   (gV (kJ S n (⟨1,mode,1,0,[]⟩:VI) j) dir name n=none->S.count<oV (dO (dO g n (nZ 1 mode [])) dir ((g dir).more name n)) S.names)/\
   ((⟨1,mode,1,0,[j]⟩:VI).ok/\pW (gN S j) n/\gL (gN S j)/\oF (kJ S n (⟨1,mode,1,0,[]⟩:VI) j) dir n name/\lT (kJ S n (⟨1,mode,1,0,[]⟩:VI) j)))/\
  (jX (bk S.cur 1) S.count=none->S.count<oV (dO (dO g n (nZ 1 mode [])) dir ((g dir).more name n)) S.names):=by
 obtain⟨hn1,hn0⟩:=h.DN hn;have hnd:dir≠n:=fun e=>by rw[e,hn0]at hk;cases hk
 have amM:n<=65535:=by have:=h.nW;omega
 obtain⟨hA,hB⟩:=h.ap9 (n:=n) (mode:=mode) (links:=1) hn1 hn0 hmode aD;have gd:dO g n (nZ 1 mode []) dir=g dir:=bT _ _ hnd;have hsp:(aG S.cur n).aB=[]:=vL (by rw[h.len n hn1];unfold LI.need;rw[if_neg aD,if_neg aD]);constructor
 ·intro j hj;have h2:=hA j hj;have hj1:=VZ hj;obtain⟨SA,IP⟩:∃SA,SA=kJ S n (⟨1,mode,1,0,[]⟩:VI) j:=⟨_,rfl⟩;rw[<-IP]at h2 ⊢;have h2':dC SA (dO g n (nZ 1 mode [])):=h2;(have hL2:eZ S SA:=by rw[IP];exact(((eZ.refl S).put _ _).put _ _).keep n _);(have hm2:SA.m=3:=by rw[IP];show S.m+1+1+1=3;rw[hm0]);have hE:=h2'.enter (dir:=dir) (n:=n) (name:=name) (by rw[hL2.names];exact hd) (by rw[gd];exact hk) (by rw[gd];exact hsz) hname amM;rw[gd,hL2.count,hL2.names]at hE;refine⟨fun S1 hS1=>⟨hE.1 S1 hS1,hL2.trans (vX hS1),?_⟩,hE.2,⟨by show 1<256;omega,hmode,by show 1<65536;omega,by show 0<65536;omega,by show 1<=28;omega,fun k hk=>?_⟩,⟨hn1,?_,?_⟩,⟨h.sw.b0,h.sw.b1,h.sw.i0,h.sw.i1⟩,h2'.NJ (by rw[hL2.names];exact hd) (by rw[gd];exact hk) (by rw[gd];exact hsz) hname amM,h2'.sv⟩
  ·have:=h2'.NK (by rw[hL2.names];exact hd) (by rw[gd];exact hk) hS1;omega
  ·rw[sW]at hk;rw[hk];exact h.PW hj1
  ·rw[MI S j hn1,hsp];exact gI _
  rw[MI S j hn1,hsp];intro s hs;cases hs
 intro hno;have h1:=hB hno;have h2:=xE (g:=dO g n (nZ 1 mode [])) hd ((g dir).more name n);rw[gd]at h2;have h3:=amN hk name n;have h4:S.count<oV (dO g n (nZ 1 mode [])) S.names:=h1;omega
theorem dC.made (h:dC S g) (hm0:S.m=0) (hr:S.rB=S.count/\S.rI=S.names) {kind dir mode:Nat} {path bs:List UInt8} (hkd:kind=1/\bs=[]\/kind=2) (hd:dir<S.names) (hk:(g dir).kind=1) (hsz:(g dir).bG.length<448)
  (hv:aU path=true) (hp:path.length<=1048576) (hname:(aL path).length<=15) (hmode:mode<65536) (hbs:bs.length<=8192):
  wO S (⟨kind,mode,1,0,[]⟩:VI) bs dir path/\
  ((l6 S.cur S.names=none/\lH S (⟨kind,mode,1,0,[]⟩:VI) bs dir (aL path)=none)\/
  ∃n,l6 S.cur S.names=some n/\
   (∀S1,lH S (⟨kind,mode,1,0,[]⟩:VI) bs dir (aL path)=some S1->Chg S (dO (dO g n (nZ kind mode bs)) dir ((g dir).more (aL path) n)) S1)/\
   (lH S (⟨kind,mode,1,0,[]⟩:VI) bs dir (aL path)=none->S.count<oV (dO (dO g n (nZ kind mode bs)) dir ((g dir).more (aL path) n)) S.names)):=by
 have aDV:(l6 S.cur S.names=none/\lH S (⟨kind,mode,1,0,[]⟩:VI) bs dir (aL path)=none)\/
  ∃n,l6 S.cur S.names=some n/\
   (∀S1,lH S (⟨kind,mode,1,0,[]⟩:VI) bs dir (aL path)=some S1->Chg S (dO (dO g n (nZ kind mode bs)) dir ((g dir).more (aL path) n)) S1)/\
   (lH S (⟨kind,mode,1,0,[]⟩:VI) bs dir (aL path)=none->S.count<oV (dO (dO g n (nZ kind mode bs)) dir ((g dir).more (aL path) n)) S.names):=by
  rcases hn:l6 S.cur S.names with _|n
  ·exact .inl ⟨rfl,by unfold lH;rw[hn]⟩
  ·refine .inr ⟨n,rfl,?_⟩;rcases hkd with⟨rfl,rfl⟩|rfl
   ·have hD:=h.aj2 hm0 (name:=aL path) hd hk hsz hname hmode hn;unfold lH;rw[hn];simp only[if_true];rcases hj:jX (bk S.cur 1) S.count with _|j
    ·exact⟨fun S1 e=>(by cases e),fun _=>hD.2 hj⟩
    exact⟨(hD.1 j hj).1,(hD.1 j hj).2.1⟩
   have hF:=h.ac0 hm0 (name:=aL path) hd hk hsz hname hmode hbs hn;unfold lH;rw[hn];exact⟨hF.1,hF.2.1⟩
 refine⟨⟨h.aDT,h.sw,hv,hp,?_,rfl,?_,hbs,?_,?_,?_⟩,aDV⟩
 ·(show kind=1\/kind=2);omega
 ·exact⟨by show kind<256;omega,hmode,by show 1<65536;omega,by show 0<65536;omega,gI _,fun k hk=>by cases hk⟩
 ·intro n hn hk2;have aI2:kind=2:=hk2;subst aI2;exact(h.ac0 hm0 (name:=aL path) hd hk hsz hname hmode hbs hn).2.2
 ·intro n j hn hj hk1;have aI3:kind=1:=hk1;subst aI3;exact((h.aj2 hm0 (name:=aL path) hd hk hsz hname hmode hn).1 j hj).2.2
 ·intro S1 hS1;rcases aDV with⟨_,h1⟩|⟨n,_,h1,_⟩
  ·rw[h1]at hS1;cases hS1
  have:=h1 S1 hS1;exact dC.IL hr h.use this.like this.ph this.m
end
def EE (c:fZ) (S:VS):Prop:=∃ks:List Nat,ks.length<=S.m/\∀k,k∉ks->bk S.cur k=bk c k
def qN (c:fZ) (S:VS):Prop:=EE c S/\bk S.cur 0=bk c 0
section
variable {c:fZ} {S S1:VS}
theorem EE.refl (S:VS):EE S.cur S:=⟨[],gI _,fun _ _=>rfl⟩
theorem EE.put (h:EE c S) (k:Nat) (bs:List UInt8):EE c (S.put k bs):=by
 obtain⟨ks,h1,h2⟩:=h;refine⟨k::ks,by show ks.length+1<=S.m+1;omega,fun j hj=>?_⟩;rw[kC,not_or]at hj;show bk (S.cur.set k bs) j=_
 rw[dJ _ _ hj.1,h2 j hj.2]
theorem EE.keep (h:EE c S) (n:Nat) (x:VI):EE c (S.keep n x):=by
 obtain⟨ks,h1,h2⟩:=h;refine⟨(2+n/8)::ks,by show ks.length+1<=S.m+1;omega,fun j hj=>?_⟩;rw[kC,not_or]at hj;show bk (uU S.cur n x) j=_
 rw[BA _ _ hj.1,h2 j hj.2]
theorem qN.refl (S:VS):qN S.cur S:=⟨EE.refl S,rfl⟩
theorem qN.put (h:qN c S) {k:Nat} (hk:0<k) (bs:List UInt8):qN c (S.put k bs):=⟨h.1.put k bs,(dJ _ _ aD).trans h.2⟩
theorem qN.node (h:qN c S) (z:Int):qN c (S.node z):=h
theorem qN.keep (h:qN c S) (n:Nat) (x:VI):qN c (S.keep n x):=⟨h.1.keep n x,(BA _ _ aD).trans h.2⟩
theorem qN.iC (h:qN c S) (s i:Nat) (name:List UInt8) (n:Nat):qN c (S.iC s i name n):=h.put (by unfold VS.data;omega) _
theorem qN.jV {l l1:List Nat} {n:Nat} (h:qN c S) (hf:jV S l n=some (S1,l1)):qN c S1:=by
 have hd:∀(k:Nat) (S:VS) (l:List Nat),qN c S->qN c (nL k S l).1:=fun k=>by
  induction k with
  |zero=>exact fun S l h=>h
  |succ k ih=>exact fun S l h=>ih _ _ (h.put Nat.one_pos _)
 have hu:∀(k:Nat) (S:VS) (l:List Nat) {S1:VS} {l1:List Nat},qN c S->NC k S l=some (S1,l1)->qN c S1:=fun k=>by
  induction k with
  |zero=>intro S l S1 l1 h e;cases e;exact h
  |succ k ih=>
   intro S l S1 l1 h e;unfold NC at e;split at e
   ·cases e
   exact ih _ _ (h.put Nat.one_pos _) e
 exact hu _ _ _ (hd _ _ _ h) hf
theorem qN.mK (bs:List UInt8):∀(l:List Nat) (k:Nat) {S:VS},qN c S->qN c (mK bs l k S)
 |[],_,_,h=>h
 |s::l,k,_,h=>qN.mK bs l (k+1) (h.put (by unfold VS.data;omega) _)
theorem qN.mM {n:Nat} {bs:List UInt8} (h:qN c S) (hf:mM S n bs=some S1):qN c S1:=by
 unfold Go.Proofs.YtmjomdkleikgbaaGreat.mM at hf;split at hf
 ·cases hf
 rename_i S2 l h1;cases hf;exact((h.jV h1).mK bs l 0).keep n _
theorem qN.gV {dir n:Nat} {name:List UInt8} (h:qN c S) (hf:gV S dir name n=some S1):qN c S1:=by
 unfold Go.Proofs.YtmjomdkleikgbaaGreat.gV at hf;split at hf
 ·cases hf
 rename_i S2 l h1;cases hf;exact(((h.node _).jV h1).keep dir _).iC _ _ _ _
theorem qN.cO (h:qN c S) (dir:Nat) (name:List UInt8):qN c (cO S dir name):=by
 have h2:qN c (FE S (aG S.cur dir) name):=(h.iC _ _ _ _).iC _ _ _ _;unfold Go.Proofs.YtmjomdkleikgbaaGreat.cO;simp only;split
 ·exact h2
 rename_i S4 l h1;exact((h2.node _).jV h1).keep dir _
theorem qN.mP (h:qN c S) (n:Nat):qN c (mP S n):=by obtain⟨S2,h1,h2⟩:=AY (S:=S) (n:=n);rw[h2];exact(h.jV h1).keep n _
theorem qN.lH {x:VI} {bs:List UInt8} {dir:Nat} {name:List UInt8} (h:qN c S) (hf:lH S x bs dir name=some S1):qN c S1:=by
 unfold Go.Proofs.YtmjomdkleikgbaaGreat.lH at hf;split at hf
 ·cases hf
 rename_i n h1;split at hf
 ·split at hf
  ·cases hf
  exact qN.gV (((h.put Nat.one_pos _).put (by unfold VS.data;omega) _).keep _ _) hf
 unfold l9 at hf;split at hf
 ·cases hf
 rename_i S2 h2;exact((h.keep _ _).mM h2).gV hf
theorem EE.puts (h:EE (S.D.now.drop 96) S):(jH S).length<=S.m:=by
 obtain⟨ks,h1,h2⟩:=h;have h3:(jH S).length=(((List.range (S.nb-96)).filter fun k=>bk S.cur k !=bk S.D.now (96+k))).length:=iM _;rw[h3];refine z8 (ak1 ((List.nodup_range).filter _) fun k hk=>?_) h1;have h4:=(List.mem_filter.1 hk).2;refine Classical.byContradiction fun hno=>?_
 have h5:=h2 k hno;rw[CZ]at h5;rw[h5]at h4;simp at h4
theorem dC.with {g:LT} (h:dC S g) (D:DK) (m:Nat):dC {S with D:=D,m:=m} g:=
 ⟨⟨h.use.cur,⟨h.use.vf.names,h.use.vf.room⟩,h.use.nb⟩,h.n0,h.fair,h.head,h.len,h.lt,h.nodup,h.dis,h.bits,h.bG,h.data,h.wB,h.wI,h.nodes⟩
theorem BN (hD:S.D.ok S.nb) (YO:96<S.nb) (apN:kP (S.nb-96) S.cur) (l5:EE (S.D.now.drop 96) S) (hm:S.m<=40) (hc:S.bJ.2=true):S.settled.base.cur=S.cur:=by
 have hp:(jH S).length<=40:=z8 l5.puts hm;have hok:=VP hD YO apN hp;show S.bJ.1.now.drop 96=S.cur
 refine U3 (by rw[rU,hok.now.len,apN.len]) fun k h1 h2=>?_
 have hk:k<S.nb-96:=by rw[<-apN.len];exact h2
 have:=O4 hD.now.len hp hc hk;unfold bk at this;rw[gH,gH,gE h2,gE (by rw[rU]at h1;omega)]at this;rw[abB];exact this
theorem dC.settled {g:LT} (h:dC S g) (hD:S.D.ok S.nb) (YO:96<S.nb) (l5:EE (S.D.now.drop 96) S) (hm:S.m<=40) (hc:S.bJ.2=true):dC S.settled.base g:=by
 have e:S.settled.base= {S with D:=S.bJ.1,m:=0}:=by have:=BN hD YO h.use.cur l5 hm hc;(show({S with D:=S.bJ.1,cur:=S.settled.base.cur,m:=0}:VS)=_);rw[this]
 rw[e];exact h.with _ _
end
def IQ (fs:List FT) (k:Int):Nat:=((fs[k.toNat]?).map fun f=>f.bs.length).getD 0
def dM (ns:List TN) (K:Key):Nat:=(eX ns K).length
def lJ (ns:List TN) (fs:List FT):Int:=eD 1 (dM ns [])+((jK ns).map fun n=>eD 1 (dM ns (bD n))).sum+((fD ns).map fun k=>eD 2 (IQ fs k)).sum
def jY (ns:List TN):Int:=1+(jK ns).length+(fD ns).length
theorem IU {α:Type}:∀ {l:List α} {F:α->Int},(∀x∈l,F x=1)->(l.map F).sum=l.length
 |[],_,_=>rfl
 |a::t,F,h=>by rw[jS,qI,h a nE,IU fun x hx=>h x (vK _ hx),kR];omega
theorem IV {α:Type}:∀ {l:List α} {F:α->Int},(∀x∈l,F x=0)->(l.map F).sum=0
 |[],_,_=>rfl
 |a::t,F,h=>by rw[jS,qI,h a nE,IV fun x hx=>h x (vK _ hx)];rfl
theorem sum_add {α:Type} (F G:α->Int):∀(l:List α),(l.map fun x=>F x+G x).sum=(l.map F).sum+(l.map G).sum
 |[]=>rfl
 |a::t=>by rw[jS,qI,sum_add F G t,jS,qI,jS,qI];omega
theorem ac1 :∀ {l:List Key} {K:Key},l.Nodup->K∈l->(l.map fun L=>if K=L then(1:Int)else 0).sum=1
 |a::t,K,hu,hm=>by
  rw[wV]at hu;rw[jS,qI];rcases kC.1 hm with e|hm
  ·rw[if_pos e,IV fun x hx=>if_neg fun e2=>hu.1 (by rw[<-e,e2];exact hx)];rfl
  rw[if_neg fun e=>hu.1 (by rw[<-e];exact hm),ac1 hu.2 hm];rfl
theorem ac2 {l:List Key} (hu:l.Nodup):∀ {ns:List TN},(∀n∈ns,(bD n).dropLast∈l)->(l.map fun K=>(dM ns K:Int)).sum=ns.length
 |[],_=>IV fun _ _=>rfl
 |n::t,h=>by
  have h1:(fun K=>(dM (n::t) K:Int))=fun K=>(if(bD n).dropLast=K then(1:Int)else 0)+(dM t K:Int):=by
   funext K;unfold dM eX;rw[xY];by_cases e:(bD n).dropLast=K
   ·rw[if_pos (by simp[e]),if_pos e,kR];omega
   rw[if_neg (by simp[e]),if_neg e];omega
  rw[h1,sum_add,ac1 hu (h n nE),ac2 hu fun m hm=>h m (vK _ hm),kR];omega
section
variable {g:LT} {nm:Nat} {ns:List TN} {fs:List FT} {dn:Key->Nat} {φ:Int->Nat}
theorem lY.dM (h:lY g nm ns fs dn φ) {K:Key} (hK:dI ns K):(g (dn K)).bG.length=dM ns K:=by rw[(h.bG K hK).length_eq,iM];rfl
theorem lY.wG (h:lY g nm ns fs dn φ) {K:Key} (hK:dI ns K):(g (dn K)).kind=1/\(g (dn K)).size=Go.Proofs.YtmjomdkleikgbaaGreat.dM ns K:=by have h1:=(h.zU hK).2;refine⟨h1,?_⟩;unfold LI.size;rw[if_pos h1,h.dM hK]
theorem lY.IW (h:lY g nm ns fs dn φ) {k:Int} (hk:k∈fD ns):(g (φ k)).kind=2/\(g (φ k)).size=IQ fs k:=by obtain⟨h1,n,hn,e⟩:=jE.1 hk;rw[<-e]at h1 ⊢;obtain⟨_,_,h3,⟨f,h4,_,h6⟩,_⟩:=h.file n hn h1;refine⟨h3,?_⟩;unfold LI.size IQ;rw[if_neg (by rw[h3];decide),h4,h6];rfl
theorem IX {n:TN} (hn:n∈jK ns):dI ns (bD n):=.inr ⟨n,(iQ.1 hn).1,rfl,(iQ.1 hn).2⟩
theorem lY.wB (h:lY g nm ns fs dn φ) (hfair:∀i<nm,(g i).fair):uT (fun i=>eD (g i).kind (g i).size) nm=lJ ns fs:=by
 rw[h.sum (fun x=>eD x.kind x.size) (fun x hx=>by unfold eD;rw[hx];rfl) hfair];unfold lJ;have h0:=h.wG (.inl rfl);rw[h.root]at h0;rw[h0.1,h0.2];congr 1
 ·congr 1;congr 1;exact uH fun n hn=>by rw[(h.wG (IX hn)).1,(h.wG (IX hn)).2]
 congr 1;exact uH fun k hk=>by rw[(h.IW hk).1,(h.IW hk).2]
theorem lY.wI (h:lY g nm ns fs dn φ) (hfair:∀i<nm,(g i).fair):uT (fun i=>nQ (g i).kind) nm=jY ns:=by rw[h.sum (fun x=>nQ x.kind) (fun x hx=>by unfold nQ;rw[hx];rfl) hfair,IU fun n hn=>by rw[(h.wG (IX hn)).1];rfl,IU fun k hk=>by rw[(h.IW hk).1];rfl,h.rk];unfold jY nQ;simp
theorem lY.count (h:lY g nm ns fs dn φ) (hfair:∀i<nm,(g i).fair):uT (fun i=>((g i).bG.length:Int)) nm=ns.length:=by
 rw[PV (g:=fun i=>if(g i).kind=1 then((g i).bG.length:Int)else 0) fun i hi=>by
  by_cases e:(g i).kind=1
  ·rw[if_pos e]
  rw[if_neg e,(hfair i hi).bG e];rfl]
 rw[h.sum (fun x=>if x.kind=1 then(x.bG.length:Int)else 0) (fun x hx=>if_neg aD) hfair];rw[IV (F:=fun k=>if(g (φ k)).kind=1 then((g (φ k)).bG.length:Int)else 0) fun k hk=>if_neg (by rw[(h.IW hk).1];decide),if_pos h.rk];have h0:=h.dM (.inl rfl);rw[h.root]at h0;rw[h0];have hu:([]::(jK ns).map bD).Nodup:=by rw[wV];refine⟨fun hm=>?_,h.uniq.sublist (abC _ GR)⟩;obtain⟨n,_,e⟩:=List.mem_map.1 hm;exact ZH n e
 have hs:=ac2 hu (ns:=ns) fun n hn=>by
  rcases h.up n hn with e|⟨m,hm,e,hf⟩
  ·rw[e];exact nE
  rw[<-e];exact vK _ (List.mem_map.2 ⟨m,iQ.2 ⟨hm,hf⟩,rfl⟩)
 rw[jS,qI,qJ]at hs;rw[<-hs,Int.add_zero];congr 1;congr 1;exact uH fun n hn=>by rw[if_pos (h.wG (IX hn)).1,h.dM (IX hn)];rfl
theorem aqO {x:LI} (h:x.fair):(x.need:Int)<=eD x.kind x.size:=by
 unfold LI.need eD LI.size;have:=h.kind;by_cases k1:x.kind=1
 ·rw[if_pos k1,if_pos k1,if_pos k1];omega
 rw[if_neg k1,if_neg k1];by_cases k2:x.kind=2
 ·rw[if_pos k2,if_pos k2,if_neg k1];split<;>omega
 rw[if_neg k2,if_neg k2];decide
theorem DR :∀ {nm:Nat},(∀i<nm,(g i).fair)->(oV g nm:Int)<=uT (fun i=>eD (g i).kind (g i).size) nm
 |0,_=>by simp[oV,uT]
 |n+1,h=>by rw[qX,oU];(have h1:=DR (nm:=n) fun i hi=>h i aD);have h2:=aqO (h n aD);omega
theorem dI.perm {ns':List TN} (p:ns.Perm ns') {K:Key}:dI ns K↔dI ns' K:=by
 unfold dI;constructor
 ·rintro(h|⟨n,hn,h⟩)
  ·exact .inl h
  exact .inr ⟨n,p.mem_iff.1 hn,h⟩
 rintro(h|⟨n,hn,h⟩)
 ·exact .inl h
 exact .inr ⟨n,p.mem_iff.2 hn,h⟩
theorem lY.perm (h:lY g nm ns fs dn φ) {ns':List TN} (p:ns.Perm ns'):lY g nm ns' fs dn φ where
 n0:=h.n0
 root:=h.root
 rk:=h.rk
 uniq:=(p.map bD).nodup_iff.1 h.uniq
 up n hn:=(dI.perm p).1 (h.up n (p.mem_iff.2 hn))
 dir n hn:=h.dir n (p.mem_iff.2 hn)
 file n hn hf:=by have h1:=h.file n (p.mem_iff.2 hn) hf;rw[p.countP_eq]at h1;exact h1
 ne0 n hn:=h.ne0 n (p.mem_iff.2 hn)
 inj n hn m hm:=h.inj n (p.mem_iff.2 hn) m (p.mem_iff.2 hm)
 cover i hi hk:=(h.cover i hi hk).imp id fun⟨n,hn,e⟩=>⟨n,p.mem_iff.1 hn,e⟩
 bG K hK:=(h.bG K ((dI.perm p).2 hK)).trans ((p.filter _).map _)
theorem lY.congr (h:lY g nm ns fs dn φ) {g':LT} (hg:∀m,(g' m).kind=(g m).kind/\(g' m).mode=(g m).mode/\(g' m).links=(g m).links/\(g' m).data=(g m).data/\(g' m).bG.Perm (g m).bG):lY g' nm ns fs dn φ where
 n0:=h.n0
 root:=h.root
 rk:=by rw[(hg 0).1];exact h.rk
 uniq:=h.uniq
 up:=h.up
 dir n hn hf:=by rw[(hg _).1,(hg _).2.1,(hg _).2.2.1];exact h.dir n hn hf
 file n hn hf:=by rw[(hg _).1,(hg _).2.1,(hg _).2.2.1,(hg _).2.2.2.1];exact h.file n hn hf
 ne0:=h.ne0
 inj:=h.inj
 cover i hi hk:=h.cover i hi (by rw[<-(hg i).1];exact hk)
 bG K hK:=(hg _).2.2.2.2.trans (h.bG K hK)
theorem QR :∀ {ns:List TN},(ns.map bD).Nodup->∀ {n m:TN},n∈ns->m∈ns->bD n=bD m->n=m
 |a::t,hu,n,m,hn,hm,e=>by
  rw[jS,wV]at hu;rcases kC.1 hn with e1|hn
  ·rcases kC.1 hm with e2|hm
   ·rw[e1,e2]
   exact absurd (List.mem_map.2 ⟨m,hm,by rw[<-e,e1]⟩) hu.1
  rcases kC.1 hm with e2|hm
  ·exact absurd (List.mem_map.2 ⟨n,hn,by rw[e,e2]⟩) hu.1
  exact QR hu.2 hn hm e
theorem lY.aj3 (h:lY g nm ns fs dn φ) {p:List UInt8} {n1:TN} (h1:n1∈ns) (hf1:n1.file≠ -1) (hP:dI ns (splitB p).dropLast) (hno:kK ns (splitB p)=none):
  lY (dO (dO g (φ n1.file) {g (φ n1.file)with links:=(g (φ n1.file)).links+1}) (dn (splitB p).dropLast) ((g (dn (splitB p).dropLast)).more (aL p) (φ n1.file))) nm (ns++[⟨p,n1.file,0⟩]) fs dn φ:=by
 obtain⟨P,hPe⟩:∃P,P=(splitB p).dropLast:=⟨_,rfl⟩;rw[<-hPe]at hP ⊢;obtain⟨hd1,hd2⟩:=h.zU hP;obtain⟨d,hd⟩:∃d,d=dn P:=⟨_,rfl⟩;rw[<-hd]at hd1 hd2 ⊢;obtain⟨n0,hn0⟩:∃n0:TN,n0=⟨p,n1.file,0⟩:=⟨_,rfl⟩;have hk0:bD n0=splitB p:=by rw[hn0];rfl
 have hf0:n0.file=n1.file:=by rw[hn0]
 have hne1:n0.file≠ -1:=by rw[hf0];exact hf1
 rw[<-hn0];obtain⟨i,hi⟩:∃i,i=φ n1.file:=⟨_,rfl⟩;rw[<-hi];obtain⟨g',hg'⟩:∃g',g'=dO (dO g i {g i with links:=(g i).links+1}) d ((g d).more (aL p) i):=⟨_,rfl⟩;rw[<-hg'];have hF1:=h.file n1 h1 hf1;rw[<-hi]at hF1;have hid:i≠d:=fun e=>by have:=hF1.2.2.1;rw[e,hd2]at this;cases this
 have hi0:i≠0:=fun e=>by have:=hF1.2.2.1;rw[e,h.rk]at this;cases this
 have gd:g' d=(g d).more (aL p) i:=by rw[hg',bM]
 have gi:g' i= {g i with links:=(g i).links+1}:=by rw[hg',bT _ _ hid,bM]
 have go:∀m,m≠d->m≠i->g' m=g m:=fun m h1 h2=>by rw[hg',bT _ _ h1,bT _ _ h2]
 have gk:∀m,(g' m).kind=(g m).kind/\(g' m).mode=(g m).mode/\(g' m).data=(g m).data:=fun m=>by
  by_cases h1:m=d
  ·rw[h1,gd];exact⟨rfl,rfl,rfl⟩
  by_cases h2:m=i
  ·rw[h2,gi];exact⟨rfl,rfl,rfl⟩
  rw[go m h1 h2];exact⟨rfl,rfl,rfl⟩
 have gl:∀m,m≠i->(g' m).links=(g m).links:=fun m h2=>by
  by_cases h1:m=d
  ·rw[h1,gd];rfl
  rw[go m h1 h2]
 have i1:dD dn φ n1=i:=by unfold dD;rw[if_neg hf1,hi]
 have i0:dD dn φ n0=i:=by unfold dD;rw[if_neg hne1,hf0,hi]
 have dni:∀K,dI ns K->dn K≠i:=fun K hK e=>by have:=(h.zU hK).2;rw[e,hF1.2.2.1]at this;cases this
 have amK:=uY hno;have UE:∀K,dI (ns++[n0]) K->dI ns K:=fun K hK=>by exact Z84
 have mem:∀n∈ns++[n0],n∈ns\/n=n0:=fun n hn=>by simpa using hn
 have lnk:∀n∈ns,n.file≠ -1->(g' (φ n.file)).links=(ns++[n0]).countP fun m=>decide (m.file=n.file):=fun n hn hf=>by
  have h7:=(h.file n hn hf).2.2.2.2;rw[ajA,LB,List.countP_nil];by_cases e:n.file=n1.file
  ·rw[e,<-hi,gi,if_pos (by simp[hf0])];(show(g i).links+1=_);rw[hF1.2.2.2.2]
  have hne:φ n.file≠i:=fun e2=>by
   (have e3:dD dn φ n=dD dn φ n1:=by rw[i1];unfold dD;rw[if_neg hf,e2]);rcases h.inj n hn n1 h1 e3 with h8|h8
   ·exact e (by rw[h8])
   exact e h8.2
  rw[gl _ hne,h7,if_neg (by simp only[tX,hf0];exact fun e2=>e e2.symm)];rfl
 refine⟨h.n0,h.root,?_,?_,?_,?_,?_,?_,?_,?_,?_⟩
 ·rw[(gk 0).1];exact h.rk
 ·exact Z71
 ·intro n hn;rcases mem n hn with hn|en
  ·exact(h.up n hn).snoc _
  rw[en,hk0,<-hPe];exact hP.snoc _
 ·intro n hn hf;rcases mem n hn with hn|en
  ·have h1:=h.dir n hn hf;have h2:=gk (dn (bD n));rw[h2.1,h2.2.1,gl _ (dni _ (.inr ⟨n,hn,rfl,hf⟩))];exact h1
  rw[en]at hf;exact absurd hf hne1
 ·intro n hn hf;have key:∃m∈ns,m.file=n.file:=by
   rcases mem n hn with hn|en
   ·exact⟨n,hn,rfl⟩
   exact⟨n1,h1,by rw[en,hf0]⟩
  obtain⟨m,hm,e⟩:=key;rw[<-e]at hf ⊢;obtain⟨h1,h2,h3,⟨f,h4,h5,h6⟩,h7⟩:=h.file m hm hf;have h8:=gk (φ m.file);refine⟨h1,h2,by rw[h8.1];exact h3,⟨f,h4,by rw[h8.2.1];exact h5,by rw[h8.2.2];exact h6⟩,lnk m hm hf⟩
 ·intro n hn;rcases mem n hn with hn|en
  ·exact h.ne0 n hn
  rw[en,i0];exact hi0
 ·intro n hn m hm e;rcases mem n hn with hn|en
  ·rcases mem m hm with hm|em
   ·exact h.inj n hn m hm e
   rw[em,i0,<-i1]at e;rw[em,hf0];rcases h.inj n hn n1 h1 e with h8|h8
   ·rw[h8];exact .inr ⟨hf1,rfl⟩
   exact .inr h8
  rcases mem m hm with hm|em
  ·rw[en,i0,<-i1]at e;rw[en,hf0];rcases h.inj n1 h1 m hm e with h8|h8
   ·rw[<-h8];exact .inr ⟨hf1,rfl⟩
   exact .inr h8
  exact .inl (by rw[en,em])
 ·intro m hm hk;rw[(gk m).1]at hk;rcases h.cover m hm hk with h1|⟨n,hn,h1⟩
  ·exact .inl h1
  exact .inr ⟨n,vN _ hn,h1⟩
 intro K hK;have hK':=UE K hK;rw[KH,mV];have hE:=h.bG K hK';exact Z6
theorem lY.azV {n:TN} (h:lY g nm (n::ns) fs dn φ) {x:LI} {ix:Nat} (hk:eX ns (bD n)=[])
  (hx:(n.file≠ -1/\x= {g (dD dn φ n)with links:=(g (dD dn φ n)).links-1}/\∃m∈ns,m.file=n.file)\/(x=LI0/\∀m∈ns,dD dn φ m≠dD dn φ n))
  (hi:ix<(g (dn (bD n).dropLast)).bG.length) (he:sQ (g (dn (bD n).dropLast)).bG ix=((bD n).getLastD [],dD dn φ n)):
  lY (dO (dO g (dn (bD n).dropLast) ((g (dn (bD n).dropLast)).less ix)) (dD dn φ n) x) nm ns fs dn φ:=by
 obtain⟨P,hPe⟩:∃P,P=(bD n).dropLast:=⟨_,rfl⟩;rw[<-hPe]at hi he ⊢;obtain⟨i,hie⟩:∃i,i=dD dn φ n:=⟨_,rfl⟩;rw[<-hie]at hx he ⊢;obtain⟨d,hd⟩:∃d,d=dn P:=⟨_,rfl⟩;rw[<-hd]at hi he ⊢;obtain⟨g',hg'⟩:∃g',g'=dO (dO g d ((g d).less ix)) i x:=⟨_,rfl⟩;rw[<-hg'];have hu:=h.uniq;rw[jS,wV]at hu;have hn0:n∈n::ns:=nE;have UE:∀K,dI ns K->dI (n::ns) K:=fun K hK=>by
  rcases hK with e|⟨m,hm,e⟩
  ·exact .inl e
  exact .inr ⟨m,vK _ hm,e⟩
 have aDW:∀K,dI (n::ns) K->K≠bD n->dI ns K:=fun K hK hne=>by
  rcases hK with e|⟨m,hm,e,hf⟩
  ·exact .inl e
  rcases kC.1 hm with e2|hm
  ·rw[e2]at e;exact absurd e.symm hne
  exact .inr ⟨m,hm,e,hf⟩
 have hP:dI ns P:=aDW P (by rw[hPe];exact h.up n hn0) (by rw[hPe];exact BL (ZH n));have hi0:i≠0:=by rw[hie];exact h.ne0 n hn0
 have aDX:n.file≠ -1->(g i).kind=2:=fun hf=>by
  rcases(h.MG hn0).2 with⟨h1,_⟩|⟨_,h1⟩
  ·exact absurd h1 hf
  rw[hie];exact h1
 have dni:∀K,dI ns K->dn K≠i:=fun K hK e=>by
  rcases hx with⟨hf,_⟩|⟨_,hx⟩
  ·have:=(h.zU (UE K hK)).2;rw[e,aDX hf]at this;cases this
  rcases hK with e1|⟨m,hm,e1,hf⟩
  ·rw[e1,h.root]at e;exact hi0 e.symm
  refine hx m hm ?_;unfold dD;rw[if_pos hf,e1,e]
 have hdi:d≠i:=by rw[hd];exact dni P hP
 have gi:g' i=x:=by rw[hg',bM]
 have gd:g' d=(g d).less ix:=by rw[hg',bT _ _ hdi,bM]
 have go:∀m,m≠d->m≠i->g' m=g m:=fun m h1 h2=>by rw[hg',bT _ _ h2,bT _ _ h1]
 have gk:∀m,m≠i->(g' m).kind=(g m).kind/\(g' m).mode=(g m).mode/\(g' m).links=(g m).links/\(g' m).data=(g m).data:=fun m h2=>by exact Z82
 have fi:∀m∈ns,m.file≠ -1->m.file≠n.file->φ m.file≠i:=fun m hm hf hne e=>by
  (have e1:dD dn φ m=dD dn φ n:=by rw[<-hie,<-e];unfold dD;rw[if_neg hf]);rcases h.inj m (vK _ hm) n hn0 e1 with h1|h1
  ·rw[h1]at hne;exact hne rfl
  exact hne h1.2
 refine⟨h.n0,h.root,?_,hu.2,?_,?_,?_,?_,?_,?_,?_⟩
 ·rw[(gk 0 (fun e=>hi0 e.symm)).1];exact h.rk
 ·intro m hm;(refine aDW _ (h.up m (vK _ hm)) fun e=>?_);have:m∈eX ns (bD n):=List.mem_filter.2 ⟨hm,by simp[e]⟩;rw[hk]at this;cases this
 ·intro m hm hf;have h2:=gk (dn (bD m)) (dni _ (.inr ⟨m,hm,rfl,hf⟩));rw[h2.1,h2.2.1,h2.2.2.1];exact h.dir m (vK _ hm) hf
 ·intro m hm hf;obtain⟨h1,h2,h3,h4,h7⟩:=h.file m (vK _ hm) hf;rw[LB]at h7;by_cases e:m.file=n.file
  ·rcases hx with⟨hfn,hx,_⟩|⟨_,hx⟩
   ·(have e1:φ m.file=i:=by rw[hie,e];unfold dD;rw[if_neg hfn]);rw[e1]at h2 h3 h4 h7 ⊢;rw[gi,hx];refine⟨h1,h2,h3,h4,?_⟩;rw[if_pos (by simp[e])]at h7;(show(g i).links-1=_);omega
   exfalso;refine hx m hm ?_;rw[hie];unfold dD;rw[<-e,if_neg hf,if_neg hf]
  have h8:=gk (φ m.file) (fi m hm hf e);rw[h8.1,h8.2.1,h8.2.2.1,h8.2.2.2];refine⟨h1,h2,h3,h4,?_⟩;rw[if_neg (by simp only[tX];exact fun e2=>e e2.symm)]at h7;exact h7
 ·intro m hm;exact h.ne0 m (vK _ hm)
 ·intro m hm k hk e;exact h.inj m (vK _ hm) k (vK _ hk) e
 ·intro k hkm hkk;by_cases e:k=i
  ·rw[e,gi]at hkk;rcases hx with⟨hf,_,m,hm,hmf⟩|⟨hx,_⟩
   ·refine .inr ⟨m,hm,?_⟩;rw[e,hie];unfold dD;rw[hmf,if_neg hf,if_neg hf]
   rw[hx]at hkk;exact absurd rfl hkk
  rw[(gk k e).1]at hkk;rcases h.cover k hkm hkk with h1|⟨m,hm,h1⟩
  ·exact .inl h1
  rcases kC.1 hm with e2|hm
  ·rw[e2,<-hie]at h1;exact absurd h1.symm e
  exact .inr ⟨m,hm,h1⟩
 intro K hK;have hE:=h.bG K (UE K hK);by_cases e:P=K
 ·subst e;rw[<-hd]at hE ⊢;rw[gd];(have e1:eX (n::ns) P=n::eX ns P:=by unfold eX;rw[xY,if_pos (by simp[hPe])]);rw[e1,jS,<-hie]at hE;have h2:=tL hi;rw[he]at h2;exact(h2.symm.trans hE).cons_inv
 have e1:eX (n::ns) K=eX ns K:=by unfold eX;rw[xY,if_neg (by simp only[sK];rw[<-hPe];exact e)]
 rw[e1]at hE;rw[go _ (fun e2=>e ?_) (dni K hK)]
 ·exact hE
 exact(h.ZI (UE K hK) (UE P hP) (by rw[e2,hd])).symm
theorem lY.avU (h:lY g nm ns fs dn φ) {n:TN} (hn:n∈ns) (hf:n.file≠ -1) {mode:Nat} {bs:List UInt8}:
  lY (dO g (φ n.file) {g (φ n.file)with mode:=mode,data:=bs}) nm ns (fs.set n.file.toNat ⟨mode,bs⟩) dn φ:=by
 obtain⟨i,hi⟩:∃i,i=φ n.file:=⟨_,rfl⟩;rw[<-hi];obtain⟨g',hg'⟩:∃g',g'=dO g i {g i with mode:=mode,data:=bs}:=⟨_,rfl⟩;rw[<-hg'];have gi:g' i= {g i with mode:=mode,data:=bs}:=by rw[hg',bM]
 have go:∀m,m≠i->g' m=g m:=fun m h2=>by rw[hg',bT _ _ h2]
 have gk:∀m,(g' m).kind=(g m).kind/\(g' m).links=(g m).links/\(g' m).bG=(g m).bG:=fun m=>by
  by_cases h2:m=i
  ·rw[h2,gi];exact⟨rfl,rfl,rfl⟩
  rw[go m h2];exact⟨rfl,rfl,rfl⟩
 have hF:=h.file n hn hf;rw[<-hi]at hF;have hlt:=h.aj1 hn hf;have dni:∀K,dI ns K->dn K≠i:=fun K hK e=>by have:=(h.zU hK).2;rw[e,hF.2.2.1]at this;cases this
 refine⟨h.n0,h.root,by rw[(gk 0).1];exact h.rk,h.uniq,h.up,?_,?_,h.ne0,h.inj,fun k h1 h2=>h.cover k h1 (by rw[<-(gk k).1];exact h2),fun K hK=>by rw[(gk _).2.2];exact h.bG K hK⟩
 ·intro m hm hf;rw[go _ (dni _ (.inr ⟨m,hm,rfl,hf⟩))];exact h.dir m hm hf
 intro m hm hfm;obtain⟨h1,h2,h3,⟨f,h4,h5,h6⟩,h7⟩:=h.file m hm hfm;by_cases e:m.file=n.file
 ·rw[e,<-hi]at h2 h3 h7 ⊢;rw[gi];refine⟨hlt.1,h2,h3,⟨⟨mode,bs⟩,?_,rfl,rfl⟩,h7⟩;rw[NU aD]
 have hne:φ m.file≠i:=fun e2=>by
  (have e3:dD dn φ m=dD dn φ n:=by unfold dD;rw[if_neg hfm,if_neg hf,e2,hi]);rcases h.inj m hm n hn e3 with h8|h8
  ·exact e (by rw[h8])
  exact e h8.2
 rw[go _ hne];refine⟨h1,h2,h3,⟨f,?_,h5,h6⟩,h7⟩;rw[aa8 aD];exact h4
theorem lY.azW {n:TN} (h:lY g nm (n::ns) fs dn φ) (hf:n.file= -1) {mode:Nat}:
  lY (dO g (dn (bD n)) {g (dn (bD n))with mode:=mode}) nm (⟨n.path, -1,mode⟩::ns) fs dn φ:=by
 obtain⟨n0,hn0⟩:∃n0:TN,n0=⟨n.path, -1,mode⟩:=⟨_,rfl⟩;rw[<-hn0];have hk0:bD n0=bD n:=by rw[hn0];rfl
 have hf0:n0.file= -1:=by rw[hn0]
 have hm0:n0.mode=mode:=by rw[hn0]
 obtain⟨i,hi⟩:∃i,i=dn (bD n):=⟨_,rfl⟩;rw[<-hi];obtain⟨g',hg'⟩:∃g',g'=dO g i {g i with mode:=mode}:=⟨_,rfl⟩;rw[<-hg'];have gi:g' i= {g i with mode:=mode}:=by rw[hg',bM]
 have go:∀m,m≠i->g' m=g m:=fun m h2=>by rw[hg',bT _ _ h2]
 have gk:∀m,(g' m).kind=(g m).kind/\(g' m).links=(g m).links/\(g' m).bG=(g m).bG/\(g' m).data=(g m).data:=fun m=>by
  by_cases h2:m=i
  ·rw[h2,gi];exact⟨rfl,rfl,rfl,rfl⟩
  rw[go m h2];exact⟨rfl,rfl,rfl,rfl⟩
 have i0:dD dn φ n0=dD dn φ n:=by unfold dD;rw[if_pos hf,if_pos hf0,hk0]
 have i1:dD dn φ n=i:=by unfold dD;rw[if_pos hf,hi]
 have old:∀m∈n0::ns,∃m'∈n::ns,bD m'=bD m/\m'.file=m.file/\dD dn φ m'=dD dn φ m/\(m=n0/\m'=n\/m=m'):=fun m hm=>by
  rcases kC.1 hm with e|hm
  ·exact⟨n,nE,by rw[e,hk0],by rw[e,hf0,hf],by rw[e,i0],.inl ⟨e,rfl⟩⟩
  exact⟨m,vK _ hm,rfl,rfl,rfl,.inr rfl⟩
 have aDY:∀K,dI (n0::ns) K↔dI (n::ns) K:=fun K=>by unfold dI;simp only[kC,exists_eq_or_imp,hk0,hf0,hf]
 have hu:=h.uniq;rw[jS,<-hk0,<-jS (f:=bD)]at hu;have hcnt:∀k:Int,(n0::ns).countP (fun m=>decide (m.file=k))=(n::ns).countP fun m=>decide (m.file=k):=fun k=>by rw[LB,LB,hf0,hf]
 refine⟨h.n0,h.root,by rw[(gk 0).1];exact h.rk,hu,?_,?_,?_,?_,?_,?_,?_⟩
 ·intro m hm;obtain⟨m',hm',h1,h2,_⟩:=old m hm;rw[<-h1,aDY];exact h.up m' hm'
 ·intro m hm hfm;rw[(gk _).1,(gk _).2.1];rcases kC.1 hm with e|hm
  ·rw[e,hk0,<-hi,gi,hm0];have:=h.dir n nE hf;rw[<-hi]at this;exact⟨this.1,this.2.1,rfl,this.2.2.2⟩
  have h1:=h.dir m (vK _ hm) hfm;refine⟨h1.1,h1.2.1,?_,h1.2.2.2⟩;have hne:dn (bD m)≠i:=fun e=>by
   (have e3:dD dn φ m=dD dn φ n:=by rw[i1];unfold dD;rw[if_pos hfm,e]);have h8:m=n:=by
    rcases h.inj m (vK _ hm) n nE e3 with h8|h8
    ·exact h8
    exact absurd hfm h8.1
   have hq:=h.uniq;rw[jS,wV]at hq;exact hq.1 (List.mem_map.2 ⟨m,hm,by rw[h8]⟩)
  rw[go _ hne];exact h1.2.2.1
 ·intro m hm hfm;have hm':m∈n::ns:=by
   rcases kC.1 hm with e|hm
   ·rw[e]at hfm;exact absurd hf0 hfm
   exact vK _ hm
  have h1:=h.file m hm' hfm;(have hne:φ m.file≠i:=fun e=>by have h2:=h.dir n nE hf;rw[<-hi,<-e,h1.2.2.1]at h2;cases h2.2.1);rw[go _ hne,hcnt];exact h1
 ·intro m hm;obtain⟨m',hm',h1,h2,h3,_⟩:=old m hm;rw[<-h3];exact h.ne0 m' hm'
 ·intro m hm k hk e;obtain⟨m',hm',h1,h2,h3,h4⟩:=old m hm;obtain⟨k',hk',j1,j2,j3,j4⟩:=old k hk;rcases h.inj m' hm' k' hk' (by rw[h3,j3,e])with h5|h5
  ·exact .inl (QR hu hm hk (by rw[<-h1,<-j1,h5]))
  rw[h2,j2]at h5;exact .inr h5
 ·intro k h1 h2;rcases h.cover k h1 (by rw[<-(gk k).1];exact h2)with h3|⟨m,hm,h3⟩
  ·exact .inl h3
  rcases kC.1 hm with e|hm
  ·exact .inr ⟨n0,nE,by rw[i0,<-e,h3]⟩
  exact .inr ⟨m,vK _ hm,h3⟩
 intro K hK;rw[(gk _).2.2.1];have hE:=h.bG K ((aDY K).1 hK);have e1:(eX (n0::ns) K).map (fun n=>((bD n).getLastD [],dD dn φ n))=(eX (n::ns) K).map fun n=>((bD n).getLastD [],dD dn φ n):=by
  unfold eX;rw[xY,xY,hk0];split
  ·rw[jS,jS,hk0,i0]
  rfl
 rw[e1];exact hE
end
end Go.Proofs.YtmjomdkleikgbaaGreat
