/- Parts. -/
import Derived.Test.YtmjomdkleikgbaaGreatK24
set_option linter.unusedVariables false
set_option linter.unusedSimpArgs false
namespace Go.Proofs.YtmjomdkleikgbaaGreat
theorem D7 {F:Nat->Int} {n:Nat} (h:∀i<n,F i=0):vB F n=0:=by
 induction n with
 |zero=>rfl
 |succ n ih=>rw[oW,ih fun i hi=>h i aD,h n aD];rfl
theorem MW :∀ {l:List Nat} {F:Nat->Int} {n:Nat},l.Nodup->(∀i∈l,i<n)->(∀i<n,F i≠0->i∈l)->vB F n=(l.map F).sum
 |[],F,n,_,_,hc=>D7 fun i hi=>Classical.byContradiction fun h=>by cases hc i hi h
 |a::t,F,n,hu,hl,hc=>by
  rw[xJ]at hu;have ha:a<n:=hl a nH;have h1:=MW (l:=t) (F:=fun i=>if i=a then 0 else F i) (n:=n) hu.2 (fun i hi=>hl i (vR _ hi)) fun i hi hne=>by
   by_cases e:i=a
   ·simp only[e,if_true]at hne;exact absurd rfl hne
   simp only[if_neg e]at hne;rcases kE.1 (hc i hi hne)with h|h
   ·exact absurd h e
   exact h
  (have h2:=BN (f:=F) (g:=fun i=>if i=a then 0 else F i) ha fun i _ hne=>if_neg hne);(have h3:t.map (fun i=>if i=a then 0 else F i)=t.map F:=uO fun i hi=>if_neg fun e=>hu.1 (by rw[<-e];exact hi));rw[h1,h3]at h2;simp only[if_true]at h2;rw[jV,qN];omega
def fH :List TN->List Int
 |[]=>[]
 |n::t=>if n.file= -1\/n.file∈fH t then fH t else n.file::fH t
theorem jG :∀ {ns:List TN} {k:Int},k∈fH ns↔k≠ -1/\∃n∈ns,n.file=k
 |[],k=>by simp[fH]
 |n::t,k=>by
  unfold fH;by_cases h:n.file= -1\/n.file∈fH t
  ·rw[if_pos h,jG];constructor
   ·rintro⟨h1,m,hm,e⟩;exact⟨h1,m,vR _ hm,e⟩
   rintro⟨h1,m,hm,e⟩;refine⟨h1,?_⟩;rcases kE.1 hm with e2|hm
   ·rw[e2]at e;rcases h with h|h
    ·exact absurd (e.symm.trans h) h1
    rw[e]at h;exact(jG.1 h).2
   exact⟨m,hm,e⟩
  rw[if_neg h,kE,jG];constructor
  ·rintro(h1|⟨h1,m,hm,e⟩)
   ·rw[h1];exact⟨fun e=>h (.inl e),n,nH,rfl⟩
   exact⟨h1,m,vR _ hm,e⟩
  rintro⟨h1,m,hm,e⟩;rcases kE.1 hm with e2|hm
  ·rw[e2]at e;exact .inl e.symm
  exact .inr ⟨h1,m,hm,e⟩
theorem lX :∀(ns:List TN),(fH ns).Nodup
 |[]=>O0
 |n::t=>by
  unfold fH;split
  ·exact lX t
  rename_i h;rw[not_or]at h;exact xJ.2 ⟨h.2,lX t⟩
def jL (ns:List TN):List TN:=ns.filter fun n=>decide (n.file= -1)
theorem iO {ns:List TN} {n:TN}:n∈jL ns↔n∈ns/\n.file= -1:=by unfold jL;rw[List.mem_filter,jN]
section
variable {g:LT} {nm:Nat} {ns:List TN} {fs:List FT} {dn:Key->Nat} {φ:Int->Nat}
theorem l6.awW (h:l6 g nm ns fs dn φ) {n m:TN} (hn:n∈ns) (hm:m∈ns) (hf:n.file≠ -1) (hg:m.file≠ -1) (e:φ n.file=φ m.file):n.file=m.file:=by
 rcases h.inj n hn m hm (by unfold dE;rw[if_neg hf,if_neg hg,e])with h1|h1
 ·rw[h1]
 exact h1.2
def Q9 (ns:List TN) (dn:Key->Nat) (φ:Int->Nat):List Nat:=(0::(jL ns).map fun n=>dn (bE n))++(fH ns).map φ
theorem l6.aJV (h:l6 g nm ns fs dn φ):(Q9 ns dn φ).Nodup/\(∀i∈Q9 ns dn φ,i<nm)/\∀i<nm,(g i).kind≠0->i∈Q9 ns dn φ:=by
 have key:∀n∈jL ns,dE dn φ n=dn (bE n):=fun n hn=>by unfold dE;rw[if_pos (iO.1 hn).2]
 have kd:∀n∈jL ns,(g (dn (bE n))).kind=1:=fun n hn=>(h.dir n (iO.1 hn).1 (iO.1 hn).2).2.1
 have kf:∀k∈fH ns,(g (φ k)).kind=2/\φ k<nm:=fun k hk=>by obtain⟨h1,n,hn,e⟩:=jG.1 hk;rw[<-e]at h1 ⊢;exact⟨(h.file n hn h1).2.2.1,(h.file n hn h1).2.1⟩
 refine⟨?_,?_,?_⟩
 ·unfold Q9;rw[tK];refine⟨?_,?_,?_⟩
  ·rw[xJ];constructor
   ·intro h0;obtain⟨n,hn,e⟩:=List.mem_map.1 h0;refine h.ne0 n (iO.1 hn).1 ?_;rw[key n hn];exact e
   have hu:((jL ns).map bE).Nodup:=h.uniq.sublist (ab2 _ G8);rw[abW,GY]at hu ⊢;refine apW (fun {a b} ha hb hab e=>hab ?_) hu;exact h.aaG (.inr ⟨a,(iO.1 ha).1,rfl,(iO.1 ha).2⟩) (.inr ⟨b,(iO.1 hb).1,rfl,(iO.1 hb).2⟩) e
  ·have hu:=lX ns;rw[abW]at hu ⊢;rw[GY];refine apW (fun {a b} ha hb hab e=>hab ?_) hu;obtain⟨h1,n,hn,e1⟩:=jG.1 ha;obtain⟨h2,m,hm,e2⟩:=jG.1 hb;rw[<-e1]at h1 e ⊢;rw[<-e2]at h2 e ⊢;exact h.awW hn hm h1 h2 e
  intro a ha b hb e;obtain⟨k,hk,e1⟩:=List.mem_map.1 hb;have hb2:=(kf k hk).1;rw[e1,<-e]at hb2;rcases kE.1 ha with e2|ha
  ·rw[e2,h.rk]at hb2;cases hb2
  obtain⟨n,hn,e3⟩:=List.mem_map.1 ha;have:=kd n hn;have e3':dn (bE n)=a:=e3;rw[e3',hb2]at this;cases this
 ·intro i hi;unfold Q9 at hi;rcases iM.1 hi with hi|hi
  ·rcases kE.1 hi with e|hi
   ·rw[e];exact h.n0
   obtain⟨n,hn,e⟩:=List.mem_map.1 hi;rw[<-e];exact(h.dir n (iO.1 hn).1 (iO.1 hn).2).1
  obtain⟨k,hk,e⟩:=List.mem_map.1 hi;rw[<-e];exact(kf k hk).2
 intro i hi hk;unfold Q9;rw[iM,kE];rcases h.cover i hi hk with e|⟨n,hn,e⟩
 ·exact .inl (.inl e)
 unfold dE at e;by_cases hf:n.file= -1
 ·rw[if_pos hf]at e;exact .inl (.inr (List.mem_map.2 ⟨n,iO.2 ⟨hn,hf⟩,e⟩))
 rw[if_neg hf]at e;exact .inr (List.mem_map.2 ⟨n.file,jG.2 ⟨hf,n,hn,rfl⟩,e⟩)
theorem l6.sum (h:l6 g nm ns fs dn φ) (G:LI->Int) (hG:∀x:LI,x.kind=0->G x=0) (hfair:∀i<nm,(g i).fair):
  vB (fun i=>G (g i)) nm=G (g 0)+((jL ns).map fun n=>G (g (dn (bE n)))).sum+((fH ns).map fun k=>G (g (φ k))).sum:=by
 obtain⟨h1,h2,h3⟩:=h.aJV;rw[MW (F:=fun i=>G (g i)) h1 h2 fun i hi hne=>h3 i hi fun e=>hne (hG _ e)];unfold Q9;rw[mZ,LZ,jV,qN,qO,qO];rfl
end
theorem ahQ {S S1:VS} {n:Nat} {bs:List UInt8} (h:mU S n bs=some S1):fC S S1:=by
 unfold mU at h;split at h
 ·cases h
 rename_i S2 l h1;cases h;exact((qY h1).trans (qZ bs l 0 S2).like).keep n _
structure Chg (S:VS) (g':LT) (S1:VS):Prop where
 ph:dD S1 g'
 like:fC S S1
 m:S1.m<=40
def oC (kind mode:Nat) (bs:List UInt8):LI:=⟨kind,mode,1,[],bs⟩
theorem ahR {kind mode:Nat} {bs:List UInt8} (hk:kind=1/\bs=[]\/kind=2) (hm:mode<65536) (hb:bs.length<=8192):(oC kind mode bs).fair:=
 ⟨by show kind<=2;omega,fun _=>rfl,fun h=>by rcases hk with hk|hk;exact hk.2;exact absurd hk h,by show 0<=448;omega,hb,hm,by show 1<65536;omega,fun e he=>by cases he⟩
section
variable {S:VS} {g:LT}
theorem dD.D8 (h:dD S g) {n:Nat} (hn:l8 S.cur S.names=some n):n<S.names/\(g n).kind=0:=by have h1:=QM hn;refine⟨h1,?_⟩;have h2:=G6 hn;rw[h.kind h1]at h2;simpa using h2
theorem dD.anD (h:dD S g) (hn:l8 S.cur S.names=none):∀i<S.names,(g i).kind≠0:=fun i hi e=>by have:=wV.1 hn i (List.mem_range.2 hi);rw[h.kind hi,e]at this;exact this rfl
theorem dD.adQ (h:dD S g) (hm0:S.m=0) {dir n mode:Nat} {name bs:List UInt8} (hd:dir<S.names) (hk:(g dir).kind=1) (hsz:(g dir).bH.length<448) (hname:name.length<=15) (hmode:mode<65536) (hbs:bs.length<=8192)
  (hn:l8 S.cur S.names=some n):
  (∀S1,mG S n (⟨2,mode,1,0,[]⟩:VI) bs dir name=some S1->Chg S (dP (dP g n (oC 2 mode bs)) dir ((g dir).more name n)) S1)/\
  (mG S n (⟨2,mode,1,0,[]⟩:VI) bs dir name=none->S.count<oZ (dP (dP g n (oC 2 mode bs)) dir ((g dir).more name n)) S.names)/\
  (p8 (S.keep n (⟨2,mode,1,0,[]⟩:VI)) n/\gK (S.keep n (⟨2,mode,1,0,[]⟩:VI))/\∀S2,mU (S.keep n (⟨2,mode,1,0,[]⟩:VI)) n bs=some S2->fC S S2/\oG S2 dir n name/\lW S2):=by
 obtain⟨hn1,hn0⟩:=h.D8 hn;have hnd:dir≠n:=fun e=>by rw[e,hn0]at hk;cases hk
 obtain⟨hsp,hA⟩:=h.awH (n:=n) (mode:=mode) (links:=1) hn1 hn0 hmode aD;obtain⟨SA,I7⟩:∃SA,SA=S.keep n (⟨2,mode,1,0,[]⟩:VI):=⟨_,rfl⟩;rw[<-I7]at hA ⊢;have hLA:fC S SA:=by rw[I7];exact(fC.refl S).keep n _
 have hnA:SA.names=S.names:=hLA.names;have hmA:SA.m=1:=by rw[I7];show S.m+1=1;rw[hm0]
 have anE:n<=65535:=by have:=h.qD;omega
 have gAn:dP g n ⟨2,mode,1,[],[]⟩ n=⟨2,mode,1,[],[]⟩:=bM _ _ _;obtain⟨hF1,hF2⟩:=hA.fill (n:=n) (bs:=bs) (by rw[hnA];exact hn1) (by rw[gAn]) hbs;have eg:dP (dP g n ⟨2,mode,1,[],[]⟩) n {dP g n ⟨2,mode,1,[],[]⟩ n with data:=bs}=dP g n (oC 2 mode bs):=by rw[gAn];funext i;unfold dP;split<;>rfl
 rw[eg]at hF1 hF2;have gd:dP g n (oC 2 mode bs) dir=g dir:=bR _ _ hnd;have hsA:(aH SA.cur n).aB=[]:=vS (by rw[hA.len n (by rw[hnA];exact hn1),gAn];simp[LI.need]);have hcnt:SA.count=S.count:=hLA.count;have two:∀S2,mU SA n bs=some S2->dD S2 (dP g n (oC 2 mode bs))/\fC S S2/\S2.m<=34:=fun S2 hS2=>by refine⟨hF1 S2 hS2,hLA.trans (ahQ hS2),?_⟩;have:=aAK hS2;rw[hsA,hmA]at this;simp only[qQ]at this;omega
 refine⟨fun S1 hS1=>?_,fun hno=>?_,hA.adN (by rw[hnA];exact hn1),hA.sw,fun S2 hS2=>?_⟩
 ·unfold mG at hS1;rw[<-I7]at hS1;split at hS1
  ·cases hS1
  rename_i S2 hS2;obtain⟨h2,hL2,hm2⟩:=two S2 hS2;have hE:=(h2.enter (dir:=dir) (n:=n) (name:=name) (by rw[hL2.names];exact hd) (by rw[gd];exact hk) (by rw[gd];exact hsz) hname anE).1 S1 hS1;rw[gd]at hE;refine⟨hE,hL2.trans (wJ hS1),?_⟩;have:=h2.N9 (by rw[hL2.names];exact hd) (by rw[gd];exact hk) hS1;omega
 ·unfold mG at hno;rw[<-I7]at hno;split at hno
  ·rename_i hf;have:=hF2 hf;rw[hcnt,hnA]at this;refine VP this ?_;have h1:=xV (g:=dP g n (oC 2 mode bs)) hd ((g dir).more name n);(have h2:(dP g n (oC 2 mode bs) dir).need<=((g dir).more name n).need:=by rw[gd,lF hk,lF (x:=(g dir).more name n) hk];have e:((g dir).more name n).bH.length=(g dir).bH.length+1:=jM;rw[e];omega);omega
  rename_i S2 hS2;obtain⟨h2,hL2,hm2⟩:=two S2 hS2;have hE:=(h2.enter (dir:=dir) (n:=n) (name:=name) (by rw[hL2.names];exact hd) (by rw[gd];exact hk) (by rw[gd];exact hsz) hname anE).2 hno;rw[gd,hL2.count,hL2.names]at hE;exact hE
 obtain⟨h2,hL2,hm2⟩:=two S2 hS2;exact⟨hL2,h2.N8 (by rw[hL2.names];exact hd) (by rw[gd];exact hk) (by rw[gd];exact hsz) hname anE,h2.sv⟩
theorem MX (S:VS) (j:Nat) {m:Nat} (hm:m<S.names):aH (gN S j).cur m=aH S.cur m:=by
 unfold aH;show DJ (((bk ((S.cur.set 1 _).set (S.data+j) bX) (2+m/8)).drop (m%8*64)).take 64)=_
 rw[dK _ _ (by unfold VS.data;omega),dK _ _ aD]
theorem anF {x:LI} (hk:x.kind=1) (name:List UInt8) (n:Nat):x.need<=(x.more name n).need:=by rw[lF hk,lF (x:=x.more name n) hk];have e:(x.more name n).bH.length=x.bH.length+1:=jM;rw[e];omega
theorem dD.akV (h:dD S g) (hm0:S.m=0) {dir n mode:Nat} {name:List UInt8} (hd:dir<S.names) (hk:(g dir).kind=1) (hsz:(g dir).bH.length<448) (hname:name.length<=15) (hmode:mode<65536)
  (hn:l8 S.cur S.names=some n):
  (∀j,j5 (bk S.cur 1) S.count=some j->
   (∀S1,gV (kN S n (⟨1,mode,1,0,[]⟩:VI) j) dir name n=some S1->Chg S (dP (dP g n (oC 1 mode [])) dir ((g dir).more name n)) S1)/\
   (gV (kN S n (⟨1,mode,1,0,[]⟩:VI) j) dir name n=none->S.count<oZ (dP (dP g n (oC 1 mode [])) dir ((g dir).more name n)) S.names)/\
   ((⟨1,mode,1,0,[j]⟩:VI).ok/\p8 (gN S j) n/\gK (gN S j)/\oG (kN S n (⟨1,mode,1,0,[]⟩:VI) j) dir n name/\lW (kN S n (⟨1,mode,1,0,[]⟩:VI) j)))/\
  (j5 (bk S.cur 1) S.count=none->S.count<oZ (dP (dP g n (oC 1 mode [])) dir ((g dir).more name n)) S.names):=by
 obtain⟨hn1,hn0⟩:=h.D8 hn;have hnd:dir≠n:=fun e=>by rw[e,hn0]at hk;cases hk
 have anE:n<=65535:=by have:=h.qD;omega
 obtain⟨hA,hB⟩:=h.aq3 (n:=n) (mode:=mode) (links:=1) hn1 hn0 hmode aD;have gd:dP g n (oC 1 mode []) dir=g dir:=bR _ _ hnd;have hsp:(aH S.cur n).aB=[]:=vS (by rw[h.len n hn1];unfold LI.need;rw[if_neg aD,if_neg aD]);constructor
 ·intro j hj;have h2:=hA j hj;have hj1:=WK hj;obtain⟨SA,I7⟩:∃SA,SA=kN S n (⟨1,mode,1,0,[]⟩:VI) j:=⟨_,rfl⟩;rw[<-I7]at h2 ⊢;have h2':dD SA (dP g n (oC 1 mode [])):=h2;(have hL2:fC S SA:=by rw[I7];exact(((fC.refl S).put _ _).put _ _).keep n _);(have hm2:SA.m=3:=by rw[I7];show S.m+1+1+1=3;rw[hm0]);have hE:=h2'.enter (dir:=dir) (n:=n) (name:=name) (by rw[hL2.names];exact hd) (by rw[gd];exact hk) (by rw[gd];exact hsz) hname anE;rw[gd,hL2.count,hL2.names]at hE;refine⟨fun S1 hS1=>⟨hE.1 S1 hS1,hL2.trans (wJ hS1),?_⟩,hE.2,⟨by show 1<256;omega,hmode,by show 1<65536;omega,by show 0<65536;omega,by show 1<=28;omega,fun k hk=>?_⟩,⟨hn1,?_,?_⟩,⟨h.sw.b0,h.sw.b1,h.sw.i0,h.sw.i1⟩,h2'.N8 (by rw[hL2.names];exact hd) (by rw[gd];exact hk) (by rw[gd];exact hsz) hname anE,h2'.sv⟩
  ·have:=h2'.N9 (by rw[hL2.names];exact hd) (by rw[gd];exact hk) hS1;omega
  ·rw[tJ]at hk;rw[hk];exact h.QH hj1
  ·rw[MX S j hn1,hsp];exact fZ _
  rw[MX S j hn1,hsp];intro s hs;cases hs
 intro hno;have h1:=hB hno;have h2:=xV (g:=dP g n (oC 1 mode [])) hd ((g dir).more name n);rw[gd]at h2;have h3:=anF hk name n;have h4:S.count<oZ (dP g n (oC 1 mode [])) S.names:=h1;omega
theorem dD.made (h:dD S g) (hm0:S.m=0) (hr:S.rB=S.count/\S.rI=S.names) {kind dir mode:Nat} {path bs:List UInt8} (hkd:kind=1/\bs=[]\/kind=2) (hd:dir<S.names) (hk:(g dir).kind=1) (hsz:(g dir).bH.length<448)
  (hv:aV path=true) (hp:path.length<=1048576) (hname:(aL path).length<=15) (hmode:mode<65536) (hbs:bs.length<=8192):
  wX S (⟨kind,mode,1,0,[]⟩:VI) bs dir path/\
  ((l8 S.cur S.names=none/\lK S (⟨kind,mode,1,0,[]⟩:VI) bs dir (aL path)=none)\/
  ∃n,l8 S.cur S.names=some n/\
   (∀S1,lK S (⟨kind,mode,1,0,[]⟩:VI) bs dir (aL path)=some S1->Chg S (dP (dP g n (oC kind mode bs)) dir ((g dir).more (aL path) n)) S1)/\
   (lK S (⟨kind,mode,1,0,[]⟩:VI) bs dir (aL path)=none->S.count<oZ (dP (dP g n (oC kind mode bs)) dir ((g dir).more (aL path) n)) S.names)):=by
 have aEO:(l8 S.cur S.names=none/\lK S (⟨kind,mode,1,0,[]⟩:VI) bs dir (aL path)=none)\/
  ∃n,l8 S.cur S.names=some n/\
   (∀S1,lK S (⟨kind,mode,1,0,[]⟩:VI) bs dir (aL path)=some S1->Chg S (dP (dP g n (oC kind mode bs)) dir ((g dir).more (aL path) n)) S1)/\
   (lK S (⟨kind,mode,1,0,[]⟩:VI) bs dir (aL path)=none->S.count<oZ (dP (dP g n (oC kind mode bs)) dir ((g dir).more (aL path) n)) S.names):=by
  rcases hn:l8 S.cur S.names with _|n
  ·exact .inl ⟨rfl,by unfold lK;rw[hn]⟩
  ·refine .inr ⟨n,rfl,?_⟩;rcases hkd with⟨rfl,rfl⟩|rfl
   ·have hD:=h.akV hm0 (name:=aL path) hd hk hsz hname hmode hn;unfold lK;rw[hn];simp only[if_true];rcases hj:j5 (bk S.cur 1) S.count with _|j
    ·exact⟨fun S1 e=>(by cases e),fun _=>hD.2 hj⟩
    exact⟨(hD.1 j hj).1,(hD.1 j hj).2.1⟩
   have hF:=h.adQ hm0 (name:=aL path) hd hk hsz hname hmode hbs hn;unfold lK;rw[hn];exact⟨hF.1,hF.2.1⟩
 refine⟨⟨h.aEM,h.sw,hv,hp,?_,rfl,?_,hbs,?_,?_,?_⟩,aEO⟩
 ·(show kind=1\/kind=2);omega
 ·exact⟨by show kind<256;omega,hmode,by show 1<65536;omega,by show 0<65536;omega,fZ _,fun k hk=>by cases hk⟩
 ·intro n hn hk2;have aJY:kind=2:=hk2;subst aJY;exact(h.adQ hm0 (name:=aL path) hd hk hsz hname hmode hbs hn).2.2
 ·intro n j hn hj hk1;have aJZ:kind=1:=hk1;subst aJZ;exact((h.akV hm0 (name:=aL path) hd hk hsz hname hmode hn).1 j hj).2.2
 ·intro S1 hS1;rcases aEO with⟨_,h1⟩|⟨n,_,h1,_⟩
  ·rw[h1]at hS1;cases hS1
  have:=h1 S1 hS1;exact dD.I5 hr h.use this.like this.ph this.m
end
def ER (c:gI) (S:VS):Prop:=∃ks:List Nat,ks.length<=S.m/\∀k,k∉ks->bk S.cur k=bk c k
def qU (c:gI) (S:VS):Prop:=ER c S/\bk S.cur 0=bk c 0
section
variable {c:gI} {S S1:VS}
theorem ER.refl (S:VS):ER S.cur S:=⟨[],fZ _,fun _ _=>rfl⟩
theorem ER.put (h:ER c S) (k:Nat) (bs:List UInt8):ER c (S.put k bs):=by
 obtain⟨ks,h1,h2⟩:=h;refine⟨k::ks,by show ks.length+1<=S.m+1;omega,fun j hj=>?_⟩;rw[kE,not_or]at hj;show bk (S.cur.set k bs) j=_
 rw[dK _ _ hj.1,h2 j hj.2]
theorem ER.keep (h:ER c S) (n:Nat) (x:VI):ER c (S.keep n x):=by
 obtain⟨ks,h1,h2⟩:=h;refine⟨(2+n/8)::ks,by show ks.length+1<=S.m+1;omega,fun j hj=>?_⟩;rw[kE,not_or]at hj;show bk (vC S.cur n x) j=_
 rw[BO _ _ hj.1,h2 j hj.2]
theorem qU.refl (S:VS):qU S.cur S:=⟨ER.refl S,rfl⟩
theorem qU.put (h:qU c S) {k:Nat} (hk:0<k) (bs:List UInt8):qU c (S.put k bs):=⟨h.1.put k bs,(dK _ _ aD).trans h.2⟩
theorem qU.node (h:qU c S) (z:Int):qU c (S.node z):=h
theorem qU.keep (h:qU c S) (n:Nat) (x:VI):qU c (S.keep n x):=⟨h.1.keep n x,(BO _ _ aD).trans h.2⟩
theorem qU.iD (h:qU c S) (s i:Nat) (name:List UInt8) (n:Nat):qU c (S.iD s i name n):=h.put (by unfold VS.data;omega) _
theorem qU.jY {l l1:List Nat} {n:Nat} (h:qU c S) (hf:jY S l n=some (S1,l1)):qU c S1:=by
 have hd:∀(k:Nat) (S:VS) (l:List Nat),qU c S->qU c (nN k S l).1:=fun k=>by
  induction k with
  |zero=>exact fun S l h=>h
  |succ k ih=>exact fun S l h=>ih _ _ (h.put Nat.one_pos _)
 have hu:∀(k:Nat) (S:VS) (l:List Nat) {S1:VS} {l1:List Nat},qU c S->NT k S l=some (S1,l1)->qU c S1:=fun k=>by
  induction k with
  |zero=>intro S l S1 l1 h e;cases e;exact h
  |succ k ih=>
   intro S l S1 l1 h e;unfold NT at e;split at e
   ·cases e
   exact ih _ _ (h.put Nat.one_pos _) e
 exact hu _ _ _ (hd _ _ _ h) hf
theorem qU.mR (bs:List UInt8):∀(l:List Nat) (k:Nat) {S:VS},qU c S->qU c (mR bs l k S)
 |[],_,_,h=>h
 |s::l,k,_,h=>qU.mR bs l (k+1) (h.put (by unfold VS.data;omega) _)
theorem qU.mU {n:Nat} {bs:List UInt8} (h:qU c S) (hf:mU S n bs=some S1):qU c S1:=by
 unfold Go.Proofs.YtmjomdkleikgbaaGreat.mU at hf;split at hf
 ·cases hf
 rename_i S2 l h1;cases hf;exact((h.jY h1).mR bs l 0).keep n _
theorem qU.gV {dir n:Nat} {name:List UInt8} (h:qU c S) (hf:gV S dir name n=some S1):qU c S1:=by
 unfold Go.Proofs.YtmjomdkleikgbaaGreat.gV at hf;split at hf
 ·cases hf
 rename_i S2 l h1;cases hf;exact(((h.node _).jY h1).keep dir _).iD _ _ _ _
theorem qU.cO (h:qU c S) (dir:Nat) (name:List UInt8):qU c (cO S dir name):=by
 have h2:qU c (FU S (aH S.cur dir) name):=(h.iD _ _ _ _).iD _ _ _ _;unfold Go.Proofs.YtmjomdkleikgbaaGreat.cO;simp only;split
 ·exact h2
 rename_i S4 l h1;exact((h2.node _).jY h1).keep dir _
theorem qU.mV (h:qU c S) (n:Nat):qU c (mV S n):=by obtain⟨S2,h1,h2⟩:=BL (S:=S) (n:=n);rw[h2];exact(h.jY h1).keep n _
theorem qU.lK {x:VI} {bs:List UInt8} {dir:Nat} {name:List UInt8} (h:qU c S) (hf:lK S x bs dir name=some S1):qU c S1:=by
 unfold Go.Proofs.YtmjomdkleikgbaaGreat.lK at hf;split at hf
 ·cases hf
 rename_i n h1;split at hf
 ·split at hf
  ·cases hf
  exact qU.gV (((h.put Nat.one_pos _).put (by unfold VS.data;omega) _).keep _ _) hf
 unfold mG at hf;split at hf
 ·cases hf
 rename_i S2 h2;exact((h.keep _ _).mU h2).gV hf
theorem ER.puts (h:ER (S.D.now.drop 96) S):(jJ S).length<=S.m:=by
 obtain⟨ks,h1,h2⟩:=h;have h3:(jJ S).length=(((List.range (S.nb-96)).filter fun k=>bk S.cur k !=bk S.D.now (96+k))).length:=iJ _;rw[h3];refine AY (alW ((List.nodup_range).filter _) fun k hk=>?_) h1;have h4:=(List.mem_filter.1 hk).2;refine Classical.byContradiction fun hno=>?_
 have h5:=h2 k hno;rw[DU]at h5;rw[h5]at h4;simp at h4
theorem dD.with {g:LT} (h:dD S g) (D:DK) (m:Nat):dD {S with D:=D,m:=m} g:=
 ⟨⟨h.use.cur,⟨h.use.vf.names,h.use.vf.room⟩,h.use.nb⟩,h.n0,h.fair,h.head,h.len,h.lt,h.nodup,h.dis,h.bits,h.bH,h.data,h.wB,h.wI,h.nodes⟩
theorem CF (hD:S.D.ok S.nb) (NU:96<S.nb) (aqF:kU (S.nb-96) S.cur) (l7:ER (S.D.now.drop 96) S) (hm:S.m<=40) (hc:S.bJ.2=true):S.settled.base.cur=S.cur:=by
 have hp:(jJ S).length<=40:=AY l7.puts hm;have hok:=KI hD NU aqF hp;show S.bJ.1.now.drop 96=S.cur
 refine VT (by rw[rZ,hok.now.len,aqF.len]) fun k h1 h2=>?_
 have hk:k<S.nb-96:=by rw[<-aqF.len];exact h2
 have:=PQ hD.now.len hp hc hk;unfold bk at this;rw[gH,gH,gE h2,gE (by rw[rZ]at h1;omega)]at this;rw[ab1];exact this
theorem dD.settled {g:LT} (h:dD S g) (hD:S.D.ok S.nb) (NU:96<S.nb) (l7:ER (S.D.now.drop 96) S) (hm:S.m<=40) (hc:S.bJ.2=true):dD S.settled.base g:=by
 have e:S.settled.base= {S with D:=S.bJ.1,m:=0}:=by have:=CF hD NU h.use.cur l7 hm hc;(show({S with D:=S.bJ.1,cur:=S.settled.base.cur,m:=0}:VS)=_);rw[this]
 rw[e];exact h.with _ _
end
def I8 (fs:List FT) (k:Int):Nat:=((fs[k.toNat]?).map fun f=>f.bs.length).getD 0
def dM (ns:List TN) (K:Key):Nat:=(eP ns K).length
def nC (ns:List TN) (fs:List FT):Int:=eO 1 (dM ns [])+((jL ns).map fun n=>eO 1 (dM ns (bE n))).sum+((fH ns).map fun k=>eO 2 (I8 fs k)).sum
def kQ (ns:List TN):Int:=1+(jL ns).length+(fH ns).length
theorem I9 {α:Type}:∀ {l:List α} {F:α->Int},(∀x∈l,F x=1)->(l.map F).sum=l.length
 |[],_,_=>rfl
 |a::t,F,h=>by rw[jV,qN,h a nH,I9 fun x hx=>h x (vR _ hx),kH];omega
theorem JA {α:Type}:∀ {l:List α} {F:α->Int},(∀x∈l,F x=0)->(l.map F).sum=0
 |[],_,_=>rfl
 |a::t,F,h=>by rw[jV,qN,h a nH,JA fun x hx=>h x (vR _ hx)];rfl
theorem sum_add {α:Type} (F G:α->Int):∀(l:List α),(l.map fun x=>F x+G x).sum=(l.map F).sum+(l.map G).sum
 |[]=>rfl
 |a::t=>by rw[jV,qN,sum_add F G t,jV,qN,jV,qN];omega
theorem adR :∀ {l:List Key} {K:Key},l.Nodup->K∈l->(l.map fun L=>if K=L then(1:Int)else 0).sum=1
 |a::t,K,hu,hm=>by
  rw[xJ]at hu;rw[jV,qN];rcases kE.1 hm with e|hm
  ·rw[if_pos e,JA fun x hx=>if_neg fun e2=>hu.1 (by rw[<-e,e2];exact hx)];rfl
  rw[if_neg fun e=>hu.1 (by rw[<-e];exact hm),adR hu.2 hm];rfl
theorem adS {l:List Key} (hu:l.Nodup):∀ {ns:List TN},(∀n∈ns,(bE n).dropLast∈l)->(l.map fun K=>(dM ns K:Int)).sum=ns.length
 |[],_=>JA fun _ _=>rfl
 |n::t,h=>by
  have h1:(fun K=>(dM (n::t) K:Int))=fun K=>(if(bE n).dropLast=K then(1:Int)else 0)+(dM t K:Int):=by
   funext K;unfold dM eP;rw[yM];by_cases e:(bE n).dropLast=K
   ·rw[if_pos (by simp[e]),if_pos e,kH];omega
   rw[if_neg (by simp[e]),if_neg e];omega
  rw[h1,sum_add,adR hu (h n nH),adS hu fun m hm=>h m (vR _ hm),kH];omega
section
variable {g:LT} {nm:Nat} {ns:List TN} {fs:List FT} {dn:Key->Nat} {φ:Int->Nat}
theorem l6.dM (h:l6 g nm ns fs dn φ) {K:Key} (hK:dJ ns K):(g (dn K)).bH.length=dM ns K:=by rw[(h.bH K hK).length_eq,iJ];rfl
theorem l6.wQ (h:l6 g nm ns fs dn φ) {K:Key} (hK:dJ ns K):(g (dn K)).kind=1/\(g (dn K)).size=Go.Proofs.YtmjomdkleikgbaaGreat.dM ns K:=by have h1:=(h.AR hK).2;refine⟨h1,?_⟩;unfold LI.size;rw[if_pos h1,h.dM hK]
theorem l6.JB (h:l6 g nm ns fs dn φ) {k:Int} (hk:k∈fH ns):(g (φ k)).kind=2/\(g (φ k)).size=I8 fs k:=by obtain⟨h1,n,hn,e⟩:=jG.1 hk;rw[<-e]at h1 ⊢;obtain⟨_,_,h3,⟨f,h4,_,h6⟩,_⟩:=h.file n hn h1;refine⟨h3,?_⟩;unfold LI.size I8;rw[if_neg (by rw[h3];decide),h4,h6];rfl
theorem JC {n:TN} (hn:n∈jL ns):dJ ns (bE n):=.inr ⟨n,(iO.1 hn).1,rfl,(iO.1 hn).2⟩
theorem l6.wB (h:l6 g nm ns fs dn φ) (hfair:∀i<nm,(g i).fair):vB (fun i=>eO (g i).kind (g i).size) nm=nC ns fs:=by
 rw[h.sum (fun x=>eO x.kind x.size) (fun x hx=>by unfold eO;rw[hx];rfl) hfair];unfold nC;have h0:=h.wQ (.inl rfl);rw[h.root]at h0;rw[h0.1,h0.2];congr 1
 ·congr 1;congr 1;exact uO fun n hn=>by rw[(h.wQ (JC hn)).1,(h.wQ (JC hn)).2]
 congr 1;exact uO fun k hk=>by rw[(h.JB hk).1,(h.JB hk).2]
theorem l6.wI (h:l6 g nm ns fs dn φ) (hfair:∀i<nm,(g i).fair):vB (fun i=>nS (g i).kind) nm=kQ ns:=by rw[h.sum (fun x=>nS x.kind) (fun x hx=>by unfold nS;rw[hx];rfl) hfair,I9 fun n hn=>by rw[(h.wQ (JC hn)).1];rfl,I9 fun k hk=>by rw[(h.JB hk).1];rfl,h.rk];unfold kQ nS;simp
theorem l6.count (h:l6 g nm ns fs dn φ) (hfair:∀i<nm,(g i).fair):vB (fun i=>((g i).bH.length:Int)) nm=ns.length:=by
 rw[QG (g:=fun i=>if(g i).kind=1 then((g i).bH.length:Int)else 0) fun i hi=>by
  by_cases e:(g i).kind=1
  ·rw[if_pos e]
  rw[if_neg e,(hfair i hi).bH e];rfl]
 rw[h.sum (fun x=>if x.kind=1 then(x.bH.length:Int)else 0) (fun x hx=>if_neg aD) hfair];rw[JA (F:=fun k=>if(g (φ k)).kind=1 then((g (φ k)).bH.length:Int)else 0) fun k hk=>if_neg (by rw[(h.JB hk).1];decide),if_pos h.rk];have h0:=h.dM (.inl rfl);rw[h.root]at h0;rw[h0];have hu:([]::(jL ns).map bE).Nodup:=by rw[xJ];refine⟨fun hm=>?_,h.uniq.sublist (ab2 _ G8)⟩;obtain⟨n,_,e⟩:=List.mem_map.1 hm;exact aaF n e
 have hs:=adS hu (ns:=ns) fun n hn=>by
  rcases h.up n hn with e|⟨m,hm,e,hf⟩
  ·rw[e];exact nH
  rw[<-e];exact vR _ (List.mem_map.2 ⟨m,iO.2 ⟨hm,hf⟩,rfl⟩)
 rw[jV,qN,qO]at hs;rw[<-hs,Int.add_zero];congr 1;congr 1;exact uO fun n hn=>by rw[if_pos (h.wQ (JC hn)).1,h.dM (JC hn)];rfl
theorem arJ {x:LI} (h:x.fair):(x.need:Int)<=eO x.kind x.size:=by
 unfold LI.need eO LI.size;have:=h.kind;by_cases k1:x.kind=1
 ·rw[if_pos k1,if_pos k1,if_pos k1];omega
 rw[if_neg k1,if_neg k1];by_cases k2:x.kind=2
 ·rw[if_pos k2,if_pos k2,if_neg k1];split<;>omega
 rw[if_neg k2,if_neg k2];decide
theorem D9 :∀ {nm:Nat},(∀i<nm,(g i).fair)->(oZ g nm:Int)<=vB (fun i=>eO (g i).kind (g i).size) nm
 |0,_=>by simp[oZ,vB]
 |n+1,h=>by rw[rE,oW];(have h1:=D9 (nm:=n) fun i hi=>h i aD);have h2:=arJ (h n aD);omega
theorem dJ.perm {ns':List TN} (p:ns.Perm ns') {K:Key}:dJ ns K↔dJ ns' K:=by
 unfold dJ;constructor
 ·rintro(h|⟨n,hn,h⟩)
  ·exact .inl h
  exact .inr ⟨n,p.mem_iff.1 hn,h⟩
 rintro(h|⟨n,hn,h⟩)
 ·exact .inl h
 exact .inr ⟨n,p.mem_iff.2 hn,h⟩
theorem l6.perm (h:l6 g nm ns fs dn φ) {ns':List TN} (p:ns.Perm ns'):l6 g nm ns' fs dn φ where
 n0:=h.n0
 root:=h.root
 rk:=h.rk
 uniq:=(p.map bE).nodup_iff.1 h.uniq
 up n hn:=(dJ.perm p).1 (h.up n (p.mem_iff.2 hn))
 dir n hn:=h.dir n (p.mem_iff.2 hn)
 file n hn hf:=by have h1:=h.file n (p.mem_iff.2 hn) hf;rw[p.countP_eq]at h1;exact h1
 ne0 n hn:=h.ne0 n (p.mem_iff.2 hn)
 inj n hn m hm:=h.inj n (p.mem_iff.2 hn) m (p.mem_iff.2 hm)
 cover i hi hk:=(h.cover i hi hk).imp id fun⟨n,hn,e⟩=>⟨n,p.mem_iff.1 hn,e⟩
 bH K hK:=(h.bH K ((dJ.perm p).2 hK)).trans ((p.filter _).map _)
theorem l6.congr (h:l6 g nm ns fs dn φ) {g':LT} (hg:∀m,(g' m).kind=(g m).kind/\(g' m).mode=(g m).mode/\(g' m).links=(g m).links/\(g' m).data=(g m).data/\(g' m).bH.Perm (g m).bH):l6 g' nm ns fs dn φ where
 n0:=h.n0
 root:=h.root
 rk:=by rw[(hg 0).1];exact h.rk
 uniq:=h.uniq
 up:=h.up
 dir n hn hf:=by rw[(hg _).1,(hg _).2.1,(hg _).2.2.1];exact h.dir n hn hf
 file n hn hf:=by rw[(hg _).1,(hg _).2.1,(hg _).2.2.1,(hg _).2.2.2.1];exact h.file n hn hf
 ne0:=h.ne0
 inj:=h.inj
 cover i hi hk:=h.cover i hi (by rw[<-(hg i).1];exact hk)
 bH K hK:=(hg _).2.2.2.2.trans (h.bH K hK)
theorem RA :∀ {ns:List TN},(ns.map bE).Nodup->∀ {n m:TN},n∈ns->m∈ns->bE n=bE m->n=m
 |a::t,hu,n,m,hn,hm,e=>by
  rw[jV,xJ]at hu;rcases kE.1 hn with e1|hn
  ·rcases kE.1 hm with e2|hm
   ·rw[e1,e2]
   exact absurd (List.mem_map.2 ⟨m,hm,by rw[<-e,e1]⟩) hu.1
  rcases kE.1 hm with e2|hm
  ·exact absurd (List.mem_map.2 ⟨n,hn,by rw[e,e2]⟩) hu.1
  exact RA hu.2 hn hm e
theorem l6.akW (h:l6 g nm ns fs dn φ) {p:List UInt8} {n1:TN} (h1:n1∈ns) (hf1:n1.file≠ -1) (hP:dJ ns (splitB p).dropLast) (hno:kP ns (splitB p)=none):
  l6 (dP (dP g (φ n1.file) {g (φ n1.file)with links:=(g (φ n1.file)).links+1}) (dn (splitB p).dropLast) ((g (dn (splitB p).dropLast)).more (aL p) (φ n1.file))) nm (ns++[⟨p,n1.file,0⟩]) fs dn φ:=by
 obtain⟨P,hPe⟩:∃P,P=(splitB p).dropLast:=⟨_,rfl⟩;rw[<-hPe]at hP ⊢;obtain⟨hd1,hd2⟩:=h.AR hP;obtain⟨d,hd⟩:∃d,d=dn P:=⟨_,rfl⟩;rw[<-hd]at hd1 hd2 ⊢;obtain⟨n0,hn0⟩:∃n0:TN,n0=⟨p,n1.file,0⟩:=⟨_,rfl⟩;have hk0:bE n0=splitB p:=by rw[hn0];rfl
 have hf0:n0.file=n1.file:=by rw[hn0]
 have hne1:n0.file≠ -1:=by rw[hf0];exact hf1
 rw[<-hn0];obtain⟨i,hi⟩:∃i,i=φ n1.file:=⟨_,rfl⟩;rw[<-hi];obtain⟨g',hg'⟩:∃g',g'=dP (dP g i {g i with links:=(g i).links+1}) d ((g d).more (aL p) i):=⟨_,rfl⟩;rw[<-hg'];have hF1:=h.file n1 h1 hf1;rw[<-hi]at hF1;have hid:i≠d:=fun e=>by have:=hF1.2.2.1;rw[e,hd2]at this;cases this
 have hi0:i≠0:=fun e=>by have:=hF1.2.2.1;rw[e,h.rk]at this;cases this
 have gd:g' d=(g d).more (aL p) i:=by rw[hg',bM]
 have gi:g' i= {g i with links:=(g i).links+1}:=by rw[hg',bR _ _ hid,bM]
 have go:∀m,m≠d->m≠i->g' m=g m:=fun m h1 h2=>by rw[hg',bR _ _ h1,bR _ _ h2]
 have gk:∀m,(g' m).kind=(g m).kind/\(g' m).mode=(g m).mode/\(g' m).data=(g m).data:=fun m=>by
  by_cases h1:m=d
  ·rw[h1,gd];exact⟨rfl,rfl,rfl⟩
  by_cases h2:m=i
  ·rw[h2,gi];exact⟨rfl,rfl,rfl⟩
  rw[go m h1 h2];exact⟨rfl,rfl,rfl⟩
 have gl:∀m,m≠i->(g' m).links=(g m).links:=fun m h2=>by
  by_cases h1:m=d
  ·rw[h1,gd];rfl
  rw[go m h1 h2]
 have i1:dE dn φ n1=i:=by unfold dE;rw[if_neg hf1,hi]
 have i0:dE dn φ n0=i:=by unfold dE;rw[if_neg hne1,hf0,hi]
 have dni:∀K,dJ ns K->dn K≠i:=fun K hK e=>by have:=(h.AR hK).2;rw[e,hF1.2.2.1]at this;cases this
 have anC:=vG hno;have U1:∀K,dJ (ns++[n0]) K->dJ ns K:=fun K hK=>by exact Z95
 have mem:∀n∈ns++[n0],n∈ns\/n=n0:=fun n hn=>by simpa using hn
 have lnk:∀n∈ns,n.file≠ -1->(g' (φ n.file)).links=(ns++[n0]).countP fun m=>decide (m.file=n.file):=fun n hn hf=>by
  have h7:=(h.file n hn hf).2.2.2.2;rw[ajX,LY,List.countP_nil];by_cases e:n.file=n1.file
  ·rw[e,<-hi,gi,if_pos (by simp[hf0])];(show(g i).links+1=_);rw[hF1.2.2.2.2]
  have hne:φ n.file≠i:=fun e2=>by
   (have e3:dE dn φ n=dE dn φ n1:=by rw[i1];unfold dE;rw[if_neg hf,e2]);rcases h.inj n hn n1 h1 e3 with h8|h8
   ·exact e (by rw[h8])
   exact e h8.2
  rw[gl _ hne,h7,if_neg (by simp only[jN,hf0];exact fun e2=>e e2.symm)];rfl
 refine⟨h.n0,h.root,?_,?_,?_,?_,?_,?_,?_,?_,?_⟩
 ·rw[(gk 0).1];exact h.rk
 ·exact Z77
 ·intro n hn;rcases mem n hn with hn|en
  ·exact(h.up n hn).snoc _
  rw[en,hk0,<-hPe];exact hP.snoc _
 ·intro n hn hf;rcases mem n hn with hn|en
  ·have h1:=h.dir n hn hf;have h2:=gk (dn (bE n));rw[h2.1,h2.2.1,gl _ (dni _ (.inr ⟨n,hn,rfl,hf⟩))];exact h1
  rw[en]at hf;exact absurd hf hne1
 ·intro n hn hf;have key:∃m∈ns,m.file=n.file:=by
   rcases mem n hn with hn|en
   ·exact⟨n,hn,rfl⟩
   exact⟨n1,h1,by rw[en,hf0]⟩
  obtain⟨m,hm,e⟩:=key;rw[<-e]at hf ⊢;obtain⟨h1,h2,h3,⟨f,h4,h5,h6⟩,h7⟩:=h.file m hm hf;have h8:=gk (φ m.file);refine⟨h1,h2,by rw[h8.1];exact h3,⟨f,h4,by rw[h8.2.1];exact h5,by rw[h8.2.2];exact h6⟩,lnk m hm hf⟩
 ·intro n hn;rcases mem n hn with hn|en
  ·exact h.ne0 n hn
  rw[en,i0];exact hi0
 ·intro n hn m hm e;rcases mem n hn with hn|en
  ·rcases mem m hm with hm|em
   ·exact h.inj n hn m hm e
   rw[em,i0,<-i1]at e;rw[em,hf0];rcases h.inj n hn n1 h1 e with h8|h8
   ·rw[h8];exact .inr ⟨hf1,rfl⟩
   exact .inr h8
  rcases mem m hm with hm|em
  ·rw[en,i0,<-i1]at e;rw[en,hf0];rcases h.inj n1 h1 m hm e with h8|h8
   ·rw[<-h8];exact .inr ⟨hf1,rfl⟩
   exact .inr h8
  exact .inl (by rw[en,em])
 ·intro m hm hk;rw[(gk m).1]at hk;rcases h.cover m hm hk with h1|⟨n,hn,h1⟩
  ·exact .inl h1
  exact .inr ⟨n,vU _ hn,h1⟩
 intro K hK;have hK':=U1 K hK;rw[KW,mZ];have hE:=h.bH K hK';exact Z7
theorem l6.aAM {n:TN} (h:l6 g nm (n::ns) fs dn φ) {x:LI} {ix:Nat} (hk:eP ns (bE n)=[])
  (hx:(n.file≠ -1/\x= {g (dE dn φ n)with links:=(g (dE dn φ n)).links-1}/\∃m∈ns,m.file=n.file)\/(x=LI0/\∀m∈ns,dE dn φ m≠dE dn φ n))
  (hi:ix<(g (dn (bE n).dropLast)).bH.length) (he:tC (g (dn (bE n).dropLast)).bH ix=((bE n).getLastD [],dE dn φ n)):
  l6 (dP (dP g (dn (bE n).dropLast) ((g (dn (bE n).dropLast)).less ix)) (dE dn φ n) x) nm ns fs dn φ:=by
 obtain⟨P,hPe⟩:∃P,P=(bE n).dropLast:=⟨_,rfl⟩;rw[<-hPe]at hi he ⊢;obtain⟨i,hie⟩:∃i,i=dE dn φ n:=⟨_,rfl⟩;rw[<-hie]at hx he ⊢;obtain⟨d,hd⟩:∃d,d=dn P:=⟨_,rfl⟩;rw[<-hd]at hi he ⊢;obtain⟨g',hg'⟩:∃g',g'=dP (dP g d ((g d).less ix)) i x:=⟨_,rfl⟩;rw[<-hg'];have hu:=h.uniq;rw[jV,xJ]at hu;have hn0:n∈n::ns:=nH;have U1:∀K,dJ ns K->dJ (n::ns) K:=fun K hK=>by
  rcases hK with e|⟨m,hm,e⟩
  ·exact .inl e
  exact .inr ⟨m,vR _ hm,e⟩
 have aEP:∀K,dJ (n::ns) K->K≠bE n->dJ ns K:=fun K hK hne=>by
  rcases hK with e|⟨m,hm,e,hf⟩
  ·exact .inl e
  rcases kE.1 hm with e2|hm
  ·rw[e2]at e;exact absurd e.symm hne
  exact .inr ⟨m,hm,e,hf⟩
 have hP:dJ ns P:=aEP P (by rw[hPe];exact h.up n hn0) (by rw[hPe];exact CE (aaF n));have hi0:i≠0:=by rw[hie];exact h.ne0 n hn0
 have aEQ:n.file≠ -1->(g i).kind=2:=fun hf=>by
  rcases(h.MV hn0).2 with⟨h1,_⟩|⟨_,h1⟩
  ·exact absurd h1 hf
  rw[hie];exact h1
 have dni:∀K,dJ ns K->dn K≠i:=fun K hK e=>by
  rcases hx with⟨hf,_⟩|⟨_,hx⟩
  ·have:=(h.AR (U1 K hK)).2;rw[e,aEQ hf]at this;cases this
  rcases hK with e1|⟨m,hm,e1,hf⟩
  ·rw[e1,h.root]at e;exact hi0 e.symm
  refine hx m hm ?_;unfold dE;rw[if_pos hf,e1,e]
 have hdi:d≠i:=by rw[hd];exact dni P hP
 have gi:g' i=x:=by rw[hg',bM]
 have gd:g' d=(g d).less ix:=by rw[hg',bR _ _ hdi,bM]
 have go:∀m,m≠d->m≠i->g' m=g m:=fun m h1 h2=>by rw[hg',bR _ _ h2,bR _ _ h1]
 have gk:∀m,m≠i->(g' m).kind=(g m).kind/\(g' m).mode=(g m).mode/\(g' m).links=(g m).links/\(g' m).data=(g m).data:=fun m h2=>by exact Z92
 have fi:∀m∈ns,m.file≠ -1->m.file≠n.file->φ m.file≠i:=fun m hm hf hne e=>by
  (have e1:dE dn φ m=dE dn φ n:=by rw[<-hie,<-e];unfold dE;rw[if_neg hf]);rcases h.inj m (vR _ hm) n hn0 e1 with h1|h1
  ·rw[h1]at hne;exact hne rfl
  exact hne h1.2
 refine⟨h.n0,h.root,?_,hu.2,?_,?_,?_,?_,?_,?_,?_⟩
 ·rw[(gk 0 (fun e=>hi0 e.symm)).1];exact h.rk
 ·intro m hm;(refine aEP _ (h.up m (vR _ hm)) fun e=>?_);have:m∈eP ns (bE n):=List.mem_filter.2 ⟨hm,by simp[e]⟩;rw[hk]at this;cases this
 ·intro m hm hf;have h2:=gk (dn (bE m)) (dni _ (.inr ⟨m,hm,rfl,hf⟩));rw[h2.1,h2.2.1,h2.2.2.1];exact h.dir m (vR _ hm) hf
 ·intro m hm hf;obtain⟨h1,h2,h3,h4,h7⟩:=h.file m (vR _ hm) hf;rw[LY]at h7;by_cases e:m.file=n.file
  ·rcases hx with⟨hfn,hx,_⟩|⟨_,hx⟩
   ·(have e1:φ m.file=i:=by rw[hie,e];unfold dE;rw[if_neg hfn]);rw[e1]at h2 h3 h4 h7 ⊢;rw[gi,hx];refine⟨h1,h2,h3,h4,?_⟩;rw[if_pos (by simp[e])]at h7;(show(g i).links-1=_);omega
   exfalso;refine hx m hm ?_;rw[hie];unfold dE;rw[<-e,if_neg hf,if_neg hf]
  have h8:=gk (φ m.file) (fi m hm hf e);rw[h8.1,h8.2.1,h8.2.2.1,h8.2.2.2];refine⟨h1,h2,h3,h4,?_⟩;rw[if_neg (by simp only[jN];exact fun e2=>e e2.symm)]at h7;exact h7
 ·intro m hm;exact h.ne0 m (vR _ hm)
 ·intro m hm k hk e;exact h.inj m (vR _ hm) k (vR _ hk) e
 ·intro k hkm hkk;by_cases e:k=i
  ·rw[e,gi]at hkk;rcases hx with⟨hf,_,m,hm,hmf⟩|⟨hx,_⟩
   ·refine .inr ⟨m,hm,?_⟩;rw[e,hie];unfold dE;rw[hmf,if_neg hf,if_neg hf]
   rw[hx]at hkk;exact absurd rfl hkk
  rw[(gk k e).1]at hkk;rcases h.cover k hkm hkk with h1|⟨m,hm,h1⟩
  ·exact .inl h1
  rcases kE.1 hm with e2|hm
  ·rw[e2,<-hie]at h1;exact absurd h1.symm e
  exact .inr ⟨m,hm,h1⟩
 intro K hK;have hE:=h.bH K (U1 K hK);by_cases e:P=K
 ·subst e;rw[<-hd]at hE ⊢;rw[gd];(have e1:eP (n::ns) P=n::eP ns P:=by unfold eP;rw[yM,if_pos (by simp[hPe])]);rw[e1,jV,<-hie]at hE;have h2:=tQ hi;rw[he]at h2;exact(h2.symm.trans hE).cons_inv
 have e1:eP (n::ns) K=eP ns K:=by unfold eP;rw[yM,if_neg (by simp only[tL];rw[<-hPe];exact e)]
 rw[e1]at hE;rw[go _ (fun e2=>e ?_) (dni K hK)]
 ·exact hE
 exact(h.aaG (U1 K hK) (U1 P hP) (by rw[e2,hd])).symm
theorem l6.awX (h:l6 g nm ns fs dn φ) {n:TN} (hn:n∈ns) (hf:n.file≠ -1) {mode:Nat} {bs:List UInt8}:
  l6 (dP g (φ n.file) {g (φ n.file)with mode:=mode,data:=bs}) nm ns (fs.set n.file.toNat ⟨mode,bs⟩) dn φ:=by
 obtain⟨i,hi⟩:∃i,i=φ n.file:=⟨_,rfl⟩;rw[<-hi];obtain⟨g',hg'⟩:∃g',g'=dP g i {g i with mode:=mode,data:=bs}:=⟨_,rfl⟩;rw[<-hg'];have gi:g' i= {g i with mode:=mode,data:=bs}:=by rw[hg',bM]
 have go:∀m,m≠i->g' m=g m:=fun m h2=>by rw[hg',bR _ _ h2]
 have gk:∀m,(g' m).kind=(g m).kind/\(g' m).links=(g m).links/\(g' m).bH=(g m).bH:=fun m=>by
  by_cases h2:m=i
  ·rw[h2,gi];exact⟨rfl,rfl,rfl⟩
  rw[go m h2];exact⟨rfl,rfl,rfl⟩
 have hF:=h.file n hn hf;rw[<-hi]at hF;have hlt:=h.akU hn hf;have dni:∀K,dJ ns K->dn K≠i:=fun K hK e=>by have:=(h.AR hK).2;rw[e,hF.2.2.1]at this;cases this
 refine⟨h.n0,h.root,by rw[(gk 0).1];exact h.rk,h.uniq,h.up,?_,?_,h.ne0,h.inj,fun k h1 h2=>h.cover k h1 (by rw[<-(gk k).1];exact h2),fun K hK=>by rw[(gk _).2.2];exact h.bH K hK⟩
 ·intro m hm hf;rw[go _ (dni _ (.inr ⟨m,hm,rfl,hf⟩))];exact h.dir m hm hf
 intro m hm hfm;obtain⟨h1,h2,h3,⟨f,h4,h5,h6⟩,h7⟩:=h.file m hm hfm;by_cases e:m.file=n.file
 ·rw[e,<-hi]at h2 h3 h7 ⊢;rw[gi];refine⟨hlt.1,h2,h3,⟨⟨mode,bs⟩,?_,rfl,rfl⟩,h7⟩;rw[OI aD]
 have hne:φ m.file≠i:=fun e2=>by
  (have e3:dE dn φ m=dE dn φ n:=by unfold dE;rw[if_neg hfm,if_neg hf,e2,hi]);rcases h.inj m hm n hn e3 with h8|h8
  ·exact e (by rw[h8])
  exact e h8.2
 rw[go _ hne];refine⟨h1,h2,h3,⟨f,?_,h5,h6⟩,h7⟩;rw[abY aD];exact h4
theorem l6.aAN {n:TN} (h:l6 g nm (n::ns) fs dn φ) (hf:n.file= -1) {mode:Nat}:
  l6 (dP g (dn (bE n)) {g (dn (bE n))with mode:=mode}) nm (⟨n.path, -1,mode⟩::ns) fs dn φ:=by
 obtain⟨n0,hn0⟩:∃n0:TN,n0=⟨n.path, -1,mode⟩:=⟨_,rfl⟩;rw[<-hn0];have hk0:bE n0=bE n:=by rw[hn0];rfl
 have hf0:n0.file= -1:=by rw[hn0]
 have hm0:n0.mode=mode:=by rw[hn0]
 obtain⟨i,hi⟩:∃i,i=dn (bE n):=⟨_,rfl⟩;rw[<-hi];obtain⟨g',hg'⟩:∃g',g'=dP g i {g i with mode:=mode}:=⟨_,rfl⟩;rw[<-hg'];have gi:g' i= {g i with mode:=mode}:=by rw[hg',bM]
 have go:∀m,m≠i->g' m=g m:=fun m h2=>by rw[hg',bR _ _ h2]
 have gk:∀m,(g' m).kind=(g m).kind/\(g' m).links=(g m).links/\(g' m).bH=(g m).bH/\(g' m).data=(g m).data:=fun m=>by
  by_cases h2:m=i
  ·rw[h2,gi];exact⟨rfl,rfl,rfl,rfl⟩
  rw[go m h2];exact⟨rfl,rfl,rfl,rfl⟩
 have i0:dE dn φ n0=dE dn φ n:=by unfold dE;rw[if_pos hf,if_pos hf0,hk0]
 have i1:dE dn φ n=i:=by unfold dE;rw[if_pos hf,hi]
 have old:∀m∈n0::ns,∃m'∈n::ns,bE m'=bE m/\m'.file=m.file/\dE dn φ m'=dE dn φ m/\(m=n0/\m'=n\/m=m'):=fun m hm=>by
  rcases kE.1 hm with e|hm
  ·exact⟨n,nH,by rw[e,hk0],by rw[e,hf0,hf],by rw[e,i0],.inl ⟨e,rfl⟩⟩
  exact⟨m,vR _ hm,rfl,rfl,rfl,.inr rfl⟩
 have aER:∀K,dJ (n0::ns) K↔dJ (n::ns) K:=fun K=>by unfold dJ;simp only[kE,exists_eq_or_imp,hk0,hf0,hf]
 have hu:=h.uniq;rw[jV,<-hk0,<-jV (f:=bE)]at hu;have hcnt:∀k:Int,(n0::ns).countP (fun m=>decide (m.file=k))=(n::ns).countP fun m=>decide (m.file=k):=fun k=>by rw[LY,LY,hf0,hf]
 refine⟨h.n0,h.root,by rw[(gk 0).1];exact h.rk,hu,?_,?_,?_,?_,?_,?_,?_⟩
 ·intro m hm;obtain⟨m',hm',h1,h2,_⟩:=old m hm;rw[<-h1,aER];exact h.up m' hm'
 ·intro m hm hfm;rw[(gk _).1,(gk _).2.1];rcases kE.1 hm with e|hm
  ·rw[e,hk0,<-hi,gi,hm0];have:=h.dir n nH hf;rw[<-hi]at this;exact⟨this.1,this.2.1,rfl,this.2.2.2⟩
  have h1:=h.dir m (vR _ hm) hfm;refine⟨h1.1,h1.2.1,?_,h1.2.2.2⟩;have hne:dn (bE m)≠i:=fun e=>by
   (have e3:dE dn φ m=dE dn φ n:=by rw[i1];unfold dE;rw[if_pos hfm,e]);have h8:m=n:=by
    rcases h.inj m (vR _ hm) n nH e3 with h8|h8
    ·exact h8
    exact absurd hfm h8.1
   have hq:=h.uniq;rw[jV,xJ]at hq;exact hq.1 (List.mem_map.2 ⟨m,hm,by rw[h8]⟩)
  rw[go _ hne];exact h1.2.2.1
 ·intro m hm hfm;have hm':m∈n::ns:=by
   rcases kE.1 hm with e|hm
   ·rw[e]at hfm;exact absurd hf0 hfm
   exact vR _ hm
  have h1:=h.file m hm' hfm;(have hne:φ m.file≠i:=fun e=>by have h2:=h.dir n nH hf;rw[<-hi,<-e,h1.2.2.1]at h2;cases h2.2.1);rw[go _ hne,hcnt];exact h1
 ·intro m hm;obtain⟨m',hm',h1,h2,h3,_⟩:=old m hm;rw[<-h3];exact h.ne0 m' hm'
 ·intro m hm k hk e;obtain⟨m',hm',h1,h2,h3,h4⟩:=old m hm;obtain⟨k',hk',j1,j2,j3,j4⟩:=old k hk;rcases h.inj m' hm' k' hk' (by rw[h3,j3,e])with h5|h5
  ·exact .inl (RA hu hm hk (by rw[<-h1,<-j1,h5]))
  rw[h2,j2]at h5;exact .inr h5
 ·intro k h1 h2;rcases h.cover k h1 (by rw[<-(gk k).1];exact h2)with h3|⟨m,hm,h3⟩
  ·exact .inl h3
  rcases kE.1 hm with e|hm
  ·exact .inr ⟨n0,nH,by rw[i0,<-e,h3]⟩
  exact .inr ⟨m,vR _ hm,h3⟩
 intro K hK;rw[(gk _).2.2.1];have hE:=h.bH K ((aER K).1 hK);have e1:(eP (n0::ns) K).map (fun n=>((bE n).getLastD [],dE dn φ n))=(eP (n::ns) K).map fun n=>((bE n).getLastD [],dE dn φ n):=by
  unfold eP;rw[yM,yM,hk0];split
  ·rw[jV,jV,hk0,i0]
  rfl
 rw[e1];exact hE
end
end Go.Proofs.YtmjomdkleikgbaaGreat
