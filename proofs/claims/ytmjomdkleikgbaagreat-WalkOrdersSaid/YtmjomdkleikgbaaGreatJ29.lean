/- Parts. -/
import Derived.Test.YtmjomdkleikgbaaGreatJ28
set_option linter.unusedVariables false
set_option linter.unusedSimpArgs false
namespace Go.Proofs.YtmjomdkleikgbaaGreat
open Go.RowKit
def D9 (nb names:Nat):Nat:=nb-96-(2+(names+7)/8)
def vT (nb names:Nat) (ns:List TN) (fs:List FT):Bool:=decide (uF ns fs<=D9 nb names)&&decide (nP ns<=names)
structure ae9 (S:VS) (ns:List TN) (fs:List FT) (nb names:Nat):Prop where
 nm:S.names=names
 nbe:S.nb=nb
 vt:∃g dn φ,Vt S.base ns fs g dn φ
def Next (S S':VS):Prop:=S'=S.base\/∃S1:VS,S'=S1.settled/\S1.D=S.D/\S1.nb=S.nb/\S1.bI.2=true/\bk S'.D.now 96=bk S.D.now 96
def akW (S S':VS) (ns':List TN) (fs':List FT) (φ:Int->Nat) (m:Nat):Prop:=Next S S'/\∃g' dn' φ',Vt S'.base ns' fs' g' dn' φ'/\Agr m φ φ'
section
variable {w0 w:World} {R:List aV} {f q p:Nat} {S:VS} {ns:List TN} {fs:List FT} {nb names:Nat}
theorem ae9.base (h:ae9 S ns fs nb names):ae9 S.base ns fs nb names:=⟨h.nm,h.nbe,h.vt⟩
theorem abU (h:Sep w0 w (bE f q p S::R)):96<S.nb:=by obtain⟨_,_,_,hR,_⟩:=h.qD;exact hR.big
theorem ae9.ends {r:Except Int (Option VS)} {ns':List TN} {fs':List FT} {x:Int} {g:LT} {dn:Key->Nat} {φ:Int->Nat} (hL:ae9 S ns fs nb names) (hV:Vt S.base ns fs g dn φ) (hok:S.D.ok S.nb) (RQ:96<S.nb) (hD:yU φ fs.length S.base r ns' fs') (h:nI f q p S.base r w0 w R x):
  if vT nb names ns' fs'=true then
   (x=0/\∃S',ae9 S' ns' fs' nb names/\akW S S' ns' fs' φ fs.length/\(S.D.off=false->S.D.left<0->S'.D.off=false/\S'.D.left=S.D.left)/\Sep w0 w (bE f q p S'::R))\/
   (x=11/\¬(S.D.off=false/\S.D.left<0)/\∃S1:VS,S1.nb=nb/\S1.D=S.D/\kG (nb-96) S1.cur/\(jE S1).length<=40/\S1.bI.2=false/\Sep w0 w (KQ f q p true::aN p S1.bI.1::R))
  else x=27/\Sep w0 w (bE f q p S.base::R):=by
 obtain⟨y,rfl,hno,DL⟩:=hD;have hrB:(S.base.rB:Int)=D9 nb names:=by rw[hV.iJ.rB];(show((S.nb-96-(2+(S.names+7)/8):Nat):Int)=_);rw[hL.nm,hL.nbe];rfl
 have hrI:(S.base.rI:Int)=names:=by rw[hV.iJ.rI];(show(S.names:Int)=_);rw[hL.nm]
 unfold nI at h;cases y with
 |none=>
  have h1:=hno rfl;rw[hrB,hrI]at h1;rw[if_neg]
  ·exact h
  unfold vT;rw[rH,uQ,uQ];omega
 |some S1=>
  obtain⟨lS,hlen,g',dn',φ',hC,hR,hAg⟩:=DL S1 rfl;have hnm:S1.names=S.base.names:=hC.like.names;(have hwB:S1.wB=uF ns' fs':=by rw[hC.ph.wB,hnm];exact hR.wB (by rw[<-hnm];exact hC.ph.fair));(have hwI:S1.wI=nP ns':=by rw[hC.ph.wI,hnm];exact hR.wI (by rw[<-hnm];exact hC.ph.fair));have aA9:S1.rB=D9 nb names:=hC.like.rB.trans hrB;have aBA:S1.rI=names:=hC.like.rI.trans hrI;(have hfits:yN S1=vT nb names ns' fs':=by unfold yN vT;rw[hwB,hwI,aA9,aBA]);simp only[hfits]at h;have hDe:S1.D=S.D:=hC.like.D;(have hD1:S1.D.ok S1.nb:=by rw[hDe,show S1.nb=S.nb from hC.like.nb];exact hok);(have aBB:96<S1.nb:=by rw[show S1.nb=S.nb from hC.like.nb];exact RQ);(have aiA:pY (S1.D.now.drop 96) S1:=by rw[hDe];exact lS);by_cases hf:vT nb names ns' fs'=true
  ·rw[if_pos hf]at h ⊢;by_cases hc:S1.bI.2=true
   ·rw[if_pos hc]at h;have hVt:Vt S1.settled.base ns' fs' g' dn' φ':=by
     refine Vt.of (hC.ph.settled hD1 aBB aiA.1 hC.m hc) hR hnm hlen ?_ ?_ rfl
     ·(show S1.rB=((S1.nb-96-(2+(S1.names+7)/8):Nat):Int));rw[aA9,show S1.nb=nb from(hC.like.nb).trans hL.nbe,hnm,show S.base.names=names from hL.nm];rfl
     (show S1.rI=(S1.names:Int));rw[aBA,hnm,show S.base.names=names from hL.nm]
    (have aGA:bk S1.settled.D.now 96=bk S.D.now 96:=by have e1:=BA hD1 aBB hC.ph.use.cur aiA.1 hC.m hc;have e2:bk (S1.settled.D.now.drop 96) 0=bk S1.cur 0:=congrArg (fun c=>bk c 0) e1;rw[CF,aiA.2,CF,hDe]at e2;exact e2);refine .inl ⟨h.1,S1.settled,⟨?_,?_,g',dn',φ',hVt⟩,⟨.inr ⟨S1,rfl,hDe,hC.like.nb,hc,aGA⟩,g',dn',φ',hVt,hAg⟩,fun ho hl=>?_,h.2⟩
    ·(show S1.names=names);rw[hnm];exact hL.nm
    ·(show S1.nb=nb);rw[show S1.nb=S.nb from hC.like.nb];exact hL.nbe
    have:=vS (S:=S1) (by rw[hDe];exact ho) (by rw[hDe];exact hl);exact⟨this.2.1,by rw[show S1.settled.D.left=S1.bI.1.left from rfl,this.2.2,hDe]⟩
   rw[if_neg hc]at h;refine .inr ⟨h.1,fun⟨ho,hl⟩=>hc (vS (S:=S1) (by rw[hDe];exact ho) (by rw[hDe];exact hl)).1,S1,(hC.like.nb).trans hL.nbe,hDe,?_,DZ aiA.1.puts hC.m,by simpa using hc,h.2⟩;have:=hC.ph.use.cur;rw[show S1.nb=nb from(hC.like.nb).trans hL.nbe]at this;exact this
  rw[if_neg hf]at h ⊢;exact h
theorem atG {S S1:VS} {n:Nat} {bs:List UInt8} (hf:iF S n bs=some S1) (h0:S.m=0) (h1:(aF S.cur n).aB.length<=16) (h2:bs.length<=8192):S1.m<=40:=by
 unfold iF at hf;split at hf
 ·cases hf
 rename_i S2 l h3;cases hf;have h4:=(iX h3);have h5:=(oD bs l 0 S2).m;show(lQ bs l 0 S2).m+1<=_
 rw[h5,h4.1.m,h4.2];omega
theorem Z22 {P:Prop} (h:P:=by exact dB.GY ⟨h.iJ.rB,h.iJ.rI⟩ h.iJ.ph.use this.like this.ph this.m):P:=h
theorem Vt.write {g:LT} {dn:Key->Nat} {φ:Int->Nat} (h:Vt S ns fs g dn φ) {n:TN} (hn:n∈ns) (hf:n.file≠ -1) {bs:List UInt8} (hbs:bs.length<=8192):
  yU φ fs.length S (.ok (iF S (φ n.file) bs)) ns (fs.set n.file.toNat ⟨(g (φ n.file)).mode,bs⟩)/\mZ S (φ n.file)/\fF S/\∀S1,iF S (φ n.file) bs=some S1->lT S S1:=by
 obtain⟨h1,h2,h3,h4,h5⟩:=h.rep.file n hn hf;have hF:=h.iJ.ph.fill (n:=φ n.file) (bs:=bs) h2 h3 hbs;have hR:=h.rep.ah6 hn hf (mode:=(g (φ n.file)).mode) (bs:=bs);have e:({g (φ n.file)with mode:=(g (φ n.file)).mode,data:=bs}:LI)= {g (φ n.file)with data:=bs}:=rfl;rw[e]at hR;have hfair:∀j<S.names,(dM g (φ n.file) {g (φ n.file)with data:=bs} j).fair:=fun j hj=>by
  by_cases e1:j=φ n.file
  ·rw[e1,bJ];have:=h.iJ.ph.fair _ h2;exact⟨this.kind,this.bB,fun hk=>absurd h3 hk,this.few,hbs,this.mode,this.links,this.names⟩
  rw[bL _ _ e1];exact h.iJ.ph.fair j hj
 have hch:∀S1,iF S (φ n.file) bs=some S1->Chg S (dM g (φ n.file) {g (φ n.file)with data:=bs}) S1:=fun S1 hS1=>
  ⟨hF.1 S1 hS1,PO hS1,atG hS1 h.m (by rw[h.iJ.ph.len _ h2];have:=(h.iJ.ph.fair _ h2).short;unfold LI.need;rw[if_neg aI,if_pos h3];omega) hbs⟩
 refine⟨⟨_,rfl,fun hx=>.inl ?_,fun S1 hS1=>⟨(pY.refl S).iF hS1,?_,_,dn,φ,hch S1 hS1,hR,fun _ _=>rfl⟩⟩,h.iJ.ph.UQ h2,h.iJ.ph.sw,fun S1 hS1=>?_⟩
 ·have h6:=hF.2 hx;have h7:=xC hfair;rw[hR.wB hfair]at h7;rw[h.iJ.rB];omega
 ·have:=h.nodes;have:=h.iJ.few;omega
 have:=hch S1 hS1;exact Z22
def abV (ns:List TN) (path:List UInt8) (len:Nat):Int:=
 if cO path=0 then
  if 8192<len then 2
  else match zK ns (splitB path)with
   | .error e=>e
   | .ok (some n)=>if n.file= -1 then 24 else 0
   | .ok none=>if ns.length<256 then 0 else 31
 else cO path
def abW (ns:List TN) (fs:List FT) (path:List UInt8):List TN:=match jQ ns (splitB path)with
 |some n=>ns
 |none=>vR ns fs 2 384 path
def apC (fs:List FT) (k:Int):Int:=((fs[k.toNat]?).map (·.mode)).getD 0
def abX (ns:List TN) (fs:List FT) (path bs:List UInt8):List FT:=match jQ ns (splitB path)with
 |some n=>fs.set n.file.toNat ⟨apC fs n.file,bs⟩
 |none=>PU fs 2 384 bs
theorem Vt.put {g:LT} {dn:Key->Nat} {φ:Int->Nat} (h:Vt S ns fs g dn φ) {path bs:List UInt8} (hp:path.length<=9223372036854775807):
  (cO path=0->¬8192<bs.length->avW S path bs)/\
  ((abV ns path bs.length≠0/\vB S path bs= .error (abV ns path bs.length))\/(abV ns path bs.length=0/\yU φ fs.length S (vB S path bs) (abW ns fs path) (abX ns fs path bs))):=by
 unfold abV vB;by_cases hE:cO path=0
 ·have hv:=wZ hE;simp only[if_pos hE];by_cases hb:8192<bs.length
  ·simp only[if_pos hb];exact⟨fun _ hn=>absurd hb hn,.inl ⟨by decide,trivial⟩⟩
  simp only[if_neg hb];have hL:=h.look path;have hN:=h.new (kind:=2) (mode:=384) (p:=path) (bs:=bs) (.inr rfl) hv (dD hv) aR aI;cases ha:zK ns (splitB path)with
  |error e=>
   have he:=qP ha;rw[ha]at hL;simp only at hL;simp only[hL];refine⟨fun _ _=>⟨fun d hd=>?_,fun d m _ hd=>?_⟩,.inl ⟨by omega,?_⟩⟩
   ·rw[hL]at hd;have e1:(0:Int)= -1:=congrArg (fun x:Int×Int×Int=>x.2.1) hd;exact absurd e1 aR
   ·rw[hL]at hd;have e1:e=0:=congrArg (fun x:Int×Int×Int=>x.2.2) hd;omega
   rw[if_neg aI]
  |ok y=>
   obtain⟨hP,hno,_⟩:=iE (S:=S) h.rep ha;cases y with
   |none=>
    rw[ha]at hL;simp only at hL;unfold LQ JJ at hN;rw[ha,hL]at hN;have e0:fQ ((dn (splitB path).dropLast:Int),(-1:Int),(0:Int))=none:=rfl;simp only[e0]at hN;simp only[hL];rw[if_pos trivial,if_pos (show(-1:Int)<0 by decide)];refine⟨fun _ _=>⟨fun d hd=>?_,fun d m _ hd=>?_⟩,?_⟩
    ·rw[hL]at hd;exact hN.1 d hd
    ·rw[hL]at hd;have e1:(-1:Int)=m:=congrArg (fun x:Int×Int×Int=>x.2.1) hd;omega
    unfold abW abX;rw[<-hno];exact hN.2
   |some n=>
    rw[ha]at hL;simp only at hL;have hn:n∈ns/\aZ n=splitB path:=eD hno.symm;obtain⟨hk1,hk2⟩:=h.rep.G5 hn.1;simp only[hL];rw[if_pos trivial,if_neg (show ¬(bY dn φ n:Int)<0 by omega),lM];have hkind:(aF S.cur (bY dn φ n)).kind=(g (bY dn φ n)).kind:=h.iJ.ph.kind hk1;by_cases hf:n.file= -1
    ·have h1:(aF S.cur (bY dn φ n)).kind=1:=by
      rw[hkind];rcases hk2 with h2|h2
      ·exact h2.2
      exact absurd hf h2.1
     rw[if_pos h1,if_pos hf];refine⟨fun _ _=>⟨fun d hd=>?_,fun d m _ hd hkm=>?_⟩,.inl ⟨by decide,rfl⟩⟩
     ·rw[hL]at hd;exact Z33
     rw[hL]at hd;have e1:(bY dn φ n:Int)=m:=congrArg (fun x:Int×Int×Int=>x.2.1) hd;(have e2:bY dn φ n=m:=by omega);rw[<-e2]at hkm;exact absurd h1 hkm
    have hW:=h.write hn.1 hf (bs:=bs) aI;(have hi:bY dn φ n=φ n.file:=by unfold bY;rw[if_neg hf]);have h1:(aF S.cur (bY dn φ n)).kind≠1:=by
     rw[hkind];rcases hk2 with h2|h2
     ·exact absurd h2.1 hf
     rw[h2.2];decide
    rw[if_neg h1,if_neg hf];refine⟨fun _ _=>⟨fun d hd=>?_,fun d m _ hd hkm=>?_⟩,.inr ⟨rfl,?_⟩⟩
    ·rw[hL]at hd;exact Z33
    ·rw[hL]at hd;have e1:(bY dn φ n:Int)=m:=congrArg (fun x:Int×Int×Int=>x.2.1) hd;(have e2:φ n.file=m:=by omega);rw[<-e2];exact hW.2
    unfold abW abX;rw[<-hno,hi];(have hm:apC fs n.file=(g (φ n.file)).mode:=by obtain⟨_,_,_,⟨fl,h4,h5,_⟩,_⟩:=h.rep.file n hn.1 hf;unfold apC;rw[h4];exact h5.symm);simp only[hm];exact hW.1
 simp only[if_neg hE];exact⟨fun e=>absurd e hE,.inl ⟨hE,trivial⟩⟩
end
end Go.Proofs.YtmjomdkleikgbaaGreat
namespace Go.Proofs.YtmjomdkleikgbaaGreat
def pK (ns:List TN) (K:Key):List TN:=ns.filter fun m=> !(aZ m==K)
theorem sU :∀ {ns:List TN} {n:TN},(ns.map aZ).Nodup->n∈ns->ns.Perm (n::pK ns (aZ n))
 |a::t,n,hu,hn=>by
  rw[jW,wK]at hu;unfold pK;rw[zA];rcases jU.1 hn with e|hn
  ·subst e;rw[if_neg bK];(have e2:t.filter (fun m=> !(aZ m==aZ n))=t:=by rw[D6];intro m hm;(have:aZ m≠aZ n:=fun e=>hu.1 (List.mem_map.2 ⟨m,hm,e⟩));simp[this]);rw[e2]
  (have hne:aZ a≠aZ n:=fun e=>hu.1 (List.mem_map.2 ⟨n,hn,e.symm⟩));rw[if_pos (by simp[hne])];exact((sU hu.2 hn).cons a).trans (List.Perm.swap _ _ _)
theorem afA (g:LT) (n:Nat) (x y:LI):dM (dM g n x) n y=dM g n y:=by funext i;unfold dM;split<;>rfl
section
variable {S:VS} {g:LT} {ns:List TN} {fs:List FT} {dn:Key->Nat} {φ:Int->Nat}
theorem Vt.entry (h:Vt S ns fs g dn φ) {p:List UInt8} {n:TN} (hn:jQ ns (splitB p)=some n) (hP:dI ns (splitB p).dropLast):
  ∃i,i<(g (dn (splitB p).dropLast)).bB.length/\(jY (g (dn (splitB p).dropLast)).bB (aL p)).1=i/\rT (g (dn (splitB p).dropLast)).bB i=(aL p,bY dn φ n):=by
 have hf:=h.rep.find hP (aL p);rw[<-yC,hn]at hf;rcases AY (g (dn (splitB p).dropLast)).bB (aL p)with⟨i,h1,h2,h3,h4⟩|⟨_,h4⟩
 ·refine⟨i,h1,h3,?_⟩;rw[hf]at h4;have e1:bY dn φ n=(jY (g (dn (splitB p).dropLast)).bB (aL p)).2:=Option.some.inj h4;rw[h2,e1]
 rw[hf]at h4;cases h4
theorem lL.UX {nm:Nat} (h:lL g nm ns fs dn φ) {n:TN} (hn:n∈ns) (hf:n.file≠ -1):eB ns (aZ n)=[]:=by
 unfold eB;rw[ag2];intro m hm hk;have e:(aZ m).dropLast=aZ n:=by simpa using hk
 rcases h.up m hm with h1|⟨a,ha,h1,h2⟩
 ·exact XQ n (by rw[<-e,h1])
 have:a=n:=PQ h.uniq ha hn (by rw[h1,e]);rw[this]at h2;exact hf h2
theorem JS {n:TN} {K:Key} (h:eB ns K=[]):eB (pK ns (aZ n)) K=[]:=by unfold eB pK at*;rw[ag2]at h ⊢;intro m hm;exact h m (List.mem_filter.1 hm).1
theorem Z60 {P:Prop} (h:P:=by rw[hS1];have:=h.iJ.ph.as7 (name:=aL p) hd1 hd2;rw[h.m]at this;omega):P:=h
theorem Vt.apD (h:Vt S ns fs g dn φ) {p:List UInt8} {n:TN} (hv:aU p=true) (hn:jQ ns (splitB p)=some n) (hP:dI ns (splitB p).dropLast) (hf:n.file≠ -1):
  yU φ fs.length S (.ok (some (nW S (dn (splitB p).dropLast) (aL p) (φ n.file)))) (pK ns (splitB p)) fs/\O9 S (dn (splitB p).dropLast) p (φ n.file):=by
 obtain⟨hnm,hnk⟩:=eD hn;obtain⟨ix,hi,hl,he⟩:=h.entry hn hP;have hbase:(aL p).length<=15:=by have:=qI hv;omega
 obtain⟨hd1,hd2⟩:=h.rep.zJ hP;obtain⟨_,hj1,hj2,_,hj3⟩:=h.rep.file n hnm hf;have nH:bY dn φ n=φ n.file:=by unfold bY;rw[if_neg hf]
 rw[nH]at he;obtain⟨d,hd⟩:∃d,d=dn (splitB p).dropLast:=⟨_,rfl⟩;obtain⟨j,hj⟩:∃j,j=φ n.file:=⟨_,rfl⟩;rw[<-hd]at hi hl he hd1 hd2;rw[<-hj]at he hj1 hj2 hj3;rw[<-hd,<-hj];have hjd:j≠d:=fun e=>by rw[e,hd2]at hj2;cases hj2
 --the tree
 have hperm:=sU h.rep.uniq hnm;have hR0:=h.rep.perm hperm;rw[hnk]at hperm hR0;have hkey:aZ n=splitB p:=hnk;have hlast:(aZ n).getLastD []=aL p:=by rw[hkey];rfl
 have abY:eB (pK ns (splitB p)) (aZ n)=[]:=by have:=JS (n:=n) (h.rep.UX hnm hf);rw[hnk]at this ⊢;exact this
 have P7:=fun(x:LI) hx=>hR0.aw3 (x:=x) (ix:=ix) abY hx (by rw[hkey,<-hd];exact hi) (by rw[hkey,<-hd,nH,<-hj];exact he.trans (by rw[<-hkey,hlast]))
 rw[hkey,<-hd,nH,<-hj]at P7;have hcnt:(g j).links=1+(pK ns (splitB p)).countP fun m=>decide (m.file=n.file):=by rw[hj3,hperm.countP_eq,KF,if_pos bK];omega
 --the blocks
 have hL:=h.iJ.ph.leave hd1 hd2 hi hl;have hlv:=h.iJ.ph.XP hd1 hd2 hbase hi hl;obtain⟨S1,hS1⟩:∃S1,S1=bZ S d (aL p):=⟨_,rfl⟩;have hL1:eX S S1:=by rw[hS1];exact oJ _ _ _
 have hm1:S1.m<=4:=by exact Z60
 have hF1:pY S.cur S1:=by rw[hS1];exact(pY.refl S).bZ _ _
 rw[<-hS1]at hL;obtain⟨g1,hg1⟩:∃g1,g1=dM g d ((g d).less ix):=⟨_,rfl⟩;rw[<-hg1]at hL P7;have SF:j<S1.names:=by rw[hL1.names];exact hj1
 have gj:g1 j=g j:=by rw[hg1,bL _ _ hjd]
 have hfair:=hL.fair j SF;obtain⟨x,hx⟩:∃x:LI,x= {g1 j with links:=(g1 j).links-1}:=⟨_,rfl⟩;have hxf:x.fair:=by rw[hx];exact⟨hfair.kind,hfair.bB,hfair.data,hfair.few,hfair.short,hfair.mode,by show(g1 j).links-1<65536;have:=hfair.links;omega,hfair.names⟩
 have hM:=hL.meta SF (x:=x) hxf (by rw[hx]) (by rw[hx]) (by rw[hx]);have hy:({aF S1.cur j with links:=(aF S1.cur j).links-1}:VI)=x.vi (aF S1.cur j).aB:=by
  have:=hL.head j SF;rw[hx]
  conv=>lhs;rw[this]
  rfl
 have hyl:(aF S1.cur j).links=(g j).links:=by rw[hL.head j SF,gj];rfl
 have hsm:(aF S1.cur j).aB.length<=16:=by rw[hL.len j SF,gj];have:=(h.iJ.ph.fair j hj1).short;unfold LI.need;rw[if_neg aI,if_pos hj2];omega
 rw[<-hy]at hM;obtain⟨S2,hS2⟩:∃S2,S2=S1.keep j {aF S1.cur j with links:=(aF S1.cur j).links-1}:=⟨_,rfl⟩;rw[<-hS2]at hM;have hL2:eX S S2:=by rw[hS2];exact hL1.keep _ _
 have hm2:S2.m<=5:=by rw[hS2];show S1.m+1<=5;omega
 have hF2:pY S.cur S2:=by rw[hS2];exact hF1.keep _ _
 have aMY:(aF S2.cur j).aB.length<=16:=by rw[hM.len j (by rw[hL2.names];exact hj1),bJ,hx,gj];have:=(h.iJ.ph.fair j hj1).short;unfold LI.need;rw[if_neg (by show ¬(g j).kind=1;omega),if_pos (by exact hj2)];(show((g j).data.length+511)/512<=16);omega
 have hun:nW S d (aL p) j=if(g j).links-1=0 then l9 S2 j else S2:=by unfold nW;simp only;rw[<-hS1,<-hS2,hyl]
 have hlen:(pK ns (splitB p)).length<=256:=by have h1:=hperm.length_eq;rw[kM]at h1;have:=h.nodes;have:=h.iJ.few;omega
 have aGC:∃g',Chg S g' (nW S d (aL p) j)/\lL g' S.names (pK ns (splitB p)) fs dn φ:=by
  rw[hun];by_cases h0:(g j).links-1=0
  ·rw[if_pos h0];(have hc0:(pK ns (splitB p)).countP (fun m=>decide (m.file=n.file))=0:=by omega);have hno:∀m∈pK ns (splitB p),bY dn φ m≠j:=fun m hm e=>by
    have hmn:m∈ns:=(List.mem_filter.1 hm).1;(have hne:m.file≠n.file:=by simpa using List.countP_eq_zero.1 hc0 m hm);rcases h.rep.inj m hmn n hnm (by rw[e,nH,hj])with h8|h8
    ·exact hne (by rw[h8])
    exact hne h8.2
   have hDr:=hM.drop (n:=j) (by rw[hL2.names];exact hj1) (by rw[bJ,hx,gj];exact(h.iJ.ph.fair j hj1).bB aI);rw[afA]at hDr;refine⟨_,⟨hDr,hL2.trans (OG _ _),?_⟩,P7 LI0 (.inr ⟨rfl,hno⟩)⟩;have:=aoQ S2 j;omega
  rw[if_neg h0];(have hex:∃m∈pK ns (splitB p),m.file=n.file:=by(have:0<(pK ns (splitB p)).countP fun m=>decide (m.file=n.file):=by omega);obtain⟨m,hm,e⟩:=List.countP_pos_iff.1 this;exact⟨m,hm,by simpa using e⟩);have hl2:=P7 x (.inl ⟨hf,by rw[hx,gj],hex⟩);exact⟨_,⟨hM,hL2,by omega⟩,hl2⟩
 obtain⟨g',hC,hR⟩:=aGC;refine⟨⟨_,rfl,fun e=>(by cases e),fun T hT=>?_⟩,?_⟩
 ·cases hT;refine⟨?_,hlen,g',dn,φ,hC,hR,fun _ _=>rfl⟩;rw[hun];split
  ·exact hF2.l9 _
  exact hF2
 refine⟨hlv,h.iJ.ph.sv,?_,?_,?_,?_,?_,?_⟩
 ·rw[<-hS1];exact hL.UQ SF
 ·rw[<-hS1,hyl];omega
 ·rw[<-hS1];exact hL.sw
 ·rw[<-hS1,<-hS2];exact hM.UQ (by rw[hL2.names];exact hj1)
 ·rw[<-hS1,<-hS2];exact hM.sw
 exact dB.GY ⟨h.iJ.rB,h.iJ.rI⟩ h.iJ.ph.use hC.like hC.ph hC.m
theorem Vt.rmdir (h:Vt S ns fs g dn φ) {p:List UInt8} {n:TN} (hv:aU p=true) (hn:jQ ns (splitB p)=some n) (hP:dI ns (splitB p).dropLast) (hf:n.file= -1) (hk:eB ns (splitB p)=[]):
  yU φ fs.length S (.ok (some (l9 (bZ S (dn (splitB p).dropLast) (aL p)) (dn (splitB p))))) (pK ns (splitB p)) fs/\XF S (dn (splitB p).dropLast) p (dn (splitB p)):=by
 obtain⟨hnm,hnk⟩:=eD hn;obtain⟨ix,hi,hl,he⟩:=h.entry hn hP;have hbase:(aL p).length<=15:=by have:=qI hv;omega
 obtain⟨hd1,hd2⟩:=h.rep.zJ hP;have hkey:aZ n=splitB p:=hnk;obtain⟨hj1,hj2,_,_⟩:=h.rep.dir n hnm hf;have nH:bY dn φ n=dn (splitB p):=by unfold bY;rw[if_pos hf,hkey]
 have hne0:=h.rep.ne0 n hnm;rw[nH]at he hne0;rw[hkey]at hj1 hj2;have hsplit:splitB p≠[]:=gP p;have hDp:dI ns (splitB p):=.inr ⟨n,hnm,hkey,hf⟩;have hjd:dn (splitB p)≠dn (splitB p).dropLast:=fun e=>AZ hsplit (h.rep.XR hDp hP e).symm
 have hsz:=h.rep.dZ hDp;have hsz0:(g (dn (splitB p))).bB.length=0:=by rw[hsz];unfold dZ;rw[hk];rfl
 obtain⟨d,hd⟩:∃d,d=dn (splitB p).dropLast:=⟨_,rfl⟩;obtain⟨j,hj⟩:∃j,j=dn (splitB p):=⟨_,rfl⟩;rw[<-hd]at hi hl he hd1 hd2 hjd;rw[<-hj]at he hj1 hj2 hne0 hjd hsz0;rw[<-hd,<-hj];have hperm:=sU h.rep.uniq hnm;have hR0:=h.rep.perm hperm;rw[hnk]at hperm hR0;have hlast:(aZ n).getLastD []=aL p:=by rw[hkey];rfl
 have abY:eB (pK ns (splitB p)) (aZ n)=[]:=by have:=JS (n:=n) (K:=splitB p) hk;rw[hnk]at this;rw[hkey];exact this
 have hno:∀m∈pK ns (splitB p),bY dn φ m≠j:=fun m hm e=>by
  have hmn:m∈ns:=(List.mem_filter.1 hm).1;rcases h.rep.inj m hmn n hnm (by rw[e,nH,hj])with h8|h8
  ·have:=(List.mem_filter.1 hm).2;rw[h8,hkey]at this;simp at this
  exact h8.1 (by rw[h8.2,hf])
 have P7:=hR0.aw3 (x:=LI0) (ix:=ix) abY (.inr ⟨rfl,fun m hm=>by rw[nH,<-hj];exact hno m hm⟩) (by rw[hkey,<-hd];exact hi) (by rw[hkey,<-hd,nH,<-hj];exact he.trans (by rw[<-hkey,hlast]));rw[hkey,<-hd,nH,<-hj]at P7;have hL:=h.iJ.ph.leave hd1 hd2 hi hl;have hlv:=h.iJ.ph.XP hd1 hd2 hbase hi hl;obtain⟨S1,hS1⟩:∃S1,S1=bZ S d (aL p):=⟨_,rfl⟩;have hL1:eX S S1:=by rw[hS1];exact oJ _ _ _
 have hm1:S1.m<=4:=by exact Z60
 have hF1:pY S.cur S1:=by rw[hS1];exact(pY.refl S).bZ _ _
 rw[<-hS1]at hL;rw[<-hS1];have gj:dM g d ((g d).less ix) j=g j:=bL _ _ hjd;have SF:j<S1.names:=by rw[hL1.names];exact hj1
 have aaZ:(g j).bB=[]:=uR hsz0;have hDr:=hL.drop (n:=j) SF (by rw[gj];exact aaZ);have hsm:(aF S1.cur j).aB.length<=1:=by rw[hL.len j SF,gj,kQ hj2,hsz0];decide
 have hlen:(pK ns (splitB p)).length<=256:=by have h1:=hperm.length_eq;rw[kM]at h1;have:=h.nodes;have:=h.iJ.few;omega
 have hC:Chg S (dM (dM g d ((g d).less ix)) j LI0) (l9 S1 j):=⟨hDr,hL1.trans (OG _ _),by have:=aoQ S1 j;omega⟩;refine⟨⟨_,rfl,fun e=>(by cases e),fun T hT=>?_⟩,hlv,h.iJ.ph.sv,?_,?_,?_⟩
 ·cases hT;exact⟨hF1.l9 _,hlen,_,dn,φ,hC,P7,fun _ _=>rfl⟩
 ·rw[<-hS1];exact hL.UQ SF
 ·rw[<-hS1];exact hL.sw
 rw[<-hS1];exact dB.GY ⟨h.iJ.rB,h.iJ.rI⟩ h.iJ.ph.use hC.like hC.ph hC.m
theorem P8 {L:tJ} {z:List UInt8×Nat} {i:Nat} (h:i<L.length):rT (L++[z]) i=rT L i:=by unfold rT;rw[gH,gH,C9 h]
theorem XY {L:tJ} {z:List UInt8×Nat} {i:Nat} (h:i<L.length):(jT L i++[z]).Perm (jT (L++[z]) i):=by have h1:=sF h;have h2:=sF (L:=L++[z]) (i:=i) (by rw[jJ];omega);rw[P8 h]at h2;have h3:(L++[z]).Perm (rT L i::(jT L i++[z])):=h1.append_right [z];exact(h3.symm.trans h2).cons_inv
theorem UY {n0:TN} {K:Key} (h:aZ n0≠K):pK (ns++[n0]) K=pK ns K++[n0]:=by unfold pK;rw[FH];congr 1;rw[zA,if_pos (by simp[h])];rfl
theorem Vt.rename (h:Vt S ns fs g dn φ) {p q:List UInt8} {n:TN} (hv:aU p=true) (YV:aU q=true) (hn:jQ ns (splitB p)=some n) (hP:dI ns (splitB p).dropLast) (hf:n.file≠ -1)
  (hQ:dI ns (splitB q).dropLast) (hno:jQ ns (splitB q)=none):
  yU φ fs.length S (.ok (nX S (dn (splitB p).dropLast) (aL p) (dn (splitB q).dropLast) (aL q) (φ n.file))) (pK ns (splitB p)++[⟨q,n.file,0⟩]) fs/\PD S (dn (splitB p).dropLast) (dn (splitB q).dropLast) p q (φ n.file):=by
 obtain⟨hnm,hnk⟩:=eD hn;obtain⟨ix,hi,hl,he⟩:=h.entry hn hP;have hbase:(aL p).length<=15:=by have:=qI hv;omega
 have ER:(aL q).length<=15:=by have:=qI YV;omega
 obtain⟨hd1,hd2⟩:=h.rep.zJ hP;obtain⟨he1,he2⟩:=h.rep.zJ hQ;obtain⟨_,hj1,hj2,_,hj3⟩:=h.rep.file n hnm hf;have nH:bY dn φ n=φ n.file:=by unfold bY;rw[if_neg hf]
 have BU:=h.rep.ah5 hnm hf hQ hno;rw[nH]at he;obtain⟨d,hd⟩:∃d,d=dn (splitB p).dropLast:=⟨_,rfl⟩;obtain⟨d2,hdd⟩:∃d,d=dn (splitB q).dropLast:=⟨_,rfl⟩;obtain⟨j,hj⟩:∃j,j=φ n.file:=⟨_,rfl⟩;rw[<-hd]at hi hl he hd1 hd2;rw[<-hdd]at he1 he2;rw[<-hj]at he hj1 hj2 hj3;rw[<-hdd,<-hj]at BU;rw[<-hd,<-hdd,<-hj];have hjd:j≠d:=fun e=>by rw[e,hd2]at hj2;cases hj2
 have atH:j≠d2:=fun e=>by rw[e,he2]at hj2;cases hj2
 have hkey:aZ n=splitB p:=hnk;have hlast:(aZ n).getLastD []=aL p:=by rw[hkey];rfl
 obtain⟨n0,hn0⟩:∃n0:TN,n0=⟨q,n.file,0⟩:=⟨_,rfl⟩;have hk0:aZ n0=splitB q:=by rw[hn0];rfl
 rw[<-hn0]at BU ⊢;have hpq:aZ n0≠splitB p:=fun e=>uE hno n hnm (by rw[hkey,<-e,hk0])
 obtain⟨ngA,hgA⟩:∃ngA,ngA=dM (dM g j {g j with links:=(g j).links+1}) d2 ((g d2).more (aL q) j):=⟨_,rfl⟩;rw[<-hgA]at BU;have hmem:n∈ns++[n0]:=uT _ hnm;have hR2:=BU.perm (sU BU.uniq hmem);rw[hnk,UY hpq]at hR2;have abY:eB (pK ns (splitB p)++[n0]) (aZ n)=[]:=by have:=JS (n:=n) (BU.UX hmem hf);rw[hnk,UY hpq]at this;rw[hkey];exact this
 have gAd:(ngA d).bB=if d=d2 then(g d).bB++[(aL q,j)]else(g d).bB:=by
  by_cases e:d=d2
  ·rw[if_pos e,hgA,e,bJ];rfl
  rw[if_neg e,hgA,bL _ _ e,bL _ _ (fun e2=>hjd e2.symm)]
 have hiA:ix<(ngA d).bB.length:=by
  rw[gAd];split
  ·rw[jJ];omega
  exact hi
 have heA:rT (ngA d).bB ix=((aZ n).getLastD [],j):=by
  rw[gAd,hlast];split
  ·rw[P8 hi,he]
  exact he
 have gAj:ngA j= {g j with links:=(g j).links+1}:=by rw[hgA,bL _ _ atH,bJ]
 have hl3:=hR2.aw3 (x:= {ngA j with links:=(ngA j).links-1}) (ix:=ix) abY (.inl ⟨hf,by rw[nH,<-hj],n0,by simp,by rw[hn0]⟩) (by rw[hkey,<-hd];exact hiA) (by rw[hkey,<-hd,nH,<-hj,<-hkey];exact heA);rw[hkey,<-hd,nH,<-hj]at hl3
 --the blocks
 obtain⟨g1,hg1⟩:∃g1,g1=dM g d ((g d).less ix):=⟨_,rfl⟩;have hR:lL (dM g1 d2 ((g1 d2).more (aL q) j)) S.names (pK ns (splitB p)++[n0]) fs dn φ:=by
  (refine hl3.congr fun m=>?_);by_cases m1:m=j
  ·subst m1;rw[bJ,bL _ _ atH,hg1,bL _ _ hjd,gAj];exact⟨rfl,rfl,rfl,rfl,FN _⟩
  rw[bL _ _ m1];by_cases m2:m=d
  ·subst m2;rw[bJ];by_cases e:m=d2
   ·subst e;rw[bJ,hg1,bJ];(have e9:(ngA m).bB=(g m).bB++[(aL q,j)]:=by rw[gAd,if_pos rfl]);(have e8:ngA m=(g m).more (aL q) j:=by rw[hgA,bJ]);refine⟨by rw[e8];rfl,by rw[e8];rfl,by rw[e8];rfl,by rw[e8];rfl,?_⟩;(show(jT (g m).bB ix++[(aL q,j)]).Perm (jT (ngA m).bB ix));rw[e9];exact XY hi
   rw[bL _ _ e,hg1,bJ];(have e8:ngA m=g m:=by rw[hgA,bL _ _ e,bL _ _ m1]);rw[e8];exact⟨rfl,rfl,rfl,rfl,FN _⟩
  rw[bL _ _ m2];by_cases e:m=d2
  ·subst e;(have e8:ngA m=(g m).more (aL q) j:=by rw[hgA,bJ]);rw[bJ,hg1,bL _ _ m2,e8];exact⟨rfl,rfl,rfl,rfl,FN _⟩
  (have e8:ngA m=g m:=by rw[hgA,bL _ _ e,bL _ _ m1]);rw[bL _ _ e,hg1,bL _ _ m2,e8];exact⟨rfl,rfl,rfl,rfl,FN _⟩
 have hL:=h.iJ.ph.leave hd1 hd2 hi hl;have hlv:=h.iJ.ph.XP hd1 hd2 hbase hi hl;rw[<-hg1]at hL;obtain⟨S1,hS1⟩:∃S1,S1=bZ S d (aL p):=⟨_,rfl⟩;have hL1:eX S S1:=by rw[hS1];exact oJ _ _ _
 have hm1:S1.m<=4:=by exact Z60
 have hF1:pY S.cur S1:=by rw[hS1];exact(pY.refl S).bZ _ _
 rw[<-hS1]at hL;have abZ:d2<S1.names:=by rw[hL1.names];exact he1
 have hk1:(g1 d2).kind=1:=by
  rw[hg1];by_cases e:d2=d
  ·rw[e,bJ];exact hd2
  rw[bL _ _ e];exact he2
 have hsz:(g1 d2).bB.length<448:=by
  have h1:=h.iJ.ph.XO he1;have h2:=h.iJ.few;have h3:(g1 d2).bB.length<=(g d2).bB.length:=by
   rw[hg1];by_cases e:d2=d
   ·rw[e,bJ];(show(jT (g d).bB ix).length<=_);rw[oM];omega
   rw[bL _ _ e];exact iU _
  omega
 have afB:j<=65535:=by have:=h.iJ.ph.pJ;omega
 have hE:=hL.enter (dir:=d2) (n:=j) (name:=aL q) abZ hk1 hsz ER afB;have hlen:(pK ns (splitB p)++[n0]).length<=256:=by have h1:=(sU h.rep.uniq hnm).length_eq;rw[hnk,kM]at h1;rw[jJ,nZ];have:=h.nodes;have:=h.iJ.few;omega
 have hfair:∀k<S.names,(dM g1 d2 ((g1 d2).more (aL q) j) k).fair:=fun k hk=>by
  by_cases e:k=d2
  ·rw[e,bJ];exact LI.CJ (hL.fair d2 abZ) hk1 hsz ER afB
  rw[bL _ _ e];exact hL.fair k (by rw[hL1.names];exact hk)
 have hch:∀T,nX S d (aL p) d2 (aL q) j=some T->Chg S (dM g1 d2 ((g1 d2).more (aL q) j)) T:=fun T hT=>by unfold nX at hT;rw[<-hS1]at hT;refine⟨hE.1 T hT,hL1.trans (vJ hT),?_⟩;have:=hL.MM abZ hk1 hT;omega
 refine⟨⟨_,rfl,fun hx=>.inl ?_,fun T hT=>⟨?_,hlen,_,dn,φ,hch T hT,hR,fun _ _=>rfl⟩⟩,hlv,h.iJ.ph.sv,?_,?_,fun T hT=>?_⟩
 ·unfold nX at hx;rw[<-hS1]at hx;have h1:=hE.2 hx;rw[hL1.count,hL1.names]at h1;have h2:=xC hfair;rw[hR.wB hfair]at h2;rw[h.iJ.rB];omega
 ·unfold nX at hT;rw[<-hS1]at hT;exact hF1.gL hT
 ·rw[<-hS1];exact hL.ML abZ hk1 hsz ER afB
 ·rw[<-hS1];exact hL.sv
 have:=hch T hT;exact Z22
theorem Vt.link (h:Vt S ns fs g dn φ) {q:List UInt8} {n:TN} (YV:aU q=true) (hnm:n∈ns) (hf:n.file≠ -1) (hQ:dI ns (splitB q).dropLast) (hno:jQ ns (splitB q)=none) (hroom:ns.length<256):
  yU φ fs.length S (.ok (yP S (φ n.file) (dn (splitB q).dropLast) (aL q))) (ns++[⟨q,n.file,0⟩]) fs/\aeS S (dn (splitB q).dropLast) q (φ n.file):=by
 have ER:(aL q).length<=15:=by have:=qI YV;omega
 obtain⟨he1,he2⟩:=h.rep.zJ hQ;obtain⟨_,hj1,hj2,_,hj3⟩:=h.rep.file n hnm hf;have BU:=h.rep.ah5 hnm hf hQ hno;obtain⟨d2,hdd⟩:∃d,d=dn (splitB q).dropLast:=⟨_,rfl⟩;obtain⟨j,hj⟩:∃j,j=φ n.file:=⟨_,rfl⟩;rw[<-hdd]at he1 he2;rw[<-hj]at hj1 hj2 hj3;rw[<-hdd,<-hj]at BU;rw[<-hdd,<-hj];have atH:d2≠j:=fun e=>by rw[<-e,he2]at hj2;cases hj2
 have hfj:=h.iJ.ph.fair j hj1;have hlk:(g j).links<=256:=by rw[hj3];have:=List.countP_le_length (p:=fun m:TN=>decide (m.file=n.file)) (l:=ns);omega
 obtain⟨x,hx⟩:∃x:LI,x= {g j with links:=(g j).links+1}:=⟨_,rfl⟩;have hxf:x.fair:=by rw[hx];exact⟨hfj.kind,hfj.bB,hfj.data,hfj.few,hfj.short,hfj.mode,by show(g j).links+1<65536;omega,hfj.names⟩
 have hM:=h.iJ.ph.meta hj1 (x:=x) hxf (by rw[hx]) (by rw[hx]) (by rw[hx]);have hhead:=h.iJ.ph.head j hj1;have hy:({aF S.cur j with links:=(aF S.cur j).links+1}:VI)=x.vi (aF S.cur j).aB:=by
  rw[hx]
  conv=>lhs;rw[hhead]
  rfl
 have hyl:(aF S.cur j).links=(g j).links:=by rw[hhead];rfl
 rw[<-hy]at hM;obtain⟨S1,hS1⟩:∃S1,S1=S.keep j {aF S.cur j with links:=(aF S.cur j).links+1}:=⟨_,rfl⟩;rw[<-hS1]at hM;rw[hx]at hM;have hL1:eX S S1:=by rw[hS1];exact(eX.refl S).keep _ _
 have hm1:S1.m=1:=by rw[hS1];show S.m+1=1;rw[h.m]
 have hF1:pY S.cur S1:=by rw[hS1];exact(pY.refl S).keep _ _
 have abZ:d2<S1.names:=by rw[hL1.names];exact he1
 have gd:dM g j {g j with links:=(g j).links+1} d2=g d2:=bL _ _ atH;have hsz:(g d2).bB.length<448:=by have h1:=h.iJ.ph.XO he1;have h2:=h.iJ.few;omega
 have afB:j<=65535:=by have:=h.iJ.ph.pJ;omega
 have hE:=hM.enter (dir:=d2) (n:=j) (name:=aL q) abZ (by rw[gd];exact he2) (by rw[gd];exact hsz) ER afB;rw[gd]at hE;have hfair:∀k<S.names,(dM (dM g j {g j with links:=(g j).links+1}) d2 ((g d2).more (aL q) j) k).fair:=fun k hk=>by
  by_cases e:k=d2
  ·rw[e,bJ];exact LI.CJ (h.iJ.ph.fair d2 he1) he2 hsz ER afB
  rw[bL _ _ e];exact hM.fair k (by rw[hL1.names];exact hk)
 have hch:∀T,yP S j d2 (aL q)=some T->Chg S (dM (dM g j {g j with links:=(g j).links+1}) d2 ((g d2).more (aL q) j)) T:=fun T hT=>by unfold yP at hT;rw[<-hS1]at hT;refine⟨hE.1 T hT,hL1.trans (vJ hT),?_⟩;have:=hM.MM abZ (by rw[gd];exact he2) hT;omega
 refine⟨⟨_,rfl,fun hx2=>.inl ?_,fun T hT=>⟨?_,by rw[jJ,nZ];omega,_,dn,φ,hch T hT,BU,fun _ _=>rfl⟩⟩,by rw[hyl];omega,h.iJ.ph.sw,?_,?_,fun T hT=>?_⟩
 ·unfold yP at hx2;rw[<-hS1]at hx2;have h1:=hE.2 hx2;rw[hL1.count,hL1.names]at h1;have h2:=xC hfair;rw[BU.wB hfair]at h2;rw[h.iJ.rB];omega
 ·unfold yP at hT;rw[<-hS1]at hT;exact hF1.gL hT
 ·rw[<-hS1];exact hM.ML abZ (by rw[gd];exact he2) (by rw[gd];exact hsz) ER afB
 ·rw[<-hS1];exact hM.sv
 have:=hch T hT;exact Z22
theorem Vt.afC (h:Vt S ns fs g dn φ) {j mode:Nat} (hj:j<S.names) (hm:mode<=511):Chg S (dM g j {g j with mode:=mode}) (rO S j mode):=by
 have hfj:=h.iJ.ph.fair j hj;have hhead:=h.iJ.ph.head j hj;have hxf:({g j with mode:=mode}:LI).fair:=⟨hfj.kind,hfj.bB,hfj.data,hfj.few,hfj.short,by show mode<65536;omega,hfj.links,hfj.names⟩;have hM:=h.iJ.ph.meta hj (x:= {g j with mode:=mode}) hxf rfl rfl rfl;have hy:({aF S.cur j with mode:=mode}:VI)=({g j with mode:=mode}:LI).vi (aF S.cur j).aB:=by
  conv=>lhs;rw[hhead]
  rfl
 rw[<-hy]at hM;exact⟨hM,(eX.refl S).keep _ _,by show S.m+1<=40;rw[h.m];decide⟩
theorem Vt.apE (h:Vt S ns fs g dn φ) {n:TN} {mode:Nat} (hnm:n∈ns) (hf:n.file= -1) (hm:mode<=511):yU φ fs.length S (.ok (some (rO S (dn (aZ n)) mode))) (⟨n.path, -1,mode⟩::pK ns (aZ n)) fs:=by obtain⟨hj1,_⟩:=h.rep.dir n hnm hf;have hC:=h.afC hj1 hm;have hperm:=sU h.rep.uniq hnm;have hR:=(h.rep.perm hperm).aw4 hf (mode:=mode);refine⟨_,rfl,fun e=>(by cases e),fun T hT=>?_⟩;cases hT;refine⟨(pY.refl S).keep _ _,?_,_,dn,φ,hC,hR,fun _ _=>rfl⟩;have h1:=hperm.length_eq;rw[kM]at h1 ⊢;have:=h.nodes;have:=h.iJ.few;omega
theorem Vt.akX (h:Vt S ns fs g dn φ) {n:TN} {mode:Nat} (hnm:n∈ns) (hf:n.file≠ -1) (hm:mode<=511):yU φ fs.length S (.ok (some (rO S (φ n.file) mode))) ns (fs.set n.file.toNat ⟨mode,(g (φ n.file)).data⟩):=by obtain⟨_,hj1,_⟩:=h.rep.file n hnm hf;have hC:=h.afC hj1 hm;have hR:=h.rep.ah6 hnm hf (mode:=mode) (bs:=(g (φ n.file)).data);refine⟨_,rfl,fun e=>(by cases e),fun T hT=>?_⟩;cases hT;refine⟨(pY.refl S).keep _ _,?_,_,dn,φ,hC,hR,fun _ _=>rfl⟩;have:=h.nodes;have:=h.iJ.few;omega
end
def kC (ns:List TN) (K:Key):Except Int TN:=match zK ns K with
 | .error e=>.error e
 | .ok none=>.error 21
 | .ok (some n)=>.ok n
def vC (ns:List TN) (K:Key):Except Int TN:=match kC ns K with
 | .error e=>.error e
 | .ok n=>if n.file= -1 then .error 24 else .ok n
def DU (ns:List TN) (K:Key):Int:=match zK ns K with
 | .error e=>e
 | .ok (some _)=>23
 | .ok none=>0
def yE (fs:List FT) (k:Int):List UInt8:=((fs[k.toNat]?).map (·.bs)).getD []
section
variable {S:VS} {g:LT} {ns:List TN} {fs:List FT} {dn:Key->Nat} {φ:Int->Nat}
theorem Vt.xD (h:Vt S ns fs g dn φ) {p:List UInt8} {d m:Nat} (hl:aP S.cur S.data 0 0 (splitB p)=((d:Int),(m:Int),0)):
  ∃n,zK ns (splitB p)= .ok (some n)/\d=dn (splitB p).dropLast/\m=bY dn φ n:=by
 have hL:=h.look p;rw[hl]at hL;cases ha:zK ns (splitB p)with
 |error e=>rw[ha]at hL;simp only at hL;have:=qP ha;have e1:(0:Int)=e:=congrArg (fun x:Int×Int×Int=>x.2.2) hL;omega
 |ok y=>
  cases y with
  |none=>rw[ha]at hL;simp only at hL;have e1:(m:Int)= -1:=congrArg (fun x:Int×Int×Int=>x.2.1) hL;omega
  |some n=>rw[ha]at hL;simp only at hL;have e1:(d:Int)=dn (splitB p).dropLast:=congrArg (fun x:Int×Int×Int=>x.1) hL;have e2:(m:Int)=bY dn φ n:=congrArg (fun x:Int×Int×Int=>x.2.1) hL;exact⟨n,rfl,by omega,by omega⟩
theorem Vt.UZ (h:Vt S ns fs g dn φ) {p:List UInt8} {d:Nat} (hl:aP S.cur S.data 0 0 (splitB p)=((d:Int), -1,0)):
  zK ns (splitB p)= .ok none/\d=dn (splitB p).dropLast:=by
 have hL:=h.look p;rw[hl]at hL;cases ha:zK ns (splitB p)with
 |error e=>rw[ha]at hL;simp only at hL;have e1:(-1:Int)=0:=congrArg (fun x:Int×Int×Int=>x.2.1) hL;omega
 |ok y=>
  cases y with
  |none=>rw[ha]at hL;simp only at hL;have e1:(d:Int)=dn (splitB p).dropLast:=congrArg (fun x:Int×Int×Int=>x.1) hL;exact⟨rfl,by omega⟩
  |some n=>rw[ha]at hL;simp only at hL;have e1:(-1:Int)=bY dn φ n:=congrArg (fun x:Int×Int×Int=>x.2.1) hL;omega
theorem Vt.HY (h:Vt S ns fs g dn φ) {n:TN} (hn:n∈ns):(aF S.cur (bY dn φ n)).kind=1↔n.file= -1:=by
 obtain⟨hk1,hk2⟩:=h.rep.G5 hn;rw[h.iJ.ph.kind hk1];rcases hk2 with⟨h1,h2⟩|⟨h1,h2⟩
 ·exact⟨fun _=>h1,fun _=>h2⟩
 exact⟨fun e=>(by rw[h2]at e;cases e),fun e=>absurd e h1⟩
theorem Vt.something (h:Vt S ns fs g dn φ) (p:List UInt8):dU (aP S.cur S.data 0 0 (splitB p))=match kC ns (splitB p)with| .error e=>some e| .ok _=>none:=by
 have hL:=h.look p;unfold kC;cases ha:zK ns (splitB p)with
 |error e=>rw[ha]at hL;simp only at hL;have:=qP ha;rw[hL];unfold dU;simp only;rw[if_neg aI]
 |ok y=>
  cases y with
  |none=>rw[ha]at hL;simp only at hL;rw[hL];rfl
  |some n=>rw[ha]at hL;simp only at hL;rw[hL];unfold dU;simp only;rw[if_pos trivial,if_neg aI]
theorem Vt.fileOf (h:Vt S ns fs g dn φ) (p:List UInt8):nA S.cur (aP S.cur S.data 0 0 (splitB p))=match vC ns (splitB p)with| .error e=>some e| .ok _=>none:=by
 have hL:=h.look p;unfold vC kC;cases ha:zK ns (splitB p)with
 |error e=>rw[ha]at hL;simp only at hL;have:=qP ha;rw[hL];unfold nA;simp only;rw[if_neg aI]
 |ok y=>
  cases y with
  |none=>rw[ha]at hL;simp only at hL;rw[hL];rfl
  |some n=>
   rw[ha]at hL;simp only at hL;obtain⟨_,hno,_⟩:=iE (S:=S) h.rep ha;have hk:=h.HY (eD hno.symm).1;rw[hL];unfold nA;simp only;rw[if_pos trivial,if_neg aI,lM];by_cases hf:n.file= -1
   ·rw[if_pos (hk.2 hf),if_pos hf]
   rw[if_neg (fun e=>hf (hk.1 e)),if_neg hf]
theorem Vt.nothing (h:Vt S ns fs g dn φ) (p:List UInt8):fQ (aP S.cur S.data 0 0 (splitB p))=if DU ns (splitB p)=0 then none else some (DU ns (splitB p)):=by
 have hL:=h.look p;unfold DU;cases ha:zK ns (splitB p)with
 |error e=>rw[ha]at hL;simp only at hL;have:=qP ha;rw[hL];unfold fQ;simp only;rw[if_neg aI,if_neg aI]
 |ok y=>
  cases y with
  |none=>rw[ha]at hL;simp only at hL;rw[hL];rfl
  |some n=>rw[ha]at hL;simp only at hL;rw[hL];unfold fQ;simp only;rw[if_pos trivial,if_neg aI];rfl
end
end Go.Proofs.YtmjomdkleikgbaaGreat
