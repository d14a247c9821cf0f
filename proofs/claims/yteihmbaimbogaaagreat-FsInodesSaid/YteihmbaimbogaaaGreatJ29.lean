/- Parts. -/
import Derived.Test.YteihmbaimbogaaaGreatJ28
set_option linter.unusedVariables false
set_option linter.unusedSimpArgs false
namespace Go.Proofs.YteihmbaimbogaaaGreat
open Go.RowKit
def sZ (nb names:Nat):Nat:=nb-96-(2+(names+7)/8)
def yK (nb names:Nat) (ns:List TN) (fs:List FT):Bool:=decide (zV ns fs<=sZ nb names)&&decide (sU ns<=names)
structure ab8 (S:VS) (ns:List TN) (fs:List FT) (nb names:Nat):Prop where
 nm:S.names=names
 nbe:S.nb=nb
 vt:∃g dn φ,Vt S.base ns fs g dn φ
def Next (S S':VS):Prop:=S'=S.base\/∃S1:VS,S'=S1.settled/\S1.D=S.D/\S1.nb=S.nb/\S1.bL.2=true/\bk S'.D.now 96=bk S.D.now 96
def apQ (S S':VS) (ns':List TN) (fs':List FT) (φ:Int->Nat) (m:Nat):Prop:=Next S S'/\∃g' ZH φ',Vt S'.base ns' fs' g' ZH φ'/\Agr m φ φ'
section
variable {w0 w:World} {R:List bK} {f q p:Nat} {S:VS} {ns:List TN} {fs:List FT} {nb names:Nat}
theorem ab8.base (h:ab8 S ns fs nb names):ab8 S.base ns fs nb names:=⟨h.nm,h.nbe,h.vt⟩
theorem LV (h:Sep w0 w (bI f q p S::R)):96<S.nb:=by obtain⟨_,_,_,hR,_⟩:=h.qP;exact hR.big
theorem ab8.ends {r:Except Int (Option VS)} {ns':List TN} {fs':List FT} {x:Int} {g:LT} {dn:Key->Nat} {φ:Int->Nat} (hL:ab8 S ns fs nb names) (hV:Vt S.base ns fs g dn φ) (hok:S.D.ok S.nb) (J9:96<S.nb) (hD:DC φ fs.length S.base r ns' fs') (h:oJ f q p S.base r w0 w R x):
  if yK nb names ns' fs'=true then
   (x=0/\∃S',ab8 S' ns' fs' nb names/\apQ S S' ns' fs' φ fs.length/\(S.D.off=false->S.D.left<0->S'.D.off=false/\S'.D.left=S.D.left)/\Sep w0 w (bI f q p S'::R))\/
   (x=11/\¬(S.D.off=false/\S.D.left<0)/\∃S1:VS,S1.nb=nb/\S1.D=S.D/\l8 (nb-96) S1.cur/\(jR S1).length<=40/\S1.bL.2=false/\Sep w0 w (OJ f q p true::aN p S1.bL.1::R))
  else x=27/\Sep w0 w (bI f q p S.base::R):=by
 obtain⟨y,rfl,hno,asC⟩:=hD;have hrB:(S.base.rB:Int)=sZ nb names:=by rw[hV.iJ.rB];(show((S.nb-96-(2+(S.names+7)/8):Nat):Int)=_);rw[hL.nm,hL.nbe];rfl
 have hrI:(S.base.rI:Int)=names:=by rw[hV.iJ.rI];(show(S.names:Int)=_);rw[hL.nm]
 unfold oJ at h;cases y with
 |none=>
  have h1:=hno rfl;rw[hrB,hrI]at h1;rw[if_neg]
  ·exact h
  unfold yK;rw[tJ,uP,uP];omega
 |some S1=>
  obtain⟨qJ,hlen,g',ZH,φ',hC,hR,hAg⟩:=asC S1 rfl;have hnm:S1.names=S.base.names:=hC.like.names;(have hwB:S1.wB=zV ns' fs':=by rw[hC.ph.wB,hnm];exact hR.wB (by rw[<-hnm];exact hC.ph.fair));(have hwI:S1.wI=sU ns':=by rw[hC.ph.wI,hnm];exact hR.wI (by rw[<-hnm];exact hC.ph.fair));have aIL:S1.rB=sZ nb names:=hC.like.rB.trans hrB;have aIM:S1.rI=names:=hC.like.rI.trans hrI;(have hfits:CX S1=yK nb names ns' fs':=by unfold CX yK;rw[hwB,hwI,aIL,aIM]);simp only[hfits]at h;have hDe:S1.D=S.D:=hC.like.D;(have hD1:S1.D.ok S1.nb:=by rw[hDe,show S1.nb=S.nb from hC.like.nb];exact hok);(have aIN:96<S1.nb:=by rw[show S1.nb=S.nb from hC.like.nb];exact J9);(have am0:sN (S1.D.now.drop 96) S1:=by rw[hDe];exact qJ);by_cases hf:yK nb names ns' fs'=true
  ·rw[if_pos hf]at h ⊢;by_cases hc:S1.bL.2=true
   ·rw[if_pos hc]at h;have hVt:Vt S1.settled.base ns' fs' g' ZH φ':=by
     refine Vt.of (hC.ph.settled hD1 aIN am0.1 hC.m hc) hR hnm hlen ?_ ?_ rfl
     ·(show S1.rB=((S1.nb-96-(2+(S1.names+7)/8):Nat):Int));rw[aIL,show S1.nb=nb from(hC.like.nb).trans hL.nbe,hnm,show S.base.names=names from hL.nm];rfl
     (show S1.rI=(S1.names:Int));rw[aIM,hnm,show S.base.names=names from hL.nm]
    (have aOU:bk S1.settled.D.now 96=bk S.D.now 96:=by have e1:=yH hD1 aIN hC.ph.use.cur am0.1 hC.m hc;have e2:bk (S1.settled.D.now.drop 96) 0=bk S1.cur 0:=congrArg (fun c=>bk c 0) e1;rw[vM,am0.2,vM,hDe]at e2;exact e2);refine .inl ⟨h.1,S1.settled,⟨?_,?_,g',ZH,φ',hVt⟩,⟨.inr ⟨S1,rfl,hDe,hC.like.nb,hc,aOU⟩,g',ZH,φ',hVt,hAg⟩,fun ho hl=>?_,h.2⟩
    ·(show S1.names=names);rw[hnm];exact hL.nm
    ·(show S1.nb=nb);rw[show S1.nb=S.nb from hC.like.nb];exact hL.nbe
    have:=yJ (S:=S1) (by rw[hDe];exact ho) (by rw[hDe];exact hl);exact⟨this.2.1,by rw[show S1.settled.D.left=S1.bL.1.left from rfl,this.2.2,hDe]⟩
   rw[if_neg hc]at h;refine .inr ⟨h.1,fun⟨ho,hl⟩=>hc (yJ (S:=S1) (by rw[hDe];exact ho) (by rw[hDe];exact hl)).1,S1,(hC.like.nb).trans hL.nbe,hDe,?_,PS am0.1.puts hC.m,by simpa using hc,h.2⟩;have:=hC.ph.use.cur;rw[show S1.nb=nb from(hC.like.nb).trans hL.nbe]at this;exact this
  rw[if_neg hf]at h ⊢;exact h
theorem ayT {S S1:VS} {n:Nat} {bs:List UInt8} (hf:jI S n bs=some S1) (h0:S.m=0) (h1:(aH S.cur n).aB.length<=16) (h2:bs.length<=8192):S1.m<=40:=by
 unfold jI at hf;split at hf
 ·cases hf
 rename_i S2 l h3;cases hf;have h4:=(kF h3);have h5:=(qI bs l 0 S2).m;show(nN bs l 0 S2).m+1<=_
 rw[h5,h4.1.m,h4.2];omega
theorem Z31 {P:Prop} (h:P:=by exact dK.LD ⟨h.iJ.rB,h.iJ.rI⟩ h.iJ.ph.use this.like this.ph this.m):P:=h
theorem Vt.write {g:LT} {dn:Key->Nat} {φ:Int->Nat} (h:Vt S ns fs g dn φ) {n:TN} (hn:n∈ns) (hf:n.file≠ -1) {bs:List UInt8} (hbs:bs.length<=8192):
  DC φ fs.length S (.ok (jI S (φ n.file) bs)) ns (fs.set n.file.toNat ⟨(g (φ n.file)).mode,bs⟩)/\o7 S (φ n.file)/\gM S/\∀S1,jI S (φ n.file) bs=some S1->nO S S1:=by
 obtain⟨h1,h2,h3,h4,h5⟩:=h.rep.file n hn hf;have hF:=h.iJ.ph.fill (n:=φ n.file) (bs:=bs) h2 h3 hbs;have hR:=h.rep.QJ hn hf (mode:=(g (φ n.file)).mode) (bs:=bs);have e:({g (φ n.file)with mode:=(g (φ n.file)).mode,data:=bs}:LI)= {g (φ n.file)with data:=bs}:=rfl;rw[e]at hR;have hfair:∀j<S.names,(dS g (φ n.file) {g (φ n.file)with data:=bs} j).fair:=fun j hj=>by
  by_cases e1:j=φ n.file
  ·rw[e1,bV];have:=h.iJ.ph.fair _ h2;exact⟨this.kind,this.bJ,fun hk=>absurd h3 hk,this.few,hbs,this.mode,this.links,this.names⟩
  rw[bX _ _ e1];exact h.iJ.ph.fair j hj
 have hch:∀S1,jI S (φ n.file) bs=some S1->Chg S (dS g (φ n.file) {g (φ n.file)with data:=bs}) S1:=fun S1 hS1=>
  ⟨hF.1 S1 hS1,UG hS1,ayT hS1 h.m (by rw[h.iJ.ph.len _ h2];have:=(h.iJ.ph.fair _ h2).short;unfold LI.need;rw[if_neg aD,if_pos h3];omega) hbs⟩
 refine⟨⟨_,rfl,fun hx=>.inl ?_,fun S1 hS1=>⟨(sN.refl S).jI hS1,?_,_,dn,φ,hch S1 hS1,hR,fun _ _=>rfl⟩⟩,h.iJ.ph.ZE h2,h.iJ.ph.sw,fun S1 hS1=>?_⟩
 ·have h6:=hF.2 hx;have h7:=zW hfair;rw[hR.wB hfair]at h7;rw[h.iJ.rB];omega
 ·have:=h.nodes;have:=h.iJ.few;omega
 have:=hch S1 hS1;exact Z31
def ab9 (ns:List TN) (path:List UInt8) (len:Nat):Int:=
 if dY path=0 then
  if 8192<len then 2
  else match GL ns (splitB path)with
   | .error e=>e
   | .ok (some n)=>if n.file= -1 then 24 else 0
   | .ok none=>if ns.length<256 then 0 else 31
 else dY path
def UR (ns:List TN) (fs:List FT) (path:List UInt8):List TN:=match kG ns (splitB path)with
 |some n=>ns
 |none=>lJ ns fs 2 384 path
def auI (fs:List FT) (k:Int):Int:=((fs[k.toNat]?).map (·.mode)).getD 0
def agG (ns:List TN) (fs:List FT) (path bs:List UInt8):List FT:=match kG ns (splitB path)with
 |some n=>fs.set n.file.toNat ⟨auI fs n.file,bs⟩
 |none=>zY fs 2 384 bs
theorem Vt.put {g:LT} {dn:Key->Nat} {φ:Int->Nat} (h:Vt S ns fs g dn φ) {path bs:List UInt8} (hp:path.length<=9223372036854775807):
  (dY path=0->¬8192<bs.length->aBR S path bs)/\
  ((ab9 ns path bs.length≠0/\xO S path bs= .error (ab9 ns path bs.length))\/(ab9 ns path bs.length=0/\DC φ fs.length S (xO S path bs) (UR ns fs path) (agG ns fs path bs))):=by
 unfold ab9 xO;by_cases hE:dY path=0
 ·have hv:=GI hE;simp only[if_pos hE];by_cases hb:8192<bs.length
  ·simp only[if_pos hb];exact⟨fun _ hn=>absurd hb hn,.inl ⟨by decide,trivial⟩⟩
  simp only[if_neg hb];have hL:=h.look path;have hN:=h.new (kind:=2) (mode:=384) (p:=path) (bs:=bs) (.inr rfl) hv (eZ hv) aQ aD;cases ha:GL ns (splitB path)with
  |error e=>
   have he:=vQ ha;rw[ha]at hL;simp only at hL;simp only[hL];refine⟨fun _ _=>⟨fun d hd=>?_,fun d m _ hd=>?_⟩,.inl ⟨by omega,?_⟩⟩
   ·rw[hL]at hd;have e1:(0:Int)= -1:=congrArg (fun x:Int×Int×Int=>x.2.1) hd;exact absurd e1 aQ
   ·rw[hL]at hd;have e1:e=0:=congrArg (fun x:Int×Int×Int=>x.2.2) hd;omega
   rw[if_neg aD]
  |ok y=>
   obtain⟨hP,hno,_⟩:=jH (S:=S) h.rep ha;cases y with
   |none=>
    rw[ha]at hL;simp only at hL;unfold zX M9 at hN;rw[ha,hL]at hN;have e0:gV ((dn (splitB path).dropLast:Int),(-1:Int),(0:Int))=none:=rfl;simp only[e0]at hN;simp only[hL];rw[if_pos trivial,if_pos (show(-1:Int)<0 by decide)];refine⟨fun _ _=>⟨fun d hd=>?_,fun d m _ hd=>?_⟩,?_⟩
    ·rw[hL]at hd;exact hN.1 d hd
    ·rw[hL]at hd;have e1:(-1:Int)=m:=congrArg (fun x:Int×Int×Int=>x.2.1) hd;omega
    unfold UR agG;rw[<-hno];exact hN.2
   |some n=>
    rw[ha]at hL;simp only at hL;have hn:n∈ns/\bW n=splitB path:=fF hno.symm;obtain⟨hk1,hk2⟩:=h.rep.LG hn.1;simp only[hL];rw[if_pos trivial,if_neg (show ¬(dD dn φ n:Int)<0 by omega),nA];have hkind:(aH S.cur (dD dn φ n)).kind=(g (dD dn φ n)).kind:=h.iJ.ph.kind hk1;by_cases hf:n.file= -1
    ·have h1:(aH S.cur (dD dn φ n)).kind=1:=by
      rw[hkind];rcases hk2 with h2|h2
      ·exact h2.2
      exact absurd hf h2.1
     rw[if_pos h1,if_pos hf];refine⟨fun _ _=>⟨fun d hd=>?_,fun d m _ hd hkm=>?_⟩,.inl ⟨by decide,rfl⟩⟩
     ·rw[hL]at hd;exact Z41
     rw[hL]at hd;have e1:(dD dn φ n:Int)=m:=congrArg (fun x:Int×Int×Int=>x.2.1) hd;(have e2:dD dn φ n=m:=by omega);rw[<-e2]at hkm;exact absurd h1 hkm
    have hW:=h.write hn.1 hf (bs:=bs) aD;(have hi:dD dn φ n=φ n.file:=by unfold dD;rw[if_neg hf]);have h1:(aH S.cur (dD dn φ n)).kind≠1:=by
     rw[hkind];rcases hk2 with h2|h2
     ·exact absurd h2.1 hf
     rw[h2.2];decide
    rw[if_neg h1,if_neg hf];refine⟨fun _ _=>⟨fun d hd=>?_,fun d m _ hd hkm=>?_⟩,.inr ⟨rfl,?_⟩⟩
    ·rw[hL]at hd;exact Z41
    ·rw[hL]at hd;have e1:(dD dn φ n:Int)=m:=congrArg (fun x:Int×Int×Int=>x.2.1) hd;(have e2:φ n.file=m:=by omega);rw[<-e2];exact hW.2
    unfold UR agG;rw[<-hno,hi];(have hm:auI fs n.file=(g (φ n.file)).mode:=by obtain⟨_,_,_,⟨fl,h4,h5,_⟩,_⟩:=h.rep.file n hn.1 hf;unfold auI;rw[h4];exact h5.symm);simp only[hm];exact hW.1
 simp only[if_neg hE];exact⟨fun e=>absurd e hE,.inl ⟨hE,trivial⟩⟩
end
end Go.Proofs.YteihmbaimbogaaaGreat
namespace Go.Proofs.YteihmbaimbogaaaGreat
def oC (ns:List TN) (K:Key):List TN:=ns.filter fun m=> !(bW m==K)
theorem wD :∀ {ns:List TN} {n:TN},(ns.map bW).Nodup->n∈ns->ns.Perm (n::oC ns (bW n))
 |a::t,n,hu,hn=>by
  rw[mH,I9]at hu;unfold oC;rw[zG];rcases iX.1 hn with e|hn
  ·subst e;rw[if_neg bM];(have e2:t.filter (fun m=> !(bW m==bW n))=t:=by rw[List.filter_eq_self];intro m hm;(have:bW m≠bW n:=fun e=>hu.1 (List.mem_map.2 ⟨m,hm,e⟩));simp[this]);rw[e2]
  (have hne:bW a≠bW n:=fun e=>hu.1 (List.mem_map.2 ⟨n,hn,e.symm⟩));rw[if_pos (by simp[hne])];exact((wD hu.2 hn).cons a).trans (List.Perm.swap _ _ _)
theorem akH (g:LT) (n:Nat) (x y:LI):dS (dS g n x) n y=dS g n y:=by funext i;unfold dS;split<;>rfl
section
variable {S:VS} {g:LT} {ns:List TN} {fs:List FT} {dn:Key->Nat} {φ:Int->Nat}
theorem Vt.entry (h:Vt S ns fs g dn φ) {p:List UInt8} {n:TN} (hn:kG ns (splitB p)=some n) (hP:fE ns (splitB p).dropLast):
  ∃i,i<(g (dn (splitB p).dropLast)).bJ.length/\(lW (g (dn (splitB p).dropLast)).bJ (aM p)).1=i/\vC (g (dn (splitB p).dropLast)).bJ i=(aM p,dD dn φ n):=by
 have hf:=h.rep.find hP (aM p);rw[<-xA,hn]at hf;rcases ES (g (dn (splitB p).dropLast)).bJ (aM p)with⟨i,h1,h2,h3,h4⟩|⟨_,h4⟩
 ·refine⟨i,h1,h3,?_⟩;rw[hf]at h4;have e1:dD dn φ n=(lW (g (dn (splitB p).dropLast)).bJ (aM p)).2:=Option.some.inj h4;rw[h2,e1]
 rw[hf]at h4;cases h4
theorem nL.ZM {nm:Nat} (h:nL g nm ns fs dn φ) {n:TN} (hn:n∈ns) (hf:n.file≠ -1):iR ns (bW n)=[]:=by
 unfold iR;rw[List.filter_eq_nil_iff];intro m hm hk;have e:(bW m).dropLast=bW n:=by simpa using hk
 rcases h.up m hm with h1|⟨a,ha,h1,h2⟩
 ·exact ab1 n (by rw[<-e,h1])
 have:a=n:=UH h.uniq ha hn (by rw[h1,e]);rw[this]at h2;exact hf h2
theorem NI {n:TN} {K:Key} (h:iR ns K=[]):iR (oC ns (bW n)) K=[]:=by unfold iR oC at*;rw[List.filter_eq_nil_iff]at h ⊢;intro m hm;exact h m (List.mem_filter.1 hm).1
theorem Z77 {P:Prop} (h:P:=by rw[hS1];have:=h.iJ.ph.ayN (name:=aM p) hd1 hd2;rw[h.m]at this;omega):P:=h
theorem Vt.auJ (h:Vt S ns fs g dn φ) {p:List UInt8} {n:TN} (hv:aU p=true) (hn:kG ns (splitB p)=some n) (hP:fE ns (splitB p).dropLast) (hf:n.file≠ -1):
  DC φ fs.length S (.ok (some (qE S (dn (splitB p).dropLast) (aM p) (φ n.file)))) (oC ns (splitB p)) fs/\TT S (dn (splitB p).dropLast) p (φ n.file):=by
 obtain⟨hnm,hnk⟩:=fF hn;obtain⟨ix,hi,hl,he⟩:=h.entry hn hP;have hbase:(aM p).length<=15:=by have:=tQ hv;omega
 obtain⟨hd1,hd2⟩:=h.rep.ET hP;obtain⟨_,hj1,hj2,_,hj3⟩:=h.rep.file n hnm hf;have pM:dD dn φ n=φ n.file:=by unfold dD;rw[if_neg hf]
 rw[pM]at he;obtain⟨d,hd⟩:∃d,d=dn (splitB p).dropLast:=⟨_,rfl⟩;obtain⟨j,hj⟩:∃j,j=φ n.file:=⟨_,rfl⟩;rw[<-hd]at hi hl he hd1 hd2;rw[<-hj]at he hj1 hj2 hj3;rw[<-hd,<-hj];have hjd:j≠d:=fun e=>by rw[e,hd2]at hj2;cases hj2
 --the tree
 have hperm:=wD h.rep.uniq hnm;have hR0:=h.rep.perm hperm;rw[hnk]at hperm hR0;have hkey:bW n=splitB p:=hnk;have hlast:(bW n).getLastD []=aM p:=by rw[hkey];rfl
 have O1:iR (oC ns (splitB p)) (bW n)=[]:=by have:=NI (n:=n) (h.rep.ZM hnm hf);rw[hnk]at this ⊢;exact this
 have UT:=fun(x:LI) hx=>hR0.aCZ (x:=x) (ix:=ix) O1 hx (by rw[hkey,<-hd];exact hi) (by rw[hkey,<-hd,pM,<-hj];exact he.trans (by rw[<-hkey,hlast]))
 rw[hkey,<-hd,pM,<-hj]at UT;have hcnt:(g j).links=1+(oC ns (splitB p)).countP fun m=>decide (m.file=n.file):=by rw[hj3,hperm.countP_eq,N9,if_pos bM];omega
 --the blocks
 have hL:=h.iJ.ph.leave hd1 hd2 hi hl;have hlv:=h.iJ.ph.ab0 hd1 hd2 hbase hi hl;obtain⟨S1,hS1⟩:∃S1,S1=dH S d (aM p):=⟨_,rfl⟩;have hL1:gI S S1:=by rw[hS1];exact qR _ _ _
 have hm1:S1.m<=4:=by exact Z77
 have hF1:sN S.cur S1:=by rw[hS1];exact(sN.refl S).dH _ _
 rw[<-hS1]at hL;obtain⟨g1,hg1⟩:∃g1,g1=dS g d ((g d).less ix):=⟨_,rfl⟩;rw[<-hg1]at hL UT;have XU:j<S1.names:=by rw[hL1.names];exact hj1
 have gj:g1 j=g j:=by rw[hg1,bX _ _ hjd]
 have hfair:=hL.fair j XU;obtain⟨x,hx⟩:∃x:LI,x= {g1 j with links:=(g1 j).links-1}:=⟨_,rfl⟩;have hxf:x.fair:=by rw[hx];exact⟨hfair.kind,hfair.bJ,hfair.data,hfair.few,hfair.short,hfair.mode,by show(g1 j).links-1<65536;have:=hfair.links;omega,hfair.names⟩
 have hM:=hL.meta XU (x:=x) hxf (by rw[hx]) (by rw[hx]) (by rw[hx]);have hy:({aH S1.cur j with links:=(aH S1.cur j).links-1}:VI)=x.vi (aH S1.cur j).aB:=by
  have:=hL.head j XU;rw[hx]
  conv=>lhs;rw[this]
  rfl
 have hyl:(aH S1.cur j).links=(g j).links:=by rw[hL.head j XU,gj];rfl
 have hsm:(aH S1.cur j).aB.length<=16:=by rw[hL.len j XU,gj];have:=(h.iJ.ph.fair j hj1).short;unfold LI.need;rw[if_neg aD,if_pos hj2];omega
 rw[<-hy]at hM;obtain⟨S2,hS2⟩:∃S2,S2=S1.keep j {aH S1.cur j with links:=(aH S1.cur j).links-1}:=⟨_,rfl⟩;rw[<-hS2]at hM;have hL2:gI S S2:=by rw[hS2];exact hL1.keep _ _
 have hm2:S2.m<=5:=by rw[hS2];show S1.m+1<=5;omega
 have hF2:sN S.cur S2:=by rw[hS2];exact hF1.keep _ _
 have aVX:(aH S2.cur j).aB.length<=16:=by rw[hM.len j (by rw[hL2.names];exact hj1),bV,hx,gj];have:=(h.iJ.ph.fair j hj1).short;unfold LI.need;rw[if_neg (by show ¬(g j).kind=1;omega),if_pos (by exact hj2)];(show((g j).data.length+511)/512<=16);omega
 have hun:qE S d (aM p) j=if(g j).links-1=0 then oF S2 j else S2:=by unfold qE;simp only;rw[<-hS1,<-hS2,hyl]
 have hlen:(oC ns (splitB p)).length<=256:=by have h1:=hperm.length_eq;rw[nV]at h1;have:=h.nodes;have:=h.iJ.few;omega
 have aOW:∃g',Chg S g' (qE S d (aM p) j)/\nL g' S.names (oC ns (splitB p)) fs dn φ:=by
  rw[hun];by_cases h0:(g j).links-1=0
  ·rw[if_pos h0];(have hc0:(oC ns (splitB p)).countP (fun m=>decide (m.file=n.file))=0:=by omega);have hno:∀m∈oC ns (splitB p),dD dn φ m≠j:=fun m hm e=>by
    have hmn:m∈ns:=(List.mem_filter.1 hm).1;(have hne:m.file≠n.file:=by simpa using List.countP_eq_zero.1 hc0 m hm);rcases h.rep.inj m hmn n hnm (by rw[e,pM,hj])with h8|h8
    ·exact hne (by rw[h8])
    exact hne h8.2
   have hDr:=hM.drop (n:=j) (by rw[hL2.names];exact hj1) (by rw[bV,hx,gj];exact(h.iJ.ph.fair j hj1).bJ aD);rw[akH]at hDr;refine⟨_,⟨hDr,hL2.trans (SF _ _),?_⟩,UT LI0 (.inr ⟨rfl,hno⟩)⟩;have:=atO S2 j;omega
  rw[if_neg h0];(have hex:∃m∈oC ns (splitB p),m.file=n.file:=by(have:0<(oC ns (splitB p)).countP fun m=>decide (m.file=n.file):=by omega);obtain⟨m,hm,e⟩:=List.countP_pos_iff.1 this;exact⟨m,hm,by simpa using e⟩);have hl2:=UT x (.inl ⟨hf,by rw[hx,gj],hex⟩);exact⟨_,⟨hM,hL2,by omega⟩,hl2⟩
 obtain⟨g',hC,hR⟩:=aOW;refine⟨⟨_,rfl,fun e=>(by cases e),fun T hT=>?_⟩,?_⟩
 ·cases hT;refine⟨?_,hlen,g',dn,φ,hC,hR,fun _ _=>rfl⟩;rw[hun];split
  ·exact hF2.oF _
  exact hF2
 refine⟨hlv,h.iJ.ph.sv,?_,?_,?_,?_,?_,?_⟩
 ·rw[<-hS1];exact hL.ZE XU
 ·rw[<-hS1,hyl];omega
 ·rw[<-hS1];exact hL.sw
 ·rw[<-hS1,<-hS2];exact hM.ZE (by rw[hL2.names];exact hj1)
 ·rw[<-hS1,<-hS2];exact hM.sw
 exact dK.LD ⟨h.iJ.rB,h.iJ.rI⟩ h.iJ.ph.use hC.like hC.ph hC.m
theorem Vt.rmdir (h:Vt S ns fs g dn φ) {p:List UInt8} {n:TN} (hv:aU p=true) (hn:kG ns (splitB p)=some n) (hP:fE ns (splitB p).dropLast) (hf:n.file= -1) (hk:iR ns (splitB p)=[]):
  DC φ fs.length S (.ok (some (oF (dH S (dn (splitB p).dropLast) (aM p)) (dn (splitB p))))) (oC ns (splitB p)) fs/\abR S (dn (splitB p).dropLast) p (dn (splitB p)):=by
 obtain⟨hnm,hnk⟩:=fF hn;obtain⟨ix,hi,hl,he⟩:=h.entry hn hP;have hbase:(aM p).length<=15:=by have:=tQ hv;omega
 obtain⟨hd1,hd2⟩:=h.rep.ET hP;have hkey:bW n=splitB p:=hnk;obtain⟨hj1,hj2,_,_⟩:=h.rep.dir n hnm hf;have pM:dD dn φ n=dn (splitB p):=by unfold dD;rw[if_pos hf,hkey]
 have hne0:=h.rep.ne0 n hnm;rw[pM]at he hne0;rw[hkey]at hj1 hj2;have hsplit:splitB p≠[]:=jF p;have hDp:fE ns (splitB p):=.inr ⟨n,hnm,hkey,hf⟩;have hjd:dn (splitB p)≠dn (splitB p).dropLast:=fun e=>EU hsplit (h.rep.ab2 hDp hP e).symm
 have hsz:=h.rep.iI hDp;have hsz0:(g (dn (splitB p))).bJ.length=0:=by rw[hsz];unfold iI;rw[hk];rfl
 obtain⟨d,hd⟩:∃d,d=dn (splitB p).dropLast:=⟨_,rfl⟩;obtain⟨j,hj⟩:∃j,j=dn (splitB p):=⟨_,rfl⟩;rw[<-hd]at hi hl he hd1 hd2 hjd;rw[<-hj]at he hj1 hj2 hne0 hjd hsz0;rw[<-hd,<-hj];have hperm:=wD h.rep.uniq hnm;have hR0:=h.rep.perm hperm;rw[hnk]at hperm hR0;have hlast:(bW n).getLastD []=aM p:=by rw[hkey];rfl
 have O1:iR (oC ns (splitB p)) (bW n)=[]:=by have:=NI (n:=n) (K:=splitB p) hk;rw[hnk]at this;rw[hkey];exact this
 have hno:∀m∈oC ns (splitB p),dD dn φ m≠j:=fun m hm e=>by
  have hmn:m∈ns:=(List.mem_filter.1 hm).1;rcases h.rep.inj m hmn n hnm (by rw[e,pM,hj])with h8|h8
  ·have:=(List.mem_filter.1 hm).2;rw[h8,hkey]at this;simp at this
  exact h8.1 (by rw[h8.2,hf])
 have UT:=hR0.aCZ (x:=LI0) (ix:=ix) O1 (.inr ⟨rfl,fun m hm=>by rw[pM,<-hj];exact hno m hm⟩) (by rw[hkey,<-hd];exact hi) (by rw[hkey,<-hd,pM,<-hj];exact he.trans (by rw[<-hkey,hlast]));rw[hkey,<-hd,pM,<-hj]at UT;have hL:=h.iJ.ph.leave hd1 hd2 hi hl;have hlv:=h.iJ.ph.ab0 hd1 hd2 hbase hi hl;obtain⟨S1,hS1⟩:∃S1,S1=dH S d (aM p):=⟨_,rfl⟩;have hL1:gI S S1:=by rw[hS1];exact qR _ _ _
 have hm1:S1.m<=4:=by exact Z77
 have hF1:sN S.cur S1:=by rw[hS1];exact(sN.refl S).dH _ _
 rw[<-hS1]at hL;rw[<-hS1];have gj:dS g d ((g d).less ix) j=g j:=bX _ _ hjd;have XU:j<S1.names:=by rw[hL1.names];exact hj1
 have afL:(g j).bJ=[]:=zC hsz0;have hDr:=hL.drop (n:=j) XU (by rw[gj];exact afL);have hsm:(aH S1.cur j).aB.length<=1:=by rw[hL.len j XU,gj,mP hj2,hsz0];decide
 have hlen:(oC ns (splitB p)).length<=256:=by have h1:=hperm.length_eq;rw[nV]at h1;have:=h.nodes;have:=h.iJ.few;omega
 have hC:Chg S (dS (dS g d ((g d).less ix)) j LI0) (oF S1 j):=⟨hDr,hL1.trans (SF _ _),by have:=atO S1 j;omega⟩;refine⟨⟨_,rfl,fun e=>(by cases e),fun T hT=>?_⟩,hlv,h.iJ.ph.sv,?_,?_,?_⟩
 ·cases hT;exact⟨hF1.oF _,hlen,_,dn,φ,hC,UT,fun _ _=>rfl⟩
 ·rw[<-hS1];exact hL.ZE XU
 ·rw[<-hS1];exact hL.sw
 rw[<-hS1];exact dK.LD ⟨h.iJ.rB,h.iJ.rI⟩ h.iJ.ph.use hC.like hC.ph hC.m
theorem UU {L:wM} {z:List UInt8×Nat} {i:Nat} (h:i<L.length):vC (L++[z]) i=vC L i:=by unfold vC;rw[gH,gH,G8 h]
theorem acA {L:wM} {z:List UInt8×Nat} {i:Nat} (h:i<L.length):(lN L i++[z]).Perm (lN (L++[z]) i):=by have h1:=vN h;have h2:=vN (L:=L++[z]) (i:=i) (by rw[kN];omega);rw[UU h]at h2;have h3:(L++[z]).Perm (vC L i::(lN L i++[z])):=h1.append_right [z];exact(h3.symm.trans h2).cons_inv
theorem ZN {n0:TN} {K:Key} (h:bW n0≠K):oC (ns++[n0]) K=oC ns K++[n0]:=by unfold oC;rw[aa3];congr 1;rw[zG,if_pos (by simp[h])];rfl
theorem Vt.rename (h:Vt S ns fs g dn φ) {p q:List UInt8} {n:TN} (hv:aU p=true) (GN:aU q=true) (hn:kG ns (splitB p)=some n) (hP:fE ns (splitB p).dropLast) (hf:n.file≠ -1)
  (hQ:fE ns (splitB q).dropLast) (hno:kG ns (splitB q)=none):
  DC φ fs.length S (.ok (qF S (dn (splitB p).dropLast) (aM p) (dn (splitB q).dropLast) (aM q) (φ n.file))) (oC ns (splitB p)++[⟨q,n.file,0⟩]) fs/\TU S (dn (splitB p).dropLast) (dn (splitB q).dropLast) p q (φ n.file):=by
 obtain⟨hnm,hnk⟩:=fF hn;obtain⟨ix,hi,hl,he⟩:=h.entry hn hP;have hbase:(aM p).length<=15:=by have:=tQ hv;omega
 have JO:(aM q).length<=15:=by have:=tQ GN;omega
 obtain⟨hd1,hd2⟩:=h.rep.ET hP;obtain⟨he1,he2⟩:=h.rep.ET hQ;obtain⟨_,hj1,hj2,_,hj3⟩:=h.rep.file n hnm hf;have pM:dD dn φ n=φ n.file:=by unfold dD;rw[if_neg hf]
 have FW:=h.rep.LP hnm hf hQ hno;rw[pM]at he;obtain⟨d,hd⟩:∃d,d=dn (splitB p).dropLast:=⟨_,rfl⟩;obtain⟨d2,hdd⟩:∃d,d=dn (splitB q).dropLast:=⟨_,rfl⟩;obtain⟨j,hj⟩:∃j,j=φ n.file:=⟨_,rfl⟩;rw[<-hd]at hi hl he hd1 hd2;rw[<-hdd]at he1 he2;rw[<-hj]at he hj1 hj2 hj3;rw[<-hdd,<-hj]at FW;rw[<-hd,<-hdd,<-hj];have hjd:j≠d:=fun e=>by rw[e,hd2]at hj2;cases hj2
 have ayU:j≠d2:=fun e=>by rw[e,he2]at hj2;cases hj2
 have hkey:bW n=splitB p:=hnk;have hlast:(bW n).getLastD []=aM p:=by rw[hkey];rfl
 obtain⟨n0,hn0⟩:∃n0:TN,n0=⟨q,n.file,0⟩:=⟨_,rfl⟩;have hk0:bW n0=splitB q:=by rw[hn0];rfl
 rw[<-hn0]at FW ⊢;have hpq:bW n0≠splitB p:=fun e=>xB hno n hnm (by rw[hkey,<-e,hk0])
 obtain⟨ngA,hgA⟩:∃ngA,ngA=dS (dS g j {g j with links:=(g j).links+1}) d2 ((g d2).more (aM q) j):=⟨_,rfl⟩;rw[<-hgA]at FW;have hmem:n∈ns++[n0]:=G9 _ hnm;have hR2:=FW.perm (wD FW.uniq hmem);rw[hnk,ZN hpq]at hR2;have O1:iR (oC ns (splitB p)++[n0]) (bW n)=[]:=by have:=NI (n:=n) (FW.ZM hmem hf);rw[hnk,ZN hpq]at this;rw[hkey];exact this
 have gAd:(ngA d).bJ=if d=d2 then(g d).bJ++[(aM q,j)]else(g d).bJ:=by
  by_cases e:d=d2
  ·rw[if_pos e,hgA,e,bV];rfl
  rw[if_neg e,hgA,bX _ _ e,bX _ _ (fun e2=>hjd e2.symm)]
 have hiA:ix<(ngA d).bJ.length:=by
  rw[gAd];split
  ·rw[kN];omega
  exact hi
 have heA:vC (ngA d).bJ ix=((bW n).getLastD [],j):=by
  rw[gAd,hlast];split
  ·rw[UU hi,he]
  exact he
 have gAj:ngA j= {g j with links:=(g j).links+1}:=by rw[hgA,bX _ _ ayU,bV]
 have hl3:=hR2.aCZ (x:= {ngA j with links:=(ngA j).links-1}) (ix:=ix) O1 (.inl ⟨hf,by rw[pM,<-hj],n0,by simp,by rw[hn0]⟩) (by rw[hkey,<-hd];exact hiA) (by rw[hkey,<-hd,pM,<-hj,<-hkey];exact heA);rw[hkey,<-hd,pM,<-hj]at hl3
 --the blocks
 obtain⟨g1,hg1⟩:∃g1,g1=dS g d ((g d).less ix):=⟨_,rfl⟩;have hR:nL (dS g1 d2 ((g1 d2).more (aM q) j)) S.names (oC ns (splitB p)++[n0]) fs dn φ:=by
  (refine hl3.congr fun m=>?_);by_cases m1:m=j
  ·subst m1;rw[bV,bX _ _ ayU,hg1,bX _ _ hjd,gAj];exact⟨rfl,rfl,rfl,rfl,XC _⟩
  rw[bX _ _ m1];by_cases m2:m=d
  ·subst m2;rw[bV];by_cases e:m=d2
   ·subst e;rw[bV,hg1,bV];(have e9:(ngA m).bJ=(g m).bJ++[(aM q,j)]:=by rw[gAd,if_pos rfl]);(have e8:ngA m=(g m).more (aM q) j:=by rw[hgA,bV]);refine⟨by rw[e8];rfl,by rw[e8];rfl,by rw[e8];rfl,by rw[e8];rfl,?_⟩;(show(lN (g m).bJ ix++[(aM q,j)]).Perm (lN (ngA m).bJ ix));rw[e9];exact acA hi
   rw[bX _ _ e,hg1,bV];(have e8:ngA m=g m:=by rw[hgA,bX _ _ e,bX _ _ m1]);rw[e8];exact⟨rfl,rfl,rfl,rfl,XC _⟩
  rw[bX _ _ m2];by_cases e:m=d2
  ·subst e;(have e8:ngA m=(g m).more (aM q) j:=by rw[hgA,bV]);rw[bV,hg1,bX _ _ m2,e8];exact⟨rfl,rfl,rfl,rfl,XC _⟩
  (have e8:ngA m=g m:=by rw[hgA,bX _ _ e,bX _ _ m1]);rw[bX _ _ e,hg1,bX _ _ m2,e8];exact⟨rfl,rfl,rfl,rfl,XC _⟩
 have hL:=h.iJ.ph.leave hd1 hd2 hi hl;have hlv:=h.iJ.ph.ab0 hd1 hd2 hbase hi hl;rw[<-hg1]at hL;obtain⟨S1,hS1⟩:∃S1,S1=dH S d (aM p):=⟨_,rfl⟩;have hL1:gI S S1:=by rw[hS1];exact qR _ _ _
 have hm1:S1.m<=4:=by exact Z77
 have hF1:sN S.cur S1:=by rw[hS1];exact(sN.refl S).dH _ _
 rw[<-hS1]at hL;have agH:d2<S1.names:=by rw[hL1.names];exact he1
 have hk1:(g1 d2).kind=1:=by
  rw[hg1];by_cases e:d2=d
  ·rw[e,bV];exact hd2
  rw[bX _ _ e];exact he2
 have hsz:(g1 d2).bJ.length<448:=by
  have h1:=h.iJ.ph.abZ he1;have h2:=h.iJ.few;have h3:(g1 d2).bJ.length<=(g d2).bJ.length:=by
   rw[hg1];by_cases e:d2=d
   ·rw[e,bV];(show(lN (g d).bJ ix).length<=_);rw[qV];omega
   rw[bX _ _ e];exact jL _
  omega
 have akI:j<=65535:=by have:=h.iJ.ph.rZ;omega
 have hE:=hL.enter (dir:=d2) (n:=j) (name:=aM q) agH hk1 hsz JO akI;have hlen:(oC ns (splitB p)++[n0]).length<=256:=by have h1:=(wD h.rep.uniq hnm).length_eq;rw[hnk,nV]at h1;rw[kN,xL];have:=h.nodes;have:=h.iJ.few;omega
 have hfair:∀k<S.names,(dS g1 d2 ((g1 d2).more (aM q) j) k).fair:=fun k hk=>by
  by_cases e:k=d2
  ·rw[e,bV];exact LI.F8 (hL.fair d2 agH) hk1 hsz JO akI
  rw[bX _ _ e];exact hL.fair k (by rw[hL1.names];exact hk)
 have hch:∀T,qF S d (aM p) d2 (aM q) j=some T->Chg S (dS g1 d2 ((g1 d2).more (aM q) j)) T:=fun T hT=>by unfold qF at hT;rw[<-hS1]at hT;refine⟨hE.1 T hT,hL1.trans (xZ hT),?_⟩;have:=hL.QH agH hk1 hT;omega
 refine⟨⟨_,rfl,fun hx=>.inl ?_,fun T hT=>⟨?_,hlen,_,dn,φ,hch T hT,hR,fun _ _=>rfl⟩⟩,hlv,h.iJ.ph.sv,?_,?_,fun T hT=>?_⟩
 ·unfold qF at hx;rw[<-hS1]at hx;have h1:=hE.2 hx;rw[hL1.count,hL1.names]at h1;have h2:=zW hfair;rw[hR.wB hfair]at h2;rw[h.iJ.rB];omega
 ·unfold qF at hT;rw[<-hS1]at hT;exact hF1.iN hT
 ·rw[<-hS1];exact hL.QG agH hk1 hsz JO akI
 ·rw[<-hS1];exact hL.sv
 have:=hch T hT;exact Z31
theorem Vt.link (h:Vt S ns fs g dn φ) {q:List UInt8} {n:TN} (GN:aU q=true) (hnm:n∈ns) (hf:n.file≠ -1) (hQ:fE ns (splitB q).dropLast) (hno:kG ns (splitB q)=none) (hroom:ns.length<256):
  DC φ fs.length S (.ok (CY S (φ n.file) (dn (splitB q).dropLast) (aM q))) (ns++[⟨q,n.file,0⟩]) fs/\ajX S (dn (splitB q).dropLast) q (φ n.file):=by
 have JO:(aM q).length<=15:=by have:=tQ GN;omega
 obtain⟨he1,he2⟩:=h.rep.ET hQ;obtain⟨_,hj1,hj2,_,hj3⟩:=h.rep.file n hnm hf;have FW:=h.rep.LP hnm hf hQ hno;obtain⟨d2,hdd⟩:∃d,d=dn (splitB q).dropLast:=⟨_,rfl⟩;obtain⟨j,hj⟩:∃j,j=φ n.file:=⟨_,rfl⟩;rw[<-hdd]at he1 he2;rw[<-hj]at hj1 hj2 hj3;rw[<-hdd,<-hj]at FW;rw[<-hdd,<-hj];have ayU:d2≠j:=fun e=>by rw[<-e,he2]at hj2;cases hj2
 have hfj:=h.iJ.ph.fair j hj1;have hlk:(g j).links<=256:=by rw[hj3];have:=List.countP_le_length (p:=fun m:TN=>decide (m.file=n.file)) (l:=ns);omega
 obtain⟨x,hx⟩:∃x:LI,x= {g j with links:=(g j).links+1}:=⟨_,rfl⟩;have hxf:x.fair:=by rw[hx];exact⟨hfj.kind,hfj.bJ,hfj.data,hfj.few,hfj.short,hfj.mode,by show(g j).links+1<65536;omega,hfj.names⟩
 have hM:=h.iJ.ph.meta hj1 (x:=x) hxf (by rw[hx]) (by rw[hx]) (by rw[hx]);have hhead:=h.iJ.ph.head j hj1;have hy:({aH S.cur j with links:=(aH S.cur j).links+1}:VI)=x.vi (aH S.cur j).aB:=by
  rw[hx]
  conv=>lhs;rw[hhead]
  rfl
 have hyl:(aH S.cur j).links=(g j).links:=by rw[hhead];rfl
 rw[<-hy]at hM;obtain⟨S1,hS1⟩:∃S1,S1=S.keep j {aH S.cur j with links:=(aH S.cur j).links+1}:=⟨_,rfl⟩;rw[<-hS1]at hM;rw[hx]at hM;have hL1:gI S S1:=by rw[hS1];exact(gI.refl S).keep _ _
 have hm1:S1.m=1:=by rw[hS1];show S.m+1=1;rw[h.m]
 have hF1:sN S.cur S1:=by rw[hS1];exact(sN.refl S).keep _ _
 have agH:d2<S1.names:=by rw[hL1.names];exact he1
 have gd:dS g j {g j with links:=(g j).links+1} d2=g d2:=bX _ _ ayU;have hsz:(g d2).bJ.length<448:=by have h1:=h.iJ.ph.abZ he1;have h2:=h.iJ.few;omega
 have akI:j<=65535:=by have:=h.iJ.ph.rZ;omega
 have hE:=hM.enter (dir:=d2) (n:=j) (name:=aM q) agH (by rw[gd];exact he2) (by rw[gd];exact hsz) JO akI;rw[gd]at hE;have hfair:∀k<S.names,(dS (dS g j {g j with links:=(g j).links+1}) d2 ((g d2).more (aM q) j) k).fair:=fun k hk=>by
  by_cases e:k=d2
  ·rw[e,bV];exact LI.F8 (h.iJ.ph.fair d2 he1) he2 hsz JO akI
  rw[bX _ _ e];exact hM.fair k (by rw[hL1.names];exact hk)
 have hch:∀T,CY S j d2 (aM q)=some T->Chg S (dS (dS g j {g j with links:=(g j).links+1}) d2 ((g d2).more (aM q) j)) T:=fun T hT=>by unfold CY at hT;rw[<-hS1]at hT;refine⟨hE.1 T hT,hL1.trans (xZ hT),?_⟩;have:=hM.QH agH (by rw[gd];exact he2) hT;omega
 refine⟨⟨_,rfl,fun hx2=>.inl ?_,fun T hT=>⟨?_,by rw[kN,xL];omega,_,dn,φ,hch T hT,FW,fun _ _=>rfl⟩⟩,by rw[hyl];omega,h.iJ.ph.sw,?_,?_,fun T hT=>?_⟩
 ·unfold CY at hx2;rw[<-hS1]at hx2;have h1:=hE.2 hx2;rw[hL1.count,hL1.names]at h1;have h2:=zW hfair;rw[FW.wB hfair]at h2;rw[h.iJ.rB];omega
 ·unfold CY at hT;rw[<-hS1]at hT;exact hF1.iN hT
 ·rw[<-hS1];exact hM.QG agH (by rw[gd];exact he2) (by rw[gd];exact hsz) JO akI
 ·rw[<-hS1];exact hM.sv
 have:=hch T hT;exact Z31
theorem Vt.UW (h:Vt S ns fs g dn φ) {j mode:Nat} (hj:j<S.names) (hm:mode<=511):Chg S (dS g j {g j with mode:=mode}) (uV S j mode):=by
 have hfj:=h.iJ.ph.fair j hj;have hhead:=h.iJ.ph.head j hj;have hxf:({g j with mode:=mode}:LI).fair:=⟨hfj.kind,hfj.bJ,hfj.data,hfj.few,hfj.short,by show mode<65536;omega,hfj.links,hfj.names⟩;have hM:=h.iJ.ph.meta hj (x:= {g j with mode:=mode}) hxf rfl rfl rfl;have hy:({aH S.cur j with mode:=mode}:VI)=({g j with mode:=mode}:LI).vi (aH S.cur j).aB:=by
  conv=>lhs;rw[hhead]
  rfl
 rw[<-hy]at hM;exact⟨hM,(gI.refl S).keep _ _,by show S.m+1<=40;rw[h.m];decide⟩
theorem Vt.auL (h:Vt S ns fs g dn φ) {n:TN} {mode:Nat} (hnm:n∈ns) (hf:n.file= -1) (hm:mode<=511):DC φ fs.length S (.ok (some (uV S (dn (bW n)) mode))) (⟨n.path, -1,mode⟩::oC ns (bW n)) fs:=by obtain⟨hj1,_⟩:=h.rep.dir n hnm hf;have hC:=h.UW hj1 hm;have hperm:=wD h.rep.uniq hnm;have hR:=(h.rep.perm hperm).aC0 hf (mode:=mode);refine⟨_,rfl,fun e=>(by cases e),fun T hT=>?_⟩;cases hT;refine⟨(sN.refl S).keep _ _,?_,_,dn,φ,hC,hR,fun _ _=>rfl⟩;have h1:=hperm.length_eq;rw[nV]at h1 ⊢;have:=h.nodes;have:=h.iJ.few;omega
theorem Vt.apR (h:Vt S ns fs g dn φ) {n:TN} {mode:Nat} (hnm:n∈ns) (hf:n.file≠ -1) (hm:mode<=511):DC φ fs.length S (.ok (some (uV S (φ n.file) mode))) ns (fs.set n.file.toNat ⟨mode,(g (φ n.file)).data⟩):=by obtain⟨_,hj1,_⟩:=h.rep.file n hnm hf;have hC:=h.UW hj1 hm;have hR:=h.rep.QJ hnm hf (mode:=mode) (bs:=(g (φ n.file)).data);refine⟨_,rfl,fun e=>(by cases e),fun T hT=>?_⟩;cases hT;refine⟨(sN.refl S).keep _ _,?_,_,dn,φ,hC,hR,fun _ _=>rfl⟩;have:=h.nodes;have:=h.iJ.few;omega
end
def kQ (ns:List TN) (K:Key):Except Int TN:=match GL ns K with
 | .error e=>.error e
 | .ok none=>.error 21
 | .ok (some n)=>.ok n
def yV (ns:List TN) (K:Key):Except Int TN:=match kQ ns K with
 | .error e=>.error e
 | .ok n=>if n.file= -1 then .error 24 else .ok n
def sO (ns:List TN) (K:Key):Int:=match GL ns K with
 | .error e=>e
 | .ok (some _)=>23
 | .ok none=>0
def nI (fs:List FT) (k:Int):List UInt8:=((fs[k.toNat]?).map (·.bs)).getD []
section
variable {S:VS} {g:LT} {ns:List TN} {fs:List FT} {dn:Key->Nat} {φ:Int->Nat}
theorem Vt.z8 (h:Vt S ns fs g dn φ) {p:List UInt8} {d m:Nat} (hl:bB S.cur S.data 0 0 (splitB p)=((d:Int),(m:Int),0)):
  ∃n,GL ns (splitB p)= .ok (some n)/\d=dn (splitB p).dropLast/\m=dD dn φ n:=by
 have hL:=h.look p;rw[hl]at hL;cases ha:GL ns (splitB p)with
 |error e=>rw[ha]at hL;simp only at hL;have:=vQ ha;have e1:(0:Int)=e:=congrArg (fun x:Int×Int×Int=>x.2.2) hL;omega
 |ok y=>
  cases y with
  |none=>rw[ha]at hL;simp only at hL;have e1:(m:Int)= -1:=congrArg (fun x:Int×Int×Int=>x.2.1) hL;omega
  |some n=>rw[ha]at hL;simp only at hL;have e1:(d:Int)=dn (splitB p).dropLast:=congrArg (fun x:Int×Int×Int=>x.1) hL;have e2:(m:Int)=dD dn φ n:=congrArg (fun x:Int×Int×Int=>x.2.1) hL;exact⟨n,rfl,by omega,by omega⟩
theorem Vt.ZO (h:Vt S ns fs g dn φ) {p:List UInt8} {d:Nat} (hl:bB S.cur S.data 0 0 (splitB p)=((d:Int), -1,0)):
  GL ns (splitB p)= .ok none/\d=dn (splitB p).dropLast:=by
 have hL:=h.look p;rw[hl]at hL;cases ha:GL ns (splitB p)with
 |error e=>rw[ha]at hL;simp only at hL;have e1:(-1:Int)=0:=congrArg (fun x:Int×Int×Int=>x.2.1) hL;omega
 |ok y=>
  cases y with
  |none=>rw[ha]at hL;simp only at hL;have e1:(d:Int)=dn (splitB p).dropLast:=congrArg (fun x:Int×Int×Int=>x.1) hL;exact⟨rfl,by omega⟩
  |some n=>rw[ha]at hL;simp only at hL;have e1:(-1:Int)=dD dn φ n:=congrArg (fun x:Int×Int×Int=>x.2.1) hL;omega
theorem Vt.O3 (h:Vt S ns fs g dn φ) {n:TN} (hn:n∈ns):(aH S.cur (dD dn φ n)).kind=1↔n.file= -1:=by
 obtain⟨hk1,hk2⟩:=h.rep.LG hn;rw[h.iJ.ph.kind hk1];rcases hk2 with⟨h1,h2⟩|⟨h1,h2⟩
 ·exact⟨fun _=>h1,fun _=>h2⟩
 exact⟨fun e=>(by rw[h2]at e;cases e),fun e=>absurd e h1⟩
theorem Vt.something (h:Vt S ns fs g dn φ) (p:List UInt8):eO (bB S.cur S.data 0 0 (splitB p))=match kQ ns (splitB p)with| .error e=>some e| .ok _=>none:=by
 have hL:=h.look p;unfold kQ;cases ha:GL ns (splitB p)with
 |error e=>rw[ha]at hL;simp only at hL;have:=vQ ha;rw[hL];unfold eO;simp only;rw[if_neg aD]
 |ok y=>
  cases y with
  |none=>rw[ha]at hL;simp only at hL;rw[hL];rfl
  |some n=>rw[ha]at hL;simp only at hL;rw[hL];unfold eO;simp only;rw[if_pos trivial,if_neg aD]
theorem Vt.fileOf (h:Vt S ns fs g dn φ) (p:List UInt8):rT S.cur (bB S.cur S.data 0 0 (splitB p))=match yV ns (splitB p)with| .error e=>some e| .ok _=>none:=by
 have hL:=h.look p;unfold yV kQ;cases ha:GL ns (splitB p)with
 |error e=>rw[ha]at hL;simp only at hL;have:=vQ ha;rw[hL];unfold rT;simp only;rw[if_neg aD]
 |ok y=>
  cases y with
  |none=>rw[ha]at hL;simp only at hL;rw[hL];rfl
  |some n=>
   rw[ha]at hL;simp only at hL;obtain⟨_,hno,_⟩:=jH (S:=S) h.rep ha;have hk:=h.O3 (fF hno.symm).1;rw[hL];unfold rT;simp only;rw[if_pos trivial,if_neg aD,nA];by_cases hf:n.file= -1
   ·rw[if_pos (hk.2 hf),if_pos hf]
   rw[if_neg (fun e=>hf (hk.1 e)),if_neg hf]
theorem Vt.nothing (h:Vt S ns fs g dn φ) (p:List UInt8):gV (bB S.cur S.data 0 0 (splitB p))=if sO ns (splitB p)=0 then none else some (sO ns (splitB p)):=by
 have hL:=h.look p;unfold sO;cases ha:GL ns (splitB p)with
 |error e=>rw[ha]at hL;simp only at hL;have:=vQ ha;rw[hL];unfold gV;simp only;rw[if_neg aD,if_neg aD]
 |ok y=>
  cases y with
  |none=>rw[ha]at hL;simp only at hL;rw[hL];rfl
  |some n=>rw[ha]at hL;simp only at hL;rw[hL];unfold gV;simp only;rw[if_pos trivial,if_neg aD];rfl
end
end Go.Proofs.YteihmbaimbogaaaGreat
