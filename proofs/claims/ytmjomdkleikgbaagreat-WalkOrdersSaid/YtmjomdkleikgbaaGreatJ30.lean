/- Parts. -/
import Derived.Test.YtmjomdkleikgbaaGreatJ29
set_option linter.unusedVariables false
set_option linter.unusedSimpArgs false
namespace Go.Proofs.YtmjomdkleikgbaaGreat
def afG (ns:List TN) (fs:List FT) (op:Int) (p q:List UInt8) (mode:Nat) (bs:List UInt8):Except Int (List TN×List FT):=
 if op=1 then(if LQ ns p=0 then .ok (vR ns fs 1 mode p,fs)else .error (LQ ns p))
 else if op=2 then(match kC ns (splitB p)with
  | .error e=>.error e
  | .ok n=>if n.file≠ -1 then .error 22 else if 0<dZ ns (splitB p)then .error 25 else .ok (pK ns (splitB p),fs))
 else if op=3 then(match vC ns (splitB p)with
  | .error e=>.error e
  | .ok n=>if DU ns (splitB q)=0 then .ok (pK ns (splitB p)++[⟨q,n.file,0⟩],fs)else .error (DU ns (splitB q)))
 else if op=4 then(match vC ns (splitB p)with
  | .error e=>.error e
  | .ok n=>if DU ns (splitB q)=0 then(if ns.length<256 then .ok (ns++[⟨q,n.file,0⟩],fs)else .error 31)else .error (DU ns (splitB q)))
 else if op=5 then(match vC ns (splitB p)with
  | .error e=>.error e
  | .ok n=>.ok (pK ns (splitB p),fs))
 else if op=6 then(if LQ ns p=0 then .ok (vR ns fs 2 mode p,PU fs 2 mode bs)else .error (LQ ns p))
 else if op=7 then(match vC ns (splitB p)with
  | .error e=>.error e
  | .ok n=>if DU ns (splitB q)=0 then(if ns.length<256 then .ok (vR ns fs 2 mode q,PU fs 2 mode (yE fs n.file))else .error 31)else .error (DU ns (splitB q)))
 else if op=8 then(match kC ns (splitB p)with
  | .error e=>.error e
  | .ok n=>if n.file= -1 then .ok (⟨n.path, -1,mode⟩::pK ns (splitB p),fs)else .ok (ns,fs.set n.file.toNat ⟨mode,yE fs n.file⟩))
 else .error 0
def AsT (φ:Int->Nat) (m:Nat) (S:VS) (r:Except Int (Option VS)):Except Int (List TN×List FT)->Prop
 | .error e=>r= .error e
 | .ok T=>yU φ m S r T.1 T.2
section
variable {S:VS} {g:LT} {ns:List TN} {fs:List FT} {dn:Key->Nat} {φ:Int->Nat}
theorem BB {K:Key} {n:TN} (h:kC ns K= .ok n):zK ns K= .ok (some n):=by
 unfold kC at h;cases ha:zK ns K with
 |error e=>rw[ha]at h;cases h
 |ok y=>
  cases y with
  |none=>rw[ha]at h;cases h
  |some m=>rw[ha]at h;cases h;rfl
theorem H5 {K:Key} {n:TN} (h:vC ns K= .ok n):zK ns K= .ok (some n)/\n.file≠ -1:=by
 unfold vC at h;cases ha:kC ns K with
 |error e=>rw[ha]at h;cases h
 |ok m=>
  rw[ha]at h;simp only at h;by_cases hf:m.file= -1
  ·rw[if_pos hf]at h;cases h
  rw[if_neg hf]at h;cases h;exact⟨BB ha,hf⟩
theorem YB {K:Key} (h:DU ns K=0):zK ns K= .ok none:=by
 unfold DU at h;cases ha:zK ns K with
 |error e=>rw[ha]at h;have:=qP ha;simp only at h;omega
 |ok y=>
  cases y with
  |none=>rfl
  |some m=>rw[ha]at h;cases h
theorem Vt.bytes (h:Vt S ns fs g dn φ) {n:TN} (hn:n∈ns) (hf:n.file≠ -1):yE fs n.file=(g (φ n.file)).data:=by obtain⟨_,_,_,⟨f,h4,_,h6⟩,_⟩:=h.rep.file n hn hf;unfold yE;rw[h4];exact h6.symm
theorem Vt.sH (h:Vt S ns fs g dn φ) {p:List UInt8} {n:TN} (ha:zK ns (splitB p)= .ok (some n)):aP S.cur S.data 0 0 (splitB p)=((dn (splitB p).dropLast:Int),(bY dn φ n:Int),0):=by have:=h.look p;rw[ha]at this;exact this
theorem Vt.ab4 (h:Vt S ns fs g dn φ) {p:List UInt8} (ha:zK ns (splitB p)= .ok none):aP S.cur S.data 0 0 (splitB p)=((dn (splitB p).dropLast:Int), -1,0):=by have:=h.look p;rw[ha]at this;exact this
theorem QB {n:TN} (hf:n.file≠ -1):bY dn φ n=φ n.file:=by unfold bY;rw[if_neg hf]
theorem apI {n:TN} (hf:n.file= -1):bY dn φ n=dn (aZ n):=by unfold bY;rw[if_pos hf]
theorem Vt.av5 (h:Vt S ns fs g dn φ) {op:Int} {p q:List UInt8} {mode:Nat} {bs:List UInt8} (hv:aU p=true)
  (YV:op=3\/op=4\/op=7->aU q=true) (hm:mode<65536) (hb:op=6->bs.length<=8192):avV S op p q mode bs:=by
 refine⟨fun _ d hd hn=>?_,fun _ d m hm hd hk hz=>?_,fun e d m d2 hm hd hk he=>?_,fun e d m d2 hm hd hk he hn=>?_,fun _ d m hm hd hk=>?_,fun e d hd hn=>?_,fun e d m d2 hmm hd hk he hn=>?_,fun _ hm5=>⟨h.iJ.ph.sw,fun d m hmm hd=>?_⟩⟩
 ·exact(h.new (kind:=1) (bs:=[]) (.inl ⟨rfl,rfl⟩) hv (dD hv) hm aR).1 d hd hn
 ·obtain⟨n,ha,rfl,rfl⟩:=h.xD hd;obtain⟨hP,hno,_⟩:=iE (S:=S) h.rep ha;have hn:=eD hno.symm;have hf:=(h.HY hn.1).1 hk;rw[apI hf,hn.2]at hz ⊢;have hD:dI ns (splitB p):=.inr ⟨n,hn.1,hn.2,hf⟩;have h1:=(h.rep.vQ hD).2;rw[<-h.iJ.ph.size (h.rep.zJ hD).1,hz]at h1;exact(h.rmdir hv hno.symm hP hf (uR h1.symm)).2
 ·obtain⟨n,ha,rfl,rfl⟩:=h.xD hd;obtain⟨hP,hno,_⟩:=iE (S:=S) h.rep ha;obtain⟨hb2,rfl⟩:=h.UZ he;obtain⟨hQ,bX,_⟩:=iE (S:=S) h.rep hb2;have hn:=eD hno.symm;(have hf:n.file≠ -1:=fun e=>hk ((h.HY hn.1).2 e));rw[QB hf];exact(h.rename hv (YV aI) hno.symm hP hf hQ bX.symm).2
 ·obtain⟨n,ha,rfl,rfl⟩:=h.xD hd;obtain⟨hP,hno,_⟩:=iE (S:=S) h.rep ha;obtain⟨hb2,rfl⟩:=h.UZ he;obtain⟨hQ,bX,_⟩:=iE (S:=S) h.rep hb2;have hnm:=eD hno.symm;(have hf:n.file≠ -1:=fun e=>hk ((h.HY hnm.1).2 e));rw[QB hf];have:=h.nodes;exact(h.link (YV aI) hnm.1 hf hQ bX.symm aI).2
 ·obtain⟨n,ha,rfl,rfl⟩:=h.xD hd;obtain⟨hP,hno,_⟩:=iE (S:=S) h.rep ha;have hn:=eD hno.symm;(have hf:n.file≠ -1:=fun e=>hk ((h.HY hn.1).2 e));rw[QB hf];exact(h.apD hv hno.symm hP hf).2
 ·exact(h.new (kind:=2) (bs:=bs) (.inr rfl) hv (dD hv) hm (hb e)).1 d hd hn
 ·obtain⟨n,ha,rfl,rfl⟩:=h.xD hd;obtain⟨hP,hno,_⟩:=iE (S:=S) h.rep ha;have hnm:=eD hno.symm;(have hf:n.file≠ -1:=fun e=>hk ((h.HY hnm.1).2 e));obtain⟨_,hj1,hj2,_⟩:=h.rep.file n hnm.1 hf;have hd2:=h.iJ.ph.data _ hj1 hj2;rw[QB hf]at hk ⊢;refine⟨h.iJ.abG _ hj1 hk,?_⟩;rw[hd2];exact(h.new (kind:=2) (bs:=(g (φ n.file)).data) (.inr rfl) (YV aI) (dD (YV aI)) hm (h.iJ.ph.fair _ hj1).short).1 d2 he hn
 have:=h.afC hmm hm5;exact Z22
theorem Vt.act (h:Vt S ns fs g dn φ) {op:Int} {p q:List UInt8} {mode:Nat} {bs:List UInt8} (hv:aU p=true)
  (YV:op=3\/op=4\/op=7->aU q=true) (hm:op=1\/op=6\/op=7\/op=8->mode<=511) (hb:op=6->bs.length<=8192):AsT φ fs.length S (R4 S op p q mode bs) (afG ns fs op p q mode bs):=by
 unfold R4 afG;by_cases h1:op=1
 ·simp only[if_pos h1];rcases(h.new (kind:=1) (mode:=mode) (bs:=[]) (.inl ⟨rfl,rfl⟩) hv (dD hv) (by have:=hm (.inl h1);omega) aR).2 with⟨h2,h3⟩|⟨h2,h3⟩
  ·rw[if_neg h2];exact h3
  rw[if_pos h2];exact h3
 simp only[if_neg h1];by_cases h2:op=2
 ·simp only[if_pos h2];unfold PG;rw[h.something p];cases ha:kC ns (splitB p)with
  |error e=>exact rfl
  |ok n=>
   have ha2:=BB ha;obtain⟨hP,hno,_⟩:=iE (S:=S) h.rep ha2;have hnm:=eD hno.symm;simp only;rw[h.sH ha2];simp only[lM];by_cases hf:n.file= -1
   ·rw[if_neg (show ¬(aF S.cur (bY dn φ n)).kind≠1 from fun e=>e ((h.HY hnm.1).2 hf)),if_neg (show ¬n.file≠ -1 from fun e=>e hf)];have hD:dI ns (splitB p):=.inr ⟨n,hnm.1,hnm.2,hf⟩;have hz:=(h.rep.vQ hD).2;rw[<-h.iJ.ph.size (h.rep.zJ hD).1]at hz;rw[apI hf,hnm.2,hz];by_cases hk:0<dZ ns (splitB p)
    ·rw[if_pos hk,if_pos hk];exact rfl
    rw[if_neg hk,if_neg hk];exact(h.rmdir hv hno.symm hP hf (uR (by unfold dZ at hk;omega))).1
   rw[if_pos (show(aF S.cur (bY dn φ n)).kind≠1 from fun e=>hf ((h.HY hnm.1).1 e)),if_pos hf];exact rfl
 simp only[if_neg h2];by_cases h3:op=3
 ·simp only[if_pos h3];unfold GM;rw[h.fileOf p];cases ha:vC ns (splitB p)with
  |error e=>exact rfl
  |ok n=>
   obtain⟨ha2,hf⟩:=H5 ha;obtain⟨hP,hno,_⟩:=iE (S:=S) h.rep ha2;simp only;rw[h.nothing q];by_cases hva:DU ns (splitB q)=0
   ·rw[if_pos hva,if_pos hva];have hb2:=YB hva;obtain⟨hQ,bX,_⟩:=iE (S:=S) h.rep hb2;simp only;rw[h.sH ha2,h.ab4 hb2];simp only[lM];rw[QB hf];exact(h.rename hv (YV aI) hno.symm hP hf hQ bX.symm).1
   rw[if_neg hva,if_neg hva];exact rfl
 simp only[if_neg h3];by_cases h4:op=4
 ·simp only[if_pos h4];unfold aa6;rw[h.fileOf p];cases ha:vC ns (splitB p)with
  |error e=>exact rfl
  |ok n=>
   obtain⟨ha2,hf⟩:=H5 ha;obtain⟨hP,hno,_⟩:=iE (S:=S) h.rep ha2;have hnm:=eD hno.symm;simp only;rw[h.nothing q];by_cases hva:DU ns (splitB q)=0
   ·rw[if_pos hva,if_pos hva];have hb2:=YB hva;obtain⟨hQ,bX,_⟩:=iE (S:=S) h.rep hb2;simp only;have hnn:=h.nodes;by_cases hr:ns.length<256
    ·rw[if_pos (show S.nodes<256 by omega),if_pos hr,h.sH ha2,h.ab4 hb2];simp only[lM];rw[QB hf];exact(h.link (YV aI) hnm.1 hf hQ bX.symm hr).1
    rw[if_neg (show ¬S.nodes<256 by omega),if_neg hr];exact rfl
   rw[if_neg hva,if_neg hva];exact rfl
 simp only[if_neg h4];by_cases h5:op=5
 ·simp only[if_pos h5];unfold GL;rw[h.fileOf p];cases ha:vC ns (splitB p)with
  |error e=>exact rfl
  |ok n=>obtain⟨ha2,hf⟩:=H5 ha;obtain⟨hP,hno,_⟩:=iE (S:=S) h.rep ha2;simp only;rw[h.sH ha2];simp only[lM];rw[QB hf];exact(h.apD hv hno.symm hP hf).1
 simp only[if_neg h5];by_cases h6:op=6
 ·simp only[if_pos h6];rcases(h.new (kind:=2) (mode:=mode) (bs:=bs) (.inr rfl) hv (dD hv) (by have:=hm (.inr (.inl h6));omega) (hb h6)).2 with⟨h7,h8⟩|⟨h7,h8⟩
  ·rw[if_neg h7];exact h8
  rw[if_pos h7];exact h8
 simp only[if_neg h6];by_cases h7:op=7
 ·simp only[if_pos h7];unfold aoG;rw[h.fileOf p];cases ha:vC ns (splitB p)with
  |error e=>exact rfl
  |ok n=>
   obtain⟨ha2,hf⟩:=H5 ha;obtain⟨hP,hno,_⟩:=iE (S:=S) h.rep ha2;have hnm:=eD hno.symm;obtain⟨_,hj1,hj2,_⟩:=h.rep.file n hnm.1 hf;have hd2:=h.iJ.ph.data _ hj1 hj2;have hnw:=(h.new (kind:=2) (mode:=mode) (p:=q) (bs:=(g (φ n.file)).data) (.inr rfl) (YV aI) (dD (YV aI)) (by have:=hm aI;omega) (h.iJ.ph.fair _ hj1).short).2;simp only;rw[h.sH ha2];simp only[lM];rw[QB hf,hd2,h.bytes hnm.1 hf];unfold JJ at hnw;rw[h.nothing q]at hnw ⊢;unfold LQ at hnw;by_cases hva:DU ns (splitB q)=0
   ·have hb2:=YB hva;rw[if_pos hva]at hnw ⊢;rw[if_pos hva];simp only[hb2]at hnw ⊢;have hnn:=h.nodes;by_cases hr:ns.length<256
    ·simp only[if_pos hr,if_pos (show S.nodes<256 by omega)]at hnw ⊢;rcases hnw with⟨h8,_⟩|⟨_,h9⟩
     ·exact absurd rfl h8
     exact h9
    simp only[if_neg hr,if_neg (show ¬S.nodes<256 by omega)]at hnw ⊢;exact rfl
   rw[if_neg hva,if_neg hva];exact rfl
 simp only[if_neg h7];by_cases h8:op=8
 ·simp only[if_pos h8];unfold O8;rw[h.something p];cases ha:kC ns (splitB p)with
  |error e=>exact rfl
  |ok n=>
   have ha2:=BB ha;obtain⟨hP,hno,_⟩:=iE (S:=S) h.rep ha2;have hnm:=eD hno.symm;simp only;rw[h.sH ha2];simp only[lM];by_cases hf:n.file= -1
   ·rw[if_pos hf,apI hf];have:=h.apE hnm.1 hf (hm aI);rw[hnm.2]at this ⊢;exact this
   rw[if_neg hf,QB hf,h.bytes hnm.1 hf];exact h.akX hnm.1 hf (hm aI)
 simp only[if_neg h8];exact rfl
end
open Go.RowKit
section
variable {w0 w:World} {R:List aV} {f q p:Nat} {S:VS} {ns:List TN} {fs:List FT} {nb names:Nat}
structure gX (S:VS) (ns:List TN) (fs:List FT) (nb names:Nat):Prop where
 iJ:ae9 S ns fs nb names
 off:S.D.off=false
 left:S.D.left= -1
theorem ab5 {n names:Nat} (h0:98+(names+7)/8<n) (h1:n<=4096) (h2:2<=names) (h3:names<=1024):gX (VS.new n names) [] [] n names:=
 ⟨⟨rfl,rfl,_,_,_,axB h0 h1 h2 h3⟩,(P6 n names).2.1,(P6 n names).2.2⟩
theorem gX.base (h:gX S ns fs nb names):gX S.base ns fs nb names:=⟨h.iJ.base,h.off,h.left⟩
theorem gX.ends {r:Except Int (Option VS)} {ns':List TN} {fs':List FT} {x:Int} {g:LT} {dn:Key->Nat} {φ:Int->Nat} (hL:gX S ns fs nb names) (hV:Vt S.base ns fs g dn φ) (hok:S.D.ok S.nb) (RQ:96<S.nb) (hD:yU φ fs.length S.base r ns' fs') (h:nI f q p S.base r w0 w R x):
  if vT nb names ns' fs'=true then x=0/\∃S',gX S' ns' fs' nb names/\akW S S' ns' fs' φ fs.length/\Sep w0 w (bE f q p S'::R)
  else x=27/\∃S',gX S' ns fs nb names/\akW S S' ns fs φ fs.length/\Sep w0 w (bE f q p S'::R):=by
 have h1:=hL.iJ.ends hV hok RQ hD h;split
 ·rename_i hf;rw[if_pos hf]at h1;rcases h1 with⟨hx,S',hV',hI,hl,hS⟩|⟨_,h2,_⟩
  ·obtain⟨l1,l2⟩:=hl hL.off (by rw[hL.left];decide);exact⟨hx,S',⟨hV',l1,l2.trans hL.left⟩,hI,hS⟩
  exact absurd ⟨hL.off,by rw[hL.left];decide⟩ h2
 rename_i hf;rw[if_neg hf]at h1;exact⟨h1.1,S.base,hL.base,⟨.inl rfl,g,dn,φ,hV,fun _ _=>rfl⟩,h1.2⟩
theorem aBH (hL:gX S ns fs nb names) (h:Sep w0 w (bE f q p S::R)):
  Calls Tryz.prog 42 #[pV f] w fun e w'=>e= .returned (jC (D9 nb names) names)/\w'=w:=by
 obtain⟨g,dn,φ,hV⟩:=hL.iJ.vt;have hrB:S.rB=D9 nb names:=by have:=hV.iJ.rB;rw[show S.rB=S.base.rB from rfl,this];(show((S.nb-96-(2+(S.names+7)/8):Nat):Int)=_);rw[hL.iJ.nm,hL.iJ.nbe];rfl
 have hrI:S.rI=names:=by have:=hV.iJ.rI;rw[show S.rI=S.base.rI from rfl,this];(show(S.names:Int)=_);rw[hL.iJ.nm]
 have:=akI h;rw[hrB,hrI]at this;exact this
end
structure apJ where
 e:Int
 ns:List TN
 fs:List FT
def BC (nb names:Nat) (ns:List TN) (fs:List FT):Except Int (List TN×List FT)->apJ
 | .error k=>⟨k,ns,fs⟩
 | .ok T=>if vT nb names T.1 T.2=true then⟨0,T.1,T.2⟩else⟨27,ns,fs⟩
def doX (nb names:Nat) (ns:List TN) (fs:List FT) (op:Int) (p q:List UInt8) (mode kk:Int) (n:Nat) (bs:List UInt8):apJ:=
 if RD op p q mode kk n bs.length=0 then BC nb names ns fs (if op=9 then .error 0 else afG ns fs op p q mode.toNat bs)else⟨RD op p q mode kk n bs.length,ns,fs⟩
def ES (nb names:Nat) (ns:List TN) (fs:List FT) (p bs:List UInt8):apJ:=
 BC nb names ns fs (if abV ns p bs.length=0 then .ok (abW ns fs p,abX ns fs p bs)else .error (abV ns p bs.length))
section
variable {w0 w:World} {R:List aV} {f q p:Nat} {S:VS} {ns:List TN} {fs:List FT} {nb names:Nat}
theorem gX.asT {r:Except Int (Option VS)} {A:Except Int (List TN×List FT)} {x:Int} {g:LT} {dn:Key->Nat} {φ:Int->Nat} (hL:gX S ns fs nb names) (hV:Vt S.base ns fs g dn φ) (hok:S.D.ok S.nb) (RQ:96<S.nb) (hA:AsT φ fs.length S.base r A) (h:nI f q p S.base r w0 w R x):
  x=(BC nb names ns fs A).e/\∃S',gX S' (BC nb names ns fs A).ns (BC nb names ns fs A).fs nb names/\akW S S' (BC nb names ns fs A).ns (BC nb names ns fs A).fs φ fs.length/\Sep w0 w (bE f q p S'::R):=by
 cases A with
 |error k=>have hr:r= .error k:=hA;rw[hr]at h;exact⟨h.1,S.base,hL.base,⟨.inl rfl,g,dn,φ,hV,fun _ _=>rfl⟩,h.2⟩
 |ok T=>
  have h1:=hL.ends hV hok RQ hA h;unfold BC;simp only;split
  ·rename_i hf;rw[if_pos hf]at h1;exact h1
  rename_i hf;rw[if_neg hf]at h1;exact h1
theorem doI {g:LT} {dn:Key->Nat} {φ:Int->Nat} {op mode kk:Int} {path tz bs:List UInt8} {A:Option Addr} {n c:Nat} (hL:gX S ns fs nb names) (hV:Vt S.base ns fs g dn φ) (hp:path.length<=9223372036854775807) (ht:tz.length<=9223372036854775807) (hn:n<=9223372036854775807) (hlen:bs.length<=9223372036854775807)
  (hop: -9223372036854775808<=op/\op<=9223372036854775807) (hst:CO w0 R A n kk bs) (h:Sep w0 w (bE f q p S::R)):
  Calls Tryz.prog 18 #[pV f,.agg #[iV op,aC path,aC tz,iV mode,iV kk],.slice A n c] w fun e w'=>
   e= .returned (.int .i64 (doX nb names ns fs op path tz mode kk n bs).e)/\∃S',gX S' (doX nb names ns fs op path tz mode kk n bs).ns (doX nb names ns fs op path tz mode kk n bs).fs nb names/\akW S S' (doX nb names ns fs op path tz mode kk n bs).ns (doX nb names ns fs op path tz mode kk n bs).fs φ fs.length/\Sep w0 w' (bE f q p S'::R):=by
 have hok:=abC h
 have RQ:=abU h
 have facts:RD op path tz mode kk n bs.length=0->op=9\/(op≠9/\aU path=true/\(op=3\/op=4\/op=7->aU tz=true)/\(op=1\/op=6\/op=7\/op=8->mode.toNat<=511)/\(op=6->bs.length<=8192)):=fun h0=>by
  rcases ah1 h0 with h9|⟨_,h9,hk⟩
  ·exact .inl h9
  refine .inr ⟨h9,hk.valid,fun e=>hk.EM ?_,fun e=>?_,fun e=>(hk.data e).2.2⟩
  ·rcases e with rfl|rfl|rfl<;>rfl
  have:=hk.mode (by rcases e with rfl|rfl|rfl|rfl<;>rfl);omega
 refine(awY (op:=op) (mode:=mode) (kk:=kk) (path:=path) (tz:=tz) (bs:=bs) hp ht hn hlen hL.off hop hst hV.iJ.vw (fun h0=>?_) h).mono ?_
 ·rcases facts h0 with rfl|⟨h9,hv,YV,hm,hb⟩
  ·exact⟨fun e=>absurd e aR,fun e=>absurd e aR,fun e=>absurd e aR,fun e=>absurd e aR,fun e=>absurd e aR,fun e=>absurd e aR,fun e=>absurd e aR,fun e=>absurd e aR⟩
  by_cases hm5:mode.toNat<65536
  ·exact hV.av5 hv YV hm5 hb
  (have hno:¬(op=1\/op=6\/op=7\/op=8):=fun e=>by have:=hm e;omega);have h2:=hV.av5 (op:=op) (mode:=0) (bs:=bs) hv YV aR hb;exact⟨fun e=>absurd (.inl e) hno,h2.rm,h2.mv,h2.ln,h2.un,fun e=>absurd (.inr (.inl e)) hno,fun e=>absurd (.inr (.inr (.inl e))) hno,fun e=>absurd (.inr (.inr (.inr e))) hno⟩
 ·rintro e w' ⟨x,rfl,hE⟩;unfold doR at hE;unfold doX;by_cases h0:RD op path tz mode kk n bs.length=0
  ·rw[if_pos h0]at hE ⊢;have hA:AsT φ fs.length S.base (R4 S.base op path tz mode.toNat bs) (if op=9 then .error 0 else afG ns fs op path tz mode.toNat bs):=by
    rcases facts h0 with rfl|⟨h9,hv,YV,hm,hb⟩
    ·exact rfl
    rw[if_neg h9];exact hV.act hv YV hm hb
   obtain⟨h1,h2⟩:=hL.asT hV hok RQ hA hE;rw[h1];exact⟨rfl,h2⟩
  rw[if_neg h0]at hE ⊢;exact⟨by rw[hE.1],S.base,hL.base,⟨.inl rfl,g,dn,φ,hV,fun _ _=>rfl⟩,hE.2⟩
theorem doT {op mode kk:Int} {path tz bs:List UInt8} {A:Option Addr} {n c:Nat} (hL:gX S ns fs nb names) (hp:path.length<=9223372036854775807) (ht:tz.length<=9223372036854775807) (hn:n<=9223372036854775807) (hlen:bs.length<=9223372036854775807)
  (hop: -9223372036854775808<=op/\op<=9223372036854775807) (hst:CO w0 R A n kk bs) (h:Sep w0 w (bE f q p S::R)):
  Calls Tryz.prog 18 #[pV f,.agg #[iV op,aC path,aC tz,iV mode,iV kk],.slice A n c] w fun e w'=>
   e= .returned (.int .i64 (doX nb names ns fs op path tz mode kk n bs).e)/\∃S',gX S' (doX nb names ns fs op path tz mode kk n bs).ns (doX nb names ns fs op path tz mode kk n bs).fs nb names/\Sep w0 w' (bE f q p S'::R):=by
 obtain⟨g,dn,φ,hV⟩:=hL.iJ.vt
 refine(doI hL hV hp ht hn hlen hop hst h).mono ?_
 rintro e w' ⟨h1,S',h2,_,h3⟩
 exact⟨h1,S',h2,h3⟩
theorem aGO {g:LT} {dn:Key->Nat} {φ:Int->Nat} {path bs:List UInt8} {A:Option Addr} {c:Nat} (hL:gX S ns fs nb names) (hV:Vt S.base ns fs g dn φ) (hp:path.length<=9223372036854775807) (hlen:bs.length<=4611686018427387903) (hst:iG w0 R (.slice A bs.length c) bs) (h:Sep w0 w (bE f q p S::R)):
  Calls Tryz.prog 24 #[pV f,aC path,.slice A bs.length c] w fun e w'=>
   e= .returned (.int .i64 (ES nb names ns fs path bs).e)/\∃S',gX S' (ES nb names ns fs path bs).ns (ES nb names ns fs path bs).fs nb names/\akW S S' (ES nb names ns fs path bs).ns (ES nb names ns fs path bs).fs φ fs.length/\Sep w0 w' (bE f q p S'::R):=by
 have hok:=abC h
 have RQ:=abU h
 have hP:=hV.put (bs:=bs) hp
 refine(aoM hp hlen hL.off hV.iJ.vw hst hP.1 h).mono ?_
 rintro e w' ⟨x,rfl,hE⟩
 have hA:AsT φ fs.length S.base (vB S.base path bs) (if abV ns path bs.length=0 then .ok (abW ns fs path,abX ns fs path bs)else .error (abV ns path bs.length)):=by
  rcases hP.2 with⟨h1,h2⟩|⟨h1,h2⟩
  ·rw[if_neg h1];exact h2
  rw[if_pos h1];exact h2
 obtain⟨h1,h2⟩:=hL.asT hV hok RQ hA hE
 rw[h1]
 exact⟨rfl,h2⟩
theorem aGP {path bs:List UInt8} {A:Option Addr} {c:Nat} (hL:gX S ns fs nb names) (hp:path.length<=9223372036854775807) (hlen:bs.length<=4611686018427387903) (hst:iG w0 R (.slice A bs.length c) bs) (h:Sep w0 w (bE f q p S::R)):
  Calls Tryz.prog 24 #[pV f,aC path,.slice A bs.length c] w fun e w'=>
   e= .returned (.int .i64 (ES nb names ns fs path bs).e)/\∃S',gX S' (ES nb names ns fs path bs).ns (ES nb names ns fs path bs).fs nb names/\Sep w0 w' (bE f q p S'::R):=by
 obtain⟨g,dn,φ,hV⟩:=hL.iJ.vt
 refine(aGO hL hV hp hlen hst h).mono ?_
 rintro e w' ⟨h1,S',h2,_,h3⟩
 exact⟨h1,S',h2,h3⟩
end
def rdX (ns:List TN) (path:List UInt8):Int:=if cO path=0 then(match vC ns (splitB path)with| .error e=>e| .ok _=>0)else cO path
def rdB (ns:List TN) (fs:List FT) (path:List UInt8):List UInt8:=if cO path=0 then(match vC ns (splitB path)with| .error _=>[]| .ok n=>yE fs n.file)else []
section
variable {w0 w:World} {R:List aV} {f q p:Nat} {S:VS} {ns:List TN} {fs:List FT} {nb names:Nat}
theorem apK {K:Key} {e:Int} (h:vC ns K= .error e):e≠0:=by
 unfold vC kC at h;cases ha:zK ns K with
 |error k=>rw[ha]at h;cases h;have:=qP ha;omega
 |ok y=>
  rw[ha]at h;cases y with
  |none=>cases h;decide
  |some n=>
   simp only at h;split at h
   ·cases h;decide
   cases h
theorem Vt.read {g:LT} {dn:Key->Nat} {φ:Int->Nat} (h:Vt S ns fs g dn φ) (path:List UInt8):yS S path=rdX ns path/\PI S path=rdB ns fs path:=by
 have hX:yS S path=rdX ns path:=by
  unfold yS rdX;split
  ·rw[h.fileOf path];cases vC ns (splitB path)<;>rfl
  rfl
 refine⟨hX,?_⟩;unfold PI;rw[hX];unfold rdX rdB;by_cases hE:cO path=0
 ·rw[if_pos hE,if_pos hE];cases ha:vC ns (splitB path)with
  |error e=>simp only;rw[if_neg (apK ha)]
  |ok n=>simp only;rw[if_pos trivial];obtain⟨ha2,hf⟩:=H5 ha;obtain⟨_,hno,_⟩:=iE (S:=S) h.rep ha2;have hnm:=eD hno.symm;obtain⟨_,hj1,hj2,_⟩:=h.rep.file n hnm.1 hf;rw[h.sH ha2];simp only[lM];rw[QB hf,h.iJ.ph.data _ hj1 hj2,h.bytes hnm.1 hf]
 rw[if_neg hE,if_neg hE,if_neg hE]
end
def lsX (ns:List TN) (path:List UInt8):Int:=if path=[]then 0 else if cO path=0 then(match kC ns (splitB path)with| .error e=>e| .ok n=>if n.file= -1 then 0 else 22)else cO path
def SH (path:List UInt8):Key:=if path=[]then []else splitB path
def lsN (ns:List TN) (path:List UInt8):List (List UInt8):=if lsX ns path=0 then(eB ns (SH path)).map fun n=>(aZ n).getLastD []else []
section
variable {w0 w:World} {R:List aV} {f q p:Nat} {S:VS} {ns:List TN} {fs:List FT} {nb names:Nat}
theorem JU {K:Key} {e:Int} (h:kC ns K= .error e):e≠0:=by
 unfold kC at h;cases ha:zK ns K with
 |error k=>rw[ha]at h;cases h;have:=qP ha;omega
 |ok y=>
  rw[ha]at h;cases y with
  |none=>cases h;decide
  |some n=>cases h
theorem Vt.list {g:LT} {dn:Key->Nat} {φ:Int->Nat} (h:Vt S ns fs g dn φ) (path:List UInt8):kI S path=lsX ns path/\(mE S path).Perm (lsN ns path)/\(mE S path).Pairwise fun x y=>x<=y:=by
 have hsort:(mE S path).Pairwise fun x y=>x<=y:=by
  unfold mE;split
  ·exact aoV _
  exact List.Pairwise.nil
 have key:∀K,dI ns K->(yV ((jL S.cur S.data (aF S.cur (dn K))).map (·.1))).Perm ((eB ns K).map fun n=>(aZ n).getLastD []):=fun K hK=>by obtain⟨hd1,hd2⟩:=h.rep.zJ hK;rw[h.iJ.ph.bB _ hd1 hd2];refine(PV _).trans ?_;have h2:=(h.rep.bB K hK).map (·.1);rw[qU]at h2;exact h2
 by_cases e0:path=[]
 ·have hk:=h.iJ.aoP;(have hX:kI S path=0:=by unfold kI;rw[if_pos e0,if_pos hk]);(have hX2:lsX ns path=0:=by unfold lsX;rw[if_pos e0]);refine⟨hX.trans hX2.symm,?_,hsort⟩;have hk0:=key [] (.inl rfl);rw[h.rep.root]at hk0;unfold mE ah7 lsN SH;rw[if_pos hX,if_pos e0,if_pos hX2,if_pos e0];exact hk0
 by_cases hE:cO path=0
 ·have hsm:=h.something path;cases ha:kC ns (splitB path)with
  |error e=>rw[ha]at hsm;simp only at hsm;(have hX:kI S path=e:=by unfold kI;rw[if_neg e0,if_pos hE,hsm]);(have hX2:lsX ns path=e:=by unfold lsX;rw[if_neg e0,if_pos hE,ha]);have hne:=JU ha;refine⟨hX.trans hX2.symm,?_,hsort⟩;unfold mE lsN;rw[hX,hX2,if_neg hne,if_neg hne]
  |ok n=>
   rw[ha]at hsm;simp only at hsm;have ha2:=BB ha;obtain⟨_,hno,_⟩:=iE (S:=S) h.rep ha2;have hnm:=eD hno.symm;have hlk:=h.sH ha2;have hkd:=h.HY hnm.1;by_cases hf:n.file= -1
   ·(have hX:kI S path=0:=by unfold kI;rw[if_neg e0,if_pos hE,hsm,hlk];simp only[lM];rw[if_pos (hkd.2 hf)]);(have hX2:lsX ns path=0:=by unfold lsX;rw[if_neg e0,if_pos hE,ha];simp only;rw[if_pos hf]);refine⟨hX.trans hX2.symm,?_,hsort⟩;have hk0:=key (splitB path) (.inr ⟨n,hnm.1,hnm.2,hf⟩);unfold mE ah7 lsN SH;rw[if_pos hX,if_neg e0,if_pos hX2,if_neg e0,hlk];simp only[lM];rw[apI hf,hnm.2];exact hk0
   (have hX:kI S path=22:=by unfold kI;rw[if_neg e0,if_pos hE,hsm,hlk];simp only[lM];rw[if_neg (fun e=>hf (hkd.1 e))]);(have hX2:lsX ns path=22:=by unfold lsX;rw[if_neg e0,if_pos hE,ha];simp only;rw[if_neg hf]);refine⟨hX.trans hX2.symm,?_,hsort⟩;unfold mE lsN;rw[hX,hX2,if_neg aR,if_neg aR]
 have hX:kI S path=cO path:=by unfold kI;rw[if_neg e0,if_neg hE]
 have hX2:lsX ns path=cO path:=by unfold lsX;rw[if_neg e0,if_neg hE]
 refine⟨hX.trans hX2.symm,?_,hsort⟩;unfold mE lsN;rw[hX,hX2,if_neg hE,if_neg hE]
theorem av6 {path:List UInt8} (hL:gX S ns fs nb names) (hp:path.length<=9223372036854775807) (h:Sep w0 w (bE f q p S::R)):
  Calls Tryz.prog 40 #[pV f,aC path] w fun e w'=>∃v l S',e= .returned (.tuple #[v,iV (lsX ns path)])/\l.Perm (lsN ns path)/\(l.Pairwise fun x y=>x<=y)/\gX S' ns fs nb names/\Sep w0 w' (rU v l::bE f q p S'::R):=by
 obtain⟨g,dn,φ,hV⟩:=hL.iJ.vt;obtain⟨h1,h2,h3⟩:=hV.list path;refine(abL hp hL.off hV.iJ.vw hV.iJ.aoP h).mono ?_;rintro e w' ⟨v,rfl,hS⟩;rw[h1];exact⟨v,_,S.base,rfl,h2,h3,hL.base,hS⟩
end
theorem add_zero' (a:Addr):a.add 0=a:=by simp[Addr.add]
end Go.Proofs.YtmjomdkleikgbaaGreat
namespace Go.Proofs.YtmjomdkleikgbaaGreat
open Go.RowKit Go.Shelf
theorem JV {α:Type} (f:α->List Value) (m:Nat) (hf:∀x,(f x).length=m) (xs:List α):(xs.flatMap f).length=xs.length*m:=by
 induction xs with
 |nil=>simp
 |cons x xs ih=>rw[wJ,jJ,ih,hf,kM,Nat.add_mul,Nat.one_mul,Nat.add_comm]
theorem QC {α:Type} (f:α->List Value) (m:Nat) (hf:∀x,(f x).length=m) {xs:List α} {i:Nat} {x:α} (h:xs[i]? =some x) (j:Nat) (hj:j<m):(xs.flatMap f)[i*m+j]? =(f x)[j]? :=by
 induction xs generalizing i with
 |nil=>simp at h
 |cons y xs ih=>
  rw[wJ];cases i with
  |zero=>simp at h;subst h;rw[TP,I6,C9 (by rw[hf];exact hj)]
  |succ i=>(have e:(i+1)*m+j-(f y).length=i*m+j:=by rw[hf,Nat.add_mul];omega);rw[uS (by rw[hf,Nat.add_mul];omega),e];exact ih (by simpa using h)
theorem afI {w:World} {ad:Addr} {u:Value} (h:w.cell? ad=some u):ad.spot=none:=by
 unfold World.cell? at h;split at h
 ·split at h
  ·cases h
  rename_i hs;cases hb:ad.spot with
  |none=>rfl
  |some s=>rw[hb]at hs;simp at hs
 cases h
theorem Rd.place {w:World} {sz n:Nat} {v:Value} {cs:List Value} (h:Rd w sz v n cs) (h0:0<n) (hsz:0<sz):
  ∃g o c,v= .slice (some ⟨g,o,none⟩) n c/\n<=c/\c<=maxLen/\g<w.heap.size/\∀w',Below w.heap.size w w'->∀j,j<n*sz->w'.cell? ⟨g,o+j,none⟩=cs[j]? :=by
 obtain⟨hl,A,c,rfl,h1,h2,h3⟩:=h;obtain⟨ad,rfl,hb,hc⟩:=h3 h0;have hpos:0<cs.length:=by rw[hl];exact TS h0 hsz
 have hsp:ad.spot=none:=by have h4:=hc 0 _ (gE hpos);rw[add_zero']at h4;exact afI h4
 obtain⟨g,o,s⟩:=ad;simp only at hsp;subst hsp;refine⟨g,o,c,rfl,h1,h2,hb,fun w' hw' j hj=>?_⟩;have hj':j<cs.length:=by rw[hl];exact hj
 have h4:=hc j _ (gE hj');rw[Addr.add_lit]at h4;rw[gE hj',<-h4];exact hw'.cell hb
def aGQ (cs:List Value) (bs:List UInt8):Prop:=(∀u∈cs,u.oneCell'=true)/\cs=bs.map kK
def JW (w:World) (v:Value) (n:Nat) (bs:List UInt8):Prop:=∃cs,Rd w 1 v n cs/\aGQ cs bs
theorem JW.below {w w':World} {v:Value} {n:Nat} {bs:List UInt8} (h:JW w v n bs) (hb:Below w.heap.size w w'):JW w' v n bs:=by obtain⟨cs,h1,h2⟩:=h;exact⟨cs,h1.below hb,h2⟩
theorem JW.shape {w:World} {v:Value} {n:Nat} {bs:List UInt8} (h:JW w v n bs):∃A c,v= .slice A n c/\n<=maxLen:=by obtain⟨cs,h1,_⟩:=h;exact h1.shape
structure TF where
 mode:Int
 bs:List UInt8
deriving DecidableEq
def TF.size (f:TF):Nat:=f.bs.length
def K6 (n:TN):List Value:=[aC n.path,.int .i64 n.file,.int .i64 n.mode]
def dG (ns:List TN):List Value:=ns.flatMap K6
def tfC (x:TF×Value):List Value:=[.int .i64 x.1.mode,x.2]
def iB (fs:List TF) (vs:List Value):List Value:=(fs.zip vs).flatMap tfC
theorem ab7 (ns:List TN):(dG ns).length=ns.length*3:=by rw[dG,JV K6 3 (fun _=>rfl)]
theorem dE {ns:List TN} {i:Nat} {n:TN} (h:ns[i]? =some n) (j:Nat) (hj:j<3):(dG ns)[i*3+j]? =(K6 n)[j]? :=
 QC K6 3 (fun _=>rfl) h j hj
theorem fM {fs:List TF} {vs:List Value} {i:Nat} {f:TF} {u:Value} (h:fs[i]? =some f) (hu:vs[i]? =some u) (j:Nat) (hj:j<2):(iB fs vs)[i*2+j]? =(tfC (f,u))[j]? :=
 QC tfC 2 (fun _=>rfl) (by rw[List.getElem?_zip_eq_some];exact⟨h,hu⟩) j hj
structure iR (w:World) (nv fv:Value) (ns:List TN) (fs:List TF) (vs:List Value):Prop where
 len:vs.length=fs.length
 nodes:Rd w 3 nv ns.length (dG ns)
 files:Rd w 2 fv fs.length (iB fs vs)
 data:∀(k:Nat) u f,vs[k]? =some u->fs[k]? =some f->JW w u f.size f.bs
theorem iR.below {w w':World} {nv fv:Value} {ns:List TN} {fs:List TF} {vs:List Value} (h:iR w nv fv ns fs vs) (hb:Below w.heap.size w w'):iR w' nv fv ns fs vs:=
 ⟨h.len,h.nodes.below hb,h.files.below hb,fun k u e hu he=>(h.data k u e hu he).below hb⟩
structure rP (ns:List TN) (fs:List TF):Prop where
 few:ns.length<=300
 JX:fs.length<=300
 short:∀n∈ns,n.path.length<=40000
 size:∀f∈fs,f.size<=1048576
structure wD (ns:List TN) (fs:List TF):Prop where
 few:ns.length<=300
 JX:fs.length<=300
 short:∀n∈ns,n.path.length<=9223372036854775807
 size:∀f∈fs,f.size<=9223372036854775807
theorem rP.mm {ns:List TN} {fs:List TF} (h:rP ns fs):wD ns fs:=⟨h.few,h.JX,fun n hn=>DZ (h.short n hn) aR,fun f hf=>DZ (h.size f hf) aR⟩
def mH (p:List UInt8):Nat:=(max 0 (Lib.lastIndexByte ⟨p.toArray⟩ 47)).toNat
def bA (p:List UInt8):List UInt8:=if aU p=true then p.take (mH p)else []
theorem H6 (p:List UInt8) (n:Nat):(⟨p.toArray⟩:ByteArray).extract 0 n=⟨(p.take n).toArray⟩:=by
 have e:((⟨p.toArray⟩:ByteArray).extract 0 n).data.toList=p.take n:=by rw[Lib.extract_data];simp
 generalize(⟨p.toArray⟩:ByteArray).extract 0 n=t at e;obtain⟨⟨l⟩⟩:=t;simp at e;rw[e]
def JY (f:TF):Bool:=decide (8192<f.size)
def lJ (ns:List TN) (fs:List TF):Bool:=(decide (256<ns.length)||decide (256<fs.length))||fs.any JY
end Go.Proofs.YtmjomdkleikgbaaGreat
namespace Go.Proofs.YtmjomdkleikgbaaGreat
open Go.RowKit
theorem lZ (p:List UInt8):Op.bytesLess p p=false:=by
 induction p with
 |nil=>rfl
 |cons a p ih=>simp[Op.bytesLess,ih]
theorem ab8 :∀ {p q:List UInt8},Op.bytesLess p q=true->Op.bytesLess q p=false
 |[],[],h=>by simp[Op.bytesLess]at h
 |[],_::_,_=>rfl
 |_::_,[],h=>by simp[Op.bytesLess]at h
 |a::p,b::q,h=>by
  unfold Op.bytesLess at h ⊢;rw[LC,rH,sZ,uQ]at h;rcases h with h|⟨rfl,h⟩
  ·(have h1:¬b<a:=fun h2=>by have:=UInt8.lt_iff_toNat_lt.1 h;have:=UInt8.lt_iff_toNat_lt.1 h2;omega);(have h2:b≠a:=fun e=>by subst e;exact absurd h bK);simp[h1,h2]
  simp[ab8 h]
def gV (m:Int):Bool:=decide (0<=m)&&decide (m<=511)
def pM (pre:List TN) (p:List UInt8):Int:=pre.foldl (fun k m=>if m.path=p then(if m.file= -1 then 1 else 2)else k) (if p=[]then 1 else 0)
theorem uI (pre:List TN) (n:TN) (p:List UInt8):pM (pre++[n]) p=if n.path=p then(if n.file= -1 then 1 else 2)else pM pre p:=by unfold pM;rw[M6];rfl
def iD (ns:List TN):Nat->List UInt8
 |0=>[]
 |i+1=>((ns[i]?).map (·.path)).getD []
def afJ (p q:List UInt8):Bool:=Op.bytesLess p q||p==q
def iL (pre:List TN) (last:List UInt8) (k:Nat) (n:TN):Bool:=
 ((((aU n.path&& !afJ n.path last)&&decide (pM pre (bA n.path)=1))&&decide (-1<=n.file))&&decide (n.file<=(k:Int)))&&(if n.file= -1 then gV n.mode else decide (n.mode=0))
def gK (k:Nat) (n:TN):Nat:=if n.file=(k:Int)then k+1 else k
def runK (ns:List TN):Nat->Option Nat
 |0=>some 0
 |i+1=>match runK ns i with
  |none=>none
  |some k=>match ns[i]? with
   |none=>some k
   |some n=>if iL (ns.take i) (iD ns i) k n=true then some (gK k n)else none
def gW (ns:List TN) (fs:List TF):Int:=if lJ ns fs=true then 31 else if runK ns ns.length=some fs.length/\fs.all (fun f=>gV f.mode)=true then 0 else 30
theorem qK {ns:List TN} {i k:Nat} {n:TN} (h:runK ns i=some k) (hn:ns[i]? =some n):runK ns (i+1)=if iL (ns.take i) (iD ns i) k n=true then some (gK k n)else none:=by
 show(match runK ns i with
  |none=>none
  |some k=>match ns[i]? with
   |none=>some k
   |some n=>if iL (ns.take i) (iD ns i) k n=true then some (gK k n)else none)=_
 rw[h];simp only;rw[hn]
theorem U3 {ns:List TN} {i:Nat} (h:runK ns i=none):∀j,runK ns (i+j)=none:=by
 intro j
 induction j with
 |zero=>exact h
 |succ j ih=>
  show(match runK ns (i+j)with
   |none=>none
   |some k=>match ns[i+j]? with
    |none=>some k
    |some n=>if iL (ns.take (i+j)) (iD ns (i+j)) k n=true then some (gK k n)else none)=none
  rw[ih]
theorem atI {ns:List TN} {fs:List TF} (hb:lJ ns fs=false) (h:runK ns ns.length=some fs.length) (h2:fs.all (fun f=>gV f.mode)=true):gW ns fs=0:=by unfold gW;rw[hb,if_neg aR,if_pos ⟨h,h2⟩]
theorem QD :∀ {p q:List UInt8},Op.bytesLess p q=false->p≠q->Op.bytesLess q p=true
 |[],[],_,h=>absurd rfl h
 |[],_::_,h,_=>by simp[Op.bytesLess]at h
 |_::_,[],_,_=>by simp[Op.bytesLess]
 |a::p,b::q,h,hne=>by
  unfold Op.bytesLess at h ⊢;rw[WG,Bool.and_eq_false_iff,adX]at h;obtain⟨h1,h2⟩:=h;by_cases e:a=b
  ·subst e;have h3:Op.bytesLess p q=false:=by
    rcases h2 with h2|h2
    ·simp at h2
    exact h2
   have:=QD h3 (fun e=>hne (by rw[e]));simp[this]
  (have h4:b<a:=by rw[UInt8.lt_iff_toNat_lt]at h1 ⊢;(have:a.toNat≠b.toNat:=fun h=>e (UInt8.toNat_inj.1 h));omega);simp[h4]
theorem ak0 {p q:List UInt8} (h:afJ p q=false):Op.bytesLess q p=true:=by unfold afJ at h;rw[WG]at h;exact QD h.1 (by simpa using h.2)
theorem pO :∀ {p q r:List UInt8},Op.bytesLess p q=true->Op.bytesLess q r=true->Op.bytesLess p r=true
 |_,_,[],_,h=>by cases ‹List UInt8› <;>simp[Op.bytesLess]at h
 |[],_,_::_,_,_=>by simp[Op.bytesLess]
 |_::_,[],_::_,h,_=>by simp[Op.bytesLess]at h
 |a::p,b::q,c::r,h1,h2=>by
  unfold Op.bytesLess at h1 h2 ⊢;rw[LC,rH,sZ,uQ]at h1 h2 ⊢;rcases h1 with h1|⟨rfl,h1⟩
  ·rcases h2 with h2|⟨rfl,h2⟩
   ·exact Or.inl (by rw[UInt8.lt_iff_toNat_lt]at*;omega)
   exact Or.inl h1
  rcases h2 with h2|⟨rfl,h2⟩
  ·exact Or.inl h2
  exact Or.inr ⟨rfl,pO h1 h2⟩
structure gQ (ns:List TN) (fs:List TF):Prop where
 few:ns.length<=256
 JX:fs.length<=256
 size:∀f∈fs,f.size<=8192
 aiC:∀f∈fs,gV f.mode=true
 run:runK ns ns.length=some fs.length
theorem QE (k:Nat) (n:TN):k<=gK k n:=by unfold gK;split<;>omega
theorem QF {ns:List TN}:∀ {j m:Nat},runK ns j=some m->∀i,i<j->∀n,ns[i]? =some n->∃k,runK ns i=some k/\iL (ns.take i) (iD ns i) k n=true/\gK k n<=m:=by
 intro j
 induction j with
 |zero=>intro m _ i hi;omega
 |succ j ih=>
  intro m h i hi n hn;cases hr:runK ns j with
  |none=>rw[U3 hr 1]at h;cases h
  |some k=>
   cases hj:ns[j]? with
   |none=>
    have hlt:=(gF.1 hn).1;have:ns.length<=j:=List.getElem?_eq_none_iff.1 hj;have h2:runK ns (j+1)=some k:=by
     show(match runK ns j with
      |none=>none
      |some k=>match ns[j]? with
       |none=>some k
       |some n=>if iL (ns.take j) (iD ns j) k n=true then some (gK k n)else none)=_
     rw[hr,hj]
    rw[h2]at h;cases h;exact ih hr i aI n hn
   |some nj=>
    rw[qK hr hj]at h;split at h
    ·rename_i ho;cases h;by_cases hij:i=j
     ·subst hij;rw[hj]at hn;cases hn;exact⟨k,hr,ho,iU _⟩
     obtain⟨k2,h1,h2,h3⟩:=ih hr i aI n hn;exact⟨k2,h1,h2,by have:=QE k nj;omega⟩
    cases h
theorem pQ {pre:List TN} {last:List UInt8} {k:Nat} {n:TN} (h:iL pre last k n=true):
  aU n.path=true/\Op.bytesLess last n.path=true/\pM pre (bA n.path)=1/\ -1<=n.file/\n.file<=(k:Int)/\(n.file= -1->gV n.mode=true)/\(n.file≠ -1->n.mode=0):=by
 unfold iL at h;simp only[rH,uQ,KE]at h;obtain⟨⟨⟨⟨⟨h1,h2⟩,h3⟩,h4⟩,h5⟩,h6⟩:=h;refine⟨h1,ak0 h2,h3,h4,h5,fun e=>?_,fun e=>?_⟩
 ·rw[if_pos e]at h6;exact h6
 rw[if_neg e]at h6;simpa using h6
theorem gQ.at_ {ns:List TN} {fs:List TF} (h:gQ ns fs) {i:Nat} {n:TN} (hn:ns[i]? =some n):
  aU n.path=true/\Op.bytesLess (iD ns i) n.path=true/\pM (ns.take i) (bA n.path)=1/\ -1<=n.file/\n.file<(fs.length:Int)/\(n.file= -1->gV n.mode=true)/\(n.file≠ -1->n.mode=0):=by
 obtain⟨k,h1,h2,h3⟩:=QF h.run i (gF.1 hn).1 n hn;obtain⟨a,b,c,d,e,f,g⟩:=pQ h2;refine⟨a,b,c,d,?_,f,g⟩;unfold gK at h3;split at h3<;>omega
theorem gQ.mem {ns:List TN} {fs:List TF} (h:gQ ns fs) {n:TN} (hn:n∈ns):
  aU n.path=true/\ -1<=n.file/\n.file<(fs.length:Int)/\(n.file= -1->gV n.mode=true)/\(n.file≠ -1->n.mode=0):=by
 obtain⟨i,hi⟩:=List.mem_iff_getElem?.1 hn;obtain⟨a,b,c,d,e,f,g⟩:=h.at_ hi;exact⟨a,d,e,f,g⟩
theorem gQ.up {ns:List TN} {fs:List TF} (h:gQ ns fs):ns.Pairwise fun a b=>Op.bytesLess a.path b.path=true:=by
 rw[DY];intro i j hi hj hij;obtain⟨d,rfl⟩:∃d,j=i+1+d:=⟨j-i-1,by omega⟩;clear hij
 induction d with
 |zero=>have:=(h.at_ (gE hj)).2.1;(have e:iD ns (i+1)=ns[i].path:=by(show((ns[i]?).map (·.path)).getD []=_);rw[gE hi];rfl);change Op.bytesLess (iD ns (i+1)) _=true at this;rw[e]at this;exact this
 |succ d ih=>have h1:=ih aI;have h2:=(h.at_ (gE hj)).2.1;(have e:iD ns (i+1+(d+1))=(ns[i+1+d]'aI).path:=by(show((ns[i+1+d]?).map (·.path)).getD []=_);rw[gE aI];rfl);rw[e]at h2;exact pO h1 h2
theorem gQ.ne {ns:List TN} {fs:List TF} (h:gQ ns fs):ns.Pairwise fun a b=>a.path≠b.path:=
 h.up.imp fun {a b} hl e=>by rw[e,lZ]at hl;cases hl
end Go.Proofs.YtmjomdkleikgbaaGreat
