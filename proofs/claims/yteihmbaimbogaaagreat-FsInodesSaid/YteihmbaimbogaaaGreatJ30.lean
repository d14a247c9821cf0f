/- Parts. -/
import Derived.Test.YteihmbaimbogaaaGreatJ29
set_option linter.unusedVariables false
set_option linter.unusedSimpArgs false
set_option maxRecDepth 100000
set_option maxHeartbeats 20000000
namespace Go.Proofs.YteihmbaimbogaaaGreat
def H9 (ns:List TN) (fs:List FT) (op:Int) (p q:List UInt8) (mode:Nat) (bs:List UInt8):Except Int (List TN×List FT):=
 if op=1 then(if zX ns p=0 then .ok (lJ ns fs 1 mode p,fs)else .error (zX ns p))
 else if op=2 then(match kQ ns (splitB p)with
  | .error e=>.error e
  | .ok n=>if n.file≠ -1 then .error 22 else if 0<iI ns (splitB p)then .error 25 else .ok (oC ns (splitB p),fs))
 else if op=3 then(match yV ns (splitB p)with
  | .error e=>.error e
  | .ok n=>if sO ns (splitB q)=0 then .ok (oC ns (splitB p)++[⟨q,n.file,0⟩],fs)else .error (sO ns (splitB q)))
 else if op=4 then(match yV ns (splitB p)with
  | .error e=>.error e
  | .ok n=>if sO ns (splitB q)=0 then(if ns.length<256 then .ok (ns++[⟨q,n.file,0⟩],fs)else .error 31)else .error (sO ns (splitB q)))
 else if op=5 then(match yV ns (splitB p)with
  | .error e=>.error e
  | .ok n=>.ok (oC ns (splitB p),fs))
 else if op=6 then(if zX ns p=0 then .ok (lJ ns fs 2 mode p,zY fs 2 mode bs)else .error (zX ns p))
 else if op=7 then(match yV ns (splitB p)with
  | .error e=>.error e
  | .ok n=>if sO ns (splitB q)=0 then(if ns.length<256 then .ok (lJ ns fs 2 mode q,zY fs 2 mode (nI fs n.file))else .error 31)else .error (sO ns (splitB q)))
 else if op=8 then(match kQ ns (splitB p)with
  | .error e=>.error e
  | .ok n=>if n.file= -1 then .ok (⟨n.path, -1,mode⟩::oC ns (splitB p),fs)else .ok (ns,fs.set n.file.toNat ⟨mode,nI fs n.file⟩))
 else .error 0
def AsT (φ:Int->Nat) (m:Nat) (S:VS) (r:Except Int (Option VS)):Except Int (List TN×List FT)->Prop
 | .error e=>r= .error e
 | .ok T=>DC φ m S r T.1 T.2
section
variable {S:VS} {g:LT} {ns:List TN} {fs:List FT} {dn:Key->Nat} {φ:Int->Nat}
theorem xC {K:Key} {n:TN} (h:kQ ns K= .ok n):GL ns K= .ok (some n):=by
 unfold kQ at h;cases ha:GL ns K with
 |error e=>rw[ha]at h;cases h
 |ok y=>
  cases y with
  |none=>rw[ha]at h;cases h
  |some m=>rw[ha]at h;cases h;rfl
theorem QN {K:Key} {n:TN} (h:yV ns K= .ok n):GL ns K= .ok (some n)/\n.file≠ -1:=by
 unfold yV at h;cases ha:kQ ns K with
 |error e=>rw[ha]at h;cases h
 |ok m=>
  rw[ha]at h;simp only at h;by_cases hf:m.file= -1
  ·rw[if_pos hf]at h;cases h
  rw[if_neg hf]at h;cases h;exact⟨xC ha,hf⟩
theorem acH {K:Key} (h:sO ns K=0):GL ns K= .ok none:=by
 unfold sO at h;cases ha:GL ns K with
 |error e=>rw[ha]at h;have:=vQ ha;simp only at h;omega
 |ok y=>
  cases y with
  |none=>rfl
  |some m=>rw[ha]at h;cases h
theorem Vt.bytes (h:Vt S ns fs g dn φ) {n:TN} (hn:n∈ns) (hf:n.file≠ -1):nI fs n.file=(g (φ n.file)).data:=by obtain⟨_,_,_,⟨f,h4,_,h6⟩,_⟩:=h.rep.file n hn hf;unfold nI;rw[h4];exact h6.symm
theorem Vt.CE (h:Vt S ns fs g dn φ) {p:List UInt8} {n:TN} (ha:GL ns (splitB p)= .ok (some n)):bB S.cur S.data 0 0 (splitB p)=((dn (splitB p).dropLast:Int),(dD dn φ n:Int),0):=by have:=h.look p;rw[ha]at this;exact this
theorem Vt.agJ (h:Vt S ns fs g dn φ) {p:List UInt8} (ha:GL ns (splitB p)= .ok none):bB S.cur S.data 0 0 (splitB p)=((dn (splitB p).dropLast:Int), -1,0):=by have:=h.look p;rw[ha]at this;exact this
theorem XW {n:TN} (hf:n.file≠ -1):dD dn φ n=φ n.file:=by unfold dD;rw[if_neg hf]
theorem ayV {n:TN} (hf:n.file= -1):dD dn φ n=dn (bW n):=by unfold dD;rw[if_pos hf]
theorem Vt.aB0 (h:Vt S ns fs g dn φ) {op:Int} {p q:List UInt8} {mode:Nat} {bs:List UInt8} (hv:aU p=true)
  (GN:op=3\/op=4\/op=7->aU q=true) (hm:mode<65536) (hb:op=6->bs.length<=8192):atG S op p q mode bs:=by
 refine⟨fun _ d hd hn=>?_,fun _ d m hm hd hk hz=>?_,fun e d m d2 hm hd hk he=>?_,fun e d m d2 hm hd hk he hn=>?_,fun _ d m hm hd hk=>?_,fun e d hd hn=>?_,fun e d m d2 hmm hd hk he hn=>?_,fun _ hm5=>⟨h.iJ.ph.sw,fun d m hmm hd=>?_⟩⟩
 ·exact(h.new (kind:=1) (bs:=[]) (.inl ⟨rfl,rfl⟩) hv (eZ hv) hm aQ).1 d hd hn
 ·obtain⟨n,ha,rfl,rfl⟩:=h.z8 hd;obtain⟨hP,hno,_⟩:=jH (S:=S) h.rep ha;have hn:=fF hno.symm;have hf:=(h.O3 hn.1).1 hk;rw[ayV hf,hn.2]at hz ⊢;have hD:fE ns (splitB p):=.inr ⟨n,hn.1,hn.2,hf⟩;have h1:=(h.rep.yI hD).2;rw[<-h.iJ.ph.size (h.rep.ET hD).1,hz]at h1;exact(h.rmdir hv hno.symm hP hf (zC h1.symm)).2
 ·obtain⟨n,ha,rfl,rfl⟩:=h.z8 hd;obtain⟨hP,hno,_⟩:=jH (S:=S) h.rep ha;obtain⟨hb2,rfl⟩:=h.ZO he;obtain⟨hQ,dC,_⟩:=jH (S:=S) h.rep hb2;have hn:=fF hno.symm;(have hf:n.file≠ -1:=fun e=>hk ((h.O3 hn.1).2 e));rw[XW hf];exact(h.rename hv (GN aD) hno.symm hP hf hQ dC.symm).2
 ·obtain⟨n,ha,rfl,rfl⟩:=h.z8 hd;obtain⟨hP,hno,_⟩:=jH (S:=S) h.rep ha;obtain⟨hb2,rfl⟩:=h.ZO he;obtain⟨hQ,dC,_⟩:=jH (S:=S) h.rep hb2;have hnm:=fF hno.symm;(have hf:n.file≠ -1:=fun e=>hk ((h.O3 hnm.1).2 e));rw[XW hf];have:=h.nodes;exact(h.link (GN aD) hnm.1 hf hQ dC.symm aD).2
 ·obtain⟨n,ha,rfl,rfl⟩:=h.z8 hd;obtain⟨hP,hno,_⟩:=jH (S:=S) h.rep ha;have hn:=fF hno.symm;(have hf:n.file≠ -1:=fun e=>hk ((h.O3 hn.1).2 e));rw[XW hf];exact(h.auJ hv hno.symm hP hf).2
 ·exact(h.new (kind:=2) (bs:=bs) (.inr rfl) hv (eZ hv) hm (hb e)).1 d hd hn
 ·obtain⟨n,ha,rfl,rfl⟩:=h.z8 hd;obtain⟨hP,hno,_⟩:=jH (S:=S) h.rep ha;have hnm:=fF hno.symm;(have hf:n.file≠ -1:=fun e=>hk ((h.O3 hnm.1).2 e));obtain⟨_,hj1,hj2,_⟩:=h.rep.file n hnm.1 hf;have hd2:=h.iJ.ph.data _ hj1 hj2;rw[XW hf]at hk ⊢;refine⟨h.iJ.atN _ hj1 hk,?_⟩;rw[hd2];exact(h.new (kind:=2) (bs:=(g (φ n.file)).data) (.inr rfl) (GN aD) (eZ (GN aD)) hm (h.iJ.ph.fair _ hj1).short).1 d2 he hn
 have:=h.UW hmm hm5;exact Z31
theorem Vt.act (h:Vt S ns fs g dn φ) {op:Int} {p q:List UInt8} {mode:Nat} {bs:List UInt8} (hv:aU p=true)
  (GN:op=3\/op=4\/op=7->aU q=true) (hm:op=1\/op=6\/op=7\/op=8->mode<=511) (hb:op=6->bs.length<=8192):AsT φ fs.length S (NA S op p q mode bs) (H9 ns fs op p q mode bs):=by
 unfold NA H9;by_cases h1:op=1
 ·simp only[if_pos h1];rcases(h.new (kind:=1) (mode:=mode) (bs:=[]) (.inl ⟨rfl,rfl⟩) hv (eZ hv) (by have:=hm (.inl h1);omega) aQ).2 with⟨h2,h3⟩|⟨h2,h3⟩
  ·rw[if_neg h2];exact h3
  rw[if_pos h2];exact h3
 simp only[if_neg h1];by_cases h2:op=2
 ·simp only[if_pos h2];unfold TY;rw[h.something p];cases ha:kQ ns (splitB p)with
  |error e=>exact rfl
  |ok n=>
   have ha2:=xC ha;obtain⟨hP,hno,_⟩:=jH (S:=S) h.rep ha2;have hnm:=fF hno.symm;simp only;rw[h.CE ha2];simp only[nA];by_cases hf:n.file= -1
   ·rw[if_neg (show ¬(aH S.cur (dD dn φ n)).kind≠1 from fun e=>e ((h.O3 hnm.1).2 hf)),if_neg (show ¬n.file≠ -1 from fun e=>e hf)];have hD:fE ns (splitB p):=.inr ⟨n,hnm.1,hnm.2,hf⟩;have hz:=(h.rep.yI hD).2;rw[<-h.iJ.ph.size (h.rep.ET hD).1]at hz;rw[ayV hf,hnm.2,hz];by_cases hk:0<iI ns (splitB p)
    ·rw[if_pos hk,if_pos hk];exact rfl
    rw[if_neg hk,if_neg hk];exact(h.rmdir hv hno.symm hP hf (zC (by unfold iI at hk;omega))).1
   rw[if_pos (show(aH S.cur (dD dn φ n)).kind≠1 from fun e=>hf ((h.O3 hnm.1).1 e)),if_pos hf];exact rfl
 simp only[if_neg h2];by_cases h3:op=3
 ·simp only[if_pos h3];unfold K6;rw[h.fileOf p];cases ha:yV ns (splitB p)with
  |error e=>exact rfl
  |ok n=>
   obtain⟨ha2,hf⟩:=QN ha;obtain⟨hP,hno,_⟩:=jH (S:=S) h.rep ha2;simp only;rw[h.nothing q];by_cases hva:sO ns (splitB q)=0
   ·rw[if_pos hva,if_pos hva];have hb2:=acH hva;obtain⟨hQ,dC,_⟩:=jH (S:=S) h.rep hb2;simp only;rw[h.CE ha2,h.agJ hb2];simp only[nA];rw[XW hf];exact(h.rename hv (GN aD) hno.symm hP hf hQ dC.symm).1
   rw[if_neg hva,if_neg hva];exact rfl
 simp only[if_neg h3];by_cases h4:op=4
 ·simp only[if_pos h4];unfold afR;rw[h.fileOf p];cases ha:yV ns (splitB p)with
  |error e=>exact rfl
  |ok n=>
   obtain⟨ha2,hf⟩:=QN ha;obtain⟨hP,hno,_⟩:=jH (S:=S) h.rep ha2;have hnm:=fF hno.symm;simp only;rw[h.nothing q];by_cases hva:sO ns (splitB q)=0
   ·rw[if_pos hva,if_pos hva];have hb2:=acH hva;obtain⟨hQ,dC,_⟩:=jH (S:=S) h.rep hb2;simp only;have hnn:=h.nodes;by_cases hr:ns.length<256
    ·rw[if_pos (show S.nodes<256 by omega),if_pos hr,h.CE ha2,h.agJ hb2];simp only[nA];rw[XW hf];exact(h.link (GN aD) hnm.1 hf hQ dC.symm hr).1
    rw[if_neg (show ¬S.nodes<256 by omega),if_neg hr];exact rfl
   rw[if_neg hva,if_neg hva];exact rfl
 simp only[if_neg h4];by_cases h5:op=5
 ·simp only[if_pos h5];unfold K5;rw[h.fileOf p];cases ha:yV ns (splitB p)with
  |error e=>exact rfl
  |ok n=>obtain⟨ha2,hf⟩:=QN ha;obtain⟨hP,hno,_⟩:=jH (S:=S) h.rep ha2;simp only;rw[h.CE ha2];simp only[nA];rw[XW hf];exact(h.auJ hv hno.symm hP hf).1
 simp only[if_neg h5];by_cases h6:op=6
 ·simp only[if_pos h6];rcases(h.new (kind:=2) (mode:=mode) (bs:=bs) (.inr rfl) hv (eZ hv) (by have:=hm (.inr (.inl h6));omega) (hb h6)).2 with⟨h7,h8⟩|⟨h7,h8⟩
  ·rw[if_neg h7];exact h8
  rw[if_pos h7];exact h8
 simp only[if_neg h6];by_cases h7:op=7
 ·simp only[if_pos h7];unfold atD;rw[h.fileOf p];cases ha:yV ns (splitB p)with
  |error e=>exact rfl
  |ok n=>
   obtain⟨ha2,hf⟩:=QN ha;obtain⟨hP,hno,_⟩:=jH (S:=S) h.rep ha2;have hnm:=fF hno.symm;obtain⟨_,hj1,hj2,_⟩:=h.rep.file n hnm.1 hf;have hd2:=h.iJ.ph.data _ hj1 hj2;have hnw:=(h.new (kind:=2) (mode:=mode) (p:=q) (bs:=(g (φ n.file)).data) (.inr rfl) (GN aD) (eZ (GN aD)) (by have:=hm aD;omega) (h.iJ.ph.fair _ hj1).short).2;simp only;rw[h.CE ha2];simp only[nA];rw[XW hf,hd2,h.bytes hnm.1 hf];unfold M9 at hnw;rw[h.nothing q]at hnw ⊢;unfold zX at hnw;by_cases hva:sO ns (splitB q)=0
   ·have hb2:=acH hva;rw[if_pos hva]at hnw ⊢;rw[if_pos hva];simp only[hb2]at hnw ⊢;have hnn:=h.nodes;by_cases hr:ns.length<256
    ·simp only[if_pos hr,if_pos (show S.nodes<256 by omega)]at hnw ⊢;rcases hnw with⟨h8,_⟩|⟨_,h9⟩
     ·exact absurd rfl h8
     exact h9
    simp only[if_neg hr,if_neg (show ¬S.nodes<256 by omega)]at hnw ⊢;exact rfl
   rw[if_neg hva,if_neg hva];exact rfl
 simp only[if_neg h7];by_cases h8:op=8
 ·simp only[if_pos h8];unfold TS;rw[h.something p];cases ha:kQ ns (splitB p)with
  |error e=>exact rfl
  |ok n=>
   have ha2:=xC ha;obtain⟨hP,hno,_⟩:=jH (S:=S) h.rep ha2;have hnm:=fF hno.symm;simp only;rw[h.CE ha2];simp only[nA];by_cases hf:n.file= -1
   ·rw[if_pos hf,ayV hf];have:=h.auL hnm.1 hf (hm aD);rw[hnm.2]at this ⊢;exact this
   rw[if_neg hf,XW hf,h.bytes hnm.1 hf];exact h.apR hnm.1 hf (hm aD)
 simp only[if_neg h8];exact rfl
end
open Go.RowKit
theorem sF (x:Int) (w:World):Calls Tryz.prog 16 #[iV x] w fun e w'=>e= .returned (iV x)/\w=w':=by go_enter Tryz.func16,Tryz.ntmps16;go_wp2;go_ret;exact⟨rfl,rfl⟩
section
variable {w0 w:World} {R:List bK}
theorem ZR {b i n:Nat} (hn:n=98+(i+7)/8+b) (hb:1<=b) (hn4:n<=4096) (hi:2<=i) (hi2:i<=1024) (h:Sep w0 w R):
  Calls Tryz.prog 13 #[iV b,iV i] w fun e w'=>∃f q p,e= .returned (.tuple #[pV p,pV f,.bool true])/\Sep w0 w' (bI f q p (VS.new n i)::R):=by
 have hnew:Hid (∀W,Sep w0 W R->Calls Tryz.prog 32 #[iV n] W fun e w'=>∃p,e= .returned (.tuple #[pV p,iV 0])/\Sep w0 w' (aN p (DK.fresh n)::R)):=Lh fun W hW=>ayQ aD hn4 hW
 have hfmt:Hid (∀W p,Sep w0 W (aN p (DK.fresh n)::R)->Calls Tryz.prog 34 #[pV p,iV i] W fun e w'=>∃f q,e= .returned (.tuple #[pV f,iV 0])/\Sep w0 w' (bI f q p (VS.new n i)::R)):=Lh fun W p hW=>akE aD hn4 hi hi2 hW
 have q0:(1:Int)<=b:=by omega
 have q1:(n:Int)<=4096:=by omega
 have q2:(2:Int)<=i:=by omega
 have q3:(i:Int)<=1024:=by omega
 have e0:Int.tdiv ((i:Int)+7) 8=((i+7)/8:Nat):=by rw[adU aD];omega
 obtain⟨P,hP⟩:∃P,P=(i+7)/8:=⟨_,rfl⟩;rw[<-hP]at hn e0;have q4:(P:Int)<=129:=by omega
 have e1:(98:Int)+(P:Int)+b=n:=by omega
 have w1:IntKind.i64.wrap ((i:Int)+7)=(i:Int)+7:=IntWalk.i64_in _ aD;have w2:IntKind.i64.wrap ((98:Int)+P)=(98:Int)+P:=IntWalk.i64_in _ aD;have w3:IntKind.i64.wrap ((98:Int)+P+b)=n:=by rw[e1];exact IntWalk.i64_in _ aD
 have h1:=Lh h;have w4:IntKind.i64.wrap (P:Int)=P:=IntWalk.i64_in _ aD;clear hn hb hn4 hi hi2 h hP;go_enter Tryz.func13,Tryz.ntmps13;go_wp2_with(first |(go_at_call 32;refine(hnew.out _ h1.out).mono ?_;rintro e wn ⟨p,rfl,hS⟩;have h2:=Lh hS;clear hS h1 hnew)|(go_at_call 34;refine(hfmt.out _ _ h2.out).mono ?_;rintro e wf ⟨f,q,rfl,hS⟩;have h3:=Lh hS;clear hS h2 hfmt)|(go_at_call 16;refine(sF _ _).mono ?_;rintro e w2 ⟨rfl,rfl⟩))
 go_ret3
 exact⟨f,q,p,rfl,h3.out⟩
end
section
variable {w0 w:World} {R:List bK} {f q p:Nat} {S:VS} {ns:List TN} {fs:List FT} {nb names:Nat}
structure kH (S:VS) (ns:List TN) (fs:List FT) (nb names:Nat):Prop where
 iJ:ab8 S ns fs nb names
 off:S.D.off=false
 left:S.D.left= -1
theorem agK {n names:Nat} (h0:98+(names+7)/8<n) (h1:n<=4096) (h2:2<=names) (h3:names<=1024):kH (VS.new n names) [] [] n names:=
 ⟨⟨rfl,rfl,_,_,_,auG h0 h1 h2 h3⟩,(LU n names).2.1,(LU n names).2.2⟩
theorem kH.base (h:kH S ns fs nb names):kH S.base ns fs nb names:=⟨h.iJ.base,h.off,h.left⟩
theorem kH.ends {r:Except Int (Option VS)} {ns':List TN} {fs':List FT} {x:Int} {g:LT} {dn:Key->Nat} {φ:Int->Nat} (hL:kH S ns fs nb names) (hV:Vt S.base ns fs g dn φ) (hok:S.D.ok S.nb) (J9:96<S.nb) (hD:DC φ fs.length S.base r ns' fs') (h:oJ f q p S.base r w0 w R x):
  if yK nb names ns' fs'=true then x=0/\∃S',kH S' ns' fs' nb names/\apQ S S' ns' fs' φ fs.length/\Sep w0 w (bI f q p S'::R)
  else x=27/\∃S',kH S' ns fs nb names/\apQ S S' ns fs φ fs.length/\Sep w0 w (bI f q p S'::R):=by
 have h1:=hL.iJ.ends hV hok J9 hD h;split
 ·rename_i hf;rw[if_pos hf]at h1;rcases h1 with⟨hx,S',hV',hI,hl,hS⟩|⟨_,h2,_⟩
  ·obtain⟨l1,l2⟩:=hl hL.off (by rw[hL.left];decide);exact⟨hx,S',⟨hV',l1,l2.trans hL.left⟩,hI,hS⟩
  exact absurd ⟨hL.off,by rw[hL.left];decide⟩ h2
 rename_i hf;rw[if_neg hf]at h1;exact⟨h1.1,S.base,hL.base,⟨.inl rfl,g,dn,φ,hV,fun _ _=>rfl⟩,h1.2⟩
theorem aDM {path tz:List UInt8} {mode:Nat} {kk:Int} (hL:kH S ns fs nb names) (hp:path.length<=1048576) (ht:tz.length<=1048576) (hm:mode<=511) (hv:aU path=true) (hne:path≠[])
  (h:Sep w0 w (bI f q p S::R)):
  Calls Tryz.prog 14 #[pV f,.agg #[iV 1,aC path,aC tz,iV mode,iV kk],.slice none 0 0] w fun e w'=>∃x,e= .returned (iV x)/\
   (if zX ns path=0 then(if yK nb names (lJ ns fs 1 mode path) fs=true then x=0/\∃S',kH S' (lJ ns fs 1 mode path) fs nb names/\Sep w0 w' (bI f q p S'::R)else x=27/\∃S',kH S' ns fs nb names/\Sep w0 w' (bI f q p S'::R))
    else x=zX ns path/\∃S',kH S' ns fs nb names/\Sep w0 w' (bI f q p S'::R)):=by
 obtain⟨g,dn,φ,hV⟩:=hL.iJ.vt
 have hok:=zS h
 have J9:=LV h
 have hck:H8 1 path tz mode kk 0 ([]:List UInt8).length=0:=by unfold H8 uW;have e1:(dA 1).2.2=true:=rfl;have e2:(dA 1).1=false:=rfl;rw[e1,e2,if_neg aQ,if_neg aQ,if_neg aD,if_neg (by simp[hne]),if_neg (by simp[hv]),if_pos aQ]
 have hN:=hV.new (kind:=1) (mode:=mode) (p:=path) (bs:=[]) (.inl ⟨rfl,rfl⟩) hv hp aD aQ
 have hmn:((mode:Nat):Int).toNat=mode:=nA _
 refine(aCT (op:=1) (mode:=mode) (kk:=kk) (path:=path) (tz:=tz) (bs:=[]) (A:=none) (n:=0) (c:=0) aD aD aQ aQ hL.off (.inl rfl) (fun k _ hlt=>absurd hlt (XB _)) hV.iJ.vw (fun _=>?_) h).mono ?_
 ·rw[hmn];exact⟨fun _=>hN.1,fun e=>absurd e aQ,fun e=>absurd e aQ,fun e=>absurd e aQ,fun e=>absurd e aQ,fun e=>absurd e aQ,fun e=>absurd e aQ,fun e=>absurd e aQ⟩
 ·rintro e w' ⟨x,rfl,hE⟩;refine⟨x,rfl,?_⟩;unfold doR NA at hE;rw[if_pos hck,if_pos rfl,hmn]at hE;rcases hN.2 with⟨hne0,hr⟩|⟨h0,hD⟩
  ·rw[if_neg hne0];rw[hr]at hE;exact⟨hE.1,S.base,hL.base,hE.2⟩
  rw[if_pos h0];have hX:=hL.ends hV hok J9 hD hE;split at hX
  ·rename_i hf;obtain⟨x1,S',x2,_,x3⟩:=hX;rw[if_pos (show yK nb names (lJ ns fs 1 mode path) fs=true from hf)];exact⟨x1,S',x2,x3⟩
  rename_i hf;obtain⟨x1,S',x2,_,x3⟩:=hX;rw[if_neg (show ¬yK nb names (lJ ns fs 1 mode path) fs=true from hf)];exact⟨x1,S',x2,x3⟩
def aB1 (ns:List TN):List (List UInt8):=(iR ns []).map fun n=>(bW n).getLastD []
theorem kH.root (hL:kH S ns fs nb names):VW S.base/\(aH S.base.cur 0).kind=1/\qX S.base []=0/\(sD S.base []).Perm (aB1 ns)/\(sD S.base []).Pairwise fun x y=>x<=y:=by
 obtain⟨g,dn,φ,hV⟩:=hL.iJ.vt;have hk:=hV.iJ.aHY;have hx:qX S.base []=0:=by unfold qX;rw[if_pos rfl,if_pos hk]
 have hn:sD S.base []=DD ((g 0).bJ.map (·.1)):=by unfold sD atV;rw[if_pos hx,if_pos rfl,hV.iJ.ph.bJ 0 hV.iJ.ph.n0 hV.iJ.root]
 refine⟨hV.iJ.vw,hk,hx,?_,?_⟩
 ·rw[hn];refine(UL _).trans ?_;have:=hV.rep.bJ [] (.inl rfl);rw[hV.rep.root]at this;have h2:=this.map (·.1);rw[DR]at h2;exact h2
 rw[hn];exact atU _
theorem aIU (hL:kH S ns fs nb names) (h:Sep w0 w (bI f q p S::R)):
  Calls Tryz.prog 23 #[pV f,aC []] w fun e w'=>∃v l S',e= .returned (.tuple #[v,iV 0])/\l.Perm (aB1 ns)/\(l.Pairwise fun x y=>x<=y)/\kH S' ns fs nb names/\Sep w0 w' (sW v l::bI f q p S'::R):=by
 obtain⟨h1,h2,h3,h4,h5⟩:=hL.root;refine(atW (path:=[]) aQ hL.off h1 h2 h).mono ?_;rintro e w' ⟨v,rfl,hS⟩;rw[h3];exact⟨v,_,S.base,rfl,h4,h5,hL.base,hS⟩
theorem Z48 {P:Prop} (h:P:=by
 have:=hV.iJ.rB;rw[show S.rB=S.base.rB from rfl,this];show((S.nb-96-(2+(S.names+7)/8):Nat):Int)=_
 rw[hL.iJ.nm,hL.iJ.nbe];rfl):P:=h
theorem aIV (hL:kH S ns fs nb names) (h:Sep w0 w (bI f q p S::R)):
  Calls Tryz.prog 17 #[pV f] w fun e w'=>e= .returned (iH (sZ nb names-zV ns fs) (names-sU ns))/\∃n,w'=w.drewN n:=by
 obtain⟨g,dn,φ,hV⟩:=hL.iJ.vt;have hok:=zS h;have hwB:S.wB=zV ns fs:=hV.wB;have hwI:S.wI=sU ns:=hV.wI;have hrB:S.rB=sZ nb names:=by exact Z48
 have hrI:S.rI=names:=by have:=hV.iJ.rI;rw[show S.rI=S.base.rI from rfl,this];(show(S.names:Int)=_);rw[hL.iJ.nm]
 have h1:=hV.iJ.ph.aj0;have h2:=hV.iJ.ph.rZ;have h4:nb<=4096:=by have:=hok.few;rw[hL.iJ.nbe]at this;exact this
 have h5:sZ nb names<=4096:=by unfold sZ;omega
 have h6:S.base.names=names:=hL.iJ.nm;have e1:S.base.wB=S.wB:=rfl;have e2:S.base.wI=S.wI:=rfl;rw[e1,e2]at h1;have:=apA (S:=S) (pY aD aD) (pY aD aD) (pY aD aD) (pY aD aD) (pY aD aD) (pY aD aD) h;rw[hrB,hrI,hwB,hwI]at this;exact this
theorem aIW (hL:kH S ns fs nb names) (h:Sep w0 w (bI f q p S::R)):
  Calls Tryz.prog 31 #[pV f] w fun e w'=>e= .returned (iH (sZ nb names) names)/\w'=w:=by
 obtain⟨g,dn,φ,hV⟩:=hL.iJ.vt;have hrB:S.rB=sZ nb names:=by exact Z48
 have hrI:S.rI=names:=by have:=hV.iJ.rI;rw[show S.rI=S.base.rI from rfl,this];(show(S.names:Int)=_);rw[hL.iJ.nm]
 have:=ao9 h;rw[hrB,hrI]at this;exact this
theorem auQ {v:Value} {s:List UInt8} (hS:Sep w0 w (sW v [s]::R)):∃g c,v=sV g 1 c/\w.cell? ⟨g,0,none⟩=some (aC s):=by unfold sW at hS;obtain⟨g,c,rfl,_⟩:=hS.iU 0 rfl Nat.one_pos;refine⟨g,c,rfl,?_⟩;have:=hS.cellAt 0 rfl 0 Nat.one_pos;exact this
theorem auR {l:List (List UInt8)} {s:List UInt8} (h:l.Perm [s]):l=[s]:=List.perm_singleton.1 h
theorem ayW :iH (sZ 110 16) 16= .complex .f64 4621819117588971520 4625196817309499392:=by kernel_rfl
theorem aDN :iH (sZ 110 16-zV (lJ [] [] 1 493 [97]) []) (16-sU (lJ [] [] 1 493 [97]))= .complex .f64 4620693217682128896 4624070917402656768:=by kernel_rfl
theorem akN (h:Sep w0 w R):Calls Tryz.prog 12 #[] w fun e w'=>e= .returned (.bool true)/\Sep w0 w' R:=by
 have hfr:=Lh (ZR (b:=10) (i:=16) (n:=110) rfl aQ aQ aQ aQ h);have hL0:=agK (n:=110) (names:=16) aQ aQ aQ aQ;obtain⟨S0,hS0⟩:∃S0,S0=VS.new 110 16:=⟨_,rfl⟩;rw[<-hS0]at hfr hL0;have hrm:Hid (∀W f q p,Sep w0 W (bI f q p S0::R)->Calls Tryz.prog 31 #[pV f] W fun e w'=>e= .returned (.complex .f64 4621819117588971520 4625196817309499392)/\W=w'):=Lh fun W f q p hW=>(aIW hL0 hW).mono fun e w' ⟨h1,h2⟩=>⟨h1.trans (congrArg _ ayW),h2.symm⟩
 have hmk:Hid (∀W f q p,Sep w0 W (bI f q p S0::R)->Calls Tryz.prog 14 #[pV f,.agg #[iV 1,.string ⟨#[97]⟩,.string ⟨#[]⟩,iV 493,iV 0],.slice none 0 0] W fun e w'=>e= .returned (iV 0)/\∃S',kH S' (lJ [] [] 1 493 [97]) [] 110 16/\Sep w0 w' (bI f q p S'::R)):=Lh fun W f q p hW=>
  (aDM (path:=[97]) (tz:=[]) (mode:=493) (kk:=0) hL0 aQ aQ aQ aQ aQ hW).mono fun e w' ⟨x,h1,h2⟩=>by rw[if_pos kC,if_pos kC]at h2;exact⟨by rw[h1,h2.1],h2.2⟩
 have hls:Hid (∀W f q p S',kH S' (lJ [] [] 1 493 [97]) [] 110 16->Sep w0 W (bI f q p S'::R)->Calls Tryz.prog 23 #[pV f,.string ⟨#[]⟩] W fun e w'=>∃g c S'',e= .returned (.tuple #[sV g 1 c,iV 0])/\w'.cell? ⟨g,0,none⟩=some (.string ⟨#[97]⟩)/\kH S'' (lJ [] [] 1 493 [97]) [] 110 16/\Sep w0 w' (bI f q p S''::R)):=Lh fun W f q p S' hL hW=>
  (aIU hL hW).mono fun e w' ⟨v,l,S'',h1,h2,_,h4,h5⟩=>by have e1:l=[[97]]:=auR h2;subst e1;obtain⟨g,c,rfl,hc⟩:=auQ h5;exact⟨g,c,S'',h1,hc,h4,h5.drop 1⟩
 have hfe:Hid (∀W f q p S',kH S' (lJ [] [] 1 493 [97]) [] 110 16->Sep w0 W (bI f q p S'::R)->Calls Tryz.prog 17 #[pV f] W fun e w'=>e= .returned (.complex .f64 4620693217682128896 4624070917402656768)/\∃n,w'=W.drewN n):=Lh fun W f q p S' hL hW=>
  (aIV hL hW).mono fun e w' ⟨h1,h2⟩=>⟨h1.trans (congrArg _ aDN),h2⟩
 clear hS0 hL0 h;go_enter Tryz.func12,Tryz.ntmps12;go_wp2_with(first |(go_at_call 13;refine hfr.out.mono ?_;rintro e wn ⟨f,q,p,rfl,hS⟩;have h1:=Lh hS;clear hS hfr)|(go_at_call 31;refine(hrm.out _ _ _ _ h1.out).mono ?_;rintro e wr ⟨rfl,rfl⟩)|(go_at_call 14;refine(hmk.out _ _ _ _ h1.out).mono ?_;rintro e wm ⟨rfl,S1,hL1,hS⟩;have h2:=Lh hS;have hL2:=Lh hL1;clear hS hL1 h1 hmk hrm)|(go_at_call 23;refine(hls.out _ _ _ _ _ hL2.out h2.out).mono ?_;rintro e wl ⟨g,c,S2,rfl,hc,hL,hS⟩;have h3:=Lh hS;have hL3:=Lh hL;clear hS hL h2 hL2 hls)|(go_at_call 17;refine(hfe.out _ _ _ _ _ hL3.out h3.out).mono ?_;rintro e we ⟨rfl,nn,rfl⟩)|(go_at_call 16;refine(sF _ _).mono ?_;rintro e w2 ⟨rfl,rfl⟩));go_ret;exact⟨rfl,(h3.out.drop 1).drewN _⟩
end
structure auS where
 e:Int
 ns:List TN
 fs:List FT
def vF (nb names:Nat) (ns:List TN) (fs:List FT):Except Int (List TN×List FT)->auS
 | .error k=>⟨k,ns,fs⟩
 | .ok T=>if yK nb names T.1 T.2=true then⟨0,T.1,T.2⟩else⟨27,ns,fs⟩
def IA (nb names:Nat) (ns:List TN) (fs:List FT) (op:Int) (p q:List UInt8) (mode kk:Int) (n:Nat) (bs:List UInt8):auS:=
 if H8 op p q mode kk n bs.length=0 then vF nb names ns fs (if op=9 then .error 0 else H9 ns fs op p q mode.toNat bs)else⟨H8 op p q mode kk n bs.length,ns,fs⟩
def DY (nb names:Nat) (ns:List TN) (fs:List FT) (p bs:List UInt8):auS:=
 vF nb names ns fs (if ab9 ns p bs.length=0 then .ok (UR ns fs p,agG ns fs p bs)else .error (ab9 ns p bs.length))
section
variable {w0 w:World} {R:List bK} {f q p:Nat} {S:VS} {ns:List TN} {fs:List FT} {nb names:Nat}
theorem kH.asT {r:Except Int (Option VS)} {A:Except Int (List TN×List FT)} {x:Int} {g:LT} {dn:Key->Nat} {φ:Int->Nat} (hL:kH S ns fs nb names) (hV:Vt S.base ns fs g dn φ) (hok:S.D.ok S.nb) (J9:96<S.nb) (hA:AsT φ fs.length S.base r A) (h:oJ f q p S.base r w0 w R x):
  x=(vF nb names ns fs A).e/\∃S',kH S' (vF nb names ns fs A).ns (vF nb names ns fs A).fs nb names/\apQ S S' (vF nb names ns fs A).ns (vF nb names ns fs A).fs φ fs.length/\Sep w0 w (bI f q p S'::R):=by
 cases A with
 |error k=>have hr:r= .error k:=hA;rw[hr]at h;exact⟨h.1,S.base,hL.base,⟨.inl rfl,g,dn,φ,hV,fun _ _=>rfl⟩,h.2⟩
 |ok T=>
  have h1:=hL.ends hV hok J9 hA h;unfold vF;simp only;split
  ·rename_i hf;rw[if_pos hf]at h1;exact h1
  rename_i hf;rw[if_neg hf]at h1;exact h1
theorem doI {g:LT} {dn:Key->Nat} {φ:Int->Nat} {op mode kk:Int} {path tz bs:List UInt8} {A:Option Addr} {n c:Nat} (hL:kH S ns fs nb names) (hV:Vt S.base ns fs g dn φ) (hp:path.length<=9223372036854775807) (ht:tz.length<=9223372036854775807) (hn:n<=9223372036854775807) (hlen:bs.length<=9223372036854775807)
  (hop: -9223372036854775808<=op/\op<=9223372036854775807) (hst:GG w0 R A n kk bs) (h:Sep w0 w (bI f q p S::R)):
  Calls Tryz.prog 14 #[pV f,.agg #[iV op,aC path,aC tz,iV mode,iV kk],.slice A n c] w fun e w'=>
   e= .returned (.int .i64 (IA nb names ns fs op path tz mode kk n bs).e)/\∃S',kH S' (IA nb names ns fs op path tz mode kk n bs).ns (IA nb names ns fs op path tz mode kk n bs).fs nb names/\apQ S S' (IA nb names ns fs op path tz mode kk n bs).ns (IA nb names ns fs op path tz mode kk n bs).fs φ fs.length/\Sep w0 w' (bI f q p S'::R):=by
 have hok:=zS h
 have J9:=LV h
 have facts:H8 op path tz mode kk n bs.length=0->op=9\/(op≠9/\aU path=true/\(op=3\/op=4\/op=7->aU tz=true)/\(op=1\/op=6\/op=7\/op=8->mode.toNat<=511)/\(op=6->bs.length<=8192)):=fun h0=>by
  rcases LA h0 with h9|⟨_,h9,hk⟩
  ·exact .inl h9
  refine .inr ⟨h9,hk.valid,fun e=>hk.yU ?_,fun e=>?_,fun e=>(hk.data e).2.2⟩
  ·rcases e with rfl|rfl|rfl<;>rfl
  have:=hk.mode (by rcases e with rfl|rfl|rfl|rfl<;>rfl);omega
 refine(aCS (op:=op) (mode:=mode) (kk:=kk) (path:=path) (tz:=tz) (bs:=bs) hp ht hn hlen hL.off hop hst hV.iJ.vw (fun h0=>?_) h).mono ?_
 ·rcases facts h0 with rfl|⟨h9,hv,GN,hm,hb⟩
  ·exact⟨fun e=>absurd e aQ,fun e=>absurd e aQ,fun e=>absurd e aQ,fun e=>absurd e aQ,fun e=>absurd e aQ,fun e=>absurd e aQ,fun e=>absurd e aQ,fun e=>absurd e aQ⟩
  by_cases hm5:mode.toNat<65536
  ·exact hV.aB0 hv GN hm5 hb
  (have hno:¬(op=1\/op=6\/op=7\/op=8):=fun e=>by have:=hm e;omega);have h2:=hV.aB0 (op:=op) (mode:=0) (bs:=bs) hv GN aQ hb;exact⟨fun e=>absurd (.inl e) hno,h2.rm,h2.mv,h2.ln,h2.un,fun e=>absurd (.inr (.inl e)) hno,fun e=>absurd (.inr (.inr (.inl e))) hno,fun e=>absurd (.inr (.inr (.inr e))) hno⟩
 ·rintro e w' ⟨x,rfl,hE⟩;unfold doR at hE;unfold IA;by_cases h0:H8 op path tz mode kk n bs.length=0
  ·rw[if_pos h0]at hE ⊢;have hA:AsT φ fs.length S.base (NA S.base op path tz mode.toNat bs) (if op=9 then .error 0 else H9 ns fs op path tz mode.toNat bs):=by
    rcases facts h0 with rfl|⟨h9,hv,GN,hm,hb⟩
    ·exact rfl
    rw[if_neg h9];exact hV.act hv GN hm hb
   obtain⟨h1,h2⟩:=hL.asT hV hok J9 hA hE;rw[h1];exact⟨rfl,h2⟩
  rw[if_neg h0]at hE ⊢;exact⟨by rw[hE.1],S.base,hL.base,⟨.inl rfl,g,dn,φ,hV,fun _ _=>rfl⟩,hE.2⟩
theorem aO8 {g:LT} {dn:Key->Nat} {φ:Int->Nat} {path bs:List UInt8} {A:Option Addr} {c:Nat} (hL:kH S ns fs nb names) (hV:Vt S.base ns fs g dn φ) (hp:path.length<=9223372036854775807) (hlen:bs.length<=4611686018427387903) (hst:jB w0 R (.slice A bs.length c) bs) (h:Sep w0 w (bI f q p S::R)):
  Calls Tryz.prog 21 #[pV f,aC path,.slice A bs.length c] w fun e w'=>
   e= .returned (.int .i64 (DY nb names ns fs path bs).e)/\∃S',kH S' (DY nb names ns fs path bs).ns (DY nb names ns fs path bs).fs nb names/\apQ S S' (DY nb names ns fs path bs).ns (DY nb names ns fs path bs).fs φ fs.length/\Sep w0 w' (bI f q p S'::R):=by
 have hok:=zS h
 have J9:=LV h
 have hP:=hV.put (bs:=bs) hp
 refine(atL hp hlen hL.off hV.iJ.vw hst hP.1 h).mono ?_
 rintro e w' ⟨x,rfl,hE⟩
 have hA:AsT φ fs.length S.base (xO S.base path bs) (if ab9 ns path bs.length=0 then .ok (UR ns fs path,agG ns fs path bs)else .error (ab9 ns path bs.length)):=by
  rcases hP.2 with⟨h1,h2⟩|⟨h1,h2⟩
  ·rw[if_neg h1];exact h2
  rw[if_pos h1];exact h2
 obtain⟨h1,h2⟩:=hL.asT hV hok J9 hA hE
 rw[h1]
 exact⟨rfl,h2⟩
end
section
variable {g:LT} {nm:Nat} {ns:List TN} {fs:List FT} {dn:Key->Nat} {φ:Int->Nat}
theorem nL.walkDir (h:nL g nm ns fs dn φ):∀(k:Nat) (K:Key),K.length=k->fE ns K->∃c,mQ ns k K= .ok c/\jN c=true
 |0,K,hk,hK=>⟨none,rfl,rfl⟩
 |k+1,K,hk,hK=>by
  rcases hK with e|⟨n,hn,e,hf⟩
  ·rw[e]at hk;cases hk
  have hup:=h.up n hn;rw[e]at hup;obtain⟨c,h1,h2⟩:=h.walkDir k K.dropLast (by rw[ad5,hk];rfl) hup;refine⟨some n,?_,by show decide (n.file= -1)=true;rw[uP];exact hf⟩;(show(mQ ns k K.dropLast).bind (stepT ns K)=_);rw[h1];(show stepT ns K c=_);unfold stepT;rw[if_pos h2,<-e,ZF h.uniq hn]
theorem nL.at_mem (h:nL g nm ns fs dn φ) {n:TN} (hn:n∈ns):GL ns (bW n)= .ok (some n):=by
 obtain⟨c,h1,h2⟩:=h.walkDir _ _ rfl (h.up n hn);unfold GL;rw[h1];show(if jN c=true then Except.ok (kG ns (bW n))else Except.error 22)=_
 rw[if_pos h2,ZF h.uniq hn]
theorem nL.auT (h:nL g nm ns fs dn φ) {n:TN} (hn:n∈ns):kQ ns (bW n)= .ok n:=by unfold kQ;rw[h.at_mem hn]
end
def stE (ns:List TN) (path:List UInt8):Int:=if dY path=0 then(match kQ ns (splitB path)with| .error e=>e| .ok _=>0)else dY path
structure lK (ns:List TN) (fs:List FT) (dn:Key->Nat) (φ:Int->Nat) (path:List UInt8) (k m l s i:Int):Prop where
 none:stE ns path≠0->k=0/\m=0/\l=0/\s=0/\i=0
 dir:∀n,dY path=0->kQ ns (splitB path)= .ok n->n.file= -1->k=1/\m=n.mode/\l=1/\s=iI ns (splitB path)/\i=dn (splitB path)+1
 file:∀n,dY path=0->kQ ns (splitB path)= .ok n->n.file≠ -1->k=2/\(∃f,fs[n.file.toNat]? =some f/\m=f.mode/\s=f.bs.length)/\l=(ns.countP fun x=>decide (x.file=n.file):Nat)/\i=φ n.file+1
theorem ZT {ns:List TN} {K:Key} {e:Int} (h:kQ ns K= .error e):e≠0:=by
 unfold kQ at h;cases ha:GL ns K with
 |error x=>rw[ha]at h;cases h;have:=vQ ha;omega
 |ok y=>
  cases y with
  |none=>rw[ha]at h;cases h;decide
  |some m=>rw[ha]at h;cases h
section
variable {w0 w:World} {R:List bK} {f q p:Nat} {S:VS} {ns:List TN} {fs:List FT} {nb names:Nat} {g:LT} {dn:Key->Nat} {φ:Int->Nat}
theorem Vt.zT (hV:Vt S ns fs g dn φ) (path:List UInt8):zT S path=stE ns path:=by unfold Go.Proofs.YteihmbaimbogaaaGreat.zT stE;rw[hV.something path];cases kQ ns (splitB path)<;>rfl
theorem aDO (x:LI) (l:List Nat):(x.vi l).kind=x.kind/\(x.vi l).mode=x.mode/\(x.vi l).links=x.links/\(x.vi l).size=x.size:=⟨rfl,rfl,rfl,rfl⟩
theorem Z45 {P:Prop} (h:P:=by
 unfold stE at h0;rw[if_pos hpl]at h0;cases hp:kQ ns (splitB path)with
 |error e=>rw[hp]at h0;exact absurd h0 (ZT hp)
 |ok n=>exact⟨n,rfl⟩):P:=h
theorem Vt.aDP (hV:Vt S ns fs g dn φ) (path:List UInt8):∃k m l s i,statOf S path=OY k m l s i/\lK ns fs dn φ path k m l s i:=by
 unfold statOf;rw[hV.zT];by_cases h0:stE ns path=0
 ·have hpl:dY path=0:=by
   unfold stE at h0;by_cases h1:dY path=0
   ·exact h1
   rw[if_neg h1]at h0;exact h0
  rw[if_pos h0];(obtain⟨n,hn⟩:∃n,kQ ns (splitB path)= .ok n:=by exact Z45);have ha:=xC hn;obtain⟨hP,hno,_⟩:=jH (S:=S) hV.rep ha;obtain⟨hm,hk⟩:=fF hno.symm;obtain⟨hi,hkind⟩:=hV.rep.LG hm;rw[hV.CE ha];simp only[nA];obtain⟨v1,v2,v3,v4⟩:=aDO (g (dD dn φ n)) (aH S.cur (dD dn φ n)).aB;rw[hV.iJ.ph.head _ hi,v1,v2,v3,v4];refine⟨_,_,_,_,_,rfl,fun h=>absurd h0 h,fun n2 _ e hf=>?_,fun n2 _ e hf=>?_⟩
  ·rw[hn]at e;cases e;obtain⟨d1,d2,d3,d4⟩:=hV.rep.dir n hm hf;have hD:fE ns (splitB path):=.inr ⟨n,hm,hk,hf⟩;have hz:=(hV.rep.yI hD).2;rw[ayV hf,hk]at*;rw[hz,d2,d4];exact⟨rfl,d3,rfl,rfl,by omega⟩
  rw[hn]at e;cases e;obtain⟨f1,f2,f3,⟨ff,f4,f5,f6⟩,f7⟩:=hV.rep.file n hm hf;rw[XW hf]at*;(have hz:(g (φ n.file)).size=(g (φ n.file)).data.length:=by unfold LI.size;rw[f3,if_neg aQ]);rw[f3,f7,hz,f6];exact⟨rfl,⟨ff,f4,f5,rfl⟩,rfl,by omega⟩
 rw[if_neg h0];refine⟨0,0,0,0,0,rfl,fun _=>⟨rfl,rfl,rfl,rfl,rfl⟩,fun n h1 h2 _=>?_,fun n h1 h2 _=>?_⟩
 ·exact absurd (by unfold stE;rw[if_pos h1,h2]) h0
 exact absurd (by unfold stE;rw[if_pos h1,h2]) h0
theorem aIX {path:List UInt8} (hL:kH S ns fs nb names) (hV:Vt S.base ns fs g dn φ) (hp:path.length<=9223372036854775807) (h:Sep w0 w (bI f q p S::R)):
  Calls Tryz.prog 29 #[pV f,aC path] w fun e w'=>∃k m l s i,e= .returned (.tuple #[OY k m l s i,iV (stE ns path)])/\lK ns fs dn φ path k m l s i/\Sep w0 w' (bI f q p S.base::R):=by
 refine(atI hp hL.off hV.iJ.vw h).mono ?_;rintro e w' ⟨rfl,h1⟩;obtain⟨k,m,l,s,i,e1,h2⟩:=hV.aDP path;rw[e1,hV.zT];exact⟨k,m,l,s,i,rfl,h2,h1⟩
end
end Go.Proofs.YteihmbaimbogaaaGreat
