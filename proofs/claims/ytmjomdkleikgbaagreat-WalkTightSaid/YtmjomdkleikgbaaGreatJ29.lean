/- Parts. -/
import Derived.Test.YtmjomdkleikgbaaGreatJ28
set_option linter.unusedVariables false
set_option linter.unusedSimpArgs false
namespace Go.Proofs.YtmjomdkleikgbaaGreat
def kL (ns:List TN) (K:Key):Except Int TN:=match BO ns K with
 | .error e=>.error e
 | .ok none=>.error 21
 | .ok (some n)=>.ok n
def vS (ns:List TN) (K:Key):Except Int TN:=match kL ns K with
 | .error e=>.error e
 | .ok n=>if n.file= -1 then .error 24 else .ok n
def EF (ns:List TN) (K:Key):Int:=match BO ns K with
 | .error e=>e
 | .ok (some _)=>23
 | .ok none=>0
def rF (fs:List FT) (k:Int):List UInt8:=((fs[k.toNat]?).map (·.bs)).getD []
section
variable {S:VS} {g:LT} {ns:List TN} {fs:List FT} {dn:Key->Nat} {φ:Int->Nat}
theorem Vt.xM (h:Vt S ns fs g dn φ) {p:List UInt8} {d m:Nat} (hl:aS S.cur S.data 0 0 (splitB p)=((d:Int),(m:Int),0)):
  ∃n,BO ns (splitB p)= .ok (some n)/\d=dn (splitB p).dropLast/\m=dD dn φ n:=by
 have hL:=h.look p;rw[hl]at hL;cases ha:BO ns (splitB p)with
 |error e=>rw[ha]at hL;simp only at hL;have:=tO ha;have e1:(0:Int)=e:=congrArg (fun x:Int×Int×Int=>x.2.2) hL;omega
 |ok y=>
  cases y with
  |none=>rw[ha]at hL;simp only at hL;have e1:(m:Int)= -1:=congrArg (fun x:Int×Int×Int=>x.2.1) hL;omega
  |some n=>rw[ha]at hL;simp only at hL;have e1:(d:Int)=dn (splitB p).dropLast:=congrArg (fun x:Int×Int×Int=>x.1) hL;have e2:(m:Int)=dD dn φ n:=congrArg (fun x:Int×Int×Int=>x.2.1) hL;exact⟨n,rfl,by omega,by omega⟩
theorem Vt.WI (h:Vt S ns fs g dn φ) {p:List UInt8} {d:Nat} (hl:aS S.cur S.data 0 0 (splitB p)=((d:Int), -1,0)):
  BO ns (splitB p)= .ok none/\d=dn (splitB p).dropLast:=by
 have hL:=h.look p;rw[hl]at hL;cases ha:BO ns (splitB p)with
 |error e=>rw[ha]at hL;simp only at hL;have e1:(-1:Int)=0:=congrArg (fun x:Int×Int×Int=>x.2.1) hL;omega
 |ok y=>
  cases y with
  |none=>rw[ha]at hL;simp only at hL;have e1:(d:Int)=dn (splitB p).dropLast:=congrArg (fun x:Int×Int×Int=>x.1) hL;exact⟨rfl,by omega⟩
  |some n=>rw[ha]at hL;simp only at hL;have e1:(-1:Int)=dD dn φ n:=congrArg (fun x:Int×Int×Int=>x.2.1) hL;omega
theorem Vt.IZ (h:Vt S ns fs g dn φ) {n:TN} (hn:n∈ns):(aG S.cur (dD dn φ n)).kind=1↔n.file= -1:=by
 obtain⟨hk1,hk2⟩:=h.rep.MG hn;rw[h.iT.ph.kind hk1];rcases hk2 with⟨h1,h2⟩|⟨h1,h2⟩
 ·exact⟨fun _=>h1,fun _=>h2⟩
 exact⟨fun e=>(by rw[h2]at e;cases e),fun e=>absurd e h1⟩
theorem Vt.something (h:Vt S ns fs g dn φ) (p:List UInt8):dU (aS S.cur S.data 0 0 (splitB p))=match kL ns (splitB p)with| .error e=>some e| .ok _=>none:=by
 have hL:=h.look p;unfold kL;cases ha:BO ns (splitB p)with
 |error e=>rw[ha]at hL;simp only at hL;have:=tO ha;rw[hL];unfold dU;simp only;rw[if_neg aD]
 |ok y=>
  cases y with
  |none=>rw[ha]at hL;simp only at hL;rw[hL];rfl
  |some n=>rw[ha]at hL;simp only at hL;rw[hL];unfold dU;simp only;rw[if_pos trivial,if_neg aD]
theorem Vt.fileOf (h:Vt S ns fs g dn φ) (p:List UInt8):nN S.cur (aS S.cur S.data 0 0 (splitB p))=match vS ns (splitB p)with| .error e=>some e| .ok _=>none:=by
 have hL:=h.look p;unfold vS kL;cases ha:BO ns (splitB p)with
 |error e=>rw[ha]at hL;simp only at hL;have:=tO ha;rw[hL];unfold nN;simp only;rw[if_neg aD]
 |ok y=>
  cases y with
  |none=>rw[ha]at hL;simp only at hL;rw[hL];rfl
  |some n=>
   rw[ha]at hL;simp only at hL;obtain⟨_,hno,_⟩:=iW (S:=S) h.rep ha;have hk:=h.IZ (eQ hno.symm).1;rw[hL];unfold nN;simp only;rw[if_pos trivial,if_neg aD,mW];by_cases hf:n.file= -1
   ·rw[if_pos (hk.2 hf),if_pos hf]
   rw[if_neg (fun e=>hf (hk.1 e)),if_neg hf]
theorem Vt.nothing (h:Vt S ns fs g dn φ) (p:List UInt8):gP (aS S.cur S.data 0 0 (splitB p))=if EF ns (splitB p)=0 then none else some (EF ns (splitB p)):=by
 have hL:=h.look p;unfold EF;cases ha:BO ns (splitB p)with
 |error e=>rw[ha]at hL;simp only at hL;have:=tO ha;rw[hL];unfold gP;simp only;rw[if_neg aD,if_neg aD]
 |ok y=>
  cases y with
  |none=>rw[ha]at hL;simp only at hL;rw[hL];rfl
  |some n=>rw[ha]at hL;simp only at hL;rw[hL];unfold gP;simp only;rw[if_pos trivial,if_neg aD];rfl
end
def ag9 (ns:List TN) (fs:List FT) (op:Int) (p q:List UInt8) (mode:Nat) (bs:List UInt8):Except Int (List TN×List FT):=
 if op=1 then(if QT ns p=0 then .ok (xL ns fs 1 mode p,fs)else .error (QT ns p))
 else if op=2 then(match kL ns (splitB p)with
  | .error e=>.error e
  | .ok n=>if n.file≠ -1 then .error 22 else if 0<dM ns (splitB p)then .error 25 else .ok (qA ns (splitB p),fs))
 else if op=3 then(match vS ns (splitB p)with
  | .error e=>.error e
  | .ok n=>if EF ns (splitB q)=0 then .ok (qA ns (splitB p)++[⟨q,n.file,0⟩],fs)else .error (EF ns (splitB q)))
 else if op=4 then(match vS ns (splitB p)with
  | .error e=>.error e
  | .ok n=>if EF ns (splitB q)=0 then(if ns.length<256 then .ok (ns++[⟨q,n.file,0⟩],fs)else .error 31)else .error (EF ns (splitB q)))
 else if op=5 then(match vS ns (splitB p)with
  | .error e=>.error e
  | .ok n=>.ok (qA ns (splitB p),fs))
 else if op=6 then(if QT ns p=0 then .ok (xL ns fs 2 mode p,WA fs 2 mode bs)else .error (QT ns p))
 else if op=7 then(match vS ns (splitB p)with
  | .error e=>.error e
  | .ok n=>if EF ns (splitB q)=0 then(if ns.length<256 then .ok (xL ns fs 2 mode q,WA fs 2 mode (rF fs n.file))else .error 31)else .error (EF ns (splitB q)))
 else if op=8 then(match kL ns (splitB p)with
  | .error e=>.error e
  | .ok n=>if n.file= -1 then .ok (⟨n.path, -1,mode⟩::qA ns (splitB p),fs)else .ok (ns,fs.set n.file.toNat ⟨mode,rF fs n.file⟩))
 else .error 0
def AsT (φ:Int->Nat) (m:Nat) (S:VS) (r:Except Int (Option VS)):Except Int (List TN×List FT)->Prop
 | .error e=>r= .error e
 | .ok T=>EP φ m S r T.1 T.2
section
variable {S:VS} {g:LT} {ns:List TN} {fs:List FT} {dn:Key->Nat} {φ:Int->Nat}
theorem BP {K:Key} {n:TN} (h:kL ns K= .ok n):BO ns K= .ok (some n):=by
 unfold kL at h;cases ha:BO ns K with
 |error e=>rw[ha]at h;cases h
 |ok y=>
  cases y with
  |none=>rw[ha]at h;cases h
  |some m=>rw[ha]at h;cases h;rfl
theorem I4 {K:Key} {n:TN} (h:vS ns K= .ok n):BO ns K= .ok (some n)/\n.file≠ -1:=by
 unfold vS at h;cases ha:kL ns K with
 |error e=>rw[ha]at h;cases h
 |ok m=>
  rw[ha]at h;simp only at h;by_cases hf:m.file= -1
  ·rw[if_pos hf]at h;cases h
  rw[if_neg hf]at h;cases h;exact⟨BP ha,hf⟩
theorem ZO {K:Key} (h:EF ns K=0):BO ns K= .ok none:=by
 unfold EF at h;cases ha:BO ns K with
 |error e=>rw[ha]at h;have:=tO ha;simp only at h;omega
 |ok y=>
  cases y with
  |none=>rfl
  |some m=>rw[ha]at h;cases h
theorem Vt.bytes (h:Vt S ns fs g dn φ) {n:TN} (hn:n∈ns) (hf:n.file≠ -1):rF fs n.file=(g (φ n.file)).data:=by obtain⟨_,_,_,⟨f,h4,_,h6⟩,_⟩:=h.rep.file n hn hf;unfold rF;rw[h4];exact h6.symm
theorem Vt.tQ (h:Vt S ns fs g dn φ) {p:List UInt8} {n:TN} (ha:BO ns (splitB p)= .ok (some n)):aS S.cur S.data 0 0 (splitB p)=((dn (splitB p).dropLast:Int),(dD dn φ n:Int),0):=by have:=h.look p;rw[ha]at this;exact this
theorem Vt.adE (h:Vt S ns fs g dn φ) {p:List UInt8} (ha:BO ns (splitB p)= .ok none):aS S.cur S.data 0 0 (splitB p)=((dn (splitB p).dropLast:Int), -1,0):=by have:=h.look p;rw[ha]at this;exact this
theorem Q7 {n:TN} (hf:n.file≠ -1):dD dn φ n=φ n.file:=by unfold dD;rw[if_neg hf]
theorem arC {n:TN} (hf:n.file= -1):dD dn φ n=dn (bD n):=by unfold dD;rw[if_pos hf]
theorem Vt.ayU (h:Vt S ns fs g dn φ) {op:Int} {p q:List UInt8} {mode:Nat} {bs:List UInt8} (hv:aU p=true)
  (hvq:op=3\/op=4\/op=7->aU q=true) (hm:mode<65536) (hb:op=6->bs.length<=8192):ayL S op p q mode bs:=by
 refine⟨fun _ d hd hn=>?_,fun _ d m hm hd hk hz=>?_,fun e d m d2 hm hd hk he=>?_,fun e d m d2 hm hd hk he hn=>?_,fun _ d m hm hd hk=>?_,fun e d hd hn=>?_,fun e d m d2 hmm hd hk he hn=>?_,fun _ hm5=>⟨h.iT.ph.sw,fun d m hmm hd=>?_⟩⟩
 ·exact(h.new (kind:=1) (bs:=[]) (.inl ⟨rfl,rfl⟩) hv (dL hv) hm aV).1 d hd hn
 ·obtain⟨n,ha,rfl,rfl⟩:=h.xM hd;obtain⟨hP,hno,_⟩:=iW (S:=S) h.rep ha;have hn:=eQ hno.symm;have hf:=(h.IZ hn.1).1 hk;rw[arC hf,hn.2]at hz ⊢;have hD:dI ns (splitB p):=.inr ⟨n,hn.1,hn.2,hf⟩;have h1:=(h.rep.wG hD).2;rw[<-h.iT.ph.size (h.rep.zU hD).1,hz]at h1;exact(h.rmdir hv hno.symm hP hf (vL h1.symm)).2
 ·obtain⟨n,ha,rfl,rfl⟩:=h.xM hd;obtain⟨hP,hno,_⟩:=iW (S:=S) h.rep ha;obtain⟨hb2,rfl⟩:=h.WI he;obtain⟨hQ,bZ,_⟩:=iW (S:=S) h.rep hb2;have hn:=eQ hno.symm;(have hf:n.file≠ -1:=fun e=>hk ((h.IZ hn.1).2 e));rw[Q7 hf];exact(h.rename hv (hvq aD) hno.symm hP hf hQ bZ.symm).2
 ·obtain⟨n,ha,rfl,rfl⟩:=h.xM hd;obtain⟨hP,hno,_⟩:=iW (S:=S) h.rep ha;obtain⟨hb2,rfl⟩:=h.WI he;obtain⟨hQ,bZ,_⟩:=iW (S:=S) h.rep hb2;have hnm:=eQ hno.symm;(have hf:n.file≠ -1:=fun e=>hk ((h.IZ hnm.1).2 e));rw[Q7 hf];have:=h.nodes;exact(h.link (hvq aD) hnm.1 hf hQ bZ.symm aD).2
 ·obtain⟨n,ha,rfl,rfl⟩:=h.xM hd;obtain⟨hP,hno,_⟩:=iW (S:=S) h.rep ha;have hn:=eQ hno.symm;(have hf:n.file≠ -1:=fun e=>hk ((h.IZ hn.1).2 e));rw[Q7 hf];exact(h.arA hv hno.symm hP hf).2
 ·exact(h.new (kind:=2) (bs:=bs) (.inr rfl) hv (dL hv) hm (hb e)).1 d hd hn
 ·obtain⟨n,ha,rfl,rfl⟩:=h.xM hd;obtain⟨hP,hno,_⟩:=iW (S:=S) h.rep ha;have hnm:=eQ hno.symm;(have hf:n.file≠ -1:=fun e=>hk ((h.IZ hnm.1).2 e));obtain⟨_,hj1,hj2,_⟩:=h.rep.file n hnm.1 hf;have hd2:=h.iT.ph.data _ hj1 hj2;rw[Q7 hf]at hk ⊢;refine⟨h.iT.acZ _ hj1 hk,?_⟩;rw[hd2];exact(h.new (kind:=2) (bs:=(g (φ n.file)).data) (.inr rfl) (hvq aD) (dL (hvq aD)) hm (h.iT.ph.fair _ hj1).short).1 d2 he hn
 have:=h.ag8 hmm hm5;exact Z64
theorem Vt.act (h:Vt S ns fs g dn φ) {op:Int} {p q:List UInt8} {mode:Nat} {bs:List UInt8} (hv:aU p=true)
  (hvq:op=3\/op=4\/op=7->aU q=true) (hm:op=1\/op=6\/op=7\/op=8->mode<=511) (hb:op=6->bs.length<=8192):AsT φ fs.length S (UA S op p q mode bs) (ag9 ns fs op p q mode bs):=by
 unfold UA ag9;by_cases h1:op=1
 ·simp only[if_pos h1];rcases(h.new (kind:=1) (mode:=mode) (bs:=[]) (.inl ⟨rfl,rfl⟩) hv (dL hv) (by have:=hm (.inl h1);omega) aV).2 with⟨h2,h3⟩|⟨h2,h3⟩
  ·rw[if_neg h2];exact h3
  rw[if_pos h2];exact h3
 simp only[if_neg h1];by_cases h2:op=2
 ·simp only[if_pos h2];unfold QL;rw[h.something p];cases ha:kL ns (splitB p)with
  |error e=>exact rfl
  |ok n=>
   have ha2:=BP ha;obtain⟨hP,hno,_⟩:=iW (S:=S) h.rep ha2;have hnm:=eQ hno.symm;simp only;rw[h.tQ ha2];simp only[mW];by_cases hf:n.file= -1
   ·rw[if_neg (show ¬(aG S.cur (dD dn φ n)).kind≠1 from fun e=>e ((h.IZ hnm.1).2 hf)),if_neg (show ¬n.file≠ -1 from fun e=>e hf)];have hD:dI ns (splitB p):=.inr ⟨n,hnm.1,hnm.2,hf⟩;have hz:=(h.rep.wG hD).2;rw[<-h.iT.ph.size (h.rep.zU hD).1]at hz;rw[arC hf,hnm.2,hz];by_cases hk:0<dM ns (splitB p)
    ·rw[if_pos hk,if_pos hk];exact rfl
    rw[if_neg hk,if_neg hk];exact(h.rmdir hv hno.symm hP hf (vL (by unfold dM at hk;omega))).1
   rw[if_pos (show(aG S.cur (dD dn φ n)).kind≠1 from fun e=>hf ((h.IZ hnm.1).1 e)),if_pos hf];exact rfl
 simp only[if_neg h2];by_cases h3:op=3
 ·simp only[if_pos h3];unfold IC;rw[h.fileOf p];cases ha:vS ns (splitB p)with
  |error e=>exact rfl
  |ok n=>
   obtain⟨ha2,hf⟩:=I4 ha;obtain⟨hP,hno,_⟩:=iW (S:=S) h.rep ha2;simp only;rw[h.nothing q];by_cases hva:EF ns (splitB q)=0
   ·rw[if_pos hva,if_pos hva];have hb2:=ZO hva;obtain⟨hQ,bZ,_⟩:=iW (S:=S) h.rep hb2;simp only;rw[h.tQ ha2,h.adE hb2];simp only[mW];rw[Q7 hf];exact(h.rename hv (hvq aD) hno.symm hP hf hQ bZ.symm).1
   rw[if_neg hva,if_neg hva];exact rfl
 simp only[if_neg h3];by_cases h4:op=4
 ·simp only[if_pos h4];unfold acP;rw[h.fileOf p];cases ha:vS ns (splitB p)with
  |error e=>exact rfl
  |ok n=>
   obtain⟨ha2,hf⟩:=I4 ha;obtain⟨hP,hno,_⟩:=iW (S:=S) h.rep ha2;have hnm:=eQ hno.symm;simp only;rw[h.nothing q];by_cases hva:EF ns (splitB q)=0
   ·rw[if_pos hva,if_pos hva];have hb2:=ZO hva;obtain⟨hQ,bZ,_⟩:=iW (S:=S) h.rep hb2;simp only;have hnn:=h.nodes;by_cases hr:ns.length<256
    ·rw[if_pos (show S.nodes<256 by omega),if_pos hr,h.tQ ha2,h.adE hb2];simp only[mW];rw[Q7 hf];exact(h.link (hvq aD) hnm.1 hf hQ bZ.symm hr).1
    rw[if_neg (show ¬S.nodes<256 by omega),if_neg hr];exact rfl
   rw[if_neg hva,if_neg hva];exact rfl
 simp only[if_neg h4];by_cases h5:op=5
 ·simp only[if_pos h5];unfold IB;rw[h.fileOf p];cases ha:vS ns (splitB p)with
  |error e=>exact rfl
  |ok n=>obtain⟨ha2,hf⟩:=I4 ha;obtain⟨hP,hno,_⟩:=iW (S:=S) h.rep ha2;simp only;rw[h.tQ ha2];simp only[mW];rw[Q7 hf];exact(h.arA hv hno.symm hP hf).1
 simp only[if_neg h5];by_cases h6:op=6
 ·simp only[if_pos h6];rcases(h.new (kind:=2) (mode:=mode) (bs:=bs) (.inr rfl) hv (dL hv) (by have:=hm (.inr (.inl h6));omega) (hb h6)).2 with⟨h7,h8⟩|⟨h7,h8⟩
  ·rw[if_neg h7];exact h8
  rw[if_pos h7];exact h8
 simp only[if_neg h6];by_cases h7:op=7
 ·simp only[if_pos h7];unfold aqD;rw[h.fileOf p];cases ha:vS ns (splitB p)with
  |error e=>exact rfl
  |ok n=>
   obtain⟨ha2,hf⟩:=I4 ha;obtain⟨hP,hno,_⟩:=iW (S:=S) h.rep ha2;have hnm:=eQ hno.symm;obtain⟨_,hj1,hj2,_⟩:=h.rep.file n hnm.1 hf;have hd2:=h.iT.ph.data _ hj1 hj2;have hnw:=(h.new (kind:=2) (mode:=mode) (p:=q) (bs:=(g (φ n.file)).data) (.inr rfl) (hvq aD) (dL (hvq aD)) (by have:=hm aD;omega) (h.iT.ph.fair _ hj1).short).2;simp only;rw[h.tQ ha2];simp only[mW];rw[Q7 hf,hd2,h.bytes hnm.1 hf];unfold MU at hnw;rw[h.nothing q]at hnw ⊢;unfold QT at hnw;by_cases hva:EF ns (splitB q)=0
   ·have hb2:=ZO hva;rw[if_pos hva]at hnw ⊢;rw[if_pos hva];simp only[hb2]at hnw ⊢;have hnn:=h.nodes;by_cases hr:ns.length<256
    ·simp only[if_pos hr,if_pos (show S.nodes<256 by omega)]at hnw ⊢;rcases hnw with⟨h8,_⟩|⟨_,h9⟩
     ·exact absurd rfl h8
     exact h9
    simp only[if_neg hr,if_neg (show ¬S.nodes<256 by omega)]at hnw ⊢;exact rfl
   rw[if_neg hva,if_neg hva];exact rfl
 simp only[if_neg h7];by_cases h8:op=8
 ·simp only[if_pos h8];unfold QH;rw[h.something p];cases ha:kL ns (splitB p)with
  |error e=>exact rfl
  |ok n=>
   have ha2:=BP ha;obtain⟨hP,hno,_⟩:=iW (S:=S) h.rep ha2;have hnm:=eQ hno.symm;simp only;rw[h.tQ ha2];simp only[mW];by_cases hf:n.file= -1
   ·rw[if_pos hf,arC hf];have:=h.arB hnm.1 hf (hm aD);rw[hnm.2]at this ⊢;exact this
   rw[if_neg hf,Q7 hf,h.bytes hnm.1 hf];exact h.amV hnm.1 hf (hm aD)
 simp only[if_neg h8];exact rfl
end
open Go.RowKit
section
variable {w0 w:World} {R:List aZ} {f q p:Nat} {S:VS} {ns:List TN} {fs:List FT} {nb names:Nat}
structure gY (S:VS) (ns:List TN) (fs:List FT) (nb names:Nat):Prop where
 iT:ag5 S ns fs nb names
 off:S.D.off=false
 left:S.D.left= -1
theorem adF {n names:Nat} (h0:98+(names+7)/8<n) (h1:n<=4096) (h2:2<=names) (h3:names<=1024):gY (VS.new n names) [] [] n names:=
 ⟨⟨rfl,rfl,_,_,_,az2 h0 h1 h2 h3⟩,(Q4 n names).2.1,(Q4 n names).2.2⟩
theorem gY.base (h:gY S ns fs nb names):gY S.base ns fs nb names:=⟨h.iT.base,h.off,h.left⟩
theorem gY.ends {r:Except Int (Option VS)} {ns':List TN} {fs':List FT} {x:Int} {g:LT} {dn:Key->Nat} {φ:Int->Nat} (hL:gY S ns fs nb names) (hV:Vt S.base ns fs g dn φ) (hok:S.D.ok S.nb) (YO:96<S.nb) (hD:EP φ fs.length S.base r ns' fs') (h:wQ f q p S.base r w0 w R x):
  if sI nb names ns' fs'=true then x=0/\∃S',gY S' ns' fs' nb names/\aq8 S S' ns' fs' φ fs.length/\Sep w0 w (bH f q p S'::R)
  else x=27/\∃S',gY S' ns fs nb names/\aq8 S S' ns fs φ fs.length/\Sep w0 w (bH f q p S'::R):=by
 have h1:=hL.iT.ends hV hok YO hD h;split
 ·rename_i hf;rw[if_pos hf]at h1;rcases h1 with⟨hx,S',hV',hI,hl,hS⟩|⟨_,h2,_⟩
  ·obtain⟨l1,l2⟩:=hl hL.off (by rw[hL.left];decide);exact⟨hx,S',⟨hV',l1,l2.trans hL.left⟩,hI,hS⟩
  exact absurd ⟨hL.off,by rw[hL.left];decide⟩ h2
 rename_i hf;rw[if_neg hf]at h1;exact⟨h1.1,S.base,hL.base,⟨.inl rfl,g,dn,φ,hV,fun _ _=>rfl⟩,h1.2⟩
theorem Z42 {P:Prop} (h:P:=by
 have:=hV.iT.rB;rw[show S.rB=S.base.rB from rfl,this];show((S.nb-96-(2+(S.names+7)/8):Nat):Int)=_
 rw[hL.iT.nm,hL.iT.nbe];rfl):P:=h
theorem aEG (hL:gY S ns fs nb names) (h:Sep w0 w (bH f q p S::R)):
  Calls Tryz.prog 22 #[pV f] w fun e w'=>e= .returned (iK (mY nb names-lJ ns fs) (names-jY ns))/\∃n,w'=w.drewN n:=by
 obtain⟨g,dn,φ,hV⟩:=hL.iT.vt;have hok:=acV h;have hwB:S.wB=lJ ns fs:=hV.wB;have hwI:S.wI=jY ns:=hV.wI;have hrB:S.rB=mY nb names:=by exact Z42
 have hrI:S.rI=names:=by have:=hV.iT.rI;rw[show S.rI=S.base.rI from rfl,this];(show(S.names:Int)=_);rw[hL.iT.nm]
 have h1:=hV.iT.ph.agR;have h2:=hV.iT.ph.nW;have h4:nb<=4096:=by have:=hok.few;rw[hL.iT.nbe]at this;exact this
 have h5:mY nb names<=4096:=by unfold mY;omega
 have h6:S.base.names=names:=hL.iT.nm;have e1:S.base.wB=S.wB:=rfl;have e2:S.base.wI=S.wI:=rfl;rw[e1,e2]at h1;have:=amI (S:=S) (nX aD aD) (nX aD aD) (nX aD aD) (nX aD aD) (nX aD aD) (nX aD aD) h;rw[hrB,hrI,hwB,hwI]at this;exact this
theorem ayV (hL:gY S ns fs nb names) (h:Sep w0 w (bH f q p S::R)):
  Calls Tryz.prog 42 #[pV f] w fun e w'=>e= .returned (iK (mY nb names) names)/\w'=w:=by
 obtain⟨g,dn,φ,hV⟩:=hL.iT.vt;have hrB:S.rB=mY nb names:=by exact Z42
 have hrI:S.rI=names:=by have:=hV.iT.rI;rw[show S.rI=S.base.rI from rfl,this];(show(S.names:Int)=_);rw[hL.iT.nm]
 have:=amH h;rw[hrB,hrI]at this;exact this
end
structure ayW where
 e:Int
 ns:List TN
 fs:List FT
def ER (nb names:Nat) (ns:List TN) (fs:List FT):Except Int (List TN×List FT)->ayW
 | .error k=>⟨k,ns,fs⟩
 | .ok T=>if sI nb names T.1 T.2=true then⟨0,T.1,T.2⟩else⟨27,ns,fs⟩
def doX (nb names:Nat) (ns:List TN) (fs:List FT) (op:Int) (p q:List UInt8) (mode kk:Int) (n:Nat) (bs:List UInt8):ayW:=
 if TI op p q mode kk n bs.length=0 then ER nb names ns fs (if op=9 then .error 0 else ag9 ns fs op p q mode.toNat bs)else⟨TI op p q mode kk n bs.length,ns,fs⟩
section
variable {w0 w:World} {R:List aZ} {f q p:Nat} {S:VS} {ns:List TN} {fs:List FT} {nb names:Nat}
theorem gY.asT {r:Except Int (Option VS)} {A:Except Int (List TN×List FT)} {x:Int} {g:LT} {dn:Key->Nat} {φ:Int->Nat} (hL:gY S ns fs nb names) (hV:Vt S.base ns fs g dn φ) (hok:S.D.ok S.nb) (YO:96<S.nb) (hA:AsT φ fs.length S.base r A) (h:wQ f q p S.base r w0 w R x):
  x=(ER nb names ns fs A).e/\∃S',gY S' (ER nb names ns fs A).ns (ER nb names ns fs A).fs nb names/\aq8 S S' (ER nb names ns fs A).ns (ER nb names ns fs A).fs φ fs.length/\Sep w0 w (bH f q p S'::R):=by
 cases A with
 |error k=>have hr:r= .error k:=hA;rw[hr]at h;exact⟨h.1,S.base,hL.base,⟨.inl rfl,g,dn,φ,hV,fun _ _=>rfl⟩,h.2⟩
 |ok T=>
  have h1:=hL.ends hV hok YO hA h;unfold ER;simp only;split
  ·rename_i hf;rw[if_pos hf]at h1;exact h1
  rename_i hf;rw[if_neg hf]at h1;exact h1
theorem doI {g:LT} {dn:Key->Nat} {φ:Int->Nat} {op mode kk:Int} {path tz bs:List UInt8} {A:Option Addr} {n c:Nat} (hL:gY S ns fs nb names) (hV:Vt S.base ns fs g dn φ) (hp:path.length<=9223372036854775807) (ht:tz.length<=9223372036854775807) (hn:n<=9223372036854775807) (hlen:bs.length<=9223372036854775807)
  (hop: -9223372036854775808<=op/\op<=9223372036854775807) (hst:DD w0 R A n kk bs) (h:Sep w0 w (bH f q p S::R)):
  Calls Tryz.prog 18 #[pV f,.agg #[iV op,aC path,aC tz,iV mode,iV kk],.slice A n c] w fun e w'=>
   e= .returned (.int .i64 (doX nb names ns fs op path tz mode kk n bs).e)/\∃S',gY S' (doX nb names ns fs op path tz mode kk n bs).ns (doX nb names ns fs op path tz mode kk n bs).fs nb names/\aq8 S S' (doX nb names ns fs op path tz mode kk n bs).ns (doX nb names ns fs op path tz mode kk n bs).fs φ fs.length/\Sep w0 w' (bH f q p S'::R):=by
 have hok:=acV h
 have YO:=aq9 h
 have facts:TI op path tz mode kk n bs.length=0->op=9\/(op≠9/\aU path=true/\(op=3\/op=4\/op=7->aU tz=true)/\(op=1\/op=6\/op=7\/op=8->mode.toNat<=511)/\(op=6->bs.length<=8192)):=fun h0=>by
  rcases ajZ h0 with h9|⟨_,h9,hk⟩
  ·exact .inl h9
  refine .inr ⟨h9,hk.valid,fun e=>hk.FL ?_,fun e=>?_,fun e=>(hk.data e).2.2⟩
  ·rcases e with rfl|rfl|rfl<;>rfl
  have:=hk.mode (by rcases e with rfl|rfl|rfl|rfl<;>rfl);omega
 refine(azQ (op:=op) (mode:=mode) (kk:=kk) (path:=path) (tz:=tz) (bs:=bs) hp ht hn hlen hL.off hop hst hV.iT.vw (fun h0=>?_) h).mono ?_
 ·rcases facts h0 with rfl|⟨h9,hv,hvq,hm,hb⟩
  ·exact⟨fun e=>absurd e aV,fun e=>absurd e aV,fun e=>absurd e aV,fun e=>absurd e aV,fun e=>absurd e aV,fun e=>absurd e aV,fun e=>absurd e aV,fun e=>absurd e aV⟩
  by_cases hm5:mode.toNat<65536
  ·exact hV.ayU hv hvq hm5 hb
  (have hno:¬(op=1\/op=6\/op=7\/op=8):=fun e=>by have:=hm e;omega);have h2:=hV.ayU (op:=op) (mode:=0) (bs:=bs) hv hvq aV hb;exact⟨fun e=>absurd (.inl e) hno,h2.rm,h2.mv,h2.ln,h2.un,fun e=>absurd (.inr (.inl e)) hno,fun e=>absurd (.inr (.inr (.inl e))) hno,fun e=>absurd (.inr (.inr (.inr e))) hno⟩
 ·rintro e w' ⟨x,rfl,hE⟩;unfold doR at hE;unfold doX;by_cases h0:TI op path tz mode kk n bs.length=0
  ·rw[if_pos h0]at hE ⊢;have hA:AsT φ fs.length S.base (UA S.base op path tz mode.toNat bs) (if op=9 then .error 0 else ag9 ns fs op path tz mode.toNat bs):=by
    rcases facts h0 with rfl|⟨h9,hv,hvq,hm,hb⟩
    ·exact rfl
    rw[if_neg h9];exact hV.act hv hvq hm hb
   obtain⟨h1,h2⟩:=hL.asT hV hok YO hA hE;rw[h1];exact⟨rfl,h2⟩
  rw[if_neg h0]at hE ⊢;exact⟨by rw[hE.1],S.base,hL.base,⟨.inl rfl,g,dn,φ,hV,fun _ _=>rfl⟩,hE.2⟩
theorem doT {op mode kk:Int} {path tz bs:List UInt8} {A:Option Addr} {n c:Nat} (hL:gY S ns fs nb names) (hp:path.length<=9223372036854775807) (ht:tz.length<=9223372036854775807) (hn:n<=9223372036854775807) (hlen:bs.length<=9223372036854775807)
  (hop: -9223372036854775808<=op/\op<=9223372036854775807) (hst:DD w0 R A n kk bs) (h:Sep w0 w (bH f q p S::R)):
  Calls Tryz.prog 18 #[pV f,.agg #[iV op,aC path,aC tz,iV mode,iV kk],.slice A n c] w fun e w'=>
   e= .returned (.int .i64 (doX nb names ns fs op path tz mode kk n bs).e)/\∃S',gY S' (doX nb names ns fs op path tz mode kk n bs).ns (doX nb names ns fs op path tz mode kk n bs).fs nb names/\Sep w0 w' (bH f q p S'::R):=by
 obtain⟨g,dn,φ,hV⟩:=hL.iT.vt
 refine(doI hL hV hp ht hn hlen hop hst h).mono ?_
 rintro e w' ⟨h1,S',h2,_,h3⟩
 exact⟨h1,S',h2,h3⟩
end
def rdX (ns:List TN) (path:List UInt8):Int:=if dV path=0 then(match vS ns (splitB path)with| .error e=>e| .ok _=>0)else dV path
def rdB (ns:List TN) (fs:List FT) (path:List UInt8):List UInt8:=if dV path=0 then(match vS ns (splitB path)with| .error _=>[]| .ok n=>rF fs n.file)else []
section
variable {w0 w:World} {R:List aZ} {f q p:Nat} {S:VS} {ns:List TN} {fs:List FT} {nb names:Nat}
theorem arD {K:Key} {e:Int} (h:vS ns K= .error e):e≠0:=by
 unfold vS kL at h;cases ha:BO ns K with
 |error k=>rw[ha]at h;cases h;have:=tO ha;omega
 |ok y=>
  rw[ha]at h;cases y with
  |none=>cases h;decide
  |some n=>
   simp only at h;split at h
   ·cases h;decide
   cases h
theorem Vt.read {g:LT} {dn:Key->Nat} {φ:Int->Nat} (h:Vt S ns fs g dn φ) (path:List UInt8):zC S path=rdX ns path/\QN S path=rdB ns fs path:=by
 have hX:zC S path=rdX ns path:=by
  unfold zC rdX;split
  ·rw[h.fileOf path];cases vS ns (splitB path)<;>rfl
  rfl
 refine⟨hX,?_⟩;unfold QN;rw[hX];unfold rdX rdB;by_cases hE:dV path=0
 ·rw[if_pos hE,if_pos hE];cases ha:vS ns (splitB path)with
  |error e=>simp only;rw[if_neg (arD ha)]
  |ok n=>simp only;rw[if_pos trivial];obtain⟨ha2,hf⟩:=I4 ha;obtain⟨_,hno,_⟩:=iW (S:=S) h.rep ha2;have hnm:=eQ hno.symm;obtain⟨_,hj1,hj2,_⟩:=h.rep.file n hnm.1 hf;rw[h.tQ ha2];simp only[mW];rw[Q7 hf,h.iT.ph.data _ hj1 hj2,h.bytes hnm.1 hf]
 rw[if_neg hE,if_neg hE,if_neg hE]
end
def lsX (ns:List TN) (path:List UInt8):Int:=if path=[]then 0 else if dV path=0 then(match kL ns (splitB path)with| .error e=>e| .ok n=>if n.file= -1 then 0 else 22)else dV path
def WJ (path:List UInt8):Key:=if path=[]then []else splitB path
def lsN (ns:List TN) (path:List UInt8):List (List UInt8):=if lsX ns path=0 then(eX ns (WJ path)).map fun n=>(bD n).getLastD []else []
section
variable {w0 w:World} {R:List aZ} {f q p:Nat} {S:VS} {ns:List TN} {fs:List FT} {nb names:Nat}
theorem KP {K:Key} {e:Int} (h:kL ns K= .error e):e≠0:=by
 unfold kL at h;cases ha:BO ns K with
 |error k=>rw[ha]at h;cases h;have:=tO ha;omega
 |ok y=>
  rw[ha]at h;cases y with
  |none=>cases h;decide
  |some n=>cases h
theorem Vt.list {g:LT} {dn:Key->Nat} {φ:Int->Nat} (h:Vt S ns fs g dn φ) (path:List UInt8):kS S path=lsX ns path/\(mR S path).Perm (lsN ns path)/\(mR S path).Pairwise fun x y=>x<=y:=by
 have hsort:(mR S path).Pairwise fun x y=>x<=y:=by
  unfold mR;split
  ·exact aqQ _
  exact List.Pairwise.nil
 have key:∀K,dI ns K->(zF ((jU S.cur S.data (aG S.cur (dn K))).map (·.1))).Perm ((eX ns K).map fun n=>(bD n).getLastD []):=fun K hK=>by obtain⟨hd1,hd2⟩:=h.rep.zU hK;rw[h.iT.ph.bG _ hd1 hd2];refine(QW _).trans ?_;have h2:=(h.rep.bG K hK).map (·.1);rw[qJ]at h2;exact h2
 by_cases e0:path=[]
 ·have hk:=h.iT.aqL;(have hX:kS S path=0:=by unfold kS;rw[if_pos e0,if_pos hk]);(have hX2:lsX ns path=0:=by unfold lsX;rw[if_pos e0]);refine⟨hX.trans hX2.symm,?_,hsort⟩;have hk0:=key [] (.inl rfl);rw[h.rep.root]at hk0;unfold mR aj4 lsN WJ;rw[if_pos hX,if_pos e0,if_pos hX2,if_pos e0];exact hk0
 by_cases hE:dV path=0
 ·have hsm:=h.something path;cases ha:kL ns (splitB path)with
  |error e=>rw[ha]at hsm;simp only at hsm;(have hX:kS S path=e:=by unfold kS;rw[if_neg e0,if_pos hE,hsm]);(have hX2:lsX ns path=e:=by unfold lsX;rw[if_neg e0,if_pos hE,ha]);have hne:=KP ha;refine⟨hX.trans hX2.symm,?_,hsort⟩;unfold mR lsN;rw[hX,hX2,if_neg hne,if_neg hne]
  |ok n=>
   rw[ha]at hsm;simp only at hsm;have ha2:=BP ha;obtain⟨_,hno,_⟩:=iW (S:=S) h.rep ha2;have hnm:=eQ hno.symm;have hlk:=h.tQ ha2;have hkd:=h.IZ hnm.1;by_cases hf:n.file= -1
   ·(have hX:kS S path=0:=by unfold kS;rw[if_neg e0,if_pos hE,hsm,hlk];simp only[mW];rw[if_pos (hkd.2 hf)]);(have hX2:lsX ns path=0:=by unfold lsX;rw[if_neg e0,if_pos hE,ha];simp only;rw[if_pos hf]);refine⟨hX.trans hX2.symm,?_,hsort⟩;have hk0:=key (splitB path) (.inr ⟨n,hnm.1,hnm.2,hf⟩);unfold mR aj4 lsN WJ;rw[if_pos hX,if_neg e0,if_pos hX2,if_neg e0,hlk];simp only[mW];rw[arC hf,hnm.2];exact hk0
   (have hX:kS S path=22:=by unfold kS;rw[if_neg e0,if_pos hE,hsm,hlk];simp only[mW];rw[if_neg (fun e=>hf (hkd.1 e))]);(have hX2:lsX ns path=22:=by unfold lsX;rw[if_neg e0,if_pos hE,ha];simp only;rw[if_neg hf]);refine⟨hX.trans hX2.symm,?_,hsort⟩;unfold mR lsN;rw[hX,hX2,if_neg aV,if_neg aV]
 have hX:kS S path=dV path:=by unfold kS;rw[if_neg e0,if_neg hE]
 have hX2:lsX ns path=dV path:=by unfold lsX;rw[if_neg e0,if_neg hE]
 refine⟨hX.trans hX2.symm,?_,hsort⟩;unfold mR lsN;rw[hX,hX2,if_neg hE,if_neg hE]
theorem ayX {path:List UInt8} (hL:gY S ns fs nb names) (hp:path.length<=9223372036854775807) (h:Sep w0 w (bH f q p S::R)):
  Calls Tryz.prog 40 #[pV f,aC path] w fun e w'=>∃v l S',e= .returned (.tuple #[v,iV (lsX ns path)])/\l.Perm (lsN ns path)/\(l.Pairwise fun x y=>x<=y)/\gY S' ns fs nb names/\Sep w0 w' (sS v l::bH f q p S'::R):=by
 obtain⟨g,dn,φ,hV⟩:=hL.iT.vt;obtain⟨h1,h2,h3⟩:=hV.list path;refine(ac4 hp hL.off hV.iT.vw hV.iT.aqL h).mono ?_;rintro e w' ⟨v,rfl,hS⟩;rw[h1];exact⟨v,_,S.base,rfl,h2,h3,hL.base,hS⟩
end
theorem add_zero' (a:Addr):a.add 0=a:=by simp[Addr.add]
end Go.Proofs.YtmjomdkleikgbaaGreat
namespace Go.Proofs.YtmjomdkleikgbaaGreat
open Go.RowKit Go.Shelf
theorem KQ {α:Type} (f:α->List Value) (m:Nat) (hf:∀x,(f x).length=m) (xs:List α):(xs.flatMap f).length=xs.length*m:=by
 induction xs with
 |nil=>simp
 |cons x xs ih=>rw[wU,jL,ih,hf,kR,Nat.add_mul,Nat.one_mul,Nat.add_comm]
theorem Q8 {α:Type} (f:α->List Value) (m:Nat) (hf:∀x,(f x).length=m) {xs:List α} {i:Nat} {x:α} (h:xs[i]? =some x) (j:Nat) (hj:j<m):(xs.flatMap f)[i*m+j]? =(f x)[j]? :=by
 induction xs generalizing i with
 |nil=>simp at h
 |cons y xs ih=>
  rw[wU];cases i with
  |zero=>simp at h;subst h;rw[LF,GL,D6 (by rw[hf];exact hj)]
  |succ i=>(have e:(i+1)*m+j-(f y).length=i*m+j:=by rw[hf,Nat.add_mul];omega);rw[vM (by rw[hf,Nat.add_mul];omega),e];exact ih (by simpa using h)
theorem ahB {w:World} {ad:Addr} {u:Value} (h:w.cell? ad=some u):ad.spot=none:=by
 unfold World.cell? at h;split at h
 ·split at h
  ·cases h
  rename_i hs;cases hb:ad.spot with
  |none=>rfl
  |some s=>rw[hb]at hs;simp at hs
 cases h
theorem Rd.place {w:World} {sz n:Nat} {v:Value} {cs:List Value} (h:Rd w sz v n cs) (h0:0<n) (hsz:0<sz):
  ∃g o c,v= .slice (some ⟨g,o,none⟩) n c/\n<=c/\c<=maxLen/\g<w.heap.size/\∀w',Below w.heap.size w w'->∀j,j<n*sz->w'.cell? ⟨g,o+j,none⟩=cs[j]? :=by
 obtain⟨hl,A,c,rfl,h1,h2,h3⟩:=h;obtain⟨ad,rfl,hb,hc⟩:=h3 h0;have hpos:0<cs.length:=by rw[hl];exact VD h0 hsz
 have hsp:ad.spot=none:=by have h4:=hc 0 _ (gE hpos);rw[add_zero']at h4;exact ahB h4
 obtain⟨g,o,s⟩:=ad;simp only at hsp;subst hsp;refine⟨g,o,c,rfl,h1,h2,hb,fun w' hw' j hj=>?_⟩;have hj':j<cs.length:=by rw[hl];exact hj
 have h4:=hc j _ (gE hj');rw[Addr.add_lit]at h4;rw[gE hj',<-h4];exact hw'.cell hb
def aJS (cs:List Value) (bs:List UInt8):Prop:=(∀u∈cs,u.oneCell'=true)/\cs=bs.map kT
def KR (w:World) (v:Value) (n:Nat) (bs:List UInt8):Prop:=∃cs,Rd w 1 v n cs/\aJS cs bs
theorem KR.below {w w':World} {v:Value} {n:Nat} {bs:List UInt8} (h:KR w v n bs) (hb:Below w.heap.size w w'):KR w' v n bs:=by obtain⟨cs,h1,h2⟩:=h;exact⟨cs,h1.below hb,h2⟩
theorem KR.shape {w:World} {v:Value} {n:Nat} {bs:List UInt8} (h:KR w v n bs):∃A c,v= .slice A n c/\n<=maxLen:=by obtain⟨cs,h1,_⟩:=h;exact h1.shape
structure TF where
 mode:Int
 bs:List UInt8
deriving DecidableEq
def TF.size (f:TF):Nat:=f.bs.length
def GG (n:TN):List Value:=[aC n.path,.int .i64 n.file,.int .i64 n.mode]
def cZ (ns:List TN):List Value:=ns.flatMap GG
def tfC (x:TF×Value):List Value:=[.int .i64 x.1.mode,x.2]
def iE (fs:List TF) (vs:List Value):List Value:=(fs.zip vs).flatMap tfC
theorem adH (ns:List TN):(cZ ns).length=ns.length*3:=by rw[cZ,KQ GG 3 (fun _=>rfl)]
theorem bR {ns:List TN} {i:Nat} {n:TN} (h:ns[i]? =some n) (j:Nat) (hj:j<3):(cZ ns)[i*3+j]? =(GG n)[j]? :=
 Q8 GG 3 (fun _=>rfl) h j hj
theorem fE {fs:List TF} {vs:List Value} {i:Nat} {f:TF} {u:Value} (h:fs[i]? =some f) (hu:vs[i]? =some u) (j:Nat) (hj:j<2):(iE fs vs)[i*2+j]? =(tfC (f,u))[j]? :=
 Q8 tfC 2 (fun _=>rfl) (by rw[List.getElem?_zip_eq_some];exact⟨h,hu⟩) j hj
structure iF (w:World) (nv fv:Value) (ns:List TN) (fs:List TF) (vs:List Value):Prop where
 len:vs.length=fs.length
 nodes:Rd w 3 nv ns.length (cZ ns)
 files:Rd w 2 fv fs.length (iE fs vs)
 data:∀(k:Nat) u f,vs[k]? =some u->fs[k]? =some f->KR w u f.size f.bs
theorem iF.below {w w':World} {nv fv:Value} {ns:List TN} {fs:List TF} {vs:List Value} (h:iF w nv fv ns fs vs) (hb:Below w.heap.size w w'):iF w' nv fv ns fs vs:=
 ⟨h.len,h.nodes.below hb,h.files.below hb,fun k u e hu he=>(h.data k u e hu he).below hb⟩
structure mZ (ns:List TN) (fs:List TF):Prop where
 few:ns.length<=300
 EG:fs.length<=300
 short:∀n∈ns,n.path.length<=40000
 size:∀f∈fs,f.size<=1048576
structure BQ (ns:List TN) (fs:List TF):Prop where
 few:ns.length<=300
 EG:fs.length<=300
 short:∀n∈ns,n.path.length<=9223372036854775807
 size:∀f∈fs,f.size<=9223372036854775807
theorem mZ.mm {ns:List TN} {fs:List TF} (h:mZ ns fs):BQ ns fs:=⟨h.few,h.EG,fun n hn=>z8 (h.short n hn) aV,fun f hf=>z8 (h.size f hf) aV⟩
def nA (p:List UInt8):Nat:=(max 0 (Lib.lastIndexByte ⟨p.toArray⟩ 47)).toNat
def aW (p:List UInt8):List UInt8:=if aU p=true then p.take (nA p)else []
theorem I5 (p:List UInt8) (n:Nat):(⟨p.toArray⟩:ByteArray).extract 0 n=⟨(p.take n).toArray⟩:=by
 have e:((⟨p.toArray⟩:ByteArray).extract 0 n).data.toList=p.take n:=by rw[Lib.extract_data];simp
 generalize(⟨p.toArray⟩:ByteArray).extract 0 n=t at e;obtain⟨⟨l⟩⟩:=t;simp at e;rw[e]
def KS (f:TF):Bool:=decide (8192<f.size)
def lV (ns:List TN) (fs:List TF):Bool:=(decide (256<ns.length)||decide (256<fs.length))||fs.any KS
end Go.Proofs.YtmjomdkleikgbaaGreat
namespace Go.Proofs.YtmjomdkleikgbaaGreat
open Go.RowKit
theorem mD (p:List UInt8):Op.bytesLess p p=false:=by
 induction p with
 |nil=>rfl
 |cons a p ih=>simp[Op.bytesLess,ih]
theorem adI :∀ {p q:List UInt8},Op.bytesLess p q=true->Op.bytesLess q p=false
 |[],[],h=>by simp[Op.bytesLess]at h
 |[],_::_,_=>rfl
 |_::_,[],h=>by simp[Op.bytesLess]at h
 |a::p,b::q,h=>by
  unfold Op.bytesLess at h ⊢;rw[MO,sJ,sK,tX]at h;rcases h with h|⟨rfl,h⟩
  ·(have h1:¬b<a:=fun h2=>by have:=UInt8.lt_iff_toNat_lt.1 h;have:=UInt8.lt_iff_toNat_lt.1 h2;omega);(have h2:b≠a:=fun e=>by subst e;exact absurd h bL);simp[h1,h2]
  simp[adI h]
def iA (m:Int):Bool:=decide (0<=m)&&decide (m<=511)
def qB (pre:List TN) (p:List UInt8):Int:=pre.foldl (fun k m=>if m.path=p then(if m.file= -1 then 1 else 2)else k) (if p=[]then 1 else 0)
theorem vB (pre:List TN) (n:TN) (p:List UInt8):qB (pre++[n]) p=if n.path=p then(if n.file= -1 then 1 else 2)else qB pre p:=by unfold qB;rw[OC];rfl
def iH (ns:List TN):Nat->List UInt8
 |0=>[]
 |i+1=>((ns[i]?).map (·.path)).getD []
def ahC (p q:List UInt8):Bool:=Op.bytesLess p q||p==q
def iR (pre:List TN) (last:List UInt8) (k:Nat) (n:TN):Bool:=
 ((((aU n.path&& !ahC n.path last)&&decide (qB pre (aW n.path)=1))&&decide (-1<=n.file))&&decide (n.file<=(k:Int)))&&(if n.file= -1 then iA n.mode else decide (n.mode=0))
def gU (k:Nat) (n:TN):Nat:=if n.file=(k:Int)then k+1 else k
def runK (ns:List TN):Nat->Option Nat
 |0=>some 0
 |i+1=>match runK ns i with
  |none=>none
  |some k=>match ns[i]? with
   |none=>some k
   |some n=>if iR (ns.take i) (iH ns i) k n=true then some (gU k n)else none
def iI (ns:List TN) (fs:List TF):Int:=if lV ns fs=true then 31 else if runK ns ns.length=some fs.length/\fs.all (fun f=>iA f.mode)=true then 0 else 30
theorem rG {ns:List TN} {i k:Nat} {n:TN} (h:runK ns i=some k) (hn:ns[i]? =some n):runK ns (i+1)=if iR (ns.take i) (iH ns i) k n=true then some (gU k n)else none:=by
 show(match runK ns i with
  |none=>none
  |some k=>match ns[i]? with
   |none=>some k
   |some n=>if iR (ns.take i) (iH ns i) k n=true then some (gU k n)else none)=_
 rw[h];simp only;rw[hn]
theorem WK {ns:List TN} {i:Nat} (h:runK ns i=none):∀j,runK ns (i+j)=none:=by
 intro j
 induction j with
 |zero=>exact h
 |succ j ih=>
  show(match runK ns (i+j)with
   |none=>none
   |some k=>match ns[i+j]? with
    |none=>some k
    |some n=>if iR (ns.take (i+j)) (iH ns (i+j)) k n=true then some (gU k n)else none)=none
  rw[ih]
theorem av2 {ns:List TN} {fs:List TF} (hb:lV ns fs=false) (h:runK ns ns.length=some fs.length) (h2:fs.all (fun f=>iA f.mode)=true):iI ns fs=0:=by unfold iI;rw[hb,if_neg aV,if_pos ⟨h,h2⟩]
theorem Q9 :∀ {p q:List UInt8},Op.bytesLess p q=false->p≠q->Op.bytesLess q p=true
 |[],[],_,h=>absurd rfl h
 |[],_::_,h,_=>by simp[Op.bytesLess]at h
 |_::_,[],_,_=>by simp[Op.bytesLess]
 |a::p,b::q,h,hne=>by
  unfold Op.bytesLess at h ⊢;rw[YG,Bool.and_eq_false_iff,afS]at h;obtain⟨h1,h2⟩:=h;by_cases e:a=b
  ·subst e;have h3:Op.bytesLess p q=false:=by
    rcases h2 with h2|h2
    ·simp at h2
    exact h2
   have:=Q9 h3 (fun e=>hne (by rw[e]));simp[this]
  (have h4:b<a:=by rw[UInt8.lt_iff_toNat_lt]at h1 ⊢;(have:a.toNat≠b.toNat:=fun h=>e (UInt8.toNat_inj.1 h));omega);simp[h4]
theorem amX {p q:List UInt8} (h:ahC p q=false):Op.bytesLess q p=true:=by unfold ahC at h;rw[YG]at h;exact Q9 h.1 (by simpa using h.2)
theorem qC :∀ {p q r:List UInt8},Op.bytesLess p q=true->Op.bytesLess q r=true->Op.bytesLess p r=true
 |_,_,[],_,h=>by cases ‹List UInt8› <;>simp[Op.bytesLess]at h
 |[],_,_::_,_,_=>by simp[Op.bytesLess]
 |_::_,[],_::_,h,_=>by simp[Op.bytesLess]at h
 |a::p,b::q,c::r,h1,h2=>by
  unfold Op.bytesLess at h1 h2 ⊢;rw[MO,sJ,sK,tX]at h1 h2 ⊢;rcases h1 with h1|⟨rfl,h1⟩
  ·rcases h2 with h2|⟨rfl,h2⟩
   ·exact Or.inl (by rw[UInt8.lt_iff_toNat_lt]at*;omega)
   exact Or.inl h1
  rcases h2 with h2|⟨rfl,h2⟩
  ·exact Or.inl h2
  exact Or.inr ⟨rfl,qC h1 h2⟩
structure fT (ns:List TN) (fs:List TF):Prop where
 few:ns.length<=256
 EG:fs.length<=256
 size:∀f∈fs,f.size<=8192
 RA:∀f∈fs,iA f.mode=true
 run:runK ns ns.length=some fs.length
theorem RD (k:Nat) (n:TN):k<=gU k n:=by unfold gU;split<;>omega
theorem RF {ns:List TN}:∀ {j m:Nat},runK ns j=some m->∀i,i<j->∀n,ns[i]? =some n->∃k,runK ns i=some k/\iR (ns.take i) (iH ns i) k n=true/\gU k n<=m:=by
 intro j
 induction j with
 |zero=>intro m _ i hi;omega
 |succ j ih=>
  intro m h i hi n hn;cases hr:runK ns j with
  |none=>rw[WK hr 1]at h;cases h
  |some k=>
   cases hj:ns[j]? with
   |none=>
    have hlt:=(gF.1 hn).1;have:ns.length<=j:=List.getElem?_eq_none_iff.1 hj;have h2:runK ns (j+1)=some k:=by
     show(match runK ns j with
      |none=>none
      |some k=>match ns[j]? with
       |none=>some k
       |some n=>if iR (ns.take j) (iH ns j) k n=true then some (gU k n)else none)=_
     rw[hr,hj]
    rw[h2]at h;cases h;exact ih hr i aD n hn
   |some nj=>
    rw[rG hr hj]at h;split at h
    ·rename_i ho;cases h;by_cases hij:i=j
     ·subst hij;rw[hj]at hn;cases hn;exact⟨k,hr,ho,iB _⟩
     obtain⟨k2,h1,h2,h3⟩:=ih hr i aD n hn;exact⟨k2,h1,h2,by have:=RD k nj;omega⟩
    cases h
theorem qD {pre:List TN} {last:List UInt8} {k:Nat} {n:TN} (h:iR pre last k n=true):
  aU n.path=true/\Op.bytesLess last n.path=true/\qB pre (aW n.path)=1/\ -1<=n.file/\n.file<=(k:Int)/\(n.file= -1->iA n.mode=true)/\(n.file≠ -1->n.mode=0):=by
 unfold iR at h;simp only[sJ,tX,LA]at h;obtain⟨⟨⟨⟨⟨h1,h2⟩,h3⟩,h4⟩,h5⟩,h6⟩:=h;refine⟨h1,amX h2,h3,h4,h5,fun e=>?_,fun e=>?_⟩
 ·rw[if_pos e]at h6;exact h6
 rw[if_neg e]at h6;simpa using h6
theorem fT.at_ {ns:List TN} {fs:List TF} (h:fT ns fs) {i:Nat} {n:TN} (hn:ns[i]? =some n):
  aU n.path=true/\Op.bytesLess (iH ns i) n.path=true/\qB (ns.take i) (aW n.path)=1/\ -1<=n.file/\n.file<(fs.length:Int)/\(n.file= -1->iA n.mode=true)/\(n.file≠ -1->n.mode=0):=by
 obtain⟨k,h1,h2,h3⟩:=RF h.run i (gF.1 hn).1 n hn;obtain⟨a,b,c,d,e,f,g⟩:=qD h2;refine⟨a,b,c,d,?_,f,g⟩;unfold gU at h3;split at h3<;>omega
theorem fT.mem {ns:List TN} {fs:List TF} (h:fT ns fs) {n:TN} (hn:n∈ns):
  aU n.path=true/\ -1<=n.file/\n.file<(fs.length:Int)/\(n.file= -1->iA n.mode=true)/\(n.file≠ -1->n.mode=0):=by
 obtain⟨i,hi⟩:=List.mem_iff_getElem?.1 hn;obtain⟨a,b,c,d,e,f,g⟩:=h.at_ hi;exact⟨a,d,e,f,g⟩
theorem fT.up {ns:List TN} {fs:List TF} (h:fT ns fs):ns.Pairwise fun a b=>Op.bytesLess a.path b.path=true:=by
 rw[EK];intro i j hi hj hij;obtain⟨d,rfl⟩:∃d,j=i+1+d:=⟨j-i-1,by omega⟩;clear hij
 induction d with
 |zero=>have:=(h.at_ (gE hj)).2.1;(have e:iH ns (i+1)=ns[i].path:=by(show((ns[i]?).map (·.path)).getD []=_);rw[gE hi];rfl);change Op.bytesLess (iH ns (i+1)) _=true at this;rw[e]at this;exact this
 |succ d ih=>have h1:=ih aD;have h2:=(h.at_ (gE hj)).2.1;(have e:iH ns (i+1+(d+1))=(ns[i+1+d]'aD).path:=by(show((ns[i+1+d]?).map (·.path)).getD []=_);rw[gE aD];rfl);rw[e]at h2;exact qC h1 h2
theorem fT.ne {ns:List TN} {fs:List TF} (h:fT ns fs):ns.Pairwise fun a b=>a.path≠b.path:=
 h.up.imp fun {a b} hl e=>by rw[e,mD]at hl;cases hl
def pI (ns:List TN) (p:List UInt8):Nat:=ns.countP fun n=>decide (aW n.path=p)
end Go.Proofs.YtmjomdkleikgbaaGreat
