/- FxB, FvT, FvU, FxC, FxD, laid together. -/
import Derived.Test.YteihmbaimbogaaaGreatJ45
namespace Go.Proofs.YteihmbaimbogaaaGreat
set_option linter.unusedVariables false
set_option linter.unusedSimpArgs false
def actT (ns:List TN) (fs:List FT) (op:Int) (p q:List UInt8) (mode:Nat) (bs:List UInt8):Except Int (List TN×List FT):=
 if op=1 then(if newT ns p=0 then .ok (newNs ns fs 1 mode p,fs)else .error (newT ns p))
 else if op=2 then(match presT ns (splitB p)with
  | .error e=>.error e
  | .ok n=>if n.file≠ -1 then .error 22 else if 0<kidsLen ns (splitB p)then .error 25 else .ok (delT ns (splitB p),fs))
 else if op=3 then(match filT ns (splitB p)with
  | .error e=>.error e
  | .ok n=>if vacT ns (splitB q)=0 then .ok (delT ns (splitB p)++[⟨q,n.file,0⟩],fs)else .error (vacT ns (splitB q)))
 else if op=4 then(match filT ns (splitB p)with
  | .error e=>.error e
  | .ok n=>if vacT ns (splitB q)=0 then(if ns.length<256 then .ok (ns++[⟨q,n.file,0⟩],fs)else .error 31)else .error (vacT ns (splitB q)))
 else if op=5 then(match filT ns (splitB p)with
  | .error e=>.error e
  | .ok n=>.ok (delT ns (splitB p),fs))
 else if op=6 then(if newT ns p=0 then .ok (newNs ns fs 2 mode p,newFs fs 2 mode bs)else .error (newT ns p))
 else if op=7 then(match filT ns (splitB p)with
  | .error e=>.error e
  | .ok n=>if vacT ns (splitB q)=0 then(if ns.length<256 then .ok (newNs ns fs 2 mode q,newFs fs 2 mode (bytesF fs n.file))else .error 31)else .error (vacT ns (splitB q)))
 else if op=8 then(match presT ns (splitB p)with
  | .error e=>.error e
  | .ok n=>if n.file= -1 then .ok (⟨n.path, -1,mode⟩::delT ns (splitB p),fs)else .ok (ns,fs.set n.file.toNat ⟨mode,bytesF fs n.file⟩))
 else .error 0
def AsT (S:VS) (r:Except Int (Option VS)):Except Int (List TN×List FT)→Prop
 | .error e=>r= .error e
 | .ok T=>DoneT S r T.1 T.2
section
variable {S:VS} {g:LT} {ns:List TN} {fs:List FT} {dn:Key→Nat} {φ:Int→Nat}
theorem presT_ok {K:Key} {n:TN} (h:presT ns K= .ok n):atT ns K= .ok (some n):=by
 unfold presT at h;cases ha:atT ns K with
 |error e=>rw[ha]at h;cases h
 |ok y=>
  cases y with
  |none=>rw[ha]at h;cases h
  |some m=>rw[ha]at h;cases h;rfl
theorem filT_ok {K:Key} {n:TN} (h:filT ns K= .ok n):atT ns K= .ok (some n)∧n.file≠ -1:=by
 unfold filT at h;cases ha:presT ns K with
 |error e=>rw[ha]at h;cases h
 |ok m=>
  rw[ha]at h;simp only at h;by_cases hf:m.file= -1
  ·rw[if_pos hf]at h;cases h
  rw[if_neg hf]at h;cases h;exact⟨presT_ok ha,hf⟩
theorem vacT_ok {K:Key} (h:vacT ns K=0):atT ns K= .ok none:=by
 unfold vacT at h;cases ha:atT ns K with
 |error e=>rw[ha]at h;have:=atT_err ha;simp only at h;omega
 |ok y=>
  cases y with
  |none=>rfl
  |some m=>rw[ha]at h;cases h
theorem Vt.bytes (h:Vt S ns fs g dn φ) {n:TN} (hn:n∈ns) (hf:n.file≠ -1):bytesF fs n.file=(g (φ n.file)).data:=by obtain⟨_,_,_,⟨f,h4,_,h6⟩,_⟩:=h.rep.file n hn hf;unfold bytesF;rw[h4];exact h6.symm
theorem Vt.look_is (h:Vt S ns fs g dn φ) {p:List UInt8} {n:TN} (ha:atT ns (splitB p)= .ok (some n)):lookP S.cur S.data 0 0 (splitB p)=((dn (splitB p).dropLast:Int),(inoN dn φ n:Int),0):=by have:=h.look p;rw[ha]at this;exact this
theorem Vt.look_isn (h:Vt S ns fs g dn φ) {p:List UInt8} (ha:atT ns (splitB p)= .ok none):lookP S.cur S.data 0 0 (splitB p)=((dn (splitB p).dropLast:Int), -1,0):=by have:=h.look p;rw[ha]at this;exact this
theorem inoF {n:TN} (hf:n.file≠ -1):inoN dn φ n=φ n.file:=by unfold inoN;rw[if_neg hf]
theorem inoD {n:TN} (hf:n.file= -1):inoN dn φ n=dn (keyN n):=by unfold inoN;rw[if_pos hf]
theorem Vt.actOk (h:Vt S ns fs g dn φ) {op:Int} {p q:List UInt8} {mode:Nat} {bs:List UInt8} (hv:validL p=true)
  (hvq:op=3∨op=4∨op=7→validL q=true) (hm:mode<65536) (hb:op=6→bs.length≤8192):ActOk S op p q mode bs:=by
 refine⟨fun _ d hd hn=>?_,fun _ d m hm hd hk hz=>?_,fun e d m d2 hm hd hk he=>?_,fun e d m d2 hm hd hk he hn=>?_,fun _ d m hm hd hk=>?_,fun e d hd hn=>?_,fun e d m d2 hmm hd hk he hn=>?_,fun _ hm5=>⟨h.vol.ph.sw,fun d m hmm hd=>?_⟩⟩
 ·exact(h.new (kind:=1) (bs:=[]) (.inl ⟨rfl,rfl⟩) hv (valid_most hv) hm (by decide)).1 d hd hn
 ·obtain⟨n,ha,rfl,rfl⟩:=h.look_some hd;obtain⟨hP,hno,_⟩:=atT_dir (S:=S) h.rep ha;have hn:=nodeK_some hno.symm;have hf:=(h.kindF hn.1).1 hk;rw[inoD hf,hn.2]at hz ⊢;have hD:IsDir ns (splitB p):=.inr ⟨n,hn.1,hn.2,hf⟩;have h1:=(h.rep.dirSize hD).2;rw[←h.vol.ph.size (h.rep.dirI hD).1,hz]at h1;exact(h.rmdir hv hno.symm hP hf (List.eq_nil_of_length_eq_zero h1.symm)).2
 ·obtain⟨n,ha,rfl,rfl⟩:=h.look_some hd;obtain⟨hP,hno,_⟩:=atT_dir (S:=S) h.rep ha;obtain⟨hb2,rfl⟩:=h.look_none he;obtain⟨hQ,hno2,_⟩:=atT_dir (S:=S) h.rep hb2;have hn:=nodeK_some hno.symm;(have hf:n.file≠ -1:=fun e=>hk ((h.kindF hn.1).2 e));rw[inoF hf];exact(h.rename hv (hvq (by omega)) hno.symm hP hf hQ hno2.symm).2
 ·obtain⟨n,ha,rfl,rfl⟩:=h.look_some hd;obtain⟨hP,hno,_⟩:=atT_dir (S:=S) h.rep ha;obtain⟨hb2,rfl⟩:=h.look_none he;obtain⟨hQ,hno2,_⟩:=atT_dir (S:=S) h.rep hb2;have hnm:=nodeK_some hno.symm;(have hf:n.file≠ -1:=fun e=>hk ((h.kindF hnm.1).2 e));rw[inoF hf];have:=h.nodes;exact(h.link (hvq (by omega)) hnm.1 hf hQ hno2.symm (by omega)).2
 ·obtain⟨n,ha,rfl,rfl⟩:=h.look_some hd;obtain⟨hP,hno,_⟩:=atT_dir (S:=S) h.rep ha;have hn:=nodeK_some hno.symm;(have hf:n.file≠ -1:=fun e=>hk ((h.kindF hn.1).2 e));rw[inoF hf];exact(h.unname hv hno.symm hP hf).2
 ·exact(h.new (kind:=2) (bs:=bs) (.inr rfl) hv (valid_most hv) hm (hb e)).1 d hd hn
 ·obtain⟨n,ha,rfl,rfl⟩:=h.look_some hd;obtain⟨hP,hno,_⟩:=atT_dir (S:=S) h.rep ha;have hnm:=nodeK_some hno.symm;(have hf:n.file≠ -1:=fun e=>hk ((h.kindF hnm.1).2 e));obtain⟨_,hj1,hj2,_⟩:=h.rep.file n hnm.1 hf;have hd2:=h.vol.ph.data _ hj1 hj2;rw[inoF hf]at hk ⊢;refine⟨h.vol.fileRoom _ hj1 hk,?_⟩;rw[hd2];exact(h.new (kind:=2) (bs:=(g (φ n.file)).data) (.inr rfl) (hvq (by omega)) (valid_most (hvq (by omega))) hm (h.vol.ph.fair _ hj1).short).1 d2 he hn
 have:=h.remode hmm hm5;exact Phys.changeOk ⟨h.vol.rB,h.vol.rI⟩ h.vol.ph.use this.like this.ph this.m
theorem Vt.act (h:Vt S ns fs g dn φ) {op:Int} {p q:List UInt8} {mode:Nat} {bs:List UInt8} (hv:validL p=true)
  (hvq:op=3∨op=4∨op=7→validL q=true) (hm:op=1∨op=6∨op=7∨op=8→mode≤511) (hb:op=6→bs.length≤8192):AsT S (actR S op p q mode bs) (actT ns fs op p q mode bs):=by
 unfold actR actT;by_cases h1:op=1
 ·simp only[if_pos h1];rcases(h.new (kind:=1) (mode:=mode) (bs:=[]) (.inl ⟨rfl,rfl⟩) hv (valid_most hv) (by have:=hm (.inl h1);omega) (by decide)).2 with⟨h2,h3⟩|⟨h2,h3⟩
  ·rw[if_neg h2];exact h3
  rw[if_pos h2];exact h3
 simp only[if_neg h1];by_cases h2:op=2
 ·simp only[if_pos h2];unfold rmdirE;rw[h.something p];cases ha:presT ns (splitB p)with
  |error e=>exact rfl
  |ok n=>
   have ha2:=presT_ok ha;obtain⟨hP,hno,_⟩:=atT_dir (S:=S) h.rep ha2;have hnm:=nodeK_some hno.symm;simp only;rw[h.look_is ha2];simp only[Int.toNat_natCast];by_cases hf:n.file= -1
   ·rw[if_neg (show ¬(inoP S.cur (inoN dn φ n)).kind≠1 from fun e=>e ((h.kindF hnm.1).2 hf)),if_neg (show ¬n.file≠ -1 from fun e=>e hf)];have hD:IsDir ns (splitB p):=.inr ⟨n,hnm.1,hnm.2,hf⟩;have hz:=(h.rep.dirSize hD).2;rw[←h.vol.ph.size (h.rep.dirI hD).1]at hz;rw[inoD hf,hnm.2,hz];by_cases hk:0<kidsLen ns (splitB p)
    ·rw[if_pos hk,if_pos hk];exact rfl
    rw[if_neg hk,if_neg hk];exact(h.rmdir hv hno.symm hP hf (List.eq_nil_of_length_eq_zero (by unfold kidsLen at hk;omega))).1
   rw[if_pos (show(inoP S.cur (inoN dn φ n)).kind≠1 from fun e=>hf ((h.kindF hnm.1).1 e)),if_pos hf];exact rfl
 simp only[if_neg h2];by_cases h3:op=3
 ·simp only[if_pos h3];unfold renameE;rw[h.fileOf p];cases ha:filT ns (splitB p)with
  |error e=>exact rfl
  |ok n=>
   obtain⟨ha2,hf⟩:=filT_ok ha;obtain⟨hP,hno,_⟩:=atT_dir (S:=S) h.rep ha2;simp only;rw[h.nothing q];by_cases hva:vacT ns (splitB q)=0
   ·rw[if_pos hva,if_pos hva];have hb2:=vacT_ok hva;obtain⟨hQ,hno2,_⟩:=atT_dir (S:=S) h.rep hb2;simp only;rw[h.look_is ha2,h.look_isn hb2];simp only[Int.toNat_natCast];rw[inoF hf];exact(h.rename hv (hvq (by omega)) hno.symm hP hf hQ hno2.symm).1
   rw[if_neg hva,if_neg hva];exact rfl
 simp only[if_neg h3];by_cases h4:op=4
 ·simp only[if_pos h4];unfold linkE;rw[h.fileOf p];cases ha:filT ns (splitB p)with
  |error e=>exact rfl
  |ok n=>
   obtain⟨ha2,hf⟩:=filT_ok ha;obtain⟨hP,hno,_⟩:=atT_dir (S:=S) h.rep ha2;have hnm:=nodeK_some hno.symm;simp only;rw[h.nothing q];by_cases hva:vacT ns (splitB q)=0
   ·rw[if_pos hva,if_pos hva];have hb2:=vacT_ok hva;obtain⟨hQ,hno2,_⟩:=atT_dir (S:=S) h.rep hb2;simp only;have hnn:=h.nodes;by_cases hr:ns.length<256
    ·rw[if_pos (show S.nodes<256 by omega),if_pos hr,h.look_is ha2,h.look_isn hb2];simp only[Int.toNat_natCast];rw[inoF hf];exact(h.link (hvq (by omega)) hnm.1 hf hQ hno2.symm hr).1
    rw[if_neg (show ¬S.nodes<256 by omega),if_neg hr];exact rfl
   rw[if_neg hva,if_neg hva];exact rfl
 simp only[if_neg h4];by_cases h5:op=5
 ·simp only[if_pos h5];unfold unlinkE;rw[h.fileOf p];cases ha:filT ns (splitB p)with
  |error e=>exact rfl
  |ok n=>obtain⟨ha2,hf⟩:=filT_ok ha;obtain⟨hP,hno,_⟩:=atT_dir (S:=S) h.rep ha2;simp only;rw[h.look_is ha2];simp only[Int.toNat_natCast];rw[inoF hf];exact(h.unname hv hno.symm hP hf).1
 simp only[if_neg h5];by_cases h6:op=6
 ·simp only[if_pos h6];rcases(h.new (kind:=2) (mode:=mode) (bs:=bs) (.inr rfl) hv (valid_most hv) (by have:=hm (.inr (.inl h6));omega) (hb h6)).2 with⟨h7,h8⟩|⟨h7,h8⟩
  ·rw[if_neg h7];exact h8
  rw[if_pos h7];exact h8
 simp only[if_neg h6];by_cases h7:op=7
 ·simp only[if_pos h7];unfold dupE;rw[h.fileOf p];cases ha:filT ns (splitB p)with
  |error e=>exact rfl
  |ok n=>
   obtain⟨ha2,hf⟩:=filT_ok ha;obtain⟨hP,hno,_⟩:=atT_dir (S:=S) h.rep ha2;have hnm:=nodeK_some hno.symm;obtain⟨_,hj1,hj2,_⟩:=h.rep.file n hnm.1 hf;have hd2:=h.vol.ph.data _ hj1 hj2;have hnw:=(h.new (kind:=2) (mode:=mode) (p:=q) (bs:=(g (φ n.file)).data) (.inr rfl) (hvq (by omega)) (valid_most (hvq (by omega))) (by have:=hm (by omega);omega) (h.vol.ph.fair _ hj1).short).2;simp only;rw[h.look_is ha2];simp only[Int.toNat_natCast];rw[inoF hf,hd2,h.bytes hnm.1 hf];unfold newP at hnw;rw[h.nothing q]at hnw ⊢;unfold newT at hnw;by_cases hva:vacT ns (splitB q)=0
   ·have hb2:=vacT_ok hva;rw[if_pos hva]at hnw ⊢;rw[if_pos hva];simp only[hb2]at hnw ⊢;have hnn:=h.nodes;by_cases hr:ns.length<256
    ·simp only[if_pos hr,if_pos (show S.nodes<256 by omega)]at hnw ⊢;rcases hnw with⟨h8,_⟩|⟨_,h9⟩
     ·exact absurd rfl h8
     exact h9
    simp only[if_neg hr,if_neg (show ¬S.nodes<256 by omega)]at hnw ⊢;exact rfl
   rw[if_neg hva,if_neg hva];exact rfl
 simp only[if_neg h7];by_cases h8:op=8
 ·simp only[if_pos h8];unfold chmodE;rw[h.something p];cases ha:presT ns (splitB p)with
  |error e=>exact rfl
  |ok n=>
   have ha2:=presT_ok ha;obtain⟨hP,hno,_⟩:=atT_dir (S:=S) h.rep ha2;have hnm:=nodeK_some hno.symm;simp only;rw[h.look_is ha2];simp only[Int.toNat_natCast];by_cases hf:n.file= -1
   ·rw[if_pos hf,inoD hf];have:=h.chmodDir hnm.1 hf (hm (by omega));rw[hnm.2]at this ⊢;exact this
   rw[if_neg hf,inoF hf,h.bytes hnm.1 hf];exact h.chmodFile hnm.1 hf (hm (by omega))
 simp only[if_neg h8];exact rfl
end
open Go.RowKit
theorem num8_any (x:Int) (w:World):Calls Tryz.prog 16 #[.int .i64 x] w fun e w'=>e= .returned (.int .i64 x)∧w=w':=by go_enter Tryz.func16,Tryz.ntmps16;go_wp2;go_ret;exact⟨rfl,rfl⟩
section
variable {w0 w:World} {R:List Asn}
set_option maxRecDepth 100000 in
set_option maxHeartbeats 4000000 in
theorem fresh_any {b i n:Nat} (hn:n=98+(i+7)/8+b) (hb:1≤b) (hn4:n≤4096) (hi:2≤i) (hi2:i≤1024) (h:Sep w0 w R):
  Calls Tryz.prog 13 #[.int .i64 b,.int .i64 i] w fun e w'=>∃f q p,e= .returned (.tuple #[.pointer (some ⟨p,0,none⟩),.pointer (some ⟨f,0,none⟩),.bool true])∧Sep w0 w' (restR f q p (VS.new n i)::R):=by
 have hnew:Hid (∀W,Sep w0 W R→Calls Tryz.prog 32 #[.int .i64 n] W fun e w'=>∃p,e= .returned (.tuple #[.pointer (some ⟨p,0,none⟩),.int .i64 0])∧Sep w0 w' (diskR p (DK.fresh n)::R)):=Lh fun W hW=>new_any (by omega) hn4 hW
 have hfmt:Hid (∀W p,Sep w0 W (diskR p (DK.fresh n)::R)→Calls Tryz.prog 34 #[.pointer (some ⟨p,0,none⟩),.int .i64 i] W fun e w'=>∃f q,e= .returned (.tuple #[.pointer (some ⟨f,0,none⟩),.int .i64 0])∧Sep w0 w' (restR f q p (VS.new n i)::R)):=Lh fun W p hW=>format_any (by omega) hn4 hi hi2 hW
 have q0:(1:Int)≤b:=by omega
 have q1:(n:Int)≤4096:=by omega
 have q2:(2:Int)≤i:=by omega
 have q3:(i:Int)≤1024:=by omega
 have e0:Int.tdiv ((i:Int)+7) 8=((i+7)/8:Nat):=by rw[Int.tdiv_eq_ediv_of_nonneg (by omega)];omega
 obtain⟨P,hP⟩:∃P,P=(i+7)/8:=⟨_,rfl⟩;rw[←hP]at hn e0;have q4:(P:Int)≤129:=by omega
 have e1:(98:Int)+(P:Int)+b=n:=by omega
 have w1:IntKind.i64.wrap ((i:Int)+7)=(i:Int)+7:=IntWalk.i64_in _ (by omega);have w2:IntKind.i64.wrap ((98:Int)+P)=(98:Int)+P:=IntWalk.i64_in _ (by omega);have w3:IntKind.i64.wrap ((98:Int)+P+b)=n:=by rw[e1];exact IntWalk.i64_in _ (by omega)
 have h1:=Lh h;have w4:IntKind.i64.wrap (P:Int)=P:=IntWalk.i64_in _ (by omega);clear hn hb hn4 hi hi2 h hP;go_enter Tryz.func13,Tryz.ntmps13;go_wp2_with(first |(go_at_call 32;refine(hnew.out _ h1.out).mono ?_;rintro e wn ⟨p,rfl,hS⟩;have h2:=Lh hS;clear hS h1 hnew)|(go_at_call 34;refine(hfmt.out _ _ h2.out).mono ?_;rintro e wf ⟨f,q,rfl,hS⟩;have h3:=Lh hS;clear hS h2 hfmt)|(go_at_call 16;refine(num8_any _ _).mono ?_;rintro e w2 ⟨rfl,rfl⟩))
 go_ret3
 exact⟨f,q,p,rfl,h3.out⟩
end
section
variable {w0 w:World} {R:List Asn} {f q p:Nat} {S:VS} {ns:List TN} {fs:List FT} {nb names:Nat}
structure LiveT (S:VS) (ns:List TN) (fs:List FT) (nb names:Nat):Prop where
 vol:VolT S ns fs nb names
 off:S.D.off=false
 left:S.D.left= -1
theorem live_new {n names:Nat} (h0:98+(names+7)/8<n) (h1:n≤4096) (h2:2≤names) (h3:names≤1024):LiveT (VS.new n names) [] [] n names:=
 ⟨⟨rfl,rfl,_,_,_,new_vt h0 h1 h2 h3⟩,(new_live n names).2.1,(new_live n names).2.2⟩
theorem LiveT.base (h:LiveT S ns fs nb names):LiveT S.base ns fs nb names:=⟨h.vol.base,h.off,h.left⟩
theorem LiveT.ends {r:Except Int (Option VS)} {ns':List TN} {fs':List FT} {x:Int} (hL:LiveT S ns fs nb names) (hok:S.D.ok S.nb) (h96:96<S.nb) (hD:DoneT S.base r ns' fs') (h:endS f q p S.base r w0 w R x):
  if fitsT nb names ns' fs'=true then x=0∧∃S',LiveT S' ns' fs' nb names∧Sep w0 w (restR f q p S'::R)
  else x=27∧∃S',LiveT S' ns fs nb names∧Sep w0 w (restR f q p S'::R):=by
 have h1:=hL.vol.ends hok h96 hD h;split
 ·rename_i hf;rw[if_pos hf]at h1;rcases h1 with⟨hx,S',hV,hl,hS⟩|⟨_,h2,_⟩
  ·obtain⟨l1,l2⟩:=hl hL.off (by rw[hL.left];decide);exact⟨hx,S',⟨hV,l1,l2.trans hL.left⟩,hS⟩
  exact absurd ⟨hL.off,by rw[hL.left];decide⟩ h2
 rename_i hf;rw[if_neg hf]at h1;exact⟨h1.1,S.base,hL.base,h1.2⟩
theorem mkdirT {path tz:List UInt8} {mode:Nat} {kk:Int} (hL:LiveT S ns fs nb names) (hp:path.length≤1048576) (ht:tz.length≤1048576) (hm:mode≤511) (hv:validL path=true) (hne:path≠[])
  (h:Sep w0 w (restR f q p S::R)):
  Calls Tryz.prog 14 #[.pointer (some ⟨f,0,none⟩),.agg #[.int .i64 1,strV path,strV tz,.int .i64 mode,.int .i64 kk],.slice none 0 0] w fun e w'=>∃x,e= .returned (.int .i64 x)∧
   (if newT ns path=0 then(if fitsT nb names (newNs ns fs 1 mode path) fs=true then x=0∧∃S',LiveT S' (newNs ns fs 1 mode path) fs nb names∧Sep w0 w' (restR f q p S'::R)else x=27∧∃S',LiveT S' ns fs nb names∧Sep w0 w' (restR f q p S'::R))
    else x=newT ns path∧∃S',LiveT S' ns fs nb names∧Sep w0 w' (restR f q p S'::R)):=by
 obtain⟨g,dn,φ,hV⟩:=hL.vol.vt
 have hok:=rest_dok h
 have h96:=rest_big h
 have hck:ckP 1 path tz mode kk 0 ([]:List UInt8).length=0:=by unfold ckP checkB;have e1:(fieldsP 1).2.2=true:=rfl;have e2:(fieldsP 1).1=false:=rfl;rw[e1,e2,if_neg (by decide),if_neg (by decide),if_neg (by omega),if_neg (by simp[hne]),if_neg (by simp[hv]),if_pos (by decide)]
 have hN:=hV.new (kind:=1) (mode:=mode) (p:=path) (bs:=[]) (.inl ⟨rfl,rfl⟩) hv hp (by omega) (by decide)
 have hmn:((mode:Nat):Int).toNat=mode:=Int.toNat_natCast _
 refine(do_any (op:=1) (mode:=mode) (kk:=kk) (path:=path) (tz:=tz) (bs:=[]) (A:=none) (n:=0) (c:=0) (by omega) (by omega) (by decide) (by decide) hL.off (by decide) (fun k _ hlt=>absurd hlt (Nat.not_lt_zero _)) hV.vol.vw (fun _=>?_) h).mono ?_
 ·rw[hmn];exact⟨fun _=>hN.1,fun e=>absurd e (by decide),fun e=>absurd e (by decide),fun e=>absurd e (by decide),fun e=>absurd e (by decide),fun e=>absurd e (by decide),fun e=>absurd e (by decide),fun e=>absurd e (by decide)⟩
 ·rintro e w' ⟨x,rfl,hE⟩;refine⟨x,rfl,?_⟩;unfold doR actR at hE;rw[if_pos hck,if_pos rfl,hmn]at hE;rcases hN.2 with⟨hne0,hr⟩|⟨h0,hD⟩
  ·rw[if_neg hne0];rw[hr]at hE;exact⟨hE.1,S.base,hL.base,hE.2⟩
  rw[if_pos h0];exact hL.ends hok h96 hD hE
def rootN (ns:List TN):List (List UInt8):=(kidsN ns []).map fun n=>(keyN n).getLastD []
theorem LiveT.root (hL:LiveT S ns fs nb names):VW S.base∧(inoP S.base.cur 0).kind=1∧listX S.base []=0∧(listN S.base []).Perm (rootN ns)∧(listN S.base []).Pairwise fun x y=>x≤y:=by
 obtain⟨g,dn,φ,hV⟩:=hL.vol.vt;have hk:=hV.vol.rootI;have hx:listX S.base []=0:=by unfold listX;rw[if_pos rfl,if_pos hk]
 have hn:listN S.base []=sortS ((g 0).ents.map (·.1)):=by unfold listN listI;rw[if_pos hx,if_pos rfl,hV.vol.ph.ents 0 hV.vol.ph.n0 hV.vol.root]
 refine⟨hV.vol.vw,hk,hx,?_,?_⟩
 ·rw[hn];refine(sortS_perm _).trans ?_;have:=hV.rep.ents [] (.inl rfl);rw[hV.rep.root]at this;have h2:=this.map (·.1);rw[List.map_map]at h2;exact h2
 rw[hn];exact sortS_le _
theorem listT (hL:LiveT S ns fs nb names) (h:Sep w0 w (restR f q p S::R)):
  Calls Tryz.prog 23 #[.pointer (some ⟨f,0,none⟩),strV []] w fun e w'=>∃v l S',e= .returned (.tuple #[v,.int .i64 0])∧l.Perm (rootN ns)∧(l.Pairwise fun x y=>x≤y)∧LiveT S' ns fs nb names∧Sep w0 w' (strsR v l::restR f q p S'::R):=by
 obtain⟨h1,h2,h3,h4,h5⟩:=hL.root;refine(list_any (path:=[]) (by decide) hL.off h1 h2 h).mono ?_;rintro e w' ⟨v,rfl,hS⟩;rw[h3];exact⟨v,_,S.base,rfl,h4,h5,hL.base,hS⟩
theorem freeT (hL:LiveT S ns fs nb names) (h:Sep w0 w (restR f q p S::R)):
  Calls Tryz.prog 17 #[.pointer (some ⟨f,0,none⟩)] w fun e w'=>e= .returned (cplx (roomB nb names-treeB ns fs) (names-treeI ns))∧∃n,w'=w.drewN n:=by
 obtain⟨g,dn,φ,hV⟩:=hL.vol.vt;have hok:=rest_dok h;have hwB:S.wB=treeB ns fs:=hV.wB;have hwI:S.wI=treeI ns:=hV.wI;have hrB:S.rB=roomB nb names:=by have:=hV.vol.rB;rw[show S.rB=S.base.rB from rfl,this];(show((S.nb-96-(2+(S.names+7)/8):Nat):Int)=_);rw[hL.vol.nm,hL.vol.nbe];rfl
 have hrI:S.rI=names:=by have:=hV.vol.rI;rw[show S.rI=S.base.rI from rfl,this];(show(S.names:Int)=_);rw[hL.vol.nm]
 have h1:=hV.vol.ph.smallW;have h2:=hV.vol.ph.names_le;have h4:nb≤4096:=by have:=hok.few;rw[hL.vol.nbe]at this;exact this
 have h5:roomB nb names≤4096:=by unfold roomB;omega
 have h6:S.base.names=names:=hL.vol.nm;have e1:S.base.wB=S.wB:=rfl;have e2:S.base.wI=S.wI:=rfl;rw[e1,e2]at h1;have:=free_rest (S:=S) (small_of (by omega) (by omega)) (small_of (by omega) (by omega)) (small_of (by omega) (by omega)) (small_of (by omega) (by omega)) (small_of (by omega) (by omega)) (small_of (by omega) (by omega)) h;rw[hrB,hrI,hwB,hwI]at this;exact this
theorem roomT (hL:LiveT S ns fs nb names) (h:Sep w0 w (restR f q p S::R)):
  Calls Tryz.prog 31 #[.pointer (some ⟨f,0,none⟩)] w fun e w'=>e= .returned (cplx (roomB nb names) names)∧w'=w:=by
 obtain⟨g,dn,φ,hV⟩:=hL.vol.vt;have hrB:S.rB=roomB nb names:=by have:=hV.vol.rB;rw[show S.rB=S.base.rB from rfl,this];(show((S.nb-96-(2+(S.names+7)/8):Nat):Int)=_);rw[hL.vol.nm,hL.vol.nbe];rfl
 have hrI:S.rI=names:=by have:=hV.vol.rI;rw[show S.rI=S.base.rI from rfl,this];(show(S.names:Int)=_);rw[hL.vol.nm]
 have:=room_rest h;rw[hrB,hrI]at this;exact this
theorem strs_one {v:Value} {s:List UInt8} (hS:Sep w0 w (strsR v [s]::R)):∃g c,v= .slice (some ⟨g,0,none⟩) 1 c∧w.cell? ⟨g,0,none⟩=some (strV s):=by unfold strsR at hS;obtain⟨g,c,rfl,_⟩:=hS.sl_form 0 rfl Nat.one_pos;refine⟨g,c,rfl,?_⟩;have:=hS.cellAt 0 rfl 0 Nat.one_pos;exact this
theorem one_perm {l:List (List UInt8)} {s:List UInt8} (h:l.Perm [s]):l=[s]:=List.perm_singleton.1 h
theorem cplx_10 :cplx (roomB 110 16) 16= .complex .f64 4621819117588971520 4625196817309499392:=by kernel_rfl
theorem cplx_8 :cplx (roomB 110 16-treeB (newNs [] [] 1 493 [97]) []) (16-treeI (newNs [] [] 1 493 [97]))= .complex .f64 4620693217682128896 4624070917402656768:=by kernel_rfl
set_option maxRecDepth 100000 in
set_option maxHeartbeats 4000000 in
theorem alive8_any (h:Sep w0 w R):Calls Tryz.prog 12 #[] w fun e w'=>e= .returned (.bool true)∧Sep w0 w' R:=by
 have hfr:=Lh (fresh_any (b:=10) (i:=16) (n:=110) rfl (by decide) (by decide) (by decide) (by decide) h);have hL0:=live_new (n:=110) (names:=16) (by decide) (by decide) (by decide) (by decide);obtain⟨S0,hS0⟩:∃S0,S0=VS.new 110 16:=⟨_,rfl⟩;rw[←hS0]at hfr hL0;have hrm:Hid (∀W f q p,Sep w0 W (restR f q p S0::R)→Calls Tryz.prog 31 #[.pointer (some ⟨f,0,none⟩)] W fun e w'=>e= .returned (.complex .f64 4621819117588971520 4625196817309499392)∧W=w'):=Lh fun W f q p hW=>(roomT hL0 hW).mono fun e w' ⟨h1,h2⟩=>⟨h1.trans (congrArg _ cplx_10),h2.symm⟩
 have hmk:Hid (∀W f q p,Sep w0 W (restR f q p S0::R)→Calls Tryz.prog 14 #[.pointer (some ⟨f,0,none⟩),.agg #[.int .i64 1,.string ⟨#[97]⟩,.string ⟨#[]⟩,.int .i64 493,.int .i64 0],.slice none 0 0] W fun e w'=>e= .returned (.int .i64 0)∧∃S',LiveT S' (newNs [] [] 1 493 [97]) [] 110 16∧Sep w0 w' (restR f q p S'::R)):=Lh fun W f q p hW=>
  (mkdirT (path:=[97]) (tz:=[]) (mode:=493) (kk:=0) hL0 (by decide) (by decide) (by decide) (by decide) (by decide) hW).mono fun e w' ⟨x,h1,h2⟩=>by rw[if_pos (by rfl),if_pos (by rfl)]at h2;exact⟨by rw[h1,h2.1],h2.2⟩
 have hls:Hid (∀W f q p S',LiveT S' (newNs [] [] 1 493 [97]) [] 110 16→Sep w0 W (restR f q p S'::R)→Calls Tryz.prog 23 #[.pointer (some ⟨f,0,none⟩),.string ⟨#[]⟩] W fun e w'=>∃g c S'',e= .returned (.tuple #[.slice (some ⟨g,0,none⟩) 1 c,.int .i64 0])∧w'.cell? ⟨g,0,none⟩=some (.string ⟨#[97]⟩)∧LiveT S'' (newNs [] [] 1 493 [97]) [] 110 16∧Sep w0 w' (restR f q p S''::R)):=Lh fun W f q p S' hL hW=>
  (listT hL hW).mono fun e w' ⟨v,l,S'',h1,h2,_,h4,h5⟩=>by have e1:l=[[97]]:=one_perm h2;subst e1;obtain⟨g,c,rfl,hc⟩:=strs_one h5;exact⟨g,c,S'',h1,hc,h4,h5.drop 1⟩
 have hfe:Hid (∀W f q p S',LiveT S' (newNs [] [] 1 493 [97]) [] 110 16→Sep w0 W (restR f q p S'::R)→Calls Tryz.prog 17 #[.pointer (some ⟨f,0,none⟩)] W fun e w'=>e= .returned (.complex .f64 4620693217682128896 4624070917402656768)∧∃n,w'=W.drewN n):=Lh fun W f q p S' hL hW=>
  (freeT hL hW).mono fun e w' ⟨h1,h2⟩=>⟨h1.trans (congrArg _ cplx_8),h2⟩
 clear hS0 hL0 h;go_enter Tryz.func12,Tryz.ntmps12;go_wp2_with(first |(go_at_call 13;refine hfr.out.mono ?_;rintro e wn ⟨f,q,p,rfl,hS⟩;have h1:=Lh hS;clear hS hfr)|(go_at_call 31;refine(hrm.out _ _ _ _ h1.out).mono ?_;rintro e wr ⟨rfl,rfl⟩)|(go_at_call 14;refine(hmk.out _ _ _ _ h1.out).mono ?_;rintro e wm ⟨rfl,S1,hL1,hS⟩;have h2:=Lh hS;have hL2:=Lh hL1;clear hS hL1 h1 hmk hrm)|(go_at_call 23;refine(hls.out _ _ _ _ _ hL2.out h2.out).mono ?_;rintro e wl ⟨g,c,S2,rfl,hc,hL,hS⟩;have h3:=Lh hS;have hL3:=Lh hL;clear hS hL h2 hL2 hls)|(go_at_call 17;refine(hfe.out _ _ _ _ _ hL3.out h3.out).mono ?_;rintro e we ⟨rfl,nn,rfl⟩)|(go_at_call 16;refine(num8_any _ _).mono ?_;rintro e w2 ⟨rfl,rfl⟩));go_ret;exact⟨rfl,(h3.out.drop 1).drewN _⟩
end
structure TreeX where
 e:Int
 ns:List TN
 fs:List FT
def roomX (nb names:Nat) (ns:List TN) (fs:List FT):Except Int (List TN×List FT)→TreeX
 | .error k=>⟨k,ns,fs⟩
 | .ok T=>if fitsT nb names T.1 T.2=true then⟨0,T.1,T.2⟩else⟨27,ns,fs⟩
def doX (nb names:Nat) (ns:List TN) (fs:List FT) (op:Int) (p q:List UInt8) (mode kk:Int) (n:Nat) (bs:List UInt8):TreeX:=
 if ckP op p q mode kk n bs.length=0 then roomX nb names ns fs (if op=9 then .error 0 else actT ns fs op p q mode.toNat bs)else⟨ckP op p q mode kk n bs.length,ns,fs⟩
def putX (nb names:Nat) (ns:List TN) (fs:List FT) (p bs:List UInt8):TreeX:=
 roomX nb names ns fs (if putT ns p bs.length=0 then .ok (putNs ns fs p,putFs ns fs p bs)else .error (putT ns p bs.length))
section
variable {w0 w:World} {R:List Asn} {f q p:Nat} {S:VS} {ns:List TN} {fs:List FT} {nb names:Nat}
theorem LiveT.asT {r:Except Int (Option VS)} {A:Except Int (List TN×List FT)} {x:Int} (hL:LiveT S ns fs nb names) (hok:S.D.ok S.nb) (h96:96<S.nb) (hA:AsT S.base r A) (h:endS f q p S.base r w0 w R x):
  x=(roomX nb names ns fs A).e∧∃S',LiveT S' (roomX nb names ns fs A).ns (roomX nb names ns fs A).fs nb names∧Sep w0 w (restR f q p S'::R):=by
 cases A with
 |error k=>have hr:r= .error k:=hA;rw[hr]at h;exact⟨h.1,S.base,hL.base,h.2⟩
 |ok T=>
  have h1:=hL.ends hok h96 hA h;unfold roomX;simp only;split
  ·rename_i hf;rw[if_pos hf]at h1;exact h1
  rename_i hf;rw[if_neg hf]at h1;exact h1
theorem doT {op mode kk:Int} {path tz bs:List UInt8} {A:Option Addr} {n c:Nat} (hL:LiveT S ns fs nb names) (hp:path.length≤9223372036854775807) (ht:tz.length≤9223372036854775807) (hn:n≤9223372036854775807) (hlen:bs.length≤9223372036854775807)
  (hop: -9223372036854775808≤op∧op≤9223372036854775807) (hst:StockIn w0 R A n kk bs) (h:Sep w0 w (restR f q p S::R)):
  Calls Tryz.prog 14 #[.pointer (some ⟨f,0,none⟩),.agg #[.int .i64 op,strV path,strV tz,.int .i64 mode,.int .i64 kk],.slice A n c] w fun e w'=>
   e= .returned (.int .i64 (doX nb names ns fs op path tz mode kk n bs).e)∧∃S',LiveT S' (doX nb names ns fs op path tz mode kk n bs).ns (doX nb names ns fs op path tz mode kk n bs).fs nb names∧Sep w0 w' (restR f q p S'::R):=by
 obtain⟨g,dn,φ,hV⟩:=hL.vol.vt
 have hok:=rest_dok h
 have h96:=rest_big h
 have facts:ckP op path tz mode kk n bs.length=0→op=9∨(op≠9∧validL path=true∧(op=3∨op=4∨op=7→validL tz=true)∧(op=1∨op=6∨op=7∨op=8→mode.toNat≤511)∧(op=6→bs.length≤8192)):=fun h0=>by
  rcases ck_zero h0 with h9|⟨_,h9,hk⟩
  ·exact .inl h9
  refine .inr ⟨h9,hk.valid,fun e=>hk.valid2 ?_,fun e=>?_,fun e=>(hk.data e).2.2⟩
  ·rcases e with rfl|rfl|rfl<;>rfl
  have:=hk.mode (by rcases e with rfl|rfl|rfl|rfl<;>rfl);omega
 refine(do_any (op:=op) (mode:=mode) (kk:=kk) (path:=path) (tz:=tz) (bs:=bs) hp ht hn hlen hL.off hop hst hV.vol.vw (fun h0=>?_) h).mono ?_
 ·rcases facts h0 with rfl|⟨h9,hv,hvq,hm,hb⟩
  ·exact⟨fun e=>absurd e (by decide),fun e=>absurd e (by decide),fun e=>absurd e (by decide),fun e=>absurd e (by decide),fun e=>absurd e (by decide),fun e=>absurd e (by decide),fun e=>absurd e (by decide),fun e=>absurd e (by decide)⟩
  by_cases hm5:mode.toNat<65536
  ·exact hV.actOk hv hvq hm5 hb
  (have hno:¬(op=1∨op=6∨op=7∨op=8):=fun e=>by have:=hm e;omega);have h2:=hV.actOk (op:=op) (mode:=0) (bs:=bs) hv hvq (by decide) hb;exact⟨fun e=>absurd (.inl e) hno,h2.rm,h2.mv,h2.ln,h2.un,fun e=>absurd (.inr (.inl e)) hno,fun e=>absurd (.inr (.inr (.inl e))) hno,fun e=>absurd (.inr (.inr (.inr e))) hno⟩
 ·rintro e w' ⟨x,rfl,hE⟩;unfold doR at hE;unfold doX;by_cases h0:ckP op path tz mode kk n bs.length=0
  ·rw[if_pos h0]at hE ⊢;have hA:AsT S.base (actR S.base op path tz mode.toNat bs) (if op=9 then .error 0 else actT ns fs op path tz mode.toNat bs):=by
    rcases facts h0 with rfl|⟨h9,hv,hvq,hm,hb⟩
    ·exact rfl
    rw[if_neg h9];exact hV.act hv hvq hm hb
   obtain⟨h1,h2⟩:=hL.asT hok h96 hA hE;rw[h1];exact⟨rfl,h2⟩
  rw[if_neg h0]at hE ⊢;exact⟨by rw[hE.1],S.base,hL.base,hE.2⟩
theorem putL {path bs:List UInt8} {A:Option Addr} {c:Nat} (hL:LiveT S ns fs nb names) (hp:path.length≤1048576) (hlen:bs.length≤4611686018427387903) (hst:Tells w0 R (.slice A bs.length c) bs) (h:Sep w0 w (restR f q p S::R)):
  Calls Tryz.prog 21 #[.pointer (some ⟨f,0,none⟩),strV path,.slice A bs.length c] w fun e w'=>
   e= .returned (.int .i64 (putX nb names ns fs path bs).e)∧∃S',LiveT S' (putX nb names ns fs path bs).ns (putX nb names ns fs path bs).fs nb names∧Sep w0 w' (restR f q p S'::R):=by
 obtain⟨g,dn,φ,hV⟩:=hL.vol.vt
 have hok:=rest_dok h
 have h96:=rest_big h
 have hP:=hV.put (bs:=bs) hp
 refine(putf_any hp hlen hL.off hV.vol.vw hst hP.1 h).mono ?_
 rintro e w' ⟨x,rfl,hE⟩
 have hA:AsT S.base (putR S.base path bs) (if putT ns path bs.length=0 then .ok (putNs ns fs path,putFs ns fs path bs)else .error (putT ns path bs.length)):=by
  rcases hP.2 with⟨h1,h2⟩|⟨h1,h2⟩
  ·rw[if_neg h1];exact h2
  rw[if_pos h1];exact h2
 obtain⟨h1,h2⟩:=hL.asT hok h96 hA hE
 rw[h1]
 exact⟨rfl,h2⟩
end
def rdX (ns:List TN) (path:List UInt8):Int:=if plainE path=0 then(match filT ns (splitB path)with| .error e=>e| .ok _=>0)else plainE path
def rdB (ns:List TN) (fs:List FT) (path:List UInt8):List UInt8:=if plainE path=0 then(match filT ns (splitB path)with| .error _=>[]| .ok n=>bytesF fs n.file)else []
section
variable {w0 w:World} {R:List Asn} {f q p:Nat} {S:VS} {ns:List TN} {fs:List FT} {nb names:Nat}
theorem filT_err {K:Key} {e:Int} (h:filT ns K= .error e):e≠0:=by
 unfold filT presT at h;cases ha:atT ns K with
 |error k=>rw[ha]at h;cases h;have:=atT_err ha;omega
 |ok y=>
  rw[ha]at h;cases y with
  |none=>cases h;decide
  |some n=>
   simp only at h;split at h
   ·cases h;decide
   cases h
theorem Vt.read {g:LT} {dn:Key→Nat} {φ:Int→Nat} (h:Vt S ns fs g dn φ) (path:List UInt8):readX S path=rdX ns path∧readB S path=rdB ns fs path:=by
 have hX:readX S path=rdX ns path:=by
  unfold readX rdX;split
  ·rw[h.fileOf path];cases filT ns (splitB path)<;>rfl
  rfl
 refine⟨hX,?_⟩;unfold readB;rw[hX];unfold rdX rdB;by_cases hE:plainE path=0
 ·rw[if_pos hE,if_pos hE];cases ha:filT ns (splitB path)with
  |error e=>simp only;rw[if_neg (filT_err ha)]
  |ok n=>simp only;rw[if_pos trivial];obtain⟨ha2,hf⟩:=filT_ok ha;obtain⟨_,hno,_⟩:=atT_dir (S:=S) h.rep ha2;have hnm:=nodeK_some hno.symm;obtain⟨_,hj1,hj2,_⟩:=h.rep.file n hnm.1 hf;rw[h.look_is ha2];simp only[Int.toNat_natCast];rw[inoF hf,h.vol.ph.data _ hj1 hj2,h.bytes hnm.1 hf]
 rw[if_neg hE,if_neg hE,if_neg hE]
theorem readT {path:List UInt8} (hL:LiveT S ns fs nb names) (hp:path.length≤1048576) (h:Sep w0 w (restR f q p S::R)):
  Calls Tryz.prog 25 #[.pointer (some ⟨f,0,none⟩),strV path] w fun e w'=>∃v S',e= .returned (.tuple #[v,.int .i64 (rdX ns path)])∧LiveT S' ns fs nb names∧Sep w0 w' (bytesR v (rdB ns fs path)::restR f q p S'::R):=by
 obtain⟨g,dn,φ,hV⟩:=hL.vol.vt;obtain⟨h1,h2⟩:=hV.read path;refine(read_any hp hL.off hV.vol.vw hV.vol.fileRoom h).mono ?_;rintro e w' ⟨v,rfl,hS⟩;rw[h1];rw[h2]at hS;exact⟨v,S.base,rfl,hL.base,hS⟩
end
end Go.Proofs.YteihmbaimbogaaaGreat
