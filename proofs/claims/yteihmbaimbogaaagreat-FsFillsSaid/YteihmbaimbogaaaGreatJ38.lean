/- FxA, FxB, FvT, FvU, FxC, FxD, FxE, FxL, FzI, QKit14, QLent0, laid together. -/
import Derived.Test.YteihmbaimbogaaaGreatJ37
namespace Go.Proofs.YteihmbaimbogaaaGreat
set_option linter.unusedVariables false
set_option linter.unusedSimpArgs false
def xW (ns:List TN) (K:Key):Except Int TN:=match KI ns K with
 | .error e=>.error e
 | .ok none=>.error 21
 | .ok (some n)=>.ok n
def JN (ns:List TN) (K:Key):Except Int TN:=match xW ns K with
 | .error e=>.error e
 | .ok n=>if n.file= -1 then .error 24 else .ok n
def abS (ns:List TN) (K:Key):Int:=match KI ns K with
 | .error e=>e
 | .ok (some _)=>23
 | .ok none=>0
def CS (fs:List FT) (k:Int):List UInt8:=((fs[k.toNat]?).map (·.bs)).getD []
section
variable {S:VS} {g:LT} {ns:List TN} {fs:List FT} {dn:Key→Nat} {φ:Int→Nat}
theorem Vt.abT (h:Vt S ns fs g dn φ) {p:List UInt8} {d m:Nat} (hl:aW S.cur S.data 0 0 (splitB p)=((d:Int),(m:Int),0)):
  ∃n,KI ns (splitB p)= .ok (some n)∧d=dn (splitB p).dropLast∧m=dJ dn φ n:=by
 have hL:=h.look p;rw[hl]at hL;cases ha:KI ns (splitB p)with
 |error e=>rw[ha]at hL;simp only at hL;have:=FO ha;have e1:(0:Int)=e:=congrArg (fun x:Int×Int×Int=>x.2.2) hL;omega
 |ok y=>
  cases y with
  |none=>rw[ha]at hL;simp only at hL;have e1:(m:Int)= -1:=congrArg (fun x:Int×Int×Int=>x.2.1) hL;omega
  |some n=>rw[ha]at hL;simp only at hL;have e1:(d:Int)=dn (splitB p).dropLast:=congrArg (fun x:Int×Int×Int=>x.1) hL;have e2:(m:Int)=dJ dn φ n:=congrArg (fun x:Int×Int×Int=>x.2.1) hL;exact⟨n,rfl,by omega,by omega⟩
theorem Vt.amG (h:Vt S ns fs g dn φ) {n:TN} (hn:n∈ns):(aF S.cur (dJ dn φ n)).kind=1↔n.file= -1:=by
 obtain⟨hk1,hk2⟩:=h.rep.I8 hn;rw[h.kS.ph.kind hk1];rcases hk2 with⟨h1,h2⟩|⟨h1,h2⟩
 ·exact⟨fun _=>h1,fun _=>h2⟩
 exact⟨fun e=>(by rw[h2]at e;cases e),fun e=>absurd e h1⟩
theorem Vt.something (h:Vt S ns fs g dn φ) (p:List UInt8):eD (aW S.cur S.data 0 0 (splitB p))=match xW ns (splitB p)with| .error e=>some e| .ok _=>none:=by
 have hL:=h.look p;unfold xW;cases ha:KI ns (splitB p)with
 |error e=>rw[ha]at hL;simp only at hL;have:=FO ha;rw[hL];unfold eD;simp only;rw[if_neg (by omega)]
 |ok y=>
  cases y with
  |none=>rw[ha]at hL;simp only at hL;rw[hL];rfl
  |some n=>rw[ha]at hL;simp only at hL;rw[hL];unfold eD;simp only;rw[if_pos trivial,if_neg (by omega)]
theorem Vt.fileOf (h:Vt S ns fs g dn φ) (p:List UInt8):qR S.cur (aW S.cur S.data 0 0 (splitB p))=match JN ns (splitB p)with| .error e=>some e| .ok _=>none:=by
 have hL:=h.look p;unfold JN xW;cases ha:KI ns (splitB p)with
 |error e=>rw[ha]at hL;simp only at hL;have:=FO ha;rw[hL];unfold qR;simp only;rw[if_neg (by omega)]
 |ok y=>
  cases y with
  |none=>rw[ha]at hL;simp only at hL;rw[hL];rfl
  |some n=>
   rw[ha]at hL;simp only at hL;obtain⟨_,hno,_⟩:=AV (S:=S) h.rep ha;have hk:=h.amG (nG hno.symm).1;rw[hL];unfold qR;simp only;rw[if_pos trivial,if_neg (by omega),Int.toNat_natCast];by_cases hf:n.file= -1
   ·rw[if_pos (hk.2 hf),if_pos hf]
   rw[if_neg (fun e=>hf (hk.1 e)),if_neg hf]
end
def CU (ns:List TN) (fs:List FT) (op:Int) (p q:List UInt8) (mode:Nat) (bs:List UInt8):Except Int (List TN×List FT):=
 if op=1 then(if uV ns p=0 then .ok (fJ ns fs 1 mode p,fs)else .error (uV ns p))
 else if op=2 then(match xW ns (splitB p)with
  | .error e=>.error e
  | .ok n=>if n.file≠ -1 then .error 22 else if 0<gI ns (splitB p)then .error 25 else .ok (kU ns (splitB p),fs))
 else if op=3 then(match JN ns (splitB p)with
  | .error e=>.error e
  | .ok n=>if abS ns (splitB q)=0 then .ok (kU ns (splitB p)++[⟨q,n.file,0⟩],fs)else .error (abS ns (splitB q)))
 else if op=4 then(match JN ns (splitB p)with
  | .error e=>.error e
  | .ok n=>if abS ns (splitB q)=0 then(if ns.length<256 then .ok (ns++[⟨q,n.file,0⟩],fs)else .error 31)else .error (abS ns (splitB q)))
 else if op=5 then(match JN ns (splitB p)with
  | .error e=>.error e
  | .ok n=>.ok (kU ns (splitB p),fs))
 else if op=6 then(if uV ns p=0 then .ok (fJ ns fs 2 mode p,mU fs 2 mode bs)else .error (uV ns p))
 else if op=7 then(match JN ns (splitB p)with
  | .error e=>.error e
  | .ok n=>if abS ns (splitB q)=0 then(if ns.length<256 then .ok (fJ ns fs 2 mode q,mU fs 2 mode (CS fs n.file))else .error 31)else .error (abS ns (splitB q)))
 else if op=8 then(match xW ns (splitB p)with
  | .error e=>.error e
  | .ok n=>if n.file= -1 then .ok (⟨n.path, -1,mode⟩::kU ns (splitB p),fs)else .ok (ns,fs.set n.file.toNat ⟨mode,CS fs n.file⟩))
 else .error 0
def AsT (φ:Int→Nat) (m:Nat) (S:VS) (r:Except Int (Option VS)):Except Int (List TN×List FT)→Prop
 | .error e=>r= .error e
 | .ok T=>TG φ m S r T.1 T.2
section
variable {S:VS} {g:LT} {ns:List TN} {fs:List FT} {dn:Key→Nat} {φ:Int→Nat}
theorem agE {K:Key} {n:TN} (h:xW ns K= .ok n):KI ns K= .ok (some n):=by
 unfold xW at h;cases ha:KI ns K with
 |error e=>rw[ha]at h;cases h
 |ok y=>
  cases y with
  |none=>rw[ha]at h;cases h
  |some m=>rw[ha]at h;cases h;rfl
theorem aj8 {K:Key} {n:TN} (h:JN ns K= .ok n):KI ns K= .ok (some n)∧n.file≠ -1:=by
 unfold JN at h;cases ha:xW ns K with
 |error e=>rw[ha]at h;cases h
 |ok m=>
  rw[ha]at h;simp only at h;by_cases hf:m.file= -1
  ·rw[if_pos hf]at h;cases h
  rw[if_neg hf]at h;cases h;exact⟨agE ha,hf⟩
theorem Vt.aj9 (h:Vt S ns fs g dn φ) {p:List UInt8} {n:TN} (ha:KI ns (splitB p)= .ok (some n)):aW S.cur S.data 0 0 (splitB p)=((dn (splitB p).dropLast:Int),(dJ dn φ n:Int),0):=by have:=h.look p;rw[ha]at this;exact this
theorem asJ {n:TN} (hf:n.file≠ -1):dJ dn φ n=φ n.file:=by unfold dJ;rw[if_neg hf]
end
open Go.RowKit
theorem vV (x:Int) (w:World):Calls Tryz.prog 16 #[.int .i64 x] w fun e w'=>e= .returned (.int .i64 x)∧w=w':=by go_enter Tryz.func16,Tryz.ntmps16;go_wp2;go_ret;exact⟨rfl,rfl⟩
section
variable {w0 w:World} {R:List aU}
set_option maxRecDepth 100000 in
set_option maxHeartbeats 4000000 in
theorem M4 {b i n:Nat} (hn:n=98+(i+7)/8+b) (hb:1≤b) (hn4:n≤4096) (hi:2≤i) (hi2:i≤1024) (h:Sep w0 w R):
  Calls Tryz.prog 13 #[.int .i64 b,.int .i64 i] w fun e w'=>∃f q p,e= .returned (.tuple #[.pointer (some ⟨p,0,none⟩),.pointer (some ⟨f,0,none⟩),.bool true])∧Sep w0 w' (bJ f q p (VS.new n i)::R):=by
 have hnew:Hid (∀W,Sep w0 W R→Calls Tryz.prog 32 #[.int .i64 n] W fun e w'=>∃p,e= .returned (.tuple #[.pointer (some ⟨p,0,none⟩),.int .i64 0])∧Sep w0 w' (aJ p (DK.fresh n)::R)):=Lh fun W hW=>aj2 (by omega) hn4 hW
 have hfmt:Hid (∀W p,Sep w0 W (aJ p (DK.fresh n)::R)→Calls Tryz.prog 34 #[.pointer (some ⟨p,0,none⟩),.int .i64 i] W fun e w'=>∃f q,e= .returned (.tuple #[.pointer (some ⟨f,0,none⟩),.int .i64 0])∧Sep w0 w' (bJ f q p (VS.new n i)::R)):=Lh fun W p hW=>WT (by omega) hn4 hi hi2 hW
 have q0:(1:Int)≤b:=by omega
 have q1:(n:Int)≤4096:=by omega
 have q2:(2:Int)≤i:=by omega
 have q3:(i:Int)≤1024:=by omega
 have e0:Int.tdiv ((i:Int)+7) 8=((i+7)/8:Nat):=by rw[Int.tdiv_eq_ediv_of_nonneg (by omega)];omega
 obtain⟨P,hP⟩:∃P,P=(i+7)/8:=⟨_,rfl⟩;rw[←hP]at hn e0;have q4:(P:Int)≤129:=by omega
 have e1:(98:Int)+(P:Int)+b=n:=by omega
 have w1:IntKind.i64.wrap ((i:Int)+7)=(i:Int)+7:=IntWalk.i64_in _ (by omega);have w2:IntKind.i64.wrap ((98:Int)+P)=(98:Int)+P:=IntWalk.i64_in _ (by omega);have w3:IntKind.i64.wrap ((98:Int)+P+b)=n:=by rw[e1];exact IntWalk.i64_in _ (by omega)
 have h1:=Lh h;have w4:IntKind.i64.wrap (P:Int)=P:=IntWalk.i64_in _ (by omega);clear hn hb hn4 hi hi2 h hP;go_enter Tryz.func13,Tryz.ntmps13;go_wp2_with(first |(go_at_call 32;refine(hnew.out _ h1.out).mono ?_;rintro e wn ⟨p,rfl,hS⟩;have h2:=Lh hS;clear hS h1 hnew)|(go_at_call 34;refine(hfmt.out _ _ h2.out).mono ?_;rintro e wf ⟨f,q,rfl,hS⟩;have h3:=Lh hS;clear hS h2 hfmt)|(go_at_call 16;refine(vV _ _).mono ?_;rintro e w2 ⟨rfl,rfl⟩))
 go_ret3
 exact⟨f,q,p,rfl,h3.out⟩
end
section
variable {w0 w:World} {R:List aU} {f q p:Nat} {S:VS} {ns:List TN} {fs:List FT} {nb names:Nat}
structure fK (S:VS) (ns:List TN) (fs:List FT) (nb names:Nat):Prop where
 kS:WU S ns fs nb names
 off:S.D.off=false
 left:S.D.left= -1
theorem TT {n names:Nat} (h0:98+(names+7)/8<n) (h1:n≤4096) (h2:2≤names) (h3:names≤1024):fK (VS.new n names) [] [] n names:=
 ⟨⟨rfl,rfl,_,_,_,anU h0 h1 h2 h3⟩,(JM n names).2.1,(JM n names).2.2⟩
theorem fK.base (h:fK S ns fs nb names):fK S.base ns fs nb names:=⟨h.kS.base,h.off,h.left⟩
theorem fK.ends {r:Except Int (Option VS)} {ns':List TN} {fs':List FT} {x:Int} {g:LT} {dn:Key→Nat} {φ:Int→Nat} (hL:fK S ns fs nb names) (hV:Vt S.base ns fs g dn φ) (hok:S.D.ok S.nb) (KR:96<S.nb) (hD:TG φ fs.length S.base r ns' fs') (h:rD f q p S.base r w0 w R x):
  if pY nb names ns' fs'=true then x=0∧∃S',fK S' ns' fs' nb names∧agC S S' ns' fs' φ fs.length∧Sep w0 w (bJ f q p S'::R)
  else x=27∧∃S',fK S' ns fs nb names∧agC S S' ns fs φ fs.length∧Sep w0 w (bJ f q p S'::R):=by
 have h1:=hL.kS.ends hV hok KR hD h;split
 ·rename_i hf;rw[if_pos hf]at h1;rcases h1 with⟨hx,S',hV',hI,hl,hS⟩|⟨_,h2,_⟩
  ·obtain⟨l1,l2⟩:=hl hL.off (by rw[hL.left];decide);exact⟨hx,S',⟨hV',l1,l2.trans hL.left⟩,hI,hS⟩
  exact absurd ⟨hL.off,by rw[hL.left];decide⟩ h2
 rename_i hf;rw[if_neg hf]at h1;exact⟨h1.1,S.base,hL.base,⟨.inl rfl,g,dn,φ,hV,fun _ _=>rfl⟩,h1.2⟩
theorem anV {path tz:List UInt8} {mode:Nat} {kk:Int} (hL:fK S ns fs nb names) (hp:path.length≤1048576) (ht:tz.length≤1048576) (hm:mode≤511) (hv:aP path=true) (hne:path≠[])
  (h:Sep w0 w (bJ f q p S::R)):
  Calls Tryz.prog 14 #[.pointer (some ⟨f,0,none⟩),.agg #[.int .i64 1,aM path,aM tz,.int .i64 mode,.int .i64 kk],.slice none 0 0] w fun e w'=>∃x,e= .returned (.int .i64 x)∧
   (if uV ns path=0 then(if pY nb names (fJ ns fs 1 mode path) fs=true then x=0∧∃S',fK S' (fJ ns fs 1 mode path) fs nb names∧Sep w0 w' (bJ f q p S'::R)else x=27∧∃S',fK S' ns fs nb names∧Sep w0 w' (bJ f q p S'::R))
    else x=uV ns path∧∃S',fK S' ns fs nb names∧Sep w0 w' (bJ f q p S'::R)):=by
 obtain⟨g,dn,φ,hV⟩:=hL.kS.vt
 have hok:=I5 h
 have KR:=TS h
 have hck:AB 1 path tz mode kk 0 ([]:List UInt8).length=0:=by unfold AB nD;have e1:(bA 1).2.2=true:=rfl;have e2:(bA 1).1=false:=rfl;rw[e1,e2,if_neg (by decide),if_neg (by decide),if_neg (by omega),if_neg (by simp[hne]),if_neg (by simp[hv]),if_pos (by decide)]
 have hN:=hV.new (kind:=1) (mode:=mode) (p:=path) (bs:=[]) (.inl ⟨rfl,rfl⟩) hv hp (by omega) (by decide)
 have hmn:((mode:Nat):Int).toNat=mode:=Int.toNat_natCast _
 refine(afK (op:=1) (mode:=mode) (kk:=kk) (path:=path) (tz:=tz) (bs:=[]) (A:=none) (n:=0) (c:=0) (by omega) (by omega) (by decide) (by decide) hL.off (.inl rfl) (fun k _ hlt=>absurd hlt (Nat.not_lt_zero _)) hV.kS.vw (fun _=>?_) h).mono ?_
 ·rw[hmn];exact⟨fun _=>hN.1,fun e=>absurd e (by decide),fun e=>absurd e (by decide),fun e=>absurd e (by decide),fun e=>absurd e (by decide),fun e=>absurd e (by decide),fun e=>absurd e (by decide),fun e=>absurd e (by decide)⟩
 ·rintro e w' ⟨x,rfl,hE⟩;refine⟨x,rfl,?_⟩;unfold doR IZ at hE;rw[if_pos hck,if_pos rfl,hmn]at hE;rcases hN.2 with⟨hne0,hr⟩|⟨h0,hD⟩
  ·rw[if_neg hne0];rw[hr]at hE;exact⟨hE.1,S.base,hL.base,hE.2⟩
  rw[if_pos h0];have hX:=hL.ends hV hok KR hD hE;split at hX
  ·rename_i hf;obtain⟨x1,S',x2,_,x3⟩:=hX;rw[if_pos (show pY nb names (fJ ns fs 1 mode path) fs=true from hf)];exact⟨x1,S',x2,x3⟩
  rename_i hf;obtain⟨x1,S',x2,_,x3⟩:=hX;rw[if_neg (show ¬pY nb names (fJ ns fs 1 mode path) fs=true from hf)];exact⟨x1,S',x2,x3⟩
def amH (ns:List TN):List (List UInt8):=(fU ns []).map fun n=>(bK n).getLastD []
theorem fK.root (hL:fK S ns fs nb names):VW S.base∧(aF S.base.cur 0).kind=1∧lX S.base []=0∧(mK S.base []).Perm (amH ns)∧(mK S.base []).Pairwise fun x y=>x≤y:=by
 obtain⟨g,dn,φ,hV⟩:=hL.kS.vt;have hk:=hV.kS.arT;have hx:lX S.base []=0:=by unfold lX;rw[if_pos rfl,if_pos hk]
 have hn:mK S.base []=uL ((g 0).aY.map (·.1)):=by unfold mK afQ;rw[if_pos hx,if_pos rfl,hV.kS.ph.aY 0 hV.kS.ph.n0 hV.kS.root]
 refine⟨hV.kS.vw,hk,hx,?_,?_⟩
 ·rw[hn];refine(JF _).trans ?_;have:=hV.rep.aY [] (.inl rfl);rw[hV.rep.root]at this;have h2:=this.map (·.1);rw[List.map_map]at h2;exact h2
 rw[hn];exact afP _
theorem asK (hL:fK S ns fs nb names) (h:Sep w0 w (bJ f q p S::R)):
  Calls Tryz.prog 23 #[.pointer (some ⟨f,0,none⟩),aM []] w fun e w'=>∃v l S',e= .returned (.tuple #[v,.int .i64 0])∧l.Perm (amH ns)∧(l.Pairwise fun x y=>x≤y)∧fK S' ns fs nb names∧Sep w0 w' (lW v l::bJ f q p S'::R):=by
 obtain⟨h1,h2,h3,h4,h5⟩:=hL.root;refine(afR (path:=[]) (by decide) hL.off h1 h2 h).mono ?_;rintro e w' ⟨v,rfl,hS⟩;rw[h3];exact⟨v,_,S.base,rfl,h4,h5,hL.base,hS⟩
theorem amI (hL:fK S ns fs nb names) (h:Sep w0 w (bJ f q p S::R)):
  Calls Tryz.prog 17 #[.pointer (some ⟨f,0,none⟩)] w fun e w'=>e= .returned (fP (lC nb names-mJ ns fs) (names-kD ns))∧∃n,w'=w.drewN n:=by
 obtain⟨g,dn,φ,hV⟩:=hL.kS.vt;have hok:=I5 h;have hwB:S.wB=mJ ns fs:=hV.wB;have hwI:S.wI=kD ns:=hV.wI;have hrB:S.rB=lC nb names:=by have:=hV.kS.rB;rw[show S.rB=S.base.rB from rfl,this];(show((S.nb-96-(2+(S.names+7)/8):Nat):Int)=_);rw[hL.kS.nm,hL.kS.nbe];rfl
 have hrI:S.rI=names:=by have:=hV.kS.rI;rw[show S.rI=S.base.rI from rfl,this];(show(S.names:Int)=_);rw[hL.kS.nm]
 have h1:=hV.kS.ph.WH;have h2:=hV.kS.ph.pW;have h4:nb≤4096:=by have:=hok.few;rw[hL.kS.nbe]at this;exact this
 have h5:lC nb names≤4096:=by unfold lC;omega
 have h6:S.base.names=names:=hL.kS.nm;have e1:S.base.wB=S.wB:=rfl;have e2:S.base.wI=S.wI:=rfl;rw[e1,e2]at h1;have:=abA (S:=S) (kY (by omega) (by omega)) (kY (by omega) (by omega)) (kY (by omega) (by omega)) (kY (by omega) (by omega)) (kY (by omega) (by omega)) (kY (by omega) (by omega)) h;rw[hrB,hrI,hwB,hwI]at this;exact this
theorem asL (hL:fK S ns fs nb names) (h:Sep w0 w (bJ f q p S::R)):
  Calls Tryz.prog 31 #[.pointer (some ⟨f,0,none⟩)] w fun e w'=>e= .returned (fP (lC nb names) names)∧w'=w:=by
 obtain⟨g,dn,φ,hV⟩:=hL.kS.vt;have hrB:S.rB=lC nb names:=by have:=hV.kS.rB;rw[show S.rB=S.base.rB from rfl,this];(show((S.nb-96-(2+(S.names+7)/8):Nat):Int)=_);rw[hL.kS.nm,hL.kS.nbe];rfl
 have hrI:S.rI=names:=by have:=hV.kS.rI;rw[show S.rI=S.base.rI from rfl,this];(show(S.names:Int)=_);rw[hL.kS.nm]
 have:=aa9 h;rw[hrB,hrI]at this;exact this
theorem agF {v:Value} {s:List UInt8} (hS:Sep w0 w (lW v [s]::R)):∃g c,v= .slice (some ⟨g,0,none⟩) 1 c∧w.cell? ⟨g,0,none⟩=some (aM s):=by unfold lW at hS;obtain⟨g,c,rfl,_⟩:=hS.iP 0 rfl Nat.one_pos;refine⟨g,c,rfl,?_⟩;have:=hS.cellAt 0 rfl 0 Nat.one_pos;exact this
theorem agG {l:List (List UInt8)} {s:List UInt8} (h:l.Perm [s]):l=[s]:=List.perm_singleton.1 h
theorem akA :fP (lC 110 16) 16= .complex .f64 4621819117588971520 4625196817309499392:=by kernel_rfl
theorem anW :fP (lC 110 16-mJ (fJ [] [] 1 493 [97]) []) (16-kD (fJ [] [] 1 493 [97]))= .complex .f64 4620693217682128896 4624070917402656768:=by kernel_rfl
set_option maxRecDepth 100000 in
set_option maxHeartbeats 4000000 in
theorem JO (h:Sep w0 w R):Calls Tryz.prog 12 #[] w fun e w'=>e= .returned (.bool true)∧Sep w0 w' R:=by
 have hfr:=Lh (M4 (b:=10) (i:=16) (n:=110) rfl (by decide) (by decide) (by decide) (by decide) h);have hL0:=TT (n:=110) (names:=16) (by decide) (by decide) (by decide) (by decide);obtain⟨S0,hS0⟩:∃S0,S0=VS.new 110 16:=⟨_,rfl⟩;rw[←hS0]at hfr hL0;have hrm:Hid (∀W f q p,Sep w0 W (bJ f q p S0::R)→Calls Tryz.prog 31 #[.pointer (some ⟨f,0,none⟩)] W fun e w'=>e= .returned (.complex .f64 4621819117588971520 4625196817309499392)∧W=w'):=Lh fun W f q p hW=>(asL hL0 hW).mono fun e w' ⟨h1,h2⟩=>⟨h1.trans (congrArg _ akA),h2.symm⟩
 have hmk:Hid (∀W f q p,Sep w0 W (bJ f q p S0::R)→Calls Tryz.prog 14 #[.pointer (some ⟨f,0,none⟩),.agg #[.int .i64 1,.string ⟨#[97]⟩,.string ⟨#[]⟩,.int .i64 493,.int .i64 0],.slice none 0 0] W fun e w'=>e= .returned (.int .i64 0)∧∃S',fK S' (fJ [] [] 1 493 [97]) [] 110 16∧Sep w0 w' (bJ f q p S'::R)):=Lh fun W f q p hW=>
  (anV (path:=[97]) (tz:=[]) (mode:=493) (kk:=0) hL0 (by decide) (by decide) (by decide) (by decide) (by decide) hW).mono fun e w' ⟨x,h1,h2⟩=>by rw[if_pos (by rfl),if_pos (by rfl)]at h2;exact⟨by rw[h1,h2.1],h2.2⟩
 have hls:Hid (∀W f q p S',fK S' (fJ [] [] 1 493 [97]) [] 110 16→Sep w0 W (bJ f q p S'::R)→Calls Tryz.prog 23 #[.pointer (some ⟨f,0,none⟩),.string ⟨#[]⟩] W fun e w'=>∃g c S'',e= .returned (.tuple #[.slice (some ⟨g,0,none⟩) 1 c,.int .i64 0])∧w'.cell? ⟨g,0,none⟩=some (.string ⟨#[97]⟩)∧fK S'' (fJ [] [] 1 493 [97]) [] 110 16∧Sep w0 w' (bJ f q p S''::R)):=Lh fun W f q p S' hL hW=>
  (asK hL hW).mono fun e w' ⟨v,l,S'',h1,h2,_,h4,h5⟩=>by have e1:l=[[97]]:=agG h2;subst e1;obtain⟨g,c,rfl,hc⟩:=agF h5;exact⟨g,c,S'',h1,hc,h4,h5.drop 1⟩
 have hfe:Hid (∀W f q p S',fK S' (fJ [] [] 1 493 [97]) [] 110 16→Sep w0 W (bJ f q p S'::R)→Calls Tryz.prog 17 #[.pointer (some ⟨f,0,none⟩)] W fun e w'=>e= .returned (.complex .f64 4620693217682128896 4624070917402656768)∧∃n,w'=W.drewN n):=Lh fun W f q p S' hL hW=>
  (amI hL hW).mono fun e w' ⟨h1,h2⟩=>⟨h1.trans (congrArg _ anW),h2⟩
 clear hS0 hL0 h;go_enter Tryz.func12,Tryz.ntmps12;go_wp2_with(first |(go_at_call 13;refine hfr.out.mono ?_;rintro e wn ⟨f,q,p,rfl,hS⟩;have h1:=Lh hS;clear hS hfr)|(go_at_call 31;refine(hrm.out _ _ _ _ h1.out).mono ?_;rintro e wr ⟨rfl,rfl⟩)|(go_at_call 14;refine(hmk.out _ _ _ _ h1.out).mono ?_;rintro e wm ⟨rfl,S1,hL1,hS⟩;have h2:=Lh hS;have hL2:=Lh hL1;clear hS hL1 h1 hmk hrm)|(go_at_call 23;refine(hls.out _ _ _ _ _ hL2.out h2.out).mono ?_;rintro e wl ⟨g,c,S2,rfl,hc,hL,hS⟩;have h3:=Lh hS;have hL3:=Lh hL;clear hS hL h2 hL2 hls)|(go_at_call 17;refine(hfe.out _ _ _ _ _ hL3.out h3.out).mono ?_;rintro e we ⟨rfl,nn,rfl⟩)|(go_at_call 16;refine(vV _ _).mono ?_;rintro e w2 ⟨rfl,rfl⟩));go_ret;exact⟨rfl,(h3.out.drop 1).drewN _⟩
end
structure amJ where
 e:Int
 ns:List TN
 fs:List FT
def vW (nb names:Nat) (ns:List TN) (fs:List FT):Except Int (List TN×List FT)→amJ
 | .error k=>⟨k,ns,fs⟩
 | .ok T=>if pY nb names T.1 T.2=true then⟨0,T.1,T.2⟩else⟨27,ns,fs⟩
def xY (nb names:Nat) (ns:List TN) (fs:List FT) (op:Int) (p q:List UInt8) (mode kk:Int) (n:Nat) (bs:List UInt8):amJ:=
 if AB op p q mode kk n bs.length=0 then vW nb names ns fs (if op=9 then .error 0 else CU ns fs op p q mode.toNat bs)else⟨AB op p q mode kk n bs.length,ns,fs⟩
section
variable {w0 w:World} {R:List aU} {f q p:Nat} {S:VS} {ns:List TN} {fs:List FT} {nb names:Nat}
theorem fK.asT {r:Except Int (Option VS)} {A:Except Int (List TN×List FT)} {x:Int} {g:LT} {dn:Key→Nat} {φ:Int→Nat} (hL:fK S ns fs nb names) (hV:Vt S.base ns fs g dn φ) (hok:S.D.ok S.nb) (KR:96<S.nb) (hA:AsT φ fs.length S.base r A) (h:rD f q p S.base r w0 w R x):
  x=(vW nb names ns fs A).e∧∃S',fK S' (vW nb names ns fs A).ns (vW nb names ns fs A).fs nb names∧agC S S' (vW nb names ns fs A).ns (vW nb names ns fs A).fs φ fs.length∧Sep w0 w (bJ f q p S'::R):=by
 cases A with
 |error k=>have hr:r= .error k:=hA;rw[hr]at h;exact⟨h.1,S.base,hL.base,⟨.inl rfl,g,dn,φ,hV,fun _ _=>rfl⟩,h.2⟩
 |ok T=>
  have h1:=hL.ends hV hok KR hA h;unfold vW;simp only;split
  ·rename_i hf;rw[if_pos hf]at h1;exact h1
  rename_i hf;rw[if_neg hf]at h1;exact h1
end
end Go.Proofs.YteihmbaimbogaaaGreat
namespace Go.Proofs.YteihmbaimbogaaaGreat
set_option linter.unusedVariables false
set_option linter.unusedSimpArgs false
theorem agH (ns:List TN) {p:List UInt8} (hk:splitB p=[p]):KI ns (splitB p)= .ok (gW ns [p]):=by rw[hk];rfl
open Go.RowKit
def bH (i:Nat):List UInt8:=[102,UInt8.ofNat (48+i/10),UInt8.ofNat (48+i%10)]
set_option maxRecDepth 100000 in
theorem oW :∀i,i<70→aP (bH i)=true∧splitB (bH i)=[bH i]:=by decide+kernel
set_option maxRecDepth 100000 in
theorem M5 :∀i,i<70→∀j,j<70→bH i=bH j→i=j:=by decide+kernel
structure nS (ns:List TN) (fs:List FT) (s:Nat):Prop where
 flat:∀n∈ns,0≤n.file∧n.file<fs.length∧splitB n.path=[n.path]∧CO fs n.file=s
 anX:(ns.map (·.file)).Nodup
theorem M6 :∀ {ns:List TN},(∀n∈ns,0≤n.file)→(ns.map (·.file)).Nodup→eF ns=ns.map (·.file)
 |[],_,_=>rfl
 |n::t,h,hd=>by
  rw[List.map_cons,List.nodup_cons]at hd;have ih:=M6 (fun m hm=>h m (List.mem_cons_of_mem _ hm)) hd.2;unfold eF;rw[ih,if_neg]
  ·rfl
  rintro(e|e)
  ·have:=h n List.mem_cons_self;omega
  exact hd.1 e
section
variable {ns:List TN} {fs:List FT} {s:Nat} {nb names:Nat}
theorem TU {α:Type} {F:α→Int} {c:Int}:∀ {l:List α},(∀x∈l,F x=c)→(l.map F).sum=l.length*c
 |[],_=>by simp
 |a::t,h=>by rw[List.map_cons,List.sum_cons,h a List.mem_cons_self,TU fun x hx=>h x (List.mem_cons_of_mem _ hx),List.length_cons,Int.natCast_add,Int.add_mul];omega
theorem nS.asM (h:nS ns fs s):lV ns=[]:=by unfold lV;rw[List.filter_eq_nil_iff];intro n hn;have:=(h.flat n hn).1;rw[decide_eq_true_eq];omega
theorem nS.files (h:nS ns fs s):eF ns=ns.map (·.file):=M6 (fun n hn=>(h.flat n hn).1) h.anX
theorem nS.B (h:nS ns fs s):mJ ns fs=eO 1 ns.length+ns.length*eO 2 s:=by
 have hk:gI ns []=ns.length:=by unfold gI fU;rw[List.filter_eq_self.2];intro n hn;unfold bK;rw[(h.flat n hn).2.2.1];rfl
 unfold mJ;rw[h.asM,h.files,hk,List.map_map,TU (F:=(fun k=>eO 2 (CO fs k))∘fun n:TN=>n.file) (c:=eO 2 s)]
 ·simp
 intro n hn;show eO 2 (CO fs n.file)=_
 rw[(h.flat n hn).2.2.2]
theorem nS.I (h:nS ns fs s):kD ns=1+ns.length:=by unfold kD;rw[h.asM,h.files];simp
def uW (nb names s k:Nat):Bool:=decide (eO 1 k+k*eO 2 s≤lC nb names)&&decide ((1:Int)+k≤names)
theorem nS.fits (h:nS ns fs s):pY nb names ns fs=uW nb names s ns.length:=by unfold pY uW;rw[h.B,h.I]
theorem abU {k:Nat} (h:uW nb names s (k+1)=true):uW nb names s k=true:=by
 unfold uW at*;rw[Bool.and_eq_true,decide_eq_true_eq,decide_eq_true_eq]at*;have h1:eO 1 (k+1)=max 1 (((k+1+15)/16:Nat):Int):=rfl;have h2:eO 1 k=max 1 (((k+15)/16:Nat):Int):=rfl;have h3:0≤eO 2 s:=by unfold eO;rw[if_neg (by decide),if_pos rfl];split<;>omega
 have h4:((k+1:Nat):Int)*eO 2 s=(k:Int)*eO 2 s+eO 2 s:=by rw[Int.natCast_add,Int.add_mul];simp
 rw[h1,h4]at h;rw[h2];omega
theorem nS.add (h:nS ns fs s) {p bs:List UInt8} (hs:bs.length=s) (hp:splitB p=[p]) (mode:Nat):nS (fJ ns fs 2 mode p) (mU fs 2 mode bs) s:=by
 have e1:fJ ns fs 2 mode p=ns++[⟨p,fs.length,0⟩]:=by unfold fJ;rw[if_neg (by decide)]
 have e2:mU fs 2 mode bs=fs++[⟨mode,bs⟩]:=by unfold mU;rw[if_neg (by decide)]
 rw[e1,e2];have hl:(fs++[(⟨mode,bs⟩:FT)]).length=fs.length+1:=by simp
 refine⟨fun n hn=>?_,?_⟩
 ·rcases List.mem_append.1 hn with hn|hn
  ·obtain⟨h1,h2,h3,h4⟩:=h.flat n hn;refine⟨h1,by omega,h3,?_⟩;rw[←h4];unfold CO;rw[List.getElem?_append_left (by omega)]
  (have:n=⟨p,fs.length,0⟩:=by simpa using hn);subst this;refine⟨by show(0:Int)≤(fs.length:Int);omega,by rw[hl];show(fs.length:Int)<_;omega,hp,?_⟩;unfold CO;(show(((fs++[(⟨mode,bs⟩:FT)])[((fs.length:Nat):Int).toNat]?).map _).getD 0=s);rw[Int.toNat_natCast,List.getElem?_append_right (Nat.le_refl _),Nat.sub_self];exact hs
 rw[List.map_append,List.nodup_append];refine⟨h.anX,by simp,fun a ha b hb e=>?_⟩;obtain⟨n,hn,rfl⟩:=List.mem_map.1 ha;have h2:=(h.flat n hn).2.1;have hb2:b=(fs.length:Int):=by simpa using hb
 omega
theorem nS.del (h:nS ns fs s) (K:Key):nS (kU ns K) fs s:=
 ⟨fun n hn=>h.flat n (List.filter_sublist.subset hn),h.anX.sublist (List.filter_sublist.map _)⟩
structure oG (ns:List TN) (fs:List FT) (s m:Nat):Prop where
 flat:nS ns fs s
 paths:ns.map (·.path)=(List.range m).map bH
theorem oG.len {m:Nat} (h:oG ns fs s m):ns.length=m:=by
 have:=congrArg List.length h.paths
 rwa [List.length_map,List.length_map,List.length_range]at this
theorem oG.none {m i:Nat} (h:oG ns fs s m) (hi:i<70) (hm:m≤i):gW ns [bH i]=none:=by
 unfold gW;rw[List.find?_eq_none];intro n hn e;rw[beq_iff_eq]at e;unfold bK at e;rw[(h.flat.flat n hn).2.2.1]at e;have e2:n.path=bH i:=(List.cons.inj e).1;have:n.path∈(List.range m).map bH:=by rw[←h.paths];exact List.mem_map.2 ⟨n,hn,rfl⟩
 obtain⟨j,hj,e3⟩:=List.mem_map.1 this;have hj2:=List.mem_range.1 hj;have:=M5 j (by omega) i hi (by rw[e3,e2]);omega
theorem Y4 {i:Nat} (hi:i<70) {len:Nat} (hl:len≤8192):AB 6 (bH i) [] 384 0 1 len=0:=by have hv:=(oW i hi).1;have hn:(bH i==[])=false:=rfl;unfold AB nD;rw[if_neg (by decide),if_neg (by decide),if_neg (by decide),if_neg (by rw[hn];decide),if_neg (by rw[hv];decide),if_neg (by decide),if_neg (by decide),if_neg (by omega)]
theorem TV (hlen:ns.length<256) {p:List UInt8} (hk:splitB p=[p]) (hno:gW ns [p]=none):uV ns p=0:=by unfold uV;rw[agH ns hk,hno];simp only;rw[if_pos hlen]
theorem akB {i m:Nat} {bs:List UInt8} (h:oG ns fs bs.length m) (hi:i<70) (hm:m≤i) (hb:bs.length≤8192):
  xY nb names ns fs 6 (bH i) [] 384 0 1 bs=if uW nb names bs.length (m+1)=true then⟨0,fJ ns fs 2 384 (bH i),mU fs 2 384 bs⟩else⟨27,ns,fs⟩:=by
 have hl:=h.len;unfold xY;rw[if_pos (Y4 hi hb),if_neg (by decide)];have hA:CU ns fs 6 (bH i) [] (384:Int).toNat bs= .ok (fJ ns fs 2 384 (bH i),mU fs 2 384 bs):=by unfold CU;rw[if_neg (by decide),if_neg (by decide),if_neg (by decide),if_neg (by decide),if_neg (by decide),if_pos rfl,if_pos (TV (by omega) (oW i hi).2 (h.none hi hm))];rfl
 rw[hA];unfold vW;simp only;have hF:=h.flat.add (p:=bH i) (bs:=bs) rfl (oW i hi).2 384;rw[hF.fits];have:(fJ ns fs 2 384 (bH i)).length=m+1:=by unfold fJ;rw[List.length_append,hl];rfl
 rw[this]
theorem oG.more {m:Nat} {bs:List UInt8} (h:oG ns fs bs.length m) (hi:m<70):oG (fJ ns fs 2 384 (bH m)) (mU fs 2 384 bs) bs.length (m+1):=by refine⟨h.flat.add rfl (oW m hi).2 384,?_⟩;unfold fJ;rw[if_neg (by decide),List.map_append,h.paths,List.range_succ,List.map_append];rfl
theorem oG.nil (s:Nat):oG [] [] s 0:=⟨⟨fun n hn=>(by cases hn),List.nodup_nil⟩,rfl⟩
theorem TW {m:Nat} (h:oG ns fs s m) (h0:0<m) (h9:m≤70) (hf:uW nb names s m=true):
  xY nb names ns fs 5 (bH 0) [] 0 0 0 []=⟨0,kU ns [bH 0],fs⟩∧gW (kU ns [bH 0]) [bH 0]=none∧(kU ns [bH 0]).length=m-1:=by
 have hl:=h.len;have hmem:bH 0∈ns.map (·.path):=by rw[h.paths];exact List.mem_map.2 ⟨0,List.mem_range.2 h0,rfl⟩
 obtain⟨n,hn,hp⟩:=List.mem_map.1 hmem;have hk:∀x∈ns,bK x=[x.path]:=fun x hx=>(h.flat.flat x hx).2.2.1
 have hnd:(ns.map bK).Nodup:=by(have e:ns.map bK=(ns.map (·.path)).map fun p=>[p]:=by rw[List.map_map];apply List.map_congr_left;intro x hx;exact hk x hx);rw[e,h.paths,List.map_map];rw[List.nodup_iff_pairwise_ne,List.pairwise_map];have:=List.nodup_range (n:=m);refine List.Pairwise.imp_of_mem (fun {a b} ha hb hab e=>hab ?_) this;exact M5 a (by have:=List.mem_range.1 ha;omega) b (by have:=List.mem_range.1 hb;omega) (List.cons.inj e).1
 have hnk:bK n=[bH 0]:=by rw[hk n hn,hp]
 have hperm:=CR hnd hn;rw[hnk]at hperm;have hdl:(kU ns [bH 0]).length=m-1:=by have:=hperm.length_eq;rw[List.length_cons]at this;omega
 have hdn:gW (kU ns [bH 0]) [bH 0]=none:=by unfold gW kU;rw[List.find?_eq_none];intro x hx e;have:=(List.mem_filter.1 hx).2;rw[e]at this;cases this
 refine⟨?_,hdn,hdl⟩;have asN:gW ns [bH 0]=some n:=by
  cases hq:gW ns [bH 0]with
  |none=>unfold gW at hq;rw[List.find?_eq_none]at hq;exact absurd (by rw[hnk];exact beq_self_eq_true _) (hq n hn)
  |some x=>obtain⟨hx,hxk⟩:=nG hq;rw[key_inj hnd hx hn (by rw[hxk,hnk])]
 have hsp:splitB (bH 0)=[bH 0]:=(oW 0 (by decide)).2;have hck:AB 5 (bH 0) [] 0 0 0 ([]:List UInt8).length=0:=by decide+kernel
 have hA:CU ns fs 5 (bH 0) [] (0:Int).toNat []= .ok (kU ns [bH 0],fs):=by unfold CU;rw[if_neg (by decide),if_neg (by decide),if_neg (by decide),if_neg (by decide),if_pos rfl];(have hfil:JN ns (splitB (bH 0))= .ok n:=by unfold JN xW;rw[agH ns hsp,asN];simp only;rw[if_neg (by have:=(h.flat.flat n hn).1;omega)]);rw[hfil,hsp]
 unfold xY;rw[if_pos hck,if_neg (by decide),hA];unfold vW;simp only;rw[(h.flat.del [bH 0]).fits,hdl,if_pos];obtain⟨k,rfl⟩:∃k,m=k+1:=⟨m-1,by omega⟩;exact abU hf
theorem abV {m:Nat} {bs:List UInt8} (h:oG ns fs bs.length m) (h0:0<m) (h9:m≤70) (hf:uW nb names bs.length m=true) (hb:bs.length≤8192):
  ∃ns2 fs2,xY nb names (kU ns [bH 0]) fs 6 (bH 0) [] 384 0 1 bs=⟨0,ns2,fs2⟩∧mJ ns2 fs2=mJ ns fs∧kD ns2=kD ns:=by
 obtain⟨_,h2,h3⟩:=TW h h0 h9 hf;have hl:=h.len;have hsp:splitB (bH 0)=[bH 0]:=(oW 0 (by decide)).2;have hF:=(h.flat.del [bH 0]).add (p:=bH 0) (bs:=bs) rfl hsp 384;have hlen:(fJ (kU ns [bH 0]) fs 2 384 (bH 0)).length=m:=by unfold fJ;rw[List.length_append,h3];show m-1+1=m;omega
 refine⟨fJ (kU ns [bH 0]) fs 2 384 (bH 0),mU fs 2 384 bs,?_,?_,?_⟩
 ·unfold xY;rw[if_pos (Y4 (by decide) hb),if_neg (by decide)];(have hA:CU (kU ns [bH 0]) fs 6 (bH 0) [] (384:Int).toNat bs= .ok (fJ (kU ns [bH 0]) fs 2 384 (bH 0),mU fs 2 384 bs):=by unfold CU;rw[if_neg (by decide),if_neg (by decide),if_neg (by decide),if_neg (by decide),if_neg (by decide),if_pos rfl,if_pos (TV (by omega) hsp h2)];rfl);rw[hA];unfold vW;simp only;rw[hF.fits,hlen,if_pos hf]
 ·rw[hF.B,h.flat.B,hlen,hl]
 rw[hF.I,h.flat.I,hlen,hl]
end
end Go.Proofs.YteihmbaimbogaaaGreat
namespace Go.Proofs.YteihmbaimbogaaaGreat
open Go.RowKit
set_option linter.unusedVariables false
theorem add_zero' (a:Addr):a.add 0=a:=by simp[Addr.add]
end Go.Proofs.YteihmbaimbogaaaGreat
