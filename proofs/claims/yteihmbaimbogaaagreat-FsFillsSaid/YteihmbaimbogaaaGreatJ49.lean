/- FxQ, FzK, laid together. -/
import Derived.Test.YteihmbaimbogaaaGreatJ48
namespace Go.Proofs.YteihmbaimbogaaaGreat
open Go.RowKit
set_option linter.unusedVariables false
set_option linter.unusedSimpArgs false
section
variable {S:VS} {g:LT} {ns:List TN} {fs:List FT} {dn:Key→Nat} {φ:Int→Nat}
theorem Vt.ahX (h:Vt S ns fs g dn φ) {op:Int} {p q:List UInt8} {mode:Nat} {bs:List UInt8} (KX:op=1∨op=5∨op=6) (hv:aP p=true)
  (hm:mode<65536) (hb:op=6→bs.length≤8192):amA S op p q mode bs:=by
 refine⟨fun _ d hd hn=>?_,fun e=>absurd e (by omega),fun e=>absurd e (by omega),fun e=>absurd e (by omega),fun _ d m hm hd hk=>?_,fun e d hd hn=>?_,fun e=>absurd e (by omega),fun e=>absurd e (by omega)⟩
 ·exact(h.new (kind:=1) (bs:=[]) (.inl ⟨rfl,rfl⟩) hv (kG hv) hm (by decide)).1 d hd hn
 ·obtain⟨n,ha,rfl,rfl⟩:=h.abT hd;obtain⟨hP,hno,_⟩:=AV (S:=S) h.rep ha;have hn:=nG hno.symm;(have hf:n.file≠ -1:=fun e=>hk ((h.amG hn.1).2 e));rw[asJ hf];exact(h.agD hv hno.symm hP hf).2
 exact(h.new (kind:=2) (bs:=bs) (.inr rfl) hv (kG hv) hm (hb e)).1 d hd hn
theorem Vt.ay4 (h:Vt S ns fs g dn φ) {op:Int} {p q:List UInt8} {mode:Nat} {bs:List UInt8} (KX:op=1∨op=5∨op=6) (hv:aP p=true)
  (hm:op=1∨op=6→mode≤511) (hb:op=6→bs.length≤8192):AsT φ fs.length S (IZ S op p q mode bs) (CU ns fs op p q mode bs):=by
 unfold IZ CU;by_cases h1:op=1
 ·simp only[if_pos h1];rcases(h.new (kind:=1) (mode:=mode) (bs:=[]) (.inl ⟨rfl,rfl⟩) hv (kG hv) (by have:=hm (.inl h1);omega) (by decide)).2 with⟨h2,h3⟩|⟨h2,h3⟩
  ·rw[if_neg h2];exact h3
  rw[if_pos h2];exact h3
 simp only[if_neg h1];simp only[if_neg (show ¬op=2 by omega)];simp only[if_neg (show ¬op=3 by omega)];simp only[if_neg (show ¬op=4 by omega)];by_cases h5:op=5
 ·simp only[if_pos h5];unfold zZ;rw[h.fileOf p];cases ha:JN ns (splitB p)with
  |error e=>exact rfl
  |ok n=>obtain⟨ha2,hf⟩:=aj8 ha;obtain⟨hP,hno,_⟩:=AV (S:=S) h.rep ha2;simp only;rw[h.aj9 ha2];simp only[Int.toNat_natCast];rw[asJ hf];exact(h.agD hv hno.symm hP hf).1
 simp only[if_neg h5];by_cases h6:op=6
 ·simp only[if_pos h6];rcases(h.new (kind:=2) (mode:=mode) (bs:=bs) (.inr rfl) hv (kG hv) (by have:=hm (.inr h6);omega) (hb h6)).2 with⟨h7,h8⟩|⟨h7,h8⟩
  ·rw[if_neg h7];exact h8
  rw[if_pos h7];exact h8
 exfalso;omega
end
section
variable {w0 w:World} {R:List aU} {f q p:Nat} {S:VS} {ns:List TN} {fs:List FT} {nb names:Nat}
theorem ay5 {g:LT} {dn:Key→Nat} {φ:Int→Nat} {op mode kk:Int} {path tz bs:List UInt8} {A:Option Addr} {n c:Nat} (hL:fK S ns fs nb names) (hV:Vt S.base ns fs g dn φ) (hp:path.length≤9223372036854775807) (ht:tz.length≤9223372036854775807) (hn:n≤9223372036854775807) (hlen:bs.length≤9223372036854775807)
  (KX:op=1∨op=5∨op=6) (hst:AA w0 R A n kk bs) (h:Sep w0 w (bJ f q p S::R)):
  Calls Tryz.prog 14 #[.pointer (some ⟨f,0,none⟩),.agg #[.int .i64 op,aM path,aM tz,.int .i64 mode,.int .i64 kk],.slice A n c] w fun e w'=>
   e= .returned (.int .i64 (xY nb names ns fs op path tz mode kk n bs).e)∧∃S',fK S' (xY nb names ns fs op path tz mode kk n bs).ns (xY nb names ns fs op path tz mode kk n bs).fs nb names∧agC S S' (xY nb names ns fs op path tz mode kk n bs).ns (xY nb names ns fs op path tz mode kk n bs).fs φ fs.length∧Sep w0 w' (bJ f q p S'::R):=by
 have hok:=I5 h
 have KR:=TS h
 have facts:AB op path tz mode kk n bs.length=0→aP path=true∧(op=1∨op=6→mode.toNat≤511)∧(op=6→bs.length≤8192):=fun h0=>by
  rcases OZ h0 with h9|⟨_,h9,hk⟩
  ·exfalso;omega
  refine⟨hk.valid,fun e=>?_,fun e=>(hk.data e).2.2⟩;have:=hk.mode (by rcases e with rfl|rfl<;>rfl);omega
 refine(afK (op:=op) (mode:=mode) (kk:=kk) (path:=path) (tz:=tz) (bs:=bs) hp ht hn hlen hL.off KX hst hV.kS.vw (fun h0=>?_) h).mono ?_
 ·obtain⟨hv,hm,hb⟩:=facts h0;by_cases hm5:mode.toNat<65536
  ·exact hV.ahX KX hv hm5 hb
  (have hno:¬(op=1∨op=6):=fun e=>by have:=hm e;omega);have h2:=hV.ahX (op:=op) (mode:=0) (q:=tz) (bs:=bs) KX hv (by decide) hb;exact⟨fun e=>absurd (.inl e) hno,h2.rm,h2.mv,h2.ln,h2.un,fun e=>absurd (.inr e) hno,fun e=>absurd e (by omega),fun e=>absurd e (by omega)⟩
 ·rintro e w' ⟨x,rfl,hE⟩;unfold doR at hE;unfold xY;by_cases h0:AB op path tz mode kk n bs.length=0
  ·rw[if_pos h0]at hE ⊢;(have hA:AsT φ fs.length S.base (IZ S.base op path tz mode.toNat bs) (if op=9 then .error 0 else CU ns fs op path tz mode.toNat bs):=by obtain⟨hv,hm,hb⟩:=facts h0;rw[if_neg (show ¬op=9 by omega)];exact hV.ay4 KX hv hm hb);obtain⟨h1,h2⟩:=hL.asT hV hok KR hA hE;rw[h1];exact⟨rfl,h2⟩
  rw[if_neg h0]at hE ⊢;exact⟨by rw[hE.1],S.base,hL.base,⟨.inl rfl,g,dn,φ,hV,fun _ _=>rfl⟩,hE.2⟩
theorem at5 {op mode kk:Int} {path tz bs:List UInt8} {A:Option Addr} {n c:Nat} (hL:fK S ns fs nb names) (hp:path.length≤9223372036854775807) (ht:tz.length≤9223372036854775807) (hn:n≤9223372036854775807) (hlen:bs.length≤9223372036854775807)
  (KX:op=1∨op=5∨op=6) (hst:AA w0 R A n kk bs) (h:Sep w0 w (bJ f q p S::R)):
  Calls Tryz.prog 14 #[.pointer (some ⟨f,0,none⟩),.agg #[.int .i64 op,aM path,aM tz,.int .i64 mode,.int .i64 kk],.slice A n c] w fun e w'=>
   e= .returned (.int .i64 (xY nb names ns fs op path tz mode kk n bs).e)∧∃S',fK S' (xY nb names ns fs op path tz mode kk n bs).ns (xY nb names ns fs op path tz mode kk n bs).fs nb names∧Sep w0 w' (bJ f q p S'::R):=by
 obtain⟨g,dn,φ,hV⟩:=hL.kS.vt
 refine(ay5 hL hV hp ht hn hlen KX hst h).mono ?_
 rintro e w' ⟨h1,S',h2,_,h3⟩
 exact⟨h1,S',h2,h3⟩
end
def XR (wb:Nat) (nv fv:Value) (b i:Nat):aU:=.box wb 34 #[nv,fv,.int .i64 (b:Nat),.int .i64 (i:Nat)]
theorem XT {ns:List TN} {fs:List FT} {nb i k m:Nat} {bs:List UInt8} (hF:oG ns fs bs.length m) (hk:k<70) (hm:m≤k) (hst:m=k∨uW nb i bs.length (m+1)=false) (hb:bs.length≤8192) (hfit:uW nb i bs.length m=true):
  ∃(E:Int) (ns':List TN) (fs':List FT) (m':Nat),xY nb i ns fs 6 (bH k) [] 384 0 1 bs=⟨E,ns',fs'⟩∧((E=0∧m'=m+1)∨(E=27∧m'=m))∧oG ns' fs' bs.length m'∧m'≤k+1∧(m'=k+1∨uW nb i bs.length (m'+1)=false)∧uW nb i bs.length m'=true:=by
 have h:=akB (nb:=nb) (names:=i) hF hk hm hb;cases hf:uW nb i bs.length (m+1)with
 |true=>
  rw[if_pos hf]at h;have e:m=k:=by
   rcases hst with e|e
   ·exact e
   rw[hf]at e;cases e
  subst e;exact⟨0,_,_,m+1,h,.inl ⟨rfl,rfl⟩,hF.more hk,Nat.le_refl _,.inl rfl,hf⟩
 |false=>rw[if_neg (by rw[hf];decide)]at h;exact⟨27,ns,fs,m,h,.inr ⟨rfl,rfl⟩,hF,by omega,.inr hf,hfit⟩
theorem Sep.alA {w0 w:World} {R:List aU} (h:Sep w0 w R) (u:Value):Sep w0 (w.alloc (.cells #[u] 35)) (.sl 35 1 (.slice (some ⟨w.heap.size,0,none⟩) 1 1) 1 [u]::R):=by have hown:=World.ownsRow_lit (base:=0) (e:=35) (size:=1) w #[u] 1 (Nat.zero_le _) (by unfold maxLen;decide) (by simp);exact h.new (F:=[w.heap.size]) ((Below.refl _ _).alloc (Nat.le_refl _) _) ⟨hown,rfl⟩ (by simp)
def oD (f q p:Nat) (S:VS) (wb:Nat) (nv fv:Value) (b i:Nat) (T:TR) (sc:Addr) (u:Value) (bs:List UInt8):List aU:=
 [bJ f q p S,.sl 35 1 (.slice (some sc) 1 1) 1 [u],aH u bs,XR wb nv fv b i,uO nv fv T]
def EN (f q p:Nat) (S:VS) (wb:Nat) (nv fv:Value) (b i:Nat) (nv2 fv2:Value) (T:TR) (sc:Addr) (u:Value) (bs:List UInt8) (ib:Nat) (nu:Value) (k:Nat):List aU:=
 bJ f q p S::(qI (.slice (some sc) 1 1) u bs++[XR wb nv fv b i,uO nv2 fv2 T,.box ib 38 #[.int .i64 6,.string ⟨(bH k).toArray⟩,.string ⟨#[]⟩,.int .i64 384,.int .i64 0],aH nu (bH k)])
structure ahY (W:World) (wb:Nat) (nv fv:Value) (b i ib k:Nat):Prop where
 w0:W.cell? ⟨wb,0,none⟩=some nv
 w1:W.cell? ⟨wb,1,none⟩=some fv
 w2:W.cell? ⟨wb,2,none⟩=some (.int .i64 b)
 w3:W.cell? ⟨wb,3,none⟩=some (.int .i64 i)
 f0:W.frozen? ⟨wb,0,none⟩=false
 f1:W.frozen? ⟨wb,1,none⟩=false
 i0:W.cell? ⟨ib,0,none⟩=some (.int .i64 6)
 i1:W.cell? ⟨ib,1,none⟩=some (.string ⟨(bH k).toArray⟩)
 i2:W.cell? ⟨ib,2,none⟩=some (.string ⟨#[]⟩)
 i3:W.cell? ⟨ib,3,none⟩=some (.int .i64 384)
 i4:W.cell? ⟨ib,4,none⟩=some (.int .i64 0)
theorem sN {w W:World} {f q p:Nat} {S:VS} {wb:Nat} {nv fv:Value} {b i:Nat} {nv2 fv2:Value} {T:TR} {sc:Addr} {u:Value} {bs:List UInt8} {ib:Nat} {nu:Value} {k:Nat} (h:Sep w W (EN f q p S wb nv fv b i nv2 fv2 T sc u bs ib nu k)):ahY W wb nv fv b i ib k:=
 ⟨h.bC 3 rfl 0,h.bC 3 rfl 1,h.bC 3 rfl 2,h.bC 3 rfl 3,h.bF 3 rfl 0,h.bF 3 rfl 1,h.bC 5 rfl 0,h.bC 5 rfl 1,h.bC 5 rfl 2,h.bC 5 rfl 3,h.bC 5 rfl 4⟩
theorem ZG {w W:World} {f q p:Nat} {S:VS} {wb:Nat} {nv fv:Value} {b i:Nat} {nv2 fv2:Value} {T:TR} {sc:Addr} {u:Value} {bs:List UInt8} {ib:Nat} {nu:Value} {k:Nat} (h:Sep w W (EN f q p S wb nv fv b i nv2 fv2 T sc u bs ib nu k)):
  Sep w (((W.alloc (.cells #[nv2,fv2] 32)).setCell ⟨wb,0,none⟩ nv2).setCell ⟨wb,1,none⟩ fv2) (oD f q p S wb nv2 fv2 b i T sc u bs):=by
 have h1:=h.bN 32 #[nv2,fv2];have h2:=(h1.bS 4 rfl 0 nv2).bS 4 rfl 1 fv2;exact Sep.fst (X:=oD f q p S wb nv2 fv2 b i T sc u bs) (Y:=[_,_]) (h2.drop 1)
def alB (w:World) (f q p wb b i n nb:Nat) (sc:Addr) (u:Value) (bs:List UInt8) (iv mv:Value) (wr:World):Prop:=
 ∃(k m:Nat) (S:VS) (ns:List TN) (fs:List FT) (nv fv:Value) (T:TR),iv= .int .i64 k∧mv= .int .i64 m∧k≤70∧m≤k∧oG ns fs n m∧(m=k∨uW nb i n (m+1)=false)∧uW nb i n m=true∧fK S ns fs nb i∧qH T ns fs∧Sep w wr (oD f q p S wb nv fv b i T sc u bs)
theorem U0 {k x1 x2:Nat} (hk:k<70) (h1:x1=k/10) (h2:x2=k%10):((bH k).map jP).toArray=#[.int .u8 102,.int .u8 (48+(x1:Int)),.int .u8 (48+(x2:Int))]:=by
 have b1:(UInt8.ofNat (48+k/10)).toNat=48+k/10:=by rw[UInt8.toNat_ofNat'];omega
 have b2:(UInt8.ofNat (48+k%10)).toNat=48+k%10:=by rw[UInt8.toNat_ofNat'];omega
 unfold bH jP;simp only[List.map_cons,List.map_nil];rw[b1,b2,←h1,←h2,Int.natCast_add,Int.natCast_add];rfl
section
variable {w:World}
set_option maxRecDepth 100000 in
set_option maxHeartbeats 8000000 in
theorem ac0 {b i n:Nat} {bs:List UInt8} (hn:n=bs.length) (hb1:1≤b) (hb2:b≤60) (hi1:2≤i) (hi2:i≤40) (hs:bs.length≤8192) (h0:bs.map jP=List.replicate bs.length (.int .u8 0)):
  Calls Tryz.prog 3 #[.int .i64 b,.int .i64 i,.int .i64 n] w fun e w'=>e= .returned (.bool true)∧Below w.heap.size w w':=by
 obtain⟨nb,hnb⟩:∃nb,nb=98+(i+7)/8+b:=⟨_,rfl⟩;have hroom:lC nb i=b:=by unfold lC;omega
 have hal:=Lh (JO (Sep.nil w));have hfr:Hid (∀W,Sep w W []→Calls Tryz.prog 13 #[.int .i64 b,.int .i64 i] W fun e w'=>∃f q p S,e= .returned (.tuple #[.pointer (some ⟨p,0,none⟩),.pointer (some ⟨f,0,none⟩),.bool true])∧fK S [] [] nb i∧Sep w w' [bJ f q p S]):=Lh fun W hW=>
  (M4 hnb hb1 (by omega) hi1 (by omega) hW).mono fun e w' ⟨f,q,p,h1,h2⟩=>⟨f,q,p,_,h1,TT (by omega) (by omega) hi1 (by omega),h2⟩
 obtain⟨k0,iM,hk0,hk1,hk2⟩:=iQ jV;have hmk:∀W,(Instr.makeSlice 35 (.int .i64 (n:Int)) (.int .i64 (n:Int))).run Tryz.prog W= .ok (.slice (some ⟨W.heap.size,0,none⟩) n n) (W.alloc (.cells (madeCells #[.int .u8 0] n) 5)):=fun W=>
  kF (P:=Tryz.prog) 35 5 k0 (.int .u8 0) 1 Tryz.underlying35 iM hk0 hk1 hk2 rfl .i64 .i64 n (by omega) (by unfold maxLen;omega) W
 have at6:Hid (∀(As:List aU) (W:World),Sep w W As→Sep w ((W.alloc (.cells (madeCells #[.int .u8 0] n) 5)).alloc (.cells #[.slice (some ⟨W.heap.size,0,none⟩) n n] 35)) (qI (.slice (some ⟨W.heap.size+1,0,none⟩) 1 1) (.slice (some ⟨W.heap.size,0,none⟩) n n) bs++As)):=Lh fun As W hW=>by have h1:=hW.made 5 (.int .u8 0) n (by unfold maxLen;omega);(have e1:aH (.slice (some ⟨W.heap.size,0,none⟩) n n) bs= .sl 5 1 (.slice (some ⟨W.heap.size,0,none⟩) n n) n (List.replicate n (.int .u8 0)):=by unfold aH;rw[h0,hn]);have h2:=h1.alA (.slice (some ⟨W.heap.size,0,none⟩) n n);rw[World.size_alloc]at h2;unfold qI;rw[e1];exact h2
 have hq:Hid (n=bs.length):=Lh hn;have hnb':=Lh hnb;have hroom':=Lh hroom;have b0:¬((b:Int)<1):=by omega
 have b1:¬((60:Int)<b):=by omega
 have b2:¬((i:Int)<2):=by omega
 have b3:¬((40:Int)<i):=by omega
 have b4:¬((n:Int)<0):=by omega
 have b5:¬((8192:Int)<n):=by omega
 have hdo:Hid (∀(k m:Nat) W S ns fs Y A c u f q p,k<70→u= .slice A n n→fK S ns fs nb i→Sep w W (bJ f q p S::(qI (.slice (some c) 1 1) u bs++Y))→Calls Tryz.prog 14 #[.pointer (some ⟨f,0,none⟩),.agg #[.int .i64 6,.string ⟨(bH k).toArray⟩,.string ⟨#[]⟩,.int .i64 384,.int .i64 0],.slice (some c) 1 1] W fun e w'=>e= .returned (.int .i64 (xY nb i ns fs 6 (bH k) [] 384 0 1 bs).e)∧∃S',fK S' (xY nb i ns fs 6 (bH k) [] 384 0 1 bs).ns (xY nb i ns fs 6 (bH k) [] 384 0 1 bs).fs nb i∧Sep w w' (bJ f q p S'::(qI (.slice (some c) 1 1) u bs++Y))):=Lh fun k m W S ns fs Y A c u f q p hk hu hL hW=>by subst hu;subst hn;exact at5 (op:=6) (path:=bH k) (tz:=[]) (mode:=384) (kk:=0) (A:=some c) (n:=1) (c:=1) hL (by show 3≤9223372036854775807;decide) (by decide) (by decide) (by omega) (.inr (.inr rfl)) (acX Y) hW
 have hwd:Hid (∀(k:Nat) W T ns fs nv fv Y A c u,k<70→u= .slice A n n→qH T ns fs→(mO W (.slice (some c) 1 1) [u]∧lK W u bs.length bs)→Sep w W (uO nv fv T::Y)→Calls Tryz.prog 15 #[.agg #[nv,fv,.int .i64 b,.int .i64 i],.agg #[.int .i64 6,.string ⟨(bH k).toArray⟩,.string ⟨#[]⟩,.int .i64 384,.int .i64 0],.slice (some c) 1 1] W fun e w'=>∃xQ fv' T',e= .returned (.tuple #[.agg #[xQ,fv'],.int .i64 (xY nb i ns fs 6 (bH k) [] 384 0 1 bs).e])∧qH T' (xY nb i ns fs 6 (bH k) [] 384 0 1 bs).ns (xY nb i ns fs 6 (bH k) [] 384 0 1 bs).fs∧Sep w w' (uO xQ fv' T'::Y)):=Lh fun k W T ns fs nv fv Y A c u hk hu hT hst hW=>by subst hu;have h:=PW (nb:=nb) (names:=i) (p:=bH k) (tz:=[]) (mode:=384) (ref:=0) (bs:=bs) hT (by show 3≤9223372036854775807;decide) (by decide) hst.1 (fun _ _=>⟨hst.2,by omega⟩) hW;rw[hroom]at h;exact h
 have hs':=Lh hs;clear hnb hroom hn hs h0 hb1 hb2 hi1 hi2 hk2 hk1 hk0 iM;go_enter Tryz.func3,Tryz.ntmps3;go_wp2_with(first |(go_at_call 12;refine hal.out.mono ?_;rintro e wn ⟨rfl,hS⟩;have h1:=Lh hS;clear hS hal)|(go_at_call 13;refine(hfr.out _ h1.out).mono ?_;rintro e wn ⟨f,q,p,S0,rfl,hL,hS⟩;have h2:=Lh hS;have hL2:=Lh hL;clear hS hL hfr h1));have h3:=h2.out.bN 34 #[.slice none 0 0,.slice none 0 0,.int .i64 b,.int .i64 i];have h4:=Sep.bZ [3,0,1,2] (at6.out _ _ h3) (by decide) (by simp[qI]);have h5:=Sep.bZ [1,2,3,4,0] (ahW h4) (by decide) (by simp[qI]);simp only[World.size_alloc]at h5;clear h2 h3 h4 at6 hmk;obtain⟨wb,hwb⟩:∃x,x=wn.heap.size:=⟨_,rfl⟩;rw[←hwb]at h5 ⊢;obtain⟨w5,nN⟩:∃x,x=((wn.alloc (.cells #[.slice none 0 0,.slice none 0 0,.int .i64 b,.int .i64 i] 34)).alloc (.cells (madeCells #[.int .u8 0] n) 5)).alloc (.cells #[.slice (some ⟨wb+1,0,none⟩) n n] 35):=⟨_,rfl⟩;rw[←nN]at h5 ⊢;have h6:Hid (Sep w w5 (oD f q p S0 wb (.slice none 0 0) (.slice none 0 0) b i ([],[]) ⟨wb+1+1,0,none⟩ (.slice (some ⟨wb+1,0,none⟩) n n) bs)):=Lh h5;clear nN hwb h5;obtain⟨sc,hsc⟩:∃x,x=(⟨wb+1+1,0,none⟩:Addr):=⟨_,rfl⟩;obtain⟨u,hu⟩:∃x:Value,x= .slice (some ⟨wb+1,0,none⟩) n n:=⟨_,rfl⟩;rw[←hu,←hsc]at h6;rw[←hsc];have hu':=Lh hu;clear hu hsc;have hF0:Hid (uW nb i n 0=true):=Lh (by unfold uW;rw[hroom'.out,Bool.and_eq_true,decide_eq_true_eq,decide_eq_true_eq];have e:eO 1 0=1:=rfl;rw[e];omega);go_loopw[14,13] (alB w f q p wb b i n nb sc u bs) (fun iv _ _=>(70-intOf iv).toNat)
 case atStart=>exact⟨0,0,S0,[],[],_,_,_,rfl,rfl,by decide,Nat.le_refl _,oG.nil _,.inl rfl,hF0.out,hL2.out,ahV,h6.out⟩
 clear h6 hL2 hF0;obtain⟨k,m,S,ns,fs,nv,fv,T,rfl,rfl,hk,hmk,hF,hst,hfit,hL,hT,hS⟩:=hrel;by_cases hlt:k<70
 ·have key:=XT (nb:=nb) (i:=i) (bs:=bs) (k:=k) (m:=m) (ns:=ns) (fs:=fs) (by rw[←hq.out];exact hF) hlt hmk (by rw[←hq.out];exact hst) hs'.out (by rw[←hq.out];exact hfit);rw[←hq.out]at key;obtain⟨E,ns',fs',m',hX,hEE,hF',hmk',hst',NP⟩:=key;obtain⟨x1,h1⟩:∃x:Nat,x=k/10:=⟨_,rfl⟩;obtain⟨x2,h2⟩:∃x:Nat,x=k%10:=⟨_,rfl⟩;(have q1:Int.tdiv (k:Int) 10=x1:=by rw[Int.tdiv_eq_ediv_of_nonneg (by omega)];omega);(have q2:Int.tmod (k:Int) 10=x2:=by rw[Int.tmod_eq_emod_of_nonneg (by omega)];omega);(have r0:(k:Int)<70:=by omega);(have r1:(x1:Int)≤6:=by omega);(have r2:(x2:Int)≤9:=by omega);(have r3:(m:Int)≤70:=by omega);have hS1:=hS.acT (bH k) (by show 3≤maxLen;decide);have hcv:=gV (hS1.rd 0 rfl:BytesAt _ _ _);have e2:(bH k).length=3:=rfl;rw[U0 hlt h1 h2]at hS1 hcv;rw[e2]at hcv hS1;unfold aM at hcv;have hS2:=hS1.bN 38 #[.int .i64 6,.string ⟨(bH k).toArray⟩,.string ⟨#[]⟩,.int .i64 384,.int .i64 0];have bG:Sep w _ (EN f q p S wb nv fv b i nv fv T sc u bs _ _ k):=Sep.bZ [2,3,4,5,6,0,1] hS2 (by decide) (by simp[oD]);(have hd1:Hid (∀W ib nu,Sep w W (EN f q p S wb nv fv b i nv fv T sc u bs ib nu k)→Calls Tryz.prog 14 #[.pointer (some ⟨f,0,none⟩),.agg #[.int .i64 6,.string ⟨(bH k).toArray⟩,.string ⟨#[]⟩,.int .i64 384,.int .i64 0],.slice (some sc) 1 1] W fun e w'=>e= .returned (.int .i64 E)∧∃S',fK S' ns' fs' nb i∧Sep w w' (EN f q p S' wb nv fv b i nv fv T sc u bs ib nu k)):=Lh fun W ib nu hW=>by have h:=hdo.out k m W S ns fs _ _ sc u f q p hlt hu'.out hL hW;rw[hX]at h;exact h);(have hw1:Hid (∀W S' ib nu,Sep w W (EN f q p S' wb nv fv b i nv fv T sc u bs ib nu k)→Calls Tryz.prog 15 #[.agg #[nv,fv,.int .i64 b,.int .i64 i],.agg #[.int .i64 6,.string ⟨(bH k).toArray⟩,.string ⟨#[]⟩,.int .i64 384,.int .i64 0],.slice (some sc) 1 1] W fun e w'=>∃A3 n3 c3 A4 n4 c4 T2,e= .returned (.tuple #[.agg #[.slice A3 n3 c3,.slice A4 n4 c4],.int .i64 E])∧qH T2 ns' fs'∧Sep w w' (EN f q p S' wb nv fv b i (.slice A3 n3 c3) (.slice A4 n4 c4) T2 sc u bs ib nu k)):=Lh fun W S' ib nu hW=>by have h9:=And.intro (UZ (by have:=hs'.out;omega) (hW.drop 1)) (KC (hW.drop 1));have h:=hwd.out k W T ns fs nv fv _ _ sc u hlt hu'.out hT h9 (Sep.bZ [4,0,1,2,3,5,6] hW (by decide) (by simp[EN,qI]));rw[hX]at h;exact h.mono fun e w' ⟨nv2,fv2,T2,h1,h2,h3⟩=>by obtain⟨vs,hT3⟩:=Sep.kept (P:=fun W=>∃vs,dS W nv2 fv2 T2.1 T2.2 vs) 0 h3 rfl;obtain⟨A3,c3,e3,_⟩:=hT3.nodes.shape;obtain⟨A4,c4,e4,_⟩:=hT3.files.shape;subst e3;subst e4;exact⟨A3,_,c3,A4,_,c4,T2,h1,h2,Sep.bZ [1,2,3,4,0,5,6] h3 (by decide) (by simp)⟩);simp only[World.size_alloc]at bG;obtain⟨cc0,cc1,cc2,cc3,d0,d1,g0,g1,g2,g3,g4⟩:=sN bG;replace bG:=Lh bG;clear hS2 hS1 hS e2 hL hX hdo hwd;have hrest:=Lh (And.intro hF' (And.intro hmk' (And.intro hst' NP)));clear hF' hmk' hst' NP hF hst hfit h1 h2 hT;rcases hEE with⟨rfl,rfl⟩|⟨rfl,rfl⟩
  ·have r4:IntKind.i64.wrap ((m:Int)+1)=(m:Int)+1:=IntWalk.i64_in _ (by omega);go_wp2_with(first |(go_at_call 14;refine(hd1.out _ _ _ bG.out).mono ?_;rintro e w4 ⟨rfl,S1,hL1,h4⟩;obtain⟨cc0,cc1,cc2,cc3,d0,d1,g0,g1,g2,g3,g4⟩:=sN h4;have iW:=Lh h4;have hL1':=Lh hL1;clear h4 hL1 bG)|(go_at_call 15;refine(hw1.out _ _ _ _ iW.out).mono ?_;rintro e w6 ⟨A3,n3,c3,A4,n4,c4,T2,rfl,YB,h6⟩;obtain⟨cc0,cc1,cc2,cc3,d0,d1,g0,g1,g2,g3,g4⟩:=sN h6;have JL:=Lh (ZG h6);have kW:=Lh h6;have QM:=Lh YB;have z:=h6.bN 32 #[.slice A3 n3 c3,.slice A4 n4 c4];have z0:=z.bC 0 rfl 0;have z1:=z.bC 0 rfl 1;have y0:=z.bC 4 rfl 0;have y1:=z.bC 4 rfl 1;have y2:=z.bF 4 rfl 0;have y3:=z.bF 4 rfl 1;clear z h6 YB iW)|(go_at_call 16;refine(vV _ _).mono ?_;rintro e w2 ⟨rfl,rfl⟩));obtain⟨hF',hmk',hst',NP⟩:=hrest.out;refine⟨⟨k+1,m+1,S1,ns',fs',_,_,T2,rfl,rfl,by omega,hmk',hF',hst',NP,hL1'.out,QM.out,JL.out⟩,?_⟩;simp only[intOf];omega
  skip
  go_wp2_with(first |(go_at_call 14;refine(hd1.out _ _ _ bG.out).mono ?_;rintro e w4 ⟨rfl,S1,hL1,h4⟩;obtain⟨cc0,cc1,cc2,cc3,d0,d1,g0,g1,g2,g3,g4⟩:=sN h4;have iW:=Lh h4;have hL1':=Lh hL1;clear h4 hL1 bG)|(go_at_call 15;refine(hw1.out _ _ _ _ iW.out).mono ?_;rintro e w6 ⟨A3,n3,c3,A4,n4,c4,T2,rfl,YB,h6⟩;obtain⟨cc0,cc1,cc2,cc3,d0,d1,g0,g1,g2,g3,g4⟩:=sN h6;have JL:=Lh (ZG h6);have kW:=Lh h6;have QM:=Lh YB;have z:=h6.bN 32 #[.slice A3 n3 c3,.slice A4 n4 c4];have z0:=z.bC 0 rfl 0;have z1:=z.bC 0 rfl 1;have y0:=z.bC 4 rfl 0;have y1:=z.bC 4 rfl 1;have y2:=z.bF 4 rfl 0;have y3:=z.bF 4 rfl 1;clear z h6 YB iW)|(go_at_call 16;refine(vV _ _).mono ?_;rintro e w2 ⟨rfl,rfl⟩));obtain⟨hF',hmk',hst',NP⟩:=hrest.out;refine⟨⟨k+1,m',S1,ns',fs',_,_,T2,rfl,rfl,by omega,hmk',hF',hst',NP,hL1'.out,QM.out,JL.out⟩,?_⟩;simp only[intOf];omega
 obtain rfl:k=70:=by omega
 obtain⟨Bz,hBz⟩:∃x,x=mJ ns fs:=⟨_,rfl⟩;obtain⟨Iz,hIz⟩:∃x,x=kD ns:=⟨_,rfl⟩;have hbd:(1≤Bz∧Bz≤b)∧(1≤Iz∧Iz≤i):=by have h:=hfit;unfold uW at h;rw[hroom'.out,Bool.and_eq_true,decide_eq_true_eq,decide_eq_true_eq]at h;have e1:=hF.flat.B;have e2:=hF.flat.I;rw[hF.len]at e1 e2;have e3:eO 1 m=max 1 (((m+15)/16:Nat):Int):=rfl;have e4:0≤(m:Int)*eO 2 n:=Int.mul_nonneg (by omega) (by unfold eO;rw[if_neg (by decide),if_pos rfl];split<;>omega);rw[hBz,hIz,e1,e2];omega
 have hwt:Hid (∀W S',Sep w W (oD f q p S' wb nv fv b i T sc u bs)→Calls Tryz.prog 20 #[.agg #[nv,fv]] W fun e w'=>e= .returned (.agg #[.int .i64 Bz,.int .i64 Iz])∧Below W.heap.size W w'):=Lh fun W S' hW=>by obtain⟨vs,hT3⟩:=Sep.kept (P:=fun W=>∃vs,dS W nv fv T.1 T.2 vs) 4 hW rfl;have h:=yC hT3 hT.loose.sm;rw[hT.eq]at h;simp only at h;rw[ZB hT.good.good,ZC hT.good.good,←hBz,←hIz]at h;exact h
 have hC:Hid (∀W S',Sep w W (oD f q p S' wb nv fv b i T sc u bs)→W.cell? ⟨wb,0,none⟩=some nv∧W.cell? ⟨wb,1,none⟩=some fv∧W.cell? ⟨wb,2,none⟩=some (.int .i64 b)∧W.cell? ⟨wb,3,none⟩=some (.int .i64 i)):=Lh fun W S' hW=>⟨hW.bC 3 rfl 0,hW.bC 3 rfl 1,hW.bC 3 rfl 2,hW.bC 3 rfl 3⟩
 have htm:Hid (∀W:World,Calls Tryz.prog 19 #[.agg #[.int .i64 b,.int .i64 i],.agg #[.int .i64 Bz,.int .i64 Iz]] W fun e w'=>e= .returned (.agg #[.int .i64 (b-Bz),.int .i64 (i-Iz)])∧Below W.heap.size W w'):=Lh fun W=>acS ⟨by omega,by omega⟩ ⟨by omega,by omega⟩ ⟨by omega,by omega⟩ ⟨by omega,by omega⟩ W
 obtain⟨C,hCe⟩:∃C,C=fP (b-Bz) (i-Iz):=⟨_,rfl⟩;have htc:Hid (∀W:World,Calls Tryz.prog 18 #[.agg #[.int .i64 (b-Bz),.int .i64 (i-Iz)]] W fun e w'=>e= .returned C∧Below W.heap.size W w'):=Lh fun W=>by rw[hCe];exact acR _ _ W
 have aEP:∀W,(binOp .eql 44 C C).run Tryz.prog W= .ok (.bool true) W:=fun W=>by rw[hCe];exact acU (by unfold cO;omega) (by unfold cO;omega) W
 have aEQ:∀x y W,(eqGuard .eql 44 x y C C).run Tryz.prog W= .ok () W:=fun x y W=>by rw[hCe];exact UX _ _ W
 have hfree:∀ns2 fs2,mJ ns2 fs2=Bz→kD ns2=Iz→Hid (∀W S',fK S' ns2 fs2 nb i→Sep w W (oD f q p S' wb nv fv b i T sc u bs)→Calls Tryz.prog 17 #[.pointer (some ⟨f,0,none⟩)] W fun e w'=>e= .returned C∧∃k,w'=W.drewN k):=fun ns2 fs2 e1 e2=>Lh fun W S' hL' hW=>by have h:=amI hL' hW;rw[e1,e2,hroom'.out]at h;rw[hCe];exact h
 have hS1:=Lh hS;have hL1:=Lh hL;have hF9:=Lh hF;have amV:=Lh hfit;clear hS hL hT hCe hF hfit hst hbd;by_cases hm0:m=0
 ·subst hm0;have hfe:=hfree ns fs hBz.symm hIz.symm;clear hfree hBz hIz hdo hwd;go_wp2_with fail;refine aN (S:=fun W=>W.cell? ⟨wb,0,none⟩=some nv∧W.cell? ⟨wb,1,none⟩=some fv∧W.cell? ⟨wb,2,none⟩=some (.int .i64 b)∧W.cell? ⟨wb,3,none⟩=some (.int .i64 i)) 11 (by kernel_rfl) ?_;simp only[List.size_toArray,List.length_cons,List.length_nil,Nat.reduceAdd];have hd:=Lh hS1.out.drew;have hE1:=hC.out _ _ hd.out;generalize wr.drew=w1 at hd hE1 ⊢;clear hS1;refine aA (i:=0) (v:=?_) hE1 rfl ?_ ?_;rotate_left
  ·rintro w ⟨e1,e2,e3,e4⟩;go_simp;try with_reducible rfl
  simp only[Act.put,gD];refine aA (i:=2) (v:=?_) hE1 rfl ?_ ?_;rotate_left
  ·rintro w ⟨e1,e2,e3,e4⟩;go_simp;try with_reducible rfl
  simp only[Act.put,gD];refine aA (i:=3) (v:=?_) hE1 rfl ?_ ?_;rotate_left
  ·rintro w ⟨e1,e2,e3,e4⟩;go_simp;try with_reducible rfl
  simp only[Act.put,gD];refine aA (i:=4) (v:=?_) hE1 rfl ?_ ?_;rotate_left
  ·rintro w ⟨e1,e2,e3,e4⟩;go_simp;try with_reducible rfl
  simp only[Act.put,gD];refine aA (i:=5) (v:=?_) hE1 rfl ?_ ?_;rotate_left
  ·rintro w ⟨e1,e2,e3,e4⟩;go_simp;try with_reducible rfl
  simp only[Act.put,gD];refine aC (i:=1) (by kernel_rfl) rfl (fun K hK=>?_);go_simp;go_at_call 17;refine(hfe.out _ _ hL1.out hd.out).mono ?_;rintro e w7 ⟨rfl,n3,rfl⟩;have h3:=Lh (hd.out.drewN n3);have xE:=hC.out _ _ h3.out;clear hd hE1 hfe;refine hK _ _ (fun _=>xE) ?_;clear hK K;(try simp only[Act.put,gD]);refine aC (i:=6) (by kernel_rfl) rfl (fun K hK=>?_);go_simp;go_at_call 20;refine(hwt.out _ _ h3.out).mono ?_;rintro e w4 ⟨rfl,hb4⟩;have h4:=Lh (h3.out.pure hb4);have BK:=hC.out _ _ h4.out;clear hb4 h3 xE hwt;refine hK _ _ (fun _=>BK) ?_;clear hK K;(try simp only[Act.put,gD]);refine aC (i:=7) (by kernel_rfl) rfl (fun K hK=>?_);go_simp;go_at_call 19;refine(htm.out _).mono ?_;rintro e w5 ⟨rfl,hb5⟩;have h5:=Lh (h4.out.pure hb5);have uZ:=hC.out _ _ h5.out;clear hb5 h4 BK htm;refine hK _ _ (fun _=>uZ) ?_;clear hK K;(try simp only[Act.put,gD]);refine aC (i:=8) (by kernel_rfl) rfl (fun K hK=>?_);go_simp;go_at_call 18;refine(htc.out _).mono ?_;rintro e w6 ⟨rfl,hb6⟩;have h6:=Lh (h5.out.pure hb6);have JL:=hC.out _ _ h6.out;clear hb6 h5 uZ htc;refine hK _ _ (fun _=>JL) ?_;clear hK K;(try simp only[Act.put,gD]);refine aC (i:=9) (by kernel_rfl) rfl (fun K hK=>?_);go_simp;refine hK _ _ (fun _=>JL) ?_;clear hK K;(try simp only[Act.put,gD]);refine aC (i:=10) (by kernel_rfl) rfl (fun K hK=>?_);go_simp;refine hK _ _ (fun _=>JL) ?_;clear hK K;(try simp only[Act.put,gD]);refine aO (by kernel_rfl) ?_ _;go_wp2_with fail;go_ret;exact⟨rfl,h6.out.below⟩
 by_cases hm7:m=70
 ·subst hm7;have hfe:=hfree ns fs hBz.symm hIz.symm;clear hfree hBz hIz hdo hwd;go_wp2_with fail;refine aN (S:=fun W=>W.cell? ⟨wb,0,none⟩=some nv∧W.cell? ⟨wb,1,none⟩=some fv∧W.cell? ⟨wb,2,none⟩=some (.int .i64 b)∧W.cell? ⟨wb,3,none⟩=some (.int .i64 i)) 11 (by kernel_rfl) ?_;simp only[List.size_toArray,List.length_cons,List.length_nil,Nat.reduceAdd];have hd:=Lh hS1.out.drew;have hE1:=hC.out _ _ hd.out;generalize wr.drew=w1 at hd hE1 ⊢;clear hS1;refine aA (i:=0) (v:=?_) hE1 rfl ?_ ?_;rotate_left
  ·rintro w ⟨e1,e2,e3,e4⟩;go_simp;try with_reducible rfl
  simp only[Act.put,gD];refine aA (i:=2) (v:=?_) hE1 rfl ?_ ?_;rotate_left
  ·rintro w ⟨e1,e2,e3,e4⟩;go_simp;try with_reducible rfl
  simp only[Act.put,gD];refine aA (i:=3) (v:=?_) hE1 rfl ?_ ?_;rotate_left
  ·rintro w ⟨e1,e2,e3,e4⟩;go_simp;try with_reducible rfl
  simp only[Act.put,gD];refine aA (i:=4) (v:=?_) hE1 rfl ?_ ?_;rotate_left
  ·rintro w ⟨e1,e2,e3,e4⟩;go_simp;try with_reducible rfl
  simp only[Act.put,gD];refine aA (i:=5) (v:=?_) hE1 rfl ?_ ?_;rotate_left
  ·rintro w ⟨e1,e2,e3,e4⟩;go_simp;try with_reducible rfl
  simp only[Act.put,gD];refine aC (i:=1) (by kernel_rfl) rfl (fun K hK=>?_);go_simp;go_at_call 17;refine(hfe.out _ _ hL1.out hd.out).mono ?_;rintro e w7 ⟨rfl,n3,rfl⟩;have h3:=Lh (hd.out.drewN n3);have xE:=hC.out _ _ h3.out;clear hd hE1 hfe;refine hK _ _ (fun _=>xE) ?_;clear hK K;(try simp only[Act.put,gD]);refine aC (i:=6) (by kernel_rfl) rfl (fun K hK=>?_);go_simp;go_at_call 20;refine(hwt.out _ _ h3.out).mono ?_;rintro e w4 ⟨rfl,hb4⟩;have h4:=Lh (h3.out.pure hb4);have BK:=hC.out _ _ h4.out;clear hb4 h3 xE hwt;refine hK _ _ (fun _=>BK) ?_;clear hK K;(try simp only[Act.put,gD]);refine aC (i:=7) (by kernel_rfl) rfl (fun K hK=>?_);go_simp;go_at_call 19;refine(htm.out _).mono ?_;rintro e w5 ⟨rfl,hb5⟩;have h5:=Lh (h4.out.pure hb5);have uZ:=hC.out _ _ h5.out;clear hb5 h4 BK htm;refine hK _ _ (fun _=>uZ) ?_;clear hK K;(try simp only[Act.put,gD]);refine aC (i:=8) (by kernel_rfl) rfl (fun K hK=>?_);go_simp;go_at_call 18;refine(htc.out _).mono ?_;rintro e w6 ⟨rfl,hb6⟩;have h6:=Lh (h5.out.pure hb6);have JL:=hC.out _ _ h6.out;clear hb6 h5 uZ htc;refine hK _ _ (fun _=>JL) ?_;clear hK K;(try simp only[Act.put,gD]);refine aC (i:=9) (by kernel_rfl) rfl (fun K hK=>?_);go_simp;refine hK _ _ (fun _=>JL) ?_;clear hK K;(try simp only[Act.put,gD]);refine aC (i:=10) (by kernel_rfl) rfl (fun K hK=>?_);go_simp;refine hK _ _ (fun _=>JL) ?_;clear hK K;(try simp only[Act.put,gD]);refine aO (by kernel_rfl) ?_ _;go_wp2_with fail;go_ret;exact⟨rfl,h6.out.below⟩
 have r1:(0:Int)<m:=by omega
 have r2:(m:Int)<70:=by omega
 have hdel:=TW (nb:=nb) (names:=i) hF9.out (by omega) (by omega) amV.out;obtain⟨ns2,fs2,hbk,hB2,hI2⟩:=abV (nb:=nb) (names:=i) (bs:=bs) (m:=m) (ns:=ns) (fs:=fs) (by rw[←hq.out];exact hF9.out) (by omega) (by omega) (by rw[←hq.out];exact amV.out) hs'.out;have hfe:=hfree ns2 fs2 (by rw[hB2,hBz]) (by rw[hI2,hIz]);have hd5:Hid (∀W,Sep w W (oD f q p S wb nv fv b i T sc u bs)→Calls Tryz.prog 14 #[.pointer (some ⟨f,0,none⟩),.agg #[.int .i64 5,.string ⟨#[102,48,48]⟩,.string ⟨#[]⟩,.int .i64 0,.int .i64 0],.slice none 0 0] W fun e w'=>e= .returned (.int .i64 0)∧∃S',fK S' (kU ns [bH 0]) fs nb i∧Sep w w' (oD f q p S' wb nv fv b i T sc u bs)):=Lh fun W hW=>by have h:=at5 (op:=5) (path:=bH 0) (tz:=[]) (mode:=0) (kk:=0) (bs:=[]) (A:=none) (n:=0) (c:=0) hL1.out (by decide) (by decide) (by decide) (by decide) (.inr (.inl rfl)) (fun k _ h0=>absurd h0 (Nat.not_lt_zero _)) hW;rw[hdel.1]at h;exact h
 have hd6:Hid (∀W S',fK S' (kU ns [bH 0]) fs nb i→Sep w W (oD f q p S' wb nv fv b i T sc u bs)→Calls Tryz.prog 14 #[.pointer (some ⟨f,0,none⟩),.agg #[.int .i64 6,.string ⟨#[102,48,48]⟩,.string ⟨#[]⟩,.int .i64 384,.int .i64 0],.slice (some sc) 1 1] W fun e w'=>e= .returned (.int .i64 0)∧∃S2,fK S2 ns2 fs2 nb i∧Sep w w' (oD f q p S2 wb nv fv b i T sc u bs)):=Lh fun W S' hL' hW=>by have h:=hdo.out 0 0 W S' (kU ns [bH 0]) fs [XR wb nv fv b i,uO nv fv T] _ sc u f q p (by decide) hu'.out hL' hW;rw[hbk]at h;exact h
 clear hfree hBz hIz hdo hwd hdel hbk hB2 hI2;go_wp2_with(first |(go_at_call 14;first |(refine(hd5.out _ hS1.out).mono ?_;rintro e w4 ⟨rfl,S1,hL1,h4⟩;have hS2:=Lh h4;have hL2:=Lh hL1;clear h4 hL1 hS1)|(refine(hd6.out _ _ hL2.out hS2.out).mono ?_;rintro e w6 ⟨rfl,S2,hL3,h6⟩;have bG:=Lh h6;have hL4:=Lh hL3;clear h6 hL3 hS2 hL2))|(go_at_call 16;refine(vV _ _).mono ?_;rintro e w2 ⟨rfl,rfl⟩));refine aN (S:=fun W=>W.cell? ⟨wb,0,none⟩=some nv∧W.cell? ⟨wb,1,none⟩=some fv∧W.cell? ⟨wb,2,none⟩=some (.int .i64 b)∧W.cell? ⟨wb,3,none⟩=some (.int .i64 i)) 11 (by kernel_rfl) ?_;simp only[List.size_toArray,List.length_cons,List.length_nil,Nat.reduceAdd];have hd:=Lh bG.out.drew;have hE1:=hC.out _ _ hd.out;generalize w6.drew=w1 at hd hE1 ⊢;clear bG;refine aA (i:=0) (v:=?_) hE1 rfl ?_ ?_;rotate_left
 ·rintro w ⟨e1,e2,e3,e4⟩;go_simp;try with_reducible rfl
 simp only[Act.put,gD];refine aA (i:=2) (v:=?_) hE1 rfl ?_ ?_;rotate_left
 ·rintro w ⟨e1,e2,e3,e4⟩;go_simp;try with_reducible rfl
 simp only[Act.put,gD];refine aA (i:=3) (v:=?_) hE1 rfl ?_ ?_;rotate_left
 ·rintro w ⟨e1,e2,e3,e4⟩;go_simp;try with_reducible rfl
 simp only[Act.put,gD];refine aA (i:=4) (v:=?_) hE1 rfl ?_ ?_;rotate_left
 ·rintro w ⟨e1,e2,e3,e4⟩;go_simp;try with_reducible rfl
 simp only[Act.put,gD];refine aA (i:=5) (v:=?_) hE1 rfl ?_ ?_;rotate_left
 ·rintro w ⟨e1,e2,e3,e4⟩;go_simp;try with_reducible rfl
 simp only[Act.put,gD];refine aC (i:=1) (by kernel_rfl) rfl (fun K hK=>?_);go_simp;go_at_call 17;refine(hfe.out _ _ hL4.out hd.out).mono ?_;rintro e w7 ⟨rfl,n3,rfl⟩;have h3:=Lh (hd.out.drewN n3);have xE:=hC.out _ _ h3.out;clear hd hE1 hfe;refine hK _ _ (fun _=>xE) ?_;clear hK K;try simp only[Act.put,gD]
 refine aC (i:=6) (by kernel_rfl) rfl (fun K hK=>?_);go_simp;go_at_call 20;refine(hwt.out _ _ h3.out).mono ?_;rintro e w4 ⟨rfl,hb4⟩;have h4:=Lh (h3.out.pure hb4);have BK:=hC.out _ _ h4.out;clear hb4 h3 xE hwt;refine hK _ _ (fun _=>BK) ?_;clear hK K;try simp only[Act.put,gD]
 refine aC (i:=7) (by kernel_rfl) rfl (fun K hK=>?_);go_simp;go_at_call 19;refine(htm.out _).mono ?_;rintro e w5 ⟨rfl,hb5⟩;have h5:=Lh (h4.out.pure hb5);have uZ:=hC.out _ _ h5.out;clear hb5 h4 BK htm;refine hK _ _ (fun _=>uZ) ?_;clear hK K;try simp only[Act.put,gD]
 refine aC (i:=8) (by kernel_rfl) rfl (fun K hK=>?_);go_simp;go_at_call 18;refine(htc.out _).mono ?_;rintro e w6 ⟨rfl,hb6⟩;have h6:=Lh (h5.out.pure hb6);have JL:=hC.out _ _ h6.out;clear hb6 h5 uZ htc;refine hK _ _ (fun _=>JL) ?_;clear hK K;try simp only[Act.put,gD]
 refine aC (i:=9) (by kernel_rfl) rfl (fun K hK=>?_);go_simp;refine hK _ _ (fun _=>JL) ?_;clear hK K;try simp only[Act.put,gD]
 refine aC (i:=10) (by kernel_rfl) rfl (fun K hK=>?_);go_simp;refine hK _ _ (fun _=>JL) ?_;clear hK K;try simp only[Act.put,gD]
 refine aO (by kernel_rfl) ?_ _;go_wp2_with fail;go_ret;exact⟨rfl,h6.out.below⟩
end
end Go.Proofs.YteihmbaimbogaaaGreat
