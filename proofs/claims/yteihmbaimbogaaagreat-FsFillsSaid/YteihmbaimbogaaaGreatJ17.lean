/- FtO, FtP, laid together. -/
import Derived.Test.YteihmbaimbogaaaGreatJ15
import Derived.Test.YteihmbaimbogaaaGreatJ16
namespace Go.Proofs.YteihmbaimbogaaaGreat
open Go.RowKit
set_option linter.unusedVariables false
set_option linter.unusedSimpArgs false
def VS.node (S:VS) (z:Int):VS:= {S with nodes:=z}
def fF (S:VS) (dir:Nat) (name:List UInt8) (n:Nat):Option VS:=
 match iD (S.node (S.nodes+1)) (aF S.cur dir).aB (((aF S.cur dir).size+16)/16)with
 |none=>none
 |some (S1,l)=>some ((S1.keep dir {aF S.cur dir with size:=(aF S.cur dir).size+1,aB:=l}).fE (l.getD ((aF S.cur dir).size/16) 0) (aF S.cur dir).size name n)
theorem gN {w0:World} {R:List aU} {v:Value} {l:List Nat} (i:Nat) (h:R[i]? =some (aQ v (dR l))):uJ w0 R v l:=fun w' X hX=>by have:=hX.rd (X.length+i) ((List.getElem?_append_right (by omega)).trans (by rw[Nat.add_sub_cancel_left];exact h));unfold dR at this;rw[List.length_map]at this;exact this
section
variable {w0 w:World} {R:List aU} {f q p:Nat} {S:VS} {a:VA}
theorem VC.node (h:VC S a) (z:Int):VC (S.node z) a:=⟨h.l8,h.big,h.on,h.cur,h.seen,h.fresh,h.rest,h.few,h.none⟩
theorem VF.node (h:VF S) (z:Int):VF (S.node z):=⟨h.names,h.room⟩
theorem Sep.QT (h:Sep w0 w (aG f q p S a::R)) (z:Int):Sep w0 (w.setCell ⟨f,6,none⟩ (.int .i64 z)) (aG f q p (S.node z) a::R):=by have h1:=h.aS.bS 0 rfl 6 (.int .i64 z);have h2:Sep w0 (w.setCell ⟨f,6,none⟩ (.int .i64 z)) (oH f q p (S.node z) a++R):=h1;exact h2.bM
theorem Sep.GM (h:Sep w0 w (aG f q p S a::R)) (j:Nat):w.frozen? ⟨f,j,none⟩=false:=h.aS.bF 0 rfl j
theorem Sep.gP {As:List aU} {b:Nat} {x:VI} {v:Value} (i:Nat) (h:Sep w0 w As) (hi:As[i]? =some (.box b 118 (aL x v))):
  w.cell? ⟨b,0,none⟩=some (.int .i64 (x.kind:Nat))∧w.cell? ⟨b,1,none⟩=some (.int .i64 (x.mode:Nat))∧w.cell? ⟨b,2,none⟩=some (.int .i64 (x.links:Nat))∧w.cell? ⟨b,3,none⟩=some (.int .i64 (x.size:Nat))∧w.cell? ⟨b,4,none⟩=some v:=by
 have z:=fun j=>h.bC i hi j
 exact⟨z 0,z 1,z 2,z 3,z 4⟩
theorem Used.small {T:VS} {k:Nat} (h:Used S T k) (hW:fD S):fD T:=⟨by rw[h.wB];exact hW.b0,by rw[h.wB];exact hW.b1,by rw[h.wI];exact hW.i0,by rw[h.wI];exact hW.i1⟩
set_option maxRecDepth 100000 in
set_option maxHeartbeats 4000000 in
theorem ZY {dir n:Nat} {name:List UInt8} (hC:VC S a) (hF:VF S) (OL:dir<S.names) (hok:(aF S.cur dir).aB.length≤28) (hsp:∀s∈(aF S.cur dir).aB,s<S.count) (hsz:(aF S.cur dir).size<448) (hW:fD S) (hnd: -1000000≤S.nodes∧S.nodes≤1000000) (hname:name.length≤15) (hn:n≤65535) (h:Sep w0 w (aG f q p S a::R)):
  Calls Tryz.prog 104 #[.pointer (some ⟨f,0,none⟩),.int .i64 dir,aM name,.int .i64 n] w (fA f q p S (fF S dir name n) w0 R):=by
 have hin:=jD hC hF OL hok h;obtain⟨x,hx⟩:∃x,x=aF S.cur dir:=⟨_,rfl⟩;have hxo:x.ok:=by rw[hx];exact OI (by have:=hok;unfold aF at this;exact this)
 rw[←hx]at hin hok hsp hsz;obtain⟨m,hm⟩:∃m,m=(x.size+16)/16:=⟨_,rfl⟩;have aiZ:m≤28:=by omega
 have hpt:=fun w=>rM (n:=x.size+1) (by':=16) (by omega) (by omega) (by omega) w
 rw[show x.size+1+16-1=x.size+16 by omega,←hm,show((x.size+1:Nat):Int)=(x.size:Int)+1 by omega]at hpt;obtain⟨S0,hS0⟩:∃S0,S0=S.node (S.nodes+1):=⟨_,rfl⟩;have hL0:dY S S0:=by rw[hS0];exact⟨rfl,rfl,rfl,rfl,rfl⟩
 have hft:Hid (∀W bx u a1,VC S a1→Sep w0 W (aG f q p S0 a1:: .box bx 118 (aL {x with size:=x.size+1} u)::aQ u (dR x.aB)::R)→
   Calls Tryz.prog 89 #[.pointer (some ⟨f,0,none⟩),.pointer (some ⟨bx,0,none⟩),.int .i64 m] W (mD f q p S0 {x with size:=x.size+1} m bx w0 R)):=Lh fun W bx u a1 jY hS=>
  tC (x:= {x with size:=x.size+1}) (n:=m) (by rw[hS0];exact jY.node _) (by rw[hS0];exact hF.node _) hok aiZ (fun s hs=>by rw[hL0.count];exact hsp s hs) hS
 have F6:Hid (∀W a1 R',Sep w0 W (aG f q p S a1::R')→(W.cell? ⟨f,6,none⟩=some (.int .i64 S.nodes)∧W.frozen? ⟨f,6,none⟩=false)∧Sep w0 (W.setCell ⟨f,6,none⟩ (.int .i64 (S.nodes+1))) (aG f q p S0 a1::R')):=Lh fun W a1 R' hS=>⟨⟨hS.dK.c6,hS.GM 6⟩,by rw[hS0];exact hS.QT _⟩
 obtain⟨nd,hnd'⟩:∃nd,nd=S.nodes:=⟨_,rfl⟩;rw[←hnd']at hnd F6;have n1:=hnd.1;have n2:=hnd.2;have x1:(x.size:Int)<448:=by omega
 have x0:(0:Int)≤x.size:=by omega
 have e1:(((x.size+1:Nat)):Int)=(x.size:Int)+1:=by omega
 cases hfp:iD S0 x.aB m with
 |none=>
  (have hres:fF S dir name n=none:=by unfold fF;rw[←hx,←hm,←hS0,hfp]);rw[hres];have GL:Hid (∀W bx u a1,VC S a1→Sep w0 W (aG f q p S0 a1:: .box bx 118 (aL {x with size:=x.size+1} u)::aQ u (dR x.aB)::R)→
   Calls Tryz.prog 89 #[.pointer (some ⟨f,0,none⟩),.pointer (some ⟨bx,0,none⟩),.int .i64 m] W fun e w'=>e= .panicked (eH 27)∧∃S1 a1,dY S S1∧VC S1 a1∧Sep w0 w' (aG f q p S1 a1::R)):=Lh fun W bx u a1 jY hS=>by
   refine(hft.out W bx u a1 jY hS).mono ?_
   intro e w' ho
   unfold mD at ho
   have nX:iD S0 ({x with size:=x.size+1}:VI).aB m=none:=hfp
   rw[nX]at ho
   obtain⟨rfl,S1,a1,g1,g2,g3⟩:=ho
   exact⟨rfl,S1,a1,hL0.trans g1,g2,g3⟩
  clear hC hF OL hok hsp hsz hW hnd h hx hxo hm aiZ hS0 hL0 hft hfp hres hname hn hnd';unfold dZ aM at*;go_enter Tryz.func104,Tryz.ntmps104;go_wp2_with(first |(go_at_call 64;refine hin.mono ?_;rintro e w9 ⟨v,a1,rfl,hR,h9⟩;(obtain⟨A9,c9,e9⟩:=h9.dA 0 rfl);subst e9;(have hs:Sep w0 (w9.alloc (.cells #[.int .i64 (x.kind:Nat),.int .i64 (x.mode:Nat),.int .i64 (x.links:Nat),.int .i64 ((x.size:Int)+1),.slice A9 (dR x.aB).length c9] 118)) (.box w9.heap.size 118 (aL {x with size:=x.size+1} (.slice A9 (dR x.aB).length c9))::aQ (.slice A9 (dR x.aB).length c9) (dR x.aB)::aG f q p S a1::R):=h9.bN 118 _);(obtain⟨⟨k6,f6⟩,hs3⟩:=F6.out _ _ _ (Sep.bZ [2,0,1] hs (by decide) (by simp)));(have k3:=(hs3.drew.gP 1 rfl).2.2.2.1);(have ZZ:=GL.out _ _ _ _ hR.ok hs3.drew);replace hs3:=Lh hs3;clear hs h9 hR hin F6 GL;unfold aL at ZZ ⊢));rw[e1]at k3;refine aN (S:=fun w'=>w'.cell? ⟨w9.heap.size,3,none⟩=some (.int .i64 ((x.size:Int)+1))) 7 (by kernel_rfl) ?_;simp only[List.size_toArray,List.length_cons,List.length_nil,Nat.reduceAdd];refine aA (i:=0) (v:=?_) k3 rfl ?_ ?_;rotate_left
  ·rintro w e1;go_simp;try with_reducible rfl
  simp only[Act.put,gD];refine aA (i:=1) (v:=?_) k3 rfl ?_ ?_;rotate_left
  ·rintro w e1;go_simp;try with_reducible rfl
  simp only[Act.put,gD];refine aA (i:=2) (v:=?_) k3 rfl ?_ ?_;rotate_left
  ·rintro w e1;go_simp;try with_reducible rfl
  simp only[Act.put,gD];refine aA (i:=3) (v:=?_) k3 rfl ?_ ?_;rotate_left
  ·rintro w e1;go_simp;try with_reducible rfl
  simp only[Act.put,gD];refine aA (i:=4) (v:=?_) k3 rfl ?_ ?_;rotate_left
  ·rintro w e1;go_simp;try with_reducible rfl
  simp only[Act.put,gD];refine aC (i:=5) (by kernel_rfl) rfl (fun K hK=>?_);go_simp;go_at_call 85;refine(hpt _).mono ?_;rintro e w8 ⟨rfl,h8⟩;obtain rfl:=h8.symm;dsimp only;refine hK _ _ (fun _=>k3) ?_;clear hK K;(try simp only[Act.put,gD]);refine aC (i:=6) (by kernel_rfl) rfl (fun K hK=>?_);go_simp;go_at_call 89;refine ZZ.mono ?_;rintro e w7 ⟨rfl,hend⟩;exact⟨rfl,rfl,hend⟩
 |some r=>
  obtain⟨S1,l⟩:=r;have hU:=iA hfp;have hk1:=mW hfp;have hlt:=OH hfp (fun s hs=>by rw[hL0.count];exact hsp s hs);(have hi0:aF S1.cur dir=x:=by rw[hU.1.ino,hS0];exact hx.symm);obtain⟨y,hy⟩:∃y:VI,y= {x with size:=x.size+1,aB:=l}:=⟨_,rfl⟩;(have hyo:y.ok:=by rw[hy];exact⟨hxo.kind,hxo.mode,hxo.links,by show x.size+1<65536;omega,by show l.length≤28;rw[hU.2];exact aiZ,fun s hs=>by have h2:=hlt s hs;have h3:=hC.l8.few;rw[hL0.count]at h2;unfold VS.count at h2;omega⟩);(have hil:x.size/16<l.length:=by rw[hU.2,hm];omega);obtain⟨s,hs⟩:∃s,s=l.getD (x.size/16) 0:=⟨_,rfl⟩;(have hsl:l[x.size/16]? =some s:=by rw[hs,gH,gE hil];rfl);(have hres:fF S dir name n=some ((S1.keep dir y).fE s x.size name n):=by unfold fF;rw[←hx,←hm,←hS0,hfp,hy,hs]);rw[hres];have hF1:VF S1:=(hL0.trans hk1).vf hF;have hn1:S1.names=S.names:=(hL0.trans hk1).names;have hW1:fD S1:=hU.1.small (by rw[hS0];exact⟨hW.b0,hW.b1,hW.i0,hW.i1⟩);have GL:Hid (∀W bx u a1,VC S a1→Sep w0 W (aG f q p S0 a1:: .box bx 118 (aL {x with size:=x.size+1} u)::aQ u (dR x.aB)::R)→
   Calls Tryz.prog 89 #[.pointer (some ⟨f,0,none⟩),.pointer (some ⟨bx,0,none⟩),.int .i64 m] W fun e w'=>e= .returned (.tuple #[])∧∃a1 A c,VC S1 a1∧Sep w0 w' (aG f q p S1 a1:: .box bx 118 (aL y (.slice A m c))::aQ (.slice A m c) (dR l)::R)):=Lh fun W bx u a1 jY hS=>by
   refine(hft.out W bx u a1 jY hS).mono ?_
   intro e w' ho
   unfold mD at ho
   have nX:iD S0 ({x with size:=x.size+1}:VI).aB m=some (S1,l):=hfp
   rw[nX]at ho
   obtain⟨rfl,a2,v2,_,h2,h3⟩:=ho
   obtain⟨A,c,e⟩:=h3.dA 2 rfl
   have hl:(dR l).length=m:=by unfold dR;rw[List.length_map];exact hU.2
   rw[hl]at e
   subst e
   rw[hy]
   exact⟨rfl,a2,A,c,h2,h3⟩
  have hkp:Hid (∀W bx u a2,VC S1 a2→Sep w0 W (aG f q p S1 a2:: .box bx 118 (aL y u)::aQ u (dR l)::R)→
   Calls Tryz.prog 90 #[.pointer (some ⟨f,0,none⟩),.int .i64 dir,dZ y u] W fun e w'=>e= .returned (.tuple #[])∧∃a',VC (S1.keep dir y) a'∧Sep w0 w' (aG f q p (S1.keep dir y) a':: .box bx 118 (aL y u)::aQ u (dR l)::R)):=Lh fun W bx u a2 jY hS=>
   o9 jY hF1 (by rw[hn1];exact OL) hyo (by rw[hi0];exact hok) hW1 (gN 1 (by rw[hy];rfl)) hS
  have hst:Hid (∀W bx u a2,VC (S1.keep dir y) a2→Sep w0 W (aG f q p (S1.keep dir y) a2:: .box bx 118 (aL y u)::aQ u (dR l)::R)→
   Calls Tryz.prog 151 #[.pointer (some ⟨f,0,none⟩),dZ y u,.int .i64 x.size,aM name,.int .i64 n] W fun e w'=>e= .returned (.tuple #[])∧∃a',VC ((S1.keep dir y).fE s x.size name n) a'∧Sep w0 w' (aG f q p ((S1.keep dir y).fE s x.size name n) a'::R)):=Lh fun W bx u a2 jY hS=>by
   refine(OG jY hF1.keep (gN (l:=y.aB) 1 (by rw[hy];rfl)) (i:=x.size) (s:=s) (by rw[hy];exact hsl) (by have:=hlt s (gG hsl);rw[←hk1.count]at this;exact this) hyo.few hname hn hS).mono ?_
   rintro e w' ⟨rfl,a',h5,h6⟩
   have h7:Sep w0 w' (.box bx 118 (aL y u)::aQ u (dR l)::aG f q p ((S1.keep dir y).fE s x.size name n) a'::R):=Sep.bZ [1,2,0] h6 (by decide) (by simp)
   exact⟨rfl,a',h5,h7.drop 2⟩
  (have hyc:Hid (∀W As bx u,As[1]? =some (.box bx 118 (aL y u))→Sep w0 W As→W.cell? ⟨bx,0,none⟩=some (.int .i64 (x.kind:Nat))∧W.cell? ⟨bx,1,none⟩=some (.int .i64 (x.mode:Nat))∧W.cell? ⟨bx,2,none⟩=some (.int .i64 (x.links:Nat))∧W.cell? ⟨bx,3,none⟩=some (.int .i64 ((x.size:Int)+1))∧W.cell? ⟨bx,4,none⟩=some u):=Lh fun W As bx u hi hS=>by have:=hS.gP 1 hi;rw[hy]at this;exact this);(have hyv:Hid (∀u,dZ y u= .agg #[.int .i64 (x.kind:Nat),.int .i64 (x.mode:Nat),.int .i64 (x.links:Nat),.int .i64 ((x.size:Int)+1),u]):=Lh fun u=>by rw[hy];rfl);clear hC hF OL hok hsp hsz hW hnd h hx hxo hm aiZ hS0 hL0 hft hfp hres hname hn hnd' hU hk1 hlt hi0 hyo hil hs hsl hF1 hn1 hW1;clear hy;unfold aM at*;unfold dZ at hin;go_enter Tryz.func104,Tryz.ntmps104;go_wp2_with(first |(go_at_call 64;refine hin.mono ?_;rintro e w9 ⟨v,a1,rfl,hR,h9⟩;(obtain⟨A9,c9,e9⟩:=h9.dA 0 rfl);subst e9;(have hs:Sep w0 (w9.alloc (.cells #[.int .i64 (x.kind:Nat),.int .i64 (x.mode:Nat),.int .i64 (x.links:Nat),.int .i64 ((x.size:Int)+1),.slice A9 (dR x.aB).length c9] 118)) (.box w9.heap.size 118 (aL {x with size:=x.size+1} (.slice A9 (dR x.aB).length c9))::aQ (.slice A9 (dR x.aB).length c9) (dR x.aB)::aG f q p S a1::R):=h9.bN 118 _);(obtain⟨⟨k6,f6⟩,hs3⟩:=F6.out _ _ _ (Sep.bZ [2,0,1] hs (by decide) (by simp)));(have k3:=(hs3.drew.gP 1 rfl).2.2.2.1);(have ZZ:=GL.out _ _ _ _ hR.ok hs3.drew);replace hs3:=Lh hs3;clear hs h9 hR hin F6 GL;unfold aL at ZZ ⊢));rw[e1]at k3;refine aN (S:=fun w'=>w'.cell? ⟨w9.heap.size,3,none⟩=some (.int .i64 ((x.size:Int)+1))) 7 (by kernel_rfl) ?_;simp only[List.size_toArray,List.length_cons,List.length_nil,Nat.reduceAdd];refine aA (i:=0) (v:=?_) k3 rfl ?_ ?_;rotate_left
  ·rintro w e1;go_simp;try with_reducible rfl
  simp only[Act.put,gD];refine aA (i:=1) (v:=?_) k3 rfl ?_ ?_;rotate_left
  ·rintro w e1;go_simp;try with_reducible rfl
  simp only[Act.put,gD];refine aA (i:=2) (v:=?_) k3 rfl ?_ ?_;rotate_left
  ·rintro w e1;go_simp;try with_reducible rfl
  simp only[Act.put,gD];refine aA (i:=3) (v:=?_) k3 rfl ?_ ?_;rotate_left
  ·rintro w e1;go_simp;try with_reducible rfl
  simp only[Act.put,gD];refine aA (i:=4) (v:=?_) k3 rfl ?_ ?_;rotate_left
  ·rintro w e1;go_simp;try with_reducible rfl
  simp only[Act.put,gD];refine aC (i:=5) (by kernel_rfl) rfl (fun K hK=>?_);go_simp;go_at_call 85;refine(hpt _).mono ?_;rintro e w8 ⟨rfl,h8⟩;obtain rfl:=h8.symm;dsimp only;refine hK _ _ (fun _=>k3) ?_;clear hK K;(try simp only[Act.put,gD]);refine aC (i:=6) (by kernel_rfl) rfl (fun K hK=>?_);go_simp;go_at_call 89;refine ZZ.mono ?_;rintro e w7 ⟨rfl,a2,A7,c7,hC2,h7⟩;have k4:=hyc.out _ _ _ _ rfl h7;have k5:w7.cell? ⟨w9.heap.size,3,none⟩=some (.int .i64 ((x.size:Int)+1)):=k4.2.2.2.1;have tH:=hkp.out _ _ _ _ hC2 h7.drew;rw[hyv.out]at tH;replace h7:=Lh h7;clear ZZ hC2 hkp k3;dsimp only;refine hK _ _ (fun _=>k5) ?_;clear hK K;(try simp only[Act.put,gD]);refine aO (by kernel_rfl) ?_ _;clear k5;go_wp2_with fail;refine aN (S:=fun w'=>w'.cell? ⟨w9.heap.size,0,none⟩=some (.int .i64 (x.kind:Nat))∧w'.cell? ⟨w9.heap.size,1,none⟩=some (.int .i64 (x.mode:Nat))∧w'.cell? ⟨w9.heap.size,2,none⟩=some (.int .i64 (x.links:Nat))∧w'.cell? ⟨w9.heap.size,3,none⟩=some (.int .i64 ((x.size:Int)+1))∧w'.cell? ⟨w9.heap.size,4,none⟩=some (.slice A7 m c7)) 6 (by kernel_rfl) ?_;simp only[List.size_toArray,List.length_cons,List.length_nil,Nat.reduceAdd];(have k4':=show w7.drew.cell? ⟨w9.heap.size,0,none⟩=some (.int .i64 (x.kind:Nat))∧w7.drew.cell? ⟨w9.heap.size,1,none⟩=some (.int .i64 (x.mode:Nat))∧w7.drew.cell? ⟨w9.heap.size,2,none⟩=some (.int .i64 (x.links:Nat))∧w7.drew.cell? ⟨w9.heap.size,3,none⟩=some (.int .i64 ((x.size:Int)+1))∧w7.drew.cell? ⟨w9.heap.size,4,none⟩=some (.slice A7 m c7)from k4);refine aA (i:=0) (v:=?_) k4' rfl ?_ ?_;rotate_left
  ·rintro w ⟨e1,e2,e3,e4,e5⟩;go_simp;try with_reducible rfl
  simp only[Act.put,gD];refine aA (i:=1) (v:=?_) k4' rfl ?_ ?_;rotate_left
  ·rintro w ⟨e1,e2,e3,e4,e5⟩;go_simp;try with_reducible rfl
  simp only[Act.put,gD];refine aA (i:=2) (v:=?_) k4' rfl ?_ ?_;rotate_left
  ·rintro w ⟨e1,e2,e3,e4,e5⟩;go_simp;try with_reducible rfl
  simp only[Act.put,gD];refine aA (i:=3) (v:=?_) k4' rfl ?_ ?_;rotate_left
  ·rintro w ⟨e1,e2,e3,e4,e5⟩;go_simp;try with_reducible rfl
  simp only[Act.put,gD];refine aA (i:=4) (v:=?_) k4' rfl ?_ ?_;rotate_left
  ·rintro w ⟨e1,e2,e3,e4,e5⟩;go_simp;try with_reducible rfl
  simp only[Act.put,gD];refine aC (i:=5) (by kernel_rfl) rfl (fun K hK=>?_);go_simp;go_at_call 90;refine tH.mono ?_;rintro e w6 ⟨rfl,a3,OC,h6⟩;have k6':=hyc.out _ _ _ _ rfl h6;have aqJ:=hst.out _ _ _ _ OC h6;rw[hyv.out]at aqJ;clear k4 k4' tH h7 OC h6 hst;dsimp only;refine hK _ _ (fun _=>k6') ?_;clear hK K;(try simp only[Act.put,gD]);refine aO (by kernel_rfl) ?_ _;obtain⟨d0,d1,d2,d3,d4⟩:=k6';go_wp2_with(go_at_call 151;refine aqJ.mono ?_;rintro e w5 ⟨rfl,h5⟩;replace h5:=Lh h5)
  go_end0
  unfold fA;exact⟨rfl,h5.out⟩
end
def yJ (S:VS) (x:VI) (name:List UInt8):VS:=
 let L:=iJ S.cur S.data x
 let i:=(iR L name).1.toNat
 let e:=pI L (x.size-1)
 (S.fE (x.aB.getD (i/16) 0) i e.1 e.2).fE (x.aB.getD ((x.size-1)/16) 0) (x.size-1) [] 0
def bY (S:VS) (dir:Nat) (name:List UInt8):VS:=
 let x:=aF S.cur dir
 let S2:=yJ S x name
 match iD (S2.node (S2.nodes-1)) x.aB (max 1 ((x.size+14)/16))with
 |none=>S2
 |some (S4,l)=>S4.keep dir {x with size:=x.size-1,aB:=l}
theorem Laid.fE (S:VS) (s i:Nat) (name:List UInt8) (n:Nat):Laid S (S.fE s i name n) 1:=(Laid.refl S).put s _
theorem DJ (S:VS) (x:VI) (name:List UInt8):Laid S (yJ S x name) 2:=(Laid.fE S _ _ _ _).trans (Laid.fE _ _ _ _ _)
section
variable {w0 w:World} {R:List aU} {f q p:Nat} {S:VS} {a:VA}
set_option maxRecDepth 100000 in
set_option maxHeartbeats 4000000 in
theorem Z0 {dir:Nat} {name:List UInt8} (hC:VC S a) (hF:VF S) (OL:dir<S.names) (hD:zP S (aF S.cur dir)) (hW:fD S) (hnd: -1000000≤S.nodes∧S.nodes≤1000000) (hname:name.length≤15)
  (aeA:∃i:Nat,i<(aF S.cur dir).size∧(iR (iJ S.cur S.data (aF S.cur dir)) name).1=i) (hlast:(pI (iJ S.cur S.data (aF S.cur dir)) ((aF S.cur dir).size-1)).1.length≤15) (hroom:(aF S.cur dir).aB.length=max 1 (((aF S.cur dir).size+15)/16)) (h:Sep w0 w (aG f q p S a::R)):
  Calls Tryz.prog 100 #[.pointer (some ⟨f,0,none⟩),.int .i64 dir,aM name] w fun e w'=>e= .returned (.tuple #[])∧∃a',VC (bY S dir name) a'∧Sep w0 w' (aG f q p (bY S dir name) a'::R):=by
 have hok:=hD.few;have hin:=jD hC hF OL hok h;obtain⟨x,hx⟩:∃x,x=aF S.cur dir:=⟨_,rfl⟩;have hxo:x.ok:=by rw[hx];exact OI (by have:=hok;unfold aF at this;exact this)
 rw[←hx]at hin hok hD aeA hlast hroom;obtain⟨i,hi,hfi⟩:=aeA;obtain⟨L,hL⟩:∃L,L=iJ S.cur S.data x:=⟨_,rfl⟩;have qM:Hid (∀W u bx a1,VC S a1→Sep w0 W (aG f q p S a1:: .box bx 118 (aL x u)::aQ u (dR x.aB)::R)→Calls Tryz.prog 117 #[.pointer (some ⟨f,0,none⟩),dZ x u,aM name] W fun e w'=>e= .returned (.tuple #[.int .i64 i,.int .i64 ((iR L name).2:Nat)])∧∃a',VC S a'∧Sep w0 w' (aG f q p S a':: .box bx 118 (aL x u)::aQ u (dR x.aB)::R)):=Lh fun W u bx a1 jY hS=>by refine(QR (name:=name) jY hF (gN 1 rfl) hD hS).mono ?_;rintro e w' ⟨rfl,a',hR,h9⟩;exact⟨by rw[hfi,hL],a',hR.ok,h9⟩
 rw[←hL]at hfi hlast;obtain⟨k,hk⟩:∃k,k=x.size-1:=⟨_,rfl⟩;have hks:x.size=k+1:=by omega
 have hk5:k<448:=by have:=hD.room;omega
 obtain⟨E,hE⟩:∃E,E=pI L k:=⟨_,rfl⟩;have hen:Hid (∀W u bx a1,VC S a1→Sep w0 W (aG f q p S a1:: .box bx 118 (aL x u)::aQ u (dR x.aB)::R)→Calls Tryz.prog 69 #[.pointer (some ⟨f,0,none⟩),dZ x u,.int .i64 k] W fun e w'=>e= .returned (.tuple #[aM E.1,.int .i64 (E.2:Nat)])∧∃a',VC S a'∧Sep w0 w' (aG f q p S a':: .box bx 118 (aL x u)::aQ u (dR x.aB)::R)):=Lh fun W u bx a1 jY hS=>by refine(BX (i:=k) jY hF (gN 1 rfl) hD (by omega) hS).mono ?_;rintro e w' ⟨rfl,a',hR,h9⟩;exact⟨by rw[hE,hL,wR (by omega)],a',hR.ok,h9⟩
 have hE2:E.2≤65535:=by rw[hE,hL,wR (by omega)];have:=LW (eX S.cur S.data x k) 16;unfold YD;omega
 have hE1:E.1.length≤15:=by rw[hE,hk];exact hlast
 obtain⟨s1,aqK,aqL,aqM⟩:=hD.spot hi;obtain⟨s2,aqN,aqO,aqP⟩:=hD.spot (i:=k) (by omega);obtain⟨S1,hS1⟩:∃S1,S1=S.fE s1 i E.1 E.2:=⟨_,rfl⟩;obtain⟨S2,hS2⟩:∃S2,S2=S1.fE s2 k [] 0:=⟨_,rfl⟩;have hl1:Laid S S1 1:=by rw[hS1];exact Laid.fE _ _ _ _ _
 have hl2:Laid S S2 2:=by rw[hS2];exact hl1.trans (Laid.fE _ _ _ _ _)
 have aqQ:Hid (∀W u bx a1,VC S a1→Sep w0 W (aG f q p S a1:: .box bx 118 (aL x u)::aQ u (dR x.aB)::R)→Calls Tryz.prog 151 #[.pointer (some ⟨f,0,none⟩),dZ x u,.int .i64 i,aM E.1,.int .i64 (E.2:Nat)] W fun e w'=>e= .returned (.tuple #[])∧∃a',VC S1 a'∧Sep w0 w' (aG f q p S1 a':: .box bx 118 (aL x u)::aQ u (dR x.aB)::R)):=Lh fun W u bx a1 jY hS=>by rw[hS1];exact OG jY hF (gN 1 rfl) aqK aqL hok hE1 hE2 hS
 have Z4:Hid (∀W u bx a1,VC S1 a1→Sep w0 W (aG f q p S1 a1:: .box bx 118 (aL x u)::aQ u (dR x.aB)::R)→Calls Tryz.prog 151 #[.pointer (some ⟨f,0,none⟩),dZ x u,.int .i64 k,.string ⟨#[]⟩,.int .i64 0] W fun e w'=>e= .returned (.tuple #[])∧∃a',VC S2 a'∧Sep w0 w' (aG f q p S2 a':: .box bx 118 (aL x u)::aQ u (dR x.aB)::R)):=Lh fun W u bx a1 jY hS=>by rw[hS2];exact OG (name:=[]) (n:=0) jY (hl1.like.vf hF) (gN 1 rfl) aqN (by rw[hl1.like.count];exact aqO) hok (by decide) (by decide) hS
 obtain⟨S3,bG⟩:∃S3,S3=S2.node (S2.nodes-1):=⟨_,rfl⟩;have hL3:dY S S3:=by rw[bG];exact hl2.like.trans ⟨rfl,rfl,rfl,rfl,rfl⟩
 have F6:Hid (∀W a1 R',Sep w0 W (aG f q p S2 a1::R')→(W.cell? ⟨f,6,none⟩=some (.int .i64 S.nodes)∧W.frozen? ⟨f,6,none⟩=false)∧Sep w0 (W.setCell ⟨f,6,none⟩ (.int .i64 (S.nodes-1))) (aG f q p S3 a1::R')):=Lh fun W a1 R' hS=>⟨⟨by rw[←hl2.nodes];exact hS.dK.c6,hS.GM 6⟩,by rw[bG,←hl2.nodes];exact hS.QT _⟩
 obtain⟨m,hm⟩:∃m,m=(k+15)/16:=⟨_,rfl⟩;have hpt:=fun w=>rM (n:=k) (by':=16) (by omega) (by omega) (by omega) w
 rw[show k+16-1=k+15 by omega,←hm]at hpt;have hmm:max 1 m≤x.aB.length:=by rw[hroom,hks,hm];omega
 obtain⟨S4,hfp⟩:=BV (S:=S3) hmm;have hU:=iA hfp;have hk1:=mW hfp;have hlt:=OH hfp (fun s hs=>by rw[hL3.count];exact hD.lt s hs);obtain⟨l,hl⟩:∃l,l=x.aB.take (max 1 m):=⟨_,rfl⟩;rw[←hl]at hfp hU hlt;obtain⟨y,hy⟩:∃y:VI,y= {x with size:=k,aB:=l}:=⟨_,rfl⟩;have hyo:y.ok:=by rw[hy];exact⟨hxo.kind,hxo.mode,hxo.links,by show k<65536;omega,by show l.length≤28;rw[hU.2];omega,fun s hs=>by have h2:=hlt s hs;have h3:=hC.l8.few;rw[hL3.count]at h2;unfold VS.count at h2;omega⟩
 have hi0:aF S4.cur dir=x:=by rw[hU.1.ino,bG];exact(hl2.ino OL).trans hx.symm
 have hres:bY S dir name=S4.keep dir y:=by unfold bY;(have e2:yJ S x name=S2:=by unfold yJ;rw[hS2,hS1,hE,hk];simp only[←hL,hfi,Int.toNat_natCast];rw[←hk,aqM,aqP]);rw[←hx];simp only[e2,←bG];rw[show max 1 ((x.size+14)/16)=max 1 m by rw[hm,hks],hfp,hy,hk]
 rw[hres];have hF4:VF S4:=(hL3.trans hk1).vf hF;have hn4:S4.names=S.names:=(hL3.trans hk1).names;have hW4:fD S4:=hU.1.small (by rw[bG];exact⟨by show _≤S2.wB;rw[hl2.wB];exact hW.b0,by show S2.wB≤_;rw[hl2.wB];exact hW.b1,by show _≤S2.wI;rw[hl2.wI];exact hW.i0,by show S2.wI≤_;rw[hl2.wI];exact hW.i1⟩);have hft:Hid (∀W bx u a1,VC S2 a1→Sep w0 W (aG f q p S3 a1:: .box bx 118 (aL {x with size:=k} u)::aQ u (dR x.aB)::R)→
   Calls Tryz.prog 89 #[.pointer (some ⟨f,0,none⟩),.pointer (some ⟨bx,0,none⟩),.int .i64 (max 1 m:Nat)] W fun e w'=>e= .returned (.tuple #[])∧∃a1 A c,VC S4 a1∧Sep w0 w' (aG f q p S4 a1:: .box bx 118 (aL y (.slice A l.length c))::aQ (.slice A l.length c) (dR l)::R)):=Lh fun W bx u a1 jY hS=>by
  refine(tC (x:= {x with size:=k}) (n:=max 1 m) (by rw[bG];exact jY.node _) (hL3.vf hF) hok (by omega) (fun s hs=>by rw[hL3.count];exact hD.lt s hs) hS).mono ?_;intro e w' ho;unfold mD at ho;have nX:iD S3 ({x with size:=k}:VI).aB (max 1 m)=some (S4,l):=hfp;rw[nX]at ho;obtain⟨rfl,a2,v2,_,h2,h3⟩:=ho;obtain⟨A,c,e⟩:=h3.dA 2 rfl;(have hll:(dR l).length=l.length:=by unfold dR;rw[List.length_map]);rw[hll]at e;subst e;rw[hy];exact⟨rfl,a2,A,c,h2,h3⟩
 have hkp:Hid (∀W bx u a2,VC S4 a2→Sep w0 W (aG f q p S4 a2:: .box bx 118 (aL y u)::aQ u (dR l)::R)→
   Calls Tryz.prog 90 #[.pointer (some ⟨f,0,none⟩),.int .i64 dir,dZ y u] W fun e w'=>e= .returned (.tuple #[])∧∃a',VC (S4.keep dir y) a'∧Sep w0 w' (aG f q p (S4.keep dir y) a':: .box bx 118 (aL y u)::aQ u (dR l)::R)):=Lh fun W bx u a2 jY hS=>
  o9 jY hF4 (by rw[hn4];exact OL) hyo (by rw[hi0];exact hok) hW4 (gN 1 (by rw[hy];rfl)) hS
 have hll:l.length=max 1 m:=hU.2;have hyv:Hid (∀u,dZ y u= .agg #[.int .i64 (x.kind:Nat),.int .i64 (x.mode:Nat),.int .i64 (x.links:Nat),.int .i64 (k:Nat),u]):=Lh fun u=>by rw[hy];rfl
 have hyc:Hid (∀W As bx u,As[1]? =some (.box bx 118 (aL y u))→Sep w0 W As→W.cell? ⟨bx,0,none⟩=some (.int .i64 (x.kind:Nat))∧W.cell? ⟨bx,1,none⟩=some (.int .i64 (x.mode:Nat))∧W.cell? ⟨bx,2,none⟩=some (.int .i64 (x.links:Nat))∧W.cell? ⟨bx,3,none⟩=some (.int .i64 (k:Nat))∧W.cell? ⟨bx,4,none⟩=some u):=Lh fun W As bx u hi hS=>by have:=hS.gP 1 hi;rw[hy]at this;exact this
 obtain⟨nd,hnd'⟩:∃nd,nd=S.nodes:=⟨_,rfl⟩;rw[←hnd']at hnd F6;have n1:=hnd.1;have n2:=hnd.2;have x1:(k:Int)<448:=by omega
 have x0:(0:Int)≤k:=by omega
 have hz:(x.size:Int)=(k:Int)+1:=by omega
 have hmi:(if(1:Int)<(m:Int)then(m:Int)else 1)=((max 1 m:Nat):Int):=by split<;>omega
 obtain⟨M,hM⟩:∃M,M=max 1 m:=⟨_,rfl⟩;rw[hll]at hft;rw[←hM]at hft hmi;have aBR:(M:Int)≤28:=by omega
 have Z5:Hid (∀u,dZ x u= .agg #[.int .i64 (x.kind:Nat),.int .i64 (x.mode:Nat),.int .i64 (x.links:Nat),.int .i64 ((k:Int)+1),u]∧aL x u=#[.int .i64 (x.kind:Nat),.int .i64 (x.mode:Nat),.int .i64 (x.links:Nat),.int .i64 ((k:Int)+1),u]):=Lh fun u=>by unfold dZ aL;rw[hz];exact⟨rfl,rfl⟩
 have P9:Hid (∀W As bx u,As[1]? =some (.box bx 118 (aL x u))→Sep w0 W As→W.cell? ⟨bx,0,none⟩=some (.int .i64 (x.kind:Nat))∧W.cell? ⟨bx,1,none⟩=some (.int .i64 (x.mode:Nat))∧W.cell? ⟨bx,2,none⟩=some (.int .i64 (x.links:Nat))∧W.cell? ⟨bx,3,none⟩=some (.int .i64 ((k:Int)+1))∧W.cell? ⟨bx,4,none⟩=some u):=Lh fun W As bx u hi hS=>by rw[←hz];exact hS.gP 1 hi
 have hin':Calls Tryz.prog 64 #[.pointer (some ⟨f,0,none⟩),.int .i64 dir] w fun e w'=>∃A c a1,e= .returned (.agg #[.int .i64 (x.kind:Nat),.int .i64 (x.mode:Nat),.int .i64 (x.links:Nat),.int .i64 ((k:Int)+1),.slice A x.aB.length c])∧VC S a1∧Sep w0 (w'.alloc (.cells #[.int .i64 (x.kind:Nat),.int .i64 (x.mode:Nat),.int .i64 (x.links:Nat),.int .i64 ((k:Int)+1),.slice A x.aB.length c] 118)) (aG f q p S a1:: .box w'.heap.size 118 (aL x (.slice A x.aB.length c))::aQ (.slice A x.aB.length c) (dR x.aB)::R):=by refine hin.mono ?_;rintro e w' ⟨v,a1,rfl,hR,h9⟩;obtain⟨A,c,e9⟩:=h9.dA 0 rfl;(have hll:(dR x.aB).length=x.aB.length:=by unfold dR;rw[List.length_map]);rw[hll]at e9;subst e9;refine⟨A,c,a1,by rw[(Z5.out _).1],hR.ok,?_⟩;rw[←(Z5.out _).2];exact Sep.bZ [2,0,1] (h9.bN 118 (aL x (.slice A x.aB.length c))) (by decide) (by simp)
 have hfin:Hid (∀W bx u a1,VC S2 a1→Sep w0 W (aG f q p S2 a1:: .box bx 118 (aL x u)::aQ u (dR x.aB)::R)→W.frozen? ⟨bx,3,none⟩=false∧((W.setCell ⟨bx,3,none⟩ (.int .i64 k)).cell? ⟨f,6,none⟩=some (.int .i64 nd)∧(W.setCell ⟨bx,3,none⟩ (.int .i64 k)).frozen? ⟨f,6,none⟩=false)∧
   (∀W',W'=((W.setCell ⟨bx,3,none⟩ (.int .i64 k)).setCell ⟨f,6,none⟩ (.int .i64 (nd-1))).drew→W'.cell? ⟨bx,3,none⟩=some (.int .i64 k)∧Calls Tryz.prog 89 #[.pointer (some ⟨f,0,none⟩),.pointer (some ⟨bx,0,none⟩),.int .i64 (M:Nat)] W' fun e w'=>e= .returned (.tuple #[])∧∃a1 A c,VC S4 a1∧Sep w0 w' (aG f q p S4 a1:: .box bx 118 (aL y (.slice A M c))::aQ (.slice A M c) (dR l)::R))):=Lh fun W bx u a1 jY hS=>by
  have h1:=hS.bS 1 rfl 3 (.int .i64 (k:Nat));have h2:Sep w0 (W.setCell ⟨bx,3,none⟩ (.int .i64 k)) (aG f q p S2 a1:: .box bx 118 (aL {x with size:=k} u)::aQ u (dR x.aB)::R):=h1;obtain⟨h3,h4⟩:=F6.out _ _ _ h2;refine⟨hS.bF 1 rfl 3,h3,?_⟩;rintro W' rfl;exact⟨h4.drew.bC 1 rfl 3,hft.out _ _ _ _ jY h4.drew⟩
 clear hC hF OL hD hW hnd hname hroom h hin hx hxo hok hi hfi hL hk hks hk5 hE hE2 hE1 aqK aqL aqM aqN aqO aqP hS1 hS2 hl1 hl2 bG hL3 F6 hm hmm hfp hU hk1 hlt hl hyo hi0 hres hF4 hn4 hW4 hft hnd' hlast hll hM hz hy;unfold aM at*;go_enter Tryz.func100,Tryz.ntmps100;go_wp2_with(first |(go_at_call 64;refine hin'.mono ?_;rintro e w9 ⟨A9,c9,a1,rfl,jY,h9⟩;(obtain⟨d0,d1,d2,d3,d4⟩:=P9.out _ _ _ _ rfl h9);(have hc:=qM.out _ _ _ _ jY h9);rw[(Z5.out _).1]at hc;clear jY h9 hin' qM)|(go_at_call 117;refine hc.mono ?_;rintro e w8 ⟨rfl,a2,hC2,h8⟩;clear d0 d1 d2 d3 d4 hc;(obtain⟨d0,d1,d2,d3,d4⟩:=P9.out _ _ _ _ rfl h8);(have hc:=hen.out _ _ _ _ hC2 h8);rw[(Z5.out _).1]at hc;clear hC2 h8 hen)|(go_at_call 69;refine hc.mono ?_;rintro e w7 ⟨rfl,a3,OC,h7⟩;clear d0 d1 d2 d3 d4 hc;(obtain⟨d0,d1,d2,d3,d4⟩:=P9.out _ _ _ _ rfl h7);(have hc:=aqQ.out _ _ _ _ OC h7);rw[(Z5.out _).1]at hc;clear OC h7 aqQ)|(go_at_call 151;refine hc.mono ?_;rintro e w6 ⟨rfl,a4,KH,h6⟩;clear d0 d1 d2 d3 d4 hc;(obtain⟨d0,d1,d2,d3,d4⟩:=P9.out _ _ _ _ rfl h6);(have hc2:=Z4.out _ _ _ _ KH h6);rw[(Z5.out _).1]at hc2;clear KH h6 Z4)|(go_at_call 151;refine hc2.mono ?_;rintro e w5 ⟨rfl,a5,VL,h5⟩;clear d0 d1 d2 d3 d4 hc2;(obtain⟨d0,d1,d2,d3,d4⟩:=P9.out _ _ _ _ rfl h5);(obtain⟨f3,⟨k6,f6⟩,hnx⟩:=hfin.out _ _ _ _ VL h5);replace hnx:=Lh hnx;clear VL h5 hfin));obtain⟨k3,hc⟩:=hnx.out _ rfl;clear hnx d0 d1 d2 d3 d4 k6 f6 f3;refine aN (S:=fun w'=>w'.cell? ⟨w9.heap.size,3,none⟩=some (.int .i64 (k:Nat))) 8 (by kernel_rfl) ?_;simp only[List.size_toArray,List.length_cons,List.length_nil,Nat.reduceAdd];refine aA (i:=0) (v:=?_) k3 rfl ?_ ?_;rotate_left
 ·rintro w e1;go_simp;try with_reducible rfl
 simp only[Act.put,gD];refine aA (i:=1) (v:=?_) k3 rfl ?_ ?_;rotate_left
 ·rintro w e1;go_simp;try with_reducible rfl
 simp only[Act.put,gD];refine aA (i:=2) (v:=?_) k3 rfl ?_ ?_;rotate_left
 ·rintro w e1;go_simp;try with_reducible rfl
 simp only[Act.put,gD];refine aA (i:=3) (v:=?_) k3 rfl ?_ ?_;rotate_left
 ·rintro w e1;go_simp;try with_reducible rfl
 simp only[Act.put,gD];refine aA (i:=4) (v:=?_) k3 rfl ?_ ?_;rotate_left
 ·rintro w e1;go_simp;try with_reducible rfl
 simp only[Act.put,gD];refine aC (i:=5) (by kernel_rfl) rfl (fun K hK=>?_);go_simp;go_at_call 85;refine(hpt _).mono ?_;rintro e w4 ⟨rfl,h4⟩;obtain rfl:=h4.symm;dsimp only;refine hK _ _ (fun _=>k3) ?_;clear hK K;try simp only[Act.put,gD]
 refine aC (i:=6) (by kernel_rfl) rfl (fun K hK=>?_);go_simp;refine hK _ _ (fun _=>k3) ?_;clear hK K;try simp only[Act.put,gD]
 refine aC (i:=7) (by kernel_rfl) rfl (fun K hK=>?_);go_simp;try simp only[hmi]
 go_at_call 89;refine hc.mono ?_;rintro e w3 ⟨rfl,a6,A6,c6,LY,h3⟩;have k4:=hyc.out _ _ _ _ rfl h3;have k5:w3.cell? ⟨w9.heap.size,3,none⟩=some (.int .i64 (k:Nat)):=k4.2.2.2.1;have tH:=hkp.out _ _ _ _ LY h3.drew;rw[hyv.out]at tH;clear LY hkp k3 hc h3;dsimp only;refine hK _ _ (fun _=>k5) ?_;clear hK K;try simp only[Act.put,gD]
 refine aO (by kernel_rfl) ?_ _;clear k5;go_wp2_with fail;refine aN (S:=fun w'=>w'.cell? ⟨w9.heap.size,0,none⟩=some (.int .i64 (x.kind:Nat))∧w'.cell? ⟨w9.heap.size,1,none⟩=some (.int .i64 (x.mode:Nat))∧w'.cell? ⟨w9.heap.size,2,none⟩=some (.int .i64 (x.links:Nat))∧w'.cell? ⟨w9.heap.size,3,none⟩=some (.int .i64 (k:Nat))∧w'.cell? ⟨w9.heap.size,4,none⟩=some (.slice A6 M c6)) 6 (by kernel_rfl) ?_;simp only[List.size_toArray,List.length_cons,List.length_nil,Nat.reduceAdd];have k4':=show w3.drew.cell? ⟨w9.heap.size,0,none⟩=some (.int .i64 (x.kind:Nat))∧w3.drew.cell? ⟨w9.heap.size,1,none⟩=some (.int .i64 (x.mode:Nat))∧w3.drew.cell? ⟨w9.heap.size,2,none⟩=some (.int .i64 (x.links:Nat))∧w3.drew.cell? ⟨w9.heap.size,3,none⟩=some (.int .i64 (k:Nat))∧w3.drew.cell? ⟨w9.heap.size,4,none⟩=some (.slice A6 M c6)from k4
 refine aA (i:=0) (v:=?_) k4' rfl ?_ ?_;rotate_left
 ·rintro w ⟨e1,e2,e3,e4,e5⟩;go_simp;try with_reducible rfl
 simp only[Act.put,gD];refine aA (i:=1) (v:=?_) k4' rfl ?_ ?_;rotate_left
 ·rintro w ⟨e1,e2,e3,e4,e5⟩;go_simp;try with_reducible rfl
 simp only[Act.put,gD];refine aA (i:=2) (v:=?_) k4' rfl ?_ ?_;rotate_left
 ·rintro w ⟨e1,e2,e3,e4,e5⟩;go_simp;try with_reducible rfl
 simp only[Act.put,gD];refine aA (i:=3) (v:=?_) k4' rfl ?_ ?_;rotate_left
 ·rintro w ⟨e1,e2,e3,e4,e5⟩;go_simp;try with_reducible rfl
 simp only[Act.put,gD];refine aA (i:=4) (v:=?_) k4' rfl ?_ ?_;rotate_left
 ·rintro w ⟨e1,e2,e3,e4,e5⟩;go_simp;try with_reducible rfl
 simp only[Act.put,gD];refine aC (i:=5) (by kernel_rfl) rfl (fun K hK=>?_);go_simp;go_at_call 90;refine tH.mono ?_;rintro e w2 ⟨rfl,a7,hC7,h2⟩;have k6':=hyc.out _ _ _ _ rfl h2;have h8:Sep w0 w2 (.box w9.heap.size 118 (aL y (.slice A6 M c6))::aQ (.slice A6 M c6) (dR l)::aG f q p (S4.keep dir y) a7::R):=Sep.bZ [1,2,0] h2 (by decide) (by simp);have h9:=Lh (And.intro hC7 (h8.drop 2));clear h8 h2 hC7 tH;dsimp only;refine hK _ _ (fun _=>k6') ?_;clear hK K;try simp only[Act.put,gD]
 refine aO (by kernel_rfl) ?_ _;go_wp2_with fail
 go_end0
 exact⟨rfl,a7,h9.out.1,h9.out.2⟩
end
end Go.Proofs.YteihmbaimbogaaaGreat
