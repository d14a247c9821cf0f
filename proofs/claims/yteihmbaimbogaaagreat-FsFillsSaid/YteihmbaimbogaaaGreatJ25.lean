/- FuP, laid together. -/
import Derived.Test.YteihmbaimbogaaaGreatJ23
namespace Go.Proofs.YteihmbaimbogaaaGreat
open Go.RowKit
set_option linter.unusedVariables false
set_option linter.unusedSimpArgs false
def lG (S:VS) (dir:Nat) (name:List UInt8) (n:Nat):VS:=
 let S1:=bY S dir name
 let y:VI:= {aF S1.cur n with links:=(aF S1.cur n).links-1}
 if y.links=0 then nO (S1.keep n y) n else S1.keep n y
def aeZ (S:VS) (n mode:Nat):VS:=S.keep n {aF S.cur n with mode:=mode}
def YO (S:VS) (dir:Nat) (name:List UInt8) (tz:Nat) (arB:List UInt8) (n:Nat):Option VS:=fF (bY S dir name) tz arB n
def al2 (S:VS) (n tz:Nat) (name:List UInt8):Option VS:=fF (S.keep n {aF S.cur n with links:=(aF S.cur n).links+1}) tz name n
def D7 :Array Value:=#[.int .i64 0,.int .i64 0,.int .i64 0,.int .i64 0,.slice none 0 0]
section
variable {w0 w:World} {R:List aU} {f q p:Nat} {S:VS} {a:VA}
theorem Sep.aaR {As:List aU} {b:Nat} (i:Nat) (h:Sep w0 w As) (hi:As[i]? =some (.box b 118 D7)) (x:VI) (v:Value):
  w.frozen? ⟨b,0,none⟩=false∧w.frozen? ⟨b,1,none⟩=false∧w.frozen? ⟨b,2,none⟩=false∧w.frozen? ⟨b,3,none⟩=false∧w.frozen? ⟨b,4,none⟩=false∧
  w.cell? ⟨b,0,none⟩=some (.int .i64 0)∧w.cell? ⟨b,1,none⟩=some (.int .i64 0)∧w.cell? ⟨b,2,none⟩=some (.int .i64 0)∧w.cell? ⟨b,3,none⟩=some (.int .i64 0)∧w.cell? ⟨b,4,none⟩=some (.slice none 0 0)∧
  Sep w0 (((((w.setCell ⟨b,0,none⟩ (.int .i64 (x.kind:Nat))).setCell ⟨b,1,none⟩ (.int .i64 (x.mode:Nat))).setCell ⟨b,2,none⟩ (.int .i64 (x.links:Nat))).setCell ⟨b,3,none⟩ (.int .i64 (x.size:Nat))).setCell ⟨b,4,none⟩ v) (As.set i (.box b 118 (aL x v))):=by
 have z:=fun j=>h.bF i hi j
 have y:=fun j=>h.bC i hi j
 have hlt:=(gF.1 hi).1;have hs:∀(l:List aU) (A:aU),l.length=As.length→(l.set i A)[i]? =some A:=fun l A hl=>List.getElem?_set_self (by omega)
 have h1:=h.bS i hi 0 (.int .i64 (x.kind:Nat));have h2:=h1.bS i (hs _ _ rfl) 1 (.int .i64 (x.mode:Nat));have h3:=h2.bS i (hs _ _ (by simp)) 2 (.int .i64 (x.links:Nat));have h4:=h3.bS i (hs _ _ (by simp)) 3 (.int .i64 (x.size:Nat));have h5:=h4.bS i (hs _ _ (by simp)) 4 v;simp only[List.set_set]at h5;exact⟨z 0,z 1,z 2,z 3,z 4,y 0,y 1,y 2,y 3,y 4,h5⟩
theorem ae0 {n:Nat} (hC:VC S a) (hF:VF S) (hn:oF S n) (h:Sep w0 w (aG f q p S a::R)):
  Calls Tryz.prog 64 #[.pointer (some ⟨f,0,none⟩),.int .i64 n] w fun e w'=>∃A c a2,e= .returned (.agg #[.int .i64 ((aF S.cur n).kind:Nat),.int .i64 ((aF S.cur n).mode:Nat),.int .i64 ((aF S.cur n).links:Nat),.int .i64 ((aF S.cur n).size:Nat),.slice A (aF S.cur n).aB.length c])∧VC S a2∧Sep w0 w' (aG f q p S a2::aQ (.slice A (aF S.cur n).aB.length c) (dR (aF S.cur n).aB)::R):=by
 refine(jD hC hF hn.lt hn.few h).mono ?_;rintro e w' ⟨v,a2,rfl,hR,h9⟩;obtain⟨A,c,e9⟩:=h9.dA 0 rfl;have hll:(dR (aF S.cur n).aB).length=(aF S.cur n).aB.length:=by unfold dR;rw[List.length_map]
 rw[hll]at e9;subst e9;exact⟨A,c,a2,rfl,hR.ok,h9.perm (List.Perm.swap _ _ _)⟩
theorem YP {n:Nat} {y:VI} {v:Value} (hC:VC S a) (hF:VF S) (hn:oF S n) (hy:y.ok) (hW:fD S) (i:Nat) (hv:R[i]? =some (aQ v (dR y.aB))) (h:Sep w0 w (aG f q p S a::R)):
  Calls Tryz.prog 90 #[.pointer (some ⟨f,0,none⟩),.int .i64 n,dZ y v] w fun e w'=>e= .returned (.tuple #[])∧∃a',VC (S.keep n y) a'∧Sep w0 w' (aG f q p (S.keep n y) a'::R):=
 o9 hC hF hn.lt hy hn.few hW (gN i hv) h
set_option maxRecDepth 100000 in
set_option maxHeartbeats 4000000 in
theorem RY {bf bd bi bn dir n:Nat} {path:List UInt8} (hR0:∀W Y,Sep w0 W (Y++R)→W.cell? ⟨bf,0,none⟩=some (.pointer (some ⟨f,0,none⟩))∧W.cell? ⟨bd,0,none⟩=some (.int .i64 dir)∧W.cell? ⟨bi,1,none⟩=some (aM path)∧W.cell? ⟨bn,0,none⟩=some (.int .i64 n))
  (hC:VC S a) (hF:VF S) (hv:aP path=true) (hp:path.length≤1048576) (hl:wV S dir (aR path)) (hs:lJ S) (hn:oF (bY S dir (aR path)) n) (hlk:1≤(aF (bY S dir (aR path)).cur n).links) (hs3:fD (bY S dir (aR path)))
  (hnd:oF ((bY S dir (aR path)).keep n {aF (bY S dir (aR path)).cur n with links:=(aF (bY S dir (aR path)).cur n).links-1}) n) (hs4:fD ((bY S dir (aR path)).keep n {aF (bY S dir (aR path)).cur n with links:=(aF (bY S dir (aR path)).cur n).links-1})) (h:Sep w0 w (aG f q p S a::R)):
  Calls Tryz.prog 106 #[.pointer (some ⟨bf,0,none⟩),.pointer (some ⟨bd,0,none⟩),.pointer (some ⟨bi,0,none⟩),.pointer (some ⟨bn,0,none⟩)] w (fA f q p S (some (lG S dir (aR path) n)) w0 R):=by
 have hR:=Lh hR0;obtain⟨SX,hSX⟩:∃SX,SX=bY S dir (aR path):=⟨_,rfl⟩;have II:Hid (dY S SX):=by rw[hSX];exact Lh (D5 _ _ _)
 have hba:Hid (∀W,Calls Tryz.prog 101 #[aM path] W fun e w'=>e= .returned (aM (aR path))∧Below W.heap.size W w'):=Lh fun W=>H8 hv hp W
 have hlv:Hid (∀W a1,VC S a1→Sep w0 W (aG f q p S a1::R)→Calls Tryz.prog 100 #[.pointer (some ⟨f,0,none⟩),.int .i64 dir,aM (aR path)] W fun e w'=>e= .returned (.tuple #[])∧∃a',VC SX a'∧Sep w0 w' (aG f q p SX a'::R)):=Lh fun W a1 h1 h2=>by rw[hSX];exact aeT h1 hF hl hs h2
 obtain⟨xX,hxX⟩:∃xX,xX=aF SX.cur n:=⟨_,rfl⟩;rw[←hSX,←hxX]at hlk hnd hs4;obtain⟨kl,hkl⟩:∃kl,xX.links=kl+1:=⟨xX.links-1,by omega⟩;rw[hkl,Nat.add_sub_cancel]at hnd hs4;have hin:Hid (∀W Y a1,VC SX a1→Sep w0 W (aG f q p SX a1::(Y++R))→Calls Tryz.prog 64 #[.pointer (some ⟨f,0,none⟩),.int .i64 n] W fun e w'=>∃A c a2,e= .returned (.agg #[.int .i64 (xX.kind:Nat),.int .i64 (xX.mode:Nat),.int .i64 (xX.links:Nat),.int .i64 (xX.size:Nat),.slice A xX.aB.length c])∧VC SX a2∧Sep w0 w' (aG f q p SX a2::aQ (.slice A xX.aB.length c) (dR xX.aB)::(Y++R))):=Lh fun W Y a1 h1 h2=>by rw[hxX];exact ae0 h1 (II.out.vf hF) (by rw[hSX];exact hn) h2
 have hxo:xX.ok:=by rw[hxX,hSX];exact OI (by have:=hn.few;unfold aF at this;exact this)
 have hyo:({xX with links:=kl}:VI).ok:=⟨hxo.kind,hxo.mode,by show kl<65536;have:=hxo.links;omega,hxo.size,hxo.few,hxo.spot⟩;have aB3:(kl:Int)<65536:=by have:=hxo.links;omega
 obtain⟨SK,hSK⟩:∃SK,SK=SX.keep n {xX with links:=kl}:=⟨_,rfl⟩;rw[←hSK]at hnd hs4;have IJ:Hid (dY S SK):=by rw[hSK];exact Lh (II.out.keep _ _)
 have hkp:Hid (∀W bx A c a1,VC SX a1→Sep w0 W (aG f q p SX a1:: .box bx 118 (aL {xX with links:=kl} (.slice A xX.aB.length c))::aQ (.slice A xX.aB.length c) (dR xX.aB)::R)→Calls Tryz.prog 90 #[.pointer (some ⟨f,0,none⟩),.int .i64 n,.agg #[.int .i64 (xX.kind:Nat),.int .i64 (xX.mode:Nat),.int .i64 ((kl:Nat)),.int .i64 (xX.size:Nat),.slice A xX.aB.length c]] W fun e w'=>e= .returned (.tuple #[])∧∃a',VC SK a'∧Sep w0 w' (aG f q p SK a':: .box bx 118 (aL {xX with links:=kl} (.slice A xX.aB.length c))::aQ (.slice A xX.aB.length c) (dR xX.aB)::R)):=Lh fun W bx A c a1 h1 h2=>by have:=YP (n:=n) (y:= {xX with links:=kl}) (v:=.slice A xX.aB.length c) h1 (II.out.vf hF) (by rw[hSX];exact hn) hyo (by rw[hSX];exact hs3) 1 rfl h2;rw[hSK];unfold dZ aL at this;exact this
 have hdr:Hid (∀W a1 Y,VC SK a1→Sep w0 W (aG f q p SK a1::(Y++R))→Calls Tryz.prog 102 #[.pointer (some ⟨f,0,none⟩),.int .i64 n] W fun e w'=>e= .returned (.tuple #[])∧∃a',VC (nO SK n) a'∧Sep w0 w' (aG f q p (nO SK n) a'::(Y++R))):=Lh fun W a1 Y h1 h2=>ajJ h1 (IJ.out.vf hF) hnd hs4 h2
 have hres:Hid (lG S dir (aR path) n=if kl=0 then nO SK n else SK):=Lh (by unfold lG;simp only[←hSX,←hxX];rw[hkl,Nat.add_sub_cancel,←hSK]);obtain⟨b1,hb1⟩:∃b,b=aR path:=⟨_,rfl⟩;obtain⟨rX,KS⟩:∃rX,rX=lG S dir (aR path) n:=⟨_,rfl⟩;rw[←KS]at hres ⊢;rw[←hb1]at hba hlv;have hX0:=Lh h;have hV0:=Lh hC;have arD:Hid (((xX.links:Nat):Int)=(kl:Int)+1):=Lh (by omega);clear hR0 hC hF hv hp hl hs hn hlk hs3 hnd hs4 h hSX hb1 KS hxX hxo hyo hSK hkl II IJ;unfold aM at*;go_enter Tryz.func106,Tryz.ntmps106;go_wp2_with fail;have hc:=hR.out w.drew [_] hX0.out.drew;refine aN (S:=fun w'=>w'.cell? ⟨bf,0,none⟩=some (.pointer (some ⟨f,0,none⟩))∧w'.cell? ⟨bd,0,none⟩=some (.int .i64 dir)∧w'.cell? ⟨bi,1,none⟩=some (.string ⟨path.toArray⟩)∧w'.cell? ⟨bn,0,none⟩=some (.int .i64 n)) 8 (by kernel_rfl) ?_;simp only[List.size_toArray,List.length_cons,List.length_nil,Nat.reduceAdd];refine aA (i:=0) (v:=?_) hc rfl ?_ ?_;rotate_left
 ·rintro w ⟨e1,e2,e3,e4⟩;go_simp;try with_reducible rfl
 simp only[Act.put,gD];refine aA (i:=1) (v:=?_) hc rfl ?_ ?_;rotate_left
 ·rintro w ⟨e1,e2,e3,e4⟩;go_simp;try with_reducible rfl
 simp only[Act.put,gD];refine aA (i:=2) (v:=?_) hc rfl ?_ ?_;rotate_left
 ·rintro w ⟨e1,e2,e3,e4⟩;go_simp;try with_reducible rfl
 simp only[Act.put,gD];refine aA (i:=3) (v:=?_) hc rfl ?_ ?_;rotate_left
 ·rintro w ⟨e1,e2,e3,e4⟩;go_simp;try with_reducible rfl
 simp only[Act.put,gD];refine aA (i:=4) (v:=?_) hc rfl ?_ ?_;rotate_left
 ·rintro w ⟨e1,e2,e3,e4⟩;go_simp;try with_reducible rfl
 simp only[Act.put,gD];refine aA (i:=5) (v:=?_) hc rfl ?_ ?_;rotate_left
 ·rintro w ⟨e1,e2,e3,e4⟩;go_simp;try with_reducible rfl
 simp only[Act.put,gD];refine aC (i:=6) (by kernel_rfl) rfl (fun K hK=>?_);go_simp;go_at_call 101;refine(hba.out _).mono ?_;rintro e w9 ⟨rfl,VK⟩;replace hX0:=Lh (hX0.out.drew.pure VK);have lT:=hR.out w9 [_] hX0.out;clear hc VK;dsimp only;refine hK _ _ (fun _=>lT) ?_;clear hK K;try simp only[Act.put,gD]
 refine aC (i:=7) (by kernel_rfl) rfl (fun K hK=>?_);go_simp;go_at_call 100;refine(hlv.out _ _ hV0.out hX0.out).mono ?_;rintro e w8 ⟨rfl,aX,hC8,h8⟩;have hc8:=hR.out w8 [_] h8;have hV:=Lh hC8;have hX:=Lh h8;clear hC8 h8 hX0 hV0 lT hlv hba;dsimp only;refine hK _ _ (fun _=>hc8) ?_;clear hK K;try simp only[Act.put,gD]
 refine aO (by kernel_rfl) ?_ _;clear hc8;go_wp2_with fail;refine fZ (S:=fun w'=>w'.cell? ⟨bf,0,none⟩=some (.pointer (some ⟨f,0,none⟩))∧w'.cell? ⟨bd,0,none⟩=some (.int .i64 dir)∧w'.cell? ⟨bi,1,none⟩=some (.string ⟨path.toArray⟩)∧w'.cell? ⟨bn,0,none⟩=some (.int .i64 n)) 7 (by kernel_rfl) ?_;intro wq hwq;have hX2:Hid (Sep w0 wq (aG f q p SX aX::R)):=by rw[hwq];exact Lh hX.out.drew
 clear hwq hX;have hc:=hR.out wq [_] hX2.out;simp only[List.size_toArray,List.length_cons,List.length_nil,Nat.reduceAdd];refine aA (i:=0) (v:=?_) hc rfl ?_ ?_;rotate_left
 ·rintro w ⟨e1,e2,e3,e4⟩;go_simp;try with_reducible rfl
 simp only[Act.put,gD];refine aA (i:=1) (v:=?_) hc rfl ?_ ?_;rotate_left
 ·rintro w ⟨e1,e2,e3,e4⟩;go_simp;try with_reducible rfl
 simp only[Act.put,gD];refine aA (i:=2) (v:=?_) hc rfl ?_ ?_;rotate_left
 ·rintro w ⟨e1,e2,e3,e4⟩;go_simp;try with_reducible rfl
 simp only[Act.put,gD];refine aA (i:=3) (v:=?_) hc rfl ?_ ?_;rotate_left
 ·rintro w ⟨e1,e2,e3,e4⟩;go_simp;try with_reducible rfl
 simp only[Act.put,gD];refine aA (i:=4) (v:=?_) hc rfl ?_ ?_;rotate_left
 ·rintro w ⟨e1,e2,e3,e4⟩;go_simp;try with_reducible rfl
 simp only[Act.put,gD];refine l9 (i:=5) (j:=6) (by kernel_rfl) rfl rfl (fun K hK=>?_) (fun K hK=>?_)
 focus
  go_simp
  go_at_call 64
  refine(hin.out _ [] _ hV.out hX2.out).mono ?_
  rintro e w9 ⟨A9,c9,a9,rfl,kE,h9⟩
  have lT:=hR.out w9 [_,_] h9
  have h8:=Lh (h9.bN 118 D7)
  have hc8:=hR.out _ [_,_,_] h8.out
  clear hc hX2
  dsimp only
  refine hK _ _ (fun _=>lT) ?_
  clear hK K
  try simp only[Act.put,gD]
  refine aC (i:=6) (by kernel_rfl) rfl (fun K hK=>?_)
  go_simp
  unfold D7 at hc8
  try dsimp only
  refine hK _ _ (fun _=>hc8) ?_
  clear hK K
  try simp only[Act.put,gD]
  obtain⟨bx,hbx⟩:∃bx,bx=w9.heap.size:=⟨_,rfl⟩
  obtain⟨w8,hw8⟩:∃x,x=w9.alloc (.cells #[.int .i64 0,.int .i64 0,.int .i64 0,.int .i64 0,.slice none 0 0] 118):=⟨_,rfl⟩
  have hB:Hid (Sep w0 w8 (.box bx 118 D7::aG f q p SX a9::aQ (.slice A9 xX.aB.length c9) (dR xX.aB)::R)):=by rw[hw8,hbx];exact h8
  rw[←hw8,←hbx]
  clear hw8 hbx h8 hc8 lT h9
  have arE:=Lh kE
  clear kE
 rotate_left
 focus
  go_simp
  have h9:=Lh (hX2.out.bN 118 D7)
  have lT:=hR.out _ [_,_] h9.out
  clear hc
  unfold D7 at lT
  try dsimp only
  refine hK _ _ (fun _=>lT) ?_
  clear hK K
  try simp only[Act.put,gD]
  obtain⟨bx,hbx⟩:∃bx,bx=wq.heap.size:=⟨_,rfl⟩
  obtain⟨w9,hw9⟩:∃x,x=wq.alloc (.cells #[.int .i64 0,.int .i64 0,.int .i64 0,.int .i64 0,.slice none 0 0] 118):=⟨_,rfl⟩
  have h8:Hid (Sep w0 w9 (aG f q p SX aX::([.box bx 118 D7]++R))):=by rw[hw9,hbx];exact Lh (h9.out.perm (List.Perm.swap _ _ _))
  rw[←hw9,←hbx]
  clear hw9 hbx h9 lT hX2
  refine aC (i:=5) (by kernel_rfl) rfl (fun K hK=>?_)
  go_simp
  go_at_call 64
  refine(hin.out _ _ _ hV.out h8.out).mono ?_
  rintro e w8 ⟨A9,c9,a9,rfl,kE,h7⟩
  have hB:Hid (Sep w0 w8 (.box bx 118 D7::aG f q p SX a9::aQ (.slice A9 xX.aB.length c9) (dR xX.aB)::R)):=Lh (Sep.bZ [2,0,1] h7 (by decide) (by simp))
  have lT:=hR.out w8 [_,_,_] hB.out
  clear h8 h7
  dsimp only
  refine hK _ _ (fun _=>lT) ?_
  clear hK K
  try simp only[Act.put,gD]
  clear lT
  have arE:=Lh kE
  clear kE
 all_goals
  obtain⟨z0,z1,z2,z3,z4,y0,y1,y2,y3,y4,hfin⟩:=hB.out.aaR 0 rfl xX (.slice A9 xX.aB.length c9)
  replace hfin:=Lh hfin
  clear hB hV
  refine aC (i:=7) (by kernel_rfl) rfl (fun K hK=>?_)
  go_simp
  refine hK _ _ (fun h=>absurd rfl h) ?_
  clear hK K
  try simp only[Act.put,gD]
  refine aO (by kernel_rfl) ?_ _
  clear z0 z1 z2 z3 z4 y0 y1 y2 y3 y4
  obtain⟨w7,hw7⟩:∃w7,w7=(((((w8.setCell ⟨bx,0,none⟩ (.int .i64 (xX.kind:Nat))).setCell ⟨bx,1,none⟩ (.int .i64 (xX.mode:Nat))).setCell ⟨bx,2,none⟩ (.int .i64 (xX.links:Nat))).setCell ⟨bx,3,none⟩ (.int .i64 (xX.size:Nat))).setCell ⟨bx,4,none⟩ (.slice A9 xX.aB.length c9)):=⟨_,rfl⟩
  rw[←hw7]at hfin ⊢
  clear hw7
  have d2:=(hfin.out.gP 0 rfl).2.2.1
  have f2:=hfin.out.bF 0 rfl 2
  have h6:Hid (Sep w0 (w7.setCell ⟨bx,2,none⟩ (.int .i64 (kl:Nat))) (.box bx 118 (aL {xX with links:=kl} (.slice A9 xX.aB.length c9))::aG f q p SX a9::aQ (.slice A9 xX.aB.length c9) (dR xX.aB)::R)):=Lh (hfin.out.bS 0 rfl 2 (.int .i64 (kl:Nat)))
  rw[arD.out]at d2
  clear arD
  clear hfin
  go_wp2_with fail
  obtain⟨w6,hw6⟩:∃w6,w6=w7.setCell ⟨bx,2,none⟩ (.int .i64 (kl:Nat)):=⟨_,rfl⟩
  rw[←hw6]at h6 ⊢
  clear hw6 d2 f2
  have k1:=hR.out w6.drew [_,_,_] h6.out.drew
  have k2:=h6.out.drew.gP 0 rfl
  have hE:w6.drew.cell? ⟨bf,0,none⟩=some (.pointer (some ⟨f,0,none⟩))∧w6.drew.cell? ⟨bd,0,none⟩=some (.int .i64 dir)∧w6.drew.cell? ⟨bi,1,none⟩=some (.string ⟨path.toArray⟩)∧w6.drew.cell? ⟨bn,0,none⟩=some (.int .i64 n)∧w6.drew.cell? ⟨bx,0,none⟩=some (.int .i64 (xX.kind:Nat))∧w6.drew.cell? ⟨bx,1,none⟩=some (.int .i64 (xX.mode:Nat))∧w6.drew.cell? ⟨bx,2,none⟩=some (.int .i64 (kl:Nat))∧w6.drew.cell? ⟨bx,3,none⟩=some (.int .i64 (xX.size:Nat))∧w6.drew.cell? ⟨bx,4,none⟩=some (.slice A9 xX.aB.length c9):=⟨k1.1,k1.2.1,k1.2.2.1,k1.2.2.2,k2.1,k2.2.1,k2.2.2.1,k2.2.2.2.1,k2.2.2.2.2⟩
  have tH:=hkp.out _ _ _ _ _ arE.out (Sep.bZ [1,0,2] h6.out.drew (by decide) (by simp))
  clear k1 k2 h6
  refine aN (S:=fun w'=>w'.cell? ⟨bf,0,none⟩=some (.pointer (some ⟨f,0,none⟩))∧w'.cell? ⟨bd,0,none⟩=some (.int .i64 dir)∧w'.cell? ⟨bi,1,none⟩=some (.string ⟨path.toArray⟩)∧w'.cell? ⟨bn,0,none⟩=some (.int .i64 n)∧w'.cell? ⟨bx,0,none⟩=some (.int .i64 (xX.kind:Nat))∧w'.cell? ⟨bx,1,none⟩=some (.int .i64 (xX.mode:Nat))∧w'.cell? ⟨bx,2,none⟩=some (.int .i64 (kl:Nat))∧w'.cell? ⟨bx,3,none⟩=some (.int .i64 (xX.size:Nat))∧w'.cell? ⟨bx,4,none⟩=some (.slice A9 xX.aB.length c9)) 7 (by kernel_rfl) ?_
  simp only[List.size_toArray,List.length_cons,List.length_nil,Nat.reduceAdd]
  refine aA (i:=0) (v:=?_) hE rfl ?_ ?_
  rotate_left
  ·rintro w ⟨e1,e2,e3,e4,e5,e6,e7,e8,e9⟩;go_simp;try with_reducible rfl
  simp only[Act.put,gD]
  refine aA (i:=1) (v:=?_) hE rfl ?_ ?_
  rotate_left
  ·rintro w ⟨e1,e2,e3,e4,e5,e6,e7,e8,e9⟩;go_simp;try with_reducible rfl
  simp only[Act.put,gD]
  refine aA (i:=2) (v:=?_) hE rfl ?_ ?_
  rotate_left
  ·rintro w ⟨e1,e2,e3,e4,e5,e6,e7,e8,e9⟩;go_simp;try with_reducible rfl
  simp only[Act.put,gD]
  refine aA (i:=3) (v:=?_) hE rfl ?_ ?_
  rotate_left
  ·rintro w ⟨e1,e2,e3,e4,e5,e6,e7,e8,e9⟩;go_simp;try with_reducible rfl
  simp only[Act.put,gD]
  refine aA (i:=4) (v:=?_) hE rfl ?_ ?_
  rotate_left
  ·rintro w ⟨e1,e2,e3,e4,e5,e6,e7,e8,e9⟩;go_simp;try with_reducible rfl
  simp only[Act.put,gD]
  refine aA (i:=5) (v:=?_) hE rfl ?_ ?_
  rotate_left
  ·rintro w ⟨e1,e2,e3,e4,e5,e6,e7,e8,e9⟩;go_simp;try with_reducible rfl
  simp only[Act.put,gD]
  refine aC (i:=6) (by kernel_rfl) rfl (fun K hK=>?_)
  go_simp
  go_at_call 90
  refine tH.mono ?_
  rintro e w5 ⟨rfl,a5,VL,h5⟩
  have k5:=hR.out w5 [_,_,_] h5
  have k6:=h5.gP 1 rfl
  have d2:=k6.2.2.1
  replace h5:=Lh h5
  replace VL:=Lh VL
  clear tH hE
  dsimp only
  refine hK _ _ (fun _=>⟨k5.1,k5.2.1,k5.2.2.1,k5.2.2.2,k6.1,k6.2.1,k6.2.2.1,k6.2.2.2.1,k6.2.2.2.2⟩) ?_
  clear hK K
  try simp only[Act.put,gD]
  refine aO (by kernel_rfl) ?_ _
  clear k5 k6
  by_cases hk0:kl=0
  ·have hrr:=hres.out;rw[if_pos hk0]at hrr;(have hk1:((kl:Int)==0)=true:=by rw[beq_iff_eq];omega);replace hrr:=Lh hrr;clear hk0;go_wp2_with fail;have hc:=hR.out w5.drew [_,_,_] h5.out.drew;have hd2:=hdr.out _ _ [_,_] VL.out h5.out.drew;refine aN (S:=fun w'=>w'.cell? ⟨bf,0,none⟩=some (.pointer (some ⟨f,0,none⟩))∧w'.cell? ⟨bd,0,none⟩=some (.int .i64 dir)∧w'.cell? ⟨bi,1,none⟩=some (.string ⟨path.toArray⟩)∧w'.cell? ⟨bn,0,none⟩=some (.int .i64 n)) 6 (by kernel_rfl) ?_;simp only[List.size_toArray,List.length_cons,List.length_nil,Nat.reduceAdd];refine aA (i:=0) (v:=?_) hc rfl ?_ ?_;rotate_left
   ·rintro w ⟨e1,e2,e3,e4⟩;go_simp;try with_reducible rfl
   simp only[Act.put,gD];refine aA (i:=1) (v:=?_) hc rfl ?_ ?_;rotate_left
   ·rintro w ⟨e1,e2,e3,e4⟩;go_simp;try with_reducible rfl
   simp only[Act.put,gD];refine aA (i:=2) (v:=?_) hc rfl ?_ ?_;rotate_left
   ·rintro w ⟨e1,e2,e3,e4⟩;go_simp;try with_reducible rfl
   simp only[Act.put,gD];refine aA (i:=3) (v:=?_) hc rfl ?_ ?_;rotate_left
   ·rintro w ⟨e1,e2,e3,e4⟩;go_simp;try with_reducible rfl
   simp only[Act.put,gD];refine aA (i:=4) (v:=?_) hc rfl ?_ ?_;rotate_left
   ·rintro w ⟨e1,e2,e3,e4⟩;go_simp;try with_reducible rfl
   simp only[Act.put,gD];refine aC (i:=5) (by kernel_rfl) rfl (fun K hK=>?_);go_simp;go_at_call 102;refine hd2.mono ?_;rintro e w4 ⟨rfl,a4,KH,h4⟩;have hc4:=hR.out w4 [_,_,_] h4;replace h4:=Lh h4;replace KH:=Lh KH;clear hd2 hc;dsimp only;refine hK _ _ (fun _=>hc4) ?_;clear hK K;(try simp only[Act.put,gD]);refine aO (by kernel_rfl) ?_ _
   go_end0
   unfold fA;rw[hrr.out];exact⟨rfl,a4,KH.out,(Sep.bZ [1,2,0] h4.out (by decide) (by simp)).drop 2⟩
  ·have hrr:=hres.out;rw[if_neg hk0]at hrr;(have hk1:((kl:Int)==0)=false:=by rw[beq_eq_false_iff_ne];omega);replace hrr:=Lh hrr;clear hk0;go_wp2_with fail
   go_end0
   unfold fA;rw[hrr.out];exact⟨rfl,a5,VL.out,(Sep.bZ [1,2,0] h5.out (by decide) (by simp)).drop 2⟩
end
end Go.Proofs.YteihmbaimbogaaaGreat
