/- FtD, FtE, laid together. -/
import Derived.Test.YteihmbaimbogaaaGreatJ12
namespace Go.Proofs.YteihmbaimbogaaaGreat
open Go.RowKit
set_option linter.unusedVariables false
set_option linter.unusedSimpArgs false
def uJ (w0:World) (R:List aU) (v:Value) (l:List Nat):Prop:=∀w' X,Sep w0 w' (X++R)→Rd w' 1 v l.length ((dR l).map (.int .i64))
theorem BU (c:dW) (n:Nat):(aF c n).size≤65535∧(aF c n).kind≤255:=by unfold aF wQ;exact⟨by have:=LW (((bk c (2+n/8)).drop (n%8*64)).take 64) 5;simp only;omega,by have:=UInt8.toNat_lt ((((bk c (2+n/8)).drop (n%8*64)).take 64).getD 0 0);simp only;omega⟩
theorem ZV {x:VI} {u:Value} {l:List Int} {w0 w:World} {R:List aU} (hx:x.size≤65535) (hk:x.kind≤255) (h:Sep w0 w (aQ u l::R)):
  Calls Tryz.prog 82 #[dZ x u] w fun e w'=>e= .returned (fP (eO x.kind x.size) (kT x.kind))∧Below w.heap.size w w':=by
 obtain⟨A,c,e⟩:=h.dA 0 rfl;subst e;exact F9 hx hk w
theorem rP {w:World} {ad:Addr} {u:Value} (x y:Nat) (h:w.cell? ad=some u) (hf:w.frozen? ad=false):(store ad (.complex .f64 x y)).run Tryz.prog w= .ok () (w.setCell ad (.complex .f64 x y)):=by rw[run_store _ _ _ _ _ rfl];simp[stored,h,hf]
theorem small {n:Int} (h0: -1100000≤n) (h1:n≤1100000):cO n:=by
 unfold cO;have:(2:Nat) ^ 53=9007199254740992:=by decide
 omega
section
variable {w0 w:World} {R:List aU} {f q p:Nat} {S:VS} {a:VA}
set_option maxRecDepth 100000 in
set_option maxHeartbeats 4000000 in
theorem o9 {n:Nat} {x:VI} {v:Value} (hC:VC S a) (hF:VF S) (hn:n<S.names) (hx:x.ok) (hok:(aF S.cur n).aB.length≤28) (hW:fD S) (hv:uJ w0 R v x.aB) (h:Sep w0 w (aG f q p S a::R)):
  Calls Tryz.prog 90 #[.pointer (some ⟨f,0,none⟩),.int .i64 n,dZ x v] w fun e w'=>e= .returned (.tuple #[])∧∃a',VC (S.keep n x) a'∧Sep w0 w' (aG f q p (S.keep n x) a'::R):=by
 have VE:=hF.names;have hbk:2+n/8<S.nb-96:=by have:=hF.room;unfold VS.data at this;omega
 obtain⟨A0,c0,hv0⟩:∃A c,v= .slice A x.aB.length c:=by obtain⟨_,A,c,e,_⟩:=hv w [_] h;exact⟨A,c,e⟩
 have h0:Sep w0 (w.alloc (.cells (aL x v) 118)) (aG f q p S a:: .box w.heap.size 118 (aL x v)::R):=(h.bN _ _).perm (List.Perm.swap _ _ _);have hpl:=QL (n:=n) (by omega);have hgt:=FH hC hbk h0;obtain⟨o,ho⟩:∃o,o=n%8*64:=⟨_,rfl⟩;obtain⟨k,hk⟩:∃k,k=2+n/8:=⟨_,rfl⟩;have ho4:o+64≤512:=by omega
 rw[←ho,←hk]at hpl;rw[←hk]at hgt;have hlen:(bk S.cur k).length=512:=iL hC.cur (by rw[hk];exact hbk);have hgo:∀W v1 a1,Reads S a a1→wO f q p S a1 k v1 w0 W (.box w.heap.size 118 (aL x v)::R)→∃g c,v1= .slice (some ⟨g,0,none⟩) 512 c∧(o:Int)+64≤c∧Hid (512≤c∧c≤maxLen):=fun W v1 a1 hR hG=>by obtain⟨g,c,rfl,hc,_⟩:=hG.out.zM hlen;exact⟨g,c,rfl,by omega,Lh hc⟩
 have b1:(o:Int)+64≤512:=by omega
 have b0:(0:Int)≤o:=by omega
 have e64:o+64-o=64:=by omega
 have hgo':=Lh hgo;have hlen':=Lh hlen;have hok':=Lh hok;have hC':=Lh hC;have hF':=Lh hF;have hn':=Lh hn;have hx':=Lh hx;have hk':=Lh hk;have ho':=Lh ho;have hW':=Lh hW;have hv':=Lh hv;clear hgo ho4 hlen hn hok hC hF hx hW hv h h0 hbk VE hk ho;subst hv0;unfold dZ;unfold aL at hgt ⊢;go_enter Tryz.func90,Tryz.ntmps90;go_wp2_with(first |(go_at_call 121;refine(hpl _).mono ?_;rintro e w9 ⟨rfl,h9⟩;obtain rfl:=h9.symm)|(go_at_call 79;refine hgt.mono ?_;rintro e w8 ⟨v1,a1,rfl,hR,hG⟩;obtain⟨g,c,rfl,hc0,hc1⟩:=hgo'.out _ _ _ hR hG;replace hG:=Lh hG;clear hgo'));try simp only[e64]
 have jY:=Lh hR.ok;clear hR hC';have YA:=hG.out.drew.dK.c5;unfold fP at YA;refine fZ (S:=fun w'=>w'.cell? ⟨f,5,none⟩=some (.complex .f64 (fI S.wB) (fI S.wI))) 11 (by kernel_rfl) ?_;intro wq hwq;have hX:Hid (wO f q p S a1 k (.slice (some ⟨g,0,none⟩) 512 c) w0 wq (.box w.heap.size 118 (aL x (.slice A0 x.aB.length c0))::R)):=by rw[hwq];exact Lh hG.out.drew
 rw[←hwq]at YA;clear hwq hG;simp only[List.size_toArray,List.length_cons,List.length_nil,Nat.reduceAdd];refine aA (i:=0) (v:=?_) YA rfl ?_ ?_;rotate_left
 ·rintro w e1;go_simp;try with_reducible rfl
 simp only[Act.put,gD];refine aA (i:=1) (v:=?_) YA rfl ?_ ?_;rotate_left
 ·rintro w e1;go_simp;try with_reducible rfl
 simp only[Act.put,gD];refine aA (i:=2) (v:=?_) YA rfl ?_ ?_;rotate_left
 ·rintro w e1;go_simp;try with_reducible rfl
 simp only[Act.put,gD];refine aA (i:=3) (v:=?_) YA rfl ?_ ?_;rotate_left
 ·rintro w e1;go_simp;try with_reducible rfl
 simp only[Act.put,gD];refine aA (i:=4) (v:=?_) YA rfl ?_ ?_;rotate_left
 ·rintro w e1;go_simp;try with_reducible rfl
 simp only[Act.put,gD];refine aA (i:=5) (v:=?_) YA rfl ?_ ?_;rotate_left
 ·rintro w e1;go_simp;try with_reducible rfl
 simp only[Act.put,gD];refine aC (i:=6) (by kernel_rfl) rfl (fun K hK=>?_);go_simp;go_at_call 64;refine(ZR jY.out hF'.out hn'.out hok'.out hX.out).mono ?_;rintro e w3 ⟨u,a2,rfl,hR2,hG2⟩;have hwg:=ZV (BU S.cur n).1 (BU S.cur n).2 hG2.rest;have hs1:=X8 (kind:=(aF S.cur n).kind) (BU S.cur n).1;have hs2:=N7 (kind:=(aF S.cur n).kind);obtain⟨B1,hB1⟩:∃B,B=eO (aF S.cur n).kind (aF S.cur n).size:=⟨_,rfl⟩;obtain⟨I1,hI1⟩:∃I,I=kT (aF S.cur n).kind:=⟨_,rfl⟩;rw[←hB1,←hI1]at hwg;rw[←hB1]at hs1;rw[←hI1]at hs2;have hsub:=fun w=>LQ 44 S.wB S.wI B1 I1 (small (by have:=hW'.out.b0;omega) (by have:=hW'.out.b1;omega)) (small (by have:=hW'.out.i0;omega) (by have:=hW'.out.i1;omega)) (small (by omega) (by omega)) (small (by omega) (by omega)) (small (by have:=hW'.out.b0;omega) (by have:=hW'.out.b1;omega)) (small (by have:=hW'.out.i0;omega) (by have:=hW'.out.i1;omega)) w
 have hC2:=Lh hR2.ok;have c5:=hG2.dK.c5;unfold fP at hsub hwg c5;replace hG2:=Lh hG2;have ap2:=Lh hB1;have ap3:=Lh hI1;have ap4:=Lh hs1;have ap5:=Lh hs2;clear hR2 jY hX hB1 hI1 hs1 hs2;dsimp only;refine hK _ _ (fun _=>c5) ?_;clear hK K;try simp only[Act.put,gD]
 refine aC (i:=7) (by kernel_rfl) rfl (fun K hK=>?_);go_simp;go_at_call 82;refine hwg.mono ?_;rintro e w4 ⟨rfl,hb4⟩;have hG3:=Lh (hG2.out.pure hb4).drop;have c6:=hG3.out.dK.c5;have f6:=hG3.out.frozen 5;unfold fP at c6;clear hG2 hb4 hwg c5;dsimp only;refine hK _ _ (fun _=>c6) ?_;clear hK K;try simp only[Act.put,gD]
 refine aC (i:=8) (by kernel_rfl) rfl (fun K hK=>?_);go_simp;refine hK _ _ (fun _=>c6) ?_;clear hK K;try simp only[Act.put,gD]
 refine aC (i:=9) (by kernel_rfl) rfl (fun K hK=>?_);go_simp;refine hK _ _ (fun _=>c6) ?_;clear hK K;try simp only[Act.put,gD]
 refine aC (i:=10) (by kernel_rfl) rfl (fun K hK=>?_);go_simp;refine hK _ _ (fun _=>c6) ?_;clear hK K;try simp only[Act.put,gD]
 have am2:=fun x y=>rP x y c6 f6
 refine aC (i:=11) (by kernel_rfl) rfl (fun K hK=>?_);go_simp;refine hK _ _ (fun h=>absurd rfl h) ?_;clear hK K;try simp only[Act.put,gD]
 refine aO (by kernel_rfl) ?_ _;have hG5:Hid (wO f q p (S.mQ (S.wB-B1) (S.wI-I1)) a2 k (.slice (some ⟨g,0,none⟩) 512 c) w0 (w4.setCell ⟨f,5,none⟩ (.complex .f64 (fI (S.wB-B1)) (fI (S.wI-I1)))) (.box w.heap.size 118 (aL x (.slice A0 x.aB.length c0))::R)):=Lh (hG3.out.mQ _ _);obtain⟨w5,nN⟩:∃w5,w5=w4.setCell ⟨f,5,none⟩ (.complex .f64 (fI (S.wB-B1)) (fI (S.wI-I1))):=⟨_,rfl⟩;rw[←nN]at hG5 ⊢;clear am2 c6 f6 hG3 nN hsub;go_wp2_with fail;refine fZ (S:=fun w'=>w'.cell? ⟨f,5,none⟩=some (.complex .f64 (fI (S.wB-B1)) (fI (S.wI-I1)))∧w'.cell? ⟨w.heap.size,0,none⟩=some (.int .i64 (x.kind:Nat))∧w'.cell? ⟨w.heap.size,1,none⟩=some (.int .i64 (x.mode:Nat))∧w'.cell? ⟨w.heap.size,2,none⟩=some (.int .i64 (x.links:Nat))∧w'.cell? ⟨w.heap.size,3,none⟩=some (.int .i64 (x.size:Nat))∧w'.cell? ⟨w.heap.size,4,none⟩=some (.slice A0 x.aB.length c0)) 9 (by kernel_rfl) ?_;intro wq hwq;have hX:Hid (wO f q p (S.mQ (S.wB-B1) (S.wI-I1)) a2 k (.slice (some ⟨g,0,none⟩) 512 c) w0 wq (.box w.heap.size 118 (aL x (.slice A0 x.aB.length c0))::R)):=by rw[hwq];exact Lh hG5.out.drew
 clear hwq hG5;have hcs:Hid (∀W,wO f q p (S.mQ (S.wB-B1) (S.wI-I1)) a2 k (.slice (some ⟨g,0,none⟩) 512 c) w0 W (.box w.heap.size 118 (aL x (.slice A0 x.aB.length c0))::R)→W.cell? ⟨f,5,none⟩=some (.complex .f64 (fI (S.wB-B1)) (fI (S.wI-I1)))∧W.cell? ⟨w.heap.size,0,none⟩=some (.int .i64 (x.kind:Nat))∧W.cell? ⟨w.heap.size,1,none⟩=some (.int .i64 (x.mode:Nat))∧W.cell? ⟨w.heap.size,2,none⟩=some (.int .i64 (x.links:Nat))∧W.cell? ⟨w.heap.size,3,none⟩=some (.int .i64 (x.size:Nat))∧W.cell? ⟨w.heap.size,4,none⟩=some (.slice A0 x.aB.length c0)):=Lh fun W hW=>by(have z:=fun j=>hW.rest.bC 0 rfl j);exact⟨hW.dK.c5,z 0,z 1,z 2,z 3,z 4⟩
 have e5:=hcs.out _ hX.out;have hwg:=F9 (x:=x) (A:=A0) (n:=x.aB.length) (c:=c0) (by have:=hx'.out.size;omega) (by have:=hx'.out.kind;omega) wq;have hs1:=X8 (kind:=x.kind) (size:=x.size) (by have:=hx'.out.size;omega);have hs2:=N7 (kind:=x.kind);obtain⟨B2,hB2⟩:∃B,B=eO x.kind x.size:=⟨_,rfl⟩;obtain⟨I2,hI2⟩:∃I,I=kT x.kind:=⟨_,rfl⟩;rw[←hB2,←hI2]at hwg;rw[←hB2]at hs1;rw[←hI2]at hs2;have r1:=ap4.out;have r2:=ap5.out;have r3:=hW'.out;have hadd:=fun w=>adQ 44 (S.wB-B1) (S.wI-I1) B2 I2 (small (by have:=r3.b0;omega) (by have:=r3.b1;omega)) (small (by have:=r3.i0;omega) (by have:=r3.i1;omega)) (small (by omega) (by omega)) (small (by omega) (by omega)) (small (by have:=r3.b0;omega) (by have:=r3.b1;omega)) (small (by have:=r3.i0;omega) (by have:=r3.i1;omega)) w
 unfold fP at hadd hwg;unfold dZ aL at hwg;have hB2':=Lh hB2;have ap6:=Lh hI2;clear hB2 hI2 hs1 hs2 r1 r2 r3;simp only[List.size_toArray,List.length_cons,List.length_nil,Nat.reduceAdd];refine aA (i:=0) (v:=?_) e5 rfl ?_ ?_;rotate_left
 ·rintro w ⟨e1,e2,e3,e4,e5,e6⟩;go_simp;try with_reducible rfl
 simp only[Act.put,gD];refine aA (i:=1) (v:=?_) e5 rfl ?_ ?_;rotate_left
 ·rintro w ⟨e1,e2,e3,e4,e5,e6⟩;go_simp;try with_reducible rfl
 simp only[Act.put,gD];refine aA (i:=2) (v:=?_) e5 rfl ?_ ?_;rotate_left
 ·rintro w ⟨e1,e2,e3,e4,e5,e6⟩;go_simp;try with_reducible rfl
 simp only[Act.put,gD];refine aA (i:=3) (v:=?_) e5 rfl ?_ ?_;rotate_left
 ·rintro w ⟨e1,e2,e3,e4,e5,e6⟩;go_simp;try with_reducible rfl
 simp only[Act.put,gD];refine aA (i:=4) (v:=?_) e5 rfl ?_ ?_;rotate_left
 ·rintro w ⟨e1,e2,e3,e4,e5,e6⟩;go_simp;try with_reducible rfl
 simp only[Act.put,gD];refine aC (i:=5) (by kernel_rfl) rfl (fun K hK=>?_);go_simp;go_at_call 82;refine hwg.mono ?_;rintro e w6 ⟨rfl,hb6⟩;have hG6:=Lh (hX.out.pure hb6);have e6:=hcs.out _ hG6.out;have c6:=e6.1;have f6:=hG6.out.frozen 5;clear hX hb6 hwg e5;dsimp only;refine hK _ _ (fun _=>e6) ?_;clear hK K;try simp only[Act.put,gD]
 refine aC (i:=6) (by kernel_rfl) rfl (fun K hK=>?_);go_simp;refine hK _ _ (fun _=>e6) ?_;clear hK K;try simp only[Act.put,gD]
 refine aC (i:=7) (by kernel_rfl) rfl (fun K hK=>?_);go_simp;refine hK _ _ (fun _=>e6) ?_;clear hK K;try simp only[Act.put,gD]
 refine aC (i:=8) (by kernel_rfl) rfl (fun K hK=>?_);go_simp;refine hK _ _ (fun _=>e6) ?_;clear hK K;try simp only[Act.put,gD]
 have am2:=fun x y=>rP x y c6 f6
 refine aC (i:=9) (by kernel_rfl) rfl (fun K hK=>?_);go_simp;refine hK _ _ (fun h=>absurd rfl h) ?_;clear hK K;try simp only[Act.put,gD]
 refine aO (by kernel_rfl) ?_ _;have hG7:=(hG6.out.mQ (S.wB-B1+B2) (S.wI-I1+I2)).out;obtain⟨w7,hw7⟩:∃w7,w7=w6.setCell ⟨f,5,none⟩ (.complex .f64 (fI (S.wB-B1+B2)) (fI (S.wI-I1+I2))):=⟨_,rfl⟩;have hO:Sep w0 w7 (.sl 5 1 (.slice (some ⟨g,0,none⟩) 512 c) 512 ((bk S.cur k).map jP)::uQ f q p ((S.mQ (S.wB-B1) (S.wI-I1)).mQ (S.wB-B1+B2) (S.wI-I1+I2)) a2 k:: .box w.heap.size 118 (aL x (.slice A0 x.aB.length c0))::R):=by rw[hw7,←bE hlen'.out];exact hG7
 rw[←hw7];clear am2 c6 f6 e6 hG6 hG7 hw7 hadd hcs;obtain⟨w8,hcl,hO8,avM⟩:=hO.LX (P:=Tryz.prog) 0 rfl 35 0 (.int .u8 0) Tryz.underlying35 (fun w=>by kernel_rfl) (by rfl) (by rfl) o 64 (c-o) (by omega);obtain⟨S2,hS2⟩:∃S2,S2=(S.mQ (S.wB-B1) (S.wI-I1)).mQ (S.wB-B1+B2) (S.wI-I1+I2):=⟨_,rfl⟩;have hSk:S.keep n x=S2.put k (bW (bk S.cur k) o (VH x)):=by rw[hS2];unfold VS.keep VS.put VS.mQ o8;rw[←ap2.out,←ap3.out,←hB2'.out,←ap6.out,←hk'.out,←ho'.out]
 have OC:Hid (VC S2 a2):=by rw[hS2];exact Lh ((hC2.out.mQ _ _).mQ _ _)
 have hO9:Sep w0 w8 (aH (.slice (some ⟨g,0,none⟩) 512 c) (bW (bk S.cur k) o (List.replicate 64 0))::uQ f q p S2 a2 k:: .box w.heap.size 118 (aL x (.slice A0 x.aB.length c0))::R):=by rw[bE (n:=512) (by rw[dL (by rw[hlen'.out,List.length_replicate];omega)];exact hlen'.out),hS2];(have e:(bW (bk S.cur k) o (List.replicate 64 0)).map jP=kV ((bk S.cur k).map jP) o (List.replicate 64 (.int .u8 0)):=by unfold bW kV;simp only[List.map_append,List.map_take,List.map_drop,List.map_replicate,List.length_replicate];rfl);rw[e];exact hO8
 have aiX:=Lh hSk;have hk2:Hid (k<S2.nb-96):=by have h1:=hF'.out.room;have h2:=hn'.out;have h3:=hF'.out.names;unfold VS.data at h1;rw[hS2,hk'.out];exact Lh (show 2+n/8<S.nb-96 by omega)
 clear hS2 hSk hO hO8 avM ap2 ap3 hB2' ap6 ap4 ap5 hC2;obtain⟨b,hb⟩:∃b,b=bk S.cur k:=⟨_,rfl⟩;rw[←hb]at hO9 hlen' aiX;have hb':=Lh hb;clear hb
 --the two bytes
 have hyl:∀ys:List UInt8,ys.length=64→(bW b o ys).length=512:=fun ys hy=>by rw[dL (by rw[hlen'.out,hy];omega)];exact hlen'.out
 have ap7:=Lh hyl;have hst:Hid (∀W ys i v,ys.length=64→i<64→Sep w0 W (aH (.slice (some ⟨g,0,none⟩) 512 c) (bW b o ys)::uQ f q p S2 a2 k:: .box w.heap.size 118 (aL x (.slice A0 x.aB.length c0))::R)→
   (∃z:Int,W.cell? ⟨g,o+i,none⟩=some (.int .u8 z))∧W.frozen? ⟨g,o+i,none⟩=false∧Sep w0 (W.setCell ⟨g,o+i,none⟩ (.int .u8 (IntKind.u8.wrap ((v:Nat):Int)))) (aH (.slice (some ⟨g,0,none⟩) 512 c) (bW b o (ys.set i (UInt8.ofNat v)))::uQ f q p S2 a2 k:: .box w.heap.size 118 (aL x (.slice A0 x.aB.length c0))::R)):=Lh fun W ys i v hy hi hS=>by
  have h1:=hS;rw[bE (hyl ys hy)]at h1;refine⟨⟨_,h1.rJ (R:=[]) 0 rfl (hyl ys hy) (o+i) (by omega)⟩,h1.frozenAt 0 rfl _,?_⟩;have h2:=h1.stored 0 rfl (o+i) (.int .u8 (IntKind.u8.wrap ((v:Nat):Int)));(have e:bW b o (ys.set i (UInt8.ofNat v))=(bW b o ys).set (o+i) (UInt8.ofNat v):=by rw[zO (b:=bW b o ys) (by rw[hyl ys hy];omega),rO (by rw[hlen'.out];omega) (by simp;omega),zO (b:=ys) (by omega)]);rw[e,bE (n:=512) (by rw[List.length_set];exact hyl ys hy),List.map_set,F8];exact h2
 obtain⟨⟨z0,k0⟩,f0,hT1⟩:=hst.out _ _ 0 x.kind (by rw[List.length_replicate]) (by omega) hO9;obtain⟨⟨z7,k7⟩,f7,YB⟩:=hst.out _ _ 7 x.aB.length (by rw[List.length_set,List.length_replicate]) (by omega) hT1;have bx:=fun j=>hO9.bC 2 rfl j
 have bx0:=bx 0;have bx4:=bx 4;unfold aL at bx0 bx4;simp only[gA,gB,gC]at bx0 bx4;have QM:=Lh YB;have x28:=hx'.out.few;have xk:=hx'.out.kind;have i0:(0:Int)≤(x.kind:Int):=by omega
 have i1:(x.kind:Int)<256:=by omega
 have i2:(x.aB.length:Int)≤28:=by omega
 have by':=fun j=>hT1.bC 2 rfl j
 have hE1:(w8.setCell ⟨g,o+0,none⟩ (.int .u8 (IntKind.u8.wrap ((x.kind:Nat):Int)))).drew.cell? ⟨w.heap.size,0,none⟩=some (.int .i64 (x.kind:Nat))∧(w8.setCell ⟨g,o+0,none⟩ (.int .u8 (IntKind.u8.wrap ((x.kind:Nat):Int)))).drew.cell? ⟨w.heap.size,4,none⟩=some (.slice A0 x.aB.length c0):=⟨by' 0,by' 4⟩;simp only[Nat.add_zero]at k0 f0 hE1 k7 f7 YB;have k7':=show(w8.setCell ⟨g,o,none⟩ (.int .u8 (IntKind.u8.wrap ((x.kind:Nat):Int)))).drew.cell? ⟨g,o+7,none⟩=_ from k7
 have f7':=show(w8.setCell ⟨g,o,none⟩ (.int .u8 (IntKind.u8.wrap ((x.kind:Nat):Int)))).drew.frozen? ⟨g,o+7,none⟩=_ from f7
 have hE0:w8.drew.cell? ⟨w.heap.size,0,none⟩=some (.int .i64 (x.kind:Nat))∧w8.drew.cell? ⟨w.heap.size,4,none⟩=some (.slice A0 x.aB.length c0):=⟨bx0,bx4⟩;clear hst hyl hO9 hT1 YB bx by' x28 xk;go_wp2_with fail;refine aN (S:=fun w'=>w'.cell? ⟨w.heap.size,0,none⟩=some (.int .i64 (x.kind:Nat))∧w'.cell? ⟨w.heap.size,4,none⟩=some (.slice A0 x.aB.length c0)) 12 (by kernel_rfl) ?_;simp only[List.size_toArray,List.length_cons,List.length_nil,Nat.reduceAdd];refine aA (i:=0) (v:=?_) hE0 rfl ?_ ?_;rotate_left
 ·rintro w ⟨e1,e2⟩;go_simp;try with_reducible rfl
 simp only[Act.put,gD];refine aA (i:=1) (v:=?_) hE0 rfl ?_ ?_;rotate_left
 ·rintro w ⟨e1,e2⟩;go_simp;try with_reducible rfl
 simp only[Act.put,gD];refine aA (i:=2) (v:=?_) hE0 rfl ?_ ?_;rotate_left
 ·rintro w ⟨e1,e2⟩;go_simp;try with_reducible rfl
 simp only[Act.put,gD];refine aA (i:=3) (v:=?_) hE0 rfl ?_ ?_;rotate_left
 ·rintro w ⟨e1,e2⟩;go_simp;try with_reducible rfl
 simp only[Act.put,gD];refine aA (i:=4) (v:=?_) hE0 rfl ?_ ?_;rotate_left
 ·rintro w ⟨e1,e2⟩;go_simp;try with_reducible rfl
 simp only[Act.put,gD];refine aA (i:=5) (v:=?_) hE0 rfl ?_ ?_;rotate_left
 ·rintro w ⟨e1,e2⟩;go_simp;try with_reducible rfl
 simp only[Act.put,gD];refine aA (i:=6) (v:=?_) hE0 rfl ?_ ?_;rotate_left
 ·rintro w ⟨e1,e2⟩;go_simp;try with_reducible rfl
 simp only[Act.put,gD];refine aA (i:=7) (v:=?_) hE0 rfl ?_ ?_;rotate_left
 ·rintro w ⟨e1,e2⟩;go_simp;try with_reducible rfl
 simp only[Act.put,gD];refine aA (i:=8) (v:=?_) hE0 rfl ?_ ?_;rotate_left
 ·rintro w ⟨e1,e2⟩;go_simp;try with_reducible rfl
 simp only[Act.put,gD];refine aC (i:=9) (by kernel_rfl) rfl (fun K hK=>?_);go_simp;refine hK _ _ (fun _=>hE0) ?_;clear hK K;try simp only[Act.put,gD]
 refine aC (i:=10) (by kernel_rfl) rfl (fun K hK=>?_);go_simp;refine hK _ _ (fun _=>hE1) ?_;clear hK K;try simp only[Act.put,gD]
 refine aC (i:=11) (by kernel_rfl) rfl (fun K hK=>?_);go_simp;refine hK _ _ (fun _=>hE1) ?_;clear hK K;try simp only[Act.put,gD]
 refine aC (i:=12) (by kernel_rfl) rfl (fun K hK=>?_);go_simp;refine hK _ _ (fun h=>absurd rfl h) ?_;clear hK K;try simp only[Act.put,gD]
 refine aO (by kernel_rfl) ?_ _;obtain⟨w9,hw9⟩:∃w9,w9=((w8.setCell ⟨g,o,none⟩ (.int .u8 (IntKind.u8.wrap ((x.kind:Nat):Int)))).setCell ⟨g,o+7,none⟩ (.int .u8 (IntKind.u8.wrap ((x.aB.length:Nat):Int)))).drew:=⟨_,rfl⟩;have hT3:Sep w0 w9 (aH (.slice (some ⟨g,0,none⟩) 512 c) (bW b o (((List.replicate 64 (0:UInt8)).set 0 (UInt8.ofNat x.kind)).set 7 (UInt8.ofNat x.aB.length)))::uQ f q p S2 a2 k:: .box w.heap.size 118 (aL x (.slice A0 x.aB.length c0))::R):=by rw[hw9];exact QM.out.drew
 rw[←hw9];clear hw9 hE0 hE1 k0 k7 k7' f7' f0 f7 QM bx0 bx4 hcl;obtain⟨ys,hys⟩:∃ys,ys=((List.replicate 64 (0:UInt8)).set 0 (UInt8.ofNat x.kind)).set 7 (UInt8.ofNat x.aB.length):=⟨_,rfl⟩;have ap8:ys.length=64:=by rw[hys];simp
 rw[←hys]at hT3
 --the three numbers
 have hw2:Hid (∀W (ys:List UInt8) i v,ys.length=64→i+2≤64→v≤1048576→Sep w0 W (aH (.slice (some ⟨g,0,none⟩) 512 c) (bW b o ys)::uQ f q p S2 a2 k:: .box w.heap.size 118 (aL x (.slice A0 x.aB.length c0))::R)→
   Calls Tryz.prog 87 #[.slice (some ⟨g,o,none⟩) 64 (c-o),.int .i64 (i:Nat),.int .i64 (v:Nat)] W fun e w'=>e= .returned (.tuple #[])∧(bW ys i (w2 v)).length=64∧Sep w0 w' (aH (.slice (some ⟨g,0,none⟩) 512 c) (bW b o (bW ys i (w2 v)))::uQ f q p S2 a2 k:: .box w.heap.size 118 (aL x (.slice A0 x.aB.length c0))::R)):=Lh fun W ys i v hy hi hv2 hS=>by
  refine(yH (o:=o) (m:=64) (cap:=c-o) (i:=i) (n:=v) hS (ap7.out ys hy) (by omega) hi hv2).mono ?_;rintro e w' ⟨rfl,h9⟩;refine⟨rfl,by rw[dL (by rw[nV];omega)];exact hy,?_⟩;rw[rO (by rw[hlen'.out];omega) (by rw[nV];omega)]at h9;exact h9
 have hbx:Hid (∀W ys,Sep w0 W (aH (.slice (some ⟨g,0,none⟩) 512 c) (bW b o ys)::uQ f q p S2 a2 k:: .box w.heap.size 118 (aL x (.slice A0 x.aB.length c0))::R)→W.cell? ⟨w.heap.size,1,none⟩=some (.int .i64 (x.mode:Nat))∧W.cell? ⟨w.heap.size,2,none⟩=some (.int .i64 (x.links:Nat))∧W.cell? ⟨w.heap.size,3,none⟩=some (.int .i64 (x.size:Nat))∧W.cell? ⟨w.heap.size,4,none⟩=some (.slice A0 x.aB.length c0)):=Lh fun W ys hS=>by(have z:=fun j=>hS.bC 2 rfl j);exact⟨z 1,z 2,z 3,z 4⟩
 have hc1':=hw2.out _ ys 1 x.mode ap8 (by omega) (by have:=hx'.out.mode;omega) hT3;obtain⟨d1,_,_,_⟩:=hbx.out _ _ hT3;have avN:=Lh hys;clear hys ap8 hT3;go_wp2_with(first |(go_at_call 87;refine hc1'.mono ?_;rintro e w10 ⟨rfl,hl1,h10⟩;clear d1;(obtain⟨_,d1,_,_⟩:=hbx.out _ _ h10);(have hc2':=hw2.out _ _ 3 x.links hl1 (by omega) (by have:=hx'.out.links;omega) h10);clear h10 hc1' hl1)|(go_at_call 87;refine hc2'.mono ?_;rintro e w11 ⟨rfl,hl1,h10⟩;clear d1;(obtain⟨_,_,d1,_⟩:=hbx.out _ _ h10);(have aqA:=hw2.out _ _ 5 x.size hl1 (by omega) (by have:=hx'.out.size;omega) h10);clear h10 hc2' hl1)|(go_at_call 87;refine aqA.mono ?_;rintro e w12 ⟨rfl,hl1,h12⟩;clear d1;(obtain⟨_,_,_,d1⟩:=hbx.out _ _ h12);rw[avN.out,VJ]at h12;replace h12:=Lh h12;clear aqA));have hv2:=hv'.out;clear d1;obtain⟨L,hL⟩:∃L,L=x.aB.length:=⟨_,rfl⟩;have hv3:Hid (∀W' X,Sep w0 W' (X++R)→Rd W' 1 (.slice A0 L c0) L ((dR x.aB).map (.int .i64))):=by rw[hL];exact Lh hv2
 have hL':=Lh hL;have L28:L≤28:=by rw[hL];exact hx'.out.few
 have Li:(L:Int)≤28:=by omega
 simp only[←hL];clear hv2 hL hv';go_loopw[74] (fun i wr=>∃j:Nat,j≤L∧i= .int .i64 j∧Hid (Sep w0 wr (aH (.slice (some ⟨g,0,none⟩) 512 c) (bW b o (EP x j))::uQ f q p S2 a2 k:: .box w.heap.size 118 (aL x (.slice A0 x.aB.length c0))::R))) (fun i _=>L-(intOf i).toNat)
 case atStart=>exact⟨0,Nat.zero_le _,rfl,h12⟩
 obtain⟨j,hj,rfl,hS⟩:=hrel;clear h12;by_cases hlt:j<L
 ·have hrl:(EP x j).length=64:=adW (by rw[←hL'.out];exact hj) (by rw[←hL'.out];exact L28);(have hlx:j<x.aB.length:=by rw[←hL'.out];exact hlt);obtain⟨s,hs⟩:∃s,s=x.aB[j]:=⟨_,rfl⟩;(have hsj:x.aB[j]? =some s:=by rw[gE hlx,hs]);(have hs6:s<65536:=by rw[hs];exact hx'.out.spot _ (List.getElem_mem hlx));(have hcj:∃ad,A0=some ad∧wr.cell? (ad.add j)=some (.int .i64 (s:Nat)):=by obtain⟨ad,c9,u9,e,h1,h2⟩:=Rd.at_ (hv3.out wr [_,_,_] hS.out) (k:=j) hlt;cases e;unfold dR at h1;rw[List.getElem?_map,List.getElem?_map,hsj]at h1;cases h1;exact⟨ad,rfl,h2⟩);obtain⟨ad,rfl,hcj⟩:=hcj;have hwr:=hw2.out _ _ (8+2*j) s hrl (by omega) (by omega) hS.out;rw[show((8+2*j:Nat):Int)=8+2*(j:Int)by omega]at hwr;rw[ZU hlx (by rw[←hL'.out];exact L28) hsj]at hwr;(have q1:(j:Int)<L:=by omega);(have q0:(0:Int)≤j:=by omega);(have q3:(s:Int)<65536:=by omega);(have q4:(0:Int)≤s:=by omega);have aBG:IntKind.i64.wrap (2*(j:Int))=2*j:=IntWalk.i64_in _ (by omega);have aBH:IntKind.i64.wrap (8+2*(j:Int))=8+2*j:=IntWalk.i64_in _ (by omega);clear hS hs hsj hs6 hlx hrl;go_wp2_with(go_at_call 87;refine hwr.mono ?_;rintro e w10 ⟨rfl,_,h10⟩;replace h10:=Lh h10;clear hwr);exact⟨⟨j+1,by omega,rfl,h10⟩,by simp[intOf];omega⟩
 obtain rfl:j=L:=by omega
 have DF:=hS.out;rw[hL'.out,adX]at DF;have QK:=sV OC.out hk2.out DF;have hvc:=OC.out.put (.slice (some ⟨g,0,none⟩) 512 c) (bs:=bW b o (VH x)) hk2.out (ap7.out _ (OD hx'.out.few));rw[←aiX.out]at QK hvc;have avP:=Lh hvc;clear hS DF hvc;go_wp2_with(go_at_call 88;refine QK.mono ?_;rintro e w10 ⟨rfl,h10⟩;replace h10:=Lh h10;clear QK)
 go_end0
 refine⟨rfl,_,avP.out,?_⟩;exact(Sep.bZ [1,0] h10.out (by decide) (by simp)).drop 1
end
def GA (c:dW) (names:Nat):Prop:=∀n<names,(aF c n).aB.length≤28
def jQ (c:dW) (names:Nat):Option Nat:=(List.range names).find? fun n=>(aF c n).kind==0
theorem adY {c:dW} {names n:Nat} (h1:n<names) (h2:(aF c n).kind=0) (h3:∀i<n,(aF c i).kind≠0):jQ c names=some n:=by unfold jQ;rw[List.find?_range_eq_some];exact⟨by simp[h2],List.mem_range.2 h1,fun i hi=>by simp[h3 i hi]⟩
theorem adZ {c:dW} {names:Nat} (h:∀i<names,(aF c i).kind≠0):jQ c names=none:=by unfold jQ;rw[List.find?_eq_none];intro i hi;simp[h i (List.mem_range.1 hi)]
theorem GD (a b c d:Int) (v:Value) (w:World):(Instr.field 118 (.agg #[.int .i64 a,.int .i64 b,.int .i64 c,.int .i64 d,v]) 0).run Tryz.prog w= .ok (.int .i64 a) w:=by kernel_rfl
section
variable {w0 w:World} {R:List aU} {f q p:Nat} {S:VS} {a:VA}
def kL (f q p:Nat) (S:VS) (a:VA) (w0:World) (R:List aU) (e:Ending) (w':World):Prop:=
 match jQ S.cur S.names with
 |some n=>e= .returned (.int .i64 n)∧∃a',Reads S a a'∧Sep w0 w' (aG f q p S a'::R)
 |none=>e= .panicked (eH 27)∧∃a',Reads S a a'∧Sep w0 w' (aG f q p S a'::R)
set_option maxRecDepth 100000 in
set_option maxHeartbeats 1000000 in
theorem sZ (hC:VC S a) (hF:VF S) (hT:GA S.cur S.names) (h:Sep w0 w (aG f q p S a::R)):
  Calls Tryz.prog 119 #[.pointer (some ⟨f,0,none⟩)] w (kL f q p S a w0 R):=by
 have c3:=h.dK.c3;have hin:Hid (∀W n a',n<S.names→Reads S a a'→Sep w0 W (aG f q p S a'::R)→Calls Tryz.prog 64 #[.pointer (some ⟨f,0,none⟩),.int .i64 (n:Nat)] W fun e w'=>∃v a2,e= .returned (dZ (aF S.cur n) v)∧Reads S a a2∧Sep w0 w' (aG f q p S a2::R)):=Lh fun W n a' hn hR hS=>by refine(jD hR.ok hF hn (hT n hn) hS).mono ?_;rintro e w' ⟨v,a2,rfl,hR2,h9⟩;exact⟨v,a2,rfl,hR.trans hR2,h9.drop 1⟩
 have hR0:Hid (Reads S a a∧Sep w0 w (aG f q p S a::R)):=Lh ⟨.refl hC,h⟩;have hb:=hF.names;obtain⟨N,hN⟩:∃N,N=S.names:=⟨_,rfl⟩;have hsome:Hid (∀n e w',jQ S.cur N=some n→e= .returned (.int .i64 n)→(∃a',Reads S a a'∧Sep w0 w' (aG f q p S a'::R))→kL f q p S a w0 R e w'):=Lh fun n e w' h1 h2 h3=>by unfold kL;rw[←hN,h1];exact⟨h2,h3⟩
 have hnone:Hid (∀e w',jQ S.cur N=none→e= .panicked (eH 27)→(∃a',Reads S a a'∧Sep w0 w' (aG f q p S a'::R))→kL f q p S a w0 R e w'):=Lh fun e w' h1 h2 h3=>by unfold kL;rw[←hN,h1];exact⟨h2,h3⟩
 rw[←hN]at c3 hin hb;have n1:(N:Int)≤1024:=by omega
 have hfk:=GD;clear hC hF hT h hN hb;go_enter Tryz.func119,Tryz.ntmps119;go_wp2_with fail;go_loopw[9] (fun i wr=>∃m:Nat,m≤N∧i= .int .i64 m∧Hid (∀j<m,(aF S.cur j).kind≠0)∧Hid (∃a',Reads S a a'∧Sep w0 wr (aG f q p S a'::R))) (fun i _=>N-(intOf i).toNat)
 case atStart=>exact⟨0,Nat.zero_le _,rfl,Lh fun j hj=>by omega,Lh ⟨a,hR0.out⟩⟩
 obtain⟨m,hm,rfl,hno,hS⟩:=hrel;clear hR0 c3;by_cases hlt:m<N
 ·(have q1:(m:Int)<N:=by omega);(have q0:(0:Int)≤m:=by omega);obtain⟨a1,GG,hS1⟩:=hS.out;have hc:=hin.out _ m a1 hlt GG hS1;clear GG hS1 hS;unfold dZ aL at hc;by_cases hk:(aF S.cur m).kind=0
  ·have hfr:=adY hlt hk hno.out;rw[hk]at hc;have VD:=Lh hfr;clear hfr;go_wp2_with(go_at_call 64;refine hc.mono ?_;rintro e w9 ⟨v,a2,rfl,hR2,h9⟩;replace h9:=Lh h9;replace hR2:=Lh hR2;clear hc);go_ret;exact hsome.out m _ _ VD.out rfl ⟨a2,hR2.out,h9.out⟩
  (have hk0:(((aF S.cur m).kind:Int)==0)=false:=by rw[beq_eq_false_iff_ne];omega);have hk':=Lh hk;clear hk;go_wp2_with(go_at_call 64;refine hc.mono ?_;rintro e w9 ⟨v,a2,rfl,hR2,h9⟩;replace h9:=Lh h9;replace hR2:=Lh hR2;clear hc);refine⟨⟨m+1,by omega,rfl,Lh fun j hj=>?_,Lh ⟨a2,hR2.out,h9.out⟩⟩,by simp[intOf];omega⟩;by_cases e:j=m
  ·rw[e];exact hk'.out
  exact hno.out j (by omega)
 obtain rfl:m=N:=by omega
 have VD:=Lh (adZ hno.out);go_wp2_with fail;exact⟨rfl,hnone.out _ _ VD.out rfl hS.out⟩
end
end Go.Proofs.YteihmbaimbogaaaGreat
