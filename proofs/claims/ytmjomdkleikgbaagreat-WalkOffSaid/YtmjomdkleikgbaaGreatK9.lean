/- Parts. -/
import Derived.Test.YtmjomdkleikgbaaGreatK8
import Derived.Deep.LoopGhost
set_option linter.unusedVariables false
set_option linter.unusedSimpArgs false
set_option maxRecDepth 100000
set_option maxHeartbeats 20000000
namespace Go.Proofs.YtmjomdkleikgbaaGreat
open Go.RowKit
def zN (w0:World) (R:List aW) (v:Value) (l:List Nat):Prop:=∀w' X,Sep w0 w' (X++R)->Rd w' 1 v l.length ((eB l).map (.int .i64))
theorem LV (c:gI) (n:Nat):(aH c n).size<=65535/\(aH c n).kind<=255:=by unfold aH DJ;exact⟨by have:=V9 (((bk c (2+n/8)).drop (n%8*64)).take 64) 5;simp only;omega,by have:=UInt8.toNat_lt ((((bk c (2+n/8)).drop (n%8*64)).take 64).getD 0 0);simp only;omega⟩
theorem apI {x:VI} {u:Value} {l:List Int} {w0 w:World} {R:List aW} (hx:x.size<=65535) (hk:x.kind<=255) (h:Sep w0 w (aS u l::R)):
  Calls Tryz.prog 87 #[fM x u] w fun e w'=>e= .returned (iW (eO x.kind x.size) (nS x.kind))/\Below w.heap.size w w':=by
 obtain⟨A,c,e⟩:=h.dV 0 rfl;subst e;exact UE hx hk w
theorem xU {w:World} {ad:Addr} {u:Value} (x y:Nat) (h:w.cell? ad=some u) (hf:w.frozen? ad=false):(store ad (.complex .f64 x y)).run Tryz.prog w= .ok () (w.setCell ad (.complex .f64 x y)):=by rw[run_store _ _ _ _ _ rfl];simp[stored,h,hf]
theorem small {n:Int} (h0: -1100000<=n) (h1:n<=1100000):bW n:=by
 unfold bW;have:(2:Nat) ^ 53=9007199254740992:=by decide
 omega
section
variable {w0 w:World} {R:List aW} {f q p:Nat} {S:VS} {a:VA}
theorem Z53 {P:Prop} (h:P:=by unfold dR oM;simp only[mZ,ab7,List.map_drop,List.map_replicate,FL];rfl):P:=h
theorem uV {n:Nat} {x:VI} {v:Value} (hC:VC S a) (hF:VF S) (hn:n<S.names) (hx:x.ok) (hok:(aH S.cur n).aB.length<=28) (hW:gK S) (hv:zN w0 R v x.aB) (h:Sep w0 w (aF f q p S a::R)):
  Calls Tryz.prog 100 #[pV f,iV n,fM x v] w fun e w'=>e= .returned (.tuple #[])/\∃a',VC (S.keep n x) a'/\Sep w0 w' (aF f q p (S.keep n x) a'::R):=by
 have KV:=hF.names;have hbk:2+n/8<S.nb-96:=by have:=hF.room;unfold VS.data at this;omega
 obtain⟨A0,c0,hv0⟩:∃A c,v= .slice A x.aB.length c:=by obtain⟨_,A,c,e,_⟩:=hv w [_] h;exact⟨A,c,e⟩
 have h0:Sep w0 (w.alloc (.cells (aN x v) 129)) (aF f q p S a:: .box w.heap.size 129 (aN x v)::R):=(h.bN _ _).perm (List.Perm.swap _ _ _);have hpl:=agH (n:=n) aD;have hgt:=NS hC hbk h0;obtain⟨o,ho⟩:∃o,o=n%8*64:=⟨_,rfl⟩;obtain⟨k,hk⟩:∃k,k=2+n/8:=⟨_,rfl⟩;have ho4:o+64<=512:=by omega
 rw[<-ho,<-hk]at hpl;rw[<-hk]at hgt;have hlen:(bk S.cur k).length=512:=jW hC.cur (by rw[hk];exact hbk);have hgo:∀W v1 a1,Reads S a a1->DL f q p S a1 k v1 w0 W (.box w.heap.size 129 (aN x v)::R)->∃g c,v1=sV g 512 c/\(o:Int)+64<=c/\Hid (512<=c/\c<=maxLen):=fun W v1 a1 hR hG=>by obtain⟨g,c,rfl,hc,_⟩:=hG.out.G9 hlen;exact⟨g,c,rfl,by omega,Lh hc⟩
 have b1:(o:Int)+64<=512:=by omega
 have b0:(0:Int)<=o:=by omega
 have e64:o+64-o=64:=by omega
 have hgo':=Lh hgo;have hlen':=Lh hlen;have hok':=Lh hok;have hC':=Lh hC;have hF':=Lh hF;have hn':=Lh hn;have hx':=Lh hx;have hk':=Lh hk;have ho':=Lh ho;have hW':=Lh hW;have hv':=Lh hv;clear hgo ho4 hlen hn hok hC hF hx hW hv h h0 hbk KV hk ho;subst hv0;unfold fM;unfold aN at hgt ⊢;go_enter Tryz.func100,Tryz.ntmps100;go_wp2_with(first |(go_at_call 143;refine(hpl _).mono ?_;rintro e w9 ⟨rfl,h9⟩;obtain rfl:=h9.symm)|(go_at_call 84;refine hgt.mono ?_;rintro e w8 ⟨v1,a1,rfl,hR,hG⟩;obtain⟨g,c,rfl,hc0,hc1⟩:=hgo'.out _ _ _ hR hG;replace hG:=Lh hG;clear hgo'));try simp only[e64]
 have kK:=Lh hR.ok;clear hR hC';have hc5:=hG.out.drew.fO.c5;unfold iW at hc5;refine eU (S:=fun w'=>w'.cell? ⟨f,5,none⟩=some (.complex .f64 (fI S.wB) (fI S.wI))) 11 fE ?_;intro wq hwq;have hX:Hid (DL f q p S a1 k (sV g 512 c) w0 wq (.box w.heap.size 129 (aN x (.slice A0 x.aB.length c0))::R)):=by rw[hwq];exact Lh hG.out.drew
 rw[<-hwq]at hc5;clear hwq hG;simp only[uB,kH,qQ,Nat.reduceAdd];refine aA 0 hc5 ?_;refine aA 1 hc5 ?_;refine aA 2 hc5 ?_;refine aA 3 hc5 ?_;refine aA 4 hc5 ?_;refine aA 5 hc5 ?_;refine bI 6 fun K hK=>?_
 go_simp;go_at_call 72;refine(apF kK.out hF'.out hn'.out hok'.out hX.out).mono ?_;rintro e w3 ⟨u,a2,rfl,hR2,hG2⟩;have hwg:=apI (LV S.cur n).1 (LV S.cur n).2 hG2.rest;have hs1:=OG (kind:=(aH S.cur n).kind) (LV S.cur n).1;have hs2:=aaC (kind:=(aH S.cur n).kind);obtain⟨B1,hB1⟩:∃B,B=eO (aH S.cur n).kind (aH S.cur n).size:=⟨_,rfl⟩;obtain⟨I1,hI1⟩:∃I,I=nS (aH S.cur n).kind:=⟨_,rfl⟩;rw[<-hB1,<-hI1]at hwg;rw[<-hB1]at hs1;rw[<-hI1]at hs2;have hsub:=fun w=>apE 53 S.wB S.wI B1 I1 (small (by have:=hW'.out.b0;omega) (by have:=hW'.out.b1;omega)) (small (by have:=hW'.out.i0;omega) (by have:=hW'.out.i1;omega)) (small aD aD) (small aD aD) (small (by have:=hW'.out.b0;omega) (by have:=hW'.out.b1;omega)) (small (by have:=hW'.out.i0;omega) (by have:=hW'.out.i1;omega)) w
 have hC2:=Lh hR2.ok;have c5:=hG2.fO.c5;unfold iW at hsub hwg c5;replace hG2:=Lh hG2;have aHA:=Lh hB1;have aHB:=Lh hI1;have aHC:=Lh hs1;have aHD:=Lh hs2;clear hR2 kK hX hB1 hI1 hs1 hs2;dsimp only;refine hK _ _ (fun _=>c5) ?_;clear hK K;try simp only[Act.put,gD]
 refine bI 7 fun K hK=>?_
 go_simp;go_at_call 87;refine hwg.mono ?_;rintro e w4 ⟨rfl,hb4⟩;have hG3:=Lh (hG2.out.pure hb4).drop;have c6:=hG3.out.fO.c5;have f6:=hG3.out.frozen 5;unfold iW at c6;clear hG2 hb4 hwg c5;dsimp only;refine hK _ _ (fun _=>c6) ?_;clear hK K;try simp only[Act.put,gD]
 refine bA 8 (fun _=>c6) ?_;refine bA 9 (fun _=>c6) ?_;refine bA 10 (fun _=>c6) ?_;have aB9:=fun x y=>xU x y c6 f6
 refine bA 11 (fun h=>absurd rfl h) ?_;refine aQ fE ?_ _;have hG5:Hid (DL f q p (S.qW (S.wB-B1) (S.wI-I1)) a2 k (sV g 512 c) w0 (w4.setCell ⟨f,5,none⟩ (.complex .f64 (fI (S.wB-B1)) (fI (S.wI-I1)))) (.box w.heap.size 129 (aN x (.slice A0 x.aB.length c0))::R)):=Lh (hG3.out.qW _ _);obtain⟨w5,hw5⟩:∃w5,w5=w4.setCell ⟨f,5,none⟩ (.complex .f64 (fI (S.wB-B1)) (fI (S.wI-I1))):=⟨_,rfl⟩;rw[<-hw5]at hG5 ⊢;clear aB9 c6 f6 hG3 hw5 hsub;go_wp2_with fail;refine eU (S:=fun w'=>w'.cell? ⟨f,5,none⟩=some (.complex .f64 (fI (S.wB-B1)) (fI (S.wI-I1)))/\w'.cell? ⟨w.heap.size,0,none⟩=some (iV (x.kind:Nat))/\w'.cell? ⟨w.heap.size,1,none⟩=some (iV (x.mode:Nat))/\w'.cell? ⟨w.heap.size,2,none⟩=some (iV (x.links:Nat))/\w'.cell? ⟨w.heap.size,3,none⟩=some (iV (x.size:Nat))/\w'.cell? ⟨w.heap.size,4,none⟩=some (.slice A0 x.aB.length c0)) 9 fE ?_;intro wq hwq;have hX:Hid (DL f q p (S.qW (S.wB-B1) (S.wI-I1)) a2 k (sV g 512 c) w0 wq (.box w.heap.size 129 (aN x (.slice A0 x.aB.length c0))::R)):=by rw[hwq];exact Lh hG5.out.drew
 clear hwq hG5;have hcs:Hid (∀W,DL f q p (S.qW (S.wB-B1) (S.wI-I1)) a2 k (sV g 512 c) w0 W (.box w.heap.size 129 (aN x (.slice A0 x.aB.length c0))::R)->W.cell? ⟨f,5,none⟩=some (.complex .f64 (fI (S.wB-B1)) (fI (S.wI-I1)))/\W.cell? ⟨w.heap.size,0,none⟩=some (iV (x.kind:Nat))/\W.cell? ⟨w.heap.size,1,none⟩=some (iV (x.mode:Nat))/\W.cell? ⟨w.heap.size,2,none⟩=some (iV (x.links:Nat))/\W.cell? ⟨w.heap.size,3,none⟩=some (iV (x.size:Nat))/\W.cell? ⟨w.heap.size,4,none⟩=some (.slice A0 x.aB.length c0)):=Lh fun W hW=>by(have z:=fun j=>hW.rest.bC 0 rfl j);exact⟨hW.fO.c5,z 0,z 1,z 2,z 3,z 4⟩
 have e5:=hcs.out _ hX.out;have hwg:=UE (x:=x) (A:=A0) (n:=x.aB.length) (c:=c0) (by have:=hx'.out.size;omega) (by have:=hx'.out.kind;omega) wq;have hs1:=OG (kind:=x.kind) (size:=x.size) (by have:=hx'.out.size;omega);have hs2:=aaC (kind:=x.kind);obtain⟨B2,hB2⟩:∃B,B=eO x.kind x.size:=⟨_,rfl⟩;obtain⟨I2,hI2⟩:∃I,I=nS x.kind:=⟨_,rfl⟩;rw[<-hB2,<-hI2]at hwg;rw[<-hB2]at hs1;rw[<-hI2]at hs2;have r1:=aHC.out;have r2:=aHD.out;have r3:=hW'.out;have hadd:=fun w=>avJ 53 (S.wB-B1) (S.wI-I1) B2 I2 (small (by have:=r3.b0;omega) (by have:=r3.b1;omega)) (small (by have:=r3.i0;omega) (by have:=r3.i1;omega)) (small aD aD) (small aD aD) (small (by have:=r3.b0;omega) (by have:=r3.b1;omega)) (small (by have:=r3.i0;omega) (by have:=r3.i1;omega)) w
 unfold iW at hadd hwg;unfold fM aN at hwg;have hB2':=Lh hB2;have aHE:=Lh hI2;clear hB2 hI2 hs1 hs2 r1 r2 r3;simp only[uB,kH,qQ,Nat.reduceAdd];refine aA 0 e5 ?_;refine aA 1 e5 ?_;refine aA 2 e5 ?_;refine aA 3 e5 ?_;refine aA 4 e5 ?_;refine bI 5 fun K hK=>?_
 go_simp;go_at_call 87;refine hwg.mono ?_;rintro e w6 ⟨rfl,hb6⟩;have hG6:=Lh (hX.out.pure hb6);have e6:=hcs.out _ hG6.out;have c6:=e6.1;have f6:=hG6.out.frozen 5;clear hX hb6 hwg e5;dsimp only;refine hK _ _ (fun _=>e6) ?_;clear hK K;try simp only[Act.put,gD]
 refine bA 6 (fun _=>e6) ?_;refine bA 7 (fun _=>e6) ?_;refine bA 8 (fun _=>e6) ?_;have aB9:=fun x y=>xU x y c6 f6
 refine bA 9 (fun h=>absurd rfl h) ?_;refine aQ fE ?_ _;have hG7:=(hG6.out.qW (S.wB-B1+B2) (S.wI-I1+I2)).out;obtain⟨w7,hw7⟩:∃w7,w7=w6.setCell ⟨f,5,none⟩ (.complex .f64 (fI (S.wB-B1+B2)) (fI (S.wI-I1+I2))):=⟨_,rfl⟩;have hO:Sep w0 w7 (.sl 5 1 (sV g 512 c) 512 ((bk S.cur k).map kY)::AP f q p ((S.qW (S.wB-B1) (S.wI-I1)).qW (S.wB-B1+B2) (S.wI-I1+I2)) a2 k:: .box w.heap.size 129 (aN x (.slice A0 x.aB.length c0))::R):=by rw[hw7,<-bV hlen'.out];exact hG7
 rw[<-hw7];clear aB9 c6 f6 e6 hG6 hG7 hw7 hadd hcs;obtain⟨w8,hcl,hO8,aL8⟩:=hO.V8 (P:=Tryz.prog) 0 rfl 69 0 (.int .u8 0) Tryz.underlying69 (fun w=>by kernel_rfl) EL EL o 64 (c-o) aD;obtain⟨S2,hS2⟩:∃S2,S2=(S.qW (S.wB-B1) (S.wI-I1)).qW (S.wB-B1+B2) (S.wI-I1+I2):=⟨_,rfl⟩;have hSk:S.keep n x=S2.put k (dR (bk S.cur k) o (viE x)):=by rw[hS2];unfold VS.keep VS.put VS.qW vC;rw[<-aHA.out,<-aHB.out,<-hB2'.out,<-aHE.out,<-hk'.out,<-ho'.out]
 have ZB:Hid (VC S2 a2):=by rw[hS2];exact Lh ((hC2.out.qW _ _).qW _ _)
 have hO9:Sep w0 w8 (aI (sV g 512 c) (dR (bk S.cur k) o (List.replicate 64 0))::AP f q p S2 a2 k:: .box w.heap.size 129 (aN x (.slice A0 x.aB.length c0))::R):=by rw[bV (n:=512) (by rw[fP (by rw[hlen'.out,FL];omega)];exact hlen'.out),hS2];(have e:(dR (bk S.cur k) o (List.replicate 64 0)).map kY=oM ((bk S.cur k).map kY) o (List.replicate 64 (.int .u8 0)):=by exact Z53);rw[e];exact hO8
 have axY:=Lh hSk;have hk2:Hid (k<S2.nb-96):=by have h1:=hF'.out.room;have h2:=hn'.out;have h3:=hF'.out.names;unfold VS.data at h1;rw[hS2,hk'.out];exact Lh (show 2+n/8<S.nb-96 by omega)
 clear hS2 hSk hO hO8 aL8 aHA aHB hB2' aHE aHC aHD hC2;obtain⟨b,hb⟩:∃b,b=bk S.cur k:=⟨_,rfl⟩;rw[<-hb]at hO9 hlen' axY;have hb':=Lh hb;clear hb
 --the two bytes
 have hyl:∀ys:List UInt8,ys.length=64->(dR b o ys).length=512:=fun ys hy=>by rw[fP (by rw[hlen'.out,hy];omega)];exact hlen'.out
 have aHF:=Lh hyl;have hst:Hid (∀W ys i v,ys.length=64->i<64->Sep w0 W (aI (sV g 512 c) (dR b o ys)::AP f q p S2 a2 k:: .box w.heap.size 129 (aN x (.slice A0 x.aB.length c0))::R)->
   (∃z:Int,W.cell? ⟨g,o+i,none⟩=some (.int .u8 z))/\W.frozen? ⟨g,o+i,none⟩=false/\Sep w0 (W.setCell ⟨g,o+i,none⟩ (.int .u8 (IntKind.u8.wrap ((v:Nat):Int)))) (aI (sV g 512 c) (dR b o (ys.set i (UInt8.ofNat v)))::AP f q p S2 a2 k:: .box w.heap.size 129 (aN x (.slice A0 x.aB.length c0))::R)):=Lh fun W ys i v hy hi hS=>by
  have h1:=hS;rw[bV (hyl ys hy)]at h1;refine⟨⟨_,h1.xM (R:=[]) 0 rfl (hyl ys hy) (o+i) aD⟩,h1.frozenAt 0 rfl _,?_⟩;have h2:=h1.stored 0 rfl (o+i) (.int .u8 (IntKind.u8.wrap ((v:Nat):Int)));(have e:dR b o (ys.set i (UInt8.ofNat v))=(dR b o ys).set (o+i) (UInt8.ofNat v):=by rw[HV (b:=dR b o ys) (by rw[hyl ys hy];omega),xN (by rw[hlen'.out];omega) E8,HV (b:=ys) aD]);rw[e,bV (n:=512) (by rw[J7];exact hyl ys hy),O5,PH];exact h2
 obtain⟨⟨z0,k0⟩,f0,hT1⟩:=hst.out _ _ 0 x.kind (by rw[FL]) aD hO9;obtain⟨⟨z7,k7⟩,f7,hT2⟩:=hst.out _ _ 7 x.aB.length (by rw[J7,FL]) aD hT1;have bx:=fun j=>hO9.bC 2 rfl j
 have bx0:=bx 0;have bx4:=bx 4;unfold aN at bx0 bx4;simp only[gA,gB,gC]at bx0 bx4;have aHG:=Lh hT2;have x28:=hx'.out.few;have xk:=hx'.out.kind;have i0:(0:Int)<=(x.kind:Int):=by omega
 have i1:(x.kind:Int)<256:=by omega
 have i2:(x.aB.length:Int)<=28:=by omega
 have by':=fun j=>hT1.bC 2 rfl j
 have hE1:(w8.setCell ⟨g,o+0,none⟩ (.int .u8 (IntKind.u8.wrap ((x.kind:Nat):Int)))).drew.cell? ⟨w.heap.size,0,none⟩=some (iV (x.kind:Nat))/\(w8.setCell ⟨g,o+0,none⟩ (.int .u8 (IntKind.u8.wrap ((x.kind:Nat):Int)))).drew.cell? ⟨w.heap.size,4,none⟩=some (.slice A0 x.aB.length c0):=⟨by' 0,by' 4⟩;simp only[sF]at k0 f0 hE1 k7 f7 hT2;have k7':=show(w8.setCell ⟨g,o,none⟩ (.int .u8 (IntKind.u8.wrap ((x.kind:Nat):Int)))).drew.cell? ⟨g,o+7,none⟩=_ from k7
 have f7':=show(w8.setCell ⟨g,o,none⟩ (.int .u8 (IntKind.u8.wrap ((x.kind:Nat):Int)))).drew.frozen? ⟨g,o+7,none⟩=_ from f7
 have hE0:w8.drew.cell? ⟨w.heap.size,0,none⟩=some (iV (x.kind:Nat))/\w8.drew.cell? ⟨w.heap.size,4,none⟩=some (.slice A0 x.aB.length c0):=⟨bx0,bx4⟩;clear hst hyl hO9 hT1 hT2 bx by' x28 xk;go_wp2_with fail;refine aP (S:=fun w'=>w'.cell? ⟨w.heap.size,0,none⟩=some (iV (x.kind:Nat))/\w'.cell? ⟨w.heap.size,4,none⟩=some (.slice A0 x.aB.length c0)) 12 ?_;refine aA 0 hE0 ?_;refine aA 1 hE0 ?_;refine aA 2 hE0 ?_;refine aA 3 hE0 ?_;refine aA 4 hE0 ?_;refine aA 5 hE0 ?_;refine aA 6 hE0 ?_;refine aA 7 hE0 ?_;refine aA 8 hE0 ?_;refine bA 9 (fun _=>hE0) ?_;refine bA 10 (fun _=>hE1) ?_;refine bA 11 (fun _=>hE1) ?_;refine bA 12 (fun h=>absurd rfl h) ?_;refine aQ fE ?_ _;obtain⟨w9,IL⟩:∃w9,w9=((w8.setCell ⟨g,o,none⟩ (.int .u8 (IntKind.u8.wrap ((x.kind:Nat):Int)))).setCell ⟨g,o+7,none⟩ (.int .u8 (IntKind.u8.wrap ((x.aB.length:Nat):Int)))).drew:=⟨_,rfl⟩;have hT3:Sep w0 w9 (aI (sV g 512 c) (dR b o (((List.replicate 64 (0:UInt8)).set 0 (UInt8.ofNat x.kind)).set 7 (UInt8.ofNat x.aB.length)))::AP f q p S2 a2 k:: .box w.heap.size 129 (aN x (.slice A0 x.aB.length c0))::R):=by rw[IL];exact aHG.out.drew
 rw[<-IL];clear IL hE0 hE1 k0 k7 k7' f7' f0 f7 aHG bx0 bx4 hcl;obtain⟨ys,hys⟩:∃ys,ys=((List.replicate 64 (0:UInt8)).set 0 (UInt8.ofNat x.kind)).set 7 (UInt8.ofNat x.aB.length):=⟨_,rfl⟩;have aHH:ys.length=64:=by rw[hys];simp
 rw[<-hys]at hT3
 --the three numbers
 have hw2:Hid (∀W (ys:List UInt8) i v,ys.length=64->i+2<=64->v<=1048576->Sep w0 W (aI (sV g 512 c) (dR b o ys)::AP f q p S2 a2 k:: .box w.heap.size 129 (aN x (.slice A0 x.aB.length c0))::R)->
   Calls Tryz.prog 97 #[.slice (some ⟨g,o,none⟩) 64 (c-o),iV (i:Nat),iV (v:Nat)] W fun e w'=>e= .returned (.tuple #[])/\(dR ys i (w2 v)).length=64/\Sep w0 w' (aI (sV g 512 c) (dR b o (dR ys i (w2 v)))::AP f q p S2 a2 k:: .box w.heap.size 129 (aN x (.slice A0 x.aB.length c0))::R)):=Lh fun W ys i v hy hi hv2 hS=>by
  refine(FQ (o:=o) (m:=64) (cap:=c-o) (i:=i) (n:=v) hS (aHF.out ys hy) aD hi hv2).mono ?_;rintro e w' ⟨rfl,h9⟩;refine⟨rfl,by rw[fP (by rw[sQ];omega)];exact hy,?_⟩;rw[xN (by rw[hlen'.out];omega) (by rw[sQ];omega)]at h9;exact h9
 have hbx:Hid (∀W ys,Sep w0 W (aI (sV g 512 c) (dR b o ys)::AP f q p S2 a2 k:: .box w.heap.size 129 (aN x (.slice A0 x.aB.length c0))::R)->W.cell? ⟨w.heap.size,1,none⟩=some (iV (x.mode:Nat))/\W.cell? ⟨w.heap.size,2,none⟩=some (iV (x.links:Nat))/\W.cell? ⟨w.heap.size,3,none⟩=some (iV (x.size:Nat))/\W.cell? ⟨w.heap.size,4,none⟩=some (.slice A0 x.aB.length c0)):=Lh fun W ys hS=>by(have z:=fun j=>hS.bC 2 rfl j);exact⟨z 1,z 2,z 3,z 4⟩
 have hc1':=hw2.out _ ys 1 x.mode aHH aD (by have:=hx'.out.mode;omega) hT3;obtain⟨d1,_,_,_⟩:=hbx.out _ _ hT3;have aMA:=Lh hys;clear hys aHH hT3;go_wp2_with(first |(go_at_call 97;refine hc1'.mono ?_;rintro e w10 ⟨rfl,hl1,h10⟩;clear d1;(obtain⟨_,d1,_,_⟩:=hbx.out _ _ h10);(have hc2':=hw2.out _ _ 3 x.links hl1 aD (by have:=hx'.out.links;omega) h10);clear h10 hc1' hl1)|(go_at_call 97;refine hc2'.mono ?_;rintro e w11 ⟨rfl,hl1,h10⟩;clear d1;(obtain⟨_,_,d1,_⟩:=hbx.out _ _ h10);(have aHI:=hw2.out _ _ 5 x.size hl1 aD (by have:=hx'.out.size;omega) h10);clear h10 hc2' hl1)|(go_at_call 97;refine aHI.mono ?_;rintro e w12 ⟨rfl,hl1,h12⟩;clear d1;(obtain⟨_,_,_,d1⟩:=hbx.out _ _ h12);rw[aMA.out,ajR]at h12;replace h12:=Lh h12;clear aHI));have hv2:=hv'.out;clear d1;obtain⟨L,hL⟩:∃L,L=x.aB.length:=⟨_,rfl⟩;have hv3:Hid (∀W' X,Sep w0 W' (X++R)->Rd W' 1 (.slice A0 L c0) L ((eB x.aB).map (.int .i64))):=by rw[hL];exact Lh hv2
 have hL':=Lh hL;have L28:L<=28:=by rw[hL];exact hx'.out.few
 have Li:(L:Int)<=28:=by omega
 simp only[<-hL];clear hv2 hL hv';go_loopw[74] (fun i wr=>∃j:Nat,j<=L/\i=iV j/\Hid (Sep w0 wr (aI (sV g 512 c) (dR b o (NN x j))::AP f q p S2 a2 k:: .box w.heap.size 129 (aN x (.slice A0 x.aB.length c0))::R))) (fun i _=>L-(intOf i).toNat)
 case atStart=>exact⟨0,fZ _,rfl,h12⟩
 obtain⟨j,hj,rfl,hS⟩:=hrel;clear h12;by_cases hlt:j<L
 ·have hrl:(NN x j).length=64:=avM (by rw[<-hL'.out];exact hj) (by rw[<-hL'.out];exact L28);(have hlx:j<x.aB.length:=by rw[<-hL'.out];exact hlt);obtain⟨s,hs⟩:∃s,s=x.aB[j]:=⟨_,rfl⟩;(have hsj:x.aB[j]? =some s:=by rw[gE hlx,hs]);(have hs6:s<65536:=by rw[hs];exact hx'.out.spot _ (nW hlx));(have hcj:∃ad,A0=some ad/\wr.cell? (ad.add j)=some (iV (s:Nat)):=by obtain⟨ad,c9,u9,e,h1,h2⟩:=Rd.at_ (hv3.out wr [_,_,_] hS.out) (k:=j) hlt;cases e;unfold eB at h1;rw[lC,lC,hsj]at h1;cases h1;exact⟨ad,rfl,h2⟩);obtain⟨ad,rfl,hcj⟩:=hcj;have hwr:=hw2.out _ _ (8+2*j) s hrl aD aD hS.out;rw[show((8+2*j:Nat):Int)=8+2*(j:Int)by omega]at hwr;rw[apH hlx (by rw[<-hL'.out];exact L28) hsj]at hwr;(have q1:(j:Int)<L:=by omega);(have q0:(0:Int)<=j:=by omega);(have q3:(s:Int)<65536:=by omega);(have q4:(0:Int)<=s:=by omega);have aTH:IntKind.i64.wrap (2*(j:Int))=2*j:=IntWalk.i64_in _ aD;have aTI:IntKind.i64.wrap (8+2*(j:Int))=8+2*j:=IntWalk.i64_in _ aD;clear hS hs hsj hs6 hlx hrl;go_wp2_with(go_at_call 97;refine hwr.mono ?_;rintro e w10 ⟨rfl,_,h10⟩;replace h10:=Lh h10;clear hwr);exact⟨⟨j+1,by omega,rfl,h10⟩,by simp[intOf];omega⟩
 obtain rfl:j=L:=by omega
 have zX:=hS.out;rw[hL'.out,avN]at zX;have hpu:=yP ZB.out hk2.out zX;have hvc:=ZB.out.put (sV g 512 c) (bs:=dR b o (viE x)) hk2.out (aHF.out _ (ZQ hx'.out.few));rw[<-axY.out]at hpu hvc;have aMC:=Lh hvc;clear hS zX hvc;go_wp2_with(go_at_call 98;refine hpu.mono ?_;rintro e w10 ⟨rfl,h10⟩;replace h10:=Lh h10;clear hpu)
 go_end0
 refine⟨rfl,_,aMC.out,?_⟩;exact(Sep.dB [1,0] h10.out aR bK).drop 1
end
def QN (c:gI) (names:Nat):Prop:=∀n<names,(aH c n).aB.length<=28
def l8 (c:gI) (names:Nat):Option Nat:=(List.range names).find? fun n=>(aH c n).kind==0
theorem avO {c:gI} {names n:Nat} (h1:n<names) (h2:(aH c n).kind=0) (h3:∀i<n,(aH c i).kind≠0):l8 c names=some n:=by unfold l8;rw[ajT];exact⟨by simp[h2],List.mem_range.2 h1,fun i hi=>by simp[h3 i hi]⟩
theorem avP {c:gI} {names:Nat} (h:∀i<names,(aH c i).kind≠0):l8 c names=none:=by unfold l8;rw[wV];intro i hi;simp[h i (List.mem_range.1 hi)]
theorem P8 (a b c d:Int) (v:Value) (w:World):(Instr.field 129 (.agg #[iV a,iV b,iV c,iV d,v]) 0).run Tryz.prog w= .ok (.int .i64 a) w:=by kernel_rfl
section
variable {w0 w:World} {R:List aW} {f q p:Nat} {S:VS} {a:VA}
def rF (f q p:Nat) (S:VS) (a:VA) (w0:World) (R:List aW) (e:Ending) (w':World):Prop:=
 match l8 S.cur S.names with
 |some n=>e= .returned (.int .i64 n)/\∃a',Reads S a a'/\Sep w0 w' (aF f q p S a'::R)
 |none=>e= .panicked (fA 27)/\∃a',Reads S a a'/\Sep w0 w' (aF f q p S a'::R)
theorem QO (hC:VC S a) (hF:VF S) (hT:QN S.cur S.names) (h:Sep w0 w (aF f q p S a::R)):
  Calls Tryz.prog 141 #[pV f] w (rF f q p S a w0 R):=by
 have c3:=h.fO.c3;have hin:Hid (∀W n a',n<S.names->Reads S a a'->Sep w0 W (aF f q p S a'::R)->Calls Tryz.prog 72 #[pV f,iV (n:Nat)] W fun e w'=>∃v a2,e= .returned (fM (aH S.cur n) v)/\Reads S a a2/\Sep w0 w' (aF f q p S a2::R)):=Lh fun W n a' hn hR hS=>by refine(jQ hR.ok hF hn (hT n hn) hS).mono ?_;rintro e w' ⟨v,a2,rfl,hR2,h9⟩;exact⟨v,a2,rfl,hR.trans hR2,h9.drop 1⟩
 have hR0:Hid (Reads S a a/\Sep w0 w (aF f q p S a::R)):=Lh ⟨.refl hC,h⟩;have hb:=hF.names;obtain⟨N,hN⟩:∃N,N=S.names:=⟨_,rfl⟩;have hsome:Hid (∀n e w',l8 S.cur N=some n->e= .returned (iV n)->(∃a',Reads S a a'/\Sep w0 w' (aF f q p S a'::R))->rF f q p S a w0 R e w'):=Lh fun n e w' h1 h2 h3=>by unfold rF;rw[<-hN,h1];exact⟨h2,h3⟩
 have hnone:Hid (∀e w',l8 S.cur N=none->e= .panicked (fA 27)->(∃a',Reads S a a'/\Sep w0 w' (aF f q p S a'::R))->rF f q p S a w0 R e w'):=Lh fun e w' h1 h2 h3=>by unfold rF;rw[<-hN,h1];exact⟨h2,h3⟩
 rw[<-hN]at c3 hin hb;have n1:(N:Int)<=1024:=by omega
 have hfk:=P8;clear hC hF hT h hN hb;go_enter Tryz.func141,Tryz.ntmps141;go_wp2_with fail;go_loopw[9] (fun i wr=>∃m:Nat,m<=N/\i=iV m/\Hid (∀j<m,(aH S.cur j).kind≠0)/\Hid (∃a',Reads S a a'/\Sep w0 wr (aF f q p S a'::R))) (fun i _=>N-(intOf i).toNat)
 case atStart=>exact⟨0,fZ _,rfl,Lh fun j hj=>by omega,Lh ⟨a,hR0.out⟩⟩
 obtain⟨m,hm,rfl,hno,hS⟩:=hrel;clear hR0 c3;by_cases hlt:m<N
 ·(have q1:(m:Int)<N:=by omega);(have q0:(0:Int)<=m:=by omega);obtain⟨a1,DI,hS1⟩:=hS.out;have hc:=hin.out _ m a1 hlt DI hS1;clear DI hS1 hS;unfold fM aN at hc;by_cases hk:(aH S.cur m).kind=0
  ·have hfr:=avO hlt hk hno.out;rw[hk]at hc;have avH:=Lh hfr;clear hfr;go_wp2_with(go_at_call 72;refine hc.mono ?_;rintro e w9 ⟨v,a2,rfl,hR2,h9⟩;replace h9:=Lh h9;replace hR2:=Lh hR2;clear hc);go_ret;exact hsome.out m _ _ avH.out rfl ⟨a2,hR2.out,h9.out⟩
  (have hk0:(((aH S.cur m).kind:Int)==0)=false:=by rw[jU];omega);have hk':=Lh hk;clear hk;go_wp2_with(go_at_call 72;refine hc.mono ?_;rintro e w9 ⟨v,a2,rfl,hR2,h9⟩;replace h9:=Lh h9;replace hR2:=Lh hR2;clear hc);refine⟨⟨m+1,by omega,rfl,Lh fun j hj=>?_,Lh ⟨a2,hR2.out,h9.out⟩⟩,by simp[intOf];omega⟩;by_cases e:j=m
  ·rw[e];exact hk'.out
  exact hno.out j aD
 obtain rfl:m=N:=by omega
 have avH:=Lh (avP hno.out);go_wp2_with fail;exact⟨rfl,hnone.out _ _ avH.out rfl hS.out⟩
end
def nN :Nat->VS->List Nat->VS×List Nat
 |0,S,l=>(S,l)
 |k+1,S,l=>nN k (S.put 1 (yV (bk S.cur 1) (l.getLastD 0))) l.dropLast
def NT :Nat->VS->List Nat->Option (VS×List Nat)
 |0,S,l=>some (S,l)
 |k+1,S,l=>match j5 (bk S.cur 1) S.count with
  |none=>none
  |some j=>NT k (S.put 1 (kZ (bk S.cur 1) j)) (l++[j])
def jY (S:VS) (l:List Nat) (n:Nat):Option (VS×List Nat):=
 NT (n-(nN (l.length-n) S l).2.length) (nN (l.length-n) S l).1 (nN (l.length-n) S l).2
structure fC (S S':VS):Prop where
 nb:S'.nb=S.nb
 names:S'.names=S.names
 D:S'.D=S.D
 rB:S'.rB=S.rB
 rI:S'.rI=S.rI
theorem fC.refl (S:VS):fC S S:=⟨rfl,rfl,rfl,rfl,rfl⟩
theorem fC.trans {S T U:VS} (h:fC S T) (g:fC T U):fC S U:=⟨g.nb.trans h.nb,g.names.trans h.names,g.D.trans h.D,g.rB.trans h.rB,g.rI.trans h.rI⟩
theorem fC.put {S T:VS} (h:fC S T) (k:Nat) (bs:List UInt8):fC S (T.put k bs):=h.trans ⟨rfl,rfl,rfl,rfl,rfl⟩
theorem fC.count {S T:VS} (h:fC S T):T.count=S.count:=by unfold VS.count VS.data;rw[h.nb,h.names]
theorem fC.vf {S T:VS} (h:fC S T) (hF:VF S):VF T:=⟨by rw[h.names];exact hF.names,by unfold VS.data;rw[h.nb,h.names];exact hF.room⟩
structure az6 (f q p:Nat) (S:VS) (x:VI) (n bx:Nat) (w0 wr:World) (R:List aW) (S1:VS) (l:List Nat) (a1:VA) (v:Value):Prop where
 eq:nN (l.length-n) S1 l=nN (x.aB.length-n) S x.aB
 like:fC S S1
 lt:∀s∈l,s<S.count
 few:l.length<=28
 ok:VC S1 a1
 sep:Sep w0 wr (aF f q p S1 a1:: .box bx 129 (aN x v)::aS v (eB l)::R)
structure UpI (f q p:Nat) (S:VS) (x:VI) (n bx:Nat) (w0 wr:World) (R:List aW) (S1:VS) (l:List Nat) (a1:VA) (v:Value):Prop where
 eq:NT (n-l.length) S1 l=jY S x.aB n
 like:fC S S1
 lt:∀s∈l,s<S.count
 few:l.length<=n
 ok:VC S1 a1
 sep:Sep w0 wr (aF f q p S1 a1:: .box bx 129 (aN x v)::aS v (eB l)::R)
theorem ayY {l:List Nat} {m:Nat} (h:l.length=m+1):∃s,l=l.dropLast++[s]/\l.getLastD 0=s/\l[m]? =some s/\l.dropLast.length=m:=by
 have hne:l≠[]:=by intro e;rw[e]at h;cases h
 refine⟨l.getLast hne,(List.dropLast_concat_getLast hne).symm,?_,?_,by rw[abN,h];rfl⟩
 ·rw[List.getLastD_eq_getLast?,List.getLast?_eq_some_getLast hne];rfl
 have:=List.getLast_eq_getElem hne;rw[this,gE aD];simp[h]
section
variable {w0 w:World} {R:List aW} {f q p:Nat} {S:VS} {a:VA}
def pW (f q p:Nat) (S:VS) (x:VI) (n bx:Nat) (w0:World) (R:List aW) (e:Ending) (w':World):Prop:=
 match jY S x.aB n with
 |some (S1,l)=>e= .returned (.tuple #[])/\∃a1 v,fC S S1/\VC S1 a1/\Sep w0 w' (aF f q p S1 a1:: .box bx 129 (aN x v)::aS v (eB l)::R)
 |none=>e= .panicked (fA 27)/\∃S1 a1,fC S S1/\VC S1 a1/\Sep w0 w' (aF f q p S1 a1::R)
theorem yS {n bx:Nat} {x:VI} {v:Value} (hC:VC S a) (hF:VF S) (hx:x.aB.length<=28) (hn:n<=28) (hsp:∀s∈x.aB,s<S.count) (h:Sep w0 w (aF f q p S a:: .box bx 129 (aN x v)::aS v (eB x.aB)::R)):
  Calls Tryz.prog 99 #[pV f,pV bx,iV n] w (pW f q p S x n bx w0 R):=by
 have hI:Hid (∃S1 l a1 v,az6 f q p S x n bx w0 w R S1 l a1 v/\x.aB.length=l.length):=Lh ⟨S,x.aB,a,v,⟨rfl,.refl S,hsp,hx,hC,h⟩,rfl⟩;have hF':=Lh hF;have n28:(n:Int)<=28:=by omega
 have n0:(0:Int)<=n:=by omega
 clear hC hF hsp h;go_enter Tryz.func99,Tryz.ntmps99;go_wp2_with fail;go_loopg[12] x.aB.length (fun g u wr=>Hid (∃S1 l a1 v,az6 f q p S x n bx w0 wr R S1 l a1 v/\g=l.length))
 case atStart=>exact hI
 obtain⟨S1,l,a1,v1,hD,rfl⟩:=hrel.out;obtain⟨m,hm⟩:∃m,m=l.length:=⟨_,rfl⟩;have hll:(eB l).length=l.length:=by unfold eB;exact iJ ..
 obtain⟨A1,c1,e1⟩:=hD.sep.dV 2 rfl;rw[hll,<-hm]at e1;subst e1;have d4:wr.cell? ⟨bx,4,none⟩=some (.slice A1 m c1):=by rw[hD.sep.bC 1 rfl 4];rfl
 have m28:(m:Int)<=28:=by have:=hD.few;omega
 have hD':=Lh hD;have hm':=Lh hm;clear hD hrel hI hll hm;by_cases hgt:n<m
 case neg=>
  (have q1:(m:Int)<=n:=by omega);have hU0:Hid (∃S2 l2 a2 v2,UpI f q p S x n bx w0 wr R S2 l2 a2 v2/\n-m=n-l2.length):=Lh ⟨S1,l,a1,_,⟨by have e1:=hD'.out.eq;rw[<-hm'.out,show m-n=0 by omega]at e1;have e2:(S1,l)=nN (x.aB.length-n) S x.aB:=e1;unfold jY;rw[<-e2],hD'.out.like,hD'.out.lt,by rw[<-hm'.out];omega,hD'.out.ok,hD'.out.sep⟩,by rw[hm'.out]⟩;clear hD';go_wp2_with fail;clear d4;go_loopg[49] (n-m) (fun g u wr=>Hid (∃S2 l2 a2 v2,UpI f q p S x n bx w0 wr R S2 l2 a2 v2/\g=n-l2.length))
  case atStart=>exact hU0
  clear hU0 hm' q1 m28;obtain⟨S2,l2,a2,v2,hU,rfl⟩:=hrel.out;obtain⟨k,hk⟩:∃k,k=l2.length:=⟨_,rfl⟩;(have hll:(eB l2).length=l2.length:=by unfold eB;exact iJ ..);obtain⟨A2,c2,e2⟩:=hU.sep.dV 2 rfl;rw[hll,<-hk]at e2;subst e2;(have d5:wr.cell? ⟨bx,4,none⟩=some (.slice A2 k c2):=by rw[hU.sep.bC 1 rfl 4];rfl);have hU':=Lh hU;have hk':=Lh hk;(have kn:(k:Int)<=n:=by have:=hU.few;omega);(have k0:(0:Int)<=k:=by omega);clear hU hrel hll hk;by_cases hlt:k<n
  case neg=>
   (have q1:(n:Int)<=k:=by omega);have hfit:Hid (jY S x.aB n=some (S2,l2)):=Lh (by have e1:=hU'.out.eq;rw[<-hk'.out,show n-k=0 by omega]at e1;exact e1.symm);go_wp2_with fail
   go_end0
   unfold pW;rw[hfit.out];exact⟨rfl,a2,_,hU'.out.like,hU'.out.ok,hU'.out.sep⟩
  (have q1:(k:Int)<n:=by omega);(have htk:=fun W (hW:Sep w0 W (aF f q p S2 a2:: .box bx 129 (aN x (.slice A2 k c2))::aS (.slice A2 k c2) (eB l2)::R))=>avG hU'.out.ok (hU'.out.like.vf hF'.out) hW);unfold abG at htk;rw[hU'.out.like.count]at htk;have hE:wr.drew.cell? ⟨bx,4,none⟩=some (.slice A2 k c2):=d5;cases hfr:j5 (bk S2.cur 1) S.count with
  |none=>rw[hfr]at htk;have hfit:Hid (jY S x.aB n=none):=Lh (by have e1:=hU'.out.eq;rw[<-hk'.out,show n-k=(n-k-1)+1 by omega]at e1;rw[<-e1];unfold NT;rw[hU'.out.like.count,hfr]);replace htk:=Lh htk;clear hfr;go_wp2_with fail;refine aP (S:=fun w'=>w'.cell? ⟨bx,4,none⟩=some (.slice A2 k c2)) 13 ?_;refine aA 0 hE ?_;refine aA 1 hE ?_;refine aA 2 hE ?_;refine aA 3 hE ?_;refine aA 4 hE ?_;refine aA 5 hE ?_;refine aA 6 hE ?_;refine aA 7 hE ?_;(refine bI 8 fun K hK=>?_);go_simp;go_at_call 164;refine(htk.out _ hU'.out.sep.drew).mono ?_;rintro e w3 ⟨rfl,a3,ZB,h3⟩;refine⟨rfl,?_⟩;unfold pW;rw[hfit.out];have h5:Sep w0 w3 (.box bx 129 (aN x (.slice A2 k c2))::aS (.slice A2 k c2) (eB l2)::aF f q p S2 a3::R):=Sep.dB [1,2,0] h3 aR bK;exact⟨rfl,S2,a3,hU'.out.like,ZB,h5.drop 2⟩
  |some j=>
   rw[hfr]at htk;have hjc:=(yQ hfr).1;have heq:Hid (NT (n-(k+1)) (S2.put 1 (kZ (bk S2.cur 1) j)) (l2++[j])=jY S x.aB n):=Lh (by
    have e1:=hU'.out.eq;rw[<-hk'.out,show n-k=(n-(k+1))+1 by omega]at e1;rw[<-e1]
    conv=>rhs;unfold NT
    rw[hU'.out.like.count,hfr])
   obtain⟨i0,pR,hz0,hz1,hz2⟩:=iR (show(Tryz.prog.info? 3).map (fun i=>(i.zero,i.size,i.bytes))=some (some (iV 0),1,8)from TV);(have hll:(eB l2).length=k:=by unfold eB;rw[iJ];exact hk'.out.symm);replace htk:=Lh htk;have aMD:=Lh hjc;have av0:=Lh hll;clear hfr hjc hll;go_wp2_with fail;refine aP (S:=fun w'=>w'.cell? ⟨bx,4,none⟩=some (.slice A2 k c2)) 13 ?_;refine aA 0 hE ?_;refine aA 1 hE ?_;refine aA 2 hE ?_;refine aA 3 hE ?_;refine aA 4 hE ?_;refine aA 5 hE ?_;refine aA 6 hE ?_;refine aA 7 hE ?_;(refine bI 8 fun K hK=>?_);go_simp;go_at_call 164;refine(htk.out _ hU'.out.sep.drew).mono ?_;rintro e w3 ⟨rfl,a3,ZB,h3⟩;(have d6:w3.cell? ⟨bx,4,none⟩=some (.slice A2 k c2):=by rw[h3.bC 1 rfl 4];rfl);have h4:=h3.alloc (.cells #[iV (j:Nat)] 3);(have d7:(w3.alloc (.cells #[iV (j:Nat)] 3)).cell? ⟨bx,4,none⟩=some (.slice A2 k c2):=by rw[h4.bC 1 rfl 4];rfl);have hY:Hid (Sep w0 (w3.alloc (.cells #[iV (j:Nat)] 3)) (.sl 3 1 (.slice A2 k c2) k ((eB l2).map (.int .i64))::aF f q p (S2.put 1 (kZ (bk S2.cur 1) j)) a3:: .box bx 129 (aN x (.slice A2 k c2))::R)):=Lh (by have h5:Sep w0 (w3.alloc (.cells #[iV (j:Nat)] 3)) (aS (.slice A2 k c2) (eB l2)::aF f q p (S2.put 1 (kZ (bk S2.cur 1) j)) a3:: .box bx 129 (aN x (.slice A2 k c2))::R):=Sep.dB [2,0,1] h4 aR bK;unfold aS at h5;rw[av0.out]at h5;exact h5);have hrd:=jP w3 #[iV (j:Nat)] 3;have avL:Hid (Rd (w3.alloc (.cells #[iV (j:Nat)] 3)) 1 (sV w3.heap.size 1 1) 1 [.int .i64 (j:Nat)]):=Lh ⟨rfl,_,_,rfl,iC _,by unfold maxLen;omega,fun _=>⟨_,rfl,by simp,hrd _ rfl⟩⟩;have aME:=Lh ZB;clear h3 h4 hrd htk hE ZB d5;dsimp only;refine hK _ _ (fun _=>d6) ?_;clear hK K;(try simp only[Act.put,gD]);refine bA 9 (fun _=>d7) ?_;(refine bI 10 fun K hK=>?_);refine jH 0 EL _ _ 127 EL 3 i0 (.int .i64 0) 1 8 Tryz.underlying127 pR hz0 hz1 hz2 rfl aR hY.out (.slice A2 k c2) k _ EL EL (sV w3.heap.size 1 1) 1 [.int .i64 (j:Nat)] EL avL.out oCl vX aD ?_;intro v4 w4 jT hz4;(have d8:w4.cell? ⟨bx,4,none⟩=some (.slice A2 k c2):=by rw[jT.bC 2 rfl 4];rfl);have f8:w4.frozen? ⟨bx,4,none⟩=false:=jT.bF 2 rfl 4;obtain⟨A4,c4,e4⟩:=jT.dV 0 rfl;subst e4;have hS5:=Lh (jT.bS 2 rfl 4 (.slice A4 (k+1) c4));clear jT hY avL d6 d7;refine hK _ _ (fun _=>d8) ?_;clear hK K;(try simp only[Act.put,gD]);refine bA 11 (fun _=>d8) ?_;refine bA 12 (fun _=>d8) ?_;refine bA 13 (fun h=>absurd rfl h) ?_;refine aQ fE ?_ _;go_wp2_with fail;go_roundg (n-(k+1))
   case measure=>rw[<-hk'.out];omega
   (have h6:Sep w0 (w4.setCell ⟨bx,4,none⟩ (.slice A4 (k+1) c4)) (aF f q p (S2.put 1 (kZ (bk S2.cur 1) j)) a3:: .box bx 129 (aN x (.slice A4 (k+1) c4))::aS (.slice A4 (k+1) c4) (eB (l2++[j]))::R):=by have h7:Sep w0 _ _:=Sep.dB [1,2,0] hS5.out aR bK;(have e9:eB (l2++[j])=eB l2++[((j:Nat):Int)]:=by unfold eB;rw[mZ];rfl);rw[e9];unfold aS;rw[jM,av0.out,mZ];exact h7);(have hl9:(l2++[j]).length=k+1:=by rw[jM,<-hk'.out];rfl);exact Lh ⟨S2.put 1 (kZ (bk S2.cur 1) j),l2++[j],a3,.slice A4 (k+1) c4,⟨by rw[hl9];exact heq.out,hU'.out.like.put _ _,fun t ht=>by
    rcases iM.1 ht with h|h
    ·exact hU'.out.lt t h
    rw[tJ]at h;rw[h];exact aMD.out,by rw[hl9];omega,aME.out,by first |exact h6|exact h6.drew⟩,by rw[hl9]⟩
 obtain⟨k,hk⟩:∃k,m=k+1:=⟨m-1,by omega⟩;obtain⟨s,hl1,hl2,hl3,hl4⟩:=ayY (l:=l) (m:=k) (by rw[<-hm'.out];exact hk);have hll:(eB l).length=m:=by unfold eB;rw[iJ];exact hm'.out.symm
 obtain⟨g,cap,e,hg,_,hcap,hmax⟩:=hD'.out.sep.kC 2 rfl (by rw[hll];omega);rw[hll]at e;cases e;have hS0:Sep w0 wr (aF f q p S1 a1:: .box bx 129 (aN x (sV g m c1)):: .sl 3 1 (sV g m c1) m ((eB l).map (.int .i64))::R):=by have:=hD'.out.sep;unfold aS at this;rw[hll]at this;exact this
 have ck:wr.cell? ⟨g,k,none⟩=some (iV (s:Nat)):=by rw[hS0.cellAt 2 rfl k aD];unfold eB;rw[lC,lC,hl3];rfl
 have hcut:=hS0.agO 2 rfl k aD;have hgv:=fun W (hW:Sep w0 W (aF f q p S1 a1:: .box bx 129 (aN x (sV g m c1)):: .sl 3 1 (sV g m c1) m ((eB l).map (.int .i64))::R))=>avD (i:=s) hD'.out.ok (hD'.out.like.vf hF'.out) (by rw[hD'.out.like.count];exact hD'.out.lt s (by rw[hl1];simp)) hW
 have aHJ:=Lh hgv;have nU:=Lh hS0;have q1:(n:Int)<m:=by omega
 have q2:(m:Int)-1=k:=by omega
 have q3:IntKind.i64.wrap (k:Int)=k:=IntWalk.i64_in _ aD;have q4:(0:Int)<=k:=by omega
 have q5:(k:Int)<m:=by omega
 have q6:(m:Int)<=c1:=by omega
 have q7:(k:Int)<=c1:=by omega
 have q8:k<=c1:=by omega
 have hl':=Lh (And.intro hl1 (And.intro hl2 (And.intro hl3 hl4)));have hk':=Lh hk;have hE:wr.drew.cell? ⟨bx,4,none⟩=some (sV g m c1)/\wr.drew.cell? ⟨g,k,none⟩=some (iV (s:Nat)):=⟨d4,ck⟩;clear hgv hS0 hl1 hl2 hl3 hl4 hk hcut hll hg hmax;go_wp2_with fail;refine aP (S:=fun w'=>w'.cell? ⟨bx,4,none⟩=some (sV g m c1)/\w'.cell? ⟨g,k,none⟩=some (iV (s:Nat))) 16 ?_;refine aA 0 hE ?_;refine aA 1 hE ?_;refine aA 2 hE ?_;refine aA 3 hE ?_;refine aA 4 hE ?_;refine aA 5 hE ?_;refine aA 6 hE ?_;refine aA 7 hE ?_;refine aA 8 hE ?_;refine aA 9 hE ?_;refine aA 10 hE ?_;refine aA 11 hE ?_;refine aA 12 hE ?_;refine aA 13 hE ?_;refine aA 14 hE ?_;refine bI 15 fun K hK=>?_
 go_simp;go_at_call 163;refine(aHJ.out _ nU.out.drew).mono ?_;rintro e w3 ⟨rfl,a2,hC2,h3⟩;have d5:w3.drew.cell? ⟨bx,4,none⟩=some (sV g m c1):=by rw[h3.drew.bC 1 rfl 4];rfl
 have f5:=h3.drew.bF 1 rfl 4;have d6:w3.cell? ⟨bx,4,none⟩=some (sV g m c1)/\w3.cell? ⟨g,k,none⟩=some (iV (s:Nat)):=⟨d5,by rw[h3.cellAt 2 rfl k aD];unfold eB;rw[lC,lC,hl'.out.2.2.1];rfl⟩;have dQ:=Lh h3;replace hC2:=Lh hC2;clear h3 aHJ nU hE ck d4;dsimp only;refine hK _ _ (fun _=>d6) ?_;clear hK K;try simp only[Act.put,gD]
 refine aQ fE ?_ _;clear d6;go_wp2_with fail;refine aP (S:=fun w'=>w'.cell? ⟨bx,4,none⟩=some (sV g m c1)) 14 ?_;refine aA 0 d5 ?_;refine aA 1 d5 ?_;refine aA 2 d5 ?_;refine aA 3 d5 ?_;refine aA 4 d5 ?_;refine aA 5 d5 ?_;refine aA 6 d5 ?_;refine aA 7 d5 ?_;refine aA 8 d5 ?_;refine aA 9 d5 ?_;refine aA 10 d5 ?_;refine aA 11 d5 ?_;refine bA 12 (fun _=>d5) ?_;refine bA 13 (fun _=>d5) ?_;refine bA 14 (fun h=>absurd rfl h) ?_;refine aQ fE ?_ _;have h4:Sep w0 (w3.setCell ⟨bx,4,none⟩ (sV g k c1)) (aF f q p (S1.put 1 (yV (bk S1.cur 1) s)) a2:: .box bx 129 (aN x (sV g k c1))::aS (sV g k c1) (eB l.dropLast)::R):=by have h5:=(dQ.out.bS 1 rfl 4 (sV g k c1)).agO 2 rfl k aD;(have hl5:(eB l.dropLast).length=k:=by unfold eB;rw[iJ];exact hl'.out.2.2.2);(have e5:((eB l).map (Value.int .i64)).take (k*1)=(eB l.dropLast).map (Value.int .i64):=by rw[zM,<-ab7];congr 1;unfold eB;rw[<-ab7];congr 1;rw[hl'.out.1,List.take_append_of_le_length (by rw[hl'.out.2.2.2];exact iC _),pM (by rw[hl'.out.2.2.2];exact iC _),<-hl'.out.1]);rw[e5]at h5;unfold aS;rw[hl5];exact h5
 have h4':=Lh h4;clear h4 dQ;go_wp2_with fail;go_roundg k
 case measure=>rw[<-hm'.out,hk'.out];exact J5 k
 refine Lh ⟨S1.put 1 (yV (bk S1.cur 1) s),l.dropLast,a2,sV g k c1,⟨?_,hD'.out.like.put _ _,fun t ht=>hD'.out.lt t (by rw[hl'.out.1];exact vU _ ht),by rw[hl'.out.2.2.2];omega,hC2.out,h4'.out.drew⟩,hl'.out.2.2.2.symm⟩;have e1:=hD'.out.eq;rw[<-hm'.out,hk'.out,show k+1-n=(k-n)+1 by omega]at e1;rw[<-e1,hl'.out.2.2.2];show _=nN (k-n) (S1.put 1 (yV (bk S1.cur 1) (l.getLastD 0))) l.dropLast
 rw[hl'.out.2.1]
end
theorem dK (c:gI) {i j:Nat} (x:List UInt8) (h:j≠i):bk (c.set i x) j=bk c j:=by unfold bk;rw[gH,abY (fun e=>h e.symm),<-gH]
structure Used (S S':VS) (k:Nat):Prop where
 wB:S'.wB=S.wB
 wI:S'.wI=S.wI
 nodes:S'.nodes=S.nodes
 names:S'.names=S.names
 nb:S'.nb=S.nb
 blk:∀j,j≠1->bk S'.cur j=bk S.cur j
 m:S'.m=S.m+k
theorem Used.refl (S:VS):Used S S 0:=⟨rfl,rfl,rfl,rfl,rfl,fun _ _=>rfl,rfl⟩
theorem Used.put {S T:VS} {k:Nat} (u:List UInt8) (h:Used (S.put 1 u) T k):Used S T (k+1):=
 ⟨h.wB,h.wI,h.nodes,h.names,h.nb,fun j hj=>(h.blk j hj).trans (dK _ _ hj),by rw[h.m];show S.m+1+k=_;omega⟩
theorem UF :∀(k:Nat) (S:VS) (l:List Nat),Used S (nN k S l).1 k
 |0,S,l=>.refl S
 |k+1,S,l=>(UF k _ _).put _
theorem uU :∀(k:Nat) (S:VS) (l:List Nat),(nN k S l).2=l.take (l.length-k)
 |0,S,l=>by(show l=_);rw[Nat.sub_zero,M7]
 |k+1,S,l=>by(show(nN k _ l.dropLast).2=_);rw[uU k,abN,List.dropLast_eq_take,List.take_take];congr 1;omega
theorem agI :∀(k:Nat) (S:VS) (l:List Nat) {S1:VS} {l1:List Nat},NT k S l=some (S1,l1)->Used S S1 k/\l1.length=l.length+k/\l<+:l1
 |0,S,l,S1,l1,h=>by cases h;exact⟨.refl S,rfl,List.prefix_refl _⟩
 |k+1,S,l,S1,l1,h=>by
  unfold NT at h;split at h
  ·cases h
  rename_i j hj;obtain⟨h1,h2,h3⟩:=agI k _ _ h;exact⟨h1.put _,by rw[h2,jM];simp;omega,(List.prefix_append l [j]).trans h3⟩
theorem Used.trans {S T U:VS} {i j:Nat} (h:Used S T i) (g:Used T U j):Used S U (i+j):=
 ⟨g.wB.trans h.wB,g.wI.trans h.wI,g.nodes.trans h.nodes,g.names.trans h.names,g.nb.trans h.nb,fun k hk=>(g.blk k hk).trans (h.blk k hk),by rw[g.m,h.m];omega⟩
theorem jR {S S1:VS} {l l1:List Nat} {n:Nat} (h:jY S l n=some (S1,l1)):Used S S1 ((l.length-n)+(n-l.length))/\l1.length=n:=by
 unfold jY at h;have h1:=UF (l.length-n) S l;have h2:=uU (l.length-n) S l;have h3:(nN (l.length-n) S l).2.length=l.length-(l.length-n):=by rw[h2,qP];omega
 obtain⟨h4,h5,_⟩:=agI _ _ _ h;rw[h3]at h4 h5;refine⟨?_,by rw[h5];omega⟩;have h6:=h1.trans h4;rw[show l.length-n+(n-(l.length-(l.length-n)))=(l.length-n)+(n-l.length)by omega]at h6;exact h6
theorem KD {S:VS} {l:List Nat} {n:Nat} (h:n<=l.length):∃S1,jY S l n=some (S1,l.take n):=by
 unfold jY;have h2:=uU (l.length-n) S l;rw[show l.length-(l.length-n)=n by omega]at h2;have h3:(nN (l.length-n) S l).2.length=n:=by rw[h2,qP];omega
 rw[h3,FP,h2];exact⟨_,rfl⟩
theorem Used.ino {S T:VS} {k:Nat} (h:Used S T k) (n:Nat):aH T.cur n=aH S.cur n:=by unfold aH;rw[h.blk _ aD]
def VI0 :VI:=⟨0,0,0,0,[]⟩
theorem aCA :VI0.ok:=⟨by decide,by decide,by decide,by decide,by decide,fun k hk=>by cases hk⟩
section
variable {w0 w:World} {R:List aW} {f q p:Nat} {S:VS} {a:VA}
theorem aqS {n:Nat} {S1:VS} (hC:VC S a) (hF:VF S) (hn:n<S.names) (hok:(aH S.cur n).aB.length<=28) (hsp:∀s∈(aH S.cur n).aB,s<S.count) (hW:gK S) (hfit:jY S (aH S.cur n).aB 0=some (S1,[])) (h:Sep w0 w (aF f q p S a::R)):
  Calls Tryz.prog 122 #[pV f,iV n] w fun e w'=>e= .returned (.tuple #[])/\∃a',VC (S1.keep n VI0) a'/\Sep w0 w' (aF f q p (S1.keep n VI0) a'::R):=by
 have hin:=jQ hC hF hn hok h;have hU:=(jR hfit).1;have hft:Hid (∀W bx v a1,VC S a1->Sep w0 W (aF f q p S a1:: .box bx 129 (aN (aH S.cur n) v)::aS v (eB (aH S.cur n).aB)::R)->
   Calls Tryz.prog 99 #[pV f,pV bx,iV 0] W fun e w'=>e= .returned (.tuple #[])/\∃a2,VC S1 a2/\Sep w0 w' (aF f q p S1 a2::R)):=Lh fun W bx v a1 kK hS=>by
  refine(yS (n:=0) kK hF hok aD hsp hS).mono ?_;intro e w' ho;unfold pW at ho;rw[hfit]at ho;obtain⟨rfl,a2,v2,hL,hC2,h9⟩:=ho;have h5:Sep w0 w' (.box bx 129 (aN (aH S.cur n) v2)::aS v2 (eB [])::aF f q p S1 a2::R):=Sep.dB [1,2,0] h9 aR bK;exact⟨rfl,a2,hC2,h5.drop 2⟩
 have hkp:Hid (∀W a2,VC S1 a2->Sep w0 W (aF f q p S1 a2::R)->Calls Tryz.prog 100 #[pV f,iV (n:Nat),.agg #[iV 0,iV 0,iV 0,iV 0,.slice none 0 0]] W fun e w'=>e= .returned (.tuple #[])/\∃a',VC (S1.keep n VI0) a'/\Sep w0 w' (aF f q p (S1.keep n VI0) a'::R)):=Lh fun W a2 hC2 hS=>
  uV (x:=VI0) (v:=.slice none 0 0) hC2 ⟨by rw[hU.names];exact hF.names,by unfold VS.data;rw[hU.names,hU.nb];exact hF.room⟩ (by rw[hU.names];exact hn) aCA (by rw[hU.ino];exact hok) ⟨by rw[hU.wB];exact hW.b0,by rw[hU.wB];exact hW.b1,by rw[hU.wI];exact hW.i0,by rw[hU.wI];exact hW.i1⟩ (fun w' X _=>⟨rfl,none,0,rfl,iC _,by unfold maxLen;omega,fun h=>absurd h aR⟩) hS
 clear hC hF hn hok hsp hW hfit h hU;unfold fM at hin;go_enter Tryz.func122,Tryz.ntmps122;go_wp2_with(first |(go_at_call 72;refine hin.mono ?_;rintro e w9 ⟨v,a1,rfl,hR,h9⟩;obtain⟨A9,c9,e9⟩:=h9.dV 0 rfl;subst e9;have hs:=h9.bN 129 (aN (aH S.cur n) (.slice A9 (eB (aH S.cur n).aB).length c9));have FR:=hft.out _ _ _ _ hR.ok (Sep.dB [2,0,1] hs aR bK);clear hs h9 hR hin;unfold aN at*)|(go_at_call 99;refine FR.mono ?_;rintro e w8 ⟨rfl,a2,hC2,h8⟩;have sS:=hkp.out _ _ hC2 h8;clear hC2 h8 FR)|(go_at_call 100;refine sS.mono ?_;rintro e w7 ⟨rfl,h7⟩;replace h7:=Lh h7;clear sS))
 go_end0
 exact⟨rfl,h7.out⟩
end
end Go.Proofs.YtmjomdkleikgbaaGreat
