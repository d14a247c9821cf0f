/- Parts. -/
import Derived.Test.YteihmbaimbogaaaGreatJ11
set_option linter.unusedVariables false
set_option linter.unusedSimpArgs false
set_option maxRecDepth 100000
set_option maxHeartbeats 20000000
namespace Go.Proofs.YteihmbaimbogaaaGreat
open Go.RowKit
def JD (S:VS) (x:VI) (name:List UInt8):VS:=
 let L:=lS S.cur S.data x
 let i:=(lW L name).1.toNat
 let e:=vC L (x.size-1)
 (S.jA (x.aB.getD (i/16) 0) i e.1 e.2).jA (x.aB.getD ((x.size-1)/16) 0) (x.size-1) [] 0
def dH (S:VS) (dir:Nat) (name:List UInt8):VS:=
 let x:=aH S.cur dir
 let S2:=JD S x name
 match lD (S2.node (S2.nodes-1)) x.aB (max 1 ((x.size+14)/16))with
 |none=>S2
 |some (S4,l)=>S4.keep dir {x with size:=x.size-1,aB:=l}
theorem Laid.jA (S:VS) (s i:Nat) (name:List UInt8) (n:Nat):Laid S (S.jA s i name n) 1:=(Laid.refl S).put s _
theorem OH (S:VS) (x:VI) (name:List UInt8):Laid S (JD S x name) 2:=(Laid.jA S _ _ _ _).trans (Laid.jA _ _ _ _ _)
section
variable {w0 w:World} {R:List bK} {f q p:Nat} {S:VS} {a:VA}
theorem Z29 {P:Prop} (h:P:=by rintro w ⟨e1,e2,e3,e4,e5⟩;go_simp;try with_reducible rfl):P:=h
theorem an3 {dir:Nat} {name:List UInt8} (hC:VC S a) (hF:VF S) (abB:dir<S.names) (hD:KI S (aH S.cur dir)) (hW:gM S) (hnd: -1000000<=S.nodes/\S.nodes<=1000000) (hname:name.length<=15)
  (asD:∃i:Nat,i<(aH S.cur dir).size/\(lW (lS S.cur S.data (aH S.cur dir)) name).1=i) (hlast:(vC (lS S.cur S.data (aH S.cur dir)) ((aH S.cur dir).size-1)).1.length<=15) (hroom:(aH S.cur dir).aB.length=max 1 (((aH S.cur dir).size+15)/16)) (h:Sep w0 w (aF f q p S a::R)):
  Calls Tryz.prog 100 #[pV f,iV dir,aC name] w fun e w'=>e= .returned (.tuple #[])/\∃a',VC (dH S dir name) a'/\Sep w0 w' (aF f q p (dH S dir name) a'::R):=by
 have hok:=hD.few;have hin:=jM hC hF abB hok h;obtain⟨x,hx⟩:∃x,x=aH S.cur dir:=⟨_,rfl⟩;have hxo:x.ok:=by rw[hx];exact MW (by have:=hok;unfold aH at this;exact this)
 rw[<-hx]at hin hok hD asD hlast hroom;obtain⟨i,hi,hfi⟩:=asD;obtain⟨L,hL⟩:∃L,L=lS S.cur S.data x:=⟨_,rfl⟩;have IM:Hid (∀W u bx a1,VC S a1->Sep w0 W (aF f q p S a1:: .box bx 118 (aO x u)::bA u (fB x.aB)::R)->Calls Tryz.prog 117 #[pV f,gK x u,aC name] W fun e w'=>e= .returned (.tuple #[iV i,iV ((lW L name).2:Nat)])/\∃a',VC S a'/\Sep w0 w' (aF f q p S a':: .box bx 118 (aO x u)::bA u (fB x.aB)::R)):=Lh fun W u bx a1 lU hS=>by refine(aeN (name:=name) lU hF (kL 1 rfl) hD hS).mono ?_;rintro e w' ⟨rfl,a',hR,h9⟩;exact⟨by rw[hfi,hL],a',hR.ok,h9⟩
 rw[<-hL]at hfi hlast;obtain⟨k,hk⟩:∃k,k=x.size-1:=⟨_,rfl⟩;have hks:x.size=k+1:=by omega
 have hk5:k<448:=by have:=hD.room;omega
 obtain⟨E,hE⟩:∃E,E=vC L k:=⟨_,rfl⟩;have hen:Hid (∀W u bx a1,VC S a1->Sep w0 W (aF f q p S a1:: .box bx 118 (aO x u)::bA u (fB x.aB)::R)->Calls Tryz.prog 69 #[pV f,gK x u,iV k] W fun e w'=>e= .returned (.tuple #[aC E.1,iV (E.2:Nat)])/\∃a',VC S a'/\Sep w0 w' (aF f q p S a':: .box bx 118 (aO x u)::bA u (fB x.aB)::R)):=Lh fun W u bx a1 lU hS=>by refine(MV (i:=k) lU hF (kL 1 rfl) hD aD hS).mono ?_;rintro e w' ⟨rfl,a',hR,h9⟩;exact⟨by rw[hE,hL,FV aD],a',hR.ok,h9⟩
 have hE2:E.2<=65535:=by rw[hE,hL,FV aD];have:=YU (iL S.cur S.data x k) 16;unfold enI;omega
 have hE1:E.1.length<=15:=by rw[hE,hk];exact hlast
 obtain⟨s1,aGP,aGQ,aGR⟩:=hD.spot hi;obtain⟨s2,aGS,aGT,aGU⟩:=hD.spot (i:=k) aD;obtain⟨S1,hS1⟩:∃S1,S1=S.jA s1 i E.1 E.2:=⟨_,rfl⟩;obtain⟨S2,hS2⟩:∃S2,S2=S1.jA s2 k [] 0:=⟨_,rfl⟩;have hl1:Laid S S1 1:=by rw[hS1];exact Laid.jA _ _ _ _ _
 have hl2:Laid S S2 2:=by rw[hS2];exact hl1.trans (Laid.jA _ _ _ _ _)
 have aGV:Hid (∀W u bx a1,VC S a1->Sep w0 W (aF f q p S a1:: .box bx 118 (aO x u)::bA u (fB x.aB)::R)->Calls Tryz.prog 151 #[pV f,gK x u,iV i,aC E.1,iV (E.2:Nat)] W fun e w'=>e= .returned (.tuple #[])/\∃a',VC S1 a'/\Sep w0 w' (aF f q p S1 a':: .box bx 118 (aO x u)::bA u (fB x.aB)::R)):=Lh fun W u bx a1 lU hS=>by rw[hS1];exact aa8 lU hF (kL 1 rfl) aGP aGQ hok hE1 hE2 hS
 have an4:Hid (∀W u bx a1,VC S1 a1->Sep w0 W (aF f q p S1 a1:: .box bx 118 (aO x u)::bA u (fB x.aB)::R)->Calls Tryz.prog 151 #[pV f,gK x u,iV k,.string ⟨#[]⟩,iV 0] W fun e w'=>e= .returned (.tuple #[])/\∃a',VC S2 a'/\Sep w0 w' (aF f q p S2 a':: .box bx 118 (aO x u)::bA u (fB x.aB)::R)):=Lh fun W u bx a1 lU hS=>by rw[hS2];exact aa8 (name:=[]) (n:=0) lU (hl1.like.vf hF) (kL 1 rfl) aGS (by rw[hl1.like.count];exact aGT) hok aQ aQ hS
 obtain⟨S3,dJ⟩:∃S3,S3=S2.node (S2.nodes-1):=⟨_,rfl⟩;have hL3:gI S S3:=by rw[dJ];exact hl2.like.trans ⟨rfl,rfl,rfl,rfl,rfl⟩
 have RO:Hid (∀W a1 R',Sep w0 W (aF f q p S2 a1::R')->(W.cell? ⟨f,6,none⟩=some (iV S.nodes)/\W.frozen? ⟨f,6,none⟩=false)/\Sep w0 (W.setCell ⟨f,6,none⟩ (.int .i64 (S.nodes-1))) (aF f q p S3 a1::R')):=Lh fun W a1 R' hS=>⟨⟨by rw[<-hl2.nodes];exact hS.gL.c6,hS.RN 6⟩,by rw[dJ,<-hl2.nodes];exact hS.aeR _⟩
 obtain⟨m,hm⟩:∃m,m=(k+15)/16:=⟨_,rfl⟩;have hpt:=fun w=>zM (n:=k) (by':=16) aD aD aD w
 rw[show k+16-1=k+15 by omega,<-hm]at hpt;have hmm:max 1 m<=x.aB.length:=by rw[hroom,hks,hm];omega
 obtain⟨S4,hfp⟩:=MX (S:=S3) hmm;have hU:=kF hfp;have hk1:=tL hfp;have hlt:=aa9 hfp (fun s hs=>by rw[hL3.count];exact hD.lt s hs);obtain⟨l,hl⟩:∃l,l=x.aB.take (max 1 m):=⟨_,rfl⟩;rw[<-hl]at hfp hU hlt;obtain⟨y,hy⟩:∃y:VI,y= {x with size:=k,aB:=l}:=⟨_,rfl⟩;have hyo:y.ok:=by rw[hy];exact⟨hxo.kind,hxo.mode,hxo.links,by show k<65536;omega,by show l.length<=28;rw[hU.2];omega,fun s hs=>by have h2:=hlt s hs;have h3:=hC.pI.few;rw[hL3.count]at h2;unfold VS.count at h2;omega⟩
 have hi0:aH S4.cur dir=x:=by rw[hU.1.ino,dJ];exact(hl2.ino abB).trans hx.symm
 have hres:dH S dir name=S4.keep dir y:=by unfold dH;(have e2:JD S x name=S2:=by unfold JD;rw[hS2,hS1,hE,hk];simp only[<-hL,hfi,nA];rw[<-hk,aGR,aGU]);rw[<-hx];simp only[e2,<-dJ];rw[show max 1 ((x.size+14)/16)=max 1 m by rw[hm,hks],hfp,hy,hk]
 rw[hres];have hF4:VF S4:=(hL3.trans hk1).vf hF;have hn4:S4.names=S.names:=(hL3.trans hk1).names;have hW4:gM S4:=hU.1.small (by rw[dJ];exact⟨by show _<=S2.wB;rw[hl2.wB];exact hW.b0,by show S2.wB<=_;rw[hl2.wB];exact hW.b1,by show _<=S2.wI;rw[hl2.wI];exact hW.i0,by show S2.wI<=_;rw[hl2.wI];exact hW.i1⟩);have hft:Hid (∀W bx u a1,VC S2 a1->Sep w0 W (aF f q p S3 a1:: .box bx 118 (aO {x with size:=k} u)::bA u (fB x.aB)::R)->
   Calls Tryz.prog 89 #[pV f,pV bx,iV (max 1 m:Nat)] W fun e w'=>e= .returned (.tuple #[])/\∃a1 A c,VC S4 a1/\Sep w0 w' (aF f q p S4 a1:: .box bx 118 (aO y (.slice A l.length c))::bA (.slice A l.length c) (fB l)::R)):=Lh fun W bx u a1 lU hS=>by
  refine(BK (x:= {x with size:=k}) (n:=max 1 m) (by rw[dJ];exact lU.node _) (hL3.vf hF) hok aD (fun s hs=>by rw[hL3.count];exact hD.lt s hs) hS).mono ?_;intro e w' ho;unfold rO at ho;have mO:lD S3 ({x with size:=k}:VI).aB (max 1 m)=some (S4,l):=hfp;rw[mO]at ho;obtain⟨rfl,a2,v2,_,h2,h3⟩:=ho;obtain⟨A,c,e⟩:=h3.eF 2 rfl;(have hll:(fB l).length=l.length:=by unfold fB;rw[kV]);rw[hll]at e;subst e;rw[hy];exact⟨rfl,a2,A,c,h2,h3⟩
 have hkp:Hid (∀W bx u a2,VC S4 a2->Sep w0 W (aF f q p S4 a2:: .box bx 118 (aO y u)::bA u (fB l)::R)->
   Calls Tryz.prog 90 #[pV f,iV dir,gK y u] W fun e w'=>e= .returned (.tuple #[])/\∃a',VC (S4.keep dir y) a'/\Sep w0 w' (aF f q p (S4.keep dir y) a':: .box bx 118 (aO y u)::bA u (fB l)::R)):=Lh fun W bx u a2 lU hS=>
  wP lU hF4 (by rw[hn4];exact abB) hyo (by rw[hi0];exact hok) hW4 (kL 1 (by rw[hy];rfl)) hS
 have hll:l.length=max 1 m:=hU.2;have hyv:Hid (∀u,gK y u= .agg #[iV (x.kind:Nat),iV (x.mode:Nat),iV (x.links:Nat),iV (k:Nat),u]):=Lh fun u=>by rw[hy];rfl
 have hyc:Hid (∀W As bx u,As[1]? =some (.box bx 118 (aO y u))->Sep w0 W As->W.cell? ⟨bx,0,none⟩=some (iV (x.kind:Nat))/\W.cell? ⟨bx,1,none⟩=some (iV (x.mode:Nat))/\W.cell? ⟨bx,2,none⟩=some (iV (x.links:Nat))/\W.cell? ⟨bx,3,none⟩=some (iV (k:Nat))/\W.cell? ⟨bx,4,none⟩=some u):=Lh fun W As bx u hi hS=>by have:=hS.dR 1 hi;rw[hy]at this;exact this
 obtain⟨nd,hnd'⟩:∃nd,nd=S.nodes:=⟨_,rfl⟩;rw[<-hnd']at hnd RO;have n1:=hnd.1;have n2:=hnd.2;have x1:(k:Int)<448:=by omega
 have x0:(0:Int)<=k:=by omega
 have hz:(x.size:Int)=(k:Int)+1:=by omega
 have hmi:(if(1:Int)<(m:Int)then(m:Int)else 1)=((max 1 m:Nat):Int):=by split<;>omega
 obtain⟨M,hM⟩:∃M,M=max 1 m:=⟨_,rfl⟩;rw[hll]at hft;rw[<-hM]at hft hmi;have aVA:(M:Int)<=28:=by omega
 have an5:Hid (∀u,gK x u= .agg #[iV (x.kind:Nat),iV (x.mode:Nat),iV (x.links:Nat),iV ((k:Int)+1),u]/\aO x u=#[iV (x.kind:Nat),iV (x.mode:Nat),iV (x.links:Nat),iV ((k:Int)+1),u]):=Lh fun u=>by unfold gK aO;rw[hz];exact⟨rfl,rfl⟩
 have hxc:Hid (∀W As bx u,As[1]? =some (.box bx 118 (aO x u))->Sep w0 W As->W.cell? ⟨bx,0,none⟩=some (iV (x.kind:Nat))/\W.cell? ⟨bx,1,none⟩=some (iV (x.mode:Nat))/\W.cell? ⟨bx,2,none⟩=some (iV (x.links:Nat))/\W.cell? ⟨bx,3,none⟩=some (iV ((k:Int)+1))/\W.cell? ⟨bx,4,none⟩=some u):=Lh fun W As bx u hi hS=>by rw[<-hz];exact hS.dR 1 hi
 have hin':Calls Tryz.prog 64 #[pV f,iV dir] w fun e w'=>∃A c a1,e= .returned (.agg #[iV (x.kind:Nat),iV (x.mode:Nat),iV (x.links:Nat),iV ((k:Int)+1),.slice A x.aB.length c])/\VC S a1/\Sep w0 (w'.alloc (.cells #[iV (x.kind:Nat),iV (x.mode:Nat),iV (x.links:Nat),iV ((k:Int)+1),.slice A x.aB.length c] 118)) (aF f q p S a1:: .box w'.heap.size 118 (aO x (.slice A x.aB.length c))::bA (.slice A x.aB.length c) (fB x.aB)::R):=by refine hin.mono ?_;rintro e w' ⟨v,a1,rfl,hR,h9⟩;obtain⟨A,c,e9⟩:=h9.eF 0 rfl;(have hll:(fB x.aB).length=x.aB.length:=by unfold fB;rw[kV]);rw[hll]at e9;subst e9;refine⟨A,c,a1,by rw[(an5.out _).1],hR.ok,?_⟩;rw[<-(an5.out _).2];exact Sep.dE [2,0,1] (h9.bN 118 (aO x (.slice A x.aB.length c))) aQ bM
 have hfin:Hid (∀W bx u a1,VC S2 a1->Sep w0 W (aF f q p S2 a1:: .box bx 118 (aO x u)::bA u (fB x.aB)::R)->W.frozen? ⟨bx,3,none⟩=false/\((W.setCell ⟨bx,3,none⟩ (.int .i64 k)).cell? ⟨f,6,none⟩=some (iV nd)/\(W.setCell ⟨bx,3,none⟩ (.int .i64 k)).frozen? ⟨f,6,none⟩=false)/\
   (∀W',W'=((W.setCell ⟨bx,3,none⟩ (.int .i64 k)).setCell ⟨f,6,none⟩ (.int .i64 (nd-1))).drew->W'.cell? ⟨bx,3,none⟩=some (iV k)/\Calls Tryz.prog 89 #[pV f,pV bx,iV (M:Nat)] W' fun e w'=>e= .returned (.tuple #[])/\∃a1 A c,VC S4 a1/\Sep w0 w' (aF f q p S4 a1:: .box bx 118 (aO y (.slice A M c))::bA (.slice A M c) (fB l)::R))):=Lh fun W bx u a1 lU hS=>by
  have h1:=hS.bS 1 rfl 3 (.int .i64 (k:Nat));have h2:Sep w0 (W.setCell ⟨bx,3,none⟩ (.int .i64 k)) (aF f q p S2 a1:: .box bx 118 (aO {x with size:=k} u)::bA u (fB x.aB)::R):=h1;obtain⟨h3,h4⟩:=RO.out _ _ _ h2;refine⟨hS.bF 1 rfl 3,h3,?_⟩;rintro W' rfl;exact⟨h4.drew.bC 1 rfl 3,hft.out _ _ _ _ lU h4.drew⟩
 clear hC hF abB hD hW hnd hname hroom h hin hx hxo hok hi hfi hL hk hks hk5 hE hE2 hE1 aGP aGQ aGR aGS aGT aGU hS1 hS2 hl1 hl2 dJ hL3 RO hm hmm hfp hU hk1 hlt hl hyo hi0 hres hF4 hn4 hW4 hft hnd' hlast hll hM hz hy;unfold aC at*;go_enter Tryz.func100,Tryz.ntmps100;go_wp2_with(first |(go_at_call 64;refine hin'.mono ?_;rintro e w9 ⟨A9,c9,a1,rfl,lU,h9⟩;(obtain⟨d0,d1,d2,d3,d4⟩:=hxc.out _ _ _ _ rfl h9);(have hc:=IM.out _ _ _ _ lU h9);rw[(an5.out _).1]at hc;clear lU h9 hin' IM)|(go_at_call 117;refine hc.mono ?_;rintro e w8 ⟨rfl,a2,hC2,h8⟩;clear d0 d1 d2 d3 d4 hc;(obtain⟨d0,d1,d2,d3,d4⟩:=hxc.out _ _ _ _ rfl h8);(have hc:=hen.out _ _ _ _ hC2 h8);rw[(an5.out _).1]at hc;clear hC2 h8 hen)|(go_at_call 69;refine hc.mono ?_;rintro e w7 ⟨rfl,a3,WI,h7⟩;clear d0 d1 d2 d3 d4 hc;(obtain⟨d0,d1,d2,d3,d4⟩:=hxc.out _ _ _ _ rfl h7);(have hc:=aGV.out _ _ _ _ WI h7);rw[(an5.out _).1]at hc;clear WI h7 aGV)|(go_at_call 151;refine hc.mono ?_;rintro e w6 ⟨rfl,a4,WH,h6⟩;clear d0 d1 d2 d3 d4 hc;(obtain⟨d0,d1,d2,d3,d4⟩:=hxc.out _ _ _ _ rfl h6);(have hc2:=an4.out _ _ _ _ WH h6);rw[(an5.out _).1]at hc2;clear WH h6 an4)|(go_at_call 151;refine hc2.mono ?_;rintro e w5 ⟨rfl,a5,J8,h5⟩;clear d0 d1 d2 d3 d4 hc2;(obtain⟨d0,d1,d2,d3,d4⟩:=hxc.out _ _ _ _ rfl h5);(obtain⟨f3,⟨k6,f6⟩,hnx⟩:=hfin.out _ _ _ _ J8 h5);replace hnx:=Lh hnx;clear J8 h5 hfin));obtain⟨k3,hc⟩:=hnx.out _ rfl;clear hnx d0 d1 d2 d3 d4 k6 f6 f3;refine xS (S:=fun w'=>w'.cell? ⟨w9.heap.size,3,none⟩=some (iV (k:Nat))) 8 fZ ?_;simp only[mK,nV,kW,Nat.reduceAdd];refine yS (i:=0) (v:=?_) k3 rfl ?_ ?_;rotate_left
 ·rintro w e1;go_simp;try with_reducible rfl
 simp only[Act.put,gD];refine yS (i:=1) (v:=?_) k3 rfl ?_ ?_;rotate_left
 ·rintro w e1;go_simp;try with_reducible rfl
 simp only[Act.put,gD];refine yS (i:=2) (v:=?_) k3 rfl ?_ ?_;rotate_left
 ·rintro w e1;go_simp;try with_reducible rfl
 simp only[Act.put,gD];refine yS (i:=3) (v:=?_) k3 rfl ?_ ?_;rotate_left
 ·rintro w e1;go_simp;try with_reducible rfl
 simp only[Act.put,gD];refine yS (i:=4) (v:=?_) k3 rfl ?_ ?_;rotate_left
 ·rintro w e1;go_simp;try with_reducible rfl
 simp only[Act.put,gD];refine F3 (i:=5) fZ rfl (fun K hK=>?_);go_simp;go_at_call 85;refine(hpt _).mono ?_;rintro e w4 ⟨rfl,h4⟩;obtain rfl:=h4.symm;dsimp only;refine hK _ _ (fun _=>k3) ?_;clear hK K;try simp only[Act.put,gD]
 refine F3 (i:=6) fZ rfl (fun K hK=>?_);go_simp;refine hK _ _ (fun _=>k3) ?_;clear hK K;try simp only[Act.put,gD]
 refine F3 (i:=7) fZ rfl (fun K hK=>?_);go_simp;try simp only[hmi]
 go_at_call 89;refine hc.mono ?_;rintro e w3 ⟨rfl,a6,A6,c6,OI,h3⟩;have k4:=hyc.out _ _ _ _ rfl h3;have k5:w3.cell? ⟨w9.heap.size,3,none⟩=some (iV (k:Nat)):=k4.2.2.2.1;have uT:=hkp.out _ _ _ _ OI h3.drew;rw[hyv.out]at uT;clear OI hkp k3 hc h3;dsimp only;refine hK _ _ (fun _=>k5) ?_;clear hK K;try simp only[Act.put,gD]
 refine aR fZ ?_ _;clear k5;go_wp2_with fail;refine xS (S:=fun w'=>w'.cell? ⟨w9.heap.size,0,none⟩=some (iV (x.kind:Nat))/\w'.cell? ⟨w9.heap.size,1,none⟩=some (iV (x.mode:Nat))/\w'.cell? ⟨w9.heap.size,2,none⟩=some (iV (x.links:Nat))/\w'.cell? ⟨w9.heap.size,3,none⟩=some (iV (k:Nat))/\w'.cell? ⟨w9.heap.size,4,none⟩=some (.slice A6 M c6)) 6 fZ ?_;simp only[mK,nV,kW,Nat.reduceAdd];have k4':=show w3.drew.cell? ⟨w9.heap.size,0,none⟩=some (iV (x.kind:Nat))/\w3.drew.cell? ⟨w9.heap.size,1,none⟩=some (iV (x.mode:Nat))/\w3.drew.cell? ⟨w9.heap.size,2,none⟩=some (iV (x.links:Nat))/\w3.drew.cell? ⟨w9.heap.size,3,none⟩=some (iV (k:Nat))/\w3.drew.cell? ⟨w9.heap.size,4,none⟩=some (.slice A6 M c6)from k4
 refine yS (i:=0) (v:=?_) k4' rfl ?_ ?_;rotate_left
 ·exact Z29
 simp only[Act.put,gD];refine yS (i:=1) (v:=?_) k4' rfl ?_ ?_;rotate_left
 ·exact Z29
 simp only[Act.put,gD];refine yS (i:=2) (v:=?_) k4' rfl ?_ ?_;rotate_left
 ·exact Z29
 simp only[Act.put,gD];refine yS (i:=3) (v:=?_) k4' rfl ?_ ?_;rotate_left
 ·exact Z29
 simp only[Act.put,gD];refine yS (i:=4) (v:=?_) k4' rfl ?_ ?_;rotate_left
 ·exact Z29
 simp only[Act.put,gD];refine F3 (i:=5) fZ rfl (fun K hK=>?_);go_simp;go_at_call 90;refine uT.mono ?_;rintro e w2 ⟨rfl,a7,PT,h2⟩;have k6':=hyc.out _ _ _ _ rfl h2;have h8:Sep w0 w2 (.box w9.heap.size 118 (aO y (.slice A6 M c6))::bA (.slice A6 M c6) (fB l)::aF f q p (S4.keep dir y) a7::R):=Sep.dE [1,2,0] h2 aQ bM;have h9:=Lh (And.intro PT (h8.drop 2));clear h8 h2 PT uT;dsimp only;refine hK _ _ (fun _=>k6') ?_;clear hK K;try simp only[Act.put,gD]
 refine aR fZ ?_ _;go_wp2_with fail
 go_end0
 exact⟨rfl,a7,h9.out.1,h9.out.2⟩
end
def KL (f q p:Nat) (S:VS) (a:VA) (M:bK):List bK:=[l7 f q S a.sb (.map (some a.fb)) false,aG q p false,aN p S.D,fH a.sb a.SM,M]
def ED (f q p:Nat) (S:VS) (a:VA) (M:bK):bK:=.dZ (KL f q p S a M)
section
variable {w0 w:World} {R:List bK} {f q p:Nat} {S:VS} {a:VA}
theorem asE {i:Nat} {M:bK} {v:Value} {bs:List UInt8} (hC:VC S a) (hi:i<S.nb-96) (hf:dV a.SM i=some (v,bs)) (h:Sep w0 w (ED f q p S a M::R)):
  Calls Tryz.prog 136 #[pV f,iV i] w fun e w'=>e= .returned v/\w'=w:=by
 exact Z14
theorem an6 {i b:Nat} {M:bK} (hC:VC S a) (hi:i<S.nb-96) (hf:dV a.SM i=none) (hb:a.sb=some b) (h:Sep w0 w (ED f q p S a M::R)):
  Calls Tryz.prog 136 #[pV f,iV i] w fun e w'=>∃v,e= .returned v/\Sep w0 w' (ED f q p S (a.read b i v (bk S.D.now (96+i))) M::R):=by
 have h1:=h.bE;unfold KL at h1;rw[hb]at h1;have hnd:=h1.RP (b:=b) (M:=a.SM) 3 rfl;have hlen:=hC.short hnd;have hi2:i<=100000:=by have:=hC.pI.few;omega
 have hl:=h1.abC (b:=b) (M:=a.SM) 3 rfl i hi2;rw[hf]at hl;simp only[aeE,aeB,al9]at hl;have c1:=h1.bC 0 rfl 1;have c0:=h1.bC 0 rfl 0;simp only[gA,gB,gC]at c0 c1;have hrd:=xU (i:=i) (R:=l7 f q S (some b) (.map (some a.fb)) false::jJ b a.SM::M::R) hC.pI hC.big aD hC.on (Sep.dE [1,2,0] h1 aQ bM);have hend:∀W v,Sep w0 W (aL v (bk S.D.now (96+i))::aG q p false::aN p S.D::l7 f q S (some b) (.map (some a.fb)) false::jJ b a.SM::M::R)->
   W.cell? ⟨f,1,none⟩=some (.map (some b))/\∃st w1 w2,(Instr.mapEntry 98 (.map (some b)) (.int .i64 i)).run Tryz.prog W= .ok (.tuple #[.slice none 0 0,iV st]) w1/\(Instr.entryStore 98 (.map (some b)) (.int .i64 st) v).run Tryz.prog w1= .ok () w2/\Sep w0 w2 (ED f q p S (a.read b i v (bk S.D.now (96+i))) M::R):=fun W v hS=>by
  have k1:=hS.bC 3 rfl 1;simp only[gA,gB,gC]at k1;have h2:Sep w0 W (jJ b a.SM::aL v (bk S.D.now (96+i))::l7 f q S (some b) (.map (some a.fb)) false::aG q p false::aN p S.D::M::R):=Sep.dE [4,0,3,1,2] hS aQ bM;obtain⟨st,w1,w2,r1,r2,h3⟩:=h2.F4 hi2 aD hf;refine⟨k1,st,w1,w2,r1,r2,?_⟩;have h4:Sep w0 w2 (KL f q p S (a.read b i v (bk S.D.now (96+i))) M++R):=Sep.dE [1,2,3,0] h3 aQ bM;exact h4.dG
 exact Z24
theorem asF {i:Nat} {M:bK} (hC:VC S a) (hi:i<S.nb-96) (hb:a.sb=none) (h:Sep w0 w (ED f q p S a M::R)):
  Calls Tryz.prog 136 #[pV f,iV i] w fun e w'=>∃v b,e= .returned v/\Sep w0 w' (ED f q p S (a.read b i v (bk S.D.now (96+i))) M::R):=by
 have h1:=h.bE;unfold KL at h1;rw[hb]at h1;have hi2:i<=100000:=by have:=hC.pI.few;omega
 have hl:=KM i w;have c1:=h1.bC 0 rfl 1;have c0:=h1.bC 0 rfl 0;simp only[gA,gB,gC]at c0 c1;have hrd:=xU (i:=i) (R:=l7 f q S none (.map (some a.fb)) false::M::R) hC.pI hC.big aD hC.on ((Sep.dE [3,1,2,0] h1 aQ bM).drop 1);have hSM:=hC.none hb;have hend:∀W v,Sep w0 W (aL v (bk S.D.now (96+i))::aG q p false::aN p S.D::l7 f q S none (.map (some a.fb)) false::M::R)->
   W.cell? ⟨f,1,none⟩=some (.map none)/\(W.alloc (.map #[] 0)).frozen? ⟨f,1,none⟩=false/\(W.alloc (.map #[] 0)).cell? ⟨f,1,none⟩=some (.map none)/\
   ((W.alloc (.map #[] 0)).setCell ⟨f,1,none⟩ (.map (some W.heap.size))).cell? ⟨f,1,none⟩=some (.map (some W.heap.size))/\∃st w1 w2,(Instr.mapEntry 98 (.map (some W.heap.size)) (.int .i64 i)).run Tryz.prog ((W.alloc (.map #[] 0)).setCell ⟨f,1,none⟩ (.map (some W.heap.size)))= .ok (.tuple #[.slice none 0 0,iV st]) w1/\(Instr.entryStore 98 (.map (some W.heap.size)) (.int .i64 st) v).run Tryz.prog w1= .ok () w2/\Sep w0 w2 (ED f q p S (a.read W.heap.size i v (bk S.D.now (96+i))) M::R):=fun W v hS=>by
  have k1:=hS.bC 3 rfl 1;have h2:=hS.vK;have k2:=h2.bC 4 rfl 1;have k3:=h2.bF 4 rfl 1;have h3:=h2.bS 4 rfl 1 (.map (some W.heap.size));have k4:=h3.bC 4 rfl 1;simp only[gA,gB,gC]at k1 k2;refine⟨k1,k3,k2,?_,?_⟩
  ·rw[k4];rfl
  have h4:Sep w0 ((W.alloc (.map #[] 0)).setCell ⟨f,1,none⟩ (.map (some W.heap.size))) (jJ W.heap.size []::aL v (bk S.D.now (96+i))::l7 f q S (some W.heap.size) (.map (some a.fb)) false::aG q p false::aN p S.D::M::R):=Sep.dE [0,1,4,2,3] h3 aQ bM;obtain⟨st,w1,w2,r1,r2,h5⟩:=h4.F4 (k:=i) hi2 bM rfl;refine⟨st,w1,w2,r1,r2,?_⟩;(have h6:Sep w0 w2 (KL f q p S (a.read W.heap.size i v (bk S.D.now (96+i))) M++R):=by unfold KL VA.read;rw[hSM];exact Sep.dE [1,2,3,0] h5 aQ bM);exact h6.dG
 exact Z23
theorem asG {i:Nat} {M:bK} (hC:VC S a) (hi:i<S.nb-96) (h:Sep w0 w (ED f q p S a M::R)):
  Calls Tryz.prog 136 #[pV f,iV i] w fun e w'=>∃v a',e= .returned v/\Reads S a a'/\dV a'.SM i=some (v,bk S.D.now (96+i))/\Sep w0 w' (ED f q p S a' M::R):=by
 cases hf:dV a.SM i with
 |some x=>have hx:=hC.seen _ (nC hf);refine(asE hC hi (v:=x.1) (bs:=x.2) hf h).mono ?_;exact Z54
 |none=>
  have key:∀b v,Reads S a (a.read b i v (bk S.D.now (96+i)))/\dV (a.read b i v (bk S.D.now (96+i))).SM i=some (v,bk S.D.now (96+i)):=fun b v=>
   ⟨⟨hC.read b v hi,rfl,rfl,fun k x hx=>MZ hx⟩,M0 hf⟩
  cases hb:a.sb with
  |some b=>refine(an6 hC hi hf hb h).mono ?_;rintro e w' ⟨v,rfl,h9⟩;exact⟨v,_,rfl,(key b v).1,(key b v).2,h9⟩
  |none=>refine(asF hC hi hb h).mono ?_;rintro e w' ⟨v,b,rfl,h9⟩;exact⟨v,_,rfl,(key b v).1,(key b v).2,h9⟩
end
end Go.Proofs.YteihmbaimbogaaaGreat
