/- Parts. -/
import Derived.Test.YtmjomdkleikgbaaGreatK11
set_option linter.unusedVariables false
set_option linter.unusedSimpArgs false
set_option maxRecDepth 100000
set_option maxHeartbeats 20000000
namespace Go.Proofs.YtmjomdkleikgbaaGreat
open Go.RowKit
def FU (S:VS) (x:VI) (name:List UInt8):VS:=
 let L:=jX S.cur S.data x
 let i:=(kJ L name).1.toNat
 let e:=tC L (x.size-1)
 (S.iD (x.aB.getD (i/16) 0) i e.1 e.2).iD (x.aB.getD ((x.size-1)/16) 0) (x.size-1) [] 0
def cO (S:VS) (dir:Nat) (name:List UInt8):VS:=
 let x:=aH S.cur dir
 let S2:=FU S x name
 match jY (S2.node (S2.nodes-1)) x.aB (max 1 ((x.size+14)/16))with
 |none=>S2
 |some (S4,l)=>S4.keep dir {x with size:=x.size-1,aB:=l}
theorem Laid.iD (S:VS) (s i:Nat) (name:List UInt8) (n:Nat):Laid S (S.iD s i name n) 1:=(Laid.refl S).put s _
theorem MG (S:VS) (x:VI) (name:List UInt8):Laid S (FU S x name) 2:=(Laid.iD S _ _ _ _).trans (Laid.iD _ _ _ _ _)
section
variable {w0 w:World} {R:List aW} {f q p:Nat} {S:VS} {a:VA}
theorem al7 {dir:Nat} {name:List UInt8} (hC:VC S a) (hF:VF S) (ZA:dir<S.names) (hD:HY S (aH S.cur dir)) (hW:gK S) (hnd: -1000000<=S.nodes/\S.nodes<=1000000) (hname:name.length<=15)
  (ap7:∃i:Nat,i<(aH S.cur dir).size/\(kJ (jX S.cur S.data (aH S.cur dir)) name).1=i) (hlast:(tC (jX S.cur S.data (aH S.cur dir)) ((aH S.cur dir).size-1)).1.length<=15) (hroom:(aH S.cur dir).aB.length=max 1 (((aH S.cur dir).size+15)/16)) (h:Sep w0 w (aF f q p S a::R)):
  Calls Tryz.prog 120 #[pV f,iV dir,aC name] w fun e w'=>e= .returned (.tuple #[])/\∃a',VC (cO S dir name) a'/\Sep w0 w' (aF f q p (cO S dir name) a'::R):=by
 have hok:=hD.few;have hin:=jQ hC hF ZA hok h;obtain⟨x,hx⟩:∃x,x=aH S.cur dir:=⟨_,rfl⟩;have hxo:x.ok:=by rw[hx];exact KC (by have:=hok;unfold aH at this;exact this)
 rw[<-hx]at hin hok hD ap7 hlast hroom;obtain⟨i,hi,hfi⟩:=ap7;obtain⟨L,hL⟩:∃L,L=jX S.cur S.data x:=⟨_,rfl⟩;have hfd:Hid (∀W u bx a1,VC S a1->Sep w0 W (aF f q p S a1:: .box bx 129 (aN x u)::aS u (eB x.aB)::R)->Calls Tryz.prog 139 #[pV f,fM x u,aC name] W fun e w'=>e= .returned (.tuple #[iV i,iV ((kJ L name).2:Nat)])/\∃a',VC S a'/\Sep w0 w' (aF f q p S a':: .box bx 129 (aN x u)::aS u (eB x.aB)::R)):=Lh fun W u bx a1 kK hS=>by refine(acC (name:=name) kK hF (jF 1 rfl) hD hS).mono ?_;rintro e w' ⟨rfl,a',hR,h9⟩;exact⟨by rw[hfi,hL],a',hR.ok,h9⟩
 rw[<-hL]at hfi hlast;obtain⟨k,hk⟩:∃k,k=x.size-1:=⟨_,rfl⟩;have hks:x.size=k+1:=by omega
 have hk5:k<448:=by have:=hD.room;omega
 obtain⟨E,hE⟩:∃E,E=tC L k:=⟨_,rfl⟩;have hen:Hid (∀W u bx a1,VC S a1->Sep w0 W (aF f q p S a1:: .box bx 129 (aN x u)::aS u (eB x.aB)::R)->Calls Tryz.prog 108 #[pV f,fM x u,iV k] W fun e w'=>e= .returned (.tuple #[aC E.1,iV (E.2:Nat)])/\∃a',VC S a'/\Sep w0 w' (aF f q p S a':: .box bx 129 (aN x u)::aS u (eB x.aB)::R)):=Lh fun W u bx a1 kK hS=>by refine(KA (i:=k) kK hF (jF 1 rfl) hD aD hS).mono ?_;rintro e w' ⟨rfl,a',hR,h9⟩;exact⟨by rw[hE,hL,DF aD],a',hR.ok,h9⟩
 have hE2:E.2<=65535:=by rw[hE,hL,DF aD];have:=V9 (gT S.cur S.data x k) 16;unfold enI;omega
 have hE1:E.1.length<=15:=by rw[hE,hk];exact hlast
 obtain⟨s1,aDJ,aDK,aDL⟩:=hD.spot hi;obtain⟨s2,aDM,aDN,aDO⟩:=hD.spot (i:=k) aD;obtain⟨S1,hS1⟩:∃S1,S1=S.iD s1 i E.1 E.2:=⟨_,rfl⟩;obtain⟨S2,hS2⟩:∃S2,S2=S1.iD s2 k [] 0:=⟨_,rfl⟩;have hl1:Laid S S1 1:=by rw[hS1];exact Laid.iD _ _ _ _ _
 have hl2:Laid S S2 2:=by rw[hS2];exact hl1.trans (Laid.iD _ _ _ _ _)
 have aDP:Hid (∀W u bx a1,VC S a1->Sep w0 W (aF f q p S a1:: .box bx 129 (aN x u)::aS u (eB x.aB)::R)->Calls Tryz.prog 179 #[pV f,fM x u,iV i,aC E.1,iV (E.2:Nat)] W fun e w'=>e= .returned (.tuple #[])/\∃a',VC S1 a'/\Sep w0 w' (aF f q p S1 a':: .box bx 129 (aN x u)::aS u (eB x.aB)::R)):=Lh fun W u bx a1 kK hS=>by rw[hS1];exact Y7 kK hF (jF 1 rfl) aDJ aDK hok hE1 hE2 hS
 have al8:Hid (∀W u bx a1,VC S1 a1->Sep w0 W (aF f q p S1 a1:: .box bx 129 (aN x u)::aS u (eB x.aB)::R)->Calls Tryz.prog 179 #[pV f,fM x u,iV k,.string ⟨#[]⟩,iV 0] W fun e w'=>e= .returned (.tuple #[])/\∃a',VC S2 a'/\Sep w0 w' (aF f q p S2 a':: .box bx 129 (aN x u)::aS u (eB x.aB)::R)):=Lh fun W u bx a1 kK hS=>by rw[hS2];exact Y7 (name:=[]) (n:=0) kK (hl1.like.vf hF) (jF 1 rfl) aDM (by rw[hl1.like.count];exact aDN) hok aR aR hS
 obtain⟨S3,dQ⟩:∃S3,S3=S2.node (S2.nodes-1):=⟨_,rfl⟩;have hL3:fC S S3:=by rw[dQ];exact hl2.like.trans ⟨rfl,rfl,rfl,rfl,rfl⟩
 have PL:Hid (∀W a1 R',Sep w0 W (aF f q p S2 a1::R')->(W.cell? ⟨f,6,none⟩=some (iV S.nodes)/\W.frozen? ⟨f,6,none⟩=false)/\Sep w0 (W.setCell ⟨f,6,none⟩ (.int .i64 (S.nodes-1))) (aF f q p S3 a1::R')):=Lh fun W a1 R' hS=>⟨⟨by rw[<-hl2.nodes];exact hS.fO.c6,hS.PK 6⟩,by rw[dQ,<-hl2.nodes];exact hS.acF _⟩
 obtain⟨m,hm⟩:∃m,m=(k+15)/16:=⟨_,rfl⟩;have hpt:=fun w=>xP (n:=k) (by':=16) aD aD aD w
 rw[show k+16-1=k+15 by omega,<-hm]at hpt;have hmm:max 1 m<=x.aB.length:=by rw[hroom,hks,hm];omega
 obtain⟨S4,hfp⟩:=KD (S:=S3) hmm;have hU:=jR hfp;have hk1:=qY hfp;have hlt:=Y8 hfp (fun s hs=>by rw[hL3.count];exact hD.lt s hs);obtain⟨l,hl⟩:∃l,l=x.aB.take (max 1 m):=⟨_,rfl⟩;rw[<-hl]at hfp hU hlt;obtain⟨y,hy⟩:∃y:VI,y= {x with size:=k,aB:=l}:=⟨_,rfl⟩;have hyo:y.ok:=by rw[hy];exact⟨hxo.kind,hxo.mode,hxo.links,by show k<65536;omega,by show l.length<=28;rw[hU.2];omega,fun s hs=>by have h2:=hlt s hs;have h3:=hC.nV.few;rw[hL3.count]at h2;unfold VS.count at h2;omega⟩
 have hi0:aH S4.cur dir=x:=by rw[hU.1.ino,dQ];exact(hl2.ino ZA).trans hx.symm
 have hres:cO S dir name=S4.keep dir y:=by unfold cO;(have e2:FU S x name=S2:=by unfold FU;rw[hS2,hS1,hE,hk];simp only[<-hL,hfi,nA];rw[<-hk,aDL,aDO]);rw[<-hx];simp only[e2,<-dQ];rw[show max 1 ((x.size+14)/16)=max 1 m by rw[hm,hks],hfp,hy,hk]
 rw[hres];have hF4:VF S4:=(hL3.trans hk1).vf hF;have hn4:S4.names=S.names:=(hL3.trans hk1).names;have hW4:gK S4:=hU.1.small (by rw[dQ];exact⟨by show _<=S2.wB;rw[hl2.wB];exact hW.b0,by show S2.wB<=_;rw[hl2.wB];exact hW.b1,by show _<=S2.wI;rw[hl2.wI];exact hW.i0,by show S2.wI<=_;rw[hl2.wI];exact hW.i1⟩);have hft:Hid (∀W bx u a1,VC S2 a1->Sep w0 W (aF f q p S3 a1:: .box bx 129 (aN {x with size:=k} u)::aS u (eB x.aB)::R)->
   Calls Tryz.prog 99 #[pV f,pV bx,iV (max 1 m:Nat)] W fun e w'=>e= .returned (.tuple #[])/\∃a1 A c,VC S4 a1/\Sep w0 w' (aF f q p S4 a1:: .box bx 129 (aN y (.slice A l.length c))::aS (.slice A l.length c) (eB l)::R)):=Lh fun W bx u a1 kK hS=>by
  refine(yS (x:= {x with size:=k}) (n:=max 1 m) (by rw[dQ];exact kK.node _) (hL3.vf hF) hok aD (fun s hs=>by rw[hL3.count];exact hD.lt s hs) hS).mono ?_;intro e w' ho;unfold pW at ho;have EN:jY S3 ({x with size:=k}:VI).aB (max 1 m)=some (S4,l):=hfp;rw[EN]at ho;obtain⟨rfl,a2,v2,_,h2,h3⟩:=ho;obtain⟨A,c,e⟩:=h3.dV 2 rfl;(have hll:(eB l).length=l.length:=by unfold eB;rw[iJ]);rw[hll]at e;subst e;rw[hy];exact⟨rfl,a2,A,c,h2,h3⟩
 have hkp:Hid (∀W bx u a2,VC S4 a2->Sep w0 W (aF f q p S4 a2:: .box bx 129 (aN y u)::aS u (eB l)::R)->
   Calls Tryz.prog 100 #[pV f,iV dir,fM y u] W fun e w'=>e= .returned (.tuple #[])/\∃a',VC (S4.keep dir y) a'/\Sep w0 w' (aF f q p (S4.keep dir y) a':: .box bx 129 (aN y u)::aS u (eB l)::R)):=Lh fun W bx u a2 kK hS=>
  uV kK hF4 (by rw[hn4];exact ZA) hyo (by rw[hi0];exact hok) hW4 (jF 1 (by rw[hy];rfl)) hS
 have hll:l.length=max 1 m:=hU.2;have hyv:Hid (∀u,fM y u= .agg #[iV (x.kind:Nat),iV (x.mode:Nat),iV (x.links:Nat),iV (k:Nat),u]):=Lh fun u=>by rw[hy];rfl
 have hyc:Hid (∀W As bx u,As[1]? =some (.box bx 129 (aN y u))->Sep w0 W As->W.cell? ⟨bx,0,none⟩=some (iV (x.kind:Nat))/\W.cell? ⟨bx,1,none⟩=some (iV (x.mode:Nat))/\W.cell? ⟨bx,2,none⟩=some (iV (x.links:Nat))/\W.cell? ⟨bx,3,none⟩=some (iV (k:Nat))/\W.cell? ⟨bx,4,none⟩=some u):=Lh fun W As bx u hi hS=>by have:=hS.dL 1 hi;rw[hy]at this;exact this
 obtain⟨nd,hnd'⟩:∃nd,nd=S.nodes:=⟨_,rfl⟩;rw[<-hnd']at hnd PL;have n1:=hnd.1;have n2:=hnd.2;have x1:(k:Int)<448:=by omega
 have x0:(0:Int)<=k:=by omega
 have hz:(x.size:Int)=(k:Int)+1:=by omega
 have hmi:(if(1:Int)<(m:Int)then(m:Int)else 1)=((max 1 m:Nat):Int):=by split<;>omega
 obtain⟨M,hM⟩:∃M,M=max 1 m:=⟨_,rfl⟩;rw[hll]at hft;rw[<-hM]at hft hmi;have aP4:(M:Int)<=28:=by omega
 have KE:Hid (∀u,fM x u= .agg #[iV (x.kind:Nat),iV (x.mode:Nat),iV (x.links:Nat),iV ((k:Int)+1),u]/\aN x u=#[iV (x.kind:Nat),iV (x.mode:Nat),iV (x.links:Nat),iV ((k:Int)+1),u]):=Lh fun u=>by unfold fM aN;rw[hz];exact⟨rfl,rfl⟩
 have hxc:Hid (∀W As bx u,As[1]? =some (.box bx 129 (aN x u))->Sep w0 W As->W.cell? ⟨bx,0,none⟩=some (iV (x.kind:Nat))/\W.cell? ⟨bx,1,none⟩=some (iV (x.mode:Nat))/\W.cell? ⟨bx,2,none⟩=some (iV (x.links:Nat))/\W.cell? ⟨bx,3,none⟩=some (iV ((k:Int)+1))/\W.cell? ⟨bx,4,none⟩=some u):=Lh fun W As bx u hi hS=>by rw[<-hz];exact hS.dL 1 hi
 have hin':Calls Tryz.prog 72 #[pV f,iV dir] w fun e w'=>∃A c a1,e= .returned (.agg #[iV (x.kind:Nat),iV (x.mode:Nat),iV (x.links:Nat),iV ((k:Int)+1),.slice A x.aB.length c])/\VC S a1/\Sep w0 (w'.alloc (.cells #[iV (x.kind:Nat),iV (x.mode:Nat),iV (x.links:Nat),iV ((k:Int)+1),.slice A x.aB.length c] 129)) (aF f q p S a1:: .box w'.heap.size 129 (aN x (.slice A x.aB.length c))::aS (.slice A x.aB.length c) (eB x.aB)::R):=by refine hin.mono ?_;rintro e w' ⟨v,a1,rfl,hR,h9⟩;obtain⟨A,c,e9⟩:=h9.dV 0 rfl;(have hll:(eB x.aB).length=x.aB.length:=by unfold eB;rw[iJ]);rw[hll]at e9;subst e9;refine⟨A,c,a1,by rw[(KE.out _).1],hR.ok,?_⟩;rw[<-(KE.out _).2];exact Sep.dB [2,0,1] (h9.bN 129 (aN x (.slice A x.aB.length c))) aR bK
 have hfin:Hid (∀W bx u a1,VC S2 a1->Sep w0 W (aF f q p S2 a1:: .box bx 129 (aN x u)::aS u (eB x.aB)::R)->W.frozen? ⟨bx,3,none⟩=false/\((W.setCell ⟨bx,3,none⟩ (.int .i64 k)).cell? ⟨f,6,none⟩=some (iV nd)/\(W.setCell ⟨bx,3,none⟩ (.int .i64 k)).frozen? ⟨f,6,none⟩=false)/\
   (∀W',W'=((W.setCell ⟨bx,3,none⟩ (.int .i64 k)).setCell ⟨f,6,none⟩ (.int .i64 (nd-1))).drew->W'.cell? ⟨bx,3,none⟩=some (iV k)/\Calls Tryz.prog 99 #[pV f,pV bx,iV (M:Nat)] W' fun e w'=>e= .returned (.tuple #[])/\∃a1 A c,VC S4 a1/\Sep w0 w' (aF f q p S4 a1:: .box bx 129 (aN y (.slice A M c))::aS (.slice A M c) (eB l)::R))):=Lh fun W bx u a1 kK hS=>by
  have h1:=hS.bS 1 rfl 3 (.int .i64 (k:Nat));have h2:Sep w0 (W.setCell ⟨bx,3,none⟩ (.int .i64 k)) (aF f q p S2 a1:: .box bx 129 (aN {x with size:=k} u)::aS u (eB x.aB)::R):=h1;obtain⟨h3,h4⟩:=PL.out _ _ _ h2;refine⟨hS.bF 1 rfl 3,h3,?_⟩;rintro W' rfl;exact⟨h4.drew.bC 1 rfl 3,hft.out _ _ _ _ kK h4.drew⟩
 clear hC hF ZA hD hW hnd hname hroom h hin hx hxo hok hi hfi hL hk hks hk5 hE hE2 hE1 aDJ aDK aDL aDM aDN aDO hS1 hS2 hl1 hl2 dQ hL3 PL hm hmm hfp hU hk1 hlt hl hyo hi0 hres hF4 hn4 hW4 hft hnd' hlast hll hM hz hy;unfold aC at*;go_enter Tryz.func120,Tryz.ntmps120;go_wp2_with(first |(go_at_call 72;refine hin'.mono ?_;rintro e w9 ⟨A9,c9,a1,rfl,kK,h9⟩;(obtain⟨d0,d1,d2,d3,d4⟩:=hxc.out _ _ _ _ rfl h9);(have hc:=hfd.out _ _ _ _ kK h9);rw[(KE.out _).1]at hc;clear kK h9 hin' hfd)|(go_at_call 139;refine hc.mono ?_;rintro e w8 ⟨rfl,a2,hC2,h8⟩;clear d0 d1 d2 d3 d4 hc;(obtain⟨d0,d1,d2,d3,d4⟩:=hxc.out _ _ _ _ rfl h8);(have hc:=hen.out _ _ _ _ hC2 h8);rw[(KE.out _).1]at hc;clear hC2 h8 hen)|(go_at_call 108;refine hc.mono ?_;rintro e w7 ⟨rfl,a3,ZB,h7⟩;clear d0 d1 d2 d3 d4 hc;(obtain⟨d0,d1,d2,d3,d4⟩:=hxc.out _ _ _ _ rfl h7);(have hc:=aDP.out _ _ _ _ ZB h7);rw[(KE.out _).1]at hc;clear ZB h7 aDP)|(go_at_call 179;refine hc.mono ?_;rintro e w6 ⟨rfl,a4,UG,h6⟩;clear d0 d1 d2 d3 d4 hc;(obtain⟨d0,d1,d2,d3,d4⟩:=hxc.out _ _ _ _ rfl h6);(have hc2:=al8.out _ _ _ _ UG h6);rw[(KE.out _).1]at hc2;clear UG h6 al8)|(go_at_call 179;refine hc2.mono ?_;rintro e w5 ⟨rfl,a5,hC5,h5⟩;clear d0 d1 d2 d3 d4 hc2;(obtain⟨d0,d1,d2,d3,d4⟩:=hxc.out _ _ _ _ rfl h5);(obtain⟨f3,⟨k6,f6⟩,hnx⟩:=hfin.out _ _ _ _ hC5 h5);replace hnx:=Lh hnx;clear hC5 h5 hfin));obtain⟨k3,hc⟩:=hnx.out _ rfl;clear hnx d0 d1 d2 d3 d4 k6 f6 f3;refine aP (S:=fun w'=>w'.cell? ⟨w9.heap.size,3,none⟩=some (iV (k:Nat))) 8 ?_;refine aA 0 k3 ?_;refine aA 1 k3 ?_;refine aA 2 k3 ?_;refine aA 3 k3 ?_;refine aA 4 k3 ?_;refine bI 5 fun K hK=>?_
 go_simp;go_at_call 95;refine(hpt _).mono ?_;rintro e w4 ⟨rfl,h4⟩;obtain rfl:=h4.symm;dsimp only;refine hK _ _ (fun _=>k3) ?_;clear hK K;try simp only[Act.put,gD]
 refine bA 6 (fun _=>k3) ?_;refine bI 7 fun K hK=>?_
 go_simp;try simp only[hmi]
 go_at_call 99;refine hc.mono ?_;rintro e w3 ⟨rfl,a6,A6,c6,MH,h3⟩;have k4:=hyc.out _ _ _ _ rfl h3;have k5:w3.cell? ⟨w9.heap.size,3,none⟩=some (iV (k:Nat)):=k4.2.2.2.1;have sS:=hkp.out _ _ _ _ MH h3.drew;rw[hyv.out]at sS;clear MH hkp k3 hc h3;dsimp only;refine hK _ _ (fun _=>k5) ?_;clear hK K;try simp only[Act.put,gD]
 refine aQ fE ?_ _;clear k5;go_wp2_with fail;refine aP (S:=fun w'=>w'.cell? ⟨w9.heap.size,0,none⟩=some (iV (x.kind:Nat))/\w'.cell? ⟨w9.heap.size,1,none⟩=some (iV (x.mode:Nat))/\w'.cell? ⟨w9.heap.size,2,none⟩=some (iV (x.links:Nat))/\w'.cell? ⟨w9.heap.size,3,none⟩=some (iV (k:Nat))/\w'.cell? ⟨w9.heap.size,4,none⟩=some (.slice A6 M c6)) 6 ?_;have k4':=show w3.drew.cell? ⟨w9.heap.size,0,none⟩=some (iV (x.kind:Nat))/\w3.drew.cell? ⟨w9.heap.size,1,none⟩=some (iV (x.mode:Nat))/\w3.drew.cell? ⟨w9.heap.size,2,none⟩=some (iV (x.links:Nat))/\w3.drew.cell? ⟨w9.heap.size,3,none⟩=some (iV (k:Nat))/\w3.drew.cell? ⟨w9.heap.size,4,none⟩=some (.slice A6 M c6)from k4
 refine aA 0 k4' ?_;refine aA 1 k4' ?_;refine aA 2 k4' ?_;refine aA 3 k4' ?_;refine aA 4 k4' ?_;refine bI 5 fun K hK=>?_
 go_simp;go_at_call 100;refine sS.mono ?_;rintro e w2 ⟨rfl,a7,WA,h2⟩;have k6':=hyc.out _ _ _ _ rfl h2;have h8:Sep w0 w2 (.box w9.heap.size 129 (aN y (.slice A6 M c6))::aS (.slice A6 M c6) (eB l)::aF f q p (S4.keep dir y) a7::R):=Sep.dB [1,2,0] h2 aR bK;have h9:=Lh (And.intro WA (h8.drop 2));clear h8 h2 WA sS;dsimp only;refine hK _ _ (fun _=>k6') ?_;clear hK K;try simp only[Act.put,gD]
 refine aQ fE ?_ _;go_wp2_with fail
 go_end0
 exact⟨rfl,a7,h9.out.1,h9.out.2⟩
end
def H5 (f q p:Nat) (S:VS) (a:VA) (M:aW):List aW:=[kF f q S a.sb (.map (some a.fb)) false,aG q p false,aO p S.D,dY a.sb a.SM,M]
def BF (f q p:Nat) (S:VS) (a:VA) (M:aW):aW:=.dU (H5 f q p S a M)
section
variable {w0 w:World} {R:List aW} {f q p:Nat} {S:VS} {a:VA}
theorem ap9 {i:Nat} {M:aW} {v:Value} {bs:List UInt8} (hC:VC S a) (hi:i<S.nb-96) (hf:dO a.SM i=some (v,bs)) (h:Sep w0 w (BF f q p S a M::R)):
  Calls Tryz.prog 157 #[pV f,iV i] w fun e w'=>e= .returned v/\w'=w:=by
 exact Z12
theorem al9 {i b:Nat} {M:aW} (hC:VC S a) (hi:i<S.nb-96) (hf:dO a.SM i=none) (hb:a.sb=some b) (h:Sep w0 w (BF f q p S a M::R)):
  Calls Tryz.prog 157 #[pV f,iV i] w fun e w'=>∃v,e= .returned v/\Sep w0 w' (BF f q p S (a.read b i v (bk S.D.now (96+i))) M::R):=by
 have h1:=h.bG;unfold H5 at h1;rw[hb]at h1;have hnd:=h1.PM (b:=b) (M:=a.SM) 3 rfl;have hlen:=hC.short hnd;have hi2:i<=100000:=by have:=hC.nV.few;omega
 have hl:=h1.ZC (b:=b) (M:=a.SM) 3 rfl i hi2;rw[hf]at hl;simp only[ab4,J6,UJ]at hl;have c1:=h1.bC 0 rfl 1;have c0:=h1.bC 0 rfl 0;simp only[gA,gB,gC]at c0 c1;have hrd:=wE (i:=i) (R:=kF f q S (some b) (.map (some a.fb)) false::jK b a.SM::M::R) hC.nV hC.big aD hC.on (Sep.dB [1,2,0] h1 aR bK);have hend:∀W v,Sep w0 W (aI v (bk S.D.now (96+i))::aG q p false::aO p S.D::kF f q S (some b) (.map (some a.fb)) false::jK b a.SM::M::R)->
   W.cell? ⟨f,1,none⟩=some (.map (some b))/\∃st w1 w2,(Instr.mapEntry 111 (.map (some b)) (.int .i64 i)).run Tryz.prog W= .ok (.tuple #[.slice none 0 0,iV st]) w1/\(Instr.entryStore 111 (.map (some b)) (.int .i64 st) v).run Tryz.prog w1= .ok () w2/\Sep w0 w2 (BF f q p S (a.read b i v (bk S.D.now (96+i))) M::R):=fun W v hS=>by
  have k1:=hS.bC 3 rfl 1;simp only[gA,gB,gC]at k1;have h2:Sep w0 W (jK b a.SM::aI v (bk S.D.now (96+i))::kF f q S (some b) (.map (some a.fb)) false::aG q p false::aO p S.D::M::R):=Sep.dB [4,0,3,1,2] hS aR bK;obtain⟨st,w1,w2,r1,r2,h3⟩:=h2.DR hi2 aD hf;refine⟨k1,st,w1,w2,r1,r2,?_⟩;have h4:Sep w0 w2 (H5 f q p S (a.read b i v (bk S.D.now (96+i))) M++R):=Sep.dB [1,2,3,0] h3 aR bK;exact h4.dC
 exact Z19
theorem aqA {i:Nat} {M:aW} (hC:VC S a) (hi:i<S.nb-96) (hb:a.sb=none) (h:Sep w0 w (BF f q p S a M::R)):
  Calls Tryz.prog 157 #[pV f,iV i] w fun e w'=>∃v b,e= .returned v/\Sep w0 w' (BF f q p S (a.read b i v (bk S.D.now (96+i))) M::R):=by
 have h1:=h.bG;unfold H5 at h1;rw[hb]at h1;have hi2:i<=100000:=by have:=hC.nV.few;omega
 have hl:=H6 i w;have c1:=h1.bC 0 rfl 1;have c0:=h1.bC 0 rfl 0;simp only[gA,gB,gC]at c0 c1;have hrd:=wE (i:=i) (R:=kF f q S none (.map (some a.fb)) false::M::R) hC.nV hC.big aD hC.on ((Sep.dB [3,1,2,0] h1 aR bK).drop 1);have hSM:=hC.none hb;have hend:∀W v,Sep w0 W (aI v (bk S.D.now (96+i))::aG q p false::aO p S.D::kF f q S none (.map (some a.fb)) false::M::R)->
   W.cell? ⟨f,1,none⟩=some (.map none)/\(W.alloc (.map #[] 0)).frozen? ⟨f,1,none⟩=false/\(W.alloc (.map #[] 0)).cell? ⟨f,1,none⟩=some (.map none)/\
   ((W.alloc (.map #[] 0)).setCell ⟨f,1,none⟩ (.map (some W.heap.size))).cell? ⟨f,1,none⟩=some (.map (some W.heap.size))/\∃st w1 w2,(Instr.mapEntry 111 (.map (some W.heap.size)) (.int .i64 i)).run Tryz.prog ((W.alloc (.map #[] 0)).setCell ⟨f,1,none⟩ (.map (some W.heap.size)))= .ok (.tuple #[.slice none 0 0,iV st]) w1/\(Instr.entryStore 111 (.map (some W.heap.size)) (.int .i64 st) v).run Tryz.prog w1= .ok () w2/\Sep w0 w2 (BF f q p S (a.read W.heap.size i v (bk S.D.now (96+i))) M::R):=fun W v hS=>by
  have k1:=hS.bC 3 rfl 1;have h2:=hS.yT;have k2:=h2.bC 4 rfl 1;have k3:=h2.bF 4 rfl 1;have h3:=h2.bS 4 rfl 1 (.map (some W.heap.size));have k4:=h3.bC 4 rfl 1;simp only[gA,gB,gC]at k1 k2;refine⟨k1,k3,k2,?_,?_⟩
  ·rw[k4];rfl
  have h4:Sep w0 ((W.alloc (.map #[] 0)).setCell ⟨f,1,none⟩ (.map (some W.heap.size))) (jK W.heap.size []::aI v (bk S.D.now (96+i))::kF f q S (some W.heap.size) (.map (some a.fb)) false::aG q p false::aO p S.D::M::R):=Sep.dB [0,1,4,2,3] h3 aR bK;obtain⟨st,w1,w2,r1,r2,h5⟩:=h4.DR (k:=i) hi2 bK rfl;refine⟨st,w1,w2,r1,r2,?_⟩;(have h6:Sep w0 w2 (H5 f q p S (a.read W.heap.size i v (bk S.D.now (96+i))) M++R):=by unfold H5 VA.read;rw[hSM];exact Sep.dB [1,2,3,0] h5 aR bK);exact h6.dC
 exact Z17
theorem aqB {i:Nat} {M:aW} (hC:VC S a) (hi:i<S.nb-96) (h:Sep w0 w (BF f q p S a M::R)):
  Calls Tryz.prog 157 #[pV f,iV i] w fun e w'=>∃v a',e= .returned v/\Reads S a a'/\dO a'.SM i=some (v,bk S.D.now (96+i))/\Sep w0 w' (BF f q p S a' M::R):=by
 cases hf:dO a.SM i with
 |some x=>have hx:=hC.seen _ (lQ hf);refine(ap9 hC hi (v:=x.1) (bs:=x.2) hf h).mono ?_;exact Z51
 |none=>
  have key:∀b v,Reads S a (a.read b i v (bk S.D.now (96+i)))/\dO (a.read b i v (bk S.D.now (96+i))).SM i=some (v,bk S.D.now (96+i)):=fun b v=>
   ⟨⟨hC.read b v hi,rfl,rfl,fun k x hx=>KF hx⟩,KG hf⟩
  cases hb:a.sb with
  |some b=>refine(al9 hC hi hf hb h).mono ?_;rintro e w' ⟨v,rfl,h9⟩;exact⟨v,_,rfl,(key b v).1,(key b v).2,h9⟩
  |none=>refine(aqA hC hi hb h).mono ?_;rintro e w' ⟨v,b,rfl,h9⟩;exact⟨v,_,rfl,(key b v).1,(key b v).2,h9⟩
end
end Go.Proofs.YtmjomdkleikgbaaGreat
