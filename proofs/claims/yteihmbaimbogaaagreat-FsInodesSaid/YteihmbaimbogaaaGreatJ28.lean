/- Parts. -/
import Derived.Test.YteihmbaimbogaaaGreatJ27
set_option linter.unusedVariables false
set_option linter.unusedSimpArgs false
set_option maxRecDepth 100000
set_option maxHeartbeats 20000000
namespace Go.Proofs.YteihmbaimbogaaaGreat
open Go.RowKit
def vR :List UInt8:=[115,104,117,110,116,45,118,111,108,117,109,101,45,49,33,10]
def lV (names:Nat):List UInt8:=dQ (dQ cZ 0 vR) 16 (w2 names)
theorem UO (names:Nat):(lV names).length=512:=by
 unfold lV;have h:(dQ cZ 0 vR).length=512:=by rw[fK]<;>rw[eT];decide
 rw[fK (by rw[h,pJ];decide),h]
def VS.raw (n names:Nat):VS:=⟨n,names,DK.made n,(DK.made n).now.drop 96,0,0,0,0,0,0⟩
def VS.laid (n names:Nat):VS:=(((VS.raw n names).put 0 (lV names)).put 1 (mI (bk ((VS.raw n names).put 0 (lV names)).cur 1) 0)).keep 0 ⟨1,0,0,0,[0]⟩
def VS.new (n names:Nat):VS:= {(VS.laid n names).settled with rB:=(VS.laid n names).count,rI:=names}
theorem agC :∀args w,(callFunc 83 args).run Tryz.prog w= .ok (.enter 83 args) w:=Go.Proofs.enters_of Tryz.func83 fZ rfl
theorem apP {w:World} {be bl:Nat} {u:FrameMode} (hc:w.cell? ⟨be,0,none⟩=some (iV 0)):
  CallsD Tryz.prog 83 #[pV be,pV bl] u w fun e u' w'=>u'=u/\e= .returned (.tuple #[])/\w'=w:=by
 refine(callsD_of_wp (R:=fun e w'=>e= .returned (.tuple #[])/\w'=w) Tryz.func83 rfl ?_).mono ?_
 ·simp only[Tryz.ntmps83,mK,nV,kW,Nat.reduceAdd,Nat.reduceSub,HV,HY,H6,HZ,pG,pF];go_wp2_with fail
  go_end0
  exact⟨rfl,rfl⟩
 rintro e u' w' ⟨h1,h2,h3⟩;exact⟨h1,h2,h3⟩
theorem QK {n:Nat} (h0:1<=n) (h1:n<=4096):(DK.made n).ok n:=
 ⟨(BX n).set 0 (qO (ps:=[]) aQ),(BX n).set 0 (qO (ps:=[]) aQ),h1,h0,fun x hx=>absurd hx MR,by show(-1:Int)<= -1/\(-1:Int)<=9223372036854775807;omega⟩
theorem ayR {n i:Nat} (h:i<n) (h0:0<i):bk (DK.made n).now i=cZ:=by unfold DK.made;simp only;rw[dN _ _ aD,at5 h]
theorem akA {n names fb:Nat} (h0:98+(names+7)/8<n) (h1:n<=4096):VC (VS.raw n names) ⟨none,[],fb,[]⟩:=
 ⟨QK (n:=n) aD h1,by show 96<n;omega,rfl,(QK (n:=n) aD h1).now.drop 96,fun x hx=>absurd hx MR,fun x hx=>absurd hx MR,fun k _ _=>vM _ _ _,jL _,fun _=>rfl⟩
theorem at7 {n names:Nat} (h0:98+(names+7)/8<n) (h3:names<=1024):VF (VS.raw n names):=⟨h3,by show 96+(2+(names+7)/8)<n;omega⟩
theorem Z57 {P:Prop} (h:P:=by
 show(DK.step _).off=_/\(DK.step _).left=_
 unfold DK.step;rw[if_neg (by simp only;omega)];exact⟨ho,rfl⟩):P:=h
theorem auA {D:DK} (x:uA) (ho:D.off=false) (hl:D.left<0):(D.act x).off=false/\(D.act x).left=D.left:=by
 cases x with
 |none=>exact Z57
 |some x=>exact Z57
theorem ZJ :∀(l:List uA) {D:DK},D.off=false->D.left<0->(lF l D).2=true/\(lF l D).1.off=false/\(lF l D).1.left=D.left
 |[],D,ho,_=>⟨rfl,ho,rfl⟩
 |x::l,D,ho,hl=>by obtain⟨h1,h2⟩:=auA x ho hl;rw[lF,if_neg (by rw[ho];decide)];obtain⟨h3,h4,h5⟩:=ZJ l h1 (by rw[h2];exact hl);exact⟨h3,h4,h5.trans h2⟩
theorem yJ {S:VS} (ho:S.D.off=false) (hl:S.D.left<0):S.bL.2=true/\S.bL.1.off=false/\S.bL.1.left=S.D.left:=by
 unfold VS.bL;split
 ·exact⟨rfl,ho,rfl⟩
 exact ZJ _ ho hl
theorem ZK {n:Nat} (h:0<n):lH cZ n=some 0:=by unfold lH;rw[al1];exact⟨by decide,List.mem_range.2 h,fun i hi=>absurd hi (XB _)⟩
theorem NG {n names k:Nat} (h:96+k<n):bk (VS.raw n names).cur k=cZ:=by
 show bk ((DK.made n).now.drop 96) k=_
 rw[vM,ayR h aD]
theorem agD {c:fO} {n:Nat} (h:bk c (2+n/8)=cZ):aH c n=⟨0,0,0,0,[]⟩:=by
 unfold aH;rw[h];have e:(cZ.drop (n%8*64)).take 64=List.replicate 64 0:=by unfold cZ;rw[List.drop_replicate,List.take_replicate,show min 64 (512-n%8*64)=64 by omega]
 rw[e];rfl
section
variable {w0 W:World} {R:List bK}
noncomputable def UQ (k:Nat):Code:=(Tryz.f34.body.bind (ae3 k)).getD .skip
theorem agE {p n names F bf be q fb:Nat} {u2 u3 u7 u8 u9 u10 u11 u12 u13 u14 u15 u16 u17 u18 u19 u20 u21 u22 u23 u24 u25 u26 u27 u28 u29 u30 u31 u32 u33 u34 u35 u36 u37 u38 u39 u40 u41 u42 u43 u44 u45 u46 u47 u48 u49 u50 u51 u52 u53 u54 u55 u56 u57 u58 u59 u60 u61 u62 u63 u64 u65 u66 u67 u68 u69 u70 u71 u72 u73 u74 u75 u76 u77 u78 u79 u80 u81 u82 u83 u84 u85 u86 u87 u88 u89 u90 u91 u92 u93 u94 u95 u96 u97 u98 u99 aC3 aC4 aC5 aC6 aC7 u105 aC8 aC9 aDA aDB aDC aDD aDE:Value} (h0:98+(names+7)/8<n) (h1:n<=4096) (h2:2<=names) (h3:names<=1024) (hW:Sep w0 W (aF F q p (VS.raw n names) ⟨none,[],fb,[]⟩::aI be 0:: .box bf 24 #[pV F]::R)):
  (UQ 13).wp Tryz.prog (bodyPostD Tryz.prog Tryz.f34 (fun e w'=>∃f q,e= .returned (.tuple #[pV f,iV 0])/\Sep w0 w' (bI f q p (VS.new n names)::R))) {tmps:=#[pV p,iV names,u2,u3,pV bf,pV be,pV q,u7,u8,u9,u10,u11,u12,u13,u14,u15,u16,u17,u18,u19,u20,u21,u22,u23,u24,u25,u26,u27,u28,u29,u30,u31,u32,u33,u34,u35,u36,u37,u38,u39,u40,u41,u42,u43,u44,u45,u46,u47,u48,u49,u50,u51,u52,u53,u54,u55,u56,u57,u58,u59,u60,u61,u62,u63,u64,u65,u66,u67,u68,u69,u70,u71,u72,u73,u74,u75,u76,u77,u78,u79,u80,u81,u82,u83,u84,u85,u86,u87,u88,u89,u90,u91,u92,u93,u94,u95,u96,u97,u98,u99,aC3,aC4,aC5,aC6,aC7,u105,aC8,aC9,aDA,aDB,aDC,aDD,aDE],defers:=[{target:=.fn (.func 41) #[],args:=#[pV F,pV be]},{target:=.fn (.func 83) #[pV be,pV bf],args:=#[]}]} W:=by
 obtain⟨h1,h2,h3⟩:(n<=4096)/\2<=names/\names<=1024:=⟨h1,h2,h3⟩;obtain⟨k0,gN,hk0,hk1,hk2⟩:=lM nX;have hmk:∀W,(Instr.makeSlice 35 (.int .i64 512) (.int .i64 512)).run Tryz.prog W= .ok (sV W.heap.size 512 512) (W.alloc (.cells (madeCells #[.int .u8 0] 512) 5)):=fun W=>qG (P:=Tryz.prog) 35 5 k0 (.int .u8 0) 1 Tryz.underlying35 gN hk0 hk1 hk2 rfl .i64 .i64 512 aD oH W
 obtain⟨Z,hZ⟩:∃Z,Z=aI be 0:: .box bf 24 #[pV F]::R:=⟨_,rfl⟩;have hcz:Hid (∀W Y,Sep w0 W (Y++Z)->W.cell? ⟨bf,0,none⟩=some (pV F)/\W.cell? ⟨be,0,none⟩=some (iV 0)):=Lh fun W Y hW=>by rw[hZ]at hW;exact⟨hW.dO 1 rfl 0,hW.dO 0 rfl 0⟩
 rw[<-hZ]at hW;have hE:=hW.made 5 (.int .u8 0) 512 oH;obtain⟨w1,hcp,hS1,_⟩:=hE.D9 (P:=Tryz.prog) 0 rfl 35 9 3 Tryz.underlying35 fZ 0 512 512 ⟨#[115,104,117,110,116,45,118,111,108,117,109,101,45,49,33,10]⟩ aQ aQ;have hS2:Sep w0 w1 (aL (sV W.heap.size 512 512) (dQ cZ 0 vR)::aF F q p (VS.raw n names) ⟨none,[],fb,[]⟩::Z):=by rw[dB (by rw[fK,eT];rw[eT];decide)];exact hS1
 have hw2:=JB (g:=W.heap.size) (c:=512) (o:=0) (m:=512) (cap:=512) (i:=16) (n:=names) hS2 (by rw[fK,eT];rw[eT];decide) aQ aQ aD;rw[show dQ (dQ cZ 0 vR) (0+16) (w2 names)=lV names from rfl]at hw2;have hlt0:98+(names+7)/8<n:=by omega
 have auB:VC (VS.raw n names) ⟨none,[],fb,[]⟩:=akA hlt0 h1;have aDF:=at7 hlt0 h3;have aID:Hid (∀W2,Sep w0 W2 (aL (sV W.heap.size 512 512) (lV names)::aF F q p (VS.raw n names) ⟨none,[],fb,[]⟩::Z)->Calls Tryz.prog 88 #[pV F,iV 0,sV W.heap.size 512 512] W2 fun e w'=>e= .returned (.tuple #[])/\∃a1,VC ((VS.raw n names).put 0 (lV names)) a1/\Sep w0 w' (aF F q p ((VS.raw n names).put 0 (lV names)) a1::Z)):=Lh fun W2 hW2=>by have h5:=((hW2.perm (List.Perm.swap _ _ _)).abA auB 0).perm (List.Perm.swap _ _ _);refine(BH (i:=0) auB (by show 0<n-96;omega) h5).mono ?_;rintro e w' ⟨rfl,h6⟩;exact⟨rfl,_,auB.put _ (by show 0<n-96;omega) (UO names),h6⟩
 obtain⟨S1,JN⟩:∃S1,S1=(VS.raw n names).put 0 (lV names):=⟨_,rfl⟩;rw[<-JN]at aID;have akB:VF S1:=by rw[JN];exact⟨aDF.names,aDF.room⟩
 have hb1:bk S1.cur 1=cZ:=by rw[JN];(show bk ((VS.raw n names).cur.set 0 _) 1=_);rw[dN _ _ aQ,NG aD]
 have hcn:0<S1.count:=by rw[JN];show 0<n-96-(2+(names+7)/8);omega
 have aDG:lD S1 [] 1=some (S1.put 1 (mI (bk S1.cur 1) 0),[0]):=by rw[TH,hb1,ZK hcn]
 obtain⟨S2,NH⟩:∃S2,S2=S1.put 1 (mI (bk S1.cur 1) 0):=⟨_,rfl⟩;rw[<-NH]at aDG;have ayS:VF S2:=by rw[NH];exact⟨akB.names,akB.room⟩
 obtain⟨S3,XT⟩:∃S3,S3=S2.keep 0 ⟨1,0,0,0,[0]⟩:=⟨_,rfl⟩;have hnew:VS.new n names= {S3.settled with rB:=S3.count,rI:=names}:=by rw[XT,NH,JN];rfl
 have hi2:aH S2.cur 0=⟨0,0,0,0,[]⟩:=by refine agD ?_;rw[NH];(show bk (S1.cur.set 1 _) 2=_);rw[dN _ _ aQ,JN];(show bk ((VS.raw n names).cur.set 0 _) 2=_);rw[dN _ _ aQ,NG aD]
 have aIE:gM S2:=by rw[NH,JN];exact⟨by show(-1000000:Int)<=0;decide,by show(0:Int)<=1000000;decide,by show(-1000000:Int)<=0;decide,by show(0:Int)<=1000000;decide⟩
 have JC:Hid (∀W2 a1 bx,VC S1 a1->Sep w0 W2 (.box bx 118 #[iV 1,iV 0,iV 0,iV 0,.slice none 0 0]::aF F q p S1 a1::Z)->Calls Tryz.prog 89 #[pV F,pV bx,iV 1] W2 fun e w'=>e= .returned (.tuple #[])/\∃a2 A c,VC S2 a2/\Sep w0 w' (aF F q p S2 a2:: .box bx 118 #[iV 1,iV 0,iV 0,iV 0,.slice A 1 c]::bA (.slice A 1 c) (fB [0])::Z)):=Lh fun W2 a1 bx hC hW2=>by have h5:Sep w0 W2 (aF F q p S1 a1:: .box bx 118 (aO ⟨1,0,0,0,[]⟩ (.slice none 0 0))::bA (.slice none 0 0) (fB [])::Z):=Sep.dE [2,1,0] (hW2.dX 3 1) aQ bM;refine(BK (x:=⟨1,0,0,0,[]⟩) (n:=1) hC akB aQ aQ (fun s hs=>by cases hs) h5).mono ?_;intro e w' ho;unfold rO at ho;simp only[aDG]at ho;obtain⟨rfl,a2,v,_,hC2,h6⟩:=ho;obtain⟨A,c,e9⟩:=h6.eF 2 rfl;have e10:(fB [0]).length=1:=rfl;rw[e10]at e9;subst e9;exact⟨rfl,a2,A,c,hC2,h6⟩
 have uT:Hid (∀W2 a2 bx A c,VC S2 a2->Sep w0 W2 (aF F q p S2 a2:: .box bx 118 #[iV 1,iV 0,iV 0,iV 0,.slice A 1 c]::bA (.slice A 1 c) (fB [0])::Z)->Calls Tryz.prog 90 #[pV F,iV 0,.agg #[iV 1,iV 0,iV 0,iV 0,.slice A 1 c]] W2 fun e w'=>e= .returned (.tuple #[])/\∃a3,VC S3 a3/\Sep w0 w' (aF F q p S3 a3:: .box bx 118 #[iV 1,iV 0,iV 0,iV 0,.slice A 1 c]::bA (.slice A 1 c) (fB [0])::Z)):=Lh fun W2 a2 bx A c hC hW2=>by refine(wP (n:=0) (x:=⟨1,0,0,0,[0]⟩) (v:=.slice A 1 c) hC ayS (by rw[NH,JN];show 0<names;omega) ⟨by decide,by decide,by decide,by decide,by decide,fun k hk=>by simp at hk;omega⟩ (by rw[hi2];decide) aIE (kL 1 rfl) hW2).mono ?_;rintro e w' ⟨rfl,a3,WI,h6⟩;rw[<-XT]at WI h6;exact⟨rfl,a3,WI,h6⟩
 have hlive:=yJ (S:=S3) (by rw[XT,NH,JN];rfl) (by rw[XT,NH,JN];show(-1:Int)<0;decide);have aBV:Hid (∀W2 a3,VC S3 a3->Sep w0 W2 (aF F q p S3 a3::Z)->Calls Tryz.prog 91 #[pV F] W2 fun e w'=>e= .returned (.tuple #[])/\∃a4,VC S3.settled a4/\Sep w0 w' (aF F q p S3.settled a4::Z)):=Lh fun W2 a3 hC hW2=>by refine(RY hC (by rw[XT,NH,JN];show(0+1+1+1:Nat)<=40;decide) (by rw[XT,NH,JN];show(0:Nat)<=60000;decide) hW2).mono ?_;intro e w' ho;unfold oP at ho;rw[if_pos hlive.1]at ho;obtain⟨rfl,a4,hV4,h6⟩:=ho;exact⟨rfl,a4,hV4.on hlive.2.1,h6⟩
 have aIF:VF S3.settled:=by rw[XT];exact⟨ayS.names,ayS.room⟩
 have hsy2:Hid (∀W2 a4,VC S3.settled a4->Sep w0 W2 (aF F q p S3.settled a4::Z)->Calls Tryz.prog 76 #[pV q] W2 fun e w'=>e= .returned (iV 0)/\Sep w0 w' (aF F q p S3.settled a4::Z)):=Lh fun W2 a4 hC hW2=>by have h5:=hW2.bE;have hoff:S3.settled.D.off=false:=hlive.2.1;have:=F6 (q:=q) (p:=p) (dead:=false) hC.pI (Sep.dE [1,2,0,3,4] h5 aQ (by simp[pK]):Sep w0 W2 (aG q p false::aN p S3.settled.D::l7 F q S3.settled a4.sb (.map (some a4.fb)) false::fH a4.sb a4.SM::jJ a4.fb a4.FM::Z));rw[hoff]at this;refine this.mono ?_;rintro e w' ⟨rfl,h9⟩;refine⟨rfl,?_⟩;have h6:Sep w0 w' (pK F q p S3.settled a4++Z):=Sep.dE [2,0,1,3,4] h9 aQ bM;exact h6.dG
 have TW:Hid (∀W2 a4,VC S3.settled a4->Sep w0 W2 (aF F q p S3.settled a4::Z)->Calls Tryz.prog 81 #[pV F] W2 fun e w'=>e= .returned (iV S3.count)/\w'=W2):=Lh fun W2 a4 hC hW2=>zZ (S:=S3.settled) hC aIF hW2
 have hrm:Hid (∀W2 a4,VC S3.settled a4->Sep w0 W2 (aF F q p S3.settled a4::Z)->W2.frozen? ⟨F,7,none⟩=false/\W2.cell? ⟨F,7,none⟩=some (.complex .f64 (fI S3.rB) (fI S3.rI))/\Sep w0 (W2.setCell ⟨F,7,none⟩ (.complex .f64 (fI (S3.count:Int)) (fI (names:Int)))) (bI F q p (VS.new n names)::Z)):=Lh fun W2 a4 hC hW2=>by have h5:=hW2.bE;refine⟨h5.bF 0 rfl 7,h5.bC 0 rfl 7,?_⟩;have h6:=h5.bS 0 rfl 7 (.complex .f64 (fI (S3.count:Int)) (fI (names:Int)));(have h7:Sep w0 (W2.setCell ⟨F,7,none⟩ (.complex .f64 (fI (S3.count:Int)) (fI (names:Int)))) (pK F q p (VS.new n names) a4++Z):=by rw[hnew];exact h6);(have eG:VC (VS.new n names) a4:=by rw[hnew];exact⟨hC.pI,hC.big,hC.on,hC.cur,hC.seen,hC.fresh,hC.rest,hC.few,hC.none⟩);refine qW eG ?_ h7.dG;rw[hnew];exact EG hlive.1 (by rw[XT,NH,JN];rfl)
 have hcount:(S3.count:Int)<=4096:=by rw[XT,NH,JN];show((n-96-(2+(names+7)/8):Nat):Int)<=4096;omega
 have aIG:=Lh auB;clear auB aIG aDF akB ayS hb1 hcn aDG hi2 aIE hlive aIF hS1 hE hW JN NH XT hlt0 hnew;unfold UQ
 conv=>arg 2;whnf
 go_wp2_with(first |(go_at_call 87;refine hw2.mono ?_;rintro e w2 ⟨rfl,h2⟩;(obtain⟨y0,y1⟩:=hcz.out _ [_,_] h2);(have hp2:=aID.out _ h2);clear hw2 h2)|(go_at_call 88;refine hp2.mono ?_;rintro e w3 ⟨rfl,a1,lU,h3⟩;(have h4:=h3.bN 118 #[iV 1,iV 0,iV 0,iV 0,.slice none 0 0]);(obtain⟨x0,x1⟩:=hcz.out _ [_,_] h4);(have hf4:=JC.out _ _ _ lU h4);clear hp2 h3 h4 y0 y1 lU)|(go_at_call 89;refine hf4.mono ?_;rintro e w5 ⟨rfl,a2,A5,c5,hC2,h5⟩;replace h5:=Lh h5;replace hC2:=Lh hC2;clear hf4 x0 x1));obtain⟨bx,hbx⟩:∃bx,bx=w3.heap.size:=⟨_,rfl⟩;rw[<-hbx]at h5 ⊢;clear hbx;have hE:=h5.out.drew;have hc19:=hcz.out _ [_,_,_] hE;have akC:=And.intro hc19.1 (And.intro (hE.bC 1 rfl 0) (And.intro (hE.bC 1 rfl 1) (And.intro (hE.bC 1 rfl 2) (And.intro (hE.bC 1 rfl 3) (hE.bC 1 rfl 4)))));simp only[gA,gB,gC]at akC;have hk5:=uT.out _ _ _ _ _ hC2.out hE;clear hE hc19 h5 hC2 uT;refine fP ?_;refine aJ (S:=fun w'=>w'.cell? ⟨bf,0,none⟩=some (pV F)/\w'.cell? ⟨bx,0,none⟩=some (iV 1)/\w'.cell? ⟨bx,1,none⟩=some (iV 0)/\w'.cell? ⟨bx,2,none⟩=some (iV 0)/\w'.cell? ⟨bx,3,none⟩=some (iV 0)/\w'.cell? ⟨bx,4,none⟩=some (.slice A5 1 c5)) 6 ?_;refine aA 0 akC ?_;refine aA 1 akC ?_;refine aA 2 akC ?_;refine aA 3 akC ?_;refine aA 4 akC ?_;refine bG 5 fun K hK=>?_
 go_simp;go_at_call 90;refine hk5.mono ?_;rintro e w6 ⟨rfl,a3,WI,h6⟩;obtain⟨y0,y1⟩:=hcz.out _ [_,_,_] h6;have hs6:=aBV.out _ _ WI ((Sep.dE [1,2,0] h6 aQ bM).drop 2);have hE6:=And.intro y0 (And.intro (h6.bC 1 rfl 0) (And.intro (h6.bC 1 rfl 1) (And.intro (h6.bC 1 rfl 2) (And.intro (h6.bC 1 rfl 3) (h6.bC 1 rfl 4)))));simp only[gA,gB,gC]at hE6;clear akC hk5 h6 WI aBV;dsimp only;refine hK _ _ (fun _=>hE6) ?_;clear hK K;try simp only[Act.put,gD]
 refine aR fZ ?_ _;simp only[jT];go_wp2_with(first |(go_at_call 91;refine hs6.mono ?_;rintro e w7 ⟨rfl,a4,WH,h7⟩;(have hy7:=hsy2.out _ _ WH h7);replace WH:=Lh WH;clear hs6 h7 y0 y1)|(go_at_call 76;refine hy7.mono ?_;rintro e w8 ⟨rfl,h8⟩;(have aOT:=(hcz.out _ [_] h8.drew).1);replace h8:=Lh h8;clear hy7)|(go_at_call 43;refine(dU _ _).mono ?_;rintro e w9 ⟨rfl,h9⟩;obtain rfl:=h9.symm));refine fP ?_;refine eU (S:=fun w'=>w'.cell? ⟨bf,0,none⟩=some (pV F)) 14 fZ ?_;intro wq hwq;have h9:Hid (Sep w0 wq (aF F q p S3.settled a4::Z)):=by rw[hwq];exact Lh h8.out.drew
 clear hwq h8 aOT;have jC:=(hcz.out _ [_] h9.out).1;have aDH:=TW.out _ _ WH.out h9.out;obtain⟨f7,c7,hR7⟩:=hrm.out _ _ WH.out h9.out;have hst:=fun x y=>uB x y c7 f7
 have aIH:=(hcz.out _ [_] hR7).1;simp only[mK,nV,kW,Nat.reduceAdd];obtain⟨M,hM⟩:∃M,M=S3.count:=⟨_,rfl⟩;rw[<-hM]at aDH hR7 hcount aIH;have hend:Hid (Sep w0 (wq.setCell ⟨F,7,none⟩ (.complex .f64 (fI (M:Int)) (fI (names:Int)))) (bI F q p (VS.new n names)::Z)):=Lh hR7;clear hR7 hM h9 TW hrm WH;refine aA 0 jC ?_;refine aA 1 jC ?_;refine aA 2 jC ?_;refine aA 3 jC ?_;refine aA 4 jC ?_;refine aA 5 jC ?_;refine aA 8 jC ?_;refine aA 9 jC ?_;refine bG 6 fun K hK=>?_
 go_simp;go_at_call 81;refine aDH.mono ?_;rintro e w7 ⟨rfl,h7⟩;obtain rfl:=h7.symm;dsimp only;refine hK _ _ (fun _=>jC) ?_;clear hK K;try simp only[Act.put,gD]
 refine aW 7 (fun _=>jC) ?_;refine aW 10 (fun _=>jC) ?_;refine aW 11 (fun _=>jC) ?_;refine aW 12 (fun _=>jC) ?_;refine bG 13 fun K hK=>?_
 go_simp;have hfo:∀z:Int,floatOfInt FloatKind.f64 z=fI z:=fun _=>rfl
 rw[hfo,hfo];refine hK _ _ (fun _=>aIH) ?_;clear hK K;try simp only[Act.put,gD]
 refine aR fZ ?_ _;simp only[jT];have hE:=hend.out;rw[hZ]at hE;have d1:=hE.bF 2 rfl 0;have hE2:=hE.bS 2 rfl 0 (pV F);have d2:=hE2.bC 1 rfl 0;have d3:=hE2.bF 1 rfl 0;have H7:=Lh (hE2.bS 1 rfl 0 (.int .i64 0));clear hE hE2 hend hst c7 f7 jC aDH hcz;go_wp2_with fail;refine iY ?_;have ec:=H7.out.bC 1 rfl 0;have el:=H7.out.bC 2 rfl 0;try simp only[gA,gB]at ec el
 refine leaves_cons (u:=.returning) bM (qK _ _ agC) ?_;refine(apP ec).mono ?_;rintro e u' w' ⟨rfl,rfl,rfl⟩;refine⟨.tuple #[pV F,iV 0],by simp[results,Tryz.results34,go_sem,ec,el],F,rfl,q,?_⟩;exact(Sep.dE [1,2,0] H7.out aQ bM:Sep w0 _ (_::_::bI F q p (VS.new n names)::R)).drop 2
end
end Go.Proofs.YteihmbaimbogaaaGreat
namespace Go.Proofs.YteihmbaimbogaaaGreat
theorem dK.same {S T:VS} {g:LT} (h:dK S g) (h1:T.nb=S.nb) (h2:T.names=S.names) (h3:T.cur=S.cur) (h4:T.wB=S.wB) (h5:T.wI=S.wI) (h6:T.nodes=S.nodes):dK T g:=by obtain⟨nb,names,D,cur,wB,wI,nodes,rB,rI,m⟩:=S;obtain⟨nb',names',D',cur',wB',wI',nodes',rB',rI',m'⟩:=T;simp only at h1 h2 h3 h4 h5 h6;subst h1 h2 h3 h4 h5 h6;exact⟨⟨h.use.cur,⟨h.use.vf.names,h.use.vf.room⟩,h.use.nb⟩,h.n0,h.fair,h.head,h.len,h.lt,h.nodup,h.dis,h.bits,h.bJ,h.data,h.wB,h.wI,h.nodes⟩
theorem dK.first {S:VS} {g:LT} (h:dK S g) {b:List UInt8} (hb:b.length=512):dK (S.put 0 b) g:=by
 have hne:∀k,k≠0->bk (S.put 0 b).cur k=bk S.cur k:=fun k hk=>dN _ _ hk
 have hin:∀n,aH (S.put 0 b).cur n=aH S.cur n:=fun n=>by unfold aH;rw[hne _ aD]
 have hbit:∀j,(S.put 0 b).bit j=S.bit j:=fun j=>by(show rG (bk (S.put 0 b).cur 1) j=rG (bk S.cur 1) j);rw[hne _ aD]
 have hdat:∀s,bk (S.put 0 b).cur (S.data+s)=bk S.cur (S.data+s):=fun s=>hne _ (by unfold VS.data;omega)
 refine⟨h.use.put 0 hb,h.n0,h.fair,fun n hn=>?_,fun n hn=>?_,fun n hn=>?_,fun n hn=>?_,fun n hn m hm e=>?_,fun j hj=>?_,fun n hn hk=>?_,fun n hn hk=>?_,h.wB,h.wI,h.nodes⟩
 ·rw[hin];exact h.head n hn
 ·rw[hin];exact h.len n hn
 ·rw[hin];exact h.lt n hn
 ·rw[hin];exact h.nodup n hn
 ·rw[hin,hin];exact h.dis n hn m hm e
 ·rw[hbit];refine(h.bits j hj).trans ⟨fun⟨n,hn,e⟩=>⟨n,hn,by rw[hin];exact e⟩,fun⟨n,hn,e⟩=>⟨n,hn,by rw[hin]at e;exact e⟩⟩
 ·rw[hin];(have e:=JG (c:=S.cur) (c':=(S.put 0 b).cur) (d:=S.data) (x:=aH S.cur n) (h.abI hn hk) fun s _=>hdat s);exact e.trans (h.bJ n hn hk)
 rw[hin];have e:=yT (c:=S.cur) (c':=(S.put 0 b).cur) (d:=S.data) (x:=aH S.cur n) fun s _=>hdat s
 exact e.trans (h.data n hn hk)
section
variable {n names:Nat}
theorem auC (j:Nat):rG cZ j=false:=by
 unfold rG cZ;by_cases h:j/8<512
 ·rw[gH,ar3,if_pos h];simp
 rw[gH,D7 (by rw[DJ];omega)];simp
theorem auD (h0:98+(names+7)/8<n) (h1:n<=4096) (h2:2<=names) (h3:names<=1024):dK (VS.raw n names) fun _=>LI0:=by
 have hin:∀i<names,aH (VS.raw n names).cur i=⟨0,0,0,0,[]⟩:=fun i hi=>agD (NG aD)
 have hz:∀i<names,(aH (VS.raw n names).cur i).aB=[]:=fun i hi=>by rw[hin i hi]
 refine⟨⟨(akA (fb:=0) h0 h1).cur,at7 h0 h3,h1⟩,by show 0<names;omega,fun _ _=>afM,fun i hi=>?_,fun i hi=>?_,fun i hi s hs=>?_,fun i hi=>?_,fun i hi m hm _ s hs=>?_,fun j hj=>?_,fun i hi hk=>?_,fun i hi hk=>?_,?_,?_,?_⟩
 ·rw[hin i hi];rfl
 ·rw[hz i hi];rfl
 ·rw[hz i hi]at hs;cases hs
 ·rw[hz i hi];exact List.nodup_nil
 ·rw[hz i hi]at hs;cases hs
 ·(have e:(VS.raw n names).bit j=false:=by(show rG (bk (VS.raw n names).cur 1) j=false);rw[NG aD,auC]);rw[e];constructor
  ·intro e2;cases e2
  rintro⟨i,hi,e2⟩;rw[hz i hi]at e2;cases e2
 ·cases hk
 ·cases hk
 ·exact(GJ fun i _=>rfl).symm
 ·exact(GJ fun i _=>rfl).symm
 exact(GJ fun i _=>rfl).symm
def amZ :LT:=dS (fun _=>LI0) 0 ⟨1,0,0,[],[]⟩
theorem auE :∀ {c:fO} {i:Nat},i<c.length->c.set i (bk c i)=c:=fun {c i} h=>by
 refine YH (uR ..) fun k h1 h2=>?_
 rw[List.getElem_set];split
 ·rename_i e;subst e;unfold bk;rw[gH,gE h2];rfl
 rfl
theorem ZL (h0:98+(names+7)/8<n) (h1:n<=4096) (h2:2<=names) (h3:names<=1024):dK (VS.laid n names) amZ:=by
 have hp:=auD h0 h1 h2 h3;have hp1:=hp.first (UO names);obtain⟨S,hS⟩:∃S,S=(VS.raw n names).put 0 (lV names):=⟨_,rfl⟩;rw[<-hS]at hp1;have hcnt:0<S.count:=by rw[hS];show 0<n-96-(2+(names+7)/8);omega
 have hb1:bk S.cur 1=cZ:=by rw[hS];(show bk ((VS.raw n names).cur.set 0 _) 1=_);rw[dN _ _ aQ,NG aD]
 have hfree:lH (bk S.cur 1) S.count=some 0:=by rw[hb1];exact ZK hcnt
 have hN:=(hp1.as8 (n:=0) (mode:=0) (links:=0) (by rw[hS];show 0<names;omega) rfl aQ aQ).1 0 hfree;have hdata:bk (S.put 1 (mI (bk S.cur 1) 0)).cur (S.data+0)=cZ:=by(show bk (S.cur.set 1 _) (S.data+0)=_);rw[dN _ _ (by unfold VS.data;omega),hS];(show bk ((VS.raw n names).cur.set 0 _) (2+(names+7)/8+0)=_);rw[dN _ _ aD,NG aD]
 have hlen:S.data+0<(S.put 1 (mI (bk S.cur 1) 0)).cur.length:=by have:=(hp1.use.cur).len;(show S.data+0<(S.cur.set 1 _).length);rw[uR,this,hS];(show 2+(names+7)/8+0<n-96);omega
 have aII:(iD S 0).cur=(S.put 1 (mI (bk S.cur 1) 0)).cur:=by(show(S.put 1 (mI (bk S.cur 1) 0)).cur.set (S.data+0) cZ=_);have:=auE hlen;rw[hdata]at this;exact this
 have pM:aH (iD S 0).cur 0=aH (S.put 1 (mI (bk S.cur 1) 0)).cur 0:=by rw[aII]
 refine hN.same ?_ ?_ ?_ ?_ ?_ ?_
 ·rw[hS];rfl
 ·rw[hS];rfl
 ·(show vE ((VS.raw n names).put 0 (lV names)|>.put 1 (mI (bk ((VS.raw n names).put 0 (lV names)).cur 1) 0)).cur 0 ⟨1,0,0,0,[0]⟩=vE (iD S 0).cur 0 ⟨1,0,0,0,[0]⟩);rw[aII,hS]
 ·(show(VS.raw n names).wB-kD (aH (((VS.raw n names).put 0 (lV names)).put 1 (mI (bk ((VS.raw n names).put 0 (lV names)).cur 1) 0)).cur 0).kind (aH (((VS.raw n names).put 0 (lV names)).put 1 (mI (bk ((VS.raw n names).put 0 (lV names)).cur 1) 0)).cur 0).size+kD 1 0=S.wB-kD (aH (iD S 0).cur 0).kind (aH (iD S 0).cur 0).size+kD 1 0);rw[pM,hS];rfl
 ·(show(VS.raw n names).wI-nP (aH (((VS.raw n names).put 0 (lV names)).put 1 (mI (bk ((VS.raw n names).put 0 (lV names)).cur 1) 0)).cur 0).kind+nP 1=S.wI-nP (aH (iD S 0).cur 0).kind+nP 1);rw[pM,hS];rfl
 rw[hS];rfl
theorem auF (h2:0<names):nL amZ names [] [] (fun _=>0) (fun _=>0) where
 n0:=h2
 root:=rfl
 rk:=rfl
 uniq:=List.nodup_nil
 up n hn:=by cases hn
 dir n hn:=by cases hn
 file n hn:=by cases hn
 ne0 n hn:=by cases hn
 inj n hn:=by cases hn
 cover i hi hk:=by
  by_cases e:i=0
  ·exact .inl e
  unfold amZ at hk;rw[bX _ _ e]at hk;exact absurd rfl hk
 bJ K hK:=XC _
theorem LU (n names:Nat):(VS.laid n names).bL.2=true/\(VS.new n names).D.off=false/\(VS.new n names).D.left= -1:=by have h:=yJ (S:=VS.laid n names) rfl (show(-1:Int)<0 by decide);exact⟨h.1,h.2.1,h.2.2⟩
theorem auG (h0:98+(names+7)/8<n) (h1:n<=4096) (h2:2<=names) (h3:names<=1024):Vt (VS.new n names).base [] [] amZ (fun _=>0) (fun _=>0):=by
 have hp:=ZL h0 h1 h2 h3;have hD:(VS.laid n names).D.ok (VS.laid n names).nb:=QK (n:=n) aD h1;have J9:96<(VS.laid n names).nb:=by show 96<n;omega
 have qJ:DX ((VS.laid n names).D.now.drop 96) (VS.laid n names):=(((DX.refl (VS.raw n names)).put _ _).put _ _).keep _ _;have hc:=(LU n names).1;have e:=yH hD J9 hp.use.cur qJ (show 0+1+1+1<=40 by decide) hc;refine Vt.of (hp.same rfl rfl e rfl rfl rfl) (auF (names:=names) aD) rfl aQ rfl rfl rfl
end
open Go.RowKit
section
variable {w0 w:World} {R:List bK}
def akD :Array Value:=#[.pointer none,.map none,.map none,iV 0,.bool false,.complex .f64 0 0,iV 0,.complex .f64 0 0]
theorem Z38 {P:Prop} (h:P:=by have:=((h.bN 24 #[pV (bf+1+1)]).bN 39 #[iV 0]).bN 106 akD;simp only[World.size_alloc,<-hbf]at this;exact Sep.dE [3,0,1,2] this aQ (by simp[aI])):P:=h
theorem Z78 {P:Prop} (h:P:=by
 have hi:(Y++ .box bf 24 #[pV (bf+1+1)]::R)[Y.length]? =some (.box bf 24 #[pV (bf+1+1)]):=by simp
 exact hW.bC _ hi 0):P:=h
theorem akE {p n names:Nat} (h0:98+(names+7)/8<n) (h1:n<=4096) (h2:2<=names) (h3:names<=1024) (h:Sep w0 w (aN p (DK.fresh n)::R)):
  Calls Tryz.prog 34 #[pV p,iV names] w fun e w'=>∃f q,e= .returned (.tuple #[pV f,iV 0])/\Sep w0 w' (bI f q p (VS.new n names)::R):=by
 obtain⟨bf,hbf⟩:∃b,b=w.heap.size:=⟨_,rfl⟩;have hok:(DK.fresh n).ok n:=DK.af7 aD h1;have hS0:Hid (Sep w0 (((w.alloc (.cells #[pV (bf+1+1)] 24)).alloc (.cells #[iV 0] 39)).alloc (.cells akD 106)) (aN p (DK.fresh n):: .box (bf+1+1) 106 akD::aI (bf+1) 0:: .box bf 24 #[pV (bf+1+1)]::R)):=Lh (by exact Z38);have hon:=aj8 hS0.out;have hbs:=BZ 0 hok hS0.out rfl;have hlf:=agB aD h1 hS0.out;have q1:(n:Int)<=4096:=by omega
 have q2:(2:Int)<=names:=by omega
 have q3:(names:Int)<=1024:=by omega
 have e0:Int.tdiv ((names:Int)+7) 8=((names+7)/8:Nat):=by rw[adU aD];omega
 have hpt:=fun W=>zM (n:=names) (by':=8) aD aD aD W
 have e1:((names+8-1)/8:Nat)=(names+7)/8:=by omega
 rw[e1]at hpt;obtain⟨P,hP⟩:∃P,P=(names+7)/8:=⟨_,rfl⟩;rw[<-hP]at hpt h0;have hP1:(P:Int)<=128:=by omega
 have h0':98+(P:Int)<n:=by omega
 clear e0;have hdf:(DK.fresh n).off=false:=rfl;rw[hdf]at hon;have MN:∀(fn:Fn) (first cap:Array Value) (w:World),(Instr.makeFunc fn first cap).run Tryz.prog w= .ok (.func fn first cap) w:=fun _ _ _ _=>rfl
 have hcl:Hid (∀W Y,Sep w0 W (Y++ .box bf 24 #[pV (bf+1+1)]::R)->W.cell? ⟨bf,0,none⟩=some (pV (bf+1+1))):=Lh fun W Y hW=>by exact Z78
 have hc0:=hcl.out _ [_,_,_] hS0.out;clear h hok;unfold akD at*;rw[hbf]at*
 go_enter_defers Tryz.func34,Tryz.ntmps34
 go_wp2_with(first |(go_at_call 39;refine hon.mono ?_;rintro e w9 ⟨rfl,h9⟩;obtain rfl:=h9.symm;clear hon)|(go_at_call 84;refine hbs.mono ?_;rintro e w9 ⟨rfl,h9⟩;obtain rfl:=h9.symm;clear hbs)|(go_at_call 85;refine(hpt _).mono ?_;rintro e w9 ⟨rfl,h9⟩;obtain rfl:=h9.symm)|(go_at_call 86;refine hlf.mono ?_;rintro e w9 ⟨q,rfl,h9⟩;(have k0:=h9.bC 3 rfl 0);(have k1:=h9.bF 3 rfl 0);(have h8:=h9.bS 3 rfl 0 (.int .i64 0));(have k2:=h8.bC 3 rfl 0);(have k3:=hcl.out _ [_,_,_,_] h8);simp only[gA,gB]at k0;clear hlf h9;replace h8:=Lh h8)|(go_at_call 43;refine(dU _ _).mono ?_;rintro e w7 ⟨rfl,h7⟩;obtain rfl:=h7.symm));rename_i K1 hK1;refine fP ?_;apply akF (fun W=>Hid (Sep w0 W (aF (w.heap.size+1+1) q p (VS.raw n names) ⟨none,[],w9.heap.size,[]⟩::aI (w.heap.size+1) 0:: .box w.heap.size 24 #[pV (w.heap.size+1+1)]::R)))
 ·refine eU (S:=fun w'=>w'.cell? ⟨w.heap.size,0,none⟩=some (pV (w.heap.size+1+1))) 24 fZ ?_;intro wq hwq;(have hX:Hid (Sep w0 wq (aG q p false::aN p (DK.made n):: .box (w.heap.size+1+1) 106 #[.pointer none,.map none,.map none,iV 0,.bool false,.complex .f64 0 0,iV 0,.complex .f64 0 0]::aI (w.heap.size+1) 0:: .box w.heap.size 24 #[pV (w.heap.size+1+1)]::R)):=by rw[hwq];exact Lh h8.out.drew);(have hsz0:wq.heap.size=w9.heap.size:=by rw[hwq];simp);have hfin:Hid (∀W,Sep w0 W (jJ w9.heap.size []::aG q p false::aN p (DK.made n):: .box (w.heap.size+1+1) 106 #[pV q,.map none,.map (some w9.heap.size),iV names,.bool false,.complex .f64 0 0,iV 0,.complex .f64 0 0]::aI (w.heap.size+1) 0:: .box w.heap.size 24 #[pV (w.heap.size+1+1)]::R)->
    Sep w0 W (aF (w.heap.size+1+1) q p (VS.raw n names) ⟨none,[],w9.heap.size,[]⟩::aI (w.heap.size+1) 0:: .box w.heap.size 24 #[pV (w.heap.size+1+1)]::R)):=Lh fun W hW=>by
   (have h5:Sep w0 W (.emp::jJ w9.heap.size []::aG q p false::aN p (DK.made n)::l7 (w.heap.size+1+1) q (VS.raw n names) none (.map (some w9.heap.size)) false::aI (w.heap.size+1) 0:: .box w.heap.size 24 #[pV (w.heap.size+1+1)]::R):=by unfold l7 VS.raw iH;simp only[QL];exact hW.wK);have h6:Sep w0 W (pK (w.heap.size+1+1) q p (VS.raw n names) ⟨none,[],w9.heap.size,[]⟩++(aI (w.heap.size+1) 0:: .box w.heap.size 24 #[pV (w.heap.size+1+1)]::R)):=Sep.dE [4,2,3,0,1] h5 aQ bM;exact h6.dG
  clear hwq;have hc:=hcl.out _ [_,_,_,_] hX.out;have hmm:= @run_makeMap Tryz.prog;simp only[mK,nV,kW,Nat.reduceAdd];refine aA 0 hc ?_;refine aA 1 hc ?_;refine aA 2 hc ?_;refine aA 3 hc ?_;refine aA 4 hc ?_;refine aA 6 hc ?_;refine aA 7 hc ?_;refine aA 8 hc ?_;refine aA 9 hc ?_;refine aA 10 hc ?_
  -- <<ways
  refine kP (i:=5) (j:=11) fZ rfl rfl (fun K hK=>?_) (fun K hK=>?_)
  focus
   go_simp
   have g1:=hX.out.vK
   obtain⟨wx1,hw1⟩:∃x,x=wq.alloc (.map #[] 0):=⟨_,rfl⟩
   rw[hsz0]at g1
   try rw[hsz0]
   have hsz1:wx1.heap.size=w9.heap.size+1:=by rw[hw1];simp[hsz0]
   rw[<-hw1]at g1 ⊢
   replace g1:Hid (Sep w0 wx1 (jJ w9.heap.size []::aG q p false::aN p (DK.made n):: .box (w.heap.size+1+1) 106 #[.pointer none,.map none,.map none,iV 0,.bool false,.complex .f64 0 0,iV 0,.complex .f64 0 0]::aI (w.heap.size+1) 0:: .box w.heap.size 24 #[pV (w.heap.size+1+1)]::R)):=Lh g1
   have k1:=hcl.out _ [_,_,_,_,_] g1.out
   clear hw1
   try dsimp only
   refine hK _ _ (fun _=>k1) ?_
   clear hK K
   try simp only[Act.put,gD]
   refine bG 11 fun K hK=>?_
   have y2:=g1.out.bC 3 rfl 0
   have z2:=g1.out.bF 3 rfl 0
   have g2:=g1.out.bS 3 rfl 0 (pV q)
   try simp only[gA,gB,gC]at y2
   go_simp
   obtain⟨wx2,hw2⟩:∃x,x=wx1.setCell ⟨w.heap.size+1+1,0,none⟩ (pV q):=⟨_,rfl⟩
   have hsz2:wx2.heap.size=w9.heap.size+1:=by rw[hw2];simp[hsz1]
   rw[<-hw2]at g2 ⊢
   replace g2:Hid (Sep w0 wx2 (jJ w9.heap.size []::aG q p false::aN p (DK.made n):: .box (w.heap.size+1+1) 106 #[pV q,.map none,.map none,iV 0,.bool false,.complex .f64 0 0,iV 0,.complex .f64 0 0]::aI (w.heap.size+1) 0:: .box w.heap.size 24 #[pV (w.heap.size+1+1)]::R)):=Lh g2
   have k2:=hcl.out _ [_,_,_,_,_] g2.out
   clear hw2
   try dsimp only
   refine hK _ _ (fun _=>k2) ?_
   clear hK K
   try simp only[Act.put,gD]
   refine aA 12 k2 ?_
   refine aA 13 k2 ?_
   refine aA 14 k2 ?_
   refine aA 15 k2 ?_
   refine aA 16 k2 ?_
   refine bG 17 fun K hK=>?_
   have y3:=g2.out.bC 3 rfl 3
   have z3:=g2.out.bF 3 rfl 3
   have g3:=g2.out.bS 3 rfl 3 (.int .i64 names)
   try simp only[gA,gB,gC]at y3
   go_simp
   obtain⟨wx3,hw3⟩:∃x,x=wx2.setCell ⟨w.heap.size+1+1,3,none⟩ (.int .i64 names):=⟨_,rfl⟩
   have akG:wx3.heap.size=w9.heap.size+1:=by rw[hw3];simp[hsz2]
   rw[<-hw3]at g3 ⊢
   replace g3:Hid (Sep w0 wx3 (jJ w9.heap.size []::aG q p false::aN p (DK.made n):: .box (w.heap.size+1+1) 106 #[pV q,.map none,.map none,iV names,.bool false,.complex .f64 0 0,iV 0,.complex .f64 0 0]::aI (w.heap.size+1) 0:: .box w.heap.size 24 #[pV (w.heap.size+1+1)]::R)):=Lh g3
   have k3:=hcl.out _ [_,_,_,_,_] g3.out
   clear hw3
   try dsimp only
   refine hK _ _ (fun _=>k3) ?_
   clear hK K
   try simp only[Act.put,gD]
   refine aA 18 k3 ?_
   refine aA 19 k3 ?_
   refine aA 20 k3 ?_
   refine aA 21 k3 ?_
   refine aA 22 k3 ?_
   refine bG 23 fun K hK=>?_
   have y4:=g3.out.bC 3 rfl 2
   have z4:=g3.out.bF 3 rfl 2
   have g4:=g3.out.bS 3 rfl 2 (.map (some w9.heap.size))
   try simp only[gA,gB,gC]at y4
   go_simp
   obtain⟨wx4,hw4⟩:∃x,x=wx3.setCell ⟨w.heap.size+1+1,2,none⟩ (.map (some w9.heap.size)):=⟨_,rfl⟩
   have aIJ:wx4.heap.size=w9.heap.size+1:=by rw[hw4];simp[akG]
   rw[<-hw4]at g4 ⊢
   replace g4:Hid (Sep w0 wx4 (jJ w9.heap.size []::aG q p false::aN p (DK.made n):: .box (w.heap.size+1+1) 106 #[pV q,.map none,.map (some w9.heap.size),iV names,.bool false,.complex .f64 0 0,iV 0,.complex .f64 0 0]::aI (w.heap.size+1) 0:: .box w.heap.size 24 #[pV (w.heap.size+1+1)]::R)):=Lh g4
   have k4:=hcl.out _ [_,_,_,_,_] g4.out
   clear hw4
   try dsimp only
   refine hK _ _ (fun _=>k4) ?_
   clear hK K
   try simp only[Act.put,gD]
   refine aR fZ ?_ _
   refine⟨rfl,Lh (hfin.out _ g4.out)⟩
  focus
   have y1:=hX.out.bC 2 rfl 0
   have z1:=hX.out.bF 2 rfl 0
   have g1:=hX.out.bS 2 rfl 0 (pV q)
   try simp only[gA,gB,gC]at y1
   go_simp
   obtain⟨wx1,hw1⟩:∃x,x=wq.setCell ⟨w.heap.size+1+1,0,none⟩ (pV q):=⟨_,rfl⟩
   have hsz1:wx1.heap.size=w9.heap.size:=by rw[hw1];simp[hsz0]
   rw[<-hw1]at g1 ⊢
   replace g1:Hid (Sep w0 wx1 (aG q p false::aN p (DK.made n):: .box (w.heap.size+1+1) 106 #[pV q,.map none,.map none,iV 0,.bool false,.complex .f64 0 0,iV 0,.complex .f64 0 0]::aI (w.heap.size+1) 0:: .box w.heap.size 24 #[pV (w.heap.size+1+1)]::R)):=Lh g1
   have k1:=hcl.out _ [_,_,_,_] g1.out
   clear hw1
   try dsimp only
   refine hK _ _ (fun _=>k1) ?_
   clear hK K
   try simp only[Act.put,gD]
   refine aA 12 k1 ?_
   refine aA 13 k1 ?_
   refine aA 14 k1 ?_
   refine aA 15 k1 ?_
   refine aA 16 k1 ?_
   refine kP (i:=5) (j:=17) fZ rfl rfl (fun K hK=>?_) (fun K hK=>?_)
   focus
    go_simp
    have g2:=g1.out.vK
    obtain⟨wx2,hw2⟩:∃x,x=wx1.alloc (.map #[] 0):=⟨_,rfl⟩
    rw[hsz1]at g2
    try rw[hsz1]
    have hsz2:wx2.heap.size=w9.heap.size+1:=by rw[hw2];simp[hsz1]
    rw[<-hw2]at g2 ⊢
    replace g2:Hid (Sep w0 wx2 (jJ w9.heap.size []::aG q p false::aN p (DK.made n):: .box (w.heap.size+1+1) 106 #[pV q,.map none,.map none,iV 0,.bool false,.complex .f64 0 0,iV 0,.complex .f64 0 0]::aI (w.heap.size+1) 0:: .box w.heap.size 24 #[pV (w.heap.size+1+1)]::R)):=Lh g2
    have k2:=hcl.out _ [_,_,_,_,_] g2.out
    clear hw2
    try dsimp only
    refine hK _ _ (fun _=>k2) ?_
    clear hK K
    try simp only[Act.put,gD]
    refine bG 17 fun K hK=>?_
    have y3:=g2.out.bC 3 rfl 3
    have z3:=g2.out.bF 3 rfl 3
    have g3:=g2.out.bS 3 rfl 3 (.int .i64 names)
    try simp only[gA,gB,gC]at y3
    go_simp
    obtain⟨wx3,hw3⟩:∃x,x=wx2.setCell ⟨w.heap.size+1+1,3,none⟩ (.int .i64 names):=⟨_,rfl⟩
    have akG:wx3.heap.size=w9.heap.size+1:=by rw[hw3];simp[hsz2]
    rw[<-hw3]at g3 ⊢
    replace g3:Hid (Sep w0 wx3 (jJ w9.heap.size []::aG q p false::aN p (DK.made n):: .box (w.heap.size+1+1) 106 #[pV q,.map none,.map none,iV names,.bool false,.complex .f64 0 0,iV 0,.complex .f64 0 0]::aI (w.heap.size+1) 0:: .box w.heap.size 24 #[pV (w.heap.size+1+1)]::R)):=Lh g3
    have k3:=hcl.out _ [_,_,_,_,_] g3.out
    clear hw3
    try dsimp only
    refine hK _ _ (fun _=>k3) ?_
    clear hK K
    try simp only[Act.put,gD]
    refine aA 18 k3 ?_
    refine aA 19 k3 ?_
    refine aA 20 k3 ?_
    refine aA 21 k3 ?_
    refine aA 22 k3 ?_
    refine bG 23 fun K hK=>?_
    have y4:=g3.out.bC 3 rfl 2
    have z4:=g3.out.bF 3 rfl 2
    have g4:=g3.out.bS 3 rfl 2 (.map (some w9.heap.size))
    try simp only[gA,gB,gC]at y4
    go_simp
    obtain⟨wx4,hw4⟩:∃x,x=wx3.setCell ⟨w.heap.size+1+1,2,none⟩ (.map (some w9.heap.size)):=⟨_,rfl⟩
    have aIJ:wx4.heap.size=w9.heap.size+1:=by rw[hw4];simp[akG]
    rw[<-hw4]at g4 ⊢
    replace g4:Hid (Sep w0 wx4 (jJ w9.heap.size []::aG q p false::aN p (DK.made n):: .box (w.heap.size+1+1) 106 #[pV q,.map none,.map (some w9.heap.size),iV names,.bool false,.complex .f64 0 0,iV 0,.complex .f64 0 0]::aI (w.heap.size+1) 0:: .box w.heap.size 24 #[pV (w.heap.size+1+1)]::R)):=Lh g4
    have k4:=hcl.out _ [_,_,_,_,_] g4.out
    clear hw4
    try dsimp only
    refine hK _ _ (fun _=>k4) ?_
    clear hK K
    try simp only[Act.put,gD]
    refine aR fZ ?_ _
    refine⟨rfl,Lh (hfin.out _ g4.out)⟩
   focus
    have y2:=g1.out.bC 2 rfl 3
    have z2:=g1.out.bF 2 rfl 3
    have g2:=g1.out.bS 2 rfl 3 (.int .i64 names)
    try simp only[gA,gB,gC]at y2
    go_simp
    obtain⟨wx2,hw2⟩:∃x,x=wx1.setCell ⟨w.heap.size+1+1,3,none⟩ (.int .i64 names):=⟨_,rfl⟩
    have hsz2:wx2.heap.size=w9.heap.size:=by rw[hw2];simp[hsz1]
    rw[<-hw2]at g2 ⊢
    replace g2:Hid (Sep w0 wx2 (aG q p false::aN p (DK.made n):: .box (w.heap.size+1+1) 106 #[pV q,.map none,.map none,iV names,.bool false,.complex .f64 0 0,iV 0,.complex .f64 0 0]::aI (w.heap.size+1) 0:: .box w.heap.size 24 #[pV (w.heap.size+1+1)]::R)):=Lh g2
    have k2:=hcl.out _ [_,_,_,_] g2.out
    clear hw2
    try dsimp only
    refine hK _ _ (fun _=>k2) ?_
    clear hK K
    try simp only[Act.put,gD]
    refine bG 5 fun K hK=>?_
    go_simp
    have g3:=g2.out.vK
    obtain⟨wx3,hw3⟩:∃x,x=wx2.alloc (.map #[] 0):=⟨_,rfl⟩
    rw[hsz2]at g3
    try rw[hsz2]
    have akG:wx3.heap.size=w9.heap.size+1:=by rw[hw3];simp[hsz2]
    rw[<-hw3]at g3 ⊢
    replace g3:Hid (Sep w0 wx3 (jJ w9.heap.size []::aG q p false::aN p (DK.made n):: .box (w.heap.size+1+1) 106 #[pV q,.map none,.map none,iV names,.bool false,.complex .f64 0 0,iV 0,.complex .f64 0 0]::aI (w.heap.size+1) 0:: .box w.heap.size 24 #[pV (w.heap.size+1+1)]::R)):=Lh g3
    have k3:=hcl.out _ [_,_,_,_,_] g3.out
    clear hw3
    try dsimp only
    refine hK _ _ (fun _=>k3) ?_
    clear hK K
    try simp only[Act.put,gD]
    refine aA 18 k3 ?_
    refine aA 19 k3 ?_
    refine aA 20 k3 ?_
    refine aA 21 k3 ?_
    refine aA 22 k3 ?_
    refine bG 23 fun K hK=>?_
    have y4:=g3.out.bC 3 rfl 2
    have z4:=g3.out.bF 3 rfl 2
    have g4:=g3.out.bS 3 rfl 2 (.map (some w9.heap.size))
    try simp only[gA,gB,gC]at y4
    go_simp
    obtain⟨wx4,hw4⟩:∃x,x=wx3.setCell ⟨w.heap.size+1+1,2,none⟩ (.map (some w9.heap.size)):=⟨_,rfl⟩
    have aIJ:wx4.heap.size=w9.heap.size+1:=by rw[hw4];simp[akG]
    rw[<-hw4]at g4 ⊢
    replace g4:Hid (Sep w0 wx4 (jJ w9.heap.size []::aG q p false::aN p (DK.made n):: .box (w.heap.size+1+1) 106 #[pV q,.map none,.map (some w9.heap.size),iV names,.bool false,.complex .f64 0 0,iV 0,.complex .f64 0 0]::aI (w.heap.size+1) 0:: .box w.heap.size 24 #[pV (w.heap.size+1+1)]::R)):=Lh g4
    have k4:=hcl.out _ [_,_,_,_,_] g4.out
    clear hw4
    try dsimp only
    refine hK _ _ (fun _=>k4) ?_
    clear hK K
    try simp only[Act.put,gD]
    refine aR fZ ?_ _
    refine⟨rfl,Lh (hfin.out _ g4.out)⟩
  --ways>>
 intro W hW0;have hlt0:98+(names+7)/8<n:=by omega
 simp only[jT];exact hK1 _ _ (agE hlt0 h1 h2 h3 hW0.out)
end
end Go.Proofs.YteihmbaimbogaaaGreat
