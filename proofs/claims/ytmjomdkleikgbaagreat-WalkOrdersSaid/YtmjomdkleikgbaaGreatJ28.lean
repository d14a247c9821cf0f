/- Parts. -/
import Derived.Test.YtmjomdkleikgbaaGreatJ27
set_option linter.unusedVariables false
set_option linter.unusedSimpArgs false
set_option maxRecDepth 100000
set_option maxHeartbeats 20000000
namespace Go.Proofs.YtmjomdkleikgbaaGreat
open Go.RowKit
def MO :List UInt8:=[115,104,117,110,116,45,118,111,108,117,109,101,45,49,33,10]
def l6 (names:Nat):List UInt8:=dP (dP bV 0 MO) 16 (w2 names)
theorem PZ (names:Nat):(l6 names).length=512:=by
 unfold l6;have h:(dP bV 0 MO).length=512:=by rw[fD]<;>rw[fH];decide
 rw[fD (by rw[h,rJ];decide),h]
def VS.raw (n names:Nat):VS:=⟨n,names,DK.made n,(DK.made n).now.drop 96,0,0,0,0,0,0⟩
def VS.laid (n names:Nat):VS:=(((VS.raw n names).put 0 (l6 names)).put 1 (kL (bk ((VS.raw n names).put 0 (l6 names)).cur 1) 0)).keep 0 ⟨1,0,0,0,[0]⟩
def VS.new (n names:Nat):VS:= {(VS.laid n names).settled with rB:=(VS.laid n names).count,rI:=names}
theorem abR :∀args w,(callFunc 92 args).run Tryz.prog w= .ok (.enter 92 args) w:=Go.Proofs.enters_of Tryz.func92 fT rfl
theorem akU {w:World} {be bl:Nat} {u:FrameMode} (hc:w.cell? ⟨be,0,none⟩=some (iV 0)):
  CallsD Tryz.prog 92 #[pV be,pV bl] u w fun e u' w'=>u'=u/\e= .returned (.tuple #[])/\w'=w:=by
 refine(callsD_of_wp (R:=fun e w'=>e= .returned (.tuple #[])/\w'=w) Tryz.func92 rfl ?_).mono ?_
 ·simp only[Tryz.ntmps92,kJ,kM,rF,Nat.reduceAdd,Nat.reduceSub,yZ,y7,y9,y8,mP,kN];go_wp2_with fail
  go_end0
  exact⟨rfl,rfl⟩
 rintro e u' w' ⟨h1,h2,h3⟩;exact⟨h1,h2,h3⟩
theorem XX {n:Nat} (h0:1<=n) (h1:n<=4096):(DK.made n).ok n:=
 ⟨(yD n).set 0 (oH (ps:=[]) aR),(yD n).set 0 (oH (ps:=[]) aR),h1,h0,fun x hx=>absurd hx DF,by show(-1:Int)<= -1/\(-1:Int)<=9223372036854775807;omega⟩
theorem atC {n i:Nat} (h:i<n) (h0:0<i):bk (DK.made n).now i=bV:=by unfold DK.made;simp only;rw[dJ _ _ aI,ao0 h]
theorem ao1 {n names fb:Nat} (h0:98+(names+7)/8<n) (h1:n<=4096):VC (VS.raw n names) ⟨none,[],fb,[]⟩:=
 ⟨XX (n:=n) aI h1,by show 96<n;omega,rfl,(XX (n:=n) aI h1).now.drop 96,fun x hx=>absurd hx DF,fun x hx=>absurd hx DF,fun k _ _=>CF _ _ _,iU _,fun _=>rfl⟩
theorem ao2 {n names:Nat} (h0:98+(names+7)/8<n) (h3:names<=1024):VF (VS.raw n names):=⟨h3,by show 96+(2+(names+7)/8)<n;omega⟩
theorem Z46 {P:Prop} (h:P:=by
 show(DK.step _).off=_/\(DK.step _).left=_
 unfold DK.step;rw[if_neg (by simp only;omega)];exact⟨ho,rfl⟩):P:=h
theorem ao3 {D:DK} (x:rZ) (ho:D.off=false) (hl:D.left<0):(D.act x).off=false/\(D.act x).left=D.left:=by
 cases x with
 |none=>exact Z46
 |some x=>exact Z46
theorem UU :∀(l:List rZ) {D:DK},D.off=false->D.left<0->(kF l D).2=true/\(kF l D).1.off=false/\(kF l D).1.left=D.left
 |[],D,ho,_=>⟨rfl,ho,rfl⟩
 |x::l,D,ho,hl=>by obtain⟨h1,h2⟩:=ao3 x ho hl;rw[kF,if_neg (by rw[ho];decide)];obtain⟨h3,h4,h5⟩:=UU l h1 (by rw[h2];exact hl);exact⟨h3,h4,h5.trans h2⟩
theorem vS {S:VS} (ho:S.D.off=false) (hl:S.D.left<0):S.bI.2=true/\S.bI.1.off=false/\S.bI.1.left=S.D.left:=by
 unfold VS.bI;split
 ·exact⟨rfl,ho,rfl⟩
 exact UU _ ho hl
theorem UW {n:Nat} (h:0<n):jO bV n=some 0:=by unfold jO;rw[ag1];exact⟨by decide,List.mem_range.2 h,fun i hi=>absurd hi (FL _)⟩
theorem JP {n names k:Nat} (h:96+k<n):bk (VS.raw n names).cur k=bV:=by
 show bk ((DK.made n).now.drop 96) k=_
 rw[CF,atC h aI]
theorem abS {c:fK} {n:Nat} (h:bk c (2+n/8)=bV):aF c n=⟨0,0,0,0,[]⟩:=by
 unfold aF;rw[h];have e:(bV.drop (n%8*64)).take 64=List.replicate 64 0:=by unfold bV;rw[List.drop_replicate,List.take_replicate,show min 64 (512-n%8*64)=64 by omega]
 rw[e];rfl
section
variable {w0 W:World} {R:List aV}
noncomputable def P5 (k:Nat):Code:=(Tryz.f38.body.bind (ahP k)).getD .skip
theorem abT {p n names F bf be q fb:Nat} {u2 u3 u7 u8 u9 u10 u11 u12 u13 u14 u15 u16 u17 u18 u19 u20 u21 u22 u23 u24 u25 u26 u27 u28 u29 u30 u31 u32 u33 u34 u35 u36 u37 u38 u39 u40 u41 u42 u43 u44 u45 u46 u47 u48 u49 u50 u51 u52 u53 u54 u55 u56 u57 u58 u59 u60 u61 u62 u63 u64 u65 u66 u67 u68 u69 u70 u71 u72 u73 u74 u75 u76 u77 u78 u79 u80 u81 u82 u83 u84 u85 u86 u87 u88 u89 u90 u91 u92 u93 u94 u95 u96 u97 u98 u99 aFX aFY aFZ aF0 aF1 u105 aF2 aF3 aF4 aF5 aF6 aF7 aF8:Value} (h0:98+(names+7)/8<n) (h1:n<=4096) (h2:2<=names) (h3:names<=1024) (hW:Sep w0 W (aD F q p (VS.raw n names) ⟨none,[],fb,[]⟩::aH be 0:: .box bf 37 #[pV F]::R)):
  (P5 13).wp Tryz.prog (bodyPostD Tryz.prog Tryz.f38 (fun e w'=>∃f q,e= .returned (.tuple #[pV f,iV 0])/\Sep w0 w' (bE f q p (VS.new n names)::R))) {tmps:=#[pV p,iV names,u2,u3,pV bf,pV be,pV q,u7,u8,u9,u10,u11,u12,u13,u14,u15,u16,u17,u18,u19,u20,u21,u22,u23,u24,u25,u26,u27,u28,u29,u30,u31,u32,u33,u34,u35,u36,u37,u38,u39,u40,u41,u42,u43,u44,u45,u46,u47,u48,u49,u50,u51,u52,u53,u54,u55,u56,u57,u58,u59,u60,u61,u62,u63,u64,u65,u66,u67,u68,u69,u70,u71,u72,u73,u74,u75,u76,u77,u78,u79,u80,u81,u82,u83,u84,u85,u86,u87,u88,u89,u90,u91,u92,u93,u94,u95,u96,u97,u98,u99,aFX,aFY,aFZ,aF0,aF1,u105,aF2,aF3,aF4,aF5,aF6,aF7,aF8],defers:=[{target:=.fn (.func 52) #[],args:=#[pV F,pV be]},{target:=.fn (.func 92) #[pV be,pV bf],args:=#[]}]} W:=by
 obtain⟨h1,h2,h3⟩:(n<=4096)/\2<=names/\names<=1024:=⟨h1,h2,h3⟩;obtain⟨k0,o7,hk0,hk1,hk2⟩:=iN lW;have hmk:∀W,(Instr.makeSlice 69 (.int .i64 512) (.int .i64 512)).run Tryz.prog W= .ok (sV W.heap.size 512 512) (W.alloc (.cells (madeCells #[.int .u8 0] 512) 5)):=fun W=>qB (P:=Tryz.prog) 69 5 k0 (.int .u8 0) 1 Tryz.underlying69 o7 hk0 hk1 hk2 rfl .i64 .i64 512 aI vE W
 obtain⟨Z,hZ⟩:∃Z,Z=aH be 0:: .box bf 37 #[pV F]::R:=⟨_,rfl⟩;have hcz:Hid (∀W Y,Sep w0 W (Y++Z)->W.cell? ⟨bf,0,none⟩=some (pV F)/\W.cell? ⟨be,0,none⟩=some (iV 0)):=Lh fun W Y hW=>by rw[hZ]at hW;exact⟨hW.dL 1 rfl 0,hW.dL 0 rfl 0⟩
 rw[<-hZ]at hW;have hE:=hW.made 5 (.int .u8 0) 512 vE;obtain⟨w1,hcp,hS1,_⟩:=hE.zR (P:=Tryz.prog) 0 rfl 69 9 3 Tryz.underlying69 fT 0 512 512 ⟨#[115,104,117,110,116,45,118,111,108,117,109,101,45,49,33,10]⟩ aR aR;have hS2:Sep w0 w1 (aJ (sV W.heap.size 512 512) (dP bV 0 MO)::aD F q p (VS.raw n names) ⟨none,[],fb,[]⟩::Z):=by rw[bT (by rw[fD,fH];rw[fH];decide)];exact hS1
 have hw2:=EG (g:=W.heap.size) (c:=512) (o:=0) (m:=512) (cap:=512) (i:=16) (n:=names) hS2 (by rw[fD,fH];rw[fH];decide) aR aR aI;rw[show dP (dP bV 0 MO) (0+16) (w2 names)=l6 names from rfl]at hw2;have hlt0:98+(names+7)/8<n:=by omega
 have ao4:VC (VS.raw n names) ⟨none,[],fb,[]⟩:=ao1 hlt0 h1;have aw8:=ao2 hlt0 h3;have aA2:Hid (∀W2,Sep w0 W2 (aJ (sV W.heap.size 512 512) (l6 names)::aD F q p (VS.raw n names) ⟨none,[],fb,[]⟩::Z)->Calls Tryz.prog 98 #[pV F,iV 0,sV W.heap.size 512 512] W2 fun e w'=>e= .returned (.tuple #[])/\∃a1,VC ((VS.raw n names).put 0 (l6 names)) a1/\Sep w0 w' (aD F q p ((VS.raw n names).put 0 (l6 names)) a1::Z)):=Lh fun W2 hW2=>by have h5:=((hW2.perm (List.Perm.swap _ _ _)).WL ao4 0).perm (List.Perm.swap _ _ _);refine(xP (i:=0) ao4 (by show 0<n-96;omega) h5).mono ?_;rintro e w' ⟨rfl,h6⟩;exact⟨rfl,_,ao4.put _ (by show 0<n-96;omega) (PZ names),h6⟩
 obtain⟨S1,EP⟩:∃S1,S1=(VS.raw n names).put 0 (l6 names):=⟨_,rfl⟩;rw[<-EP]at aA2;have atD:VF S1:=by rw[EP];exact⟨aw8.names,aw8.room⟩
 have hb1:bk S1.cur 1=bV:=by rw[EP];(show bk ((VS.raw n names).cur.set 0 _) 1=_);rw[dJ _ _ aR,JP aI]
 have hcn:0<S1.count:=by rw[EP];show 0<n-96-(2+(names+7)/8);omega
 have aw9:jM S1 [] 1=some (S1.put 1 (kL (bk S1.cur 1) 0),[0]):=by rw[O0,hb1,UW hcn]
 obtain⟨S2,JQ⟩:∃S2,S2=S1.put 1 (kL (bk S1.cur 1) 0):=⟨_,rfl⟩;rw[<-JQ]at aw9;have atE:VF S2:=by rw[JQ];exact⟨atD.names,atD.room⟩
 obtain⟨S3,SE⟩:∃S3,S3=S2.keep 0 ⟨1,0,0,0,[0]⟩:=⟨_,rfl⟩;have hnew:VS.new n names= {S3.settled with rB:=S3.count,rI:=names}:=by rw[SE,JQ,EP];rfl
 have hi2:aF S2.cur 0=⟨0,0,0,0,[]⟩:=by refine abS ?_;rw[JQ];(show bk (S1.cur.set 1 _) 2=_);rw[dJ _ _ aR,EP];(show bk ((VS.raw n names).cur.set 0 _) 2=_);rw[dJ _ _ aR,JP aI]
 have aA3:fF S2:=by rw[JQ,EP];exact⟨by show(-1000000:Int)<=0;decide,by show(0:Int)<=1000000;decide,by show(-1000000:Int)<=0;decide,by show(0:Int)<=1000000;decide⟩
 have EH:Hid (∀W2 a1 bx,VC S1 a1->Sep w0 W2 (.box bx 129 #[iV 1,iV 0,iV 0,iV 0,.slice none 0 0]::aD F q p S1 a1::Z)->Calls Tryz.prog 99 #[pV F,pV bx,iV 1] W2 fun e w'=>e= .returned (.tuple #[])/\∃a2 A c,VC S2 a2/\Sep w0 w' (aD F q p S2 a2:: .box bx 129 #[iV 1,iV 0,iV 0,iV 0,.slice A 1 c]::aQ (.slice A 1 c) (dX [0])::Z)):=Lh fun W2 a1 bx hC hW2=>by have h5:Sep w0 W2 (aD F q p S1 a1:: .box bx 129 (aM ⟨1,0,0,0,[]⟩ (.slice none 0 0))::aQ (.slice none 0 0) (dX [])::Z):=Sep.dC [2,1,0] (hW2.iO 3 1) aR bK;refine(xS (x:=⟨1,0,0,0,[]⟩) (n:=1) hC atD aR aR (fun s hs=>by cases hs) h5).mono ?_;intro e w' ho;unfold o9 at ho;simp only[aw9]at ho;obtain⟨rfl,a2,v,_,hC2,h6⟩:=ho;obtain⟨A,c,e9⟩:=h6.dS 2 rfl;have e10:(dX [0]).length=1:=rfl;rw[e10]at e9;subst e9;exact⟨rfl,a2,A,c,hC2,h6⟩
 have rM:Hid (∀W2 a2 bx A c,VC S2 a2->Sep w0 W2 (aD F q p S2 a2:: .box bx 129 #[iV 1,iV 0,iV 0,iV 0,.slice A 1 c]::aQ (.slice A 1 c) (dX [0])::Z)->Calls Tryz.prog 100 #[pV F,iV 0,.agg #[iV 1,iV 0,iV 0,iV 0,.slice A 1 c]] W2 fun e w'=>e= .returned (.tuple #[])/\∃a3,VC S3 a3/\Sep w0 w' (aD F q p S3 a3:: .box bx 129 #[iV 1,iV 0,iV 0,iV 0,.slice A 1 c]::aQ (.slice A 1 c) (dX [0])::Z)):=Lh fun W2 a2 bx A c hC hW2=>by refine(tN (n:=0) (x:=⟨1,0,0,0,[0]⟩) (v:=.slice A 1 c) hC atE (by rw[JQ,EP];show 0<names;omega) ⟨by decide,by decide,by decide,by decide,by decide,fun k hk=>by simp at hk;omega⟩ (by rw[hi2];decide) aA3 (jB 1 rfl) hW2).mono ?_;rintro e w' ⟨rfl,a3,WN,h6⟩;rw[<-SE]at WN h6;exact⟨rfl,a3,WN,h6⟩
 have hlive:=vS (S:=S3) (by rw[SE,JQ,EP];rfl) (by rw[SE,JQ,EP];show(-1:Int)<0;decide);have av0:Hid (∀W2 a3,VC S3 a3->Sep w0 W2 (aD F q p S3 a3::Z)->Calls Tryz.prog 101 #[pV F] W2 fun e w'=>e= .returned (.tuple #[])/\∃a4,VC S3.settled a4/\Sep w0 w' (aD F q p S3.settled a4::Z)):=Lh fun W2 a3 hC hW2=>by refine(NW hC (by rw[SE,JQ,EP];show(0+1+1+1:Nat)<=40;decide) (by rw[SE,JQ,EP];show(0:Nat)<=60000;decide) hW2).mono ?_;intro e w' ho;unfold mQ at ho;rw[if_pos hlive.1]at ho;obtain⟨rfl,a4,hV4,h6⟩:=ho;exact⟨rfl,a4,hV4.on hlive.2.1,h6⟩
 have aA4:VF S3.settled:=by rw[SE];exact⟨atE.names,atE.room⟩
 have hsy2:Hid (∀W2 a4,VC S3.settled a4->Sep w0 W2 (aD F q p S3.settled a4::Z)->Calls Tryz.prog 102 #[pV q] W2 fun e w'=>e= .returned (iV 0)/\Sep w0 w' (aD F q p S3.settled a4::Z)):=Lh fun W2 a4 hC hW2=>by have h5:=hW2.bD;have hoff:S3.settled.D.off=false:=hlive.2.1;have:=CG (q:=q) (p:=p) (dead:=false) hC.oU (Sep.dC [1,2,0,3,4] h5 aR (by simp[o8]):Sep w0 W2 (aG q p false::aN p S3.settled.D::kP F q S3.settled a4.sb (.map (some a4.fb)) false::eT a4.sb a4.SM::jF a4.fb a4.FM::Z));rw[hoff]at this;refine this.mono ?_;rintro e w' ⟨rfl,h9⟩;refine⟨rfl,?_⟩;have h6:Sep w0 w' (o8 F q p S3.settled a4++Z):=Sep.dC [2,0,1,3,4] h9 aR bK;exact h6.cZ
 have GN:Hid (∀W2 a4,VC S3.settled a4->Sep w0 W2 (aD F q p S3.settled a4::Z)->Calls Tryz.prog 86 #[pV F] W2 fun e w'=>e= .returned (iV S3.count)/\w'=W2):=Lh fun W2 a4 hC hW2=>JR (S:=S3.settled) hC aA4 hW2
 have hrm:Hid (∀W2 a4,VC S3.settled a4->Sep w0 W2 (aD F q p S3.settled a4::Z)->W2.frozen? ⟨F,7,none⟩=false/\W2.cell? ⟨F,7,none⟩=some (.complex .f64 (fI S3.rB) (fI S3.rI))/\Sep w0 (W2.setCell ⟨F,7,none⟩ (.complex .f64 (fI (S3.count:Int)) (fI (names:Int)))) (bE F q p (VS.new n names)::Z)):=Lh fun W2 a4 hC hW2=>by have h5:=hW2.bD;refine⟨h5.bF 0 rfl 7,h5.bC 0 rfl 7,?_⟩;have h6:=h5.bS 0 rfl 7 (.complex .f64 (fI (S3.count:Int)) (fI (names:Int)));(have h7:Sep w0 (W2.setCell ⟨F,7,none⟩ (.complex .f64 (fI (S3.count:Int)) (fI (names:Int)))) (o8 F q p (VS.new n names) a4++Z):=by rw[hnew];exact h6);(have dQ:VC (VS.new n names) a4:=by rw[hnew];exact⟨hC.oU,hC.big,hC.on,hC.cur,hC.seen,hC.fresh,hC.rest,hC.few,hC.none⟩);refine oN dQ ?_ h7.cZ;rw[hnew];exact KR hlive.1 (by rw[SE,JQ,EP];rfl)
 have hcount:(S3.count:Int)<=4096:=by rw[SE,JQ,EP];show((n-96-(2+(names+7)/8):Nat):Int)<=4096;omega
 have aA5:=Lh ao4;clear ao4 aA5 aw8 atD atE hb1 hcn aw9 hi2 aA3 hlive aA4 hS1 hE hW EP JQ SE hlt0 hnew;unfold P5
 conv=>arg 2;whnf
 go_wp2_with(first |(go_at_call 97;refine hw2.mono ?_;rintro e w2 ⟨rfl,h2⟩;(obtain⟨y0,y1⟩:=hcz.out _ [_,_] h2);(have hp2:=aA2.out _ h2);clear hw2 h2)|(go_at_call 98;refine hp2.mono ?_;rintro e w3 ⟨rfl,a1,kE,h3⟩;(have h4:=h3.bN 129 #[iV 1,iV 0,iV 0,iV 0,.slice none 0 0]);(obtain⟨x0,x1⟩:=hcz.out _ [_,_] h4);(have hf4:=EH.out _ _ _ kE h4);clear hp2 h3 h4 y0 y1 kE)|(go_at_call 99;refine hf4.mono ?_;rintro e w5 ⟨rfl,a2,A5,c5,hC2,h5⟩;replace h5:=Lh h5;replace hC2:=Lh hC2;clear hf4 x0 x1));obtain⟨bx,hbx⟩:∃bx,bx=w3.heap.size:=⟨_,rfl⟩;rw[<-hbx]at h5 ⊢;clear hbx;have hE:=h5.out.drew;have hc19:=hcz.out _ [_,_,_] hE;have ae6:=And.intro hc19.1 (And.intro (hE.bC 1 rfl 0) (And.intro (hE.bC 1 rfl 1) (And.intro (hE.bC 1 rfl 2) (And.intro (hE.bC 1 rfl 3) (hE.bC 1 rfl 4)))));simp only[gA,gB,gC]at ae6;have hk5:=rM.out _ _ _ _ _ hC2.out hE;clear hE hc19 h5 hC2 rM;refine kH ?_;refine aO (S:=fun w'=>w'.cell? ⟨bf,0,none⟩=some (pV F)/\w'.cell? ⟨bx,0,none⟩=some (iV 1)/\w'.cell? ⟨bx,1,none⟩=some (iV 0)/\w'.cell? ⟨bx,2,none⟩=some (iV 0)/\w'.cell? ⟨bx,3,none⟩=some (iV 0)/\w'.cell? ⟨bx,4,none⟩=some (.slice A5 1 c5)) 6 ?_;refine aA 0 ae6 ?_;refine aA 1 ae6 ?_;refine aA 2 ae6 ?_;refine aA 3 ae6 ?_;refine aA 4 ae6 ?_;refine bH 5 fun K hK=>?_
 go_simp;go_at_call 100;refine hk5.mono ?_;rintro e w6 ⟨rfl,a3,WN,h6⟩;obtain⟨y0,y1⟩:=hcz.out _ [_,_,_] h6;have hs6:=av0.out _ _ WN ((Sep.dC [1,2,0] h6 aR bK).drop 2);have hE6:=And.intro y0 (And.intro (h6.bC 1 rfl 0) (And.intro (h6.bC 1 rfl 1) (And.intro (h6.bC 1 rfl 2) (And.intro (h6.bC 1 rfl 3) (h6.bC 1 rfl 4)))));simp only[gA,gB,gC]at hE6;clear ae6 hk5 h6 WN av0;dsimp only;refine hK _ _ (fun _=>hE6) ?_;clear hK K;try simp only[Act.put,gD]
 refine aS fT ?_ _;simp only[nU];go_wp2_with(first |(go_at_call 101;refine hs6.mono ?_;rintro e w7 ⟨rfl,a4,RA,h7⟩;(have hy7:=hsy2.out _ _ RA h7);replace RA:=Lh RA;clear hs6 h7 y0 y1)|(go_at_call 102;refine hy7.mono ?_;rintro e w8 ⟨rfl,h8⟩;(have aF9:=(hcz.out _ [_] h8.drew).1);replace h8:=Lh h8;clear hy7)|(go_at_call 54;refine(dO _ _).mono ?_;rintro e w9 ⟨rfl,h9⟩;obtain rfl:=h9.symm));refine kH ?_;refine eO (S:=fun w'=>w'.cell? ⟨bf,0,none⟩=some (pV F)) 14 fT ?_;intro wq hwq;have h9:Hid (Sep w0 wq (aD F q p S3.settled a4::Z)):=by rw[hwq];exact Lh h8.out.drew
 clear hwq h8 aF9;have gU:=(hcz.out _ [_] h9.out).1;have axA:=GN.out _ _ RA.out h9.out;obtain⟨f7,c7,hR7⟩:=hrm.out _ _ RA.out h9.out;have hst:=fun x y=>wT x y c7 f7
 have aA6:=(hcz.out _ [_] hR7).1;simp only[kJ,kM,rF,Nat.reduceAdd];obtain⟨M,hM⟩:∃M,M=S3.count:=⟨_,rfl⟩;rw[<-hM]at axA hR7 hcount aA6;have hend:Hid (Sep w0 (wq.setCell ⟨F,7,none⟩ (.complex .f64 (fI (M:Int)) (fI (names:Int)))) (bE F q p (VS.new n names)::Z)):=Lh hR7;clear hR7 hM h9 GN hrm RA;refine aA 0 gU ?_;refine aA 1 gU ?_;refine aA 2 gU ?_;refine aA 3 gU ?_;refine aA 4 gU ?_;refine aA 5 gU ?_;refine aA 8 gU ?_;refine aA 9 gU ?_;refine bH 6 fun K hK=>?_
 go_simp;go_at_call 86;refine axA.mono ?_;rintro e w7 ⟨rfl,h7⟩;obtain rfl:=h7.symm;dsimp only;refine hK _ _ (fun _=>gU) ?_;clear hK K;try simp only[Act.put,gD]
 refine bG 7 (fun _=>gU) ?_;refine bG 10 (fun _=>gU) ?_;refine bG 11 (fun _=>gU) ?_;refine bG 12 (fun _=>gU) ?_;refine bH 13 fun K hK=>?_
 go_simp;have hfo:∀z:Int,floatOfInt FloatKind.f64 z=fI z:=fun _=>rfl
 rw[hfo,hfo];refine hK _ _ (fun _=>aA6) ?_;clear hK K;try simp only[Act.put,gD]
 refine aS fT ?_ _;simp only[nU];have hE:=hend.out;rw[hZ]at hE;have d1:=hE.bF 2 rfl 0;have hE2:=hE.bS 2 rfl 0 (pV F);have d2:=hE2.bC 1 rfl 0;have d3:=hE2.bF 1 rfl 0;have UG:=Lh (hE2.bS 1 rfl 0 (.int .i64 0));clear hE hE2 hend hst c7 f7 gU axA hcz;go_wp2_with fail;refine gY ?_;have ec:=UG.out.bC 1 rfl 0;have el:=UG.out.bC 2 rfl 0;try simp only[gA,gB]at ec el
 refine leaves_cons (u:=.returning) bK (tT _ _ abR) ?_;refine(akU ec).mono ?_;rintro e u' w' ⟨rfl,rfl,rfl⟩;refine⟨.tuple #[pV F,iV 0],by simp[results,Tryz.results38,go_sem,ec,el],F,rfl,q,?_⟩;exact(Sep.dC [1,2,0] UG.out aR bK:Sep w0 _ (_::_::bE F q p (VS.new n names)::R)).drop 2
end
end Go.Proofs.YtmjomdkleikgbaaGreat
namespace Go.Proofs.YtmjomdkleikgbaaGreat
theorem dB.same {S T:VS} {g:LT} (h:dB S g) (h1:T.nb=S.nb) (h2:T.names=S.names) (h3:T.cur=S.cur) (h4:T.wB=S.wB) (h5:T.wI=S.wI) (h6:T.nodes=S.nodes):dB T g:=by obtain⟨nb,names,D,cur,wB,wI,nodes,rB,rI,m⟩:=S;obtain⟨nb',names',D',cur',wB',wI',nodes',rB',rI',m'⟩:=T;simp only at h1 h2 h3 h4 h5 h6;subst h1 h2 h3 h4 h5 h6;exact⟨⟨h.use.cur,⟨h.use.vf.names,h.use.vf.room⟩,h.use.nb⟩,h.n0,h.fair,h.head,h.len,h.lt,h.nodup,h.dis,h.bits,h.bB,h.data,h.wB,h.wI,h.nodes⟩
theorem dB.first {S:VS} {g:LT} (h:dB S g) {b:List UInt8} (hb:b.length=512):dB (S.put 0 b) g:=by
 have hne:∀k,k≠0->bk (S.put 0 b).cur k=bk S.cur k:=fun k hk=>dJ _ _ hk
 have hin:∀n,aF (S.put 0 b).cur n=aF S.cur n:=fun n=>by unfold aF;rw[hne _ aI]
 have hbit:∀j,(S.put 0 b).bit j=S.bit j:=fun j=>by(show oV (bk (S.put 0 b).cur 1) j=oV (bk S.cur 1) j);rw[hne _ aI]
 have hdat:∀s,bk (S.put 0 b).cur (S.data+s)=bk S.cur (S.data+s):=fun s=>hne _ (by unfold VS.data;omega)
 refine⟨h.use.put 0 hb,h.n0,h.fair,fun n hn=>?_,fun n hn=>?_,fun n hn=>?_,fun n hn=>?_,fun n hn m hm e=>?_,fun j hj=>?_,fun n hn hk=>?_,fun n hn hk=>?_,h.wB,h.wI,h.nodes⟩
 ·rw[hin];exact h.head n hn
 ·rw[hin];exact h.len n hn
 ·rw[hin];exact h.lt n hn
 ·rw[hin];exact h.nodup n hn
 ·rw[hin,hin];exact h.dis n hn m hm e
 ·rw[hbit];refine(h.bits j hj).trans ⟨fun⟨n,hn,e⟩=>⟨n,hn,by rw[hin];exact e⟩,fun⟨n,hn,e⟩=>⟨n,hn,by rw[hin]at e;exact e⟩⟩
 ·rw[hin];(have e:=EK (c:=S.cur) (c':=(S.put 0 b).cur) (d:=S.data) (x:=aF S.cur n) (h.WW hn hk) fun s _=>hdat s);exact e.trans (h.bB n hn hk)
 rw[hin];have e:=vZ (c:=S.cur) (c':=(S.put 0 b).cur) (d:=S.data) (x:=aF S.cur n) fun s _=>hdat s
 exact e.trans (h.data n hn hk)
section
variable {n names:Nat}
theorem ao5 (j:Nat):oV bV j=false:=by
 unfold oV bV;by_cases h:j/8<512
 ·rw[gH,List.getElem?_replicate,if_pos h];simp
 rw[gH,EE (by rw[EF];omega)];simp
theorem ao6 (h0:98+(names+7)/8<n) (h1:n<=4096) (h2:2<=names) (h3:names<=1024):dB (VS.raw n names) fun _=>LI0:=by
 have hin:∀i<names,aF (VS.raw n names).cur i=⟨0,0,0,0,[]⟩:=fun i hi=>abS (JP aI)
 have hz:∀i<names,(aF (VS.raw n names).cur i).aB=[]:=fun i hi=>by rw[hin i hi]
 refine⟨⟨(ao1 (fb:=0) h0 h1).cur,ao2 h0 h3,h1⟩,by show 0<names;omega,fun _ _=>aa0,fun i hi=>?_,fun i hi=>?_,fun i hi s hs=>?_,fun i hi=>?_,fun i hi m hm _ s hs=>?_,fun j hj=>?_,fun i hi hk=>?_,fun i hi hk=>?_,?_,?_,?_⟩
 ·rw[hin i hi];rfl
 ·rw[hz i hi];rfl
 ·rw[hz i hi]at hs;cases hs
 ·rw[hz i hi];exact TL
 ·rw[hz i hi]at hs;cases hs
 ·(have e:(VS.raw n names).bit j=false:=by(show oV (bk (VS.raw n names).cur 1) j=false);rw[JP aI,ao5]);rw[e];constructor
  ·intro e2;cases e2
  rintro⟨i,hi,e2⟩;rw[hz i hi]at e2;cases e2
 ·cases hk
 ·cases hk
 ·exact(CR fun i _=>rfl).symm
 ·exact(CR fun i _=>rfl).symm
 exact(CR fun i _=>rfl).symm
def ah9 :LT:=dM (fun _=>LI0) 0 ⟨1,0,0,[],[]⟩
theorem ao7 :∀ {c:fK} {i:Nat},i<c.length->c.set i (bk c i)=c:=fun {c i} h=>by
 refine TK (IY ..) fun k h1 h2=>?_
 rw[List.getElem_set];split
 ·rename_i e;subst e;unfold bk;rw[gH,gE h2];rfl
 rfl
theorem akV (h0:98+(names+7)/8<n) (h1:n<=4096) (h2:2<=names) (h3:names<=1024):dB (VS.laid n names) ah9:=by
 have hp:=ao6 h0 h1 h2 h3;have hp1:=hp.first (PZ names);obtain⟨S,hS⟩:∃S,S=(VS.raw n names).put 0 (l6 names):=⟨_,rfl⟩;rw[<-hS]at hp1;have hcnt:0<S.count:=by rw[hS];show 0<n-96-(2+(names+7)/8);omega
 have hb1:bk S.cur 1=bV:=by rw[hS];(show bk ((VS.raw n names).cur.set 0 _) 1=_);rw[dJ _ _ aR,JP aI]
 have hfree:jO (bk S.cur 1) S.count=some 0:=by rw[hb1];exact UW hcnt
 have hN:=(hp1.aoB (n:=0) (mode:=0) (links:=0) (by rw[hS];show 0<names;omega) rfl aR aR).1 0 hfree;have hdata:bk (S.put 1 (kL (bk S.cur 1) 0)).cur (S.data+0)=bV:=by(show bk (S.cur.set 1 _) (S.data+0)=_);rw[dJ _ _ (by unfold VS.data;omega),hS];(show bk ((VS.raw n names).cur.set 0 _) (2+(names+7)/8+0)=_);rw[dJ _ _ aI,JP aI]
 have hlen:S.data+0<(S.put 1 (kL (bk S.cur 1) 0)).cur.length:=by have:=(hp1.use.cur).len;(show S.data+0<(S.cur.set 1 _).length);rw[IY,this,hS];(show 2+(names+7)/8+0<n-96);omega
 have aA7:(fV S 0).cur=(S.put 1 (kL (bk S.cur 1) 0)).cur:=by(show(S.put 1 (kL (bk S.cur 1) 0)).cur.set (S.data+0) bV=_);have:=ao7 hlen;rw[hdata]at this;exact this
 have nH:aF (fV S 0).cur 0=aF (S.put 1 (kL (bk S.cur 1) 0)).cur 0:=by rw[aA7]
 refine hN.same ?_ ?_ ?_ ?_ ?_ ?_
 ·rw[hS];rfl
 ·rw[hS];rfl
 ·(show tY ((VS.raw n names).put 0 (l6 names)|>.put 1 (kL (bk ((VS.raw n names).put 0 (l6 names)).cur 1) 0)).cur 0 ⟨1,0,0,0,[0]⟩=tY (fV S 0).cur 0 ⟨1,0,0,0,[0]⟩);rw[aA7,hS]
 ·(show(VS.raw n names).wB-fJ (aF (((VS.raw n names).put 0 (l6 names)).put 1 (kL (bk ((VS.raw n names).put 0 (l6 names)).cur 1) 0)).cur 0).kind (aF (((VS.raw n names).put 0 (l6 names)).put 1 (kL (bk ((VS.raw n names).put 0 (l6 names)).cur 1) 0)).cur 0).size+fJ 1 0=S.wB-fJ (aF (fV S 0).cur 0).kind (aF (fV S 0).cur 0).size+fJ 1 0);rw[nH,hS];rfl
 ·(show(VS.raw n names).wI-nG (aF (((VS.raw n names).put 0 (l6 names)).put 1 (kL (bk ((VS.raw n names).put 0 (l6 names)).cur 1) 0)).cur 0).kind+nG 1=S.wI-nG (aF (fV S 0).cur 0).kind+nG 1);rw[nH,hS];rfl
 rw[hS];rfl
theorem ao8 (h2:0<names):lL ah9 names [] [] (fun _=>0) (fun _=>0) where
 n0:=h2
 root:=rfl
 rk:=rfl
 uniq:=TL
 up n hn:=by cases hn
 dir n hn:=by cases hn
 file n hn:=by cases hn
 ne0 n hn:=by cases hn
 inj n hn:=by cases hn
 cover i hi hk:=by
  by_cases e:i=0
  ·exact .inl e
  unfold ah9 at hk;rw[bL _ _ e]at hk;exact absurd rfl hk
 bB K hK:=FN _
theorem P6 (n names:Nat):(VS.laid n names).bI.2=true/\(VS.new n names).D.off=false/\(VS.new n names).D.left= -1:=by have h:=vS (S:=VS.laid n names) rfl (show(-1:Int)<0 by decide);exact⟨h.1,h.2.1,h.2.2⟩
theorem axB (h0:98+(names+7)/8<n) (h1:n<=4096) (h2:2<=names) (h3:names<=1024):Vt (VS.new n names).base [] [] ah9 (fun _=>0) (fun _=>0):=by
 have hp:=akV h0 h1 h2 h3;have hD:(VS.laid n names).D.ok (VS.laid n names).nb:=XX (n:=n) aI h1;have RQ:96<(VS.laid n names).nb:=by show 96<n;omega
 have lS:DT ((VS.laid n names).D.now.drop 96) (VS.laid n names):=(((DT.refl (VS.raw n names)).put _ _).put _ _).keep _ _;have hc:=(P6 n names).1;have e:=BA hD RQ hp.use.cur lS (show 0+1+1+1<=40 by decide) hc;refine Vt.of (hp.same rfl rfl e rfl rfl rfl) (ao8 (names:=names) aI) rfl aR rfl rfl rfl
end
open Go.RowKit
section
variable {w0 w:World} {R:List aV}
def atF :Array Value:=#[.pointer none,.map none,.map none,iV 0,.bool false,.complex .f64 0 0,iV 0,.complex .f64 0 0]
theorem ae7 {p n names:Nat} (h0:98+(names+7)/8<n) (h1:n<=4096) (h2:2<=names) (h3:names<=1024) (h:Sep w0 w (aN p (DK.fresh n)::R)):
  Calls Tryz.prog 38 #[pV p,iV names] w fun e w'=>∃f q,e= .returned (.tuple #[pV f,iV 0])/\Sep w0 w' (bE f q p (VS.new n names)::R):=by
 obtain⟨bf,hbf⟩:∃b,b=w.heap.size:=⟨_,rfl⟩;have hok:(DK.fresh n).ok n:=DK.abM aI h1;have hS0:Hid (Sep w0 (((w.alloc (.cells #[pV (bf+1+1)] 37)).alloc (.cells #[iV 0] 40)).alloc (.cells atF 119)) (aN p (DK.fresh n):: .box (bf+1+1) 119 atF::aH (bf+1) 0:: .box bf 37 #[pV (bf+1+1)]::R)):=Lh (by have:=((h.bN 37 #[pV (bf+1+1)]).bN 40 #[iV 0]).bN 119 atF;simp only[World.size_alloc,<-hbf]at this;exact Sep.dC [3,0,1,2] this aR (by simp[aH]));have hon:=aoX hS0.out;have hbs:=HV 0 hok hS0.out rfl;have hlf:=abQ aI h1 hS0.out;have q1:(n:Int)<=4096:=by omega
 have q2:(2:Int)<=names:=by omega
 have q3:(names:Int)<=1024:=by omega
 have e0:Int.tdiv ((names:Int)+7) 8=((names+7)/8:Nat):=by rw[ai1 aI];omega
 have hpt:=fun W=>wP (n:=names) (by':=8) aI aI aI W
 have e1:((names+8-1)/8:Nat)=(names+7)/8:=by omega
 rw[e1]at hpt;obtain⟨P,hP⟩:∃P,P=(names+7)/8:=⟨_,rfl⟩;rw[<-hP]at hpt h0;have hP1:(P:Int)<=128:=by omega
 have h0':98+(P:Int)<n:=by omega
 clear e0;have hdf:(DK.fresh n).off=false:=rfl;rw[hdf]at hon;have hmf:∀(fn:Fn) (first cap:Array Value) (w:World),(Instr.makeFunc fn first cap).run Tryz.prog w= .ok (.func fn first cap) w:=fun _ _ _ _=>rfl
 have hcl:Hid (∀W Y,Sep w0 W (Y++ .box bf 37 #[pV (bf+1+1)]::R)->W.cell? ⟨bf,0,none⟩=some (pV (bf+1+1))):=Lh fun W Y hW=>by(have hi:(Y++ .box bf 37 #[pV (bf+1+1)]::R)[Y.length]? =some (.box bf 37 #[pV (bf+1+1)]):=by simp);exact hW.bC _ hi 0
 have hc0:=hcl.out _ [_,_,_] hS0.out;clear h hok;unfold atF at*;rw[hbf]at*
 go_enter_defers Tryz.func38,Tryz.ntmps38
 go_wp2_with(first |(go_at_call 93;refine hon.mono ?_;rintro e w9 ⟨rfl,h9⟩;obtain rfl:=h9.symm;clear hon)|(go_at_call 94;refine hbs.mono ?_;rintro e w9 ⟨rfl,h9⟩;obtain rfl:=h9.symm;clear hbs)|(go_at_call 95;refine(hpt _).mono ?_;rintro e w9 ⟨rfl,h9⟩;obtain rfl:=h9.symm)|(go_at_call 96;refine hlf.mono ?_;rintro e w9 ⟨q,rfl,h9⟩;(have k0:=h9.bC 3 rfl 0);(have k1:=h9.bF 3 rfl 0);(have h8:=h9.bS 3 rfl 0 (.int .i64 0));(have k2:=h8.bC 3 rfl 0);(have k3:=hcl.out _ [_,_,_,_] h8);simp only[gA,gB]at k0;clear hlf h9;replace h8:=Lh h8)|(go_at_call 54;refine(dO _ _).mono ?_;rintro e w7 ⟨rfl,h7⟩;obtain rfl:=h7.symm));rename_i K1 hK1;refine kH ?_;apply ao9 (fun W=>Hid (Sep w0 W (aD (w.heap.size+1+1) q p (VS.raw n names) ⟨none,[],w9.heap.size,[]⟩::aH (w.heap.size+1) 0:: .box w.heap.size 37 #[pV (w.heap.size+1+1)]::R)))
 ·refine eO (S:=fun w'=>w'.cell? ⟨w.heap.size,0,none⟩=some (pV (w.heap.size+1+1))) 24 fT ?_;intro wq hwq;(have hX:Hid (Sep w0 wq (aG q p false::aN p (DK.made n):: .box (w.heap.size+1+1) 119 #[.pointer none,.map none,.map none,iV 0,.bool false,.complex .f64 0 0,iV 0,.complex .f64 0 0]::aH (w.heap.size+1) 0:: .box w.heap.size 37 #[pV (w.heap.size+1+1)]::R)):=by rw[hwq];exact Lh h8.out.drew);(have hsz0:wq.heap.size=w9.heap.size:=by rw[hwq];simp);have hfin:Hid (∀W,Sep w0 W (jF w9.heap.size []::aG q p false::aN p (DK.made n):: .box (w.heap.size+1+1) 119 #[pV q,.map none,.map (some w9.heap.size),iV names,.bool false,.complex .f64 0 0,iV 0,.complex .f64 0 0]::aH (w.heap.size+1) 0:: .box w.heap.size 37 #[pV (w.heap.size+1+1)]::R)->
    Sep w0 W (aD (w.heap.size+1+1) q p (VS.raw n names) ⟨none,[],w9.heap.size,[]⟩::aH (w.heap.size+1) 0:: .box w.heap.size 37 #[pV (w.heap.size+1+1)]::R)):=Lh fun W hW=>by
   (have h5:Sep w0 W (.emp::jF w9.heap.size []::aG q p false::aN p (DK.made n)::kP (w.heap.size+1+1) q (VS.raw n names) none (.map (some w9.heap.size)) false::aH (w.heap.size+1) 0:: .box w.heap.size 37 #[pV (w.heap.size+1+1)]::R):=by unfold kP VS.raw jC;simp only[CU];exact hW.wL);have h6:Sep w0 W (o8 (w.heap.size+1+1) q p (VS.raw n names) ⟨none,[],w9.heap.size,[]⟩++(aH (w.heap.size+1) 0:: .box w.heap.size 37 #[pV (w.heap.size+1+1)]::R)):=Sep.dC [4,2,3,0,1] h5 aR bK;exact h6.cZ
  clear hwq;have hc:=hcl.out _ [_,_,_,_] hX.out;have hmm:= @run_makeMap Tryz.prog;simp only[kJ,kM,rF,Nat.reduceAdd];refine aA 0 hc ?_;refine aA 1 hc ?_;refine aA 2 hc ?_;refine aA 3 hc ?_;refine aA 4 hc ?_;refine aA 6 hc ?_;refine aA 7 hc ?_;refine aA 8 hc ?_;refine aA 9 hc ?_;refine aA 10 hc ?_
  -- <<ways
  refine j5 (i:=5) (j:=11) fT rfl rfl (fun K hK=>?_) (fun K hK=>?_)
  focus
   go_simp
   have g1:=hX.out.xU
   obtain⟨wx1,hw1⟩:∃x,x=wq.alloc (.map #[] 0):=⟨_,rfl⟩
   rw[hsz0]at g1
   try rw[hsz0]
   have hsz1:wx1.heap.size=w9.heap.size+1:=by rw[hw1];simp[hsz0]
   rw[<-hw1]at g1 ⊢
   replace g1:Hid (Sep w0 wx1 (jF w9.heap.size []::aG q p false::aN p (DK.made n):: .box (w.heap.size+1+1) 119 #[.pointer none,.map none,.map none,iV 0,.bool false,.complex .f64 0 0,iV 0,.complex .f64 0 0]::aH (w.heap.size+1) 0:: .box w.heap.size 37 #[pV (w.heap.size+1+1)]::R)):=Lh g1
   have k1:=hcl.out _ [_,_,_,_,_] g1.out
   clear hw1
   try dsimp only
   refine hK _ _ (fun _=>k1) ?_
   clear hK K
   try simp only[Act.put,gD]
   refine bH 11 fun K hK=>?_
   have y2:=g1.out.bC 3 rfl 0
   have z2:=g1.out.bF 3 rfl 0
   have g2:=g1.out.bS 3 rfl 0 (pV q)
   try simp only[gA,gB,gC]at y2
   go_simp
   obtain⟨wx2,hw2⟩:∃x,x=wx1.setCell ⟨w.heap.size+1+1,0,none⟩ (pV q):=⟨_,rfl⟩
   have hsz2:wx2.heap.size=w9.heap.size+1:=by rw[hw2];simp[hsz1]
   rw[<-hw2]at g2 ⊢
   replace g2:Hid (Sep w0 wx2 (jF w9.heap.size []::aG q p false::aN p (DK.made n):: .box (w.heap.size+1+1) 119 #[pV q,.map none,.map none,iV 0,.bool false,.complex .f64 0 0,iV 0,.complex .f64 0 0]::aH (w.heap.size+1) 0:: .box w.heap.size 37 #[pV (w.heap.size+1+1)]::R)):=Lh g2
   have k2:=hcl.out _ [_,_,_,_,_] g2.out
   clear hw2
   try dsimp only
   refine hK _ _ (fun _=>k2) ?_
   clear hK K
   try simp only[Act.put,gD]
   refine aA 12 k2 ?_
   refine aA 13 k2 ?_
   refine aA 14 k2 ?_
   refine aA 15 k2 ?_
   refine aA 16 k2 ?_
   refine bH 17 fun K hK=>?_
   have y3:=g2.out.bC 3 rfl 3
   have z3:=g2.out.bF 3 rfl 3
   have g3:=g2.out.bS 3 rfl 3 (.int .i64 names)
   try simp only[gA,gB,gC]at y3
   go_simp
   obtain⟨wx3,hw3⟩:∃x,x=wx2.setCell ⟨w.heap.size+1+1,3,none⟩ (.int .i64 names):=⟨_,rfl⟩
   have ae8:wx3.heap.size=w9.heap.size+1:=by rw[hw3];simp[hsz2]
   rw[<-hw3]at g3 ⊢
   replace g3:Hid (Sep w0 wx3 (jF w9.heap.size []::aG q p false::aN p (DK.made n):: .box (w.heap.size+1+1) 119 #[pV q,.map none,.map none,iV names,.bool false,.complex .f64 0 0,iV 0,.complex .f64 0 0]::aH (w.heap.size+1) 0:: .box w.heap.size 37 #[pV (w.heap.size+1+1)]::R)):=Lh g3
   have k3:=hcl.out _ [_,_,_,_,_] g3.out
   clear hw3
   try dsimp only
   refine hK _ _ (fun _=>k3) ?_
   clear hK K
   try simp only[Act.put,gD]
   refine aA 18 k3 ?_
   refine aA 19 k3 ?_
   refine aA 20 k3 ?_
   refine aA 21 k3 ?_
   refine aA 22 k3 ?_
   refine bH 23 fun K hK=>?_
   have y4:=g3.out.bC 3 rfl 2
   have z4:=g3.out.bF 3 rfl 2
   have g4:=g3.out.bS 3 rfl 2 (.map (some w9.heap.size))
   try simp only[gA,gB,gC]at y4
   go_simp
   obtain⟨wx4,hw4⟩:∃x,x=wx3.setCell ⟨w.heap.size+1+1,2,none⟩ (.map (some w9.heap.size)):=⟨_,rfl⟩
   have aA8:wx4.heap.size=w9.heap.size+1:=by rw[hw4];simp[ae8]
   rw[<-hw4]at g4 ⊢
   replace g4:Hid (Sep w0 wx4 (jF w9.heap.size []::aG q p false::aN p (DK.made n):: .box (w.heap.size+1+1) 119 #[pV q,.map none,.map (some w9.heap.size),iV names,.bool false,.complex .f64 0 0,iV 0,.complex .f64 0 0]::aH (w.heap.size+1) 0:: .box w.heap.size 37 #[pV (w.heap.size+1+1)]::R)):=Lh g4
   have k4:=hcl.out _ [_,_,_,_,_] g4.out
   clear hw4
   try dsimp only
   refine hK _ _ (fun _=>k4) ?_
   clear hK K
   try simp only[Act.put,gD]
   refine aS fT ?_ _
   refine⟨rfl,Lh (hfin.out _ g4.out)⟩
  focus
   have y1:=hX.out.bC 2 rfl 0
   have z1:=hX.out.bF 2 rfl 0
   have g1:=hX.out.bS 2 rfl 0 (pV q)
   try simp only[gA,gB,gC]at y1
   go_simp
   obtain⟨wx1,hw1⟩:∃x,x=wq.setCell ⟨w.heap.size+1+1,0,none⟩ (pV q):=⟨_,rfl⟩
   have hsz1:wx1.heap.size=w9.heap.size:=by rw[hw1];simp[hsz0]
   rw[<-hw1]at g1 ⊢
   replace g1:Hid (Sep w0 wx1 (aG q p false::aN p (DK.made n):: .box (w.heap.size+1+1) 119 #[pV q,.map none,.map none,iV 0,.bool false,.complex .f64 0 0,iV 0,.complex .f64 0 0]::aH (w.heap.size+1) 0:: .box w.heap.size 37 #[pV (w.heap.size+1+1)]::R)):=Lh g1
   have k1:=hcl.out _ [_,_,_,_] g1.out
   clear hw1
   try dsimp only
   refine hK _ _ (fun _=>k1) ?_
   clear hK K
   try simp only[Act.put,gD]
   refine aA 12 k1 ?_
   refine aA 13 k1 ?_
   refine aA 14 k1 ?_
   refine aA 15 k1 ?_
   refine aA 16 k1 ?_
   refine j5 (i:=5) (j:=17) fT rfl rfl (fun K hK=>?_) (fun K hK=>?_)
   focus
    go_simp
    have g2:=g1.out.xU
    obtain⟨wx2,hw2⟩:∃x,x=wx1.alloc (.map #[] 0):=⟨_,rfl⟩
    rw[hsz1]at g2
    try rw[hsz1]
    have hsz2:wx2.heap.size=w9.heap.size+1:=by rw[hw2];simp[hsz1]
    rw[<-hw2]at g2 ⊢
    replace g2:Hid (Sep w0 wx2 (jF w9.heap.size []::aG q p false::aN p (DK.made n):: .box (w.heap.size+1+1) 119 #[pV q,.map none,.map none,iV 0,.bool false,.complex .f64 0 0,iV 0,.complex .f64 0 0]::aH (w.heap.size+1) 0:: .box w.heap.size 37 #[pV (w.heap.size+1+1)]::R)):=Lh g2
    have k2:=hcl.out _ [_,_,_,_,_] g2.out
    clear hw2
    try dsimp only
    refine hK _ _ (fun _=>k2) ?_
    clear hK K
    try simp only[Act.put,gD]
    refine bH 17 fun K hK=>?_
    have y3:=g2.out.bC 3 rfl 3
    have z3:=g2.out.bF 3 rfl 3
    have g3:=g2.out.bS 3 rfl 3 (.int .i64 names)
    try simp only[gA,gB,gC]at y3
    go_simp
    obtain⟨wx3,hw3⟩:∃x,x=wx2.setCell ⟨w.heap.size+1+1,3,none⟩ (.int .i64 names):=⟨_,rfl⟩
    have ae8:wx3.heap.size=w9.heap.size+1:=by rw[hw3];simp[hsz2]
    rw[<-hw3]at g3 ⊢
    replace g3:Hid (Sep w0 wx3 (jF w9.heap.size []::aG q p false::aN p (DK.made n):: .box (w.heap.size+1+1) 119 #[pV q,.map none,.map none,iV names,.bool false,.complex .f64 0 0,iV 0,.complex .f64 0 0]::aH (w.heap.size+1) 0:: .box w.heap.size 37 #[pV (w.heap.size+1+1)]::R)):=Lh g3
    have k3:=hcl.out _ [_,_,_,_,_] g3.out
    clear hw3
    try dsimp only
    refine hK _ _ (fun _=>k3) ?_
    clear hK K
    try simp only[Act.put,gD]
    refine aA 18 k3 ?_
    refine aA 19 k3 ?_
    refine aA 20 k3 ?_
    refine aA 21 k3 ?_
    refine aA 22 k3 ?_
    refine bH 23 fun K hK=>?_
    have y4:=g3.out.bC 3 rfl 2
    have z4:=g3.out.bF 3 rfl 2
    have g4:=g3.out.bS 3 rfl 2 (.map (some w9.heap.size))
    try simp only[gA,gB,gC]at y4
    go_simp
    obtain⟨wx4,hw4⟩:∃x,x=wx3.setCell ⟨w.heap.size+1+1,2,none⟩ (.map (some w9.heap.size)):=⟨_,rfl⟩
    have aA8:wx4.heap.size=w9.heap.size+1:=by rw[hw4];simp[ae8]
    rw[<-hw4]at g4 ⊢
    replace g4:Hid (Sep w0 wx4 (jF w9.heap.size []::aG q p false::aN p (DK.made n):: .box (w.heap.size+1+1) 119 #[pV q,.map none,.map (some w9.heap.size),iV names,.bool false,.complex .f64 0 0,iV 0,.complex .f64 0 0]::aH (w.heap.size+1) 0:: .box w.heap.size 37 #[pV (w.heap.size+1+1)]::R)):=Lh g4
    have k4:=hcl.out _ [_,_,_,_,_] g4.out
    clear hw4
    try dsimp only
    refine hK _ _ (fun _=>k4) ?_
    clear hK K
    try simp only[Act.put,gD]
    refine aS fT ?_ _
    refine⟨rfl,Lh (hfin.out _ g4.out)⟩
   focus
    have y2:=g1.out.bC 2 rfl 3
    have z2:=g1.out.bF 2 rfl 3
    have g2:=g1.out.bS 2 rfl 3 (.int .i64 names)
    try simp only[gA,gB,gC]at y2
    go_simp
    obtain⟨wx2,hw2⟩:∃x,x=wx1.setCell ⟨w.heap.size+1+1,3,none⟩ (.int .i64 names):=⟨_,rfl⟩
    have hsz2:wx2.heap.size=w9.heap.size:=by rw[hw2];simp[hsz1]
    rw[<-hw2]at g2 ⊢
    replace g2:Hid (Sep w0 wx2 (aG q p false::aN p (DK.made n):: .box (w.heap.size+1+1) 119 #[pV q,.map none,.map none,iV names,.bool false,.complex .f64 0 0,iV 0,.complex .f64 0 0]::aH (w.heap.size+1) 0:: .box w.heap.size 37 #[pV (w.heap.size+1+1)]::R)):=Lh g2
    have k2:=hcl.out _ [_,_,_,_] g2.out
    clear hw2
    try dsimp only
    refine hK _ _ (fun _=>k2) ?_
    clear hK K
    try simp only[Act.put,gD]
    refine bH 5 fun K hK=>?_
    go_simp
    have g3:=g2.out.xU
    obtain⟨wx3,hw3⟩:∃x,x=wx2.alloc (.map #[] 0):=⟨_,rfl⟩
    rw[hsz2]at g3
    try rw[hsz2]
    have ae8:wx3.heap.size=w9.heap.size+1:=by rw[hw3];simp[hsz2]
    rw[<-hw3]at g3 ⊢
    replace g3:Hid (Sep w0 wx3 (jF w9.heap.size []::aG q p false::aN p (DK.made n):: .box (w.heap.size+1+1) 119 #[pV q,.map none,.map none,iV names,.bool false,.complex .f64 0 0,iV 0,.complex .f64 0 0]::aH (w.heap.size+1) 0:: .box w.heap.size 37 #[pV (w.heap.size+1+1)]::R)):=Lh g3
    have k3:=hcl.out _ [_,_,_,_,_] g3.out
    clear hw3
    try dsimp only
    refine hK _ _ (fun _=>k3) ?_
    clear hK K
    try simp only[Act.put,gD]
    refine aA 18 k3 ?_
    refine aA 19 k3 ?_
    refine aA 20 k3 ?_
    refine aA 21 k3 ?_
    refine aA 22 k3 ?_
    refine bH 23 fun K hK=>?_
    have y4:=g3.out.bC 3 rfl 2
    have z4:=g3.out.bF 3 rfl 2
    have g4:=g3.out.bS 3 rfl 2 (.map (some w9.heap.size))
    try simp only[gA,gB,gC]at y4
    go_simp
    obtain⟨wx4,hw4⟩:∃x,x=wx3.setCell ⟨w.heap.size+1+1,2,none⟩ (.map (some w9.heap.size)):=⟨_,rfl⟩
    have aA8:wx4.heap.size=w9.heap.size+1:=by rw[hw4];simp[ae8]
    rw[<-hw4]at g4 ⊢
    replace g4:Hid (Sep w0 wx4 (jF w9.heap.size []::aG q p false::aN p (DK.made n):: .box (w.heap.size+1+1) 119 #[pV q,.map none,.map (some w9.heap.size),iV names,.bool false,.complex .f64 0 0,iV 0,.complex .f64 0 0]::aH (w.heap.size+1) 0:: .box w.heap.size 37 #[pV (w.heap.size+1+1)]::R)):=Lh g4
    have k4:=hcl.out _ [_,_,_,_,_] g4.out
    clear hw4
    try dsimp only
    refine hK _ _ (fun _=>k4) ?_
    clear hK K
    try simp only[Act.put,gD]
    refine aS fT ?_ _
    refine⟨rfl,Lh (hfin.out _ g4.out)⟩
  --ways>>
 intro W hW0;have hlt0:98+(names+7)/8<n:=by omega
 simp only[nU];exact hK1 _ _ (abT hlt0 h1 h2 h3 hW0.out)
end
end Go.Proofs.YtmjomdkleikgbaaGreat
