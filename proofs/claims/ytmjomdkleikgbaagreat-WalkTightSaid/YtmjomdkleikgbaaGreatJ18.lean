/- Parts. -/
import Derived.Test.YtmjomdkleikgbaaGreatJ16
set_option linter.unusedVariables false
set_option linter.unusedSimpArgs false
set_option maxRecDepth 100000
set_option maxHeartbeats 20000000
namespace Go.Proofs.YtmjomdkleikgbaaGreat
open Go.RowKit
def oG (S:VS) (dir:Nat) (name:List UInt8) (n:Nat):VS:=
 let S1:=cO S dir name
 let y:VI:= {aG S1.cur n with links:=(aG S1.cur n).links-1}
 if y.links=0 then mP (S1.keep n y) n else S1.keep n y
def sO (S:VS) (n mode:Nat):VS:=S.keep n {aG S.cur n with mode:=mode}
def oH (S:VS) (dir:Nat) (name:List UInt8) (tz:Nat) (aDD:List UInt8) (n:Nat):Option VS:=gV (cO S dir name) tz aDD n
def y9 (S:VS) (n tz:Nat) (name:List UInt8):Option VS:=gV (S.keep n {aG S.cur n with links:=(aG S.cur n).links+1}) tz name n
def gM :Array Value:=#[iV 0,iV 0,iV 0,iV 0,.slice none 0 0]
section
variable {w0 w:World} {R:List aZ} {f q p:Nat} {S:VS} {a:VA}
theorem Sep.uC {As:List aZ} {b:Nat} (i:Nat) (h:Sep w0 w As) (hi:As[i]? =some (.box b 129 gM)) (x:VI) (v:Value):
  w.frozen? ⟨b,0,none⟩=false/\w.frozen? ⟨b,1,none⟩=false/\w.frozen? ⟨b,2,none⟩=false/\w.frozen? ⟨b,3,none⟩=false/\w.frozen? ⟨b,4,none⟩=false/\
  w.cell? ⟨b,0,none⟩=some (iV 0)/\w.cell? ⟨b,1,none⟩=some (iV 0)/\w.cell? ⟨b,2,none⟩=some (iV 0)/\w.cell? ⟨b,3,none⟩=some (iV 0)/\w.cell? ⟨b,4,none⟩=some (.slice none 0 0)/\
  Sep w0 (((((w.setCell ⟨b,0,none⟩ (.int .i64 (x.kind:Nat))).setCell ⟨b,1,none⟩ (.int .i64 (x.mode:Nat))).setCell ⟨b,2,none⟩ (.int .i64 (x.links:Nat))).setCell ⟨b,3,none⟩ (.int .i64 (x.size:Nat))).setCell ⟨b,4,none⟩ v) (As.set i (.box b 129 (aN x v))):=by
 have z:=fun j=>h.bF i hi j
 have y:=fun j=>h.bC i hi j
 have hlt:=(gF.1 hi).1;have hs:∀(l:List aZ) (A:aZ),l.length=As.length->(l.set i A)[i]? =some A:=fun l A hl=>NU aD
 have h1:=h.bS i hi 0 (.int .i64 (x.kind:Nat));have h2:=h1.bS i (hs _ _ rfl) 1 (.int .i64 (x.mode:Nat));have h3:=h2.bS i (hs _ _ bL) 2 (.int .i64 (x.links:Nat));have h4:=h3.bS i (hs _ _ bL) 3 (.int .i64 (x.size:Nat));have h5:=h4.bS i (hs _ _ bL) 4 v;simp only[VB]at h5;exact⟨z 0,z 1,z 2,z 3,z 4,y 0,y 1,y 2,y 3,y 4,h5⟩
theorem H8 {n:Nat} (hC:VC S a) (hF:VF S) (hn:pW S n) (h:Sep w0 w (aF f q p S a::R)):
  Calls Tryz.prog 72 #[pV f,iV n] w fun e w'=>∃A c a2,e= .returned (.agg #[iV ((aG S.cur n).kind:Nat),iV ((aG S.cur n).mode:Nat),iV ((aG S.cur n).links:Nat),iV ((aG S.cur n).size:Nat),.slice A (aG S.cur n).aB.length c])/\VC S a2/\Sep w0 w' (aF f q p S a2::aR (.slice A (aG S.cur n).aB.length c) (dZ (aG S.cur n).aB)::R):=by
 refine(jP hC hF hn.lt hn.few h).mono ?_;rintro e w' ⟨v,a2,rfl,hR,h9⟩;obtain⟨A,c,e9⟩:=h9.dS 0 rfl;have hll:(dZ (aG S.cur n).aB).length=(aG S.cur n).aB.length:=by unfold dZ;rw[iM]
 rw[hll]at e9;subst e9;exact⟨A,c,a2,rfl,hR.ok,h9.perm (List.Perm.swap _ _ _)⟩
theorem NH {n:Nat} {y:VI} {v:Value} (hC:VC S a) (hF:VF S) (hn:pW S n) (hy:y.ok) (hW:gL S) (i:Nat) (hv:R[i]? =some (aR v (dZ y.aB))) (h:Sep w0 w (aF f q p S a::R)):
  Calls Tryz.prog 100 #[pV f,iV n,fJ y v] w fun e w'=>e= .returned (.tuple #[])/\∃a',VC (S.keep n y) a'/\Sep w0 w' (aF f q p (S.keep n y) a'::R):=
 uO hC hF hn.lt hy hn.few hW (jD i hv) h
theorem Z61 {P:Prop} (h:P:=by rw[H9,hbx];exact Lh (h9.out.perm (List.Perm.swap _ _ _))):P:=h
theorem agC {bf bi bn n mode:Nat} (hR0:∀W Y,Sep w0 W (Y++R)->W.cell? ⟨bf,0,none⟩=some (pV f)/\W.cell? ⟨bn,0,none⟩=some (iV n)/\W.cell? ⟨bi,3,none⟩=some (iV mode))
  (hC:VC S a) (hF:VF S) (hn:pW S n) (hs:gL S) (hmode:mode<=511) (h:Sep w0 w (aF f q p S a::R)):
  Calls Tryz.prog 129 #[pV bf,pV bn,pV bi] w (fO f q p S (some (sO S n mode)) w0 R):=by
 have hR:=Lh hR0;obtain⟨SX,wC⟩:∃SX,SX=S:=⟨_,rfl⟩;obtain⟨aX,haX⟩:∃aX,aX=a:=⟨_,rfl⟩;obtain⟨xX,PZ⟩:∃xX,xX=aG SX.cur n:=⟨_,rfl⟩;have hX:Hid (Sep w0 w (aF f q p SX aX::R)):=by rw[wC,haX];exact Lh h
 have hV:Hid (VC SX aX):=by rw[wC,haX];exact Lh hC
 have hin:Hid (∀W Y a1,VC SX a1->Sep w0 W (aF f q p SX a1::(Y++R))->Calls Tryz.prog 72 #[pV f,iV n] W fun e w'=>∃A c a2,e= .returned (.agg #[iV (xX.kind:Nat),iV (xX.mode:Nat),iV (xX.links:Nat),iV (xX.size:Nat),.slice A xX.aB.length c])/\VC SX a2/\Sep w0 w' (aF f q p SX a2::aR (.slice A xX.aB.length c) (dZ xX.aB)::(Y++R))):=Lh fun W Y a1 h1 h2=>by rw[PZ];exact H8 h1 (by rw[wC];exact hF) (by rw[wC];exact hn) h2
 have hyo:({xX with mode:=mode}:VI).ok:=by(have h1:xX.ok:=by rw[PZ,wC];exact JW (by have:=hn.few;unfold aG at this;exact this));exact⟨h1.kind,by show mode<65536;omega,h1.links,h1.size,h1.few,h1.spot⟩
 have hkp:Hid (∀W bx A c a1,VC SX a1->Sep w0 W (aF f q p SX a1:: .box bx 129 (aN {xX with mode:=mode} (.slice A xX.aB.length c))::aR (.slice A xX.aB.length c) (dZ xX.aB)::R)->Calls Tryz.prog 100 #[pV f,iV n,.agg #[iV (xX.kind:Nat),iV mode,iV (xX.links:Nat),iV (xX.size:Nat),.slice A xX.aB.length c]] W fun e w'=>e= .returned (.tuple #[])/\(w'.cell? ⟨bf,0,none⟩=some (pV f)/\w'.cell? ⟨bn,0,none⟩=some (iV n)/\w'.cell? ⟨bi,3,none⟩=some (iV mode)/\w'.cell? ⟨bx,0,none⟩=some (iV (xX.kind:Nat))/\w'.cell? ⟨bx,1,none⟩=some (iV mode)/\w'.cell? ⟨bx,2,none⟩=some (iV (xX.links:Nat))/\w'.cell? ⟨bx,3,none⟩=some (iV (xX.size:Nat))/\w'.cell? ⟨bx,4,none⟩=some (.slice A xX.aB.length c))/\fO f q p S (some (sO S n mode)) w0 R (.returned (.tuple #[])) w'):=Lh fun W bx A c a1 h1 h2=>by
  refine(NH (y:= {xX with mode:=mode}) h1 (by rw[wC];exact hF) (by rw[wC];exact hn) hyo (by rw[wC];exact hs) 1 rfl h2).mono ?_;rintro e w' ⟨rfl,a',h3,h4⟩;have h5:=hR0 w' [_,_,_] h4;have h6:=h4.dK 1 rfl;refine⟨rfl,⟨h5.1,h5.2.1,h5.2.2,h6.1,h6.2.1,h6.2.2.1,h6.2.2.2.1,h6.2.2.2.2⟩,rfl,a',?_,?_⟩
  ·unfold sO;rw[wC]at PZ h3;rw[PZ]at h3;exact h3
  have h7:Sep w0 w' (.box bx 129 (aN {xX with mode:=mode} (.slice A xX.aB.length c))::aR (.slice A xX.aB.length c) (dZ xX.aB)::aF f q p (SX.keep n {xX with mode:=mode}) a'::R):=Sep.dE [1,2,0] h4 aV bL;unfold sO;rw[wC]at PZ h7;rw[PZ]at h7;exact h7.drop 2
 clear hR0 hC hF hn hs h hyo wC haX PZ;go_enter Tryz.func129,Tryz.ntmps129;go_wp2_with fail;refine eO (S:=fun w'=>w'.cell? ⟨bf,0,none⟩=some (pV f)/\w'.cell? ⟨bn,0,none⟩=some (iV n)/\w'.cell? ⟨bi,3,none⟩=some (iV mode)) 7 fH ?_;intro wq hwq;have hX2:Hid (Sep w0 wq (aF f q p SX aX::R)):=by rw[hwq];exact Lh hX.out.drew
 clear hwq hX;have hc:=hR.out wq [_] hX2.out;simp only[kE,kR,rT,Nat.reduceAdd];refine aA 0 hc ?_;refine aA 1 hc ?_;refine aA 2 hc ?_;refine aA 3 hc ?_;refine aA 4 hc ?_;refine iX (i:=5) (j:=6) fH rfl rfl (fun K hK=>?_) (fun K hK=>?_)
 focus
  go_simp
  go_at_call 72
  refine(hin.out _ [] _ hV.out hX2.out).mono ?_
  rintro e w9 ⟨A9,c9,a9,rfl,eP,h9⟩
  have gZ:=hR.out w9 [_,_] h9
  have h8:=Lh (h9.bN 129 gM)
  have hc8:=hR.out _ [_,_,_] h8.out
  clear hc hX2
  dsimp only
  refine hK _ _ (fun _=>gZ) ?_
  clear hK K
  try simp only[Act.put,gD]
  refine bI 6 fun K hK=>?_
  go_simp
  unfold gM at hc8
  try dsimp only
  refine hK _ _ (fun _=>hc8) ?_
  clear hK K
  try simp only[Act.put,gD]
  obtain⟨bx,hbx⟩:∃bx,bx=w9.heap.size:=⟨_,rfl⟩
  obtain⟨w8,hw8⟩:∃x,x=w9.alloc (.cells #[iV 0,iV 0,iV 0,iV 0,.slice none 0 0] 129):=⟨_,rfl⟩
  have hB:Hid (Sep w0 w8 (.box bx 129 gM::aF f q p SX a9::aR (.slice A9 xX.aB.length c9) (dZ xX.aB)::R)):=by rw[hw8,hbx];exact h8
  rw[<-hw8,<-hbx]
  clear hw8 hbx h8 hc8 gZ h9
  have BB:=Lh eP
  clear eP
 rotate_left
 focus
  go_simp
  have h9:=Lh (hX2.out.bN 129 gM)
  have gZ:=hR.out _ [_,_] h9.out
  clear hc
  unfold gM at gZ
  try dsimp only
  refine hK _ _ (fun _=>gZ) ?_
  clear hK K
  try simp only[Act.put,gD]
  obtain⟨bx,hbx⟩:∃bx,bx=wq.heap.size:=⟨_,rfl⟩
  obtain⟨w9,H9⟩:∃x,x=wq.alloc (.cells #[iV 0,iV 0,iV 0,iV 0,.slice none 0 0] 129):=⟨_,rfl⟩
  have h8:Hid (Sep w0 w9 (aF f q p SX aX::([.box bx 129 gM]++R))):=by exact Z61
  rw[<-H9,<-hbx]
  clear H9 hbx h9 gZ hX2
  refine bI 5 fun K hK=>?_
  go_simp
  go_at_call 72
  refine(hin.out _ _ _ hV.out h8.out).mono ?_
  rintro e w8 ⟨A9,c9,a9,rfl,eP,h7⟩
  have hB:Hid (Sep w0 w8 (.box bx 129 gM::aF f q p SX a9::aR (.slice A9 xX.aB.length c9) (dZ xX.aB)::R)):=Lh (Sep.dE [2,0,1] h7 aV bL)
  have gZ:=hR.out w8 [_,_,_] hB.out
  clear h8 h7
  dsimp only
  refine hK _ _ (fun _=>gZ) ?_
  clear hK K
  try simp only[Act.put,gD]
  clear gZ
  have BB:=Lh eP
  clear eP
 all_goals
  obtain⟨z0,z1,z2,z3,z4,y0,y1,y2,y3,y4,hfin⟩:=hB.out.uC 0 rfl xX (.slice A9 xX.aB.length c9)
  replace hfin:=Lh hfin
  clear hB hV
  refine bB 7 (fun h=>absurd rfl h) ?_
  refine aQ fH ?_ _
  clear z0 z1 z2 z3 z4 y0 y1 y2 y3 y4
  obtain⟨w7,hw7⟩:∃w7,w7=(((((w8.setCell ⟨bx,0,none⟩ (.int .i64 (xX.kind:Nat))).setCell ⟨bx,1,none⟩ (.int .i64 (xX.mode:Nat))).setCell ⟨bx,2,none⟩ (.int .i64 (xX.links:Nat))).setCell ⟨bx,3,none⟩ (.int .i64 (xX.size:Nat))).setCell ⟨bx,4,none⟩ (.slice A9 xX.aB.length c9)):=⟨_,rfl⟩
  rw[<-hw7]at hfin ⊢
  clear hw7
  have hm3:=(hR.out w7 [_,_,_] hfin.out).2.2
  have d1:=(hfin.out.dK 0 rfl).2.1
  have f1:=hfin.out.bF 0 rfl 1
  have h6:Hid (Sep w0 (w7.setCell ⟨bx,1,none⟩ (.int .i64 mode)) (.box bx 129 (aN {xX with mode:=mode} (.slice A9 xX.aB.length c9))::aF f q p SX a9::aR (.slice A9 xX.aB.length c9) (dZ xX.aB)::R)):=Lh (hfin.out.bS 0 rfl 1 (.int .i64 mode))
  clear hfin
  go_wp2_with fail
  obtain⟨w6,hw6⟩:∃w6,w6=w7.setCell ⟨bx,1,none⟩ (.int .i64 mode):=⟨_,rfl⟩
  rw[<-hw6]at h6 ⊢
  clear hw6 hm3 d1 f1
  have k1:=hR.out w6.drew [_,_,_] h6.out.drew
  have k2:=h6.out.drew.dK 0 rfl
  have hE:w6.drew.cell? ⟨bf,0,none⟩=some (pV f)/\w6.drew.cell? ⟨bn,0,none⟩=some (iV n)/\w6.drew.cell? ⟨bi,3,none⟩=some (iV mode)/\w6.drew.cell? ⟨bx,0,none⟩=some (iV (xX.kind:Nat))/\w6.drew.cell? ⟨bx,1,none⟩=some (iV mode)/\w6.drew.cell? ⟨bx,2,none⟩=some (iV (xX.links:Nat))/\w6.drew.cell? ⟨bx,3,none⟩=some (iV (xX.size:Nat))/\w6.drew.cell? ⟨bx,4,none⟩=some (.slice A9 xX.aB.length c9):=⟨k1.1,k1.2.1,k1.2.2,k2.1,k2.2.1,k2.2.2.1,k2.2.2.2.1,k2.2.2.2.2⟩
  have sN:=hkp.out _ _ _ _ _ BB.out (Sep.dE [1,0,2] h6.out.drew aV bL)
  clear k1 k2 h6
  refine aP (S:=fun w'=>w'.cell? ⟨bf,0,none⟩=some (pV f)/\w'.cell? ⟨bn,0,none⟩=some (iV n)/\w'.cell? ⟨bi,3,none⟩=some (iV mode)/\w'.cell? ⟨bx,0,none⟩=some (iV (xX.kind:Nat))/\w'.cell? ⟨bx,1,none⟩=some (iV mode)/\w'.cell? ⟨bx,2,none⟩=some (iV (xX.links:Nat))/\w'.cell? ⟨bx,3,none⟩=some (iV (xX.size:Nat))/\w'.cell? ⟨bx,4,none⟩=some (.slice A9 xX.aB.length c9)) 7 ?_
  refine aA 0 hE ?_
  refine aA 1 hE ?_
  refine aA 2 hE ?_
  refine aA 3 hE ?_
  refine aA 4 hE ?_
  refine aA 5 hE ?_
  refine bI 6 fun K hK=>?_
  go_simp
  go_at_call 100
  refine sN.mono ?_
  rintro e w5 ⟨rfl,rP,hend⟩
  replace hend:=Lh hend
  clear sN hE
  dsimp only
  refine hK _ _ (fun _=>by simpa[and_assoc]using rP) ?_
  clear hK K
  try simp only[Act.put,gD]
  refine aQ fH ?_ _
  go_end0
  exact hend.out
theorem Z8 {P:Prop} (h:P:=by
 unfold fO at ho;obtain⟨rfl,aT,hCT,hT⟩:=ho;have hc8:=hR.out v8 [_] hT;dsimp only;refine hK _ _ (fun _=>hc8) ?_;clear hK K;try simp only[Act.put,gD]
 refine aQ fH ?_ _
 go_end0
 unfold fO;exact⟨rfl,aT,hCT,hT⟩):P:=h
theorem Z72 {P:Prop} (h:P:=by
 go_simp;go_at_call 125;refine(hen.out _ _ hV.out hX.out).mono ?_;intro e v8 ho;cases rX with
 |none=>unfold fO at ho;obtain⟨rfl,T,aT,hLT,hCT,hT⟩:=ho;unfold fO;exact⟨rfl,rfl,T,aT,zA.out.trans hLT,hCT,hT⟩
 |some T=>exact Z8):P:=h
theorem acE {bf bd bi bt bn dir tz n:Nat} {path bA:List UInt8} (hR0:∀W Y,Sep w0 W (Y++R)->W.cell? ⟨bf,0,none⟩=some (pV f)/\W.cell? ⟨bd,0,none⟩=some (iV dir)/\W.cell? ⟨bi,1,none⟩=some (aC path)/\W.cell? ⟨bi,2,none⟩=some (aC bA)/\W.cell? ⟨bt,0,none⟩=some (iV tz)/\W.cell? ⟨bn,0,none⟩=some (iV n))
  (hC:VC S a) (hF:VF S) (hv:aU path=true) (hp:path.length<=1048576) (hv2:aU bA=true) (hp2:bA.length<=1048576) (hl:vY S dir (aL path)) (hs:lT S) (he:oF (cO S dir (aL path)) tz n (aL bA)) (hs2:lT (cO S dir (aL path))) (h:Sep w0 w (aF f q p S a::R)):
  Calls Tryz.prog 124 #[pV bf,pV bd,pV bi,pV bt,pV bn] w (fO f q p S (oH S dir (aL path) tz (aL bA) n) w0 R):=by
 have hR:=Lh hR0;obtain⟨SX,wC⟩:∃SX,SX=cO S dir (aL path):=⟨_,rfl⟩;have zA:Hid (eZ S SX):=by rw[wC];exact Lh (oQ _ _ _)
 have hba:Hid (∀W,Calls Tryz.prog 121 #[aC path] W fun e w'=>e= .returned (aC (aL path))/\Below W.heap.size W w'):=Lh fun W=>uS hv hp W
 have hlv:Hid (∀W a1,VC S a1->Sep w0 W (aF f q p S a1::R)->Calls Tryz.prog 120 #[pV f,iV dir,aC (aL path)] W fun e w'=>e= .returned (.tuple #[])/\∃a',VC SX a'/\Sep w0 w' (aF f q p SX a'::R)):=Lh fun W a1 h1 h2=>by rw[wC];exact PO h1 hF hl hs h2
 have MS:Hid (∀W,Calls Tryz.prog 121 #[aC bA] W fun e w'=>e= .returned (aC (aL bA))/\Below W.heap.size W w'):=Lh fun W=>uS hv2 hp2 W
 obtain⟨rX,wD⟩:∃rX,rX=oH S dir (aL path) tz (aL bA) n:=⟨_,rfl⟩;have hen:Hid (∀W a1,VC SX a1->Sep w0 W (aF f q p SX a1::R)->Calls Tryz.prog 125 #[pV f,iV tz,aC (aL bA),iV n] W (fO f q p SX rX w0 R)):=Lh fun W a1 h1 h2=>by rw[wD];unfold oH;rw[<-wC];exact HV h1 (zA.out.vf hF) (by rw[wC];exact he) (by rw[wC];exact hs2) h2
 obtain⟨b1,hb1⟩:∃b,b=aL path:=⟨_,rfl⟩;obtain⟨b2,hb2⟩:∃b,b=aL bA:=⟨_,rfl⟩;rw[<-wD];rw[<-hb1]at hba hlv;rw[<-hb2]at MS hen;have hX0:=Lh h;have hV0:=Lh hC;clear hR0 hC hF hv hp hv2 hp2 hl hs he hs2 h wC wD hb1 hb2;unfold aC at*;go_enter Tryz.func124,Tryz.ntmps124;go_wp2_with fail;have hc:=hR.out w.drew [_] hX0.out.drew;refine aP (S:=fun w'=>w'.cell? ⟨bf,0,none⟩=some (pV f)/\w'.cell? ⟨bd,0,none⟩=some (iV dir)/\w'.cell? ⟨bi,1,none⟩=some (.string ⟨path.toArray⟩)/\w'.cell? ⟨bi,2,none⟩=some (.string ⟨bA.toArray⟩)/\w'.cell? ⟨bt,0,none⟩=some (iV tz)/\w'.cell? ⟨bn,0,none⟩=some (iV n)) 8 ?_;refine aA 0 hc ?_;refine aA 1 hc ?_;refine aA 2 hc ?_;refine aA 3 hc ?_;refine aA 4 hc ?_;refine aA 5 hc ?_;refine bI 6 fun K hK=>?_
 go_simp;go_at_call 121;refine(hba.out _).mono ?_;rintro e w9 ⟨rfl,wM⟩;replace hX0:=Lh (hX0.out.drew.pure wM);have gZ:=hR.out w9 [_] hX0.out;clear hc wM;dsimp only;refine hK _ _ (fun _=>gZ) ?_;clear hK K;try simp only[Act.put,gD]
 refine bI 7 fun K hK=>?_
 go_simp;go_at_call 120;refine(hlv.out _ _ hV0.out hX0.out).mono ?_;rintro e w8 ⟨rfl,aX,zB,h8⟩;have hc8:=hR.out w8 [_] h8;have hV:=Lh zB;have hX:=Lh h8;clear zB h8 hX0 hV0 gZ hlv hba;dsimp only;refine hK _ _ (fun _=>hc8) ?_;clear hK K;try simp only[Act.put,gD]
 refine aQ fH ?_ _;clear hc8;go_wp2_with fail;have hc:=hR.out w8.drew [_] hX.out.drew;refine aP (S:=fun w'=>w'.cell? ⟨bf,0,none⟩=some (pV f)/\w'.cell? ⟨bd,0,none⟩=some (iV dir)/\w'.cell? ⟨bi,1,none⟩=some (.string ⟨path.toArray⟩)/\w'.cell? ⟨bi,2,none⟩=some (.string ⟨bA.toArray⟩)/\w'.cell? ⟨bt,0,none⟩=some (iV tz)/\w'.cell? ⟨bn,0,none⟩=some (iV n)) 9 ?_;refine aA 0 hc ?_;refine aA 1 hc ?_;refine aA 2 hc ?_;refine aA 3 hc ?_;refine aA 4 hc ?_;refine aA 5 hc ?_;refine aA 7 hc ?_;refine bI 6 fun K hK=>?_
 go_simp;go_at_call 121;refine(MS.out _).mono ?_;rintro e v9 ⟨rfl,wM⟩;replace hX:=Lh (hX.out.drew.pure wM);have gZ:=hR.out v9 [_] hX.out;clear hc wM;dsimp only;refine hK _ _ (fun _=>gZ) ?_;clear hK K;try simp only[Act.put,gD]
 refine bI 8 fun K hK=>?_
 exact Z72
theorem acF {bf bd bi bn dir n:Nat} {path:List UInt8} (hR0:∀W Y,Sep w0 W (Y++R)->W.cell? ⟨bf,0,none⟩=some (pV f)/\W.cell? ⟨bd,0,none⟩=some (iV dir)/\W.cell? ⟨bi,1,none⟩=some (aC path)/\W.cell? ⟨bn,0,none⟩=some (iV n))
  (hC:VC S a) (hF:VF S) (hv:aU path=true) (hp:path.length<=1048576) (hl:vY S dir (aL path)) (hs:lT S) (hn:pW (cO S dir (aL path)) n) (hlk:1<=(aG (cO S dir (aL path)).cur n).links) (hs3:gL (cO S dir (aL path)))
  (hnd:pW ((cO S dir (aL path)).keep n {aG (cO S dir (aL path)).cur n with links:=(aG (cO S dir (aL path)).cur n).links-1}) n) (hs4:gL ((cO S dir (aL path)).keep n {aG (cO S dir (aL path)).cur n with links:=(aG (cO S dir (aL path)).cur n).links-1})) (h:Sep w0 w (aF f q p S a::R)):
  Calls Tryz.prog 127 #[pV bf,pV bd,pV bi,pV bn] w (fO f q p S (some (oG S dir (aL path) n)) w0 R):=by
 have hR:=Lh hR0;obtain⟨SX,wC⟩:∃SX,SX=cO S dir (aL path):=⟨_,rfl⟩;have zA:Hid (eZ S SX):=by rw[wC];exact Lh (oQ _ _ _)
 have hba:Hid (∀W,Calls Tryz.prog 121 #[aC path] W fun e w'=>e= .returned (aC (aL path))/\Below W.heap.size W w'):=Lh fun W=>uS hv hp W
 have hlv:Hid (∀W a1,VC S a1->Sep w0 W (aF f q p S a1::R)->Calls Tryz.prog 120 #[pV f,iV dir,aC (aL path)] W fun e w'=>e= .returned (.tuple #[])/\∃a',VC SX a'/\Sep w0 w' (aF f q p SX a'::R)):=Lh fun W a1 h1 h2=>by rw[wC];exact PO h1 hF hl hs h2
 obtain⟨xX,PZ⟩:∃xX,xX=aG SX.cur n:=⟨_,rfl⟩;rw[<-wC,<-PZ]at hlk hnd hs4;obtain⟨kl,hkl⟩:∃kl,xX.links=kl+1:=⟨xX.links-1,by omega⟩;rw[hkl,OB]at hnd hs4;have hin:Hid (∀W Y a1,VC SX a1->Sep w0 W (aF f q p SX a1::(Y++R))->Calls Tryz.prog 72 #[pV f,iV n] W fun e w'=>∃A c a2,e= .returned (.agg #[iV (xX.kind:Nat),iV (xX.mode:Nat),iV (xX.links:Nat),iV (xX.size:Nat),.slice A xX.aB.length c])/\VC SX a2/\Sep w0 w' (aF f q p SX a2::aR (.slice A xX.aB.length c) (dZ xX.aB)::(Y++R))):=Lh fun W Y a1 h1 h2=>by rw[PZ];exact H8 h1 (zA.out.vf hF) (by rw[wC];exact hn) h2
 have hxo:xX.ok:=by rw[PZ,wC];exact JW (by have:=hn.few;unfold aG at this;exact this)
 have hyo:({xX with links:=kl}:VI).ok:=⟨hxo.kind,hxo.mode,by show kl<65536;have:=hxo.links;omega,hxo.size,hxo.few,hxo.spot⟩;have aH9:(kl:Int)<65536:=by have:=hxo.links;omega
 obtain⟨SK,hSK⟩:∃SK,SK=SX.keep n {xX with links:=kl}:=⟨_,rfl⟩;rw[<-hSK]at hnd hs4;have P5:Hid (eZ S SK):=by rw[hSK];exact Lh (zA.out.keep _ _)
 have hkp:Hid (∀W bx A c a1,VC SX a1->Sep w0 W (aF f q p SX a1:: .box bx 129 (aN {xX with links:=kl} (.slice A xX.aB.length c))::aR (.slice A xX.aB.length c) (dZ xX.aB)::R)->Calls Tryz.prog 100 #[pV f,iV n,.agg #[iV (xX.kind:Nat),iV (xX.mode:Nat),iV ((kl:Nat)),iV (xX.size:Nat),.slice A xX.aB.length c]] W fun e w'=>e= .returned (.tuple #[])/\∃a',VC SK a'/\Sep w0 w' (aF f q p SK a':: .box bx 129 (aN {xX with links:=kl} (.slice A xX.aB.length c))::aR (.slice A xX.aB.length c) (dZ xX.aB)::R)):=Lh fun W bx A c a1 h1 h2=>by have:=NH (n:=n) (y:= {xX with links:=kl}) (v:=.slice A xX.aB.length c) h1 (zA.out.vf hF) (by rw[wC];exact hn) hyo (by rw[wC];exact hs3) 1 rfl h2;rw[hSK];unfold fJ aN at this;exact this
 have hdr:Hid (∀W a1 Y,VC SK a1->Sep w0 W (aF f q p SK a1::(Y++R))->Calls Tryz.prog 122 #[pV f,iV n] W fun e w'=>e= .returned (.tuple #[])/\∃a',VC (mP SK n) a'/\Sep w0 w' (aF f q p (mP SK n) a'::(Y++R))):=Lh fun W a1 Y h1 h2=>ajR h1 (P5.out.vf hF) hnd hs4 h2
 have hres:Hid (oG S dir (aL path) n=if kl=0 then mP SK n else SK):=Lh (by unfold oG;simp only[<-wC,<-PZ];rw[hkl,OB,<-hSK]);obtain⟨b1,hb1⟩:∃b,b=aL path:=⟨_,rfl⟩;obtain⟨rX,wD⟩:∃rX,rX=oG S dir (aL path) n:=⟨_,rfl⟩;rw[<-wD]at hres ⊢;rw[<-hb1]at hba hlv;have hX0:=Lh h;have hV0:=Lh hC;have aDF:Hid (((xX.links:Nat):Int)=(kl:Int)+1):=Lh aD;clear hR0 hC hF hv hp hl hs hn hlk hs3 hnd hs4 h wC hb1 wD PZ hxo hyo hSK hkl zA P5;unfold aC at*;go_enter Tryz.func127,Tryz.ntmps127;go_wp2_with fail;have hc:=hR.out w.drew [_] hX0.out.drew;refine aP (S:=fun w'=>w'.cell? ⟨bf,0,none⟩=some (pV f)/\w'.cell? ⟨bd,0,none⟩=some (iV dir)/\w'.cell? ⟨bi,1,none⟩=some (.string ⟨path.toArray⟩)/\w'.cell? ⟨bn,0,none⟩=some (iV n)) 8 ?_;refine aA 0 hc ?_;refine aA 1 hc ?_;refine aA 2 hc ?_;refine aA 3 hc ?_;refine aA 4 hc ?_;refine aA 5 hc ?_;refine bI 6 fun K hK=>?_
 go_simp;go_at_call 121;refine(hba.out _).mono ?_;rintro e w9 ⟨rfl,wM⟩;replace hX0:=Lh (hX0.out.drew.pure wM);have gZ:=hR.out w9 [_] hX0.out;clear hc wM;dsimp only;refine hK _ _ (fun _=>gZ) ?_;clear hK K;try simp only[Act.put,gD]
 refine bI 7 fun K hK=>?_
 go_simp;go_at_call 120;refine(hlv.out _ _ hV0.out hX0.out).mono ?_;rintro e w8 ⟨rfl,aX,zB,h8⟩;have hc8:=hR.out w8 [_] h8;have hV:=Lh zB;have hX:=Lh h8;clear zB h8 hX0 hV0 gZ hlv hba;dsimp only;refine hK _ _ (fun _=>hc8) ?_;clear hK K;try simp only[Act.put,gD]
 refine aQ fH ?_ _;clear hc8;go_wp2_with fail;refine eO (S:=fun w'=>w'.cell? ⟨bf,0,none⟩=some (pV f)/\w'.cell? ⟨bd,0,none⟩=some (iV dir)/\w'.cell? ⟨bi,1,none⟩=some (.string ⟨path.toArray⟩)/\w'.cell? ⟨bn,0,none⟩=some (iV n)) 7 fH ?_;intro wq hwq;have hX2:Hid (Sep w0 wq (aF f q p SX aX::R)):=by rw[hwq];exact Lh hX.out.drew
 clear hwq hX;have hc:=hR.out wq [_] hX2.out;simp only[kE,kR,rT,Nat.reduceAdd];refine aA 0 hc ?_;refine aA 1 hc ?_;refine aA 2 hc ?_;refine aA 3 hc ?_;refine aA 4 hc ?_;refine iX (i:=5) (j:=6) fH rfl rfl (fun K hK=>?_) (fun K hK=>?_)
 focus
  go_simp
  go_at_call 72
  refine(hin.out _ [] _ hV.out hX2.out).mono ?_
  rintro e w9 ⟨A9,c9,a9,rfl,eP,h9⟩
  have gZ:=hR.out w9 [_,_] h9
  have h8:=Lh (h9.bN 129 gM)
  have hc8:=hR.out _ [_,_,_] h8.out
  clear hc hX2
  dsimp only
  refine hK _ _ (fun _=>gZ) ?_
  clear hK K
  try simp only[Act.put,gD]
  refine bI 6 fun K hK=>?_
  go_simp
  unfold gM at hc8
  try dsimp only
  refine hK _ _ (fun _=>hc8) ?_
  clear hK K
  try simp only[Act.put,gD]
  obtain⟨bx,hbx⟩:∃bx,bx=w9.heap.size:=⟨_,rfl⟩
  obtain⟨w8,hw8⟩:∃x,x=w9.alloc (.cells #[iV 0,iV 0,iV 0,iV 0,.slice none 0 0] 129):=⟨_,rfl⟩
  have hB:Hid (Sep w0 w8 (.box bx 129 gM::aF f q p SX a9::aR (.slice A9 xX.aB.length c9) (dZ xX.aB)::R)):=by rw[hw8,hbx];exact h8
  rw[<-hw8,<-hbx]
  clear hw8 hbx h8 hc8 gZ h9
  have BB:=Lh eP
  clear eP
 rotate_left
 focus
  go_simp
  have h9:=Lh (hX2.out.bN 129 gM)
  have gZ:=hR.out _ [_,_] h9.out
  clear hc
  unfold gM at gZ
  try dsimp only
  refine hK _ _ (fun _=>gZ) ?_
  clear hK K
  try simp only[Act.put,gD]
  obtain⟨bx,hbx⟩:∃bx,bx=wq.heap.size:=⟨_,rfl⟩
  obtain⟨w9,H9⟩:∃x,x=wq.alloc (.cells #[iV 0,iV 0,iV 0,iV 0,.slice none 0 0] 129):=⟨_,rfl⟩
  have h8:Hid (Sep w0 w9 (aF f q p SX aX::([.box bx 129 gM]++R))):=by exact Z61
  rw[<-H9,<-hbx]
  clear H9 hbx h9 gZ hX2
  refine bI 5 fun K hK=>?_
  go_simp
  go_at_call 72
  refine(hin.out _ _ _ hV.out h8.out).mono ?_
  rintro e w8 ⟨A9,c9,a9,rfl,eP,h7⟩
  have hB:Hid (Sep w0 w8 (.box bx 129 gM::aF f q p SX a9::aR (.slice A9 xX.aB.length c9) (dZ xX.aB)::R)):=Lh (Sep.dE [2,0,1] h7 aV bL)
  have gZ:=hR.out w8 [_,_,_] hB.out
  clear h8 h7
  dsimp only
  refine hK _ _ (fun _=>gZ) ?_
  clear hK K
  try simp only[Act.put,gD]
  clear gZ
  have BB:=Lh eP
  clear eP
 all_goals
  obtain⟨z0,z1,z2,z3,z4,y0,y1,y2,y3,y4,hfin⟩:=hB.out.uC 0 rfl xX (.slice A9 xX.aB.length c9)
  replace hfin:=Lh hfin
  clear hB hV
  refine bB 7 (fun h=>absurd rfl h) ?_
  refine aQ fH ?_ _
  clear z0 z1 z2 z3 z4 y0 y1 y2 y3 y4
  obtain⟨w7,hw7⟩:∃w7,w7=(((((w8.setCell ⟨bx,0,none⟩ (.int .i64 (xX.kind:Nat))).setCell ⟨bx,1,none⟩ (.int .i64 (xX.mode:Nat))).setCell ⟨bx,2,none⟩ (.int .i64 (xX.links:Nat))).setCell ⟨bx,3,none⟩ (.int .i64 (xX.size:Nat))).setCell ⟨bx,4,none⟩ (.slice A9 xX.aB.length c9)):=⟨_,rfl⟩
  rw[<-hw7]at hfin ⊢
  clear hw7
  have d2:=(hfin.out.dK 0 rfl).2.2.1
  have f2:=hfin.out.bF 0 rfl 2
  have h6:Hid (Sep w0 (w7.setCell ⟨bx,2,none⟩ (.int .i64 (kl:Nat))) (.box bx 129 (aN {xX with links:=kl} (.slice A9 xX.aB.length c9))::aF f q p SX a9::aR (.slice A9 xX.aB.length c9) (dZ xX.aB)::R)):=Lh (hfin.out.bS 0 rfl 2 (.int .i64 (kl:Nat)))
  rw[aDF.out]at d2
  clear aDF
  clear hfin
  go_wp2_with fail
  obtain⟨w6,hw6⟩:∃w6,w6=w7.setCell ⟨bx,2,none⟩ (.int .i64 (kl:Nat)):=⟨_,rfl⟩
  rw[<-hw6]at h6 ⊢
  clear hw6 d2 f2
  have k1:=hR.out w6.drew [_,_,_] h6.out.drew
  have k2:=h6.out.drew.dK 0 rfl
  have hE:w6.drew.cell? ⟨bf,0,none⟩=some (pV f)/\w6.drew.cell? ⟨bd,0,none⟩=some (iV dir)/\w6.drew.cell? ⟨bi,1,none⟩=some (.string ⟨path.toArray⟩)/\w6.drew.cell? ⟨bn,0,none⟩=some (iV n)/\w6.drew.cell? ⟨bx,0,none⟩=some (iV (xX.kind:Nat))/\w6.drew.cell? ⟨bx,1,none⟩=some (iV (xX.mode:Nat))/\w6.drew.cell? ⟨bx,2,none⟩=some (iV (kl:Nat))/\w6.drew.cell? ⟨bx,3,none⟩=some (iV (xX.size:Nat))/\w6.drew.cell? ⟨bx,4,none⟩=some (.slice A9 xX.aB.length c9):=⟨k1.1,k1.2.1,k1.2.2.1,k1.2.2.2,k2.1,k2.2.1,k2.2.2.1,k2.2.2.2.1,k2.2.2.2.2⟩
  have sN:=hkp.out _ _ _ _ _ BB.out (Sep.dE [1,0,2] h6.out.drew aV bL)
  clear k1 k2 h6
  refine aP (S:=fun w'=>w'.cell? ⟨bf,0,none⟩=some (pV f)/\w'.cell? ⟨bd,0,none⟩=some (iV dir)/\w'.cell? ⟨bi,1,none⟩=some (.string ⟨path.toArray⟩)/\w'.cell? ⟨bn,0,none⟩=some (iV n)/\w'.cell? ⟨bx,0,none⟩=some (iV (xX.kind:Nat))/\w'.cell? ⟨bx,1,none⟩=some (iV (xX.mode:Nat))/\w'.cell? ⟨bx,2,none⟩=some (iV (kl:Nat))/\w'.cell? ⟨bx,3,none⟩=some (iV (xX.size:Nat))/\w'.cell? ⟨bx,4,none⟩=some (.slice A9 xX.aB.length c9)) 7 ?_
  refine aA 0 hE ?_
  refine aA 1 hE ?_
  refine aA 2 hE ?_
  refine aA 3 hE ?_
  refine aA 4 hE ?_
  refine aA 5 hE ?_
  refine bI 6 fun K hK=>?_
  go_simp
  go_at_call 100
  refine sN.mono ?_
  rintro e w5 ⟨rfl,a5,hC5,h5⟩
  have k5:=hR.out w5 [_,_,_] h5
  have k6:=h5.dK 1 rfl
  have d2:=k6.2.2.1
  replace h5:=Lh h5
  replace hC5:=Lh hC5
  clear sN hE
  dsimp only
  refine hK _ _ (fun _=>⟨k5.1,k5.2.1,k5.2.2.1,k5.2.2.2,k6.1,k6.2.1,k6.2.2.1,k6.2.2.2.1,k6.2.2.2.2⟩) ?_
  clear hK K
  try simp only[Act.put,gD]
  refine aQ fH ?_ _
  clear k5 k6
  by_cases hk0:kl=0
  ·have hrr:=hres.out;rw[if_pos hk0]at hrr;(have hk1:((kl:Int)==0)=true:=by rw[sK];omega);replace hrr:=Lh hrr;clear hk0;go_wp2_with fail;have hc:=hR.out w5.drew [_,_,_] h5.out.drew;have hd2:=hdr.out _ _ [_,_] hC5.out h5.out.drew;refine aP (S:=fun w'=>w'.cell? ⟨bf,0,none⟩=some (pV f)/\w'.cell? ⟨bd,0,none⟩=some (iV dir)/\w'.cell? ⟨bi,1,none⟩=some (.string ⟨path.toArray⟩)/\w'.cell? ⟨bn,0,none⟩=some (iV n)) 6 ?_;refine aA 0 hc ?_;refine aA 1 hc ?_;refine aA 2 hc ?_;refine aA 3 hc ?_;refine aA 4 hc ?_;(refine bI 5 fun K hK=>?_);go_simp;go_at_call 122;refine hd2.mono ?_;rintro e w4 ⟨rfl,a4,TH,h4⟩;have hc4:=hR.out w4 [_,_,_] h4;replace h4:=Lh h4;replace TH:=Lh TH;clear hd2 hc;dsimp only;refine hK _ _ (fun _=>hc4) ?_;clear hK K;(try simp only[Act.put,gD]);refine aQ fH ?_ _
   go_end0
   unfold fO;rw[hrr.out];exact⟨rfl,a4,TH.out,(Sep.dE [1,2,0] h4.out aV bL).drop 2⟩
  ·have hrr:=hres.out;rw[if_neg hk0]at hrr;(have hk1:((kl:Int)==0)=false:=by rw[jM];omega);replace hrr:=Lh hrr;clear hk0;go_wp2_with fail
   go_end0
   unfold fO;rw[hrr.out];exact⟨rfl,a5,hC5.out,(Sep.dE [1,2,0] h5.out aV bL).drop 2⟩
theorem alX {bf bi bt bn tz n:Nat} {bA:List UInt8} (hR0:∀W Y,Sep w0 W (Y++R)->W.cell? ⟨bf,0,none⟩=some (pV f)/\W.cell? ⟨bn,0,none⟩=some (iV n)/\W.cell? ⟨bt,0,none⟩=some (iV tz)/\W.cell? ⟨bi,2,none⟩=some (aC bA))
  (hC:VC S a) (hF:VF S) (hv2:aU bA=true) (hp2:bA.length<=1048576) (hn:pW S n) (hlk:(aG S.cur n).links<65535) (hs3:gL S)
  (he:oF (S.keep n {aG S.cur n with links:=(aG S.cur n).links+1}) tz n (aL bA)) (hs2:lT (S.keep n {aG S.cur n with links:=(aG S.cur n).links+1})) (h:Sep w0 w (aF f q p S a::R)):
  Calls Tryz.prog 126 #[pV bf,pV bn,pV bt,pV bi] w (fO f q p S (y9 S n tz (aL bA)) w0 R):=by
 have hR:=Lh hR0;obtain⟨SX,wC⟩:∃SX,SX=S:=⟨_,rfl⟩;obtain⟨aX,haX⟩:∃aX,aX=a:=⟨_,rfl⟩;have YX:Hid (eZ S SX):=by rw[wC];exact Lh (.refl _)
 obtain⟨xX,PZ⟩:∃xX,xX=aG SX.cur n:=⟨_,rfl⟩;rw[<-wC,<-PZ]at hlk he hs2;have hin:Hid (∀W Y a1,VC SX a1->Sep w0 W (aF f q p SX a1::(Y++R))->Calls Tryz.prog 72 #[pV f,iV n] W fun e w'=>∃A c a2,e= .returned (.agg #[iV (xX.kind:Nat),iV (xX.mode:Nat),iV (xX.links:Nat),iV (xX.size:Nat),.slice A xX.aB.length c])/\VC SX a2/\Sep w0 w' (aF f q p SX a2::aR (.slice A xX.aB.length c) (dZ xX.aB)::(Y++R))):=Lh fun W Y a1 h1 h2=>by rw[PZ];exact H8 h1 (YX.out.vf hF) (by rw[wC];exact hn) h2
 have hxo:xX.ok:=by rw[PZ,wC];exact JW (by have:=hn.few;unfold aG at this;exact this)
 have hyo:({xX with links:=xX.links+1}:VI).ok:=⟨hxo.kind,hxo.mode,by show xX.links+1<65536;omega,hxo.size,hxo.few,hxo.spot⟩;have aH9:(xX.links:Int)<65535:=by omega
 obtain⟨SK,hSK⟩:∃SK,SK=SX.keep n {xX with links:=xX.links+1}:=⟨_,rfl⟩;rw[<-hSK]at he hs2;have zA:Hid (eZ S SK):=by rw[hSK];exact Lh (YX.out.keep _ _)
 have hkp:Hid (∀W bx A c a1,VC SX a1->Sep w0 W (aF f q p SX a1:: .box bx 129 (aN {xX with links:=xX.links+1} (.slice A xX.aB.length c))::aR (.slice A xX.aB.length c) (dZ xX.aB)::R)->Calls Tryz.prog 100 #[pV f,iV n,.agg #[iV (xX.kind:Nat),iV (xX.mode:Nat),iV ((xX.links:Int)+1),iV (xX.size:Nat),.slice A xX.aB.length c]] W fun e w'=>e= .returned (.tuple #[])/\∃a',VC SK a'/\Sep w0 w' (aF f q p SK a':: .box bx 129 (aN {xX with links:=xX.links+1} (.slice A xX.aB.length c))::aR (.slice A xX.aB.length c) (dZ xX.aB)::R)):=Lh fun W bx A c a1 h1 h2=>by have:=NH (n:=n) (y:= {xX with links:=xX.links+1}) (v:=.slice A xX.aB.length c) h1 (YX.out.vf hF) (by rw[wC];exact hn) hyo (by rw[wC];exact hs3) 1 rfl h2;rw[hSK];unfold fJ aN at this;exact this
 have MS:Hid (∀W,Calls Tryz.prog 121 #[aC bA] W fun e w'=>e= .returned (aC (aL bA))/\Below W.heap.size W w'):=Lh fun W=>uS hv2 hp2 W
 obtain⟨rX,wD⟩:∃rX,rX=y9 S n tz (aL bA):=⟨_,rfl⟩;have hen:Hid (∀W a1,VC SK a1->Sep w0 W (aF f q p SK a1::R)->Calls Tryz.prog 125 #[pV f,iV tz,aC (aL bA),iV n] W (fO f q p SK rX w0 R)):=Lh fun W a1 h1 h2=>by rw[wD];unfold y9;rw[<-wC,<-PZ,<-hSK];exact HV h1 (zA.out.vf hF) he hs2 h2
 obtain⟨b2,hb2⟩:∃b,b=aL bA:=⟨_,rfl⟩;rw[<-wD];rw[<-hb2]at MS hen;have hX:Hid (Sep w0 w (aF f q p SX aX::R)):=by rw[wC,haX];exact Lh h
 have hV:Hid (VC SX aX):=by rw[wC,haX];exact Lh hC
 clear hR0 hC hF hv2 hp2 hn hlk hs3 he hs2 h wC haX wD hb2 PZ hxo hyo hSK YX;unfold aC at*;go_enter Tryz.func126,Tryz.ntmps126;go_wp2_with fail;refine eO (S:=fun w'=>w'.cell? ⟨bf,0,none⟩=some (pV f)/\w'.cell? ⟨bn,0,none⟩=some (iV n)/\w'.cell? ⟨bt,0,none⟩=some (iV tz)/\w'.cell? ⟨bi,2,none⟩=some (.string ⟨bA.toArray⟩)) 7 fH ?_;intro wq hwq;have hX2:Hid (Sep w0 wq (aF f q p SX aX::R)):=by rw[hwq];exact Lh hX.out.drew
 clear hwq hX;have hc:=hR.out wq [_] hX2.out;simp only[kE,kR,rT,Nat.reduceAdd];refine aA 0 hc ?_;refine aA 1 hc ?_;refine aA 2 hc ?_;refine aA 3 hc ?_;refine aA 4 hc ?_;refine iX (i:=5) (j:=6) fH rfl rfl (fun K hK=>?_) (fun K hK=>?_)
 focus
  go_simp
  go_at_call 72
  refine(hin.out _ [] _ hV.out hX2.out).mono ?_
  rintro e w9 ⟨A9,c9,a9,rfl,eP,h9⟩
  have gZ:=hR.out w9 [_,_] h9
  have h8:=Lh (h9.bN 129 gM)
  have hc8:=hR.out _ [_,_,_] h8.out
  clear hc hX2
  dsimp only
  refine hK _ _ (fun _=>gZ) ?_
  clear hK K
  try simp only[Act.put,gD]
  refine bI 6 fun K hK=>?_
  go_simp
  unfold gM at hc8
  try dsimp only
  refine hK _ _ (fun _=>hc8) ?_
  clear hK K
  try simp only[Act.put,gD]
  obtain⟨bx,hbx⟩:∃bx,bx=w9.heap.size:=⟨_,rfl⟩
  obtain⟨w8,hw8⟩:∃x,x=w9.alloc (.cells #[iV 0,iV 0,iV 0,iV 0,.slice none 0 0] 129):=⟨_,rfl⟩
  have hB:Hid (Sep w0 w8 (.box bx 129 gM::aF f q p SX a9::aR (.slice A9 xX.aB.length c9) (dZ xX.aB)::R)):=by rw[hw8,hbx];exact h8
  rw[<-hw8,<-hbx]
  clear hw8 hbx h8 hc8 gZ h9
  have BB:=Lh eP
  clear eP
 rotate_left
 focus
  go_simp
  have h9:=Lh (hX2.out.bN 129 gM)
  have gZ:=hR.out _ [_,_] h9.out
  clear hc
  unfold gM at gZ
  try dsimp only
  refine hK _ _ (fun _=>gZ) ?_
  clear hK K
  try simp only[Act.put,gD]
  obtain⟨bx,hbx⟩:∃bx,bx=wq.heap.size:=⟨_,rfl⟩
  obtain⟨w9,H9⟩:∃x,x=wq.alloc (.cells #[iV 0,iV 0,iV 0,iV 0,.slice none 0 0] 129):=⟨_,rfl⟩
  have h8:Hid (Sep w0 w9 (aF f q p SX aX::([.box bx 129 gM]++R))):=by exact Z61
  rw[<-H9,<-hbx]
  clear H9 hbx h9 gZ hX2
  refine bI 5 fun K hK=>?_
  go_simp
  go_at_call 72
  refine(hin.out _ _ _ hV.out h8.out).mono ?_
  rintro e w8 ⟨A9,c9,a9,rfl,eP,h7⟩
  have hB:Hid (Sep w0 w8 (.box bx 129 gM::aF f q p SX a9::aR (.slice A9 xX.aB.length c9) (dZ xX.aB)::R)):=Lh (Sep.dE [2,0,1] h7 aV bL)
  have gZ:=hR.out w8 [_,_,_] hB.out
  clear h8 h7
  dsimp only
  refine hK _ _ (fun _=>gZ) ?_
  clear hK K
  try simp only[Act.put,gD]
  clear gZ
  have BB:=Lh eP
  clear eP
 all_goals
  obtain⟨z0,z1,z2,z3,z4,y0,y1,y2,y3,y4,hfin⟩:=hB.out.uC 0 rfl xX (.slice A9 xX.aB.length c9)
  replace hfin:=Lh hfin
  clear hB hV
  refine bB 7 (fun h=>absurd rfl h) ?_
  refine aQ fH ?_ _
  clear z0 z1 z2 z3 z4 y0 y1 y2 y3 y4
  obtain⟨w7,hw7⟩:∃w7,w7=(((((w8.setCell ⟨bx,0,none⟩ (.int .i64 (xX.kind:Nat))).setCell ⟨bx,1,none⟩ (.int .i64 (xX.mode:Nat))).setCell ⟨bx,2,none⟩ (.int .i64 (xX.links:Nat))).setCell ⟨bx,3,none⟩ (.int .i64 (xX.size:Nat))).setCell ⟨bx,4,none⟩ (.slice A9 xX.aB.length c9)):=⟨_,rfl⟩
  rw[<-hw7]at hfin ⊢
  clear hw7
  have d2:=(hfin.out.dK 0 rfl).2.2.1
  have f2:=hfin.out.bF 0 rfl 2
  have h6:Hid (Sep w0 (w7.setCell ⟨bx,2,none⟩ (.int .i64 ((xX.links:Int)+1))) (.box bx 129 (aN {xX with links:=xX.links+1} (.slice A9 xX.aB.length c9))::aF f q p SX a9::aR (.slice A9 xX.aB.length c9) (dZ xX.aB)::R)):=Lh (hfin.out.bS 0 rfl 2 (.int .i64 ((xX.links:Int)+1)))
  clear hfin
  go_wp2_with fail
  obtain⟨w6,hw6⟩:∃w6,w6=w7.setCell ⟨bx,2,none⟩ (.int .i64 ((xX.links:Int)+1)):=⟨_,rfl⟩
  rw[<-hw6]at h6 ⊢
  clear hw6 d2 f2
  have k1:=hR.out w6.drew [_,_,_] h6.out.drew
  have k2:=h6.out.drew.dK 0 rfl
  have hE:w6.drew.cell? ⟨bf,0,none⟩=some (pV f)/\w6.drew.cell? ⟨bn,0,none⟩=some (iV n)/\w6.drew.cell? ⟨bt,0,none⟩=some (iV tz)/\w6.drew.cell? ⟨bi,2,none⟩=some (.string ⟨bA.toArray⟩)/\w6.drew.cell? ⟨bx,0,none⟩=some (iV (xX.kind:Nat))/\w6.drew.cell? ⟨bx,1,none⟩=some (iV (xX.mode:Nat))/\w6.drew.cell? ⟨bx,2,none⟩=some (iV ((xX.links:Int)+1))/\w6.drew.cell? ⟨bx,3,none⟩=some (iV (xX.size:Nat))/\w6.drew.cell? ⟨bx,4,none⟩=some (.slice A9 xX.aB.length c9):=⟨k1.1,k1.2.1,k1.2.2.1,k1.2.2.2,k2.1,k2.2.1,k2.2.2.1,k2.2.2.2.1,k2.2.2.2.2⟩
  have sN:=hkp.out _ _ _ _ _ BB.out (Sep.dE [1,0,2] h6.out.drew aV bL)
  clear k1 k2 h6
  refine aP (S:=fun w'=>w'.cell? ⟨bf,0,none⟩=some (pV f)/\w'.cell? ⟨bn,0,none⟩=some (iV n)/\w'.cell? ⟨bt,0,none⟩=some (iV tz)/\w'.cell? ⟨bi,2,none⟩=some (.string ⟨bA.toArray⟩)/\w'.cell? ⟨bx,0,none⟩=some (iV (xX.kind:Nat))/\w'.cell? ⟨bx,1,none⟩=some (iV (xX.mode:Nat))/\w'.cell? ⟨bx,2,none⟩=some (iV ((xX.links:Int)+1))/\w'.cell? ⟨bx,3,none⟩=some (iV (xX.size:Nat))/\w'.cell? ⟨bx,4,none⟩=some (.slice A9 xX.aB.length c9)) 7 ?_
  refine aA 0 hE ?_
  refine aA 1 hE ?_
  refine aA 2 hE ?_
  refine aA 3 hE ?_
  refine aA 4 hE ?_
  refine aA 5 hE ?_
  refine bI 6 fun K hK=>?_
  go_simp
  go_at_call 100
  refine sN.mono ?_
  rintro e w5 ⟨rfl,aY,hC5,h5⟩
  have k5:=hR.out w5 [_,_,_] h5
  have k6:=h5.dK 1 rfl
  have hX:Hid (Sep w0 w5 (aF f q p SK aY::R)):=Lh ((Sep.dE [1,2,0] h5 aV bL).drop 2)
  have hV:=Lh hC5
  clear sN hE hC5 h5
  dsimp only
  refine hK _ _ (fun _=>⟨k5.1,k5.2.1,k5.2.2.1,k5.2.2.2,k6.1,k6.2.1,k6.2.2.1,k6.2.2.2.1,k6.2.2.2.2⟩) ?_
  clear hK K
  try simp only[Act.put,gD]
  refine aQ fH ?_ _
  clear k5 k6
  go_wp2_with fail
  have hc:=hR.out w5.drew [_] hX.out.drew
  refine aP (S:=fun w'=>w'.cell? ⟨bf,0,none⟩=some (pV f)/\w'.cell? ⟨bn,0,none⟩=some (iV n)/\w'.cell? ⟨bt,0,none⟩=some (iV tz)/\w'.cell? ⟨bi,2,none⟩=some (.string ⟨bA.toArray⟩)) 9 ?_
  refine aA 0 hc ?_
  refine aA 1 hc ?_
  refine aA 2 hc ?_
  refine aA 3 hc ?_
  refine aA 4 hc ?_
  refine aA 5 hc ?_
  refine aA 7 hc ?_
  refine bI 6 fun K hK=>?_
  go_simp
  go_at_call 121
  refine(MS.out _).mono ?_
  rintro e v9 ⟨rfl,wM⟩
  replace hX:=Lh (hX.out.drew.pure wM)
  have gZ:=hR.out v9 [_] hX.out
  clear hc wM
  dsimp only
  refine hK _ _ (fun _=>gZ) ?_
  clear hK K
  try simp only[Act.put,gD]
  refine bI 8 fun K hK=>?_
  go_simp
  go_at_call 125
  refine(hen.out _ _ hV.out hX.out).mono ?_
  intro e v8 ho
  cases rX with
  |none=>unfold fO at ho;obtain⟨rfl,T,aT,hLT,hCT,hT⟩:=ho;unfold fO;exact⟨rfl,rfl,T,aT,zA.out.trans hLT,hCT,hT⟩
  |some T=>exact Z8
end
end Go.Proofs.YtmjomdkleikgbaaGreat
