/- Parts. -/
import Derived.Test.YteihmbaimbogaaaGreatJ16
set_option linter.unusedVariables false
set_option linter.unusedSimpArgs false
set_option maxRecDepth 100000
set_option maxHeartbeats 20000000
namespace Go.Proofs.YteihmbaimbogaaaGreat
open Go.RowKit
def qE (S:VS) (dir:Nat) (name:List UInt8) (n:Nat):VS:=
 let S1:=dH S dir name
 let y:VI:= {aH S1.cur n with links:=(aH S1.cur n).links-1}
 if y.links=0 then oF (S1.keep n y) n else S1.keep n y
def uV (S:VS) (n mode:Nat):VS:=S.keep n {aH S.cur n with mode:=mode}
def qF (S:VS) (dir:Nat) (name:List UInt8) (tz:Nat) (aHD:List UInt8) (n:Nat):Option VS:=iN (dH S dir name) tz aHD n
def CY (S:VS) (n tz:Nat) (name:List UInt8):Option VS:=iN (S.keep n {aH S.cur n with links:=(aH S.cur n).links+1}) tz name n
def iC :Array Value:=#[iV 0,iV 0,iV 0,iV 0,.slice none 0 0]
section
variable {w0 w:World} {R:List bK} {f q p:Nat} {S:VS} {a:VA}
theorem Sep.vY {As:List bK} {b:Nat} (i:Nat) (h:Sep w0 w As) (hi:As[i]? =some (.box b 118 iC)) (x:VI) (v:Value):
  w.frozen? ⟨b,0,none⟩=false/\w.frozen? ⟨b,1,none⟩=false/\w.frozen? ⟨b,2,none⟩=false/\w.frozen? ⟨b,3,none⟩=false/\w.frozen? ⟨b,4,none⟩=false/\
  w.cell? ⟨b,0,none⟩=some (iV 0)/\w.cell? ⟨b,1,none⟩=some (iV 0)/\w.cell? ⟨b,2,none⟩=some (iV 0)/\w.cell? ⟨b,3,none⟩=some (iV 0)/\w.cell? ⟨b,4,none⟩=some (.slice none 0 0)/\
  Sep w0 (((((w.setCell ⟨b,0,none⟩ (.int .i64 (x.kind:Nat))).setCell ⟨b,1,none⟩ (.int .i64 (x.mode:Nat))).setCell ⟨b,2,none⟩ (.int .i64 (x.links:Nat))).setCell ⟨b,3,none⟩ (.int .i64 (x.size:Nat))).setCell ⟨b,4,none⟩ v) (As.set i (.box b 118 (aO x v))):=by
 have z:=fun j=>h.bF i hi j
 have y:=fun j=>h.bC i hi j
 have hlt:=(gF.1 hi).1;have hs:∀(l:List bK) (A:bK),l.length=As.length->(l.set i A)[i]? =some A:=fun l A hl=>MO aD
 have h1:=h.bS i hi 0 (.int .i64 (x.kind:Nat));have h2:=h1.bS i (hs _ _ rfl) 1 (.int .i64 (x.mode:Nat));have h3:=h2.bS i (hs _ _ bM) 2 (.int .i64 (x.links:Nat));have h4:=h3.bS i (hs _ _ bM) 3 (.int .i64 (x.size:Nat));have h5:=h4.bS i (hs _ _ bM) 4 v;simp only[YN]at h5;exact⟨z 0,z 1,z 2,z 3,z 4,y 0,y 1,y 2,y 3,y 4,h5⟩
theorem KX {n:Nat} (hC:VC S a) (hF:VF S) (hn:o7 S n) (h:Sep w0 w (aF f q p S a::R)):
  Calls Tryz.prog 64 #[pV f,iV n] w fun e w'=>∃A c a2,e= .returned (.agg #[iV ((aH S.cur n).kind:Nat),iV ((aH S.cur n).mode:Nat),iV ((aH S.cur n).links:Nat),iV ((aH S.cur n).size:Nat),.slice A (aH S.cur n).aB.length c])/\VC S a2/\Sep w0 w' (aF f q p S a2::bA (.slice A (aH S.cur n).aB.length c) (fB (aH S.cur n).aB)::R):=by
 refine(jM hC hF hn.lt hn.few h).mono ?_;rintro e w' ⟨v,a2,rfl,hR,h9⟩;obtain⟨A,c,e9⟩:=h9.eF 0 rfl;have hll:(fB (aH S.cur n).aB).length=(aH S.cur n).aB.length:=by unfold fB;rw[kV]
 rw[hll]at e9;subst e9;exact⟨A,c,a2,rfl,hR.ok,h9.perm (List.Perm.swap _ _ _)⟩
theorem QE {n:Nat} {y:VI} {v:Value} (hC:VC S a) (hF:VF S) (hn:o7 S n) (hy:y.ok) (hW:gM S) (i:Nat) (hv:R[i]? =some (bA v (fB y.aB))) (h:Sep w0 w (aF f q p S a::R)):
  Calls Tryz.prog 90 #[pV f,iV n,gK y v] w fun e w'=>e= .returned (.tuple #[])/\∃a',VC (S.keep n y) a'/\Sep w0 w' (aF f q p (S.keep n y) a'::R):=
 wP hC hF hn.lt hy hn.few hW (kL i hv) h
theorem Z75 {P:Prop} (h:P:=by rw[PV,hbx];exact Lh (h9.out.perm (List.Perm.swap _ _ _))):P:=h
theorem ajN {bf bi bn n mode:Nat} (hR0:∀W Y,Sep w0 W (Y++R)->W.cell? ⟨bf,0,none⟩=some (pV f)/\W.cell? ⟨bn,0,none⟩=some (iV n)/\W.cell? ⟨bi,3,none⟩=some (iV mode))
  (hC:VC S a) (hF:VF S) (hn:o7 S n) (hs:gM S) (hmode:mode<=511) (h:Sep w0 w (aF f q p S a::R)):
  Calls Tryz.prog 107 #[pV bf,pV bn,pV bi] w (fD f q p S (some (uV S n mode)) w0 R):=by
 have hR:=Lh hR0;obtain⟨SX,yD⟩:∃SX,SX=S:=⟨_,rfl⟩;obtain⟨aX,haX⟩:∃aX,aX=a:=⟨_,rfl⟩;obtain⟨xX,TB⟩:∃xX,xX=aH SX.cur n:=⟨_,rfl⟩;have hX:Hid (Sep w0 w (aF f q p SX aX::R)):=by rw[yD,haX];exact Lh h
 have hV:Hid (VC SX aX):=by rw[yD,haX];exact Lh hC
 have hin:Hid (∀W Y a1,VC SX a1->Sep w0 W (aF f q p SX a1::(Y++R))->Calls Tryz.prog 64 #[pV f,iV n] W fun e w'=>∃A c a2,e= .returned (.agg #[iV (xX.kind:Nat),iV (xX.mode:Nat),iV (xX.links:Nat),iV (xX.size:Nat),.slice A xX.aB.length c])/\VC SX a2/\Sep w0 w' (aF f q p SX a2::bA (.slice A xX.aB.length c) (fB xX.aB)::(Y++R))):=Lh fun W Y a1 h1 h2=>by rw[TB];exact KX h1 (by rw[yD];exact hF) (by rw[yD];exact hn) h2
 have hyo:({xX with mode:=mode}:VI).ok:=by(have h1:xX.ok:=by rw[TB,yD];exact MW (by have:=hn.few;unfold aH at this;exact this));exact⟨h1.kind,by show mode<65536;omega,h1.links,h1.size,h1.few,h1.spot⟩
 have hkp:Hid (∀W bx A c a1,VC SX a1->Sep w0 W (aF f q p SX a1:: .box bx 118 (aO {xX with mode:=mode} (.slice A xX.aB.length c))::bA (.slice A xX.aB.length c) (fB xX.aB)::R)->Calls Tryz.prog 90 #[pV f,iV n,.agg #[iV (xX.kind:Nat),iV mode,iV (xX.links:Nat),iV (xX.size:Nat),.slice A xX.aB.length c]] W fun e w'=>e= .returned (.tuple #[])/\(w'.cell? ⟨bf,0,none⟩=some (pV f)/\w'.cell? ⟨bn,0,none⟩=some (iV n)/\w'.cell? ⟨bi,3,none⟩=some (iV mode)/\w'.cell? ⟨bx,0,none⟩=some (iV (xX.kind:Nat))/\w'.cell? ⟨bx,1,none⟩=some (iV mode)/\w'.cell? ⟨bx,2,none⟩=some (iV (xX.links:Nat))/\w'.cell? ⟨bx,3,none⟩=some (iV (xX.size:Nat))/\w'.cell? ⟨bx,4,none⟩=some (.slice A xX.aB.length c))/\fD f q p S (some (uV S n mode)) w0 R (.returned (.tuple #[])) w'):=Lh fun W bx A c a1 h1 h2=>by
  refine(QE (y:= {xX with mode:=mode}) h1 (by rw[yD];exact hF) (by rw[yD];exact hn) hyo (by rw[yD];exact hs) 1 rfl h2).mono ?_;rintro e w' ⟨rfl,a',h3,h4⟩;have h5:=hR0 w' [_,_,_] h4;have h6:=h4.dR 1 rfl;refine⟨rfl,⟨h5.1,h5.2.1,h5.2.2,h6.1,h6.2.1,h6.2.2.1,h6.2.2.2.1,h6.2.2.2.2⟩,rfl,a',?_,?_⟩
  ·unfold uV;rw[yD]at TB h3;rw[TB]at h3;exact h3
  have h7:Sep w0 w' (.box bx 118 (aO {xX with mode:=mode} (.slice A xX.aB.length c))::bA (.slice A xX.aB.length c) (fB xX.aB)::aF f q p (SX.keep n {xX with mode:=mode}) a'::R):=Sep.dE [1,2,0] h4 aQ bM;unfold uV;rw[yD]at TB h7;rw[TB]at h7;exact h7.drop 2
 clear hR0 hC hF hn hs h hyo yD haX TB;go_enter Tryz.func107,Tryz.ntmps107;go_wp2_with fail;refine eU (S:=fun w'=>w'.cell? ⟨bf,0,none⟩=some (pV f)/\w'.cell? ⟨bn,0,none⟩=some (iV n)/\w'.cell? ⟨bi,3,none⟩=some (iV mode)) 7 fZ ?_;intro wq hwq;have hX2:Hid (Sep w0 wq (aF f q p SX aX::R)):=by rw[hwq];exact Lh hX.out.drew
 clear hwq hX;have hc:=hR.out wq [_] hX2.out;simp only[mK,nV,kW,Nat.reduceAdd];refine aA 0 hc ?_;refine aA 1 hc ?_;refine aA 2 hc ?_;refine aA 3 hc ?_;refine aA 4 hc ?_;refine kP (i:=5) (j:=6) fZ rfl rfl (fun K hK=>?_) (fun K hK=>?_)
 focus
  go_simp
  go_at_call 64
  refine(hin.out _ [] _ hV.out hX2.out).mono ?_
  rintro e w9 ⟨A9,c9,a9,rfl,eG,h9⟩
  have jC:=hR.out w9 [_,_] h9
  have h8:=Lh (h9.bN 118 iC)
  have hc8:=hR.out _ [_,_,_] h8.out
  clear hc hX2
  dsimp only
  refine hK _ _ (fun _=>jC) ?_
  clear hK K
  try simp only[Act.put,gD]
  refine bG 6 fun K hK=>?_
  go_simp
  unfold iC at hc8
  try dsimp only
  refine hK _ _ (fun _=>hc8) ?_
  clear hK K
  try simp only[Act.put,gD]
  obtain⟨bx,hbx⟩:∃bx,bx=w9.heap.size:=⟨_,rfl⟩
  obtain⟨w8,hw8⟩:∃x,x=w9.alloc (.cells #[iV 0,iV 0,iV 0,iV 0,.slice none 0 0] 118):=⟨_,rfl⟩
  have hB:Hid (Sep w0 w8 (.box bx 118 iC::aF f q p SX a9::bA (.slice A9 xX.aB.length c9) (fB xX.aB)::R)):=by rw[hw8,hbx];exact h8
  rw[<-hw8,<-hbx]
  clear hw8 hbx h8 hc8 jC h9
  have EM:=Lh eG
  clear eG
 rotate_left
 focus
  go_simp
  have h9:=Lh (hX2.out.bN 118 iC)
  have jC:=hR.out _ [_,_] h9.out
  clear hc
  unfold iC at jC
  try dsimp only
  refine hK _ _ (fun _=>jC) ?_
  clear hK K
  try simp only[Act.put,gD]
  obtain⟨bx,hbx⟩:∃bx,bx=wq.heap.size:=⟨_,rfl⟩
  obtain⟨w9,PV⟩:∃x,x=wq.alloc (.cells #[iV 0,iV 0,iV 0,iV 0,.slice none 0 0] 118):=⟨_,rfl⟩
  have h8:Hid (Sep w0 w9 (aF f q p SX aX::([.box bx 118 iC]++R))):=by exact Z75
  rw[<-PV,<-hbx]
  clear PV hbx h9 jC hX2
  refine bG 5 fun K hK=>?_
  go_simp
  go_at_call 64
  refine(hin.out _ _ _ hV.out h8.out).mono ?_
  rintro e w8 ⟨A9,c9,a9,rfl,eG,h7⟩
  have hB:Hid (Sep w0 w8 (.box bx 118 iC::aF f q p SX a9::bA (.slice A9 xX.aB.length c9) (fB xX.aB)::R)):=Lh (Sep.dE [2,0,1] h7 aQ bM)
  have jC:=hR.out w8 [_,_,_] hB.out
  clear h8 h7
  dsimp only
  refine hK _ _ (fun _=>jC) ?_
  clear hK K
  try simp only[Act.put,gD]
  clear jC
  have EM:=Lh eG
  clear eG
 all_goals
  obtain⟨z0,z1,z2,z3,z4,y0,y1,y2,y3,y4,hfin⟩:=hB.out.vY 0 rfl xX (.slice A9 xX.aB.length c9)
  replace hfin:=Lh hfin
  clear hB hV
  refine aW 7 (fun h=>absurd rfl h) ?_
  refine aR fZ ?_ _
  clear z0 z1 z2 z3 z4 y0 y1 y2 y3 y4
  obtain⟨w7,hw7⟩:∃w7,w7=(((((w8.setCell ⟨bx,0,none⟩ (.int .i64 (xX.kind:Nat))).setCell ⟨bx,1,none⟩ (.int .i64 (xX.mode:Nat))).setCell ⟨bx,2,none⟩ (.int .i64 (xX.links:Nat))).setCell ⟨bx,3,none⟩ (.int .i64 (xX.size:Nat))).setCell ⟨bx,4,none⟩ (.slice A9 xX.aB.length c9)):=⟨_,rfl⟩
  rw[<-hw7]at hfin ⊢
  clear hw7
  have hm3:=(hR.out w7 [_,_,_] hfin.out).2.2
  have d1:=(hfin.out.dR 0 rfl).2.1
  have f1:=hfin.out.bF 0 rfl 1
  have h6:Hid (Sep w0 (w7.setCell ⟨bx,1,none⟩ (.int .i64 mode)) (.box bx 118 (aO {xX with mode:=mode} (.slice A9 xX.aB.length c9))::aF f q p SX a9::bA (.slice A9 xX.aB.length c9) (fB xX.aB)::R)):=Lh (hfin.out.bS 0 rfl 1 (.int .i64 mode))
  clear hfin
  go_wp2_with fail
  obtain⟨w6,hw6⟩:∃w6,w6=w7.setCell ⟨bx,1,none⟩ (.int .i64 mode):=⟨_,rfl⟩
  rw[<-hw6]at h6 ⊢
  clear hw6 hm3 d1 f1
  have k1:=hR.out w6.drew [_,_,_] h6.out.drew
  have k2:=h6.out.drew.dR 0 rfl
  have hE:w6.drew.cell? ⟨bf,0,none⟩=some (pV f)/\w6.drew.cell? ⟨bn,0,none⟩=some (iV n)/\w6.drew.cell? ⟨bi,3,none⟩=some (iV mode)/\w6.drew.cell? ⟨bx,0,none⟩=some (iV (xX.kind:Nat))/\w6.drew.cell? ⟨bx,1,none⟩=some (iV mode)/\w6.drew.cell? ⟨bx,2,none⟩=some (iV (xX.links:Nat))/\w6.drew.cell? ⟨bx,3,none⟩=some (iV (xX.size:Nat))/\w6.drew.cell? ⟨bx,4,none⟩=some (.slice A9 xX.aB.length c9):=⟨k1.1,k1.2.1,k1.2.2,k2.1,k2.2.1,k2.2.2.1,k2.2.2.2.1,k2.2.2.2.2⟩
  have uT:=hkp.out _ _ _ _ _ EM.out (Sep.dE [1,0,2] h6.out.drew aQ bM)
  clear k1 k2 h6
  refine aJ (S:=fun w'=>w'.cell? ⟨bf,0,none⟩=some (pV f)/\w'.cell? ⟨bn,0,none⟩=some (iV n)/\w'.cell? ⟨bi,3,none⟩=some (iV mode)/\w'.cell? ⟨bx,0,none⟩=some (iV (xX.kind:Nat))/\w'.cell? ⟨bx,1,none⟩=some (iV mode)/\w'.cell? ⟨bx,2,none⟩=some (iV (xX.links:Nat))/\w'.cell? ⟨bx,3,none⟩=some (iV (xX.size:Nat))/\w'.cell? ⟨bx,4,none⟩=some (.slice A9 xX.aB.length c9)) 7 ?_
  refine aA 0 hE ?_
  refine aA 1 hE ?_
  refine aA 2 hE ?_
  refine aA 3 hE ?_
  refine aA 4 hE ?_
  refine aA 5 hE ?_
  refine bG 6 fun K hK=>?_
  go_simp
  go_at_call 90
  refine uT.mono ?_
  rintro e w5 ⟨rfl,yB,hend⟩
  replace hend:=Lh hend
  clear uT hE
  dsimp only
  refine hK _ _ (fun _=>by simpa[and_assoc]using yB) ?_
  clear hK K
  try simp only[Act.put,gD]
  refine aR fZ ?_ _
  go_end0
  exact hend.out
theorem Z11 {P:Prop} (h:P:=by
 unfold fD at ho;obtain⟨rfl,aT,hCT,hT⟩:=ho;have hc8:=hR.out v8 [_] hT;dsimp only;refine hK _ _ (fun _=>hc8) ?_;clear hK K;try simp only[Act.put,gD]
 refine aR fZ ?_ _
 go_end0
 unfold fD;exact⟨rfl,aT,hCT,hT⟩):P:=h
theorem Z87 {P:Prop} (h:P:=by
 go_simp;go_at_call 104;refine(hen.out _ _ hV.out hX.out).mono ?_;intro e v8 ho;cases rX with
 |none=>unfold fD at ho;obtain⟨rfl,T,aT,hLT,hCT,hT⟩:=ho;unfold fD;exact⟨rfl,rfl,T,aT,CZ.out.trans hLT,hCT,hT⟩
 |some T=>exact Z11):P:=h
theorem afH {bf bd bi bt bn dir tz n:Nat} {path bH:List UInt8} (hR0:∀W Y,Sep w0 W (Y++R)->W.cell? ⟨bf,0,none⟩=some (pV f)/\W.cell? ⟨bd,0,none⟩=some (iV dir)/\W.cell? ⟨bi,1,none⟩=some (aC path)/\W.cell? ⟨bi,2,none⟩=some (aC bH)/\W.cell? ⟨bt,0,none⟩=some (iV tz)/\W.cell? ⟨bn,0,none⟩=some (iV n))
  (hC:VC S a) (hF:VF S) (hv:aU path=true) (hp:path.length<=1048576) (hv2:aU bH=true) (hp2:bH.length<=1048576) (hl:yA S dir (aM path)) (hs:nG S) (he:qD (dH S dir (aM path)) tz n (aM bH)) (hs2:nG (dH S dir (aM path))) (h:Sep w0 w (aF f q p S a::R)):
  Calls Tryz.prog 103 #[pV bf,pV bd,pV bi,pV bt,pV bn] w (fD f q p S (qF S dir (aM path) tz (aM bH) n) w0 R):=by
 have hR:=Lh hR0;obtain⟨SX,yD⟩:∃SX,SX=dH S dir (aM path):=⟨_,rfl⟩;have CZ:Hid (gI S SX):=by rw[yD];exact Lh (qR _ _ _)
 have hba:Hid (∀W,Calls Tryz.prog 101 #[aC path] W fun e w'=>e= .returned (aC (aM path))/\Below W.heap.size W w'):=Lh fun W=>wU hv hp W
 have hlv:Hid (∀W a1,VC S a1->Sep w0 W (aF f q p S a1::R)->Calls Tryz.prog 100 #[pV f,iV dir,aC (aM path)] W fun e w'=>e= .returned (.tuple #[])/\∃a',VC SX a'/\Sep w0 w' (aF f q p SX a'::R)):=Lh fun W a1 h1 h2=>by rw[yD];exact SG h1 hF hl hs h2
 have PW:Hid (∀W,Calls Tryz.prog 101 #[aC bH] W fun e w'=>e= .returned (aC (aM bH))/\Below W.heap.size W w'):=Lh fun W=>wU hv2 hp2 W
 obtain⟨rX,yE⟩:∃rX,rX=qF S dir (aM path) tz (aM bH) n:=⟨_,rfl⟩;have hen:Hid (∀W a1,VC SX a1->Sep w0 W (aF f q p SX a1::R)->Calls Tryz.prog 104 #[pV f,iV tz,aC (aM bH),iV n] W (fD f q p SX rX w0 R)):=Lh fun W a1 h1 h2=>by rw[yE];unfold qF;rw[<-yD];exact KS h1 (CZ.out.vf hF) (by rw[yD];exact he) (by rw[yD];exact hs2) h2
 obtain⟨b1,hb1⟩:∃b,b=aM path:=⟨_,rfl⟩;obtain⟨b2,hb2⟩:∃b,b=aM bH:=⟨_,rfl⟩;rw[<-yE];rw[<-hb1]at hba hlv;rw[<-hb2]at PW hen;have hX0:=Lh h;have hV0:=Lh hC;clear hR0 hC hF hv hp hv2 hp2 hl hs he hs2 h yD yE hb1 hb2;unfold aC at*;go_enter Tryz.func103,Tryz.ntmps103;go_wp2_with fail;have hc:=hR.out w.drew [_] hX0.out.drew;refine aJ (S:=fun w'=>w'.cell? ⟨bf,0,none⟩=some (pV f)/\w'.cell? ⟨bd,0,none⟩=some (iV dir)/\w'.cell? ⟨bi,1,none⟩=some (.string ⟨path.toArray⟩)/\w'.cell? ⟨bi,2,none⟩=some (.string ⟨bH.toArray⟩)/\w'.cell? ⟨bt,0,none⟩=some (iV tz)/\w'.cell? ⟨bn,0,none⟩=some (iV n)) 8 ?_;refine aA 0 hc ?_;refine aA 1 hc ?_;refine aA 2 hc ?_;refine aA 3 hc ?_;refine aA 4 hc ?_;refine aA 5 hc ?_;refine bG 6 fun K hK=>?_
 go_simp;go_at_call 101;refine(hba.out _).mono ?_;rintro e w9 ⟨rfl,J7⟩;replace hX0:=Lh (hX0.out.drew.pure J7);have jC:=hR.out w9 [_] hX0.out;clear hc J7;dsimp only;refine hK _ _ (fun _=>jC) ?_;clear hK K;try simp only[Act.put,gD]
 refine bG 7 fun K hK=>?_
 go_simp;go_at_call 100;refine(hlv.out _ _ hV0.out hX0.out).mono ?_;rintro e w8 ⟨rfl,aX,C8,h8⟩;have hc8:=hR.out w8 [_] h8;have hV:=Lh C8;have hX:=Lh h8;clear C8 h8 hX0 hV0 jC hlv hba;dsimp only;refine hK _ _ (fun _=>hc8) ?_;clear hK K;try simp only[Act.put,gD]
 refine aR fZ ?_ _;clear hc8;go_wp2_with fail;have hc:=hR.out w8.drew [_] hX.out.drew;refine aJ (S:=fun w'=>w'.cell? ⟨bf,0,none⟩=some (pV f)/\w'.cell? ⟨bd,0,none⟩=some (iV dir)/\w'.cell? ⟨bi,1,none⟩=some (.string ⟨path.toArray⟩)/\w'.cell? ⟨bi,2,none⟩=some (.string ⟨bH.toArray⟩)/\w'.cell? ⟨bt,0,none⟩=some (iV tz)/\w'.cell? ⟨bn,0,none⟩=some (iV n)) 9 ?_;refine aA 0 hc ?_;refine aA 1 hc ?_;refine aA 2 hc ?_;refine aA 3 hc ?_;refine aA 4 hc ?_;refine aA 5 hc ?_;refine aA 7 hc ?_;refine bG 6 fun K hK=>?_
 go_simp;go_at_call 101;refine(PW.out _).mono ?_;rintro e v9 ⟨rfl,J7⟩;replace hX:=Lh (hX.out.drew.pure J7);have jC:=hR.out v9 [_] hX.out;clear hc J7;dsimp only;refine hK _ _ (fun _=>jC) ?_;clear hK K;try simp only[Act.put,gD]
 refine bG 8 fun K hK=>?_
 exact Z87
theorem afI {bf bd bi bn dir n:Nat} {path:List UInt8} (hR0:∀W Y,Sep w0 W (Y++R)->W.cell? ⟨bf,0,none⟩=some (pV f)/\W.cell? ⟨bd,0,none⟩=some (iV dir)/\W.cell? ⟨bi,1,none⟩=some (aC path)/\W.cell? ⟨bn,0,none⟩=some (iV n))
  (hC:VC S a) (hF:VF S) (hv:aU path=true) (hp:path.length<=1048576) (hl:yA S dir (aM path)) (hs:nG S) (hn:o7 (dH S dir (aM path)) n) (hlk:1<=(aH (dH S dir (aM path)).cur n).links) (hs3:gM (dH S dir (aM path)))
  (hnd:o7 ((dH S dir (aM path)).keep n {aH (dH S dir (aM path)).cur n with links:=(aH (dH S dir (aM path)).cur n).links-1}) n) (hs4:gM ((dH S dir (aM path)).keep n {aH (dH S dir (aM path)).cur n with links:=(aH (dH S dir (aM path)).cur n).links-1})) (h:Sep w0 w (aF f q p S a::R)):
  Calls Tryz.prog 106 #[pV bf,pV bd,pV bi,pV bn] w (fD f q p S (some (qE S dir (aM path) n)) w0 R):=by
 have hR:=Lh hR0;obtain⟨SX,yD⟩:∃SX,SX=dH S dir (aM path):=⟨_,rfl⟩;have CZ:Hid (gI S SX):=by rw[yD];exact Lh (qR _ _ _)
 have hba:Hid (∀W,Calls Tryz.prog 101 #[aC path] W fun e w'=>e= .returned (aC (aM path))/\Below W.heap.size W w'):=Lh fun W=>wU hv hp W
 have hlv:Hid (∀W a1,VC S a1->Sep w0 W (aF f q p S a1::R)->Calls Tryz.prog 100 #[pV f,iV dir,aC (aM path)] W fun e w'=>e= .returned (.tuple #[])/\∃a',VC SX a'/\Sep w0 w' (aF f q p SX a'::R)):=Lh fun W a1 h1 h2=>by rw[yD];exact SG h1 hF hl hs h2
 obtain⟨xX,TB⟩:∃xX,xX=aH SX.cur n:=⟨_,rfl⟩;rw[<-yD,<-TB]at hlk hnd hs4;obtain⟨kl,hkl⟩:∃kl,xX.links=kl+1:=⟨xX.links-1,by omega⟩;rw[hkl,QX]at hnd hs4;have hin:Hid (∀W Y a1,VC SX a1->Sep w0 W (aF f q p SX a1::(Y++R))->Calls Tryz.prog 64 #[pV f,iV n] W fun e w'=>∃A c a2,e= .returned (.agg #[iV (xX.kind:Nat),iV (xX.mode:Nat),iV (xX.links:Nat),iV (xX.size:Nat),.slice A xX.aB.length c])/\VC SX a2/\Sep w0 w' (aF f q p SX a2::bA (.slice A xX.aB.length c) (fB xX.aB)::(Y++R))):=Lh fun W Y a1 h1 h2=>by rw[TB];exact KX h1 (CZ.out.vf hF) (by rw[yD];exact hn) h2
 have hxo:xX.ok:=by rw[TB,yD];exact MW (by have:=hn.few;unfold aH at this;exact this)
 have hyo:({xX with links:=kl}:VI).ok:=⟨hxo.kind,hxo.mode,by show kl<65536;have:=hxo.links;omega,hxo.size,hxo.few,hxo.spot⟩;have aM4:(kl:Int)<65536:=by have:=hxo.links;omega
 obtain⟨SK,hSK⟩:∃SK,SK=SX.keep n {xX with links:=kl}:=⟨_,rfl⟩;rw[<-hSK]at hnd hs4;have TC:Hid (gI S SK):=by rw[hSK];exact Lh (CZ.out.keep _ _)
 have hkp:Hid (∀W bx A c a1,VC SX a1->Sep w0 W (aF f q p SX a1:: .box bx 118 (aO {xX with links:=kl} (.slice A xX.aB.length c))::bA (.slice A xX.aB.length c) (fB xX.aB)::R)->Calls Tryz.prog 90 #[pV f,iV n,.agg #[iV (xX.kind:Nat),iV (xX.mode:Nat),iV ((kl:Nat)),iV (xX.size:Nat),.slice A xX.aB.length c]] W fun e w'=>e= .returned (.tuple #[])/\∃a',VC SK a'/\Sep w0 w' (aF f q p SK a':: .box bx 118 (aO {xX with links:=kl} (.slice A xX.aB.length c))::bA (.slice A xX.aB.length c) (fB xX.aB)::R)):=Lh fun W bx A c a1 h1 h2=>by have:=QE (n:=n) (y:= {xX with links:=kl}) (v:=.slice A xX.aB.length c) h1 (CZ.out.vf hF) (by rw[yD];exact hn) hyo (by rw[yD];exact hs3) 1 rfl h2;rw[hSK];unfold gK aO at this;exact this
 have hdr:Hid (∀W a1 Y,VC SK a1->Sep w0 W (aF f q p SK a1::(Y++R))->Calls Tryz.prog 102 #[pV f,iV n] W fun e w'=>e= .returned (.tuple #[])/\∃a',VC (oF SK n) a'/\Sep w0 w' (aF f q p (oF SK n) a'::(Y++R))):=Lh fun W a1 Y h1 h2=>amO h1 (TC.out.vf hF) hnd hs4 h2
 have hres:Hid (qE S dir (aM path) n=if kl=0 then oF SK n else SK):=Lh (by unfold qE;simp only[<-yD,<-TB];rw[hkl,QX,<-hSK]);obtain⟨b1,hb1⟩:∃b,b=aM path:=⟨_,rfl⟩;obtain⟨rX,yE⟩:∃rX,rX=qE S dir (aM path) n:=⟨_,rfl⟩;rw[<-yE]at hres ⊢;rw[<-hb1]at hba hlv;have hX0:=Lh h;have hV0:=Lh hC;have aHF:Hid (((xX.links:Nat):Int)=(kl:Int)+1):=Lh aD;clear hR0 hC hF hv hp hl hs hn hlk hs3 hnd hs4 h yD hb1 yE TB hxo hyo hSK hkl CZ TC;unfold aC at*;go_enter Tryz.func106,Tryz.ntmps106;go_wp2_with fail;have hc:=hR.out w.drew [_] hX0.out.drew;refine aJ (S:=fun w'=>w'.cell? ⟨bf,0,none⟩=some (pV f)/\w'.cell? ⟨bd,0,none⟩=some (iV dir)/\w'.cell? ⟨bi,1,none⟩=some (.string ⟨path.toArray⟩)/\w'.cell? ⟨bn,0,none⟩=some (iV n)) 8 ?_;refine aA 0 hc ?_;refine aA 1 hc ?_;refine aA 2 hc ?_;refine aA 3 hc ?_;refine aA 4 hc ?_;refine aA 5 hc ?_;refine bG 6 fun K hK=>?_
 go_simp;go_at_call 101;refine(hba.out _).mono ?_;rintro e w9 ⟨rfl,J7⟩;replace hX0:=Lh (hX0.out.drew.pure J7);have jC:=hR.out w9 [_] hX0.out;clear hc J7;dsimp only;refine hK _ _ (fun _=>jC) ?_;clear hK K;try simp only[Act.put,gD]
 refine bG 7 fun K hK=>?_
 go_simp;go_at_call 100;refine(hlv.out _ _ hV0.out hX0.out).mono ?_;rintro e w8 ⟨rfl,aX,C8,h8⟩;have hc8:=hR.out w8 [_] h8;have hV:=Lh C8;have hX:=Lh h8;clear C8 h8 hX0 hV0 jC hlv hba;dsimp only;refine hK _ _ (fun _=>hc8) ?_;clear hK K;try simp only[Act.put,gD]
 refine aR fZ ?_ _;clear hc8;go_wp2_with fail;refine eU (S:=fun w'=>w'.cell? ⟨bf,0,none⟩=some (pV f)/\w'.cell? ⟨bd,0,none⟩=some (iV dir)/\w'.cell? ⟨bi,1,none⟩=some (.string ⟨path.toArray⟩)/\w'.cell? ⟨bn,0,none⟩=some (iV n)) 7 fZ ?_;intro wq hwq;have hX2:Hid (Sep w0 wq (aF f q p SX aX::R)):=by rw[hwq];exact Lh hX.out.drew
 clear hwq hX;have hc:=hR.out wq [_] hX2.out;simp only[mK,nV,kW,Nat.reduceAdd];refine aA 0 hc ?_;refine aA 1 hc ?_;refine aA 2 hc ?_;refine aA 3 hc ?_;refine aA 4 hc ?_;refine kP (i:=5) (j:=6) fZ rfl rfl (fun K hK=>?_) (fun K hK=>?_)
 focus
  go_simp
  go_at_call 64
  refine(hin.out _ [] _ hV.out hX2.out).mono ?_
  rintro e w9 ⟨A9,c9,a9,rfl,eG,h9⟩
  have jC:=hR.out w9 [_,_] h9
  have h8:=Lh (h9.bN 118 iC)
  have hc8:=hR.out _ [_,_,_] h8.out
  clear hc hX2
  dsimp only
  refine hK _ _ (fun _=>jC) ?_
  clear hK K
  try simp only[Act.put,gD]
  refine bG 6 fun K hK=>?_
  go_simp
  unfold iC at hc8
  try dsimp only
  refine hK _ _ (fun _=>hc8) ?_
  clear hK K
  try simp only[Act.put,gD]
  obtain⟨bx,hbx⟩:∃bx,bx=w9.heap.size:=⟨_,rfl⟩
  obtain⟨w8,hw8⟩:∃x,x=w9.alloc (.cells #[iV 0,iV 0,iV 0,iV 0,.slice none 0 0] 118):=⟨_,rfl⟩
  have hB:Hid (Sep w0 w8 (.box bx 118 iC::aF f q p SX a9::bA (.slice A9 xX.aB.length c9) (fB xX.aB)::R)):=by rw[hw8,hbx];exact h8
  rw[<-hw8,<-hbx]
  clear hw8 hbx h8 hc8 jC h9
  have EM:=Lh eG
  clear eG
 rotate_left
 focus
  go_simp
  have h9:=Lh (hX2.out.bN 118 iC)
  have jC:=hR.out _ [_,_] h9.out
  clear hc
  unfold iC at jC
  try dsimp only
  refine hK _ _ (fun _=>jC) ?_
  clear hK K
  try simp only[Act.put,gD]
  obtain⟨bx,hbx⟩:∃bx,bx=wq.heap.size:=⟨_,rfl⟩
  obtain⟨w9,PV⟩:∃x,x=wq.alloc (.cells #[iV 0,iV 0,iV 0,iV 0,.slice none 0 0] 118):=⟨_,rfl⟩
  have h8:Hid (Sep w0 w9 (aF f q p SX aX::([.box bx 118 iC]++R))):=by exact Z75
  rw[<-PV,<-hbx]
  clear PV hbx h9 jC hX2
  refine bG 5 fun K hK=>?_
  go_simp
  go_at_call 64
  refine(hin.out _ _ _ hV.out h8.out).mono ?_
  rintro e w8 ⟨A9,c9,a9,rfl,eG,h7⟩
  have hB:Hid (Sep w0 w8 (.box bx 118 iC::aF f q p SX a9::bA (.slice A9 xX.aB.length c9) (fB xX.aB)::R)):=Lh (Sep.dE [2,0,1] h7 aQ bM)
  have jC:=hR.out w8 [_,_,_] hB.out
  clear h8 h7
  dsimp only
  refine hK _ _ (fun _=>jC) ?_
  clear hK K
  try simp only[Act.put,gD]
  clear jC
  have EM:=Lh eG
  clear eG
 all_goals
  obtain⟨z0,z1,z2,z3,z4,y0,y1,y2,y3,y4,hfin⟩:=hB.out.vY 0 rfl xX (.slice A9 xX.aB.length c9)
  replace hfin:=Lh hfin
  clear hB hV
  refine aW 7 (fun h=>absurd rfl h) ?_
  refine aR fZ ?_ _
  clear z0 z1 z2 z3 z4 y0 y1 y2 y3 y4
  obtain⟨w7,hw7⟩:∃w7,w7=(((((w8.setCell ⟨bx,0,none⟩ (.int .i64 (xX.kind:Nat))).setCell ⟨bx,1,none⟩ (.int .i64 (xX.mode:Nat))).setCell ⟨bx,2,none⟩ (.int .i64 (xX.links:Nat))).setCell ⟨bx,3,none⟩ (.int .i64 (xX.size:Nat))).setCell ⟨bx,4,none⟩ (.slice A9 xX.aB.length c9)):=⟨_,rfl⟩
  rw[<-hw7]at hfin ⊢
  clear hw7
  have d2:=(hfin.out.dR 0 rfl).2.2.1
  have f2:=hfin.out.bF 0 rfl 2
  have h6:Hid (Sep w0 (w7.setCell ⟨bx,2,none⟩ (.int .i64 (kl:Nat))) (.box bx 118 (aO {xX with links:=kl} (.slice A9 xX.aB.length c9))::aF f q p SX a9::bA (.slice A9 xX.aB.length c9) (fB xX.aB)::R)):=Lh (hfin.out.bS 0 rfl 2 (.int .i64 (kl:Nat)))
  rw[aHF.out]at d2
  clear aHF
  clear hfin
  go_wp2_with fail
  obtain⟨w6,hw6⟩:∃w6,w6=w7.setCell ⟨bx,2,none⟩ (.int .i64 (kl:Nat)):=⟨_,rfl⟩
  rw[<-hw6]at h6 ⊢
  clear hw6 d2 f2
  have k1:=hR.out w6.drew [_,_,_] h6.out.drew
  have k2:=h6.out.drew.dR 0 rfl
  have hE:w6.drew.cell? ⟨bf,0,none⟩=some (pV f)/\w6.drew.cell? ⟨bd,0,none⟩=some (iV dir)/\w6.drew.cell? ⟨bi,1,none⟩=some (.string ⟨path.toArray⟩)/\w6.drew.cell? ⟨bn,0,none⟩=some (iV n)/\w6.drew.cell? ⟨bx,0,none⟩=some (iV (xX.kind:Nat))/\w6.drew.cell? ⟨bx,1,none⟩=some (iV (xX.mode:Nat))/\w6.drew.cell? ⟨bx,2,none⟩=some (iV (kl:Nat))/\w6.drew.cell? ⟨bx,3,none⟩=some (iV (xX.size:Nat))/\w6.drew.cell? ⟨bx,4,none⟩=some (.slice A9 xX.aB.length c9):=⟨k1.1,k1.2.1,k1.2.2.1,k1.2.2.2,k2.1,k2.2.1,k2.2.2.1,k2.2.2.2.1,k2.2.2.2.2⟩
  have uT:=hkp.out _ _ _ _ _ EM.out (Sep.dE [1,0,2] h6.out.drew aQ bM)
  clear k1 k2 h6
  refine aJ (S:=fun w'=>w'.cell? ⟨bf,0,none⟩=some (pV f)/\w'.cell? ⟨bd,0,none⟩=some (iV dir)/\w'.cell? ⟨bi,1,none⟩=some (.string ⟨path.toArray⟩)/\w'.cell? ⟨bn,0,none⟩=some (iV n)/\w'.cell? ⟨bx,0,none⟩=some (iV (xX.kind:Nat))/\w'.cell? ⟨bx,1,none⟩=some (iV (xX.mode:Nat))/\w'.cell? ⟨bx,2,none⟩=some (iV (kl:Nat))/\w'.cell? ⟨bx,3,none⟩=some (iV (xX.size:Nat))/\w'.cell? ⟨bx,4,none⟩=some (.slice A9 xX.aB.length c9)) 7 ?_
  refine aA 0 hE ?_
  refine aA 1 hE ?_
  refine aA 2 hE ?_
  refine aA 3 hE ?_
  refine aA 4 hE ?_
  refine aA 5 hE ?_
  refine bG 6 fun K hK=>?_
  go_simp
  go_at_call 90
  refine uT.mono ?_
  rintro e w5 ⟨rfl,a5,J8,h5⟩
  have k5:=hR.out w5 [_,_,_] h5
  have k6:=h5.dR 1 rfl
  have d2:=k6.2.2.1
  replace h5:=Lh h5
  replace J8:=Lh J8
  clear uT hE
  dsimp only
  refine hK _ _ (fun _=>⟨k5.1,k5.2.1,k5.2.2.1,k5.2.2.2,k6.1,k6.2.1,k6.2.2.1,k6.2.2.2.1,k6.2.2.2.2⟩) ?_
  clear hK K
  try simp only[Act.put,gD]
  refine aR fZ ?_ _
  clear k5 k6
  by_cases hk0:kl=0
  ·have hrr:=hres.out;rw[if_pos hk0]at hrr;(have hk1:((kl:Int)==0)=true:=by rw[rJ];omega);replace hrr:=Lh hrr;clear hk0;go_wp2_with fail;have hc:=hR.out w5.drew [_,_,_] h5.out.drew;have hd2:=hdr.out _ _ [_,_] J8.out h5.out.drew;refine aJ (S:=fun w'=>w'.cell? ⟨bf,0,none⟩=some (pV f)/\w'.cell? ⟨bd,0,none⟩=some (iV dir)/\w'.cell? ⟨bi,1,none⟩=some (.string ⟨path.toArray⟩)/\w'.cell? ⟨bn,0,none⟩=some (iV n)) 6 ?_;refine aA 0 hc ?_;refine aA 1 hc ?_;refine aA 2 hc ?_;refine aA 3 hc ?_;refine aA 4 hc ?_;(refine bG 5 fun K hK=>?_);go_simp;go_at_call 102;refine hd2.mono ?_;rintro e w4 ⟨rfl,a4,WH,h4⟩;have hc4:=hR.out w4 [_,_,_] h4;replace h4:=Lh h4;replace WH:=Lh WH;clear hd2 hc;dsimp only;refine hK _ _ (fun _=>hc4) ?_;clear hK K;(try simp only[Act.put,gD]);refine aR fZ ?_ _
   go_end0
   unfold fD;rw[hrr.out];exact⟨rfl,a4,WH.out,(Sep.dE [1,2,0] h4.out aQ bM).drop 2⟩
  ·have hrr:=hres.out;rw[if_neg hk0]at hrr;(have hk1:((kl:Int)==0)=false:=by rw[mM];omega);replace hrr:=Lh hrr;clear hk0;go_wp2_with fail
   go_end0
   unfold fD;rw[hrr.out];exact⟨rfl,a5,J8.out,(Sep.dE [1,2,0] h5.out aQ bM).drop 2⟩
theorem aoP {bf bi bt bn tz n:Nat} {bH:List UInt8} (hR0:∀W Y,Sep w0 W (Y++R)->W.cell? ⟨bf,0,none⟩=some (pV f)/\W.cell? ⟨bn,0,none⟩=some (iV n)/\W.cell? ⟨bt,0,none⟩=some (iV tz)/\W.cell? ⟨bi,2,none⟩=some (aC bH))
  (hC:VC S a) (hF:VF S) (hv2:aU bH=true) (hp2:bH.length<=1048576) (hn:o7 S n) (hlk:(aH S.cur n).links<65535) (hs3:gM S)
  (he:qD (S.keep n {aH S.cur n with links:=(aH S.cur n).links+1}) tz n (aM bH)) (hs2:nG (S.keep n {aH S.cur n with links:=(aH S.cur n).links+1})) (h:Sep w0 w (aF f q p S a::R)):
  Calls Tryz.prog 105 #[pV bf,pV bn,pV bt,pV bi] w (fD f q p S (CY S n tz (aM bH)) w0 R):=by
 have hR:=Lh hR0;obtain⟨SX,yD⟩:∃SX,SX=S:=⟨_,rfl⟩;obtain⟨aX,haX⟩:∃aX,aX=a:=⟨_,rfl⟩;have abK:Hid (gI S SX):=by rw[yD];exact Lh (.refl _)
 obtain⟨xX,TB⟩:∃xX,xX=aH SX.cur n:=⟨_,rfl⟩;rw[<-yD,<-TB]at hlk he hs2;have hin:Hid (∀W Y a1,VC SX a1->Sep w0 W (aF f q p SX a1::(Y++R))->Calls Tryz.prog 64 #[pV f,iV n] W fun e w'=>∃A c a2,e= .returned (.agg #[iV (xX.kind:Nat),iV (xX.mode:Nat),iV (xX.links:Nat),iV (xX.size:Nat),.slice A xX.aB.length c])/\VC SX a2/\Sep w0 w' (aF f q p SX a2::bA (.slice A xX.aB.length c) (fB xX.aB)::(Y++R))):=Lh fun W Y a1 h1 h2=>by rw[TB];exact KX h1 (abK.out.vf hF) (by rw[yD];exact hn) h2
 have hxo:xX.ok:=by rw[TB,yD];exact MW (by have:=hn.few;unfold aH at this;exact this)
 have hyo:({xX with links:=xX.links+1}:VI).ok:=⟨hxo.kind,hxo.mode,by show xX.links+1<65536;omega,hxo.size,hxo.few,hxo.spot⟩;have aM4:(xX.links:Int)<65535:=by omega
 obtain⟨SK,hSK⟩:∃SK,SK=SX.keep n {xX with links:=xX.links+1}:=⟨_,rfl⟩;rw[<-hSK]at he hs2;have CZ:Hid (gI S SK):=by rw[hSK];exact Lh (abK.out.keep _ _)
 have hkp:Hid (∀W bx A c a1,VC SX a1->Sep w0 W (aF f q p SX a1:: .box bx 118 (aO {xX with links:=xX.links+1} (.slice A xX.aB.length c))::bA (.slice A xX.aB.length c) (fB xX.aB)::R)->Calls Tryz.prog 90 #[pV f,iV n,.agg #[iV (xX.kind:Nat),iV (xX.mode:Nat),iV ((xX.links:Int)+1),iV (xX.size:Nat),.slice A xX.aB.length c]] W fun e w'=>e= .returned (.tuple #[])/\∃a',VC SK a'/\Sep w0 w' (aF f q p SK a':: .box bx 118 (aO {xX with links:=xX.links+1} (.slice A xX.aB.length c))::bA (.slice A xX.aB.length c) (fB xX.aB)::R)):=Lh fun W bx A c a1 h1 h2=>by have:=QE (n:=n) (y:= {xX with links:=xX.links+1}) (v:=.slice A xX.aB.length c) h1 (abK.out.vf hF) (by rw[yD];exact hn) hyo (by rw[yD];exact hs3) 1 rfl h2;rw[hSK];unfold gK aO at this;exact this
 have PW:Hid (∀W,Calls Tryz.prog 101 #[aC bH] W fun e w'=>e= .returned (aC (aM bH))/\Below W.heap.size W w'):=Lh fun W=>wU hv2 hp2 W
 obtain⟨rX,yE⟩:∃rX,rX=CY S n tz (aM bH):=⟨_,rfl⟩;have hen:Hid (∀W a1,VC SK a1->Sep w0 W (aF f q p SK a1::R)->Calls Tryz.prog 104 #[pV f,iV tz,aC (aM bH),iV n] W (fD f q p SK rX w0 R)):=Lh fun W a1 h1 h2=>by rw[yE];unfold CY;rw[<-yD,<-TB,<-hSK];exact KS h1 (CZ.out.vf hF) he hs2 h2
 obtain⟨b2,hb2⟩:∃b,b=aM bH:=⟨_,rfl⟩;rw[<-yE];rw[<-hb2]at PW hen;have hX:Hid (Sep w0 w (aF f q p SX aX::R)):=by rw[yD,haX];exact Lh h
 have hV:Hid (VC SX aX):=by rw[yD,haX];exact Lh hC
 clear hR0 hC hF hv2 hp2 hn hlk hs3 he hs2 h yD haX yE hb2 TB hxo hyo hSK abK;unfold aC at*;go_enter Tryz.func105,Tryz.ntmps105;go_wp2_with fail;refine eU (S:=fun w'=>w'.cell? ⟨bf,0,none⟩=some (pV f)/\w'.cell? ⟨bn,0,none⟩=some (iV n)/\w'.cell? ⟨bt,0,none⟩=some (iV tz)/\w'.cell? ⟨bi,2,none⟩=some (.string ⟨bH.toArray⟩)) 7 fZ ?_;intro wq hwq;have hX2:Hid (Sep w0 wq (aF f q p SX aX::R)):=by rw[hwq];exact Lh hX.out.drew
 clear hwq hX;have hc:=hR.out wq [_] hX2.out;simp only[mK,nV,kW,Nat.reduceAdd];refine aA 0 hc ?_;refine aA 1 hc ?_;refine aA 2 hc ?_;refine aA 3 hc ?_;refine aA 4 hc ?_;refine kP (i:=5) (j:=6) fZ rfl rfl (fun K hK=>?_) (fun K hK=>?_)
 focus
  go_simp
  go_at_call 64
  refine(hin.out _ [] _ hV.out hX2.out).mono ?_
  rintro e w9 ⟨A9,c9,a9,rfl,eG,h9⟩
  have jC:=hR.out w9 [_,_] h9
  have h8:=Lh (h9.bN 118 iC)
  have hc8:=hR.out _ [_,_,_] h8.out
  clear hc hX2
  dsimp only
  refine hK _ _ (fun _=>jC) ?_
  clear hK K
  try simp only[Act.put,gD]
  refine bG 6 fun K hK=>?_
  go_simp
  unfold iC at hc8
  try dsimp only
  refine hK _ _ (fun _=>hc8) ?_
  clear hK K
  try simp only[Act.put,gD]
  obtain⟨bx,hbx⟩:∃bx,bx=w9.heap.size:=⟨_,rfl⟩
  obtain⟨w8,hw8⟩:∃x,x=w9.alloc (.cells #[iV 0,iV 0,iV 0,iV 0,.slice none 0 0] 118):=⟨_,rfl⟩
  have hB:Hid (Sep w0 w8 (.box bx 118 iC::aF f q p SX a9::bA (.slice A9 xX.aB.length c9) (fB xX.aB)::R)):=by rw[hw8,hbx];exact h8
  rw[<-hw8,<-hbx]
  clear hw8 hbx h8 hc8 jC h9
  have EM:=Lh eG
  clear eG
 rotate_left
 focus
  go_simp
  have h9:=Lh (hX2.out.bN 118 iC)
  have jC:=hR.out _ [_,_] h9.out
  clear hc
  unfold iC at jC
  try dsimp only
  refine hK _ _ (fun _=>jC) ?_
  clear hK K
  try simp only[Act.put,gD]
  obtain⟨bx,hbx⟩:∃bx,bx=wq.heap.size:=⟨_,rfl⟩
  obtain⟨w9,PV⟩:∃x,x=wq.alloc (.cells #[iV 0,iV 0,iV 0,iV 0,.slice none 0 0] 118):=⟨_,rfl⟩
  have h8:Hid (Sep w0 w9 (aF f q p SX aX::([.box bx 118 iC]++R))):=by exact Z75
  rw[<-PV,<-hbx]
  clear PV hbx h9 jC hX2
  refine bG 5 fun K hK=>?_
  go_simp
  go_at_call 64
  refine(hin.out _ _ _ hV.out h8.out).mono ?_
  rintro e w8 ⟨A9,c9,a9,rfl,eG,h7⟩
  have hB:Hid (Sep w0 w8 (.box bx 118 iC::aF f q p SX a9::bA (.slice A9 xX.aB.length c9) (fB xX.aB)::R)):=Lh (Sep.dE [2,0,1] h7 aQ bM)
  have jC:=hR.out w8 [_,_,_] hB.out
  clear h8 h7
  dsimp only
  refine hK _ _ (fun _=>jC) ?_
  clear hK K
  try simp only[Act.put,gD]
  clear jC
  have EM:=Lh eG
  clear eG
 all_goals
  obtain⟨z0,z1,z2,z3,z4,y0,y1,y2,y3,y4,hfin⟩:=hB.out.vY 0 rfl xX (.slice A9 xX.aB.length c9)
  replace hfin:=Lh hfin
  clear hB hV
  refine aW 7 (fun h=>absurd rfl h) ?_
  refine aR fZ ?_ _
  clear z0 z1 z2 z3 z4 y0 y1 y2 y3 y4
  obtain⟨w7,hw7⟩:∃w7,w7=(((((w8.setCell ⟨bx,0,none⟩ (.int .i64 (xX.kind:Nat))).setCell ⟨bx,1,none⟩ (.int .i64 (xX.mode:Nat))).setCell ⟨bx,2,none⟩ (.int .i64 (xX.links:Nat))).setCell ⟨bx,3,none⟩ (.int .i64 (xX.size:Nat))).setCell ⟨bx,4,none⟩ (.slice A9 xX.aB.length c9)):=⟨_,rfl⟩
  rw[<-hw7]at hfin ⊢
  clear hw7
  have d2:=(hfin.out.dR 0 rfl).2.2.1
  have f2:=hfin.out.bF 0 rfl 2
  have h6:Hid (Sep w0 (w7.setCell ⟨bx,2,none⟩ (.int .i64 ((xX.links:Int)+1))) (.box bx 118 (aO {xX with links:=xX.links+1} (.slice A9 xX.aB.length c9))::aF f q p SX a9::bA (.slice A9 xX.aB.length c9) (fB xX.aB)::R)):=Lh (hfin.out.bS 0 rfl 2 (.int .i64 ((xX.links:Int)+1)))
  clear hfin
  go_wp2_with fail
  obtain⟨w6,hw6⟩:∃w6,w6=w7.setCell ⟨bx,2,none⟩ (.int .i64 ((xX.links:Int)+1)):=⟨_,rfl⟩
  rw[<-hw6]at h6 ⊢
  clear hw6 d2 f2
  have k1:=hR.out w6.drew [_,_,_] h6.out.drew
  have k2:=h6.out.drew.dR 0 rfl
  have hE:w6.drew.cell? ⟨bf,0,none⟩=some (pV f)/\w6.drew.cell? ⟨bn,0,none⟩=some (iV n)/\w6.drew.cell? ⟨bt,0,none⟩=some (iV tz)/\w6.drew.cell? ⟨bi,2,none⟩=some (.string ⟨bH.toArray⟩)/\w6.drew.cell? ⟨bx,0,none⟩=some (iV (xX.kind:Nat))/\w6.drew.cell? ⟨bx,1,none⟩=some (iV (xX.mode:Nat))/\w6.drew.cell? ⟨bx,2,none⟩=some (iV ((xX.links:Int)+1))/\w6.drew.cell? ⟨bx,3,none⟩=some (iV (xX.size:Nat))/\w6.drew.cell? ⟨bx,4,none⟩=some (.slice A9 xX.aB.length c9):=⟨k1.1,k1.2.1,k1.2.2.1,k1.2.2.2,k2.1,k2.2.1,k2.2.2.1,k2.2.2.2.1,k2.2.2.2.2⟩
  have uT:=hkp.out _ _ _ _ _ EM.out (Sep.dE [1,0,2] h6.out.drew aQ bM)
  clear k1 k2 h6
  refine aJ (S:=fun w'=>w'.cell? ⟨bf,0,none⟩=some (pV f)/\w'.cell? ⟨bn,0,none⟩=some (iV n)/\w'.cell? ⟨bt,0,none⟩=some (iV tz)/\w'.cell? ⟨bi,2,none⟩=some (.string ⟨bH.toArray⟩)/\w'.cell? ⟨bx,0,none⟩=some (iV (xX.kind:Nat))/\w'.cell? ⟨bx,1,none⟩=some (iV (xX.mode:Nat))/\w'.cell? ⟨bx,2,none⟩=some (iV ((xX.links:Int)+1))/\w'.cell? ⟨bx,3,none⟩=some (iV (xX.size:Nat))/\w'.cell? ⟨bx,4,none⟩=some (.slice A9 xX.aB.length c9)) 7 ?_
  refine aA 0 hE ?_
  refine aA 1 hE ?_
  refine aA 2 hE ?_
  refine aA 3 hE ?_
  refine aA 4 hE ?_
  refine aA 5 hE ?_
  refine bG 6 fun K hK=>?_
  go_simp
  go_at_call 90
  refine uT.mono ?_
  rintro e w5 ⟨rfl,aY,J8,h5⟩
  have k5:=hR.out w5 [_,_,_] h5
  have k6:=h5.dR 1 rfl
  have hX:Hid (Sep w0 w5 (aF f q p SK aY::R)):=Lh ((Sep.dE [1,2,0] h5 aQ bM).drop 2)
  have hV:=Lh J8
  clear uT hE J8 h5
  dsimp only
  refine hK _ _ (fun _=>⟨k5.1,k5.2.1,k5.2.2.1,k5.2.2.2,k6.1,k6.2.1,k6.2.2.1,k6.2.2.2.1,k6.2.2.2.2⟩) ?_
  clear hK K
  try simp only[Act.put,gD]
  refine aR fZ ?_ _
  clear k5 k6
  go_wp2_with fail
  have hc:=hR.out w5.drew [_] hX.out.drew
  refine aJ (S:=fun w'=>w'.cell? ⟨bf,0,none⟩=some (pV f)/\w'.cell? ⟨bn,0,none⟩=some (iV n)/\w'.cell? ⟨bt,0,none⟩=some (iV tz)/\w'.cell? ⟨bi,2,none⟩=some (.string ⟨bH.toArray⟩)) 9 ?_
  refine aA 0 hc ?_
  refine aA 1 hc ?_
  refine aA 2 hc ?_
  refine aA 3 hc ?_
  refine aA 4 hc ?_
  refine aA 5 hc ?_
  refine aA 7 hc ?_
  refine bG 6 fun K hK=>?_
  go_simp
  go_at_call 101
  refine(PW.out _).mono ?_
  rintro e v9 ⟨rfl,J7⟩
  replace hX:=Lh (hX.out.drew.pure J7)
  have jC:=hR.out v9 [_] hX.out
  clear hc J7
  dsimp only
  refine hK _ _ (fun _=>jC) ?_
  clear hK K
  try simp only[Act.put,gD]
  refine bG 8 fun K hK=>?_
  go_simp
  go_at_call 104
  refine(hen.out _ _ hV.out hX.out).mono ?_
  intro e v8 ho
  cases rX with
  |none=>unfold fD at ho;obtain⟨rfl,T,aT,hLT,hCT,hT⟩:=ho;unfold fD;exact⟨rfl,rfl,T,aT,CZ.out.trans hLT,hCT,hT⟩
  |some T=>exact Z11
end
end Go.Proofs.YteihmbaimbogaaaGreat
