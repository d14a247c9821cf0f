/- Parts. -/
import Derived.Test.YtmjomdkleikgbaaGreatK16
set_option linter.unusedVariables false
set_option linter.unusedSimpArgs false
set_option maxRecDepth 100000
set_option maxHeartbeats 20000000
namespace Go.Proofs.YtmjomdkleikgbaaGreat
open Go.RowKit
def oH (S:VS) (dir:Nat) (name:List UInt8) (n:Nat):VS:=
 let S1:=cO S dir name
 let y:VI:= {aH S1.cur n with links:=(aH S1.cur n).links-1}
 if y.links=0 then mV (S1.keep n y) n else S1.keep n y
def sU (S:VS) (n mode:Nat):VS:=S.keep n {aH S.cur n with mode:=mode}
def oI (S:VS) (dir:Nat) (name:List UInt8) (tz:Nat) (aD5:List UInt8) (n:Nat):Option VS:=gV (cO S dir name) tz aD5 n
def zQ (S:VS) (n tz:Nat) (name:List UInt8):Option VS:=gV (S.keep n {aH S.cur n with links:=(aH S.cur n).links+1}) tz name n
def gM :Array Value:=#[iV 0,iV 0,iV 0,iV 0,.slice none 0 0]
section
variable {w0 w:World} {R:List aW} {f q p:Nat} {S:VS} {a:VA}
theorem Sep.uG {As:List aW} {b:Nat} (i:Nat) (h:Sep w0 w As) (hi:As[i]? =some (.box b 129 gM)) (x:VI) (v:Value):
  w.frozen? ⟨b,0,none⟩=false/\w.frozen? ⟨b,1,none⟩=false/\w.frozen? ⟨b,2,none⟩=false/\w.frozen? ⟨b,3,none⟩=false/\w.frozen? ⟨b,4,none⟩=false/\
  w.cell? ⟨b,0,none⟩=some (iV 0)/\w.cell? ⟨b,1,none⟩=some (iV 0)/\w.cell? ⟨b,2,none⟩=some (iV 0)/\w.cell? ⟨b,3,none⟩=some (iV 0)/\w.cell? ⟨b,4,none⟩=some (.slice none 0 0)/\
  Sep w0 (((((w.setCell ⟨b,0,none⟩ (.int .i64 (x.kind:Nat))).setCell ⟨b,1,none⟩ (.int .i64 (x.mode:Nat))).setCell ⟨b,2,none⟩ (.int .i64 (x.links:Nat))).setCell ⟨b,3,none⟩ (.int .i64 (x.size:Nat))).setCell ⟨b,4,none⟩ v) (As.set i (.box b 129 (aN x v))):=by
 have z:=fun j=>h.bF i hi j
 have y:=fun j=>h.bC i hi j
 have hlt:=(gF.1 hi).1;have hs:∀(l:List aW) (A:aW),l.length=As.length->(l.set i A)[i]? =some A:=fun l A hl=>OI aD
 have h1:=h.bS i hi 0 (.int .i64 (x.kind:Nat));have h2:=h1.bS i (hs _ _ rfl) 1 (.int .i64 (x.mode:Nat));have h3:=h2.bS i (hs _ _ bK) 2 (.int .i64 (x.links:Nat));have h4:=h3.bS i (hs _ _ bK) 3 (.int .i64 (x.size:Nat));have h5:=h4.bS i (hs _ _ bK) 4 v;simp only[VZ]at h5;exact⟨z 0,z 1,z 2,z 3,z 4,y 0,y 1,y 2,y 3,y 4,h5⟩
theorem IK {n:Nat} (hC:VC S a) (hF:VF S) (hn:p8 S n) (h:Sep w0 w (aF f q p S a::R)):
  Calls Tryz.prog 72 #[pV f,iV n] w fun e w'=>∃A c a2,e= .returned (.agg #[iV ((aH S.cur n).kind:Nat),iV ((aH S.cur n).mode:Nat),iV ((aH S.cur n).links:Nat),iV ((aH S.cur n).size:Nat),.slice A (aH S.cur n).aB.length c])/\VC S a2/\Sep w0 w' (aF f q p S a2::aS (.slice A (aH S.cur n).aB.length c) (eB (aH S.cur n).aB)::R):=by
 refine(jQ hC hF hn.lt hn.few h).mono ?_;rintro e w' ⟨v,a2,rfl,hR,h9⟩;obtain⟨A,c,e9⟩:=h9.dV 0 rfl;have hll:(eB (aH S.cur n).aB).length=(aH S.cur n).aB.length:=by unfold eB;rw[iJ]
 rw[hll]at e9;subst e9;exact⟨A,c,a2,rfl,hR.ok,h9.perm (List.Perm.swap _ _ _)⟩
theorem NY {n:Nat} {y:VI} {v:Value} (hC:VC S a) (hF:VF S) (hn:p8 S n) (hy:y.ok) (hW:gK S) (i:Nat) (hv:R[i]? =some (aS v (eB y.aB))) (h:Sep w0 w (aF f q p S a::R)):
  Calls Tryz.prog 100 #[pV f,iV n,fM y v] w fun e w'=>e= .returned (.tuple #[])/\∃a',VC (S.keep n y) a'/\Sep w0 w' (aF f q p (S.keep n y) a'::R):=
 uV hC hF hn.lt hy hn.few hW (jF i hv) h
theorem Z67 {P:Prop} (h:P:=by rw[IL,hbx];exact Lh (h9.out.perm (List.Perm.swap _ _ _))):P:=h
theorem ag5 {bf bi bn n mode:Nat} (hR0:∀W Y,Sep w0 W (Y++R)->W.cell? ⟨bf,0,none⟩=some (pV f)/\W.cell? ⟨bn,0,none⟩=some (iV n)/\W.cell? ⟨bi,3,none⟩=some (iV mode))
  (hC:VC S a) (hF:VF S) (hn:p8 S n) (hs:gK S) (hmode:mode<=511) (h:Sep w0 w (aF f q p S a::R)):
  Calls Tryz.prog 129 #[pV bf,pV bn,pV bi] w (fQ f q p S (some (sU S n mode)) w0 R):=by
 have hR:=Lh hR0;obtain⟨SX,wM⟩:∃SX,SX=S:=⟨_,rfl⟩;obtain⟨aX,haX⟩:∃aX,aX=a:=⟨_,rfl⟩;obtain⟨xX,QK⟩:∃xX,xX=aH SX.cur n:=⟨_,rfl⟩;have hX:Hid (Sep w0 w (aF f q p SX aX::R)):=by rw[wM,haX];exact Lh h
 have hV:Hid (VC SX aX):=by rw[wM,haX];exact Lh hC
 have hin:Hid (∀W Y a1,VC SX a1->Sep w0 W (aF f q p SX a1::(Y++R))->Calls Tryz.prog 72 #[pV f,iV n] W fun e w'=>∃A c a2,e= .returned (.agg #[iV (xX.kind:Nat),iV (xX.mode:Nat),iV (xX.links:Nat),iV (xX.size:Nat),.slice A xX.aB.length c])/\VC SX a2/\Sep w0 w' (aF f q p SX a2::aS (.slice A xX.aB.length c) (eB xX.aB)::(Y++R))):=Lh fun W Y a1 h1 h2=>by rw[QK];exact IK h1 (by rw[wM];exact hF) (by rw[wM];exact hn) h2
 have hyo:({xX with mode:=mode}:VI).ok:=by(have h1:xX.ok:=by rw[QK,wM];exact KC (by have:=hn.few;unfold aH at this;exact this));exact⟨h1.kind,by show mode<65536;omega,h1.links,h1.size,h1.few,h1.spot⟩
 have hkp:Hid (∀W bx A c a1,VC SX a1->Sep w0 W (aF f q p SX a1:: .box bx 129 (aN {xX with mode:=mode} (.slice A xX.aB.length c))::aS (.slice A xX.aB.length c) (eB xX.aB)::R)->Calls Tryz.prog 100 #[pV f,iV n,.agg #[iV (xX.kind:Nat),iV mode,iV (xX.links:Nat),iV (xX.size:Nat),.slice A xX.aB.length c]] W fun e w'=>e= .returned (.tuple #[])/\(w'.cell? ⟨bf,0,none⟩=some (pV f)/\w'.cell? ⟨bn,0,none⟩=some (iV n)/\w'.cell? ⟨bi,3,none⟩=some (iV mode)/\w'.cell? ⟨bx,0,none⟩=some (iV (xX.kind:Nat))/\w'.cell? ⟨bx,1,none⟩=some (iV mode)/\w'.cell? ⟨bx,2,none⟩=some (iV (xX.links:Nat))/\w'.cell? ⟨bx,3,none⟩=some (iV (xX.size:Nat))/\w'.cell? ⟨bx,4,none⟩=some (.slice A xX.aB.length c))/\fQ f q p S (some (sU S n mode)) w0 R (.returned (.tuple #[])) w'):=Lh fun W bx A c a1 h1 h2=>by
  refine(NY (y:= {xX with mode:=mode}) h1 (by rw[wM];exact hF) (by rw[wM];exact hn) hyo (by rw[wM];exact hs) 1 rfl h2).mono ?_;rintro e w' ⟨rfl,a',h3,h4⟩;have h5:=hR0 w' [_,_,_] h4;have h6:=h4.dL 1 rfl;refine⟨rfl,⟨h5.1,h5.2.1,h5.2.2,h6.1,h6.2.1,h6.2.2.1,h6.2.2.2.1,h6.2.2.2.2⟩,rfl,a',?_,?_⟩
  ·unfold sU;rw[wM]at QK h3;rw[QK]at h3;exact h3
  have h7:Sep w0 w' (.box bx 129 (aN {xX with mode:=mode} (.slice A xX.aB.length c))::aS (.slice A xX.aB.length c) (eB xX.aB)::aF f q p (SX.keep n {xX with mode:=mode}) a'::R):=Sep.dB [1,2,0] h4 aR bK;unfold sU;rw[wM]at QK h7;rw[QK]at h7;exact h7.drop 2
 clear hR0 hC hF hn hs h hyo wM haX QK;go_enter Tryz.func129,Tryz.ntmps129;go_wp2_with fail;refine eU (S:=fun w'=>w'.cell? ⟨bf,0,none⟩=some (pV f)/\w'.cell? ⟨bn,0,none⟩=some (iV n)/\w'.cell? ⟨bi,3,none⟩=some (iV mode)) 7 fE ?_;intro wq hwq;have hX2:Hid (Sep w0 wq (aF f q p SX aX::R)):=by rw[hwq];exact Lh hX.out.drew
 clear hwq hX;have hc:=hR.out wq [_] hX2.out;simp only[uB,kH,qQ,Nat.reduceAdd];refine aA 0 hc ?_;refine aA 1 hc ?_;refine aA 2 hc ?_;refine aA 3 hc ?_;refine aA 4 hc ?_;refine iX (i:=5) (j:=6) fE rfl rfl (fun K hK=>?_) (fun K hK=>?_)
 focus
  go_simp
  go_at_call 72
  refine(hin.out _ [] _ hV.out hX2.out).mono ?_
  rintro e w9 ⟨A9,c9,a9,rfl,eX,h9⟩
  have iA:=hR.out w9 [_,_] h9
  have h8:=Lh (h9.bN 129 gM)
  have hc8:=hR.out _ [_,_,_] h8.out
  clear hc hX2
  dsimp only
  refine hK _ _ (fun _=>iA) ?_
  clear hK K
  try simp only[Act.put,gD]
  refine bI 6 fun K hK=>?_
  go_simp
  unfold gM at hc8
  try dsimp only
  refine hK _ _ (fun _=>hc8) ?_
  clear hK K
  try simp only[Act.put,gD]
  obtain⟨bx,hbx⟩:∃bx,bx=w9.heap.size:=⟨_,rfl⟩
  obtain⟨w8,hw8⟩:∃x,x=w9.alloc (.cells #[iV 0,iV 0,iV 0,iV 0,.slice none 0 0] 129):=⟨_,rfl⟩
  have hB:Hid (Sep w0 w8 (.box bx 129 gM::aF f q p SX a9::aS (.slice A9 xX.aB.length c9) (eB xX.aB)::R)):=by rw[hw8,hbx];exact h8
  rw[<-hw8,<-hbx]
  clear hw8 hbx h8 hc8 iA h9
  have BP:=Lh eX
  clear eX
 rotate_left
 focus
  go_simp
  have h9:=Lh (hX2.out.bN 129 gM)
  have iA:=hR.out _ [_,_] h9.out
  clear hc
  unfold gM at iA
  try dsimp only
  refine hK _ _ (fun _=>iA) ?_
  clear hK K
  try simp only[Act.put,gD]
  obtain⟨bx,hbx⟩:∃bx,bx=wq.heap.size:=⟨_,rfl⟩
  obtain⟨w9,IL⟩:∃x,x=wq.alloc (.cells #[iV 0,iV 0,iV 0,iV 0,.slice none 0 0] 129):=⟨_,rfl⟩
  have h8:Hid (Sep w0 w9 (aF f q p SX aX::([.box bx 129 gM]++R))):=by exact Z67
  rw[<-IL,<-hbx]
  clear IL hbx h9 iA hX2
  refine bI 5 fun K hK=>?_
  go_simp
  go_at_call 72
  refine(hin.out _ _ _ hV.out h8.out).mono ?_
  rintro e w8 ⟨A9,c9,a9,rfl,eX,h7⟩
  have hB:Hid (Sep w0 w8 (.box bx 129 gM::aF f q p SX a9::aS (.slice A9 xX.aB.length c9) (eB xX.aB)::R)):=Lh (Sep.dB [2,0,1] h7 aR bK)
  have iA:=hR.out w8 [_,_,_] hB.out
  clear h8 h7
  dsimp only
  refine hK _ _ (fun _=>iA) ?_
  clear hK K
  try simp only[Act.put,gD]
  clear iA
  have BP:=Lh eX
  clear eX
 all_goals
  obtain⟨z0,z1,z2,z3,z4,y0,y1,y2,y3,y4,hfin⟩:=hB.out.uG 0 rfl xX (.slice A9 xX.aB.length c9)
  replace hfin:=Lh hfin
  clear hB hV
  refine bA 7 (fun h=>absurd rfl h) ?_
  refine aQ fE ?_ _
  clear z0 z1 z2 z3 z4 y0 y1 y2 y3 y4
  obtain⟨w7,hw7⟩:∃w7,w7=(((((w8.setCell ⟨bx,0,none⟩ (.int .i64 (xX.kind:Nat))).setCell ⟨bx,1,none⟩ (.int .i64 (xX.mode:Nat))).setCell ⟨bx,2,none⟩ (.int .i64 (xX.links:Nat))).setCell ⟨bx,3,none⟩ (.int .i64 (xX.size:Nat))).setCell ⟨bx,4,none⟩ (.slice A9 xX.aB.length c9)):=⟨_,rfl⟩
  rw[<-hw7]at hfin ⊢
  clear hw7
  have hm3:=(hR.out w7 [_,_,_] hfin.out).2.2
  have d1:=(hfin.out.dL 0 rfl).2.1
  have f1:=hfin.out.bF 0 rfl 1
  have h6:Hid (Sep w0 (w7.setCell ⟨bx,1,none⟩ (.int .i64 mode)) (.box bx 129 (aN {xX with mode:=mode} (.slice A9 xX.aB.length c9))::aF f q p SX a9::aS (.slice A9 xX.aB.length c9) (eB xX.aB)::R)):=Lh (hfin.out.bS 0 rfl 1 (.int .i64 mode))
  clear hfin
  go_wp2_with fail
  obtain⟨w6,hw6⟩:∃w6,w6=w7.setCell ⟨bx,1,none⟩ (.int .i64 mode):=⟨_,rfl⟩
  rw[<-hw6]at h6 ⊢
  clear hw6 hm3 d1 f1
  have k1:=hR.out w6.drew [_,_,_] h6.out.drew
  have k2:=h6.out.drew.dL 0 rfl
  have hE:w6.drew.cell? ⟨bf,0,none⟩=some (pV f)/\w6.drew.cell? ⟨bn,0,none⟩=some (iV n)/\w6.drew.cell? ⟨bi,3,none⟩=some (iV mode)/\w6.drew.cell? ⟨bx,0,none⟩=some (iV (xX.kind:Nat))/\w6.drew.cell? ⟨bx,1,none⟩=some (iV mode)/\w6.drew.cell? ⟨bx,2,none⟩=some (iV (xX.links:Nat))/\w6.drew.cell? ⟨bx,3,none⟩=some (iV (xX.size:Nat))/\w6.drew.cell? ⟨bx,4,none⟩=some (.slice A9 xX.aB.length c9):=⟨k1.1,k1.2.1,k1.2.2,k2.1,k2.2.1,k2.2.2.1,k2.2.2.2.1,k2.2.2.2.2⟩
  have sS:=hkp.out _ _ _ _ _ BP.out (Sep.dB [1,0,2] h6.out.drew aR bK)
  clear k1 k2 h6
  refine aP (S:=fun w'=>w'.cell? ⟨bf,0,none⟩=some (pV f)/\w'.cell? ⟨bn,0,none⟩=some (iV n)/\w'.cell? ⟨bi,3,none⟩=some (iV mode)/\w'.cell? ⟨bx,0,none⟩=some (iV (xX.kind:Nat))/\w'.cell? ⟨bx,1,none⟩=some (iV mode)/\w'.cell? ⟨bx,2,none⟩=some (iV (xX.links:Nat))/\w'.cell? ⟨bx,3,none⟩=some (iV (xX.size:Nat))/\w'.cell? ⟨bx,4,none⟩=some (.slice A9 xX.aB.length c9)) 7 ?_
  refine aA 0 hE ?_
  refine aA 1 hE ?_
  refine aA 2 hE ?_
  refine aA 3 hE ?_
  refine aA 4 hE ?_
  refine aA 5 hE ?_
  refine bI 6 fun K hK=>?_
  go_simp
  go_at_call 100
  refine sS.mono ?_
  rintro e w5 ⟨rfl,rV,hend⟩
  replace hend:=Lh hend
  clear sS hE
  dsimp only
  refine hK _ _ (fun _=>by simpa[and_assoc]using rV) ?_
  clear hK K
  try simp only[Act.put,gD]
  refine aQ fE ?_ _
  go_end0
  exact hend.out
theorem Z9 {P:Prop} (h:P:=by
 unfold fQ at ho;obtain⟨rfl,aT,hCT,hT⟩:=ho;have hc8:=hR.out v8 [_] hT;dsimp only;refine hK _ _ (fun _=>hc8) ?_;clear hK K;try simp only[Act.put,gD]
 refine aQ fE ?_ _
 go_end0
 unfold fQ;exact⟨rfl,aT,hCT,hT⟩):P:=h
theorem Z79 {P:Prop} (h:P:=by
 go_simp;go_at_call 125;refine(hen.out _ _ hV.out hX.out).mono ?_;intro e v8 ho;cases rX with
 |none=>unfold fQ at ho;obtain⟨rfl,T,aT,hLT,hCT,hT⟩:=ho;unfold fQ;exact⟨rfl,rfl,T,aT,zR.out.trans hLT,hCT,hT⟩
 |some T=>exact Z9):P:=h
theorem ac4 {bf bd bi bt bn dir tz n:Nat} {path bD:List UInt8} (hR0:∀W Y,Sep w0 W (Y++R)->W.cell? ⟨bf,0,none⟩=some (pV f)/\W.cell? ⟨bd,0,none⟩=some (iV dir)/\W.cell? ⟨bi,1,none⟩=some (aC path)/\W.cell? ⟨bi,2,none⟩=some (aC bD)/\W.cell? ⟨bt,0,none⟩=some (iV tz)/\W.cell? ⟨bn,0,none⟩=some (iV n))
  (hC:VC S a) (hF:VF S) (hv:aV path=true) (hp:path.length<=1048576) (hv2:aV bD=true) (hp2:bD.length<=1048576) (hl:wK S dir (aL path)) (hs:lW S) (he:oG (cO S dir (aL path)) tz n (aL bD)) (hs2:lW (cO S dir (aL path))) (h:Sep w0 w (aF f q p S a::R)):
  Calls Tryz.prog 124 #[pV bf,pV bd,pV bi,pV bt,pV bn] w (fQ f q p S (oI S dir (aL path) tz (aL bD) n) w0 R):=by
 have hR:=Lh hR0;obtain⟨SX,wM⟩:∃SX,SX=cO S dir (aL path):=⟨_,rfl⟩;have zR:Hid (fC S SX):=by rw[wM];exact Lh (oV _ _ _)
 have hba:Hid (∀W,Calls Tryz.prog 121 #[aC path] W fun e w'=>e= .returned (aC (aL path))/\Below W.heap.size W w'):=Lh fun W=>uZ hv hp W
 have hlv:Hid (∀W a1,VC S a1->Sep w0 W (aF f q p S a1::R)->Calls Tryz.prog 120 #[pV f,iV dir,aC (aL path)] W fun e w'=>e= .returned (.tuple #[])/\∃a',VC SX a'/\Sep w0 w' (aF f q p SX a'::R)):=Lh fun W a1 h1 h2=>by rw[wM];exact QA h1 hF hl hs h2
 have NC:Hid (∀W,Calls Tryz.prog 121 #[aC bD] W fun e w'=>e= .returned (aC (aL bD))/\Below W.heap.size W w'):=Lh fun W=>uZ hv2 hp2 W
 obtain⟨rX,wN⟩:∃rX,rX=oI S dir (aL path) tz (aL bD) n:=⟨_,rfl⟩;have hen:Hid (∀W a1,VC SX a1->Sep w0 W (aF f q p SX a1::R)->Calls Tryz.prog 125 #[pV f,iV tz,aC (aL bD),iV n] W (fQ f q p SX rX w0 R)):=Lh fun W a1 h1 h2=>by rw[wN];unfold oI;rw[<-wM];exact IB h1 (zR.out.vf hF) (by rw[wM];exact he) (by rw[wM];exact hs2) h2
 obtain⟨b1,hb1⟩:∃b,b=aL path:=⟨_,rfl⟩;obtain⟨b2,hb2⟩:∃b,b=aL bD:=⟨_,rfl⟩;rw[<-wN];rw[<-hb1]at hba hlv;rw[<-hb2]at NC hen;have hX0:=Lh h;have hV0:=Lh hC;clear hR0 hC hF hv hp hv2 hp2 hl hs he hs2 h wM wN hb1 hb2;unfold aC at*;go_enter Tryz.func124,Tryz.ntmps124;go_wp2_with fail;have hc:=hR.out w.drew [_] hX0.out.drew;refine aP (S:=fun w'=>w'.cell? ⟨bf,0,none⟩=some (pV f)/\w'.cell? ⟨bd,0,none⟩=some (iV dir)/\w'.cell? ⟨bi,1,none⟩=some (.string ⟨path.toArray⟩)/\w'.cell? ⟨bi,2,none⟩=some (.string ⟨bD.toArray⟩)/\w'.cell? ⟨bt,0,none⟩=some (iV tz)/\w'.cell? ⟨bn,0,none⟩=some (iV n)) 8 ?_;refine aA 0 hc ?_;refine aA 1 hc ?_;refine aA 2 hc ?_;refine aA 3 hc ?_;refine aA 4 hc ?_;refine aA 5 hc ?_;refine bI 6 fun K hK=>?_
 go_simp;go_at_call 121;refine(hba.out _).mono ?_;rintro e w9 ⟨rfl,xL⟩;replace hX0:=Lh (hX0.out.drew.pure xL);have iA:=hR.out w9 [_] hX0.out;clear hc xL;dsimp only;refine hK _ _ (fun _=>iA) ?_;clear hK K;try simp only[Act.put,gD]
 refine bI 7 fun K hK=>?_
 go_simp;go_at_call 120;refine(hlv.out _ _ hV0.out hX0.out).mono ?_;rintro e w8 ⟨rfl,aX,zS,h8⟩;have hc8:=hR.out w8 [_] h8;have hV:=Lh zS;have hX:=Lh h8;clear zS h8 hX0 hV0 iA hlv hba;dsimp only;refine hK _ _ (fun _=>hc8) ?_;clear hK K;try simp only[Act.put,gD]
 refine aQ fE ?_ _;clear hc8;go_wp2_with fail;have hc:=hR.out w8.drew [_] hX.out.drew;refine aP (S:=fun w'=>w'.cell? ⟨bf,0,none⟩=some (pV f)/\w'.cell? ⟨bd,0,none⟩=some (iV dir)/\w'.cell? ⟨bi,1,none⟩=some (.string ⟨path.toArray⟩)/\w'.cell? ⟨bi,2,none⟩=some (.string ⟨bD.toArray⟩)/\w'.cell? ⟨bt,0,none⟩=some (iV tz)/\w'.cell? ⟨bn,0,none⟩=some (iV n)) 9 ?_;refine aA 0 hc ?_;refine aA 1 hc ?_;refine aA 2 hc ?_;refine aA 3 hc ?_;refine aA 4 hc ?_;refine aA 5 hc ?_;refine aA 7 hc ?_;refine bI 6 fun K hK=>?_
 go_simp;go_at_call 121;refine(NC.out _).mono ?_;rintro e v9 ⟨rfl,xL⟩;replace hX:=Lh (hX.out.drew.pure xL);have iA:=hR.out v9 [_] hX.out;clear hc xL;dsimp only;refine hK _ _ (fun _=>iA) ?_;clear hK K;try simp only[Act.put,gD]
 refine bI 8 fun K hK=>?_
 exact Z79
theorem ac5 {bf bd bi bn dir n:Nat} {path:List UInt8} (hR0:∀W Y,Sep w0 W (Y++R)->W.cell? ⟨bf,0,none⟩=some (pV f)/\W.cell? ⟨bd,0,none⟩=some (iV dir)/\W.cell? ⟨bi,1,none⟩=some (aC path)/\W.cell? ⟨bn,0,none⟩=some (iV n))
  (hC:VC S a) (hF:VF S) (hv:aV path=true) (hp:path.length<=1048576) (hl:wK S dir (aL path)) (hs:lW S) (hn:p8 (cO S dir (aL path)) n) (hlk:1<=(aH (cO S dir (aL path)).cur n).links) (hs3:gK (cO S dir (aL path)))
  (hnd:p8 ((cO S dir (aL path)).keep n {aH (cO S dir (aL path)).cur n with links:=(aH (cO S dir (aL path)).cur n).links-1}) n) (hs4:gK ((cO S dir (aL path)).keep n {aH (cO S dir (aL path)).cur n with links:=(aH (cO S dir (aL path)).cur n).links-1})) (h:Sep w0 w (aF f q p S a::R)):
  Calls Tryz.prog 127 #[pV bf,pV bd,pV bi,pV bn] w (fQ f q p S (some (oH S dir (aL path) n)) w0 R):=by
 have hR:=Lh hR0;obtain⟨SX,wM⟩:∃SX,SX=cO S dir (aL path):=⟨_,rfl⟩;have zR:Hid (fC S SX):=by rw[wM];exact Lh (oV _ _ _)
 have hba:Hid (∀W,Calls Tryz.prog 121 #[aC path] W fun e w'=>e= .returned (aC (aL path))/\Below W.heap.size W w'):=Lh fun W=>uZ hv hp W
 have hlv:Hid (∀W a1,VC S a1->Sep w0 W (aF f q p S a1::R)->Calls Tryz.prog 120 #[pV f,iV dir,aC (aL path)] W fun e w'=>e= .returned (.tuple #[])/\∃a',VC SX a'/\Sep w0 w' (aF f q p SX a'::R)):=Lh fun W a1 h1 h2=>by rw[wM];exact QA h1 hF hl hs h2
 obtain⟨xX,QK⟩:∃xX,xX=aH SX.cur n:=⟨_,rfl⟩;rw[<-wM,<-QK]at hlk hnd hs4;obtain⟨kl,hkl⟩:∃kl,xX.links=kl+1:=⟨xX.links-1,by omega⟩;rw[hkl,OU]at hnd hs4;have hin:Hid (∀W Y a1,VC SX a1->Sep w0 W (aF f q p SX a1::(Y++R))->Calls Tryz.prog 72 #[pV f,iV n] W fun e w'=>∃A c a2,e= .returned (.agg #[iV (xX.kind:Nat),iV (xX.mode:Nat),iV (xX.links:Nat),iV (xX.size:Nat),.slice A xX.aB.length c])/\VC SX a2/\Sep w0 w' (aF f q p SX a2::aS (.slice A xX.aB.length c) (eB xX.aB)::(Y++R))):=Lh fun W Y a1 h1 h2=>by rw[QK];exact IK h1 (zR.out.vf hF) (by rw[wM];exact hn) h2
 have hxo:xX.ok:=by rw[QK,wM];exact KC (by have:=hn.few;unfold aH at this;exact this)
 have hyo:({xX with links:=kl}:VI).ok:=⟨hxo.kind,hxo.mode,by show kl<65536;have:=hxo.links;omega,hxo.size,hxo.few,hxo.spot⟩;have aI6:(kl:Int)<65536:=by have:=hxo.links;omega
 obtain⟨SK,hSK⟩:∃SK,SK=SX.keep n {xX with links:=kl}:=⟨_,rfl⟩;rw[<-hSK]at hnd hs4;have QL:Hid (fC S SK):=by rw[hSK];exact Lh (zR.out.keep _ _)
 have hkp:Hid (∀W bx A c a1,VC SX a1->Sep w0 W (aF f q p SX a1:: .box bx 129 (aN {xX with links:=kl} (.slice A xX.aB.length c))::aS (.slice A xX.aB.length c) (eB xX.aB)::R)->Calls Tryz.prog 100 #[pV f,iV n,.agg #[iV (xX.kind:Nat),iV (xX.mode:Nat),iV ((kl:Nat)),iV (xX.size:Nat),.slice A xX.aB.length c]] W fun e w'=>e= .returned (.tuple #[])/\∃a',VC SK a'/\Sep w0 w' (aF f q p SK a':: .box bx 129 (aN {xX with links:=kl} (.slice A xX.aB.length c))::aS (.slice A xX.aB.length c) (eB xX.aB)::R)):=Lh fun W bx A c a1 h1 h2=>by have:=NY (n:=n) (y:= {xX with links:=kl}) (v:=.slice A xX.aB.length c) h1 (zR.out.vf hF) (by rw[wM];exact hn) hyo (by rw[wM];exact hs3) 1 rfl h2;rw[hSK];unfold fM aN at this;exact this
 have hdr:Hid (∀W a1 Y,VC SK a1->Sep w0 W (aF f q p SK a1::(Y++R))->Calls Tryz.prog 122 #[pV f,iV n] W fun e w'=>e= .returned (.tuple #[])/\∃a',VC (mV SK n) a'/\Sep w0 w' (aF f q p (mV SK n) a'::(Y++R))):=Lh fun W a1 Y h1 h2=>akI h1 (QL.out.vf hF) hnd hs4 h2
 have hres:Hid (oH S dir (aL path) n=if kl=0 then mV SK n else SK):=Lh (by unfold oH;simp only[<-wM,<-QK];rw[hkl,OU,<-hSK]);obtain⟨b1,hb1⟩:∃b,b=aL path:=⟨_,rfl⟩;obtain⟨rX,wN⟩:∃rX,rX=oH S dir (aL path) n:=⟨_,rfl⟩;rw[<-wN]at hres ⊢;rw[<-hb1]at hba hlv;have hX0:=Lh h;have hV0:=Lh hC;have aD7:Hid (((xX.links:Nat):Int)=(kl:Int)+1):=Lh aD;clear hR0 hC hF hv hp hl hs hn hlk hs3 hnd hs4 h wM hb1 wN QK hxo hyo hSK hkl zR QL;unfold aC at*;go_enter Tryz.func127,Tryz.ntmps127;go_wp2_with fail;have hc:=hR.out w.drew [_] hX0.out.drew;refine aP (S:=fun w'=>w'.cell? ⟨bf,0,none⟩=some (pV f)/\w'.cell? ⟨bd,0,none⟩=some (iV dir)/\w'.cell? ⟨bi,1,none⟩=some (.string ⟨path.toArray⟩)/\w'.cell? ⟨bn,0,none⟩=some (iV n)) 8 ?_;refine aA 0 hc ?_;refine aA 1 hc ?_;refine aA 2 hc ?_;refine aA 3 hc ?_;refine aA 4 hc ?_;refine aA 5 hc ?_;refine bI 6 fun K hK=>?_
 go_simp;go_at_call 121;refine(hba.out _).mono ?_;rintro e w9 ⟨rfl,xL⟩;replace hX0:=Lh (hX0.out.drew.pure xL);have iA:=hR.out w9 [_] hX0.out;clear hc xL;dsimp only;refine hK _ _ (fun _=>iA) ?_;clear hK K;try simp only[Act.put,gD]
 refine bI 7 fun K hK=>?_
 go_simp;go_at_call 120;refine(hlv.out _ _ hV0.out hX0.out).mono ?_;rintro e w8 ⟨rfl,aX,zS,h8⟩;have hc8:=hR.out w8 [_] h8;have hV:=Lh zS;have hX:=Lh h8;clear zS h8 hX0 hV0 iA hlv hba;dsimp only;refine hK _ _ (fun _=>hc8) ?_;clear hK K;try simp only[Act.put,gD]
 refine aQ fE ?_ _;clear hc8;go_wp2_with fail;refine eU (S:=fun w'=>w'.cell? ⟨bf,0,none⟩=some (pV f)/\w'.cell? ⟨bd,0,none⟩=some (iV dir)/\w'.cell? ⟨bi,1,none⟩=some (.string ⟨path.toArray⟩)/\w'.cell? ⟨bn,0,none⟩=some (iV n)) 7 fE ?_;intro wq hwq;have hX2:Hid (Sep w0 wq (aF f q p SX aX::R)):=by rw[hwq];exact Lh hX.out.drew
 clear hwq hX;have hc:=hR.out wq [_] hX2.out;simp only[uB,kH,qQ,Nat.reduceAdd];refine aA 0 hc ?_;refine aA 1 hc ?_;refine aA 2 hc ?_;refine aA 3 hc ?_;refine aA 4 hc ?_;refine iX (i:=5) (j:=6) fE rfl rfl (fun K hK=>?_) (fun K hK=>?_)
 focus
  go_simp
  go_at_call 72
  refine(hin.out _ [] _ hV.out hX2.out).mono ?_
  rintro e w9 ⟨A9,c9,a9,rfl,eX,h9⟩
  have iA:=hR.out w9 [_,_] h9
  have h8:=Lh (h9.bN 129 gM)
  have hc8:=hR.out _ [_,_,_] h8.out
  clear hc hX2
  dsimp only
  refine hK _ _ (fun _=>iA) ?_
  clear hK K
  try simp only[Act.put,gD]
  refine bI 6 fun K hK=>?_
  go_simp
  unfold gM at hc8
  try dsimp only
  refine hK _ _ (fun _=>hc8) ?_
  clear hK K
  try simp only[Act.put,gD]
  obtain⟨bx,hbx⟩:∃bx,bx=w9.heap.size:=⟨_,rfl⟩
  obtain⟨w8,hw8⟩:∃x,x=w9.alloc (.cells #[iV 0,iV 0,iV 0,iV 0,.slice none 0 0] 129):=⟨_,rfl⟩
  have hB:Hid (Sep w0 w8 (.box bx 129 gM::aF f q p SX a9::aS (.slice A9 xX.aB.length c9) (eB xX.aB)::R)):=by rw[hw8,hbx];exact h8
  rw[<-hw8,<-hbx]
  clear hw8 hbx h8 hc8 iA h9
  have BP:=Lh eX
  clear eX
 rotate_left
 focus
  go_simp
  have h9:=Lh (hX2.out.bN 129 gM)
  have iA:=hR.out _ [_,_] h9.out
  clear hc
  unfold gM at iA
  try dsimp only
  refine hK _ _ (fun _=>iA) ?_
  clear hK K
  try simp only[Act.put,gD]
  obtain⟨bx,hbx⟩:∃bx,bx=wq.heap.size:=⟨_,rfl⟩
  obtain⟨w9,IL⟩:∃x,x=wq.alloc (.cells #[iV 0,iV 0,iV 0,iV 0,.slice none 0 0] 129):=⟨_,rfl⟩
  have h8:Hid (Sep w0 w9 (aF f q p SX aX::([.box bx 129 gM]++R))):=by exact Z67
  rw[<-IL,<-hbx]
  clear IL hbx h9 iA hX2
  refine bI 5 fun K hK=>?_
  go_simp
  go_at_call 72
  refine(hin.out _ _ _ hV.out h8.out).mono ?_
  rintro e w8 ⟨A9,c9,a9,rfl,eX,h7⟩
  have hB:Hid (Sep w0 w8 (.box bx 129 gM::aF f q p SX a9::aS (.slice A9 xX.aB.length c9) (eB xX.aB)::R)):=Lh (Sep.dB [2,0,1] h7 aR bK)
  have iA:=hR.out w8 [_,_,_] hB.out
  clear h8 h7
  dsimp only
  refine hK _ _ (fun _=>iA) ?_
  clear hK K
  try simp only[Act.put,gD]
  clear iA
  have BP:=Lh eX
  clear eX
 all_goals
  obtain⟨z0,z1,z2,z3,z4,y0,y1,y2,y3,y4,hfin⟩:=hB.out.uG 0 rfl xX (.slice A9 xX.aB.length c9)
  replace hfin:=Lh hfin
  clear hB hV
  refine bA 7 (fun h=>absurd rfl h) ?_
  refine aQ fE ?_ _
  clear z0 z1 z2 z3 z4 y0 y1 y2 y3 y4
  obtain⟨w7,hw7⟩:∃w7,w7=(((((w8.setCell ⟨bx,0,none⟩ (.int .i64 (xX.kind:Nat))).setCell ⟨bx,1,none⟩ (.int .i64 (xX.mode:Nat))).setCell ⟨bx,2,none⟩ (.int .i64 (xX.links:Nat))).setCell ⟨bx,3,none⟩ (.int .i64 (xX.size:Nat))).setCell ⟨bx,4,none⟩ (.slice A9 xX.aB.length c9)):=⟨_,rfl⟩
  rw[<-hw7]at hfin ⊢
  clear hw7
  have d2:=(hfin.out.dL 0 rfl).2.2.1
  have f2:=hfin.out.bF 0 rfl 2
  have h6:Hid (Sep w0 (w7.setCell ⟨bx,2,none⟩ (.int .i64 (kl:Nat))) (.box bx 129 (aN {xX with links:=kl} (.slice A9 xX.aB.length c9))::aF f q p SX a9::aS (.slice A9 xX.aB.length c9) (eB xX.aB)::R)):=Lh (hfin.out.bS 0 rfl 2 (.int .i64 (kl:Nat)))
  rw[aD7.out]at d2
  clear aD7
  clear hfin
  go_wp2_with fail
  obtain⟨w6,hw6⟩:∃w6,w6=w7.setCell ⟨bx,2,none⟩ (.int .i64 (kl:Nat)):=⟨_,rfl⟩
  rw[<-hw6]at h6 ⊢
  clear hw6 d2 f2
  have k1:=hR.out w6.drew [_,_,_] h6.out.drew
  have k2:=h6.out.drew.dL 0 rfl
  have hE:w6.drew.cell? ⟨bf,0,none⟩=some (pV f)/\w6.drew.cell? ⟨bd,0,none⟩=some (iV dir)/\w6.drew.cell? ⟨bi,1,none⟩=some (.string ⟨path.toArray⟩)/\w6.drew.cell? ⟨bn,0,none⟩=some (iV n)/\w6.drew.cell? ⟨bx,0,none⟩=some (iV (xX.kind:Nat))/\w6.drew.cell? ⟨bx,1,none⟩=some (iV (xX.mode:Nat))/\w6.drew.cell? ⟨bx,2,none⟩=some (iV (kl:Nat))/\w6.drew.cell? ⟨bx,3,none⟩=some (iV (xX.size:Nat))/\w6.drew.cell? ⟨bx,4,none⟩=some (.slice A9 xX.aB.length c9):=⟨k1.1,k1.2.1,k1.2.2.1,k1.2.2.2,k2.1,k2.2.1,k2.2.2.1,k2.2.2.2.1,k2.2.2.2.2⟩
  have sS:=hkp.out _ _ _ _ _ BP.out (Sep.dB [1,0,2] h6.out.drew aR bK)
  clear k1 k2 h6
  refine aP (S:=fun w'=>w'.cell? ⟨bf,0,none⟩=some (pV f)/\w'.cell? ⟨bd,0,none⟩=some (iV dir)/\w'.cell? ⟨bi,1,none⟩=some (.string ⟨path.toArray⟩)/\w'.cell? ⟨bn,0,none⟩=some (iV n)/\w'.cell? ⟨bx,0,none⟩=some (iV (xX.kind:Nat))/\w'.cell? ⟨bx,1,none⟩=some (iV (xX.mode:Nat))/\w'.cell? ⟨bx,2,none⟩=some (iV (kl:Nat))/\w'.cell? ⟨bx,3,none⟩=some (iV (xX.size:Nat))/\w'.cell? ⟨bx,4,none⟩=some (.slice A9 xX.aB.length c9)) 7 ?_
  refine aA 0 hE ?_
  refine aA 1 hE ?_
  refine aA 2 hE ?_
  refine aA 3 hE ?_
  refine aA 4 hE ?_
  refine aA 5 hE ?_
  refine bI 6 fun K hK=>?_
  go_simp
  go_at_call 100
  refine sS.mono ?_
  rintro e w5 ⟨rfl,a5,hC5,h5⟩
  have k5:=hR.out w5 [_,_,_] h5
  have k6:=h5.dL 1 rfl
  have d2:=k6.2.2.1
  replace h5:=Lh h5
  replace hC5:=Lh hC5
  clear sS hE
  dsimp only
  refine hK _ _ (fun _=>⟨k5.1,k5.2.1,k5.2.2.1,k5.2.2.2,k6.1,k6.2.1,k6.2.2.1,k6.2.2.2.1,k6.2.2.2.2⟩) ?_
  clear hK K
  try simp only[Act.put,gD]
  refine aQ fE ?_ _
  clear k5 k6
  by_cases hk0:kl=0
  ·have hrr:=hres.out;rw[if_pos hk0]at hrr;(have hk1:((kl:Int)==0)=true:=by rw[tL];omega);replace hrr:=Lh hrr;clear hk0;go_wp2_with fail;have hc:=hR.out w5.drew [_,_,_] h5.out.drew;have hd2:=hdr.out _ _ [_,_] hC5.out h5.out.drew;refine aP (S:=fun w'=>w'.cell? ⟨bf,0,none⟩=some (pV f)/\w'.cell? ⟨bd,0,none⟩=some (iV dir)/\w'.cell? ⟨bi,1,none⟩=some (.string ⟨path.toArray⟩)/\w'.cell? ⟨bn,0,none⟩=some (iV n)) 6 ?_;refine aA 0 hc ?_;refine aA 1 hc ?_;refine aA 2 hc ?_;refine aA 3 hc ?_;refine aA 4 hc ?_;(refine bI 5 fun K hK=>?_);go_simp;go_at_call 122;refine hd2.mono ?_;rintro e w4 ⟨rfl,a4,UG,h4⟩;have hc4:=hR.out w4 [_,_,_] h4;replace h4:=Lh h4;replace UG:=Lh UG;clear hd2 hc;dsimp only;refine hK _ _ (fun _=>hc4) ?_;clear hK K;(try simp only[Act.put,gD]);refine aQ fE ?_ _
   go_end0
   unfold fQ;rw[hrr.out];exact⟨rfl,a4,UG.out,(Sep.dB [1,2,0] h4.out aR bK).drop 2⟩
  ·have hrr:=hres.out;rw[if_neg hk0]at hrr;(have hk1:((kl:Int)==0)=false:=by rw[jU];omega);replace hrr:=Lh hrr;clear hk0;go_wp2_with fail
   go_end0
   unfold fQ;rw[hrr.out];exact⟨rfl,a5,hC5.out,(Sep.dB [1,2,0] h5.out aR bK).drop 2⟩
theorem amS {bf bi bt bn tz n:Nat} {bD:List UInt8} (hR0:∀W Y,Sep w0 W (Y++R)->W.cell? ⟨bf,0,none⟩=some (pV f)/\W.cell? ⟨bn,0,none⟩=some (iV n)/\W.cell? ⟨bt,0,none⟩=some (iV tz)/\W.cell? ⟨bi,2,none⟩=some (aC bD))
  (hC:VC S a) (hF:VF S) (hv2:aV bD=true) (hp2:bD.length<=1048576) (hn:p8 S n) (hlk:(aH S.cur n).links<65535) (hs3:gK S)
  (he:oG (S.keep n {aH S.cur n with links:=(aH S.cur n).links+1}) tz n (aL bD)) (hs2:lW (S.keep n {aH S.cur n with links:=(aH S.cur n).links+1})) (h:Sep w0 w (aF f q p S a::R)):
  Calls Tryz.prog 126 #[pV bf,pV bn,pV bt,pV bi] w (fQ f q p S (zQ S n tz (aL bD)) w0 R):=by
 have hR:=Lh hR0;obtain⟨SX,wM⟩:∃SX,SX=S:=⟨_,rfl⟩;obtain⟨aX,haX⟩:∃aX,aX=a:=⟨_,rfl⟩;have ZN:Hid (fC S SX):=by rw[wM];exact Lh (.refl _)
 obtain⟨xX,QK⟩:∃xX,xX=aH SX.cur n:=⟨_,rfl⟩;rw[<-wM,<-QK]at hlk he hs2;have hin:Hid (∀W Y a1,VC SX a1->Sep w0 W (aF f q p SX a1::(Y++R))->Calls Tryz.prog 72 #[pV f,iV n] W fun e w'=>∃A c a2,e= .returned (.agg #[iV (xX.kind:Nat),iV (xX.mode:Nat),iV (xX.links:Nat),iV (xX.size:Nat),.slice A xX.aB.length c])/\VC SX a2/\Sep w0 w' (aF f q p SX a2::aS (.slice A xX.aB.length c) (eB xX.aB)::(Y++R))):=Lh fun W Y a1 h1 h2=>by rw[QK];exact IK h1 (ZN.out.vf hF) (by rw[wM];exact hn) h2
 have hxo:xX.ok:=by rw[QK,wM];exact KC (by have:=hn.few;unfold aH at this;exact this)
 have hyo:({xX with links:=xX.links+1}:VI).ok:=⟨hxo.kind,hxo.mode,by show xX.links+1<65536;omega,hxo.size,hxo.few,hxo.spot⟩;have aI6:(xX.links:Int)<65535:=by omega
 obtain⟨SK,hSK⟩:∃SK,SK=SX.keep n {xX with links:=xX.links+1}:=⟨_,rfl⟩;rw[<-hSK]at he hs2;have zR:Hid (fC S SK):=by rw[hSK];exact Lh (ZN.out.keep _ _)
 have hkp:Hid (∀W bx A c a1,VC SX a1->Sep w0 W (aF f q p SX a1:: .box bx 129 (aN {xX with links:=xX.links+1} (.slice A xX.aB.length c))::aS (.slice A xX.aB.length c) (eB xX.aB)::R)->Calls Tryz.prog 100 #[pV f,iV n,.agg #[iV (xX.kind:Nat),iV (xX.mode:Nat),iV ((xX.links:Int)+1),iV (xX.size:Nat),.slice A xX.aB.length c]] W fun e w'=>e= .returned (.tuple #[])/\∃a',VC SK a'/\Sep w0 w' (aF f q p SK a':: .box bx 129 (aN {xX with links:=xX.links+1} (.slice A xX.aB.length c))::aS (.slice A xX.aB.length c) (eB xX.aB)::R)):=Lh fun W bx A c a1 h1 h2=>by have:=NY (n:=n) (y:= {xX with links:=xX.links+1}) (v:=.slice A xX.aB.length c) h1 (ZN.out.vf hF) (by rw[wM];exact hn) hyo (by rw[wM];exact hs3) 1 rfl h2;rw[hSK];unfold fM aN at this;exact this
 have NC:Hid (∀W,Calls Tryz.prog 121 #[aC bD] W fun e w'=>e= .returned (aC (aL bD))/\Below W.heap.size W w'):=Lh fun W=>uZ hv2 hp2 W
 obtain⟨rX,wN⟩:∃rX,rX=zQ S n tz (aL bD):=⟨_,rfl⟩;have hen:Hid (∀W a1,VC SK a1->Sep w0 W (aF f q p SK a1::R)->Calls Tryz.prog 125 #[pV f,iV tz,aC (aL bD),iV n] W (fQ f q p SK rX w0 R)):=Lh fun W a1 h1 h2=>by rw[wN];unfold zQ;rw[<-wM,<-QK,<-hSK];exact IB h1 (zR.out.vf hF) he hs2 h2
 obtain⟨b2,hb2⟩:∃b,b=aL bD:=⟨_,rfl⟩;rw[<-wN];rw[<-hb2]at NC hen;have hX:Hid (Sep w0 w (aF f q p SX aX::R)):=by rw[wM,haX];exact Lh h
 have hV:Hid (VC SX aX):=by rw[wM,haX];exact Lh hC
 clear hR0 hC hF hv2 hp2 hn hlk hs3 he hs2 h wM haX wN hb2 QK hxo hyo hSK ZN;unfold aC at*;go_enter Tryz.func126,Tryz.ntmps126;go_wp2_with fail;refine eU (S:=fun w'=>w'.cell? ⟨bf,0,none⟩=some (pV f)/\w'.cell? ⟨bn,0,none⟩=some (iV n)/\w'.cell? ⟨bt,0,none⟩=some (iV tz)/\w'.cell? ⟨bi,2,none⟩=some (.string ⟨bD.toArray⟩)) 7 fE ?_;intro wq hwq;have hX2:Hid (Sep w0 wq (aF f q p SX aX::R)):=by rw[hwq];exact Lh hX.out.drew
 clear hwq hX;have hc:=hR.out wq [_] hX2.out;simp only[uB,kH,qQ,Nat.reduceAdd];refine aA 0 hc ?_;refine aA 1 hc ?_;refine aA 2 hc ?_;refine aA 3 hc ?_;refine aA 4 hc ?_;refine iX (i:=5) (j:=6) fE rfl rfl (fun K hK=>?_) (fun K hK=>?_)
 focus
  go_simp
  go_at_call 72
  refine(hin.out _ [] _ hV.out hX2.out).mono ?_
  rintro e w9 ⟨A9,c9,a9,rfl,eX,h9⟩
  have iA:=hR.out w9 [_,_] h9
  have h8:=Lh (h9.bN 129 gM)
  have hc8:=hR.out _ [_,_,_] h8.out
  clear hc hX2
  dsimp only
  refine hK _ _ (fun _=>iA) ?_
  clear hK K
  try simp only[Act.put,gD]
  refine bI 6 fun K hK=>?_
  go_simp
  unfold gM at hc8
  try dsimp only
  refine hK _ _ (fun _=>hc8) ?_
  clear hK K
  try simp only[Act.put,gD]
  obtain⟨bx,hbx⟩:∃bx,bx=w9.heap.size:=⟨_,rfl⟩
  obtain⟨w8,hw8⟩:∃x,x=w9.alloc (.cells #[iV 0,iV 0,iV 0,iV 0,.slice none 0 0] 129):=⟨_,rfl⟩
  have hB:Hid (Sep w0 w8 (.box bx 129 gM::aF f q p SX a9::aS (.slice A9 xX.aB.length c9) (eB xX.aB)::R)):=by rw[hw8,hbx];exact h8
  rw[<-hw8,<-hbx]
  clear hw8 hbx h8 hc8 iA h9
  have BP:=Lh eX
  clear eX
 rotate_left
 focus
  go_simp
  have h9:=Lh (hX2.out.bN 129 gM)
  have iA:=hR.out _ [_,_] h9.out
  clear hc
  unfold gM at iA
  try dsimp only
  refine hK _ _ (fun _=>iA) ?_
  clear hK K
  try simp only[Act.put,gD]
  obtain⟨bx,hbx⟩:∃bx,bx=wq.heap.size:=⟨_,rfl⟩
  obtain⟨w9,IL⟩:∃x,x=wq.alloc (.cells #[iV 0,iV 0,iV 0,iV 0,.slice none 0 0] 129):=⟨_,rfl⟩
  have h8:Hid (Sep w0 w9 (aF f q p SX aX::([.box bx 129 gM]++R))):=by exact Z67
  rw[<-IL,<-hbx]
  clear IL hbx h9 iA hX2
  refine bI 5 fun K hK=>?_
  go_simp
  go_at_call 72
  refine(hin.out _ _ _ hV.out h8.out).mono ?_
  rintro e w8 ⟨A9,c9,a9,rfl,eX,h7⟩
  have hB:Hid (Sep w0 w8 (.box bx 129 gM::aF f q p SX a9::aS (.slice A9 xX.aB.length c9) (eB xX.aB)::R)):=Lh (Sep.dB [2,0,1] h7 aR bK)
  have iA:=hR.out w8 [_,_,_] hB.out
  clear h8 h7
  dsimp only
  refine hK _ _ (fun _=>iA) ?_
  clear hK K
  try simp only[Act.put,gD]
  clear iA
  have BP:=Lh eX
  clear eX
 all_goals
  obtain⟨z0,z1,z2,z3,z4,y0,y1,y2,y3,y4,hfin⟩:=hB.out.uG 0 rfl xX (.slice A9 xX.aB.length c9)
  replace hfin:=Lh hfin
  clear hB hV
  refine bA 7 (fun h=>absurd rfl h) ?_
  refine aQ fE ?_ _
  clear z0 z1 z2 z3 z4 y0 y1 y2 y3 y4
  obtain⟨w7,hw7⟩:∃w7,w7=(((((w8.setCell ⟨bx,0,none⟩ (.int .i64 (xX.kind:Nat))).setCell ⟨bx,1,none⟩ (.int .i64 (xX.mode:Nat))).setCell ⟨bx,2,none⟩ (.int .i64 (xX.links:Nat))).setCell ⟨bx,3,none⟩ (.int .i64 (xX.size:Nat))).setCell ⟨bx,4,none⟩ (.slice A9 xX.aB.length c9)):=⟨_,rfl⟩
  rw[<-hw7]at hfin ⊢
  clear hw7
  have d2:=(hfin.out.dL 0 rfl).2.2.1
  have f2:=hfin.out.bF 0 rfl 2
  have h6:Hid (Sep w0 (w7.setCell ⟨bx,2,none⟩ (.int .i64 ((xX.links:Int)+1))) (.box bx 129 (aN {xX with links:=xX.links+1} (.slice A9 xX.aB.length c9))::aF f q p SX a9::aS (.slice A9 xX.aB.length c9) (eB xX.aB)::R)):=Lh (hfin.out.bS 0 rfl 2 (.int .i64 ((xX.links:Int)+1)))
  clear hfin
  go_wp2_with fail
  obtain⟨w6,hw6⟩:∃w6,w6=w7.setCell ⟨bx,2,none⟩ (.int .i64 ((xX.links:Int)+1)):=⟨_,rfl⟩
  rw[<-hw6]at h6 ⊢
  clear hw6 d2 f2
  have k1:=hR.out w6.drew [_,_,_] h6.out.drew
  have k2:=h6.out.drew.dL 0 rfl
  have hE:w6.drew.cell? ⟨bf,0,none⟩=some (pV f)/\w6.drew.cell? ⟨bn,0,none⟩=some (iV n)/\w6.drew.cell? ⟨bt,0,none⟩=some (iV tz)/\w6.drew.cell? ⟨bi,2,none⟩=some (.string ⟨bD.toArray⟩)/\w6.drew.cell? ⟨bx,0,none⟩=some (iV (xX.kind:Nat))/\w6.drew.cell? ⟨bx,1,none⟩=some (iV (xX.mode:Nat))/\w6.drew.cell? ⟨bx,2,none⟩=some (iV ((xX.links:Int)+1))/\w6.drew.cell? ⟨bx,3,none⟩=some (iV (xX.size:Nat))/\w6.drew.cell? ⟨bx,4,none⟩=some (.slice A9 xX.aB.length c9):=⟨k1.1,k1.2.1,k1.2.2.1,k1.2.2.2,k2.1,k2.2.1,k2.2.2.1,k2.2.2.2.1,k2.2.2.2.2⟩
  have sS:=hkp.out _ _ _ _ _ BP.out (Sep.dB [1,0,2] h6.out.drew aR bK)
  clear k1 k2 h6
  refine aP (S:=fun w'=>w'.cell? ⟨bf,0,none⟩=some (pV f)/\w'.cell? ⟨bn,0,none⟩=some (iV n)/\w'.cell? ⟨bt,0,none⟩=some (iV tz)/\w'.cell? ⟨bi,2,none⟩=some (.string ⟨bD.toArray⟩)/\w'.cell? ⟨bx,0,none⟩=some (iV (xX.kind:Nat))/\w'.cell? ⟨bx,1,none⟩=some (iV (xX.mode:Nat))/\w'.cell? ⟨bx,2,none⟩=some (iV ((xX.links:Int)+1))/\w'.cell? ⟨bx,3,none⟩=some (iV (xX.size:Nat))/\w'.cell? ⟨bx,4,none⟩=some (.slice A9 xX.aB.length c9)) 7 ?_
  refine aA 0 hE ?_
  refine aA 1 hE ?_
  refine aA 2 hE ?_
  refine aA 3 hE ?_
  refine aA 4 hE ?_
  refine aA 5 hE ?_
  refine bI 6 fun K hK=>?_
  go_simp
  go_at_call 100
  refine sS.mono ?_
  rintro e w5 ⟨rfl,aY,hC5,h5⟩
  have k5:=hR.out w5 [_,_,_] h5
  have k6:=h5.dL 1 rfl
  have hX:Hid (Sep w0 w5 (aF f q p SK aY::R)):=Lh ((Sep.dB [1,2,0] h5 aR bK).drop 2)
  have hV:=Lh hC5
  clear sS hE hC5 h5
  dsimp only
  refine hK _ _ (fun _=>⟨k5.1,k5.2.1,k5.2.2.1,k5.2.2.2,k6.1,k6.2.1,k6.2.2.1,k6.2.2.2.1,k6.2.2.2.2⟩) ?_
  clear hK K
  try simp only[Act.put,gD]
  refine aQ fE ?_ _
  clear k5 k6
  go_wp2_with fail
  have hc:=hR.out w5.drew [_] hX.out.drew
  refine aP (S:=fun w'=>w'.cell? ⟨bf,0,none⟩=some (pV f)/\w'.cell? ⟨bn,0,none⟩=some (iV n)/\w'.cell? ⟨bt,0,none⟩=some (iV tz)/\w'.cell? ⟨bi,2,none⟩=some (.string ⟨bD.toArray⟩)) 9 ?_
  refine aA 0 hc ?_
  refine aA 1 hc ?_
  refine aA 2 hc ?_
  refine aA 3 hc ?_
  refine aA 4 hc ?_
  refine aA 5 hc ?_
  refine aA 7 hc ?_
  refine bI 6 fun K hK=>?_
  go_simp
  go_at_call 121
  refine(NC.out _).mono ?_
  rintro e v9 ⟨rfl,xL⟩
  replace hX:=Lh (hX.out.drew.pure xL)
  have iA:=hR.out v9 [_] hX.out
  clear hc xL
  dsimp only
  refine hK _ _ (fun _=>iA) ?_
  clear hK K
  try simp only[Act.put,gD]
  refine bI 8 fun K hK=>?_
  go_simp
  go_at_call 125
  refine(hen.out _ _ hV.out hX.out).mono ?_
  intro e v8 ho
  cases rX with
  |none=>unfold fQ at ho;obtain⟨rfl,T,aT,hLT,hCT,hT⟩:=ho;unfold fQ;exact⟨rfl,rfl,T,aT,zR.out.trans hLT,hCT,hT⟩
  |some T=>exact Z9
end
end Go.Proofs.YtmjomdkleikgbaaGreat
