/- Parts. -/
import Derived.Test.YtmjomdkleikgbaaGreatK21
set_option linter.unusedVariables false
set_option linter.unusedSimpArgs false
set_option maxRecDepth 100000
set_option maxHeartbeats 20000000
namespace Go.Proofs.YtmjomdkleikgbaaGreat
open Go.RowKit
section
variable {w0 w:World} {R:List aW} {f q p:Nat} {S:VS} {a:VA}
def Q3 (S:VS) (path:List UInt8):Except Int (Option VS):=
 match dW (aU S.cur S.data 0 0 (splitB path))with
 |some k=>.error k
 |none=>
  if(aH S.cur (aU S.cur S.data 0 0 (splitB path)).2.1.toNat).kind≠1 then .error 22
  else if 0<(aH S.cur (aU S.cur S.data 0 0 (splitB path)).2.1.toNat).size then .error 25
  else .ok (some (mV (cO S (aU S.cur S.data 0 0 (splitB path)).1.toNat (aL path)) (aU S.cur S.data 0 0 (splitB path)).2.1.toNat))
structure ZV (S:VS) (dir:Nat) (path:List UInt8) (n:Nat):Prop where
 lv:wK S dir (aL path)
 sm:lW S
 ino:p8 (cO S dir (aL path)) n
 w:gK (cO S dir (aL path))
 chg:nX S (mV (cO S dir (aL path)) n)
theorem am6 {vs:Value} {op mode kk:Int} {path tz:List UInt8} (hC:VC S a) (hV:VW S) (hb:S.D.back=[]) (hv:aV path=true) (hp:path.length<=1048576)
  (hch:∀d m:Nat,m<S.names->aU S.cur S.data 0 0 (splitB path)=((d:Int),(m:Int),0)->(aH S.cur m).kind=1->(aH S.cur m).size=0->ZV S d path m) (h:Sep w0 w (aF f q p S a::R)):
  Calls Tryz.prog 57 #[pV f,.agg #[iV op,aC path,aC tz,iV mode,iV kk],vs] w (mW f q p S (Q3 S path) w0 R):=by
 have hno:Hid (∀W bi bf,Sep w0 W (.box bi 46 #[iV op,aC path,aC tz,iV mode,iV kk]:: .box bf 37 #[pV f]::aF f q p S a::R)->W.cell? ⟨bf,0,none⟩=some (pV f)/\W.cell? ⟨bi,1,none⟩=some (aC path)/\Calls Tryz.prog 107 #[pV f,aC path] W fun e w'=>e=lV (aU S.cur S.data 0 0 (splitB path))/\∃a',VC S a'/\Sep w0 w' (aF f q p S a':: .box bi 46 #[iV op,aC path,aC tz,iV mode,iV kk]:: .box bf 37 #[pV f]::R)):=Lh fun W bi bf hW=>
  ⟨hW.bC 1 rfl 0,hW.bC 0 rfl 1,(nY hC hV hv hp (Sep.dB [2,0,1] hW aR bK)).mono fun e w' ⟨h1,a',h2,h3⟩=>⟨h1,a',h2.ok,h3⟩⟩
 have hcg:Hid (∀d m:Nat,m<S.names->aU S.cur S.data 0 0 (splitB path)=((d:Int),(m:Int),0)->(aH S.cur m).kind=1->(aH S.cur m).size=0->∀W bn bd bi bf a1,VC S a1->Sep w0 W (aF f q p S a1:: .box bn 3 #[iV m]:: .box bd 3 #[iV d]:: .box bi 46 #[iV op,aC path,aC tz,iV mode,iV kk]:: .box bf 37 #[pV f]::R)->Calls Tryz.prog 73 #[pV f,.func (.func 119) #[] #[pV bf,pV bd,pV bi,pV bn]] W (dH f q p S (some (mV (cO S d (aL path)) m)) w0 R)):=Lh fun d m hm hl hk hsz W bn bd bi bf a1 kK h1=>by have ho:=hch d m hm hl hk hsz;(refine(rC (R':=.box bn 3 #[iV m]:: .box bd 3 #[iV d]:: .box bi 46 #[iV op,aC path,aC tz,iV mode,iV kk]:: .box bf 37 #[pV f]::R) UW kK hb (fun S1 e=>by cases e;exact ho.chg) (fun W2 X hX=>?_) h1).mono fun e w' ho=>iZ (Y:=[_,_,_,_]) ho);exact ag3 (fun W3 Y hY=>by(have hY2:Sep w0 W3 ((Y++X)++(.box bn 3 #[iV m]:: .box bd 3 #[iV d]:: .box bi 46 #[iV op,aC path,aC tz,iV mode,iV kk]:: .box bf 37 #[pV f]::R)):=by rw[pG];exact hY);exact⟨hY2.dS 3 rfl 0,hY2.dS 1 rfl 0,hY2.dS 2 rfl 1,hY2.dS 0 rfl 0⟩) kK hV.vf hv hp ho.lv ho.sm ho.ino ho.w hX
 have hln:=qA hV (path:=path);have hX0:Hid (Sep w0 ((w.alloc (.cells #[pV f] 37)).alloc (.cells #[iV op,aC path,aC tz,iV mode,iV kk] 46)) (.box (w.heap.size+1) 46 #[iV op,aC path,aC tz,iV mode,iV kk]:: .box w.heap.size 37 #[pV f]::aF f q p S a::R)):=Lh (by exact Z80);obtain⟨d0,d1,bZ⟩:=hno.out _ _ _ hX0.out;have hV':=Lh hV;obtain⟨r,hr⟩:∃r,r=aU S.cur S.data 0 0 (splitB path):=⟨_,rfl⟩;unfold Q3;rw[<-hr]at bZ hcg hln ⊢;clear hC hV hb hv hp hch h hno hr hX0;rw[rW]at bZ;cases hn:dW r with
 |some k=>rw[hn]at bZ;clear hcg hln hn;unfold aC at*;simp only at bZ;go_enter Tryz.func57,Tryz.ntmps57;exact Z24
 |none=>
  rw[hn]at bZ;obtain⟨hr0,hr1⟩:=rY hn;obtain⟨d,m,hdl,FY,hre⟩:=hln hr0 hr1;have sN:=hcg.out d m FY hre;rw[hre]at bZ ⊢;simp only[nA]at bZ ⊢;obtain⟨SX,wM⟩:∃SX,SX=S:=⟨_,rfl⟩;obtain⟨xX,QK⟩:∃xX,xX=aH SX.cur m:=⟨_,rfl⟩;obtain⟨rX,wN⟩:∃rX,rX=some (mV (cO S d (aL path)) m):=⟨_,rfl⟩;(have am7:Hid (∀RB W Y a1,VC SX a1->Sep w0 W (aF f q p SX a1::(Y++RB))->Calls Tryz.prog 72 #[pV f,iV m] W fun e w'=>∃A c a2,e= .returned (.agg #[iV (xX.kind:Nat),iV (xX.mode:Nat),iV (xX.links:Nat),iV (xX.size:Nat),.slice A xX.aB.length c])/\VC SX a2/\Sep w0 w' (aF f q p SX a2::aS (.slice A xX.aB.length c) (eB xX.aB)::(Y++RB))):=Lh fun RB W Y a1 h1 h2=>by rw[QK];rw[wM]at h1 h2 ⊢;exact IK h1 hV'.out.vf ⟨FY,hV'.out.few m FY,hV'.out.lt m FY⟩ h2);rw[<-wN]at sN ⊢;rw[<-wM,<-QK]at sN ⊢;rw[<-wM]at bZ;replace sN:=Lh sN;clear hcg hln hn hr0 hr1 hdl FY hre wN hV' wM QK;(have hRB:Hid (∀W (bn bd bi bf:Nat) Y,Sep w0 W (Y++(.box bn 3 #[iV m]:: .box bd 3 #[iV d]:: .box bi 46 #[iV op,aC path,aC tz,iV mode,iV kk]:: .box bf 37 #[pV f]::R))->W.cell? ⟨bf,0,none⟩=some (pV f)/\W.cell? ⟨bn,0,none⟩=some (iV m)):=Lh fun W bn bd bi bf Y hW=>⟨hW.dS 3 rfl 0,hW.dS 0 rfl 0⟩);(have am8:Hid (∀(bn bd bi bf:Nat) RB,RB=(.box bn 3 #[iV m]:: .box bd 3 #[iV d]:: .box bi 46 #[iV op,aC path,aC tz,iV mode,iV kk]:: .box bf 37 #[pV f]::R)->(xX.kind=1->xX.size=0->∀W a1,VC SX a1->Sep w0 W (aF f q p SX a1::RB)->Calls Tryz.prog 73 #[pV f,.func (.func 119) #[] #[pV bf,pV bd,pV bi,pV bn]] W (dH f q p SX rX w0 R))/\∀W a1,Sep w0 W (aF f q p SX a1::RB)->Sep w0 W (aF f q p SX a1::R)):=Lh fun bn bd bi bf RB hRB=>by subst hRB;exact⟨fun h1 h2 W a1 h3 h4=>sN.out h1 h2 W bn bd bi bf a1 h3 h4,fun W a1 h4=>(Sep.dB [1,2,3,4,0] h4 aR bK).drop 4⟩);clear sN;by_cases hk:xX.kind=1
  ·rw[if_neg (by simp[hk])];have kk1:Hid (((xX.kind:Nat):Int)=1):=Lh aD;by_cases hs0:0<xX.size
   ·rw[if_pos hs0];have q1:Hid ((0:Int)<xX.size):=Lh aD;replace hk:=Lh hk;clear hs0;unfold aC at*;go_enter Tryz.func57,Tryz.ntmps57;go_wp2_with(go_at_call 107;refine bZ.mono ?_;rintro e w6 ⟨rfl,aX,eX,h9⟩;have h8:=(h9.bN 3 #[iV d]).bN 3 #[iV m];rw[tT]at h8;have hX1:=Lh h8;have hV:=Lh eX;have hc:=hRB.out _ _ _ _ _ [_] (Sep.dB [2,0,1] h8 aR bK);clear h8 eX h9 bZ d0 d1);obtain⟨wB,hwB⟩:∃x,x=(w6.alloc (.cells #[iV d] 3)).alloc (.cells #[iV m] 3):=⟨_,rfl⟩;obtain⟨bd,hbd⟩:∃x,x=w6.heap.size:=⟨_,rfl⟩;obtain⟨bn,hbn⟩:∃x,x=bd+1:=⟨_,rfl⟩;obtain⟨bf,hbf⟩:∃x,x=w.heap.size:=⟨_,rfl⟩;obtain⟨bi,hbi⟩:∃x,x=bf+1:=⟨_,rfl⟩;clear hc;rw[<-hwB,<-hbd,<-hbf]at hX1 ⊢;rw[<-hbn,<-hbi]at hX1 ⊢;clear hwB hbd hbn hbf hbi;obtain⟨RB,IV⟩:∃RB,RB=(.box bn 3 #[iV m]:: .box bd 3 #[iV d]:: .box bi 46 #[iV op,aC path,aC tz,iV mode,iV kk]:: .box bf 37 #[pV f]::R):=⟨_,rfl⟩;(have hR:Hid (∀W Y,Sep w0 W (Y++RB)->W.cell? ⟨bf,0,none⟩=some (pV f)/\W.cell? ⟨bn,0,none⟩=some (iV m)):=by rw[IV];exact Lh fun W Y hW=>hRB.out W bn bd bi bf Y hW);have hcB:=Lh (am8.out bn bd bi bf RB IV);have hin:Hid (∀W Y a1,VC SX a1->Sep w0 W (aF f q p SX a1::(Y++RB))->Calls Tryz.prog 72 #[pV f,iV m] W fun e w'=>∃A c a2,e= .returned (.agg #[iV (xX.kind:Nat),iV (xX.mode:Nat),iV (xX.links:Nat),iV (xX.size:Nat),.slice A xX.aB.length c])/\VC SX a2/\Sep w0 w' (aF f q p SX a2::aS (.slice A xX.aB.length c) (eB xX.aB)::(Y++RB))):=Lh (am7.out RB);(have hX:Hid (Sep w0 wB (aF f q p SX aX::RB)):=by rw[IV];exact Lh (Sep.dB [2,0,1] hX1.out aR bK));clear hX1 IV hRB am8 am7;refine eU (S:=fun w'=>w'.cell? ⟨bf,0,none⟩=some (pV f)/\w'.cell? ⟨bn,0,none⟩=some (iV m)) 7 fE ?_;intro wq hwq;(have hX2:Hid (Sep w0 wq (aF f q p SX aX::RB)):=by rw[hwq];exact Lh hX.out.drew);clear hwq hX;have hc:=hR.out wq [_] hX2.out;simp only[uB,kH,qQ,Nat.reduceAdd];refine aA 0 hc ?_;refine aA 1 hc ?_;refine aA 2 hc ?_;refine aA 3 hc ?_;refine aA 4 hc ?_;refine iX (i:=5) (j:=6) fE rfl rfl (fun K hK=>?_) (fun K hK=>?_)
    focus
     go_simp
     go_at_call 72
     refine(hin.out _ [] _ hV.out hX2.out).mono ?_
     rintro e w9 ⟨A9,c9,a9,rfl,eX,h9⟩
     have iA:=hR.out w9 [_,_] h9
     have h8:=Lh (h9.bN 129 gM)
     have hc8:=hR.out _ [_,_,_] h8.out
     clear hc hX2
     dsimp only
     refine hK _ _ (fun _=>iA) ?_
     clear hK K
     try simp only[Act.put,gD]
     refine bI 6 fun K hK=>?_
     go_simp
     unfold gM at hc8
     try dsimp only
     refine hK _ _ (fun _=>hc8) ?_
     clear hK K
     try simp only[Act.put,gD]
     obtain⟨bx,hbx⟩:∃bx,bx=w9.heap.size:=⟨_,rfl⟩
     obtain⟨w8,hw8⟩:∃x,x=w9.alloc (.cells #[iV 0,iV 0,iV 0,iV 0,.slice none 0 0] 129):=⟨_,rfl⟩
     have hB:Hid (Sep w0 w8 (.box bx 129 gM::aF f q p SX a9::aS (.slice A9 xX.aB.length c9) (eB xX.aB)::RB)):=by rw[hw8,hbx];exact h8
     rw[<-hw8,<-hbx]
     clear hw8 hbx h8 hc8 iA h9
     have BP:=Lh eX
     clear eX
    rotate_left
    focus
     go_simp
     have h9:=Lh (hX2.out.bN 129 gM)
     have iA:=hR.out _ [_,_] h9.out
     clear hc
     unfold gM at iA
     try dsimp only
     refine hK _ _ (fun _=>iA) ?_
     clear hK K
     try simp only[Act.put,gD]
     obtain⟨bx,hbx⟩:∃bx,bx=wq.heap.size:=⟨_,rfl⟩
     obtain⟨w9,IL⟩:∃x,x=wq.alloc (.cells #[iV 0,iV 0,iV 0,iV 0,.slice none 0 0] 129):=⟨_,rfl⟩
     have h8:Hid (Sep w0 w9 (aF f q p SX aX::([.box bx 129 gM]++RB))):=by exact Z67
     rw[<-IL,<-hbx]
     clear IL hbx h9 iA hX2
     refine bI 5 fun K hK=>?_
     go_simp
     go_at_call 72
     refine(hin.out _ _ _ hV.out h8.out).mono ?_
     rintro e w8 ⟨A9,c9,a9,rfl,eX,h7⟩
     have hB:Hid (Sep w0 w8 (.box bx 129 gM::aF f q p SX a9::aS (.slice A9 xX.aB.length c9) (eB xX.aB)::RB)):=Lh (Sep.dB [2,0,1] h7 aR bK)
     have iA:=hR.out w8 [_,_,_] hB.out
     clear h8 h7
     dsimp only
     refine hK _ _ (fun _=>iA) ?_
     clear hK K
     try simp only[Act.put,gD]
     clear iA
     have BP:=Lh eX
     clear eX
    all_goals
     obtain⟨z0,z1,z2,z3,z4,y0,y1,y2,y3,y4,hfin⟩:=hB.out.uG 0 rfl xX (.slice A9 xX.aB.length c9)
     replace hfin:=Lh hfin
     clear hB hV
     refine bA 7 (fun h=>absurd rfl h) ?_
     refine aQ fE ?_ _
     clear z0 z1 z2 z3 z4 y0 y1 y2 y3 y4
     obtain⟨w7,hw7⟩:∃w7,w7=(((((w8.setCell ⟨bx,0,none⟩ (.int .i64 (xX.kind:Nat))).setCell ⟨bx,1,none⟩ (.int .i64 (xX.mode:Nat))).setCell ⟨bx,2,none⟩ (.int .i64 (xX.links:Nat))).setCell ⟨bx,3,none⟩ (.int .i64 (xX.size:Nat))).setCell ⟨bx,4,none⟩ (.slice A9 xX.aB.length c9)):=⟨_,rfl⟩
     rw[<-hw7]at hfin ⊢
     clear hw7
     have d0:=(hfin.out.dL 0 rfl).1
     have d3:=(hfin.out.dL 0 rfl).2.2.2.1
     have dF:=(hR.out w7 [_,_,_] hfin.out).1
     have hfe:Hid (Sep w0 w7 (aF f q p SX a9::RB)):=Lh ((Sep.dB [0,2,1] hfin.out aR bK).drop 2)
     clear hfin
     rw[kk1.out]at d0
     have q1':=q1.out
     go_wp2_with(go_at_call 54;refine(eQ _ _).mono ?_;rintro e w5 ⟨rfl,h5⟩;obtain rfl:=h5.symm)
     unfold mW
     exact⟨rfl,rfl,_,BP.out,hcB.out.2 _ _ hfe.out⟩
   rw[if_neg hs0];have q1:Hid (((xX.size:Nat):Int)=0):=Lh aD;have hs:Hid (xX.size=0):=Lh aD;replace hk:=Lh hk;clear hs0;unfold aC at*;unfold mW;go_enter Tryz.func57,Tryz.ntmps57;go_wp2_with(go_at_call 107;refine bZ.mono ?_;rintro e w6 ⟨rfl,aX,eX,h9⟩;have h8:=(h9.bN 3 #[iV d]).bN 3 #[iV m];rw[tT]at h8;have hX1:=Lh h8;have hV:=Lh eX;have hc:=hRB.out _ _ _ _ _ [_] (Sep.dB [2,0,1] h8 aR bK);clear h8 eX h9 bZ d0 d1);obtain⟨wB,hwB⟩:∃x,x=(w6.alloc (.cells #[iV d] 3)).alloc (.cells #[iV m] 3):=⟨_,rfl⟩;obtain⟨bd,hbd⟩:∃x,x=w6.heap.size:=⟨_,rfl⟩;obtain⟨bn,hbn⟩:∃x,x=bd+1:=⟨_,rfl⟩;obtain⟨bf,hbf⟩:∃x,x=w.heap.size:=⟨_,rfl⟩;obtain⟨bi,hbi⟩:∃x,x=bf+1:=⟨_,rfl⟩;clear hc;rw[<-hwB,<-hbd,<-hbf]at hX1 ⊢;rw[<-hbn,<-hbi]at hX1 ⊢;clear hwB hbd hbn hbf hbi;obtain⟨RB,IV⟩:∃RB,RB=(.box bn 3 #[iV m]:: .box bd 3 #[iV d]:: .box bi 46 #[iV op,aC path,aC tz,iV mode,iV kk]:: .box bf 37 #[pV f]::R):=⟨_,rfl⟩;(have hR:Hid (∀W Y,Sep w0 W (Y++RB)->W.cell? ⟨bf,0,none⟩=some (pV f)/\W.cell? ⟨bn,0,none⟩=some (iV m)):=by rw[IV];exact Lh fun W Y hW=>hRB.out W bn bd bi bf Y hW);have hcB:=Lh (am8.out bn bd bi bf RB IV);have hin:Hid (∀W Y a1,VC SX a1->Sep w0 W (aF f q p SX a1::(Y++RB))->Calls Tryz.prog 72 #[pV f,iV m] W fun e w'=>∃A c a2,e= .returned (.agg #[iV (xX.kind:Nat),iV (xX.mode:Nat),iV (xX.links:Nat),iV (xX.size:Nat),.slice A xX.aB.length c])/\VC SX a2/\Sep w0 w' (aF f q p SX a2::aS (.slice A xX.aB.length c) (eB xX.aB)::(Y++RB))):=Lh (am7.out RB);(have hX:Hid (Sep w0 wB (aF f q p SX aX::RB)):=by rw[IV];exact Lh (Sep.dB [2,0,1] hX1.out aR bK));clear hX1 IV hRB am8 am7;refine eU (S:=fun w'=>w'.cell? ⟨bf,0,none⟩=some (pV f)/\w'.cell? ⟨bn,0,none⟩=some (iV m)) 7 fE ?_;intro wq hwq;(have hX2:Hid (Sep w0 wq (aF f q p SX aX::RB)):=by rw[hwq];exact Lh hX.out.drew);clear hwq hX;have hc:=hR.out wq [_] hX2.out;simp only[uB,kH,qQ,Nat.reduceAdd];refine aA 0 hc ?_;refine aA 1 hc ?_;refine aA 2 hc ?_;refine aA 3 hc ?_;refine aA 4 hc ?_;refine iX (i:=5) (j:=6) fE rfl rfl (fun K hK=>?_) (fun K hK=>?_)
   focus
    go_simp
    go_at_call 72
    refine(hin.out _ [] _ hV.out hX2.out).mono ?_
    rintro e w9 ⟨A9,c9,a9,rfl,eX,h9⟩
    have iA:=hR.out w9 [_,_] h9
    have h8:=Lh (h9.bN 129 gM)
    have hc8:=hR.out _ [_,_,_] h8.out
    clear hc hX2
    dsimp only
    refine hK _ _ (fun _=>iA) ?_
    clear hK K
    try simp only[Act.put,gD]
    refine bI 6 fun K hK=>?_
    go_simp
    unfold gM at hc8
    try dsimp only
    refine hK _ _ (fun _=>hc8) ?_
    clear hK K
    try simp only[Act.put,gD]
    obtain⟨bx,hbx⟩:∃bx,bx=w9.heap.size:=⟨_,rfl⟩
    obtain⟨w8,hw8⟩:∃x,x=w9.alloc (.cells #[iV 0,iV 0,iV 0,iV 0,.slice none 0 0] 129):=⟨_,rfl⟩
    have hB:Hid (Sep w0 w8 (.box bx 129 gM::aF f q p SX a9::aS (.slice A9 xX.aB.length c9) (eB xX.aB)::RB)):=by rw[hw8,hbx];exact h8
    rw[<-hw8,<-hbx]
    clear hw8 hbx h8 hc8 iA h9
    have BP:=Lh eX
    clear eX
   rotate_left
   focus
    go_simp
    have h9:=Lh (hX2.out.bN 129 gM)
    have iA:=hR.out _ [_,_] h9.out
    clear hc
    unfold gM at iA
    try dsimp only
    refine hK _ _ (fun _=>iA) ?_
    clear hK K
    try simp only[Act.put,gD]
    obtain⟨bx,hbx⟩:∃bx,bx=wq.heap.size:=⟨_,rfl⟩
    obtain⟨w9,IL⟩:∃x,x=wq.alloc (.cells #[iV 0,iV 0,iV 0,iV 0,.slice none 0 0] 129):=⟨_,rfl⟩
    have h8:Hid (Sep w0 w9 (aF f q p SX aX::([.box bx 129 gM]++RB))):=by exact Z67
    rw[<-IL,<-hbx]
    clear IL hbx h9 iA hX2
    refine bI 5 fun K hK=>?_
    go_simp
    go_at_call 72
    refine(hin.out _ _ _ hV.out h8.out).mono ?_
    rintro e w8 ⟨A9,c9,a9,rfl,eX,h7⟩
    have hB:Hid (Sep w0 w8 (.box bx 129 gM::aF f q p SX a9::aS (.slice A9 xX.aB.length c9) (eB xX.aB)::RB)):=Lh (Sep.dB [2,0,1] h7 aR bK)
    have iA:=hR.out w8 [_,_,_] hB.out
    clear h8 h7
    dsimp only
    refine hK _ _ (fun _=>iA) ?_
    clear hK K
    try simp only[Act.put,gD]
    clear iA
    have BP:=Lh eX
    clear eX
   all_goals
    obtain⟨z0,z1,z2,z3,z4,y0,y1,y2,y3,y4,hfin⟩:=hB.out.uG 0 rfl xX (.slice A9 xX.aB.length c9)
    replace hfin:=Lh hfin
    clear hB hV
    refine bA 7 (fun h=>absurd rfl h) ?_
    refine aQ fE ?_ _
    clear z0 z1 z2 z3 z4 y0 y1 y2 y3 y4
    obtain⟨w7,hw7⟩:∃w7,w7=(((((w8.setCell ⟨bx,0,none⟩ (.int .i64 (xX.kind:Nat))).setCell ⟨bx,1,none⟩ (.int .i64 (xX.mode:Nat))).setCell ⟨bx,2,none⟩ (.int .i64 (xX.links:Nat))).setCell ⟨bx,3,none⟩ (.int .i64 (xX.size:Nat))).setCell ⟨bx,4,none⟩ (.slice A9 xX.aB.length c9)):=⟨_,rfl⟩
    rw[<-hw7]at hfin ⊢
    clear hw7
    have d0:=(hfin.out.dL 0 rfl).1
    have d3:=(hfin.out.dL 0 rfl).2.2.2.1
    have dF:=(hR.out w7 [_,_,_] hfin.out).1
    have hfe:Hid (Sep w0 w7 (aF f q p SX a9::RB)):=Lh ((Sep.dB [0,2,1] hfin.out aR bK).drop 2)
    clear hfin
    rw[kk1.out]at d0
    rw[q1.out]at d3
    have hch:=hcB.out.1 hk.out hs.out _ _ BP.out hfe.out
    go_wp2_with(go_at_call 73;refine hch.mono ?_;intro e w5 ho;rcases iY ho with rfl|⟨k,rfl⟩)
    ·go_end0
     exact ho
    ·exact⟨rfl,ho⟩
  rw[if_pos hk];have kk1:Hid (¬((xX.kind:Nat):Int)=1):=Lh aD;replace hk:=Lh hk;unfold aC at*;go_enter Tryz.func57,Tryz.ntmps57;go_wp2_with(go_at_call 107;refine bZ.mono ?_;rintro e w6 ⟨rfl,aX,eX,h9⟩;have h8:=(h9.bN 3 #[iV d]).bN 3 #[iV m];rw[tT]at h8;have hX1:=Lh h8;have hV:=Lh eX;have hc:=hRB.out _ _ _ _ _ [_] (Sep.dB [2,0,1] h8 aR bK);clear h8 eX h9 bZ d0 d1);obtain⟨wB,hwB⟩:∃x,x=(w6.alloc (.cells #[iV d] 3)).alloc (.cells #[iV m] 3):=⟨_,rfl⟩;obtain⟨bd,hbd⟩:∃x,x=w6.heap.size:=⟨_,rfl⟩;obtain⟨bn,hbn⟩:∃x,x=bd+1:=⟨_,rfl⟩;obtain⟨bf,hbf⟩:∃x,x=w.heap.size:=⟨_,rfl⟩;obtain⟨bi,hbi⟩:∃x,x=bf+1:=⟨_,rfl⟩;clear hc;rw[<-hwB,<-hbd,<-hbf]at hX1 ⊢;rw[<-hbn,<-hbi]at hX1 ⊢;clear hwB hbd hbn hbf hbi;obtain⟨RB,IV⟩:∃RB,RB=(.box bn 3 #[iV m]:: .box bd 3 #[iV d]:: .box bi 46 #[iV op,aC path,aC tz,iV mode,iV kk]:: .box bf 37 #[pV f]::R):=⟨_,rfl⟩;(have hR:Hid (∀W Y,Sep w0 W (Y++RB)->W.cell? ⟨bf,0,none⟩=some (pV f)/\W.cell? ⟨bn,0,none⟩=some (iV m)):=by rw[IV];exact Lh fun W Y hW=>hRB.out W bn bd bi bf Y hW);have hcB:=Lh (am8.out bn bd bi bf RB IV);have hin:Hid (∀W Y a1,VC SX a1->Sep w0 W (aF f q p SX a1::(Y++RB))->Calls Tryz.prog 72 #[pV f,iV m] W fun e w'=>∃A c a2,e= .returned (.agg #[iV (xX.kind:Nat),iV (xX.mode:Nat),iV (xX.links:Nat),iV (xX.size:Nat),.slice A xX.aB.length c])/\VC SX a2/\Sep w0 w' (aF f q p SX a2::aS (.slice A xX.aB.length c) (eB xX.aB)::(Y++RB))):=Lh (am7.out RB);(have hX:Hid (Sep w0 wB (aF f q p SX aX::RB)):=by rw[IV];exact Lh (Sep.dB [2,0,1] hX1.out aR bK));clear hX1 IV hRB am8 am7;refine eU (S:=fun w'=>w'.cell? ⟨bf,0,none⟩=some (pV f)/\w'.cell? ⟨bn,0,none⟩=some (iV m)) 7 fE ?_;intro wq hwq;(have hX2:Hid (Sep w0 wq (aF f q p SX aX::RB)):=by rw[hwq];exact Lh hX.out.drew);clear hwq hX;have hc:=hR.out wq [_] hX2.out;simp only[uB,kH,qQ,Nat.reduceAdd];refine aA 0 hc ?_;refine aA 1 hc ?_;refine aA 2 hc ?_;refine aA 3 hc ?_;refine aA 4 hc ?_;refine iX (i:=5) (j:=6) fE rfl rfl (fun K hK=>?_) (fun K hK=>?_)
  focus
   go_simp
   go_at_call 72
   refine(hin.out _ [] _ hV.out hX2.out).mono ?_
   rintro e w9 ⟨A9,c9,a9,rfl,eX,h9⟩
   have iA:=hR.out w9 [_,_] h9
   have h8:=Lh (h9.bN 129 gM)
   have hc8:=hR.out _ [_,_,_] h8.out
   clear hc hX2
   dsimp only
   refine hK _ _ (fun _=>iA) ?_
   clear hK K
   try simp only[Act.put,gD]
   refine bI 6 fun K hK=>?_
   go_simp
   unfold gM at hc8
   try dsimp only
   refine hK _ _ (fun _=>hc8) ?_
   clear hK K
   try simp only[Act.put,gD]
   obtain⟨bx,hbx⟩:∃bx,bx=w9.heap.size:=⟨_,rfl⟩
   obtain⟨w8,hw8⟩:∃x,x=w9.alloc (.cells #[iV 0,iV 0,iV 0,iV 0,.slice none 0 0] 129):=⟨_,rfl⟩
   have hB:Hid (Sep w0 w8 (.box bx 129 gM::aF f q p SX a9::aS (.slice A9 xX.aB.length c9) (eB xX.aB)::RB)):=by rw[hw8,hbx];exact h8
   rw[<-hw8,<-hbx]
   clear hw8 hbx h8 hc8 iA h9
   have BP:=Lh eX
   clear eX
  rotate_left
  focus
   go_simp
   have h9:=Lh (hX2.out.bN 129 gM)
   have iA:=hR.out _ [_,_] h9.out
   clear hc
   unfold gM at iA
   try dsimp only
   refine hK _ _ (fun _=>iA) ?_
   clear hK K
   try simp only[Act.put,gD]
   obtain⟨bx,hbx⟩:∃bx,bx=wq.heap.size:=⟨_,rfl⟩
   obtain⟨w9,IL⟩:∃x,x=wq.alloc (.cells #[iV 0,iV 0,iV 0,iV 0,.slice none 0 0] 129):=⟨_,rfl⟩
   have h8:Hid (Sep w0 w9 (aF f q p SX aX::([.box bx 129 gM]++RB))):=by exact Z67
   rw[<-IL,<-hbx]
   clear IL hbx h9 iA hX2
   refine bI 5 fun K hK=>?_
   go_simp
   go_at_call 72
   refine(hin.out _ _ _ hV.out h8.out).mono ?_
   rintro e w8 ⟨A9,c9,a9,rfl,eX,h7⟩
   have hB:Hid (Sep w0 w8 (.box bx 129 gM::aF f q p SX a9::aS (.slice A9 xX.aB.length c9) (eB xX.aB)::RB)):=Lh (Sep.dB [2,0,1] h7 aR bK)
   have iA:=hR.out w8 [_,_,_] hB.out
   clear h8 h7
   dsimp only
   refine hK _ _ (fun _=>iA) ?_
   clear hK K
   try simp only[Act.put,gD]
   clear iA
   have BP:=Lh eX
   clear eX
  all_goals
   obtain⟨z0,z1,z2,z3,z4,y0,y1,y2,y3,y4,hfin⟩:=hB.out.uG 0 rfl xX (.slice A9 xX.aB.length c9)
   replace hfin:=Lh hfin
   clear hB hV
   refine bA 7 (fun h=>absurd rfl h) ?_
   refine aQ fE ?_ _
   clear z0 z1 z2 z3 z4 y0 y1 y2 y3 y4
   obtain⟨w7,hw7⟩:∃w7,w7=(((((w8.setCell ⟨bx,0,none⟩ (.int .i64 (xX.kind:Nat))).setCell ⟨bx,1,none⟩ (.int .i64 (xX.mode:Nat))).setCell ⟨bx,2,none⟩ (.int .i64 (xX.links:Nat))).setCell ⟨bx,3,none⟩ (.int .i64 (xX.size:Nat))).setCell ⟨bx,4,none⟩ (.slice A9 xX.aB.length c9)):=⟨_,rfl⟩
   rw[<-hw7]at hfin ⊢
   clear hw7
   have d0:=(hfin.out.dL 0 rfl).1
   have d3:=(hfin.out.dL 0 rfl).2.2.2.1
   have dF:=(hR.out w7 [_,_,_] hfin.out).1
   have hfe:Hid (Sep w0 w7 (aF f q p SX a9::RB)):=Lh ((Sep.dB [0,2,1] hfin.out aR bK).drop 2)
   clear hfin
   have q1':=kk1.out
   go_wp2_with(go_at_call 54;refine(eQ _ _).mono ?_;rintro e w5 ⟨rfl,h5⟩;obtain rfl:=h5.symm)
   unfold mW
   exact⟨rfl,rfl,_,BP.out,hcB.out.2 _ _ hfe.out⟩
end
def bT (op:Int):Bool×Bool×Bool:=
 if(op==3||op==4)=true then(true,false,true)else if(op==7)=true then(true,true,true)else if(op==1||op==6||op==8)=true then(false,true,true)
 else if(op==2||op==5||op==9)=true then(false,false,true)else(false,false,false)
theorem Z8 {P:Prop} (h:P:=by
 rw[hf];clear hf;go_enter Tryz.func117,Tryz.ntmps117;go_wp2_with fail
 go_ret3
 exact⟨rfl,rfl⟩):P:=h
theorem ahH (op:Int) (w:World):
  Calls Tryz.prog 117 #[iV op] w fun e w'=>e= .returned (.tuple #[.bool (bT op).1,.bool (bT op).2.1,.bool (bT op).2.2])/\w'=w:=by
 cases h3:(op==3)with
 |true=>(have hf:bT op=(true,false,true):=by simp[bT,h3]);exact Z8
 |false=>
  cases h4:(op==4)with
  |true=>(have hf:bT op=(true,false,true):=by simp[bT,h3,h4]);exact Z8
  |false=>
   cases h7:(op==7)with
   |true=>(have hf:bT op=(true,true,true):=by simp[bT,h3,h4,h7]);exact Z8
   |false=>
    cases h1:(op==1)with
    |true=>(have hf:bT op=(false,true,true):=by simp[bT,h3,h4,h7,h1]);exact Z8
    |false=>
     cases h6:(op==6)with
     |true=>(have hf:bT op=(false,true,true):=by simp[bT,h3,h4,h7,h1,h6]);exact Z8
     |false=>
      cases h8:(op==8)with
      |true=>(have hf:bT op=(false,true,true):=by simp[bT,h3,h4,h7,h1,h6,h8]);exact Z8
      |false=>
       cases h2:(op==2)with
       |true=>(have hf:bT op=(false,false,true):=by simp[bT,h3,h4,h7,h1,h6,h8,h2]);exact Z8
       |false=>
        cases h5:(op==5)with
        |true=>(have hf:bT op=(false,false,true):=by simp[bT,h3,h4,h7,h1,h6,h8,h2,h5]);exact Z8
        |false=>
         cases h9:(op==9)with
         |true=>(have hf:bT op=(false,false,true):=by simp[bT,h3,h4,h7,h1,h6,h8,h2,h5,h9]);exact Z8
         |false=>(have hf:bT op=(false,false,false):=by simp[bT,h3,h4,h7,h1,h6,h8,h2,h5,h9]);exact Z8
def wY (t m ok:Bool) (op:Int) (path tz:List UInt8) (mode kk:Int) (n:Nat) (len:Nat):Int:=
 if ok=false then 34 else if(op==9)=true then 0
 else if m=true/\(mode<0\/511<mode)then 28
 else if(path==[])=true\/(t=true/\(tz==[])=true)then 26
 else if aV path=false\/(t=true/\aV tz=false)then 20
 else if(op==6)=false then 0
 else if kk<0\/(n:Int)<=kk then 32
 else if 8192<len then 2 else 0
theorem Z0 {P:Prop} (h:P:=by subst hval;clear hres;have hS:=hS';obtain⟨e0,e1,e2,e3,e4⟩:=hcs.out _ hS'.out;clear hb hst';go_enter Tryz.func55,Tryz.ntmps55;go_wp2_with(first |(go_at_call 117;refine(hfl.out _).mono ?_;rintro e w1 ⟨rfl,h1⟩;obtain rfl:=h1.symm)|(go_at_call 104;refine(hv1.out _).mono ?_;rintro e w2 ⟨rfl,hb2⟩;replace hS:=Lh (hS.out.pure hb2);clear e0 e1 e2 e3 e4 hb2 hv1;obtain⟨e0,e1,e2,e3,e4⟩:=hcs.out _ hS.out;)|(go_at_call 104;refine(hv2.out _).mono ?_;rintro e w2 ⟨rfl,hb2⟩;replace hS:=Lh (hS.out.pure hb2);clear e0 e1 e2 e3 e4 hb2 hv2;obtain⟨e0,e1,e2,e3,e4⟩:=hcs.out _ hS.out;));go_ret;exact⟨rfl,hS.out.below⟩):P:=h
theorem Z57 {P:Prop} (h:P:=by subst hval;clear hres;have hS:=hS';obtain⟨e0,e1,e2,e3,e4⟩:=hcs.out _ hS'.out;have s0:=hcell.out _ hS'.out.below;clear hb hst';go_enter Tryz.func55,Tryz.ntmps55;go_wp2_with(first |(go_at_call 117;refine(hfl.out _).mono ?_;rintro e w1 ⟨rfl,h1⟩;obtain rfl:=h1.symm)|(go_at_call 104;refine(hv1.out _).mono ?_;rintro e w2 ⟨rfl,hb2⟩;replace hS:=Lh (hS.out.pure hb2);clear e0 e1 e2 e3 e4 hb2 hv1;clear s0;obtain⟨e0,e1,e2,e3,e4⟩:=hcs.out _ hS.out;have s0:=hcell.out _ hS.out.below;)|(go_at_call 104;refine(hv2.out _).mono ?_;rintro e w2 ⟨rfl,hb2⟩;replace hS:=Lh (hS.out.pure hb2);clear e0 e1 e2 e3 e4 hb2 hv2;clear s0;obtain⟨e0,e1,e2,e3,e4⟩:=hcs.out _ hS.out;have s0:=hcell.out _ hS.out.below;));go_ret;exact⟨rfl,hS.out.below⟩):P:=h
theorem Z86 {P:Prop} (h:P:=by have:=uD ⟨path.toArray⟩ W (by show path.toArray.size<=_;simp;omega);simpa[aC]using this):P:=h
theorem am9 (op:Int) {path tz:List UInt8} (mode kk:Int) {A:Option Addr} {n c:Nat} {len:Nat} (hp:path.length<=9223372036854775807) (ht:tz.length<=9223372036854775807) (w:World)
  (hst:∀k:Nat,kk=k->k<n->∃sa B cc,A=some sa/\∀W,Below w.heap.size w W->W.cell? (sa.add k)=some (.slice B len cc)) (hn:n<=9223372036854775807) (hlen:len<=9223372036854775807):
  Calls Tryz.prog 55 #[.agg #[iV op,aC path,aC tz,iV mode,iV kk],.slice A n c] w fun e w'=>e= .returned (iV (wY (bT op).1 (bT op).2.1 (bT op).2.2 op path tz mode kk n len))/\Below w.heap.size w w':=by
 obtain⟨ins,hins⟩:∃x,x=#[iV op,aC path,aC tz,iV mode,iV kk]:=⟨_,rfl⟩;have hfl:=Lh (ahH op);have hv1:Hid (∀W,Calls Tryz.prog 104 #[aC path] W fun e w'=>e= .returned (.bool (aV path))/\Below W.heap.size W w'):=Lh fun W=>by exact Z86
 have hv2:Hid (∀W,Calls Tryz.prog 104 #[aC tz] W fun e w'=>e= .returned (.bool (aV tz))/\Below W.heap.size W w'):=Lh fun W=>by have:=uD ⟨tz.toArray⟩ W (by show tz.toArray.size<=_;simp;omega);simpa[aC]using this
 have hS':=Lh ((Sep.nil w).bN 46 #[iV op,aC path,aC tz,iV mode,iV kk]);have hcs:Hid (∀W,Sep w W [.box w.heap.size 46 #[iV op,aC path,aC tz,iV mode,iV kk]]->W.cell? ⟨w.heap.size,0,none⟩=some (iV op)/\W.cell? ⟨w.heap.size,1,none⟩=some (aC path)/\W.cell? ⟨w.heap.size,2,none⟩=some (aC tz)/\W.cell? ⟨w.heap.size,3,none⟩=some (iV mode)/\W.cell? ⟨w.heap.size,4,none⟩=some (iV kk)):=Lh fun W hW=>
  ⟨hW.bC 0 rfl 0,hW.bC 0 rfl 1,hW.bC 0 rfl 2,hW.bC 0 rfl 3,hW.bC 0 rfl 4⟩
 have hst':=Lh hst;clear hst hins hp ht;unfold aC at*;obtain⟨t,m,ok,hf⟩:∃t m ok,bT op=(t,m,ok):=⟨_,_,_,rfl⟩;rw[hf]at hfl ⊢;clear hf;simp only at hfl ⊢;obtain⟨v1,hvd⟩:∃v,v=aV path:=⟨_,rfl⟩;obtain⟨v2,hve⟩:∃v,v=aV tz:=⟨_,rfl⟩;obtain⟨res,hres⟩:∃r,r=wY t m ok op path tz mode kk n len:=⟨_,rfl⟩;rw[<-hres];unfold wY at hres;rw[<-hvd]at hv1 hres;rw[<-hve]at hv2 hres;clear hvd hve;have hb:=fun W h=>(hS'.out.pure (w':=W) h)
 replace hb:=Lh hb;cases ok with
 |true=>
  cases h9:(op==9)with
  |true=>(have hval:res=0:=by rw[hres];simp[h9]);exact Z0
  |false=>
   cases m with
   |true=>
    by_cases q0:mode<0
    ·skip
     (have hval:res=28:=by rw[hres];simp[h9,q0]);exact Z0
    (replace q0:0<=mode:=by omega);by_cases q1:511<mode
    ·skip
     (have hval:res=28:=by rw[hres];simp[h9,q1]);exact Z0
    (replace q1:mode<=511:=by omega);(have g0:¬mode<0:=by omega);(have g1:¬511<mode:=by omega);cases hp0:(path==[])with
    |true=>(have hval:res=26:=by rw[hres];simp[h9,g0,g1,hp0]);exact Z0
    |false=>
     cases t with
     |true=>
      cases ht0:(tz==[])with
      |true=>(have hval:res=26:=by rw[hres];simp[h9,g0,g1,hp0,ht0]);exact Z0
      |false=>
       cases v1 with
       |true=>
        cases v2 with
        |true=>
         cases h6:(op==6)with
         |true=>
          by_cases q2:kk<0
          ·skip
           (have hval:res=32:=by rw[hres];simp[h9,g0,g1,hp0,ht0,h6,q2]);exact Z0
          (replace q2:0<=kk:=by omega);by_cases q3:(n:Int)<=kk
          ·skip
           (have hval:res=32:=by rw[hres];simp[h9,g0,g1,hp0,ht0,h6,q3]);exact Z0
          (replace q3:kk<n:=by omega);obtain⟨k,rfl⟩:∃k:Nat,kk=k:=⟨kk.toNat,by omega⟩;obtain⟨sa,B,cc,rfl,hcell0⟩:=hst'.out k rfl aD;have hcell:=Lh hcell0;clear hcell0;(have g2:¬(k:Int)<0:=by omega);(have g3:¬n<=k:=by omega);by_cases q4:8192<len
          ·skip
           (have q5:(8192:Int)<len:=by omega);(have hval:res=2:=by rw[hres];simp[h9,g0,g1,hp0,ht0,h6,g2,g3,q4]);exact Z57
          (replace q4:len<=8192:=by omega);(have q5:decide ((8192:Int)<len)=false:=by simp;omega);(have g4:¬8192<len:=by omega);(have hval:res=0:=by rw[hres];simp[h9,g0,g1,hp0,ht0,h6,g2,g3,g4]);exact Z57
         |false=>(have hval:res=0:=by rw[hres];simp[h9,g0,g1,hp0,ht0,h6]);exact Z0
        |false=>(have hval:res=20:=by rw[hres];simp[h9,g0,g1,hp0,ht0]);exact Z0
       |false=>(have hval:res=20:=by rw[hres];simp[h9,g0,g1,hp0,ht0]);exact Z0
     |false=>
      cases v1 with
      |true=>
       cases h6:(op==6)with
       |true=>
        by_cases q2:kk<0
        ·skip
         (have hval:res=32:=by rw[hres];simp[h9,g0,g1,hp0,h6,q2]);exact Z0
        (replace q2:0<=kk:=by omega);by_cases q3:(n:Int)<=kk
        ·skip
         (have hval:res=32:=by rw[hres];simp[h9,g0,g1,hp0,h6,q3]);exact Z0
        (replace q3:kk<n:=by omega);obtain⟨k,rfl⟩:∃k:Nat,kk=k:=⟨kk.toNat,by omega⟩;obtain⟨sa,B,cc,rfl,hcell0⟩:=hst'.out k rfl aD;have hcell:=Lh hcell0;clear hcell0;(have g2:¬(k:Int)<0:=by omega);(have g3:¬n<=k:=by omega);by_cases q4:8192<len
        ·skip
         (have q5:(8192:Int)<len:=by omega);(have hval:res=2:=by rw[hres];simp[h9,g0,g1,hp0,h6,g2,g3,q4]);exact Z57
        (replace q4:len<=8192:=by omega);(have q5:decide ((8192:Int)<len)=false:=by simp;omega);(have g4:¬8192<len:=by omega);(have hval:res=0:=by rw[hres];simp[h9,g0,g1,hp0,h6,g2,g3,g4]);exact Z57
       |false=>(have hval:res=0:=by rw[hres];simp[h9,g0,g1,hp0,h6]);exact Z0
      |false=>(have hval:res=20:=by rw[hres];simp[h9,g0,g1,hp0]);exact Z0
   |false=>
    cases hp0:(path==[])with
    |true=>(have hval:res=26:=by rw[hres];simp[h9,hp0]);exact Z0
    |false=>
     cases t with
     |true=>
      cases ht0:(tz==[])with
      |true=>(have hval:res=26:=by rw[hres];simp[h9,hp0,ht0]);exact Z0
      |false=>
       cases v1 with
       |true=>
        cases v2 with
        |true=>
         cases h6:(op==6)with
         |true=>
          by_cases q2:kk<0
          ·skip
           (have hval:res=32:=by rw[hres];simp[h9,hp0,ht0,h6,q2]);exact Z0
          (replace q2:0<=kk:=by omega);by_cases q3:(n:Int)<=kk
          ·skip
           (have hval:res=32:=by rw[hres];simp[h9,hp0,ht0,h6,q3]);exact Z0
          (replace q3:kk<n:=by omega);obtain⟨k,rfl⟩:∃k:Nat,kk=k:=⟨kk.toNat,by omega⟩;obtain⟨sa,B,cc,rfl,hcell0⟩:=hst'.out k rfl aD;have hcell:=Lh hcell0;clear hcell0;(have g2:¬(k:Int)<0:=by omega);(have g3:¬n<=k:=by omega);by_cases q4:8192<len
          ·skip
           (have q5:(8192:Int)<len:=by omega);(have hval:res=2:=by rw[hres];simp[h9,hp0,ht0,h6,g2,g3,q4]);exact Z57
          (replace q4:len<=8192:=by omega);(have q5:decide ((8192:Int)<len)=false:=by simp;omega);(have g4:¬8192<len:=by omega);(have hval:res=0:=by rw[hres];simp[h9,hp0,ht0,h6,g2,g3,g4]);exact Z57
         |false=>(have hval:res=0:=by rw[hres];simp[h9,hp0,ht0,h6]);exact Z0
        |false=>(have hval:res=20:=by rw[hres];simp[h9,hp0,ht0]);exact Z0
       |false=>(have hval:res=20:=by rw[hres];simp[h9,hp0,ht0]);exact Z0
     |false=>
      cases v1 with
      |true=>
       cases h6:(op==6)with
       |true=>
        by_cases q2:kk<0
        ·skip
         (have hval:res=32:=by rw[hres];simp[h9,hp0,h6,q2]);exact Z0
        (replace q2:0<=kk:=by omega);by_cases q3:(n:Int)<=kk
        ·skip
         (have hval:res=32:=by rw[hres];simp[h9,hp0,h6,q3]);exact Z0
        (replace q3:kk<n:=by omega);obtain⟨k,rfl⟩:∃k:Nat,kk=k:=⟨kk.toNat,by omega⟩;obtain⟨sa,B,cc,rfl,hcell0⟩:=hst'.out k rfl aD;have hcell:=Lh hcell0;clear hcell0;(have g2:¬(k:Int)<0:=by omega);(have g3:¬n<=k:=by omega);by_cases q4:8192<len
        ·skip
         (have q5:(8192:Int)<len:=by omega);(have hval:res=2:=by rw[hres];simp[h9,hp0,h6,g2,g3,q4]);exact Z57
        (replace q4:len<=8192:=by omega);(have q5:decide ((8192:Int)<len)=false:=by simp;omega);(have g4:¬8192<len:=by omega);(have hval:res=0:=by rw[hres];simp[h9,hp0,h6,g2,g3,g4]);exact Z57
       |false=>(have hval:res=0:=by rw[hres];simp[h9,hp0,h6]);exact Z0
      |false=>(have hval:res=20:=by rw[hres];simp[h9,hp0]);exact Z0
 |false=>(have hval:res=34:=by rw[hres];simp[]);exact Z0
def opD (f q p:Nat) (S:VS) (r:Except Int (Option VS)) (w0:World) (R:List aW) (e:Ending) (w':World):Prop:=
 match r with
 | .error k=>e=(if k=0 then .returned (.tuple #[])else .panicked (fA k))/\∃a',VC S a'/\Sep w0 w' (aF f q p S a'::R)
 | .ok r=>dH f q p S r w0 R e w'
def wC (f q p:Nat) (S:VS) (r:Except Int (Option VS)) (w0 w:World) (R:List aW) (x:Int):Prop:=
 match r with
 | .error k=>x=k/\Sep w0 w (bB f q p S::R)
 | .ok none=>x=27/\Sep w0 w (bB f q p S::R)
 | .ok (some S1)=>
  if zO S1=true then
   if S1.bJ.2=true then x=0/\Sep w0 w (bB f q p S1.settled::R)
   else x=11/\Sep w0 w (iU f q p true::aO p S1.bJ.1::R)
  else x=27/\Sep w0 w (bB f q p S::R)
def awP (r:Except Int (Option VS)):Prop:=∀k,r= .error k->k≠11
section
variable {w0 w:World} {R:List aW} {f q p:Nat} {S:VS} {a:VA}
theorem adG {fo:Option Nat} (hC:VC S a) (hb:S.D.back=[]) (h:Sep w0 w (kF f q S a.sb (.map fo) false::aG q p false::aO p S.D::dY a.sb a.SM::R)):Sep w0 w (bB f q p S::R):=
 ML ⟨rfl,rfl,rfl,rfl,rfl⟩ hC hb h
theorem rG (hC:VC S a) (hb:S.D.back=[]) (h:Sep w0 w (aF f q p S a::R)):Sep w0 w (bB f q p S::R):=by have h1:=h.bG;have h2:Sep w0 w (jK a.fb a.FM::kF f q S a.sb (.map (some a.fb)) false::aG q p false::aO p S.D::dY a.sb a.SM::R):=Sep.dB [4,0,1,2,3] h1 aR (by simp[pU]);exact adG hC hb (h2.drop 1)
theorem IW {be:Nat} {fn:Func} {tmps:Array Value} {Post:Ending->World->Prop} {ds:List Deferred} {k y:Int} (hC:VC S a) (hb:S.D.back=[]) (hk:k≠11) (h:Sep w0 w (aF f q p S a::aJ be y::R))
  (hK:∀w',Sep w0 w' (bB f q p S::aJ be k::R)->Leaves Tryz.prog fn tmps Post ds .returning w'):
  Leaves Tryz.prog fn tmps Post ({target:=.fn (.func 52) #[],args:=#[pV f,pV be]}::ds) (.panicking (fA k)) w:=by
 have h1:=h.bG;have h2:Sep w0 w (jK a.fb a.FM::kF f q S a.sb (.map (some a.fb)) false::aJ be y::aG q p false::aO p S.D::dY a.sb a.SM::R):=Sep.dB [4,0,5,1,2,3] h1 aR (by simp[pU]);refine KL (h2.drop 1) fun w' hS=>hK w' ?_
 rw[decide_eq_false hk,AX]at hS;exact adG hC hb (Sep.dB [0,2,3,4,1] hS aR bK)
theorem WQ {be:Nat} {fn:Func} {tmps:Array Value} {Post:Ending->World->Prop} {ds:List Deferred} {k y:Int} (hk:k≠11) (h:Sep w0 w (bB f q p S::aJ be y::R))
  (hK:∀w',Sep w0 w' (bB f q p S::aJ be k::R)->Leaves Tryz.prog fn tmps Post ds .returning w'):
  Leaves Tryz.prog fn tmps Post ({target:=.fn (.func 52) #[],args:=#[pV f,pV be]}::ds) (.panicking (fA k)) w:=by
 obtain⟨sb,SM,fo,hR,h1⟩:=h.mF;refine KL (Sep.dB [0,4,1,2,3] h1 aR bK) fun w' hS=>hK w' ?_
 rw[decide_eq_false hk,AX]at hS;exact Sep.DV hR (Sep.dB [0,2,3,4,1] hS aR bK)
theorem DY {be:Nat} {fn:Func} {tmps:Array Value} {Post:Ending->World->Prop} {ds:List Deferred} {dead:Bool} {y:Int} (h:Sep w0 w (iU f q p dead::aJ be y::R))
  (hK:∀w',Sep w0 w' (iU f q p true::aJ be 11::R)->Leaves Tryz.prog fn tmps Post ds .returning w'):
  Leaves Tryz.prog fn tmps Post ({target:=.fn (.func 52) #[],args:=#[pV f,pV be]}::ds) (.panicking (fA 11)) w:=by
 obtain⟨S,sb,fo,h1⟩:=h.WI;refine KL (Sep.dB [0,2,1] h1 aR bK) fun w' hS=>hK w' ?_
 rw[decide_eq_true (rfl:(11:Int)=11),O6]at hS;exact(Sep.dB [0,2,1] hS aR bK:Sep w0 w' (kF f q S sb (.map fo) true::aG q p true::aJ be 11::R)).KJ
theorem aq9 {be:Nat} {fn:Func} {tmps:Array Value} {Post:Ending->World->Prop} {ds:List Deferred} {r:Except Int (Option VS)} {ps:List PanicEntry} (hb:S.D.back=[]) (hp:awP r) (h:opD f q p S r w0 (aJ be 0::R) (.panicked ps) w)
  (hK:∀w' x,wC f q p S r w0 w' (aJ be x::R) x->Leaves Tryz.prog fn tmps Post ds .returning w'):
  Leaves Tryz.prog fn tmps Post ({target:=.fn (.func 52) #[],args:=#[pV f,pV be]}::ds) (.panicking ps) w:=by
 match r with
 | .error k=>
  obtain⟨he,a',hC,hS⟩:=h;by_cases hk:k=0
  ·rw[if_pos hk]at he;cases he
  rw[if_neg hk]at he;cases he;exact IW hC hb (hp k rfl) hS fun w' hw=>hK w' k ⟨rfl,hw⟩
 | .ok none=>obtain⟨he,hS⟩:=h;cases he;exact WQ aR hS fun w' hw=>hK w' 27 ⟨rfl,hw⟩
 | .ok (some S1)=>
  unfold opD dH at h;simp only at h;by_cases h1:zO S1=true
  ·rw[if_pos h1]at h;by_cases h2:S1.bJ.2=true
   ·rw[if_pos h2]at h;cases h.1
   rw[if_neg h2]at h;obtain⟨he,hS⟩:=h;cases he;(refine DY (Sep.dB [0,2,1] hS aR bK) fun w' hw=>hK w' 11 ?_);unfold wC;simp only;rw[if_pos h1,if_neg h2];exact⟨trivial,Sep.dB [0,2,1] hw aR bK⟩
  rw[if_neg h1]at h;obtain⟨he,hS⟩:=h;cases he;(refine WQ aR hS fun w' hw=>hK w' 27 ?_);unfold wC;simp only;rw[if_neg h1];exact⟨trivial,hw⟩
theorem awQ {be:Nat} {r:Except Int (Option VS)} {v:Value} (hb:S.D.back=[]) (h:opD f q p S r w0 (aJ be 0::R) (.returned v) w):
  v= .tuple #[]/\wC f q p S r w0 w (aJ be 0::R) 0:=by
 match r with
 | .error k=>
  obtain⟨he,a',hC,hS⟩:=h;by_cases hk:k=0
  ·rw[if_pos hk]at he;cases he;subst hk;exact⟨rfl,rfl,rG hC hb hS⟩
  rw[if_neg hk]at he;cases he
 | .ok none=>cases h.1
 | .ok (some S1)=>
  unfold opD dH at h;simp only at h;by_cases h1:zO S1=true
  ·rw[if_pos h1]at h;by_cases h2:S1.bJ.2=true
   ·rw[if_pos h2]at h;obtain⟨he,hS⟩:=h;cases he;refine⟨rfl,?_⟩;unfold wC;simp only;rw[if_pos h1,if_pos h2];exact⟨trivial,hS⟩
   rw[if_neg h2]at h;cases h.1
  rw[if_neg h1]at h;cases h.1
theorem arA {r:Except Int (Option VS)} {R:List aW} {e:Ending} (h:opD f q p S r w0 R e w):e= .returned (.tuple #[])\/∃k,e= .panicked (fA k):=by
 match r with
 | .error k=>
  obtain⟨he,_⟩:=h;by_cases hk:k=0
  ·rw[if_pos hk]at he;exact .inl he
  rw[if_neg hk]at he;exact .inr ⟨k,he⟩
 | .ok r=>exact iY h
theorem KQ {r:Except Int (Option VS)} {x:Int} (h:wC f q p S r w0 w R x):∃Y,Sep w0 w (Y++R):=by
 match r with
 | .error k=>exact⟨[_],h.2⟩
 | .ok none=>exact⟨[_],h.2⟩
 | .ok (some S1)=>
  unfold wC at h;simp only at h;split at h
  ·split at h
   ·exact⟨[_],h.2⟩
   exact⟨[_,_],h.2⟩
  exact⟨[_],h.2⟩
theorem adH {r:Except Int (Option VS)} {x:Int} {R':List aW} {w':World} (h:wC f q p S r w0 w R x) (hm:∀Y,Sep w0 w (Y++R)->Sep w0 w' (Y++R')):wC f q p S r w0 w' R' x:=by
 match r with
 | .error k=>exact⟨h.1,hm [_] h.2⟩
 | .ok none=>exact⟨h.1,hm [_] h.2⟩
 | .ok (some S1)=>
  unfold wC at*;simp only at*;split
  ·rename_i h1;rw[if_pos h1]at h;split
   ·rename_i h2;rw[if_pos h2]at h;exact⟨h.1,hm [_] h.2⟩
   rename_i h2;rw[if_neg h2]at h;exact⟨h.1,hm [_,_] h.2⟩
  rename_i h1;rw[if_neg h1]at h;exact⟨h.1,hm [_] h.2⟩
end
def rH (f:Nat):List (Lit×Value):=[(.int .i64 1,.func (.func 56) #[.pointer (some ⟨f,0,none⟩)] #[]),(.int .i64 2,.func (.func 57) #[.pointer (some ⟨f,0,none⟩)] #[]),
 (.int .i64 3,.func (.func 58) #[pV f] #[]),(.int .i64 4,.func (.func 59) #[pV f] #[]),(.int .i64 5,.func (.func 60) #[pV f] #[]),
 (.int .i64 6,.func (.func 61) #[pV f] #[]),(.int .i64 7,.func (.func 62) #[pV f] #[]),(.int .i64 8,.func (.func 63) #[pV f] #[]),(.int .i64 9,.func (.func 64) #[pV f] #[])]
theorem anA (w:World):(zeroValue 98).run Tryz.prog w= .ok .nilFunc w:=by kernel_rfl
end Go.Proofs.YtmjomdkleikgbaaGreat
