/- Parts. -/
import Derived.Test.YteihmbaimbogaaaGreatJ17
import Derived.Test.YteihmbaimbogaaaGreatJ18
set_option linter.unusedVariables false
set_option linter.unusedSimpArgs false
set_option maxRecDepth 100000
set_option maxHeartbeats 20000000
namespace Go.Proofs.YteihmbaimbogaaaGreat
open Go.RowKit
def nY (S:VS) (n:Nat) (x:VI) (bs:List UInt8) (dir:Nat) (name:List UInt8):Option VS:=
 match jI (S.keep n x) n bs with
 |none=>none
 |some S2=>iN S2 dir name n
def iD (S:VS) (j:Nat):VS:=(S.put 1 (mI (bk S.cur 1) j)).put ((S.put 1 (mI (bk S.cur 1) j)).data+j) cZ
def lY (S:VS) (n:Nat) (x:VI) (j:Nat):VS:=(iD S j).keep n {x with aB:=[j]}
def lT (S:VS) (x:VI) (bs:List UInt8) (dir:Nat) (name:List UInt8):Option VS:=
 match nQ S.cur S.names with
 |none=>none
 |some n=>if x.kind=1 then
   match lH (bk S.cur 1) S.count with
   |none=>none
   |some j=>iN (lY S n x j) dir name n
  else nY S n x bs dir name
theorem TD {c:fO} {names n:Nat} (h:nQ c names=some n):n<names:=by have:=PM h;exact List.mem_range.1 this
theorem Y5 {bs:List UInt8} {m j:Nat} (h:lH bs m=some j):j<m:=by have:=PM h;exact List.mem_range.1 this
section
variable {w0 w:World} {R:List bK} {f q p:Nat} {S:VS} {a:VA}
theorem ajO {bf bx bb bd bp:Nat} (hbf:∀W Y,Sep w0 W (Y++R)->W.cell? ⟨bf,0,none⟩=some (pV f))
  (hC:VC S a) (hF:VF S) (hT:TE S.cur S.names) (hfr:nQ S.cur S.names=none) (h:Sep w0 w (aF f q p S a::R)):
  Calls Tryz.prog 118 #[pV bf,pV bx,pV bb,pV bd,pV bp] w (fD f q p S none w0 R):=by
 have hc:w.cell? ⟨bf,0,none⟩=some (pV f):=hbf w [_] h;have hun:Calls Tryz.prog 119 #[pV f] w (fD f q p S none w0 R):=by refine(TG hC hF hT h).mono ?_;intro e w' ho;unfold tO at ho;rw[hfr]at ho;obtain⟨rfl,a',h1,h2⟩:=ho;unfold fD;exact⟨rfl,S,a',.refl _,h1.ok,h2⟩
 clear hbf hC hF hT hfr h;unfold fD at*;go_enter Tryz.func118,Tryz.ntmps118;go_wp2_with(go_at_call 119;refine hun.mono ?_;rintro e w9 ⟨rfl,hend⟩;replace hend:=Lh hend;clear hun);exact⟨rfl,rfl,hend.out⟩
theorem Z73 {P:Prop} (h:P:=by refine(TG hC hF hT h).mono ?_;intro e w' ho;unfold tO at ho;rw[hfr]at ho;obtain⟨rfl,a',h1,h2⟩:=ho;exact⟨rfl,a',h1.ok,h2⟩):P:=h
theorem ajP {bf bx bb bd bp n dir L c0:Nat} {A0:Option Addr} {x:VI} {bs path:List UInt8} (hR0:∀W Y,Sep w0 W (Y++R)->W.cell? ⟨bf,0,none⟩=some (pV f)/\W.cell? ⟨bb,0,none⟩=some (.slice A0 L c0)/\W.cell? ⟨bd,0,none⟩=some (iV dir)/\W.cell? ⟨bp,0,none⟩=some (aC path)/\W.cell? ⟨bx,0,none⟩=some (iV 2)/\W.cell? ⟨bx,1,none⟩=some (iV (x.mode:Nat))/\W.cell? ⟨bx,2,none⟩=some (iV (x.links:Nat))/\W.cell? ⟨bx,3,none⟩=some (iV (x.size:Nat))/\W.cell? ⟨bx,4,none⟩=some (.slice none 0 0))
  (hC:VC S a) (hF:VF S) (hT:TE S.cur S.names) (hx:x.ok) (hk:x.kind=2) (hx0:x.aB=[]) (hbs:bs.length<=8192) (hv:jB w0 R (.slice A0 L c0) bs) (hv2:aU path=true) (hp2:path.length<=1048576) (hs:gM S) (h0:CW w0 R (.slice none 0 0) [])
  (hfr:nQ S.cur S.names=some n) (hn2:o7 (S.keep n x) n) (hs2:gM (S.keep n x)) (as5:∀S2,jI (S.keep n x) n bs=some S2->gI S S2/\qD S2 dir n (aM path)/\nG S2) (h:Sep w0 w (aF f q p S a::R)):
  Calls Tryz.prog 118 #[pV bf,pV bx,pV bb,pV bd,pV bp] w (fD f q p S (nY S n x bs dir (aM path)) w0 R):=by
 have hR:=Lh hR0;obtain⟨SK,hSK⟩:∃SK,SK=S.keep n x:=⟨_,rfl⟩;have TC:Hid (gI S SK):=by rw[hSK];exact Lh ((gI.refl S).keep _ _)
 have hun:Hid (Calls Tryz.prog 119 #[pV f] w fun e w'=>e= .returned (iV n)/\∃a',VC S a'/\Sep w0 w' (aF f q p S a'::R)):=Lh (by exact Z73);have hkp:Hid (∀W a1,VC S a1->Sep w0 W (aF f q p S a1::R)->Calls Tryz.prog 90 #[pV f,iV n,.agg #[iV 2,iV (x.mode:Nat),iV (x.links:Nat),iV (x.size:Nat),.slice none 0 0]] W fun e w'=>e= .returned (.tuple #[])/\∃a',VC SK a'/\Sep w0 w' (aF f q p SK a'::R)):=Lh fun W a1 h1 h2=>by rw[hSK];have h3:=wP (x:=x) (v:=.slice none 0 0) h1 hF (TD hfr) hx (hT n (TD hfr)) hs (by rw[hx0];exact h0) h2;unfold gK aO at h3;rw[hk]at h3;exact h3
 rw[<-hSK]at hn2 hs2 as5;have PW:Hid (∀W,Calls Tryz.prog 101 #[aC path] W fun e w'=>e= .returned (aC (aM path))/\Below W.heap.size W w'):=Lh fun W=>wU hv2 hp2 W
 have hfi:Hid (∀W a1,VC SK a1->Sep w0 W (aF f q p SK a1::R)->Calls Tryz.prog 67 #[pV f,iV n,.slice A0 L c0] W (fD f q p SK (jI SK n bs) w0 R)):=Lh fun W a1 h1 h2=>
  aeO h1 (TC.out.vf hF) hn2.lt hn2.few hn2.sp hs2 hbs hv h2
 have hX0:=Lh h;have hF':=Lh hF;have hres:Hid (nY S n x bs dir (aM path)=match jI SK n bs with|none=>none|some S2=>iN S2 dir (aM path) n):=Lh (by unfold nY;rw[<-hSK]);obtain⟨rA,hrA⟩:∃r,r=nY S n x bs dir (aM path):=⟨_,rfl⟩;rw[<-hrA]at hres ⊢;obtain⟨b2,hb2⟩:∃b,b=aM path:=⟨_,rfl⟩;rw[<-hb2]at PW as5 hres;clear hR0 hC hF hT hx hx0 hbs hv hv2 hp2 hs h0 hfr hn2 hs2 h hSK hrA hb2 hk;cases hfp:jI SK n bs with
 |none=>rw[hfp]at hfi hres;have hrr:rA=none:=hres.out;subst hrr;clear as5 hres PW hF' hfp;unfold fD at hfi;unfold aC at*;go_enter Tryz.func118,Tryz.ntmps118;have hc:=hR.out w [_] hX0.out;go_wp2_with(go_at_call 119;refine hun.out.mono ?_;rintro e w9 ⟨rfl,a9,eG,h9⟩;clear hc;have hc:=hR.out w9 [_] h9;have hV:=Lh eG;have hX:=Lh h9;clear eG h9 hun hX0);have jC:=hR.out w9.drew [_] hX.out.drew;clear hc;refine aJ (S:=fun w'=>w'.cell? ⟨bf,0,none⟩=some (pV f)/\w'.cell? ⟨bb,0,none⟩=some (.slice A0 L c0)/\w'.cell? ⟨bd,0,none⟩=some (iV dir)/\w'.cell? ⟨bp,0,none⟩=some (.string ⟨path.toArray⟩)/\w'.cell? ⟨bx,0,none⟩=some (iV 2)/\w'.cell? ⟨bx,1,none⟩=some (iV (x.mode:Nat))/\w'.cell? ⟨bx,2,none⟩=some (iV (x.links:Nat))/\w'.cell? ⟨bx,3,none⟩=some (iV (x.size:Nat))/\w'.cell? ⟨bx,4,none⟩=some (.slice none 0 0)) 7 ?_;refine aA 0 jC ?_;refine aA 1 jC ?_;refine aA 2 jC ?_;refine aA 3 jC ?_;refine aA 4 jC ?_;refine aA 5 jC ?_;(refine bG 6 fun K hK=>?_);go_simp;go_at_call 90;refine(hkp.out _ _ hV.out hX.out.drew).mono ?_;rintro e w8 ⟨rfl,aK,hCK,h8⟩;clear jC;have hc8:=hR.out w8 [_] h8;replace hX:=Lh h8;replace hV:=Lh hCK;clear hCK h8 hkp;dsimp only;refine hK _ _ (fun _=>hc8) ?_;clear hK K;(try simp only[Act.put,gD]);refine aR fZ ?_ _;go_wp2_with fail;clear hc8;have jC:=hR.out w8.drew [_] hX.out.drew;refine aJ (S:=fun w'=>w'.cell? ⟨bf,0,none⟩=some (pV f)/\w'.cell? ⟨bb,0,none⟩=some (.slice A0 L c0)/\w'.cell? ⟨bd,0,none⟩=some (iV dir)/\w'.cell? ⟨bp,0,none⟩=some (.string ⟨path.toArray⟩)/\w'.cell? ⟨bx,0,none⟩=some (iV 2)/\w'.cell? ⟨bx,1,none⟩=some (iV (x.mode:Nat))/\w'.cell? ⟨bx,2,none⟩=some (iV (x.links:Nat))/\w'.cell? ⟨bx,3,none⟩=some (iV (x.size:Nat))/\w'.cell? ⟨bx,4,none⟩=some (.slice none 0 0)) 7 ?_;refine aA 0 jC ?_;refine aA 1 jC ?_;refine aA 2 jC ?_;refine aA 3 jC ?_;refine aA 4 jC ?_;refine aA 5 jC ?_;(refine bG 6 fun K hK=>?_);go_simp;go_at_call 67;refine(hfi.out _ _ hV.out hX.out.drew).mono ?_;rintro e w7 ⟨rfl,T,aT,hLT,hCT,hT⟩;unfold fD;exact⟨rfl,rfl,T,aT,TC.out.trans hLT,hCT,hT⟩
 |some S2=>
  obtain⟨hl2,he2,hs2⟩:=as5 S2 hfp;rw[hfp]at hfi hres;obtain⟨rX,yE⟩:∃r,r=iN S2 dir b2 n:=⟨_,rfl⟩;(have hrr:rA=rX:=by rw[yE];exact hres.out);subst hrr;(have hen:Hid (∀W a1,VC S2 a1->Sep w0 W (aF f q p S2 a1::R)->Calls Tryz.prog 104 #[pV f,iV dir,aC b2,iV n] W (fD f q p S2 rA w0 R)):=Lh fun W a1 h1 h2=>by rw[yE];exact KS h1 (hl2.vf hF'.out) he2 hs2 h2);replace hl2:=Lh hl2;clear as5 hres hF' hfp he2 hs2 yE;unfold fD at hfi;unfold aC at*;obtain⟨rX,yE⟩:∃r,r=rA:=⟨_,rfl⟩;subst yE;go_enter Tryz.func118,Tryz.ntmps118;have hc:=hR.out w [_] hX0.out;go_wp2_with(go_at_call 119;refine hun.out.mono ?_;rintro e w9 ⟨rfl,a9,eG,h9⟩;clear hc;have hc:=hR.out w9 [_] h9;have hV:=Lh eG;have hX:=Lh h9;clear eG h9 hun hX0);have jC:=hR.out w9.drew [_] hX.out.drew;clear hc;refine aJ (S:=fun w'=>w'.cell? ⟨bf,0,none⟩=some (pV f)/\w'.cell? ⟨bb,0,none⟩=some (.slice A0 L c0)/\w'.cell? ⟨bd,0,none⟩=some (iV dir)/\w'.cell? ⟨bp,0,none⟩=some (.string ⟨path.toArray⟩)/\w'.cell? ⟨bx,0,none⟩=some (iV 2)/\w'.cell? ⟨bx,1,none⟩=some (iV (x.mode:Nat))/\w'.cell? ⟨bx,2,none⟩=some (iV (x.links:Nat))/\w'.cell? ⟨bx,3,none⟩=some (iV (x.size:Nat))/\w'.cell? ⟨bx,4,none⟩=some (.slice none 0 0)) 7 ?_;refine aA 0 jC ?_;refine aA 1 jC ?_;refine aA 2 jC ?_;refine aA 3 jC ?_;refine aA 4 jC ?_;refine aA 5 jC ?_;(refine bG 6 fun K hK=>?_);go_simp;go_at_call 90;refine(hkp.out _ _ hV.out hX.out.drew).mono ?_;rintro e w8 ⟨rfl,aK,hCK,h8⟩;clear jC;have hc8:=hR.out w8 [_] h8;replace hX:=Lh h8;replace hV:=Lh hCK;clear hCK h8 hkp;dsimp only;refine hK _ _ (fun _=>hc8) ?_;clear hK K;(try simp only[Act.put,gD]);refine aR fZ ?_ _;go_wp2_with fail;clear hc8;have jC:=hR.out w8.drew [_] hX.out.drew;refine aJ (S:=fun w'=>w'.cell? ⟨bf,0,none⟩=some (pV f)/\w'.cell? ⟨bb,0,none⟩=some (.slice A0 L c0)/\w'.cell? ⟨bd,0,none⟩=some (iV dir)/\w'.cell? ⟨bp,0,none⟩=some (.string ⟨path.toArray⟩)/\w'.cell? ⟨bx,0,none⟩=some (iV 2)/\w'.cell? ⟨bx,1,none⟩=some (iV (x.mode:Nat))/\w'.cell? ⟨bx,2,none⟩=some (iV (x.links:Nat))/\w'.cell? ⟨bx,3,none⟩=some (iV (x.size:Nat))/\w'.cell? ⟨bx,4,none⟩=some (.slice none 0 0)) 7 ?_;refine aA 0 jC ?_;refine aA 1 jC ?_;refine aA 2 jC ?_;refine aA 3 jC ?_;refine aA 4 jC ?_;refine aA 5 jC ?_;(refine bG 6 fun K hK=>?_);go_simp;go_at_call 67;refine(hfi.out _ _ hV.out hX.out.drew).mono ?_;rintro e w7 ⟨rfl,aT,hCT,hT⟩;have hc7:=hR.out w7 [_] hT;replace hX:=Lh hT;replace hV:=Lh hCT;clear hT hCT hfi jC;dsimp only;refine hK _ _ (fun _=>hc7) ?_;clear hK K;(try simp only[Act.put,gD]);refine aR fZ ?_ _;clear hc7;go_wp2_with fail;have hc:=hR.out w7.drew [_] hX.out.drew;refine aJ (S:=fun w'=>w'.cell? ⟨bf,0,none⟩=some (pV f)/\w'.cell? ⟨bb,0,none⟩=some (.slice A0 L c0)/\w'.cell? ⟨bd,0,none⟩=some (iV dir)/\w'.cell? ⟨bp,0,none⟩=some (.string ⟨path.toArray⟩)/\w'.cell? ⟨bx,0,none⟩=some (iV 2)/\w'.cell? ⟨bx,1,none⟩=some (iV (x.mode:Nat))/\w'.cell? ⟨bx,2,none⟩=some (iV (x.links:Nat))/\w'.cell? ⟨bx,3,none⟩=some (iV (x.size:Nat))/\w'.cell? ⟨bx,4,none⟩=some (.slice none 0 0)) 8 ?_;refine aA 0 hc ?_;refine aA 1 hc ?_;refine aA 2 hc ?_;refine aA 3 hc ?_;refine aA 4 hc ?_;refine aA 6 hc ?_;(refine bG 5 fun K hK=>?_);go_simp;go_at_call 101;refine(PW.out _).mono ?_;rintro e v9 ⟨rfl,J7⟩;replace hX:=Lh (hX.out.drew.pure J7);have jC:=hR.out v9 [_] hX.out;clear hc J7;dsimp only;refine hK _ _ (fun _=>jC) ?_;clear hK K;(try simp only[Act.put,gD]);(refine bG 7 fun K hK=>?_);go_simp;go_at_call 104;refine(hen.out _ _ hV.out hX.out).mono ?_;intro e v8 ho;cases rX with
  |none=>unfold fD at ho;obtain⟨rfl,T,aT,hLT,hCT,hT⟩:=ho;unfold fD;exact⟨rfl,rfl,T,aT,hl2.out.trans hLT,hCT,hT⟩
  |some T=>exact Z11
theorem TH {S:VS}:lD S [] 1=match lH (bk S.cur 1) S.count with|none=>none|some j=>some (S.put 1 (mI (bk S.cur 1) j),[j]):=by
 unfold lD;simp only[kW,o6,Nat.zero_sub,Nat.sub_zero];show QB 1 S []=_
 unfold QB;cases lH (bk S.cur 1) S.count<;>rfl
theorem Z97 {P:Prop} (h:P:=by have h3:=hW.bC Y.length (by rw[D6 (jL _),oO];rfl) 0;rw[h3];unfold aO;rw[hk];rfl):P:=h
theorem ajQ {bf bx bb bd bp n:Nat} {x:VI} (hR0:∀W Y,Sep w0 W (Y++R)->W.cell? ⟨bf,0,none⟩=some (pV f))
  (hC:VC S a) (hF:VF S) (hT:TE S.cur S.names) (hk:x.kind=1) (hx0:x.aB=[])
  (hfr:nQ S.cur S.names=some n) (hfl:lH (bk S.cur 1) S.count=none) (h:Sep w0 w (aF f q p S a:: .box bx 118 (aO x (.slice none 0 0))::bA (.slice none 0 0) []::R)):
  Calls Tryz.prog 118 #[pV bf,pV bx,pV bb,pV bd,pV bp] w (fD f q p S none w0 R):=by
 have hR:=Lh hR0;have hun:Hid (Calls Tryz.prog 119 #[pV f] w fun e w'=>e= .returned (iV n)/\∃a',VC S a'/\Sep w0 w' (aF f q p S a':: .box bx 118 (aO x (.slice none 0 0))::bA (.slice none 0 0) []::R)):=Lh (by exact Z73);have hft:Hid (∀W a1,VC S a1->Sep w0 W (aF f q p S a1:: .box bx 118 (aO x (.slice none 0 0))::bA (.slice none 0 0) []::R)->Calls Tryz.prog 89 #[pV f,pV bx,iV 1] W (fD f q p S none w0 R)):=Lh fun W a1 h1 h2=>by have h3:=BK (n:=1) (x:=x) h1 hF (by rw[hx0];decide) aQ (by rw[hx0];intro s hs;cases hs) (by rw[hx0];exact h2);refine h3.mono ?_;intro e w' ho;unfold rO at ho;rw[hx0,TH,hfl]at ho;unfold fD;exact ho
 have hck:Hid (∀W Y,Sep w0 W (Y++(.box bx 118 (aO x (.slice none 0 0))::bA (.slice none 0 0) []::R))->W.cell? ⟨bf,0,none⟩=some (pV f)/\W.cell? ⟨bx,0,none⟩=some (iV 1)):=Lh fun W Y hW=>by refine⟨hR0 W (Y++[_,_]) (by rw[uN];exact hW),?_⟩;exact Z97
 have hX0:=Lh h;clear hR0 hC hF hT hk hx0 hfr hfl h hR;have hc:=hck.out w [_] hX0.out;unfold fD at*;go_enter Tryz.func118,Tryz.ntmps118;go_wp2_with(first |(go_at_call 119;refine hun.out.mono ?_;rintro e w9 ⟨rfl,a9,eG,h9⟩;clear hc;have hc:=hck.out w9 [_] h9;have JC:=hft.out _ _ eG h9;clear eG h9 hun hX0)|(go_at_call 89;refine JC.mono ?_;rintro e w8 ⟨rfl,hend⟩;replace hend:=Lh hend));exact⟨rfl,rfl,hend.out⟩
theorem aoQ {bf bx bb bd bp n dir j:Nat} {x:VI} {path:List UInt8} (hR0:∀W Y,Sep w0 W (Y++R)->W.cell? ⟨bf,0,none⟩=some (pV f)/\W.cell? ⟨bd,0,none⟩=some (iV dir)/\W.cell? ⟨bp,0,none⟩=some (aC path))
  (hC:VC S a) (hF:VF S) (hT:TE S.cur S.names) (hx:({x with aB:=[j]}:VI).ok) (hk:x.kind=1) (hx0:x.aB=[]) (hv2:aU path=true) (hp2:path.length<=1048576)
  (hfr:nQ S.cur S.names=some n) (hfl:lH (bk S.cur 1) S.count=some j) (hn2:o7 (iD S j) n) (hs2:gM (iD S j)) (he:qD (lY S n x j) dir n (aM path)) (hs3:nG (lY S n x j)) (h:Sep w0 w (aF f q p S a:: .box bx 118 (aO x (.slice none 0 0))::bA (.slice none 0 0) []::R)):
  Calls Tryz.prog 118 #[pV bf,pV bx,pV bb,pV bd,pV bp] w (fD f q p S (iN (lY S n x j) dir (aM path) n) w0 R):=by
 have hR:=Lh hR0;obtain⟨S1,hS1⟩:∃S1,S1=S.put 1 (mI (bk S.cur 1) j):=⟨_,rfl⟩;have M8:gI S S1:=by rw[hS1];exact(gI.refl S).put _ _
 obtain⟨SB,hSB⟩:∃SB,SB=iD S j:=⟨_,rfl⟩;have aCN:SB=S1.put (S1.data+j) cZ:=by rw[hSB,hS1];rfl
 have ajR:gI S SB:=by rw[aCN];exact M8.put _ _
 obtain⟨SD,hSD⟩:∃SD,SD=lY S n x j:=⟨_,rfl⟩;have aCO:SD=SB.keep n {x with aB:=[j]}:=by rw[hSD,hSB];rfl
 have CZ:Hid (gI S SD):=by rw[aCO];exact Lh (ajR.keep _ _)
 have hun:Hid (Calls Tryz.prog 119 #[pV f] w fun e w'=>e= .returned (iV n)/\∃a',VC S a'/\Sep w0 w' (aF f q p S a':: .box bx 118 (aO x (.slice none 0 0))::bA (.slice none 0 0) []::R)):=Lh (by exact Z73);have hft:Hid (∀W a1,VC S a1->Sep w0 W (aF f q p S a1:: .box bx 118 (aO x (.slice none 0 0))::bA (.slice none 0 0) []::R)->Calls Tryz.prog 89 #[pV f,pV bx,iV 1] W fun e w'=>e= .returned (.tuple #[])/\∃a2 ad c9,VC S1 a2/\Sep w0 w' (aF f q p S1 a2::bK.box bx 118 (aO {x with aB:=[j]} (.slice (some ad) 1 c9))::bA (.slice (some ad) 1 c9) [(j:Int)]::R)):=Lh fun W a1 h1 h2=>by have h3:=BK (n:=1) (x:=x) h1 hF (by rw[hx0];decide) aQ (by rw[hx0];intro s hs;cases hs) (by rw[hx0];exact h2);refine h3.mono ?_;intro e w' ho;unfold rO at ho;rw[hx0,TH,hfl]at ho;obtain⟨rfl,a2,v2,_,h4,h5⟩:=ho;obtain⟨ad,c9,u9,e9,_,_⟩:=Rd.at_ (h5.rd 2 rfl) (k:=0) (by show 0<1;decide);rw[<-hS1]at h4 h5;have e8:v2= .slice (some ad) 1 c9:=e9;rw[e8]at h5;exact⟨rfl,a2,ad,c9,h4,h5⟩
 have hjc:=Y5 hfl;have OE:Hid (∀W a1 Y,VC S1 a1->Sep w0 W (Y++(aF f q p S1 a1::R))->Calls Tryz.prog 120 #[pV f] W fun e w'=>e= .returned (iV (S1.data:Nat))/\w'=W):=Lh fun W a1 Y h1 h2=>by have h3:Sep w0 W (aF f q p S1 a1::(Y++R)):=h2.perm rF;exact D8 h1 (M8.vf hF) h3.gL.c3
 have hpu:Hid (∀W a1 ad c9 g,VC S1 a1->Sep w0 W (aL (sV g 512 512) cZ::aF f q p S1 a1::bK.box bx 118 (aO {x with aB:=[j]} (.slice (some ad) 1 c9))::bA (.slice (some ad) 1 c9) [(j:Int)]::R)->Calls Tryz.prog 88 #[pV f,iV ((S1.data:Int)+j),sV g 512 512] W fun e w'=>e= .returned (.tuple #[])/\∃a2,VC SB a2/\Sep w0 w' (aF f q p SB a2::bK.box bx 118 (aO {x with aB:=[j]} (.slice (some ad) 1 c9))::bA (.slice (some ad) 1 c9) [(j:Int)]::R)):=Lh fun W a1 ad c9 g h1 h2=>by(have hbound:S1.data+j<S1.nb-96:=by rw[<-M8.count]at hjc;unfold VS.count at hjc;omega);have h3:Sep w0 W (aF f q p S1 a1::aL (sV g 512 512) cZ::bK.box bx 118 (aO {x with aB:=[j]} (.slice (some ad) 1 c9))::bA (.slice (some ad) 1 c9) [(j:Int)]::R):=h2.perm (List.Perm.swap _ _ _);have h4:=BH (v:=sV g 512 512) (bs:=cZ) h1 hbound ((h3.abA h1 (S1.data+j)).perm (List.Perm.swap _ _ _));rw[show((S1.data+j:Nat):Int)=(S1.data:Int)+j by omega]at h4;refine h4.mono ?_;rintro e w' ⟨rfl,h5⟩;rw[aCN];exact⟨rfl,_,h1.put _ hbound eT,h5⟩
 have hd5:(S1.data:Int)+j<1000000:=by have h1:=hC.pI.few;rw[<-M8.count]at hjc;unfold VS.count at hjc;have:=M8.nb;omega
 have hkp:Hid (∀W a1 ad c9,VC SB a1->Sep w0 W (aF f q p SB a1::bK.box bx 118 (aO {x with aB:=[j]} (.slice (some ad) 1 c9))::bA (.slice (some ad) 1 c9) [(j:Int)]::R)->Calls Tryz.prog 90 #[pV f,iV n,.agg #[iV 1,iV (x.mode:Nat),iV (x.links:Nat),iV (x.size:Nat),.slice (some ad) 1 c9]] W fun e w'=>e= .returned (.tuple #[])/\∃a',VC SD a'/\Sep w0 w' (aF f q p SD a'::bK.box bx 118 (aO {x with aB:=[j]} (.slice (some ad) 1 c9))::bA (.slice (some ad) 1 c9) [(j:Int)]::R)):=Lh fun W a1 ad c9 h1 h2=>by have h3:=QE (n:=n) (y:= {x with aB:=[j]}) (v:=.slice (some ad) 1 c9) h1 (ajR.vf hF) (by rw[hSB];exact hn2) hx (by rw[hSB];exact hs2) 1 rfl h2;rw[<-aCO]at h3;unfold gK aO at h3;simp only at h3;rw[hk]at h3;unfold aO;simp only;rw[hk];exact h3
 have PW:Hid (∀W,Calls Tryz.prog 101 #[aC path] W fun e w'=>e= .returned (aC (aM path))/\Below W.heap.size W w'):=Lh fun W=>wU hv2 hp2 W
 obtain⟨rX,yE⟩:∃rX,rX=iN (lY S n x j) dir (aM path) n:=⟨_,rfl⟩;have hen:Hid (∀W a1,VC SD a1->Sep w0 W (aF f q p SD a1::R)->Calls Tryz.prog 104 #[pV f,iV dir,aC (aM path),iV n] W (fD f q p SD rX w0 R)):=Lh fun W a1 h1 h2=>by rw[yE,<-hSD];exact KS h1 (CZ.out.vf hF) (by rw[hSD];exact he) (by rw[hSD];exact hs3) h2
 obtain⟨b2,hb2⟩:∃b,b=aM path:=⟨_,rfl⟩;rw[<-yE];rw[<-hb2]at PW hen;have hck:Hid (∀W Y,Sep w0 W (Y++(.box bx 118 (aO x (.slice none 0 0))::bA (.slice none 0 0) []::R))->W.cell? ⟨bf,0,none⟩=some (pV f)/\W.cell? ⟨bx,0,none⟩=some (iV 1)):=Lh fun W Y hW=>by refine⟨(hR0 W (Y++[_,_]) (by rw[uN];exact hW)).1,?_⟩;exact Z97
 have hcd:Hid (∀W a1 SS ad c9,Sep w0 W (aF f q p SS a1::bK.box bx 118 (aO {x with aB:=[j]} (.slice (some ad) 1 c9))::bA (.slice (some ad) 1 c9) [(j:Int)]::R)->W.cell? ⟨bf,0,none⟩=some (pV f)/\W.cell? ⟨bd,0,none⟩=some (iV dir)/\W.cell? ⟨bp,0,none⟩=some (.string ⟨path.toArray⟩)/\W.cell? ⟨bx,0,none⟩=some (iV 1)/\W.cell? ⟨bx,1,none⟩=some (iV (x.mode:Nat))/\W.cell? ⟨bx,2,none⟩=some (iV (x.links:Nat))/\W.cell? ⟨bx,3,none⟩=some (iV (x.size:Nat))/\W.cell? ⟨bx,4,none⟩=some (.slice (some ad) 1 c9)):=Lh fun W a1 SS ad c9 hW=>by have k1:=hR0 W [_,_,_] hW;have k2:=hW.dR 1 rfl;simp only at k2;rw[hk]at k2;exact⟨k1.1,k1.2.1,k1.2.2,k2.1,k2.2.1,k2.2.2.1,k2.2.2.2.1,k2.2.2.2.2⟩
 have hat:Hid (∀W a1 ad c9,Sep w0 W (aF f q p S1 a1::bK.box bx 118 (aO {x with aB:=[j]} (.slice (some ad) 1 c9))::bA (.slice (some ad) 1 c9) [(j:Int)]::R)->W.cell? (ad.add 0)=some (iV j)):=Lh fun W a1 ad c9 hW=>by obtain⟨ad2,c8,u9,e9,h1,h2⟩:=Rd.at_ (hW.rd 2 rfl) (k:=0) (by show 0<1;decide);cases e9;cases h1;exact h2
 obtain⟨k0,gN,hk0,hk1,hk2⟩:=lM nX;have hX0:=Lh h;obtain⟨d,hd⟩:∃d,d=S1.data:=⟨_,rfl⟩;rw[<-hd]at OE hpu hd5;have q3:IntKind.i64.wrap ((d:Int)+j)=d+j:=IntWalk.i64_in _ aD;have hc:=hck.out w [_] hX0.out;clear hR0 hC hF hT hx hk hx0 hv2 hp2 hfr hfl hn2 hs2 he hs3 h hS1 M8 hSB aCN ajR hSD aCO hjc yE hb2 hd hd5;unfold aC at*;go_enter Tryz.func118,Tryz.ntmps118;go_wp2_with(first |(go_at_call 119;refine hun.out.mono ?_;rintro e w9 ⟨rfl,a9,eG,h9⟩;clear hc;have hc:=hck.out w9 [_] h9;have JC:=hft.out _ _ eG h9;clear eG h9 hun hX0 hft)|(go_at_call 89;refine JC.mono ?_;rintro e w8 ⟨rfl,a8,ad,c9,C8,h8⟩;clear hc;have hc:=(hcd.out _ _ _ _ _ h8).2.2.2.2.2.2.2;have hV:=Lh C8;have hX:=Lh h8;clear C8 h8 JC hck));have hI0:Hid (∃a8,VC S1 a8/\Sep w0 w8 (aF f q p S1 a8::bK.box bx 118 (aO {x with aB:=[j]} (.slice (some ad) 1 c9))::bA (.slice (some ad) 1 c9) [(j:Int)]::R)):=Lh ⟨_,hV.out,hX.out⟩;clear hV hX hc;go_loopw[24] (fun i wr=>∃k:Nat,k<=1/\i=iV k/\Hid (k=0->∃a8,VC S1 a8/\Sep w0 wr (aF f q p S1 a8::bK.box bx 118 (aO {x with aB:=[j]} (.slice (some ad) 1 c9))::bA (.slice (some ad) 1 c9) [(j:Int)]::R))/\Hid (k=1->∃a8,VC SB a8/\Sep w0 wr (aF f q p SB a8::bK.box bx 118 (aO {x with aB:=[j]} (.slice (some ad) 1 c9))::bA (.slice (some ad) 1 c9) [(j:Int)]::R))) (fun i _=>1-(intOf i).toNat)
 case atStart=>exact⟨0,iF _,rfl,Lh fun _=>hI0.out,Lh fun h=>absurd h aQ⟩
 obtain⟨k,hk,rfl,hI,hJ⟩:=hrel;clear hI0;by_cases hlt:k<1
 ·(have hk0':k=0:=by omega);obtain⟨a8,C8,h8⟩:=hI.out hk0';have hcj:=hat.out _ _ _ _ h8;rw[<-hk0']at hcj;(have q1:(k:Int)<1:=by omega);(have q0:(0:Int)<=k:=by omega);replace hk0':=Lh hk0';have hV:=Lh C8;have hX:=Lh h8;clear C8 h8 hI hJ;go_wp2_with fail;refine eU (S:=fun w'=>w'.cell? ⟨bf,0,none⟩=some (pV f)) 15 fZ ?_;intro wq hwq;(have hX2:Hid (Sep w0 wq (aF f q p S1 a8::bK.box bx 118 (aO {x with aB:=[j]} (.slice (some ad) 1 c9))::bA (.slice (some ad) 1 c9) [(j:Int)]::R)):=by rw[hwq];exact Lh hX.out.drew);clear hwq hX hcj;have hc:=(hcd.out _ _ _ _ _ hX2.out).1;simp only[mK,nV,kW,Nat.reduceAdd];refine aA 0 hc ?_;refine aA 1 hc ?_;refine aA 2 hc ?_;refine aA 3 hc ?_;refine aA 4 hc ?_;refine aA 5 hc ?_;refine aA 6 hc ?_;refine aA 7 hc ?_;refine aA 8 hc ?_;refine aA 9 hc ?_;refine aA 11 hc ?_;have hmk:(Instr.makeSlice 35 (.int .i64 512) (.int .i64 512)).run Tryz.prog wq= .ok (sV wq.heap.size 512 512) (wq.alloc (.cells (madeCells #[.int .u8 0] 512) 5)):=qG (P:=Tryz.prog) 35 5 k0 (.int .u8 0) 1 Tryz.underlying35 gN hk0 hk1 hk2 rfl .i64 .i64 512 aD oH wq;have hS1:=hX2.out.made 5 (.int .u8 0) 512 oH;have h9:Hid (Sep w0 (wq.alloc (.cells (madeCells #[.int .u8 0] 512) 5)) (aL (sV wq.heap.size 512 512) cZ::aF f q p S1 a8::bK.box bx 118 (aO {x with aB:=[j]} (.slice (some ad) 1 c9))::bA (.slice (some ad) 1 c9) [(j:Int)]::R)):=Lh (by rw[dB eT,FZ];exact hS1);clear hS1;refine kP (i:=10) (j:=13) fZ rfl rfl (fun K hK=>?_) (fun K hK=>?_)
  focus
   go_simp
   go_at_call 120
   refine(OE.out wq a8 [] hV.out ((hX2.out.dE [1,2,0] aQ bM).drop 2)).mono ?_
   rintro e w6 ⟨rfl,h6⟩
   obtain rfl:=h6.symm
   dsimp only
   refine hK _ _ (fun _=>hc) ?_
   clear hK K
   try simp only[Act.put,gD]
   refine aA 12 hc ?_
   have hc8:=(hcd.out _ _ _ _ _ (h9.out.drop 1)).1
   refine aW 13 (fun _=>hc8) ?_
   clear hmk hc hc8
  rotate_left
  focus
   go_simp
   have hc8:=(hcd.out _ _ _ _ _ (h9.out.drop 1)).1
   try dsimp only
   refine hK _ _ (fun _=>hc8) ?_
   clear hK K
   try simp only[Act.put,gD]
   clear hmk hc
   refine bG 10 fun K hK=>?_
   go_simp
   go_at_call 120
   refine(OE.out _ a8 [] hV.out ((h9.out.dE [0,2,3,1] aQ bM).drop 3)).mono ?_
   rintro e w6 ⟨rfl,h6⟩
   obtain rfl:=h6.symm
   dsimp only
   refine hK _ _ (fun _=>hc8) ?_
   clear hK K
   try simp only[Act.put,gD]
   refine aA 12 hc8 ?_
   clear hc8
  all_goals
   obtain⟨g,hg⟩:∃g,g=wq.heap.size:=⟨_,rfl⟩
   obtain⟨w7,hw7⟩:∃w7,w7=wq.alloc (.cells (madeCells #[.int .u8 0] 512) 5):=⟨_,rfl⟩
   rw[<-hw7,<-hg]at h9 ⊢
   clear hw7 hg hX2
   refine bG 14 fun K hK=>?_
   go_simp
   go_at_call 88
   refine(hpu.out _ _ _ _ _ hV.out h9.out).mono ?_
   rintro e w5 ⟨rfl,a5,J8,h5⟩
   have hc5:=(hcd.out _ _ _ _ _ h5).1
   replace J8:=Lh J8
   replace h5:=Lh h5
   dsimp only
   refine hK _ _ (fun _=>hc5) ?_
   clear hK K
   try simp only[Act.put,gD]
   refine aR fZ ?_ _
   clear h9 hV hc5
   go_wp2_with fail
   exact⟨⟨k+1,by omega,rfl,Lh fun h=>absurd h aD,Lh fun _=>⟨_,J8.out,h5.out⟩⟩,by simp[intOf];omega⟩
 obtain rfl:k=1:=by omega
 obtain⟨a8,C8,h8⟩:=hJ.out rfl;have hc:=hcd.out _ _ _ _ _ h8.drew;have uT:=hkp.out _ _ _ _ C8 h8.drew;clear C8 h8 hI hJ;go_wp2_with fail;refine aJ (S:=fun w'=>w'.cell? ⟨bf,0,none⟩=some (pV f)/\w'.cell? ⟨bd,0,none⟩=some (iV dir)/\w'.cell? ⟨bp,0,none⟩=some (.string ⟨path.toArray⟩)/\w'.cell? ⟨bx,0,none⟩=some (iV 1)/\w'.cell? ⟨bx,1,none⟩=some (iV (x.mode:Nat))/\w'.cell? ⟨bx,2,none⟩=some (iV (x.links:Nat))/\w'.cell? ⟨bx,3,none⟩=some (iV (x.size:Nat))/\w'.cell? ⟨bx,4,none⟩=some (.slice (some ad) 1 c9)) 7 ?_;refine aA 0 hc ?_;refine aA 1 hc ?_;refine aA 2 hc ?_;refine aA 3 hc ?_;refine aA 4 hc ?_;refine aA 5 hc ?_;refine bG 6 fun K hK=>?_
 go_simp;go_at_call 90;refine uT.mono ?_;rintro e w7 ⟨rfl,aK,hCK,h7⟩;clear hc uT;have hc7:=hcd.out _ _ _ _ _ h7;have hV:=Lh hCK;have hX:Hid (Sep w0 w7 (aF f q p SD aK::R)):=Lh ((h7.dE [1,2,0] aQ bM).drop 2);clear hCK h7;dsimp only;refine hK _ _ (fun _=>hc7) ?_;clear hK K;try simp only[Act.put,gD]
 refine aR fZ ?_ _;have hc0:=hc7.2.2.2.1;clear hc7;go_wp2_with fail;clear hc0;have hc:=hR.out w7.drew [_] hX.out.drew;refine aJ (S:=fun w'=>w'.cell? ⟨bf,0,none⟩=some (pV f)/\w'.cell? ⟨bd,0,none⟩=some (iV dir)/\w'.cell? ⟨bp,0,none⟩=some (.string ⟨path.toArray⟩)) 8 ?_;refine aA 0 hc ?_;refine aA 1 hc ?_;refine aA 2 hc ?_;refine aA 3 hc ?_;refine aA 4 hc ?_;refine aA 6 hc ?_;refine bG 5 fun K hK=>?_
 go_simp;go_at_call 101;refine(PW.out _).mono ?_;rintro e v9 ⟨rfl,J7⟩;replace hX:=Lh (hX.out.drew.pure J7);have jC:=hR.out v9 [_] hX.out;clear hc J7;dsimp only;refine hK _ _ (fun _=>jC) ?_;clear hK K;try simp only[Act.put,gD]
 refine bG 7 fun K hK=>?_
 exact Z87
end
end Go.Proofs.YteihmbaimbogaaaGreat
namespace Go.Proofs.YteihmbaimbogaaaGreat
def lN (L:wM) (i:Nat):wM:=(L.set i (vC L (L.length-1))).dropLast
theorem ayD {L:wM} {i:Nat} (h:i<L.length):L[i]? =some (vC L i):=by rw[gE h,wN h]
theorem qV {L:wM} {i:Nat}:(lN L i).length=L.length-1:=by unfold lN;rw[ad5,uR]
theorem afK {L:wM} {i n:Nat} (hn:L.length=n+1):lN L i=(List.range n).map fun k=>if k=i then vC L n else vC L k:=by
 unfold lN;apply DN;intro k;rw[List.getElem?_dropLast,uR,lQ,hn,QX];by_cases hk:k<n
 ·rw[if_pos hk,adX hk,PQ,amB];by_cases e:i=k
  ·rw[if_pos e,if_pos e.symm,if_pos aD]
  rw[if_neg e,if_neg (fun h=>e h.symm),ayD aD]
 rw[if_neg hk,D7 (by rw[QY];omega)];rfl
theorem as6 {A:wM} {z:List UInt8×Nat} {i:Nat} (h:i<A.length):(A++[z]).Perm (vC A i::A.set i z):=by
 have e1:A=A.take i++vC A i::A.drop (i+1):=by
  conv=>lhs;rw[<-DL i A]
  congr 1;rw[WX h,wN h]
 have e2:A.set i z=A.take i++z::A.drop (i+1):=by rw[List.set_eq_take_append_cons_drop,if_pos h]
 rw[e2]
 conv=>lhs;rw[e1]
 rw[uN,pF];refine rF.trans (List.Perm.cons _ ?_);refine YD _ ?_;exact aiX _ _
theorem vN {L:wM} {i:Nat} (h:i<L.length):L.Perm (vC L i::lN L i):=by
 rcases al3 L with e|⟨A,z,e⟩
 ·subst e;simp at h
 rw[al4]at e;subst e;rw[kN,xL]at h;have ez:vC (A++[z]) A.length=z:=by unfold vC;rw[gH,D6 (jL _),oO];rfl
 unfold lN;rw[kN,xL,QX,ez];by_cases e:i=A.length
 ·rw[e,QT _ _ (jL _),oO,yQ,WY,ez];exact aiX _ _
 have hi:i<A.length:=by omega
 rw[List.set_append_left _ _ hi,WY];have e2:vC (A++[z]) i=vC A i:=by unfold vC;rw[gH,gH,G8 hi]
 rw[e2];exact as6 hi
theorem abL {S S1:VS} {l l1:List Nat} {n:Nat} (h:fA S) (hl:∀s∈l,s<S.count/\S.bit s=true) (hn:l.Nodup) (hf:lD S l n=some (S1,l1)):
  fA S1/\l1.length=n/\(∀s∈l1,s<S.count)/\l1.Nodup/\(∀s∈l1,s∈l\/S.bit s=false)/\∀i,S1.bit i=((S.bit i&& !decide (i∈l))||decide (i∈l1)):=by
 have hlen:=(kF hf).2;by_cases hle:n<=l.length
 ·(obtain⟨S2,h1,h2,h3⟩:=ae9 h hle fun s hs=>(hl s hs).1);rw[h1]at hf;cases hf;refine⟨h2,hlen,fun s hs=>(hl s (MP hs)).1,hn.sublist (amC _ _),fun s hs=>.inl (MP hs),fun i=>?_⟩;rw[h3];have hsp:l.take n++l.drop n=l:=DL n l;by_cases h4:i∈l.take n
  ·(have h5:i∉l.drop n:=fun h6=>by have:=hn;rw[<-hsp,xM]at this;exact this.2.2 i h4 i h6 rfl);have h7:S.bit i=true:=(hl i (MP h4)).2;simp[h4,h5,h7]
  by_cases h5:i∈l.drop n
  ·have h6:i∈l:=List.mem_of_mem_drop h5;simp[h4,h5,h6]
  have h6:i∉l:=fun h7=>by
   rw[<-hsp,gX]at h7;rcases h7 with h7|h7
   ·exact h4 h7
   exact h5 h7
  simp[h4,h5,h6]
 obtain⟨h1,t,h2,h3,h4,h5,h6⟩:=(SQ h aD).1 S1 l1 hf;have hdj:∀s∈l,s∉t:=fun s hs hs2=>by have:=(hl s hs).2;rw[(h5 s hs2).2]at this;cases this
 refine⟨h1,hlen,fun s hs=>?_,?_,fun s hs=>?_,fun i=>?_⟩
 ·rw[h2]at hs;rcases gX.1 hs with hs|hs
  ·exact(hl s hs).1
  exact(h5 s hs).1
 ·rw[h2,xM];exact⟨hn,h4,fun a ha b hb e=>hdj a ha (by rw[e];exact hb)⟩
 ·rw[h2]at hs;rcases gX.1 hs with hs|hs
  ·exact .inl hs
  exact .inr (h5 s hs).2
 rw[h6,h2];by_cases h7:i∈l
 ·have:=(hl i h7).2;simp[h7,this]
 simp[h7]
theorem dK.TI {S:VS} {g:LT} (h:dK S g) {n:Nat} (hn:n<S.names):∀s∈(aH S.cur n).aB,s<S.count/\S.bit s=true:=fun s hs=>⟨h.lt n hn s hs,h.vW hn hs⟩
theorem dK.TJ {S T:VS} {g:LT} (h:dK S g) {n:Nat} (hn:n<S.names) {l1:List Nat} (hb:∀i,T.bit i=((S.bit i&& !decide (i∈(aH S.cur n).aB))||decide (i∈l1))) {j:Nat} (hj:j<S.count):
  T.bit j=true↔j∈l1\/∃m<S.names,m≠n/\j∈(aH S.cur m).aB:=by
 rw[hb,PR,tJ,uP,h.afE hn hj];constructor
 ·rintro(⟨h1|h1,h2⟩|h1)
  ·simp[h1]at h2
  ·exact .inr h1
  exact .inl h1
 rintro(h1|⟨m,hm,e,h1⟩)
 ·exact .inr h1
 refine .inl ⟨.inr ⟨m,hm,e,h1⟩,?_⟩;have:=h.others hn m hm e j h1;simp[this]
theorem dK.abM {S:VS} {g:LT} (h:dK S g) {n:Nat} (hn:n<S.names) {l1:List Nat} (hb:∀s∈l1,s∈(aH S.cur n).aB\/S.bit s=false):∀m<S.names,m≠n->∀s∈(aH S.cur m).aB,s∉l1:=fun m hm e s hs hs2=>by
 rcases hb s hs2 with h1|h1
 ·exact h.others hn m hm e s hs h1
 rw[h.vW hm hs]at h1;cases h1
def LI.less (x:LI) (i:Nat):LI:= {x with bJ:=lN x.bJ i}
theorem QF {L:wM} {i:Nat} (h:i<L.length):vC L i∈L:=by rw[<-wN h];exact tK h
theorem LI.aoR {x:LI} (h:x.fair) (hk:x.kind=1) {i:Nat} (hi:i<x.bJ.length):(x.less i).fair:=
 ⟨h.kind,fun e=>absurd hk e,h.data,by show(lN x.bJ i).length<=448;rw[qV];have:=h.few;omega,h.short,h.mode,h.links,fun e he=>h.names e ((vN hi).mem_iff.2 (AY _ he))⟩
theorem dK.leave {S:VS} {g:LT} (h:dK S g) {dir i:Nat} {name:List UInt8} (hd:dir<S.names) (hk:(g dir).kind=1) (hi:i<(g dir).bJ.length) (hf:(lW (g dir).bJ name).1=i):
  dK (dH S dir name) (dS g dir ((g dir).less i)):=by
 have hx:=h.head dir hd;have hsize:(aH S.cur dir).size=(g dir).bJ.length:=by rw[h.size hd,wW hk]
 have hlen:(aH S.cur dir).aB.length=max 1 (((g dir).bJ.length+15)/16):=by rw[h.len dir hd,mP hk]
 have afL:=h.bJ dir hd hk;have hfair:=LI.aoR (h.fair dir hd) hk hi;have qJ:=(h.fair dir hd).few;have hnm:=(h.fair dir hd).names;obtain⟨n,hn⟩:∃n,(g dir).bJ.length=n+1:=⟨(g dir).bJ.length-1,by omega⟩;obtain⟨L,hL⟩:∃L,L=(g dir).bJ:=⟨_,rfl⟩;rw[<-hL]at hn afL hnm hi hf;obtain⟨sp,hsp⟩:∃sp,sp=(aH S.cur dir).aB:=⟨_,rfl⟩;have KW:((g dir).less i).need=max 1 ((n+15)/16):=by rw[mP (show((g dir).less i).kind=1 from hk)];(show max 1 (((lN (g dir).bJ i).length+15)/16)=_);rw[qV,<-hL,hn,QX]
 rw[<-hL,hn]at hsize hlen;rw[<-hsp]at hlen
 --the entries
 obtain⟨e,he⟩:∃e,e=vC L n:=⟨_,rfl⟩;have hem:e∈L:=by rw[he];exact QF aD
 obtain⟨he1,he2⟩:=hnm e hem;have XI:=h.TI hd;rw[<-hsp]at XI;have aoS:=h.nodup dir hd;rw[<-hsp]at aoS;obtain⟨S1,hS1⟩:∃S1,S1=S.jA (sp.getD (i/16) 0) i e.1 e.2:=⟨_,rfl⟩;obtain⟨S2,hS2⟩:∃S2,S2=S1.jA (sp.getD (n/16) 0) n [] 0:=⟨_,rfl⟩;have aHG:i/16<sp.length:=by omega
 have hn16:n/16<sp.length:=by omega
 have hu1:fA S1:=by rw[hS1];exact h.use.jA (XI _ (wV aHG)).1 _ _ he1
 have hm1:Mid S S1:=by rw[hS1]at hu1 ⊢;exact Mid.laid (Laid.jA S _ _ _ _) hu1
 have hu2:fA S2:=by rw[hS2];exact hu1.jA (by rw[hm1.count];exact(XI _ (wV hn16)).1) _ _ bM
 have hm2:Mid S S2:=by rw[hS2]at hu2 ⊢;exact hm1.trans (Mid.laid (Laid.jA S1 _ _ _ _) hu2)
 have aM6:S2.nodes=S.nodes:=by rw[hS2,hS1];rfl
 have aBN:∀j,S2.bit j=S.bit j:=fun j=>by rw[hS2,SY hu1,hS1,SY h.use]
 have hblk2:∀s,s∉sp->bk S2.cur (S.data+s)=bk S.cur (S.data+s):=fun s hs=>by(have e1:bk S2.cur (S1.data+s)=bk S1.cur (S1.data+s):=by rw[hS2];exact KV S1 _ _ _ fun e=>hs (by rw[e];exact wV hn16));(have e2:bk S1.cur (S.data+s)=bk S.cur (S.data+s):=by rw[hS1];exact KV S _ _ _ fun e=>hs (by rw[e];exact wV aHG));rw[hm1.data]at e1;rw[e1,e2]
 have aHH:∀k,k<n->∀x:VI,x.aB=sp->iL S2.cur S.data x k=if k=i then DU e.1 e.2 else iL S.cur S.data x k:=fun k hk2 x hxs=>by(have k16:k<16*sp.length:=by omega);(have e1:iL S2.cur S1.data x k=if k=n then DU [] 0 else iL S1.cur S1.data x k:=by have:=TA (S:=S1) hu1 (x:=x) (by rw[hxs];exact aoS) (i:=n) (k:=k) (n:=0) (name:=[]) (by rw[hxs];omega) (by rw[hxs];omega) (by rw[hxs,hm1.count];exact fun s hs=>(XI s hs).1) bM;rw[hxs]at this;rw[hS2];exact this);(have e2:iL S1.cur S.data x k=if k=i then DU e.1 e.2 else iL S.cur S.data x k:=by have:=TA (S:=S) h.use (x:=x) (by rw[hxs];exact aoS) (i:=i) (k:=k) (n:=e.2) (name:=e.1) (by rw[hxs];omega) (by rw[hxs];omega) (by rw[hxs];exact fun s hs=>(XI s hs).1) he1;rw[hxs]at this;rw[hS1];exact this);rw[hm1.data]at e1;rw[e1,if_neg aD,e2]
 --the fit
 have aHI:fA (S2.node (S2.nodes-1)):=(Mid.node hu2 _).use;obtain⟨S4,fC⟩:∃S4,lD (S2.node (S2.nodes-1)) sp (max 1 ((n+15)/16))=some (S4,sp.take (max 1 ((n+15)/16))):=by(obtain⟨S4,h4,_⟩:=ae9 aHI (l:=sp) (n:=max 1 ((n+15)/16)) aD fun s hs=>by(show s<S2.count);rw[hm2.count];exact(XI s hs).1);exact⟨S4,h4⟩
 obtain⟨hu4,hl4,aHJ,aHK,aM7,hb4⟩:=abL aHI (l:=sp) (fun s hs=>⟨by show s<S2.count;rw[hm2.count];exact(XI s hs).1,by show S2.bit s=true;rw[aBN];exact(XI s hs).2⟩) aoS fC;have QD:=(kF fC).1;have hm4:Mid S S4:=hm2.trans ((Mid.node hu2 _).trans (Mid.used QD hu4));obtain⟨l,hl⟩:∃l,l=sp.take (max 1 ((n+15)/16)):=⟨_,rfl⟩;rw[<-hl]at hl4 aHJ aHK aM7 hb4 fC;have hleave:dH S dir name=S4.keep dir (((g dir).less i).vi l):=by unfold dH JD;simp only;rw[afL,hf,nA,hsize,QX,<-hsp,<-he,<-hS1,<-hS2,show n+1+14=n+15 by omega,fC];simp only;congr 1;rw[hx];unfold LI.vi LI.less;simp only[VI.mk.injEq,true_and,and_true];unfold LI.size;rw[if_pos hk,qV,<-hL,hn];rfl
 rw[hleave];have hlt:∀s∈l,s<S.count:=fun s hs=>by have:=aHJ s hs;rw[show(S2.node (S2.nodes-1)).count=S2.count from rfl,hm2.count]at this;exact this
 have hsub:∀s∈l,s∈sp:=fun s hs=>by rw[hl]at hs;exact MP hs
 refine h.step hd (Step.keep h hd hm4 hfair (by rw[KW];exact hl4) hlt aHK (h.abM hd fun s hs=>.inl (by rw[<-hsp];exact hsub s hs)) (fun j hj=>h.TJ hd (l1:=l) (fun t=>?_) hj) (fun m hmm e2 s hs=>?_) (fun _=>?_) (fun k2=>?_) ?_)
 ·rw[hb4];(show((S2.bit t&& !decide (t∈sp))||decide (t∈l))=_);rw[aBN,<-hsp]
 ·(have h1:bk S4.cur (S.data+s)=bk S2.cur (S.data+s):=by have:=vX QD s;rw[show(S2.node (S2.nodes-1)).data=S2.data from rfl,hm2.data]at this;exact this);rw[h1];exact hblk2 s fun h2=>h.others hd m hmm e2 s hs (by rw[<-hsp];exact h2)
 ·(have hvs:(((g dir).less i).vi l).size=n:=by(show((g dir).less i).size=n);unfold LI.size;rw[if_pos (show((g dir).less i).kind=1 from hk)];(show(lN (g dir).bJ i).length=n);rw[qV,<-hL,hn];rfl);unfold lS;rw[hvs];(show _=lN (g dir).bJ i);rw[<-hL,afK hn];(refine BA fun k hk3=>?_);have hk4:=List.mem_range.1 hk3;(have hkl:k/16<l.length:=by rw[hl4];omega);(have h1:iL S4.cur S.data (((g dir).less i).vi l) k=iL S2.cur S.data (aH S.cur dir) k:=by unfold iL;(show DT (bk S4.cur (S.data+l.getD (k/16) 0)) k=DT (bk S2.cur (S.data+(aH S.cur dir).aB.getD (k/16) 0)) k);(have e3:l.getD (k/16) 0=sp.getD (k/16) 0:=by rw[hl,gH,gH,vI,if_pos (by rw[hl4]at hkl;exact hkl)]);(have e4:bk S4.cur (S.data+sp.getD (k/16) 0)=bk S2.cur (S.data+sp.getD (k/16) 0):=by have:=vX QD (sp.getD (k/16) 0);rw[show(S2.node (S2.nodes-1)).data=S2.data from rfl,hm2.data]at this;exact this);rw[e3,e4,hsp]);rw[h1,aHH k hk4 _ hsp.symm];(have hLk:(enN (iL S.cur S.data (aH S.cur dir) k),enI (iL S.cur S.data (aH S.cur dir) k))=vC L k:=by rw[<-afL,FV (by rw[hsize];omega)]);by_cases e5:k=i
  ·rw[if_pos e5,if_pos e5,afC he1,afD he1 he2,<-he]
  rw[if_neg e5,if_neg e5];exact hLk
 ·exact absurd (show(g dir).kind=2 from k2) aD
 show S4.nodes=S.nodes-((g dir).bJ.length:Nat)+((lN (g dir).bJ i).length:Nat)
 rw[QD.nodes,qV,<-hL,hn];show S2.nodes-1=_
 rw[aM6];omega
theorem afM :LI0.fair:=⟨by decide,fun _=>rfl,fun _=>rfl,by decide,by decide,by decide,by decide,fun e he=>by cases he⟩
theorem dK.drop {S:VS} {g:LT} (h:dK S g) {n:Nat} (hn:n<S.names) (he:(g n).bJ=[]):dK (oF S n) (dS g n LI0):=by
 obtain⟨S1,h1,h2⟩:=EJ (S:=S) (n:=n);rw[h2];obtain⟨hu,hl,hlt,hnd,hor,hb⟩:=abL h.use (h.TI hn) (h.nodup n hn) h1;have QD:=(kF h1).1;have hm:Mid S S1:=Mid.used QD hu;refine h.step (x:=LI0) (l:=[]) hn (Step.keep (x:=LI0) (l:=[]) h hn hm afM rfl (fun s hs=>by cases hs) .nil (h.abM hn fun s hs=>by cases hs) (fun j hj=>h.TJ hn hb hj) (fun m hmm e s hs=>vX QD s) (fun k=>by cases k) (fun k=>by cases k) ?_);rw[QD.nodes,he];show S.nodes=S.nodes-0+0
 omega
theorem as7 :cZ.length=512:=eT
theorem dK.as8 {S:VS} {g:LT} (h:dK S g) {n mode links:Nat} (hn:n<S.names) (h0:(g n).kind=0) (hm:mode<65536) (hl:links<65536):
  (∀j,lH (bk S.cur 1) S.count=some j->dK (lY S n ⟨1,mode,links,0,[]⟩ j) (dS g n ⟨1,mode,links,[],[]⟩))/\
  (lH (bk S.cur 1) S.count=none->S.count<qU (dS g n ⟨1,mode,links,[],[]⟩) S.names):=by
 have he:(g n).bJ=[]:=(h.fair n hn).bJ aD;have hz:(aH S.cur n).aB=[]:=zC (by rw[h.len n hn];unfold LI.need;rw[if_neg aD,if_neg aD]);have hf:(⟨1,mode,links,[],[]⟩:LI).fair:=⟨Nat.le_succ 1,fun e=>absurd rfl e,fun _=>rfl,iF _,iF _,hm,hl,fun e he=>by cases he⟩;constructor
 ·intro j hj;obtain⟨hj1,hj2,_⟩:=BI hj;have aHL:S.bit j=false:=hj2;have hu1:=h.use.set j;have hm1:Mid S (S.put 1 (mI (bk S.cur 1) j)):=⟨hu1,rfl,rfl,fun m _=>by unfold aH;(show FY (((bk (S.cur.set 1 _) (2+m/8)).drop (m%8*64)).take 64)=_);rw[dN _ _ aD],rfl,rfl⟩;have hu2:fA (iD S j):=hu1.put _ as7;have hm2:Mid S (iD S j):=hm1.trans ⟨hu2,rfl,rfl,fun m hmm=>by unfold aH iD;(show FY (((bk ((S.put 1 (mI (bk S.cur 1) j)).cur.set ((S.put 1 (mI (bk S.cur 1) j)).data+j) cZ) (2+m/8)).drop (m%8*64)).take 64)=_);rw[dN _ _ (by have:m<S.names:=hmm;show 2+m/8≠S.data+j;unfold VS.data;omega)],rfl,rfl⟩;(have hbit:∀i,(iD S j).bit i=(decide (i=j)||S.bit i):=fun i=>by(have e1:(iD S j).bit i=(S.put 1 (mI (bk S.cur 1) j)).bit i:=by(show rG (bk ((S.put 1 (mI (bk S.cur 1) j)).cur.set (S.data+j) cZ) 1) i=_);rw[dN _ _ (by unfold VS.data;omega)];rfl);rw[e1,KT h.use hj1]);(have hblk:∀s,s≠j->bk (iD S j).cur (S.data+s)=bk S.cur (S.data+s):=fun s hs=>by(show bk ((S.cur.set 1 _).set (S.data+j) cZ) (S.data+s)=_);rw[dN _ _ aD,dN _ _ (by unfold VS.data;omega)]);refine h.step (x:=⟨1,mode,links,[],[]⟩) (l:=[j]) hn (Step.keep (x:=⟨1,mode,links,[],[]⟩) (l:=[j]) h hn hm2 hf (by simp[LI.need]) (fun s hs=>by rw[BB]at hs;rw[hs];exact hj1) bM (fun m hmm e s hs hs2=>?_) (fun i hi=>?_) (fun m hmm e s hs=>hblk s fun e2=>?_) (fun _=>rfl) (fun k=>by cases k) ?_)
  ·rw[BB]at hs2;have:=h.vW hmm hs;rw[hs2,aHL]at this;cases this
  ·rw[hbit,PR,uP,h.afE hn hi,hz,BB];simp
  ·have:=h.vW hmm hs;rw[e2,aHL]at this;cases this
  rw[he];(show S.nodes=S.nodes-0+0);omega
 intro hno;have h1:=h.used [] fun j hj=>.inl (SN hno j hj)
 have h2:=zO hn (⟨1,mode,links,[],[]⟩:LI) (g:=g);have h3:(g n).need=0:=by unfold LI.need;rw[if_neg aD,if_neg aD]
 have h4:(⟨1,mode,links,[],[]⟩:LI).need=1:=by simp[LI.need]
 rw[h3,h4]at h2;simp at h1;omega
end Go.Proofs.YteihmbaimbogaaaGreat
