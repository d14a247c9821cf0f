/- Parts. -/
import Derived.Test.YtmjomdkleikgbaaGreatJ17
import Derived.Test.YtmjomdkleikgbaaGreatJ18
set_option linter.unusedVariables false
set_option linter.unusedSimpArgs false
set_option maxRecDepth 100000
set_option maxHeartbeats 20000000
namespace Go.Proofs.YtmjomdkleikgbaaGreat
open Go.RowKit
def l9 (S:VS) (n:Nat) (x:VI) (bs:List UInt8) (dir:Nat) (name:List UInt8):Option VS:=
 match mM (S.keep n x) n bs with
 |none=>none
 |some S2=>gV S2 dir name n
def gN (S:VS) (j:Nat):VS:=(S.put 1 (kU (bk S.cur 1) j)).put ((S.put 1 (kU (bk S.cur 1) j)).data+j) bX
def kJ (S:VS) (n:Nat) (x:VI) (j:Nat):VS:=(gN S j).keep n {x with aB:=[j]}
def lH (S:VS) (x:VI) (bs:List UInt8) (dir:Nat) (name:List UInt8):Option VS:=
 match l6 S.cur S.names with
 |none=>none
 |some n=>if x.kind=1 then
   match jX (bk S.cur 1) S.count with
   |none=>none
   |some j=>gV (kJ S n x j) dir name n
  else l9 S n x bs dir name
theorem P6 {c:fZ} {names n:Nat} (h:l6 c names=some n):n<names:=by have:=TJ h;exact List.mem_range.1 this
theorem VZ {bs:List UInt8} {m j:Nat} (h:jX bs m=some j):j<m:=by have:=TJ h;exact List.mem_range.1 this
section
variable {w0 w:World} {R:List aZ} {f q p:Nat} {S:VS} {a:VA}
theorem agD {bf bx bb bd bp:Nat} (hbf:∀W Y,Sep w0 W (Y++R)->W.cell? ⟨bf,0,none⟩=some (pV f))
  (hC:VC S a) (hF:VF S) (hT:P7 S.cur S.names) (hfr:l6 S.cur S.names=none) (h:Sep w0 w (aF f q p S a::R)):
  Calls Tryz.prog 140 #[pV bf,pV bx,pV bb,pV bd,pV bp] w (fO f q p S none w0 R):=by
 have hc:w.cell? ⟨bf,0,none⟩=some (pV f):=hbf w [_] h;have hun:Calls Tryz.prog 141 #[pV f] w (fO f q p S none w0 R):=by refine(P8 hC hF hT h).mono ?_;intro e w' ho;unfold qY at ho;rw[hfr]at ho;obtain⟨rfl,a',h1,h2⟩:=ho;unfold fO;exact⟨rfl,S,a',.refl _,h1.ok,h2⟩
 clear hbf hC hF hT hfr h;unfold fO at*;go_enter Tryz.func140,Tryz.ntmps140;go_wp2_with(go_at_call 141;refine hun.mono ?_;rintro e w9 ⟨rfl,hend⟩;replace hend:=Lh hend;clear hun);exact⟨rfl,rfl,hend.out⟩
theorem Z60 {P:Prop} (h:P:=by refine(P8 hC hF hT h).mono ?_;intro e w' ho;unfold qY at ho;rw[hfr]at ho;obtain⟨rfl,a',h1,h2⟩:=ho;exact⟨rfl,a',h1.ok,h2⟩):P:=h
theorem agE {bf bx bb bd bp n dir L c0:Nat} {A0:Option Addr} {x:VI} {bs path:List UInt8} (hR0:∀W Y,Sep w0 W (Y++R)->W.cell? ⟨bf,0,none⟩=some (pV f)/\W.cell? ⟨bb,0,none⟩=some (.slice A0 L c0)/\W.cell? ⟨bd,0,none⟩=some (iV dir)/\W.cell? ⟨bp,0,none⟩=some (aC path)/\W.cell? ⟨bx,0,none⟩=some (iV 2)/\W.cell? ⟨bx,1,none⟩=some (iV (x.mode:Nat))/\W.cell? ⟨bx,2,none⟩=some (iV (x.links:Nat))/\W.cell? ⟨bx,3,none⟩=some (iV (x.size:Nat))/\W.cell? ⟨bx,4,none⟩=some (.slice none 0 0))
  (hC:VC S a) (hF:VF S) (hT:P7 S.cur S.names) (hx:x.ok) (hk:x.kind=2) (hx0:x.aB=[]) (hbs:bs.length<=8192) (hv:jG w0 R (.slice A0 L c0) bs) (hv2:aU path=true) (hp2:path.length<=1048576) (hs:gL S) (h0:yZ w0 R (.slice none 0 0) [])
  (hfr:l6 S.cur S.names=some n) (hn2:pW (S.keep n x) n) (hs2:gL (S.keep n x)) (ap6:∀S2,mM (S.keep n x) n bs=some S2->eZ S S2/\oF S2 dir n (aL path)/\lT S2) (h:Sep w0 w (aF f q p S a::R)):
  Calls Tryz.prog 140 #[pV bf,pV bx,pV bb,pV bd,pV bp] w (fO f q p S (l9 S n x bs dir (aL path)) w0 R):=by
 have hR:=Lh hR0;obtain⟨SK,hSK⟩:∃SK,SK=S.keep n x:=⟨_,rfl⟩;have P5:Hid (eZ S SK):=by rw[hSK];exact Lh ((eZ.refl S).keep _ _)
 have hun:Hid (Calls Tryz.prog 141 #[pV f] w fun e w'=>e= .returned (iV n)/\∃a',VC S a'/\Sep w0 w' (aF f q p S a'::R)):=Lh (by exact Z60);have hkp:Hid (∀W a1,VC S a1->Sep w0 W (aF f q p S a1::R)->Calls Tryz.prog 100 #[pV f,iV n,.agg #[iV 2,iV (x.mode:Nat),iV (x.links:Nat),iV (x.size:Nat),.slice none 0 0]] W fun e w'=>e= .returned (.tuple #[])/\∃a',VC SK a'/\Sep w0 w' (aF f q p SK a'::R)):=Lh fun W a1 h1 h2=>by rw[hSK];have h3:=uO (x:=x) (v:=.slice none 0 0) h1 hF (P6 hfr) hx (hT n (P6 hfr)) hs (by rw[hx0];exact h0) h2;unfold fJ aN at h3;rw[hk]at h3;exact h3
 rw[<-hSK]at hn2 hs2 ap6;have MS:Hid (∀W,Calls Tryz.prog 121 #[aC path] W fun e w'=>e= .returned (aC (aL path))/\Below W.heap.size W w'):=Lh fun W=>uS hv2 hp2 W
 have hfi:Hid (∀W a1,VC SK a1->Sep w0 W (aF f q p SK a1::R)->Calls Tryz.prog 75 #[pV f,iV n,.slice A0 L c0] W (fO f q p SK (mM SK n bs) w0 R)):=Lh fun W a1 h1 h2=>
  apE h1 (P5.out.vf hF) hn2.lt hn2.few hn2.sp hs2 hbs hv h2
 have hX0:=Lh h;have hF':=Lh hF;have hres:Hid (l9 S n x bs dir (aL path)=match mM SK n bs with|none=>none|some S2=>gV S2 dir (aL path) n):=Lh (by unfold l9;rw[<-hSK]);obtain⟨rA,hrA⟩:∃r,r=l9 S n x bs dir (aL path):=⟨_,rfl⟩;rw[<-hrA]at hres ⊢;obtain⟨b2,hb2⟩:∃b,b=aL path:=⟨_,rfl⟩;rw[<-hb2]at MS ap6 hres;clear hR0 hC hF hT hx hx0 hbs hv hv2 hp2 hs h0 hfr hn2 hs2 h hSK hrA hb2 hk;cases hfp:mM SK n bs with
 |none=>rw[hfp]at hfi hres;have hrr:rA=none:=hres.out;subst hrr;clear ap6 hres MS hF' hfp;unfold fO at hfi;unfold aC at*;go_enter Tryz.func140,Tryz.ntmps140;have hc:=hR.out w [_] hX0.out;go_wp2_with(go_at_call 141;refine hun.out.mono ?_;rintro e w9 ⟨rfl,a9,eP,h9⟩;clear hc;have hc:=hR.out w9 [_] h9;have hV:=Lh eP;have hX:=Lh h9;clear eP h9 hun hX0);have gZ:=hR.out w9.drew [_] hX.out.drew;clear hc;refine aP (S:=fun w'=>w'.cell? ⟨bf,0,none⟩=some (pV f)/\w'.cell? ⟨bb,0,none⟩=some (.slice A0 L c0)/\w'.cell? ⟨bd,0,none⟩=some (iV dir)/\w'.cell? ⟨bp,0,none⟩=some (.string ⟨path.toArray⟩)/\w'.cell? ⟨bx,0,none⟩=some (iV 2)/\w'.cell? ⟨bx,1,none⟩=some (iV (x.mode:Nat))/\w'.cell? ⟨bx,2,none⟩=some (iV (x.links:Nat))/\w'.cell? ⟨bx,3,none⟩=some (iV (x.size:Nat))/\w'.cell? ⟨bx,4,none⟩=some (.slice none 0 0)) 7 ?_;refine aA 0 gZ ?_;refine aA 1 gZ ?_;refine aA 2 gZ ?_;refine aA 3 gZ ?_;refine aA 4 gZ ?_;refine aA 5 gZ ?_;(refine bI 6 fun K hK=>?_);go_simp;go_at_call 100;refine(hkp.out _ _ hV.out hX.out.drew).mono ?_;rintro e w8 ⟨rfl,aK,hCK,h8⟩;clear gZ;have hc8:=hR.out w8 [_] h8;replace hX:=Lh h8;replace hV:=Lh hCK;clear hCK h8 hkp;dsimp only;refine hK _ _ (fun _=>hc8) ?_;clear hK K;(try simp only[Act.put,gD]);refine aQ fH ?_ _;go_wp2_with fail;clear hc8;have gZ:=hR.out w8.drew [_] hX.out.drew;refine aP (S:=fun w'=>w'.cell? ⟨bf,0,none⟩=some (pV f)/\w'.cell? ⟨bb,0,none⟩=some (.slice A0 L c0)/\w'.cell? ⟨bd,0,none⟩=some (iV dir)/\w'.cell? ⟨bp,0,none⟩=some (.string ⟨path.toArray⟩)/\w'.cell? ⟨bx,0,none⟩=some (iV 2)/\w'.cell? ⟨bx,1,none⟩=some (iV (x.mode:Nat))/\w'.cell? ⟨bx,2,none⟩=some (iV (x.links:Nat))/\w'.cell? ⟨bx,3,none⟩=some (iV (x.size:Nat))/\w'.cell? ⟨bx,4,none⟩=some (.slice none 0 0)) 7 ?_;refine aA 0 gZ ?_;refine aA 1 gZ ?_;refine aA 2 gZ ?_;refine aA 3 gZ ?_;refine aA 4 gZ ?_;refine aA 5 gZ ?_;(refine bI 6 fun K hK=>?_);go_simp;go_at_call 75;refine(hfi.out _ _ hV.out hX.out.drew).mono ?_;rintro e w7 ⟨rfl,T,aT,hLT,hCT,hT⟩;unfold fO;exact⟨rfl,rfl,T,aT,P5.out.trans hLT,hCT,hT⟩
 |some S2=>
  obtain⟨hl2,he2,hs2⟩:=ap6 S2 hfp;rw[hfp]at hfi hres;obtain⟨rX,wD⟩:∃r,r=gV S2 dir b2 n:=⟨_,rfl⟩;(have hrr:rA=rX:=by rw[wD];exact hres.out);subst hrr;(have hen:Hid (∀W a1,VC S2 a1->Sep w0 W (aF f q p S2 a1::R)->Calls Tryz.prog 125 #[pV f,iV dir,aC b2,iV n] W (fO f q p S2 rA w0 R)):=Lh fun W a1 h1 h2=>by rw[wD];exact HV h1 (hl2.vf hF'.out) he2 hs2 h2);replace hl2:=Lh hl2;clear ap6 hres hF' hfp he2 hs2 wD;unfold fO at hfi;unfold aC at*;obtain⟨rX,wD⟩:∃r,r=rA:=⟨_,rfl⟩;subst wD;go_enter Tryz.func140,Tryz.ntmps140;have hc:=hR.out w [_] hX0.out;go_wp2_with(go_at_call 141;refine hun.out.mono ?_;rintro e w9 ⟨rfl,a9,eP,h9⟩;clear hc;have hc:=hR.out w9 [_] h9;have hV:=Lh eP;have hX:=Lh h9;clear eP h9 hun hX0);have gZ:=hR.out w9.drew [_] hX.out.drew;clear hc;refine aP (S:=fun w'=>w'.cell? ⟨bf,0,none⟩=some (pV f)/\w'.cell? ⟨bb,0,none⟩=some (.slice A0 L c0)/\w'.cell? ⟨bd,0,none⟩=some (iV dir)/\w'.cell? ⟨bp,0,none⟩=some (.string ⟨path.toArray⟩)/\w'.cell? ⟨bx,0,none⟩=some (iV 2)/\w'.cell? ⟨bx,1,none⟩=some (iV (x.mode:Nat))/\w'.cell? ⟨bx,2,none⟩=some (iV (x.links:Nat))/\w'.cell? ⟨bx,3,none⟩=some (iV (x.size:Nat))/\w'.cell? ⟨bx,4,none⟩=some (.slice none 0 0)) 7 ?_;refine aA 0 gZ ?_;refine aA 1 gZ ?_;refine aA 2 gZ ?_;refine aA 3 gZ ?_;refine aA 4 gZ ?_;refine aA 5 gZ ?_;(refine bI 6 fun K hK=>?_);go_simp;go_at_call 100;refine(hkp.out _ _ hV.out hX.out.drew).mono ?_;rintro e w8 ⟨rfl,aK,hCK,h8⟩;clear gZ;have hc8:=hR.out w8 [_] h8;replace hX:=Lh h8;replace hV:=Lh hCK;clear hCK h8 hkp;dsimp only;refine hK _ _ (fun _=>hc8) ?_;clear hK K;(try simp only[Act.put,gD]);refine aQ fH ?_ _;go_wp2_with fail;clear hc8;have gZ:=hR.out w8.drew [_] hX.out.drew;refine aP (S:=fun w'=>w'.cell? ⟨bf,0,none⟩=some (pV f)/\w'.cell? ⟨bb,0,none⟩=some (.slice A0 L c0)/\w'.cell? ⟨bd,0,none⟩=some (iV dir)/\w'.cell? ⟨bp,0,none⟩=some (.string ⟨path.toArray⟩)/\w'.cell? ⟨bx,0,none⟩=some (iV 2)/\w'.cell? ⟨bx,1,none⟩=some (iV (x.mode:Nat))/\w'.cell? ⟨bx,2,none⟩=some (iV (x.links:Nat))/\w'.cell? ⟨bx,3,none⟩=some (iV (x.size:Nat))/\w'.cell? ⟨bx,4,none⟩=some (.slice none 0 0)) 7 ?_;refine aA 0 gZ ?_;refine aA 1 gZ ?_;refine aA 2 gZ ?_;refine aA 3 gZ ?_;refine aA 4 gZ ?_;refine aA 5 gZ ?_;(refine bI 6 fun K hK=>?_);go_simp;go_at_call 75;refine(hfi.out _ _ hV.out hX.out.drew).mono ?_;rintro e w7 ⟨rfl,aT,hCT,hT⟩;have hc7:=hR.out w7 [_] hT;replace hX:=Lh hT;replace hV:=Lh hCT;clear hT hCT hfi gZ;dsimp only;refine hK _ _ (fun _=>hc7) ?_;clear hK K;(try simp only[Act.put,gD]);refine aQ fH ?_ _;clear hc7;go_wp2_with fail;have hc:=hR.out w7.drew [_] hX.out.drew;refine aP (S:=fun w'=>w'.cell? ⟨bf,0,none⟩=some (pV f)/\w'.cell? ⟨bb,0,none⟩=some (.slice A0 L c0)/\w'.cell? ⟨bd,0,none⟩=some (iV dir)/\w'.cell? ⟨bp,0,none⟩=some (.string ⟨path.toArray⟩)/\w'.cell? ⟨bx,0,none⟩=some (iV 2)/\w'.cell? ⟨bx,1,none⟩=some (iV (x.mode:Nat))/\w'.cell? ⟨bx,2,none⟩=some (iV (x.links:Nat))/\w'.cell? ⟨bx,3,none⟩=some (iV (x.size:Nat))/\w'.cell? ⟨bx,4,none⟩=some (.slice none 0 0)) 8 ?_;refine aA 0 hc ?_;refine aA 1 hc ?_;refine aA 2 hc ?_;refine aA 3 hc ?_;refine aA 4 hc ?_;refine aA 6 hc ?_;(refine bI 5 fun K hK=>?_);go_simp;go_at_call 121;refine(MS.out _).mono ?_;rintro e v9 ⟨rfl,wM⟩;replace hX:=Lh (hX.out.drew.pure wM);have gZ:=hR.out v9 [_] hX.out;clear hc wM;dsimp only;refine hK _ _ (fun _=>gZ) ?_;clear hK K;(try simp only[Act.put,gD]);(refine bI 7 fun K hK=>?_);go_simp;go_at_call 125;refine(hen.out _ _ hV.out hX.out).mono ?_;intro e v8 ho;cases rX with
  |none=>unfold fO at ho;obtain⟨rfl,T,aT,hLT,hCT,hT⟩:=ho;unfold fO;exact⟨rfl,rfl,T,aT,hl2.out.trans hLT,hCT,hT⟩
  |some T=>exact Z8
theorem P9 {S:VS}:jV S [] 1=match jX (bk S.cur 1) S.count with|none=>none|some j=>some (S.put 1 (kU (bk S.cur 1) j),[j]):=by
 unfold jV;simp only[rT,nL,Nat.zero_sub,Nat.sub_zero];show NC 1 S []=_
 unfold NC;cases jX (bk S.cur 1) S.count<;>rfl
theorem Z80 {P:Prop} (h:P:=by have h3:=hW.bC Y.length (by rw[vM (iB _),FB];rfl) 0;rw[h3];unfold aN;rw[hk];rfl):P:=h
theorem agF {bf bx bb bd bp n:Nat} {x:VI} (hR0:∀W Y,Sep w0 W (Y++R)->W.cell? ⟨bf,0,none⟩=some (pV f))
  (hC:VC S a) (hF:VF S) (hT:P7 S.cur S.names) (hk:x.kind=1) (hx0:x.aB=[])
  (hfr:l6 S.cur S.names=some n) (hfl:jX (bk S.cur 1) S.count=none) (h:Sep w0 w (aF f q p S a:: .box bx 129 (aN x (.slice none 0 0))::aR (.slice none 0 0) []::R)):
  Calls Tryz.prog 140 #[pV bf,pV bx,pV bb,pV bd,pV bp] w (fO f q p S none w0 R):=by
 have hR:=Lh hR0;have hun:Hid (Calls Tryz.prog 141 #[pV f] w fun e w'=>e= .returned (iV n)/\∃a',VC S a'/\Sep w0 w' (aF f q p S a':: .box bx 129 (aN x (.slice none 0 0))::aR (.slice none 0 0) []::R)):=Lh (by exact Z60);have hft:Hid (∀W a1,VC S a1->Sep w0 W (aF f q p S a1:: .box bx 129 (aN x (.slice none 0 0))::aR (.slice none 0 0) []::R)->Calls Tryz.prog 99 #[pV f,pV bx,iV 1] W (fO f q p S none w0 R)):=Lh fun W a1 h1 h2=>by have h3:=yE (n:=1) (x:=x) h1 hF (by rw[hx0];decide) aV (by rw[hx0];intro s hs;cases hs) (by rw[hx0];exact h2);refine h3.mono ?_;intro e w' ho;unfold pR at ho;rw[hx0,P9,hfl]at ho;unfold fO;exact ho
 have hck:Hid (∀W Y,Sep w0 W (Y++(.box bx 129 (aN x (.slice none 0 0))::aR (.slice none 0 0) []::R))->W.cell? ⟨bf,0,none⟩=some (pV f)/\W.cell? ⟨bx,0,none⟩=some (iV 1)):=Lh fun W Y hW=>by refine⟨hR0 W (Y++[_,_]) (by rw[pJ];exact hW),?_⟩;exact Z80
 have hX0:=Lh h;clear hR0 hC hF hT hk hx0 hfr hfl h hR;have hc:=hck.out w [_] hX0.out;unfold fO at*;go_enter Tryz.func140,Tryz.ntmps140;go_wp2_with(first |(go_at_call 141;refine hun.out.mono ?_;rintro e w9 ⟨rfl,a9,eP,h9⟩;clear hc;have hc:=hck.out w9 [_] h9;have FD:=hft.out _ _ eP h9;clear eP h9 hun hX0)|(go_at_call 99;refine FD.mono ?_;rintro e w8 ⟨rfl,hend⟩;replace hend:=Lh hend));exact⟨rfl,rfl,hend.out⟩
theorem alY {bf bx bb bd bp n dir j:Nat} {x:VI} {path:List UInt8} (hR0:∀W Y,Sep w0 W (Y++R)->W.cell? ⟨bf,0,none⟩=some (pV f)/\W.cell? ⟨bd,0,none⟩=some (iV dir)/\W.cell? ⟨bp,0,none⟩=some (aC path))
  (hC:VC S a) (hF:VF S) (hT:P7 S.cur S.names) (hx:({x with aB:=[j]}:VI).ok) (hk:x.kind=1) (hx0:x.aB=[]) (hv2:aU path=true) (hp2:path.length<=1048576)
  (hfr:l6 S.cur S.names=some n) (hfl:jX (bk S.cur 1) S.count=some j) (hn2:pW (gN S j) n) (hs2:gL (gN S j)) (he:oF (kJ S n x j) dir n (aL path)) (hs3:lT (kJ S n x j)) (h:Sep w0 w (aF f q p S a:: .box bx 129 (aN x (.slice none 0 0))::aR (.slice none 0 0) []::R)):
  Calls Tryz.prog 140 #[pV bf,pV bx,pV bb,pV bd,pV bp] w (fO f q p S (gV (kJ S n x j) dir (aL path) n) w0 R):=by
 have hR:=Lh hR0;obtain⟨S1,hS1⟩:∃S1,S1=S.put 1 (kU (bk S.cur 1) j):=⟨_,rfl⟩;have J7:eZ S S1:=by rw[hS1];exact(eZ.refl S).put _ _
 obtain⟨SB,hSB⟩:∃SB,SB=gN S j:=⟨_,rfl⟩;have azL:SB=S1.put (S1.data+j) bX:=by rw[hSB,hS1];rfl
 have agG:eZ S SB:=by rw[azL];exact J7.put _ _
 obtain⟨SD,hSD⟩:∃SD,SD=kJ S n x j:=⟨_,rfl⟩;have azM:SD=SB.keep n {x with aB:=[j]}:=by rw[hSD,hSB];rfl
 have zA:Hid (eZ S SD):=by rw[azM];exact Lh (agG.keep _ _)
 have hun:Hid (Calls Tryz.prog 141 #[pV f] w fun e w'=>e= .returned (iV n)/\∃a',VC S a'/\Sep w0 w' (aF f q p S a':: .box bx 129 (aN x (.slice none 0 0))::aR (.slice none 0 0) []::R)):=Lh (by exact Z60);have hft:Hid (∀W a1,VC S a1->Sep w0 W (aF f q p S a1:: .box bx 129 (aN x (.slice none 0 0))::aR (.slice none 0 0) []::R)->Calls Tryz.prog 99 #[pV f,pV bx,iV 1] W fun e w'=>e= .returned (.tuple #[])/\∃a2 ad c9,VC S1 a2/\Sep w0 w' (aF f q p S1 a2::aZ.box bx 129 (aN {x with aB:=[j]} (.slice (some ad) 1 c9))::aR (.slice (some ad) 1 c9) [(j:Int)]::R)):=Lh fun W a1 h1 h2=>by have h3:=yE (n:=1) (x:=x) h1 hF (by rw[hx0];decide) aV (by rw[hx0];intro s hs;cases hs) (by rw[hx0];exact h2);refine h3.mono ?_;intro e w' ho;unfold pR at ho;rw[hx0,P9,hfl]at ho;obtain⟨rfl,a2,v2,_,h4,h5⟩:=ho;obtain⟨ad,c9,u9,e9,_,_⟩:=Rd.at_ (h5.rd 2 rfl) (k:=0) (by show 0<1;decide);rw[<-hS1]at h4 h5;have e8:v2= .slice (some ad) 1 c9:=e9;rw[e8]at h5;exact⟨rfl,a2,ad,c9,h4,h5⟩
 have hjc:=VZ hfl;have MQ:Hid (∀W a1 Y,VC S1 a1->Sep w0 W (Y++(aF f q p S1 a1::R))->Calls Tryz.prog 142 #[pV f] W fun e w'=>e= .returned (iV (S1.data:Nat))/\w'=W):=Lh fun W a1 Y h1 h2=>by have h3:Sep w0 W (aF f q p S1 a1::(Y++R)):=h2.perm lZ;exact AB h1 (J7.vf hF) h3.fK.c3
 have hpu:Hid (∀W a1 ad c9 g,VC S1 a1->Sep w0 W (aI (sV g 512 512) bX::aF f q p S1 a1::aZ.box bx 129 (aN {x with aB:=[j]} (.slice (some ad) 1 c9))::aR (.slice (some ad) 1 c9) [(j:Int)]::R)->Calls Tryz.prog 98 #[pV f,iV ((S1.data:Int)+j),sV g 512 512] W fun e w'=>e= .returned (.tuple #[])/\∃a2,VC SB a2/\Sep w0 w' (aF f q p SB a2::aZ.box bx 129 (aN {x with aB:=[j]} (.slice (some ad) 1 c9))::aR (.slice (some ad) 1 c9) [(j:Int)]::R)):=Lh fun W a1 ad c9 g h1 h2=>by(have hbound:S1.data+j<S1.nb-96:=by rw[<-J7.count]at hjc;unfold VS.count at hjc;omega);have h3:Sep w0 W (aF f q p S1 a1::aI (sV g 512 512) bX::aZ.box bx 129 (aN {x with aB:=[j]} (.slice (some ad) 1 c9))::aR (.slice (some ad) 1 c9) [(j:Int)]::R):=h2.perm (List.Perm.swap _ _ _);have h4:=yB (v:=sV g 512 512) (bs:=bX) h1 hbound ((h3.YK h1 (S1.data+j)).perm (List.Perm.swap _ _ _));rw[show((S1.data+j:Nat):Int)=(S1.data:Int)+j by omega]at h4;refine h4.mono ?_;rintro e w' ⟨rfl,h5⟩;rw[azL];exact⟨rfl,_,h1.put _ hbound fV,h5⟩
 have hd5:(S1.data:Int)+j<1000000:=by have h1:=hC.pF.few;rw[<-J7.count]at hjc;unfold VS.count at hjc;have:=J7.nb;omega
 have hkp:Hid (∀W a1 ad c9,VC SB a1->Sep w0 W (aF f q p SB a1::aZ.box bx 129 (aN {x with aB:=[j]} (.slice (some ad) 1 c9))::aR (.slice (some ad) 1 c9) [(j:Int)]::R)->Calls Tryz.prog 100 #[pV f,iV n,.agg #[iV 1,iV (x.mode:Nat),iV (x.links:Nat),iV (x.size:Nat),.slice (some ad) 1 c9]] W fun e w'=>e= .returned (.tuple #[])/\∃a',VC SD a'/\Sep w0 w' (aF f q p SD a'::aZ.box bx 129 (aN {x with aB:=[j]} (.slice (some ad) 1 c9))::aR (.slice (some ad) 1 c9) [(j:Int)]::R)):=Lh fun W a1 ad c9 h1 h2=>by have h3:=NH (n:=n) (y:= {x with aB:=[j]}) (v:=.slice (some ad) 1 c9) h1 (agG.vf hF) (by rw[hSB];exact hn2) hx (by rw[hSB];exact hs2) 1 rfl h2;rw[<-azM]at h3;unfold fJ aN at h3;simp only at h3;rw[hk]at h3;unfold aN;simp only;rw[hk];exact h3
 have MS:Hid (∀W,Calls Tryz.prog 121 #[aC path] W fun e w'=>e= .returned (aC (aL path))/\Below W.heap.size W w'):=Lh fun W=>uS hv2 hp2 W
 obtain⟨rX,wD⟩:∃rX,rX=gV (kJ S n x j) dir (aL path) n:=⟨_,rfl⟩;have hen:Hid (∀W a1,VC SD a1->Sep w0 W (aF f q p SD a1::R)->Calls Tryz.prog 125 #[pV f,iV dir,aC (aL path),iV n] W (fO f q p SD rX w0 R)):=Lh fun W a1 h1 h2=>by rw[wD,<-hSD];exact HV h1 (zA.out.vf hF) (by rw[hSD];exact he) (by rw[hSD];exact hs3) h2
 obtain⟨b2,hb2⟩:∃b,b=aL path:=⟨_,rfl⟩;rw[<-wD];rw[<-hb2]at MS hen;have hck:Hid (∀W Y,Sep w0 W (Y++(.box bx 129 (aN x (.slice none 0 0))::aR (.slice none 0 0) []::R))->W.cell? ⟨bf,0,none⟩=some (pV f)/\W.cell? ⟨bx,0,none⟩=some (iV 1)):=Lh fun W Y hW=>by refine⟨(hR0 W (Y++[_,_]) (by rw[pJ];exact hW)).1,?_⟩;exact Z80
 have hcd:Hid (∀W a1 SS ad c9,Sep w0 W (aF f q p SS a1::aZ.box bx 129 (aN {x with aB:=[j]} (.slice (some ad) 1 c9))::aR (.slice (some ad) 1 c9) [(j:Int)]::R)->W.cell? ⟨bf,0,none⟩=some (pV f)/\W.cell? ⟨bd,0,none⟩=some (iV dir)/\W.cell? ⟨bp,0,none⟩=some (.string ⟨path.toArray⟩)/\W.cell? ⟨bx,0,none⟩=some (iV 1)/\W.cell? ⟨bx,1,none⟩=some (iV (x.mode:Nat))/\W.cell? ⟨bx,2,none⟩=some (iV (x.links:Nat))/\W.cell? ⟨bx,3,none⟩=some (iV (x.size:Nat))/\W.cell? ⟨bx,4,none⟩=some (.slice (some ad) 1 c9)):=Lh fun W a1 SS ad c9 hW=>by have k1:=hR0 W [_,_,_] hW;have k2:=hW.dK 1 rfl;simp only at k2;rw[hk]at k2;exact⟨k1.1,k1.2.1,k1.2.2,k2.1,k2.2.1,k2.2.2.1,k2.2.2.2.1,k2.2.2.2.2⟩
 have hat:Hid (∀W a1 ad c9,Sep w0 W (aF f q p S1 a1::aZ.box bx 129 (aN {x with aB:=[j]} (.slice (some ad) 1 c9))::aR (.slice (some ad) 1 c9) [(j:Int)]::R)->W.cell? (ad.add 0)=some (iV j)):=Lh fun W a1 ad c9 hW=>by obtain⟨ad2,c8,u9,e9,h1,h2⟩:=Rd.at_ (hW.rd 2 rfl) (k:=0) (by show 0<1;decide);cases e9;cases h1;exact h2
 obtain⟨k0,pO,hk0,hk1,hk2⟩:=iU l8;have hX0:=Lh h;obtain⟨d,hd⟩:∃d,d=S1.data:=⟨_,rfl⟩;rw[<-hd]at MQ hpu hd5;have q3:IntKind.i64.wrap ((d:Int)+j)=d+j:=IntWalk.i64_in _ aD;have hc:=hck.out w [_] hX0.out;clear hR0 hC hF hT hx hk hx0 hv2 hp2 hfr hfl hn2 hs2 he hs3 h hS1 J7 hSB azL agG hSD azM hjc wD hb2 hd hd5;unfold aC at*;go_enter Tryz.func140,Tryz.ntmps140;go_wp2_with(first |(go_at_call 141;refine hun.out.mono ?_;rintro e w9 ⟨rfl,a9,eP,h9⟩;clear hc;have hc:=hck.out w9 [_] h9;have FD:=hft.out _ _ eP h9;clear eP h9 hun hX0 hft)|(go_at_call 99;refine FD.mono ?_;rintro e w8 ⟨rfl,a8,ad,c9,zB,h8⟩;clear hc;have hc:=(hcd.out _ _ _ _ _ h8).2.2.2.2.2.2.2;have hV:=Lh zB;have hX:=Lh h8;clear zB h8 FD hck));have hI0:Hid (∃a8,VC S1 a8/\Sep w0 w8 (aF f q p S1 a8::aZ.box bx 129 (aN {x with aB:=[j]} (.slice (some ad) 1 c9))::aR (.slice (some ad) 1 c9) [(j:Int)]::R)):=Lh ⟨_,hV.out,hX.out⟩;clear hV hX hc;go_loopw[24] (fun i wr=>∃k:Nat,k<=1/\i=iV k/\Hid (k=0->∃a8,VC S1 a8/\Sep w0 wr (aF f q p S1 a8::aZ.box bx 129 (aN {x with aB:=[j]} (.slice (some ad) 1 c9))::aR (.slice (some ad) 1 c9) [(j:Int)]::R))/\Hid (k=1->∃a8,VC SB a8/\Sep w0 wr (aF f q p SB a8::aZ.box bx 129 (aN {x with aB:=[j]} (.slice (some ad) 1 c9))::aR (.slice (some ad) 1 c9) [(j:Int)]::R))) (fun i _=>1-(intOf i).toNat)
 case atStart=>exact⟨0,gI _,rfl,Lh fun _=>hI0.out,Lh fun h=>absurd h aV⟩
 obtain⟨k,hk,rfl,hI,hJ⟩:=hrel;clear hI0;by_cases hlt:k<1
 ·(have hk0':k=0:=by omega);obtain⟨a8,zB,h8⟩:=hI.out hk0';have hcj:=hat.out _ _ _ _ h8;rw[<-hk0']at hcj;(have q1:(k:Int)<1:=by omega);(have q0:(0:Int)<=k:=by omega);replace hk0':=Lh hk0';have hV:=Lh zB;have hX:=Lh h8;clear zB h8 hI hJ;go_wp2_with fail;refine eO (S:=fun w'=>w'.cell? ⟨bf,0,none⟩=some (pV f)) 15 fH ?_;intro wq hwq;(have hX2:Hid (Sep w0 wq (aF f q p S1 a8::aZ.box bx 129 (aN {x with aB:=[j]} (.slice (some ad) 1 c9))::aR (.slice (some ad) 1 c9) [(j:Int)]::R)):=by rw[hwq];exact Lh hX.out.drew);clear hwq hX hcj;have hc:=(hcd.out _ _ _ _ _ hX2.out).1;simp only[kE,kR,rT,Nat.reduceAdd];refine aA 0 hc ?_;refine aA 1 hc ?_;refine aA 2 hc ?_;refine aA 3 hc ?_;refine aA 4 hc ?_;refine aA 5 hc ?_;refine aA 6 hc ?_;refine aA 7 hc ?_;refine aA 8 hc ?_;refine aA 9 hc ?_;refine aA 11 hc ?_;have hmk:(Instr.makeSlice 69 (.int .i64 512) (.int .i64 512)).run Tryz.prog wq= .ok (sV wq.heap.size 512 512) (wq.alloc (.cells (madeCells #[.int .u8 0] 512) 5)):=qP (P:=Tryz.prog) 69 5 k0 (.int .u8 0) 1 Tryz.underlying69 pO hk0 hk1 hk2 rfl .i64 .i64 512 aD vQ wq;have hS1:=hX2.out.made 5 (.int .u8 0) 512 vQ;have h9:Hid (Sep w0 (wq.alloc (.cells (madeCells #[.int .u8 0] 512) 5)) (aI (sV wq.heap.size 512 512) bX::aF f q p S1 a8::aZ.box bx 129 (aN {x with aB:=[j]} (.slice (some ad) 1 c9))::aR (.slice (some ad) 1 c9) [(j:Int)]::R)):=Lh (by rw[bW fV,CW];exact hS1);clear hS1;refine iX (i:=10) (j:=13) fH rfl rfl (fun K hK=>?_) (fun K hK=>?_)
  focus
   go_simp
   go_at_call 142
   refine(MQ.out wq a8 [] hV.out ((hX2.out.dE [1,2,0] aV bL).drop 2)).mono ?_
   rintro e w6 ⟨rfl,h6⟩
   obtain rfl:=h6.symm
   dsimp only
   refine hK _ _ (fun _=>hc) ?_
   clear hK K
   try simp only[Act.put,gD]
   refine aA 12 hc ?_
   have hc8:=(hcd.out _ _ _ _ _ (h9.out.drop 1)).1
   refine bB 13 (fun _=>hc8) ?_
   clear hmk hc hc8
  rotate_left
  focus
   go_simp
   have hc8:=(hcd.out _ _ _ _ _ (h9.out.drop 1)).1
   try dsimp only
   refine hK _ _ (fun _=>hc8) ?_
   clear hK K
   try simp only[Act.put,gD]
   clear hmk hc
   refine bI 10 fun K hK=>?_
   go_simp
   go_at_call 142
   refine(MQ.out _ a8 [] hV.out ((h9.out.dE [0,2,3,1] aV bL).drop 3)).mono ?_
   rintro e w6 ⟨rfl,h6⟩
   obtain rfl:=h6.symm
   dsimp only
   refine hK _ _ (fun _=>hc8) ?_
   clear hK K
   try simp only[Act.put,gD]
   refine aA 12 hc8 ?_
   clear hc8
  all_goals
   obtain⟨g,hg⟩:∃g,g=wq.heap.size:=⟨_,rfl⟩
   obtain⟨w7,hw7⟩:∃w7,w7=wq.alloc (.cells (madeCells #[.int .u8 0] 512) 5):=⟨_,rfl⟩
   rw[<-hw7,<-hg]at h9 ⊢
   clear hw7 hg hX2
   refine bI 14 fun K hK=>?_
   go_simp
   go_at_call 98
   refine(hpu.out _ _ _ _ _ hV.out h9.out).mono ?_
   rintro e w5 ⟨rfl,a5,hC5,h5⟩
   have hc5:=(hcd.out _ _ _ _ _ h5).1
   replace hC5:=Lh hC5
   replace h5:=Lh h5
   dsimp only
   refine hK _ _ (fun _=>hc5) ?_
   clear hK K
   try simp only[Act.put,gD]
   refine aQ fH ?_ _
   clear h9 hV hc5
   go_wp2_with fail
   exact⟨⟨k+1,by omega,rfl,Lh fun h=>absurd h aD,Lh fun _=>⟨_,hC5.out,h5.out⟩⟩,by simp[intOf];omega⟩
 obtain rfl:k=1:=by omega
 obtain⟨a8,zB,h8⟩:=hJ.out rfl;have hc:=hcd.out _ _ _ _ _ h8.drew;have sN:=hkp.out _ _ _ _ zB h8.drew;clear zB h8 hI hJ;go_wp2_with fail;refine aP (S:=fun w'=>w'.cell? ⟨bf,0,none⟩=some (pV f)/\w'.cell? ⟨bd,0,none⟩=some (iV dir)/\w'.cell? ⟨bp,0,none⟩=some (.string ⟨path.toArray⟩)/\w'.cell? ⟨bx,0,none⟩=some (iV 1)/\w'.cell? ⟨bx,1,none⟩=some (iV (x.mode:Nat))/\w'.cell? ⟨bx,2,none⟩=some (iV (x.links:Nat))/\w'.cell? ⟨bx,3,none⟩=some (iV (x.size:Nat))/\w'.cell? ⟨bx,4,none⟩=some (.slice (some ad) 1 c9)) 7 ?_;refine aA 0 hc ?_;refine aA 1 hc ?_;refine aA 2 hc ?_;refine aA 3 hc ?_;refine aA 4 hc ?_;refine aA 5 hc ?_;refine bI 6 fun K hK=>?_
 go_simp;go_at_call 100;refine sN.mono ?_;rintro e w7 ⟨rfl,aK,hCK,h7⟩;clear hc sN;have hc7:=hcd.out _ _ _ _ _ h7;have hV:=Lh hCK;have hX:Hid (Sep w0 w7 (aF f q p SD aK::R)):=Lh ((h7.dE [1,2,0] aV bL).drop 2);clear hCK h7;dsimp only;refine hK _ _ (fun _=>hc7) ?_;clear hK K;try simp only[Act.put,gD]
 refine aQ fH ?_ _;have hc0:=hc7.2.2.2.1;clear hc7;go_wp2_with fail;clear hc0;have hc:=hR.out w7.drew [_] hX.out.drew;refine aP (S:=fun w'=>w'.cell? ⟨bf,0,none⟩=some (pV f)/\w'.cell? ⟨bd,0,none⟩=some (iV dir)/\w'.cell? ⟨bp,0,none⟩=some (.string ⟨path.toArray⟩)) 8 ?_;refine aA 0 hc ?_;refine aA 1 hc ?_;refine aA 2 hc ?_;refine aA 3 hc ?_;refine aA 4 hc ?_;refine aA 6 hc ?_;refine bI 5 fun K hK=>?_
 go_simp;go_at_call 121;refine(MS.out _).mono ?_;rintro e v9 ⟨rfl,wM⟩;replace hX:=Lh (hX.out.drew.pure wM);have gZ:=hR.out v9 [_] hX.out;clear hc wM;dsimp only;refine hK _ _ (fun _=>gZ) ?_;clear hK K;try simp only[Act.put,gD]
 refine bI 7 fun K hK=>?_
 exact Z72
end
end Go.Proofs.YtmjomdkleikgbaaGreat
namespace Go.Proofs.YtmjomdkleikgbaaGreat
def j6 (L:uL) (i:Nat):uL:=(L.set i (sQ L (L.length-1))).dropLast
theorem avF {L:uL} {i:Nat} (h:i<L.length):L[i]? =some (sQ L i):=by rw[gE h,uM h]
theorem oW {L:uL} {i:Nat}:(j6 L i).length=L.length-1:=by unfold j6;rw[aaW,JR]
theorem acH {L:uL} {i n:Nat} (hn:L.length=n+1):j6 L i=(List.range n).map fun k=>if k=i then sQ L n else sQ L k:=by
 unfold j6;apply GI;intro k;rw[List.getElem?_dropLast,JR,kV,hn,OB];by_cases hk:k<n
 ·rw[if_pos hk,UY hk,TQ,List.getElem?_set];by_cases e:i=k
  ·rw[if_pos e,if_pos e.symm,if_pos aD]
  rw[if_neg e,if_neg (fun h=>e h.symm),avF aD]
 rw[if_neg hk,EZ (by rw[K9];omega)];rfl
theorem ap7 {A:uL} {z:List UInt8×Nat} {i:Nat} (h:i<A.length):(A++[z]).Perm (sQ A i::A.set i z):=by
 have e1:A=A.take i++sQ A i::A.drop (i+1):=by
  conv=>lhs;rw[<-D7 i A]
  congr 1;rw[aaV h,uM h]
 have e2:A.set i z=A.take i++z::A.drop (i+1):=by rw[List.set_eq_take_append_cons_drop,if_pos h]
 rw[e2]
 conv=>lhs;rw[e1]
 rw[pJ,kW];refine lZ.trans (List.Perm.cons _ ?_);refine afT _ ?_;exact aaZ _ _
theorem tL {L:uL} {i:Nat} (h:i<L.length):L.Perm (sQ L i::j6 L i):=by
 rcases aa2 L with e|⟨A,z,e⟩
 ·subst e;simp at h
 rw[aa3]at e;subst e;rw[jL,oK]at h;have ez:sQ (A++[z]) A.length=z:=by unfold sQ;rw[gH,vM (iB _),FB];rfl
 unfold j6;rw[jL,oK,OB,ez];by_cases e:i=A.length
 ·rw[e,aa4 _ _ (iB _),FB,JN,TK,ez];exact aaZ _ _
 have hi:i<A.length:=by omega
 rw[List.set_append_left _ _ hi,TK];have e2:sQ (A++[z]) i=sQ A i:=by unfold sQ;rw[gH,gH,D6 hi]
 rw[e2];exact ap7 hi
theorem YY {S S1:VS} {l l1:List Nat} {n:Nat} (h:dY S) (hl:∀s∈l,s<S.count/\S.bit s=true) (hn:l.Nodup) (hf:jV S l n=some (S1,l1)):
  dY S1/\l1.length=n/\(∀s∈l1,s<S.count)/\l1.Nodup/\(∀s∈l1,s∈l\/S.bit s=false)/\∀i,S1.bit i=((S.bit i&& !decide (i∈l))||decide (i∈l1)):=by
 have hlen:=(jQ hf).2;by_cases hle:n<=l.length
 ·(obtain⟨S2,h1,h2,h3⟩:=ab6 h hle fun s hs=>(hl s hs).1);rw[h1]at hf;cases hf;refine⟨h2,hlen,fun s hs=>(hl s (zX hs)).1,hn.sublist (ajC _ _),fun s hs=>.inl (zX hs),fun i=>?_⟩;rw[h3];have hsp:l.take n++l.drop n=l:=D7 n l;by_cases h4:i∈l.take n
  ·(have h5:i∉l.drop n:=fun h6=>by have:=hn;rw[<-hsp,sZ]at this;exact this.2.2 i h4 i h6 rfl);have h7:S.bit i=true:=(hl i (zX h4)).2;simp[h4,h5,h7]
  by_cases h5:i∈l.drop n
  ·have h6:i∈l:=List.mem_of_mem_drop h5;simp[h4,h5,h6]
  have h6:i∉l:=fun h7=>by
   rw[<-hsp,iN]at h7;rcases h7 with h7|h7
   ·exact h4 h7
   exact h5 h7
  simp[h4,h5,h6]
 obtain⟨h1,t,h2,h3,h4,h5,h6⟩:=(PU h aD).1 S1 l1 hf;have hdj:∀s∈l,s∉t:=fun s hs hs2=>by have:=(hl s hs).2;rw[(h5 s hs2).2]at this;cases this
 refine⟨h1,hlen,fun s hs=>?_,?_,fun s hs=>?_,fun i=>?_⟩
 ·rw[h2]at hs;rcases iN.1 hs with hs|hs
  ·exact(hl s hs).1
  exact(h5 s hs).1
 ·rw[h2,sZ];exact⟨hn,h4,fun a ha b hb e=>hdj a ha (by rw[e];exact hb)⟩
 ·rw[h2]at hs;rcases iN.1 hs with hs|hs
  ·exact .inl hs
  exact .inr (h5 s hs).2
 rw[h6,h2];by_cases h7:i∈l
 ·have:=(hl i h7).2;simp[h7,this]
 simp[h7]
theorem dC.QA {S:VS} {g:LT} (h:dC S g) {n:Nat} (hn:n<S.names):∀s∈(aG S.cur n).aB,s<S.count/\S.bit s=true:=fun s hs=>⟨h.lt n hn s hs,h.uA hn hs⟩
theorem dC.QB {S T:VS} {g:LT} (h:dC S g) {n:Nat} (hn:n<S.names) {l1:List Nat} (hb:∀i,T.bit i=((S.bit i&& !decide (i∈(aG S.cur n).aB))||decide (i∈l1))) {j:Nat} (hj:j<S.count):
  T.bit j=true↔j∈l1\/∃m<S.names,m≠n/\j∈(aG S.cur m).aB:=by
 rw[hb,MO,sJ,tX,h.acB hn hj];constructor
 ·rintro(⟨h1|h1,h2⟩|h1)
  ·simp[h1]at h2
  ·exact .inr h1
  exact .inl h1
 rintro(h1|⟨m,hm,e,h1⟩)
 ·exact .inr h1
 refine .inl ⟨.inr ⟨m,hm,e,h1⟩,?_⟩;have:=h.others hn m hm e j h1;simp[this]
theorem dC.YZ {S:VS} {g:LT} (h:dC S g) {n:Nat} (hn:n<S.names) {l1:List Nat} (hb:∀s∈l1,s∈(aG S.cur n).aB\/S.bit s=false):∀m<S.names,m≠n->∀s∈(aG S.cur m).aB,s∉l1:=fun m hm e s hs hs2=>by
 rcases hb s hs2 with h1|h1
 ·exact h.others hn m hm e s hs h1
 rw[h.uA hm hs]at h1;cases h1
def LI.less (x:LI) (i:Nat):LI:= {x with bG:=j6 x.bG i}
theorem NI {L:uL} {i:Nat} (h:i<L.length):sQ L i∈L:=by rw[<-uM h];exact nT h
theorem LI.alZ {x:LI} (h:x.fair) (hk:x.kind=1) {i:Nat} (hi:i<x.bG.length):(x.less i).fair:=
 ⟨h.kind,fun e=>absurd hk e,h.data,by show(j6 x.bG i).length<=448;rw[oW];have:=h.few;omega,h.short,h.mode,h.links,fun e he=>h.names e ((tL hi).mem_iff.2 (vK _ he))⟩
theorem dC.leave {S:VS} {g:LT} (h:dC S g) {dir i:Nat} {name:List UInt8} (hd:dir<S.names) (hk:(g dir).kind=1) (hi:i<(g dir).bG.length) (hf:(kG (g dir).bG name).1=i):
  dC (cO S dir name) (dO g dir ((g dir).less i)):=by
 have hx:=h.head dir hd;have hsize:(aG S.cur dir).size=(g dir).bG.length:=by rw[h.size hd,uW hk]
 have hlen:(aG S.cur dir).aB.length=max 1 (((g dir).bG.length+15)/16):=by rw[h.len dir hd,kY hk]
 have acI:=h.bG dir hd hk;have hfair:=LI.alZ (h.fair dir hd) hk hi;have l5:=(h.fair dir hd).few;have hnm:=(h.fair dir hd).names;obtain⟨n,hn⟩:∃n,(g dir).bG.length=n+1:=⟨(g dir).bG.length-1,by omega⟩;obtain⟨L,hL⟩:∃L,L=(g dir).bG:=⟨_,rfl⟩;rw[<-hL]at hn acI hnm hi hf;obtain⟨sp,hsp⟩:∃sp,sp=(aG S.cur dir).aB:=⟨_,rfl⟩;have H7:((g dir).less i).need=max 1 ((n+15)/16):=by rw[kY (show((g dir).less i).kind=1 from hk)];(show max 1 (((j6 (g dir).bG i).length+15)/16)=_);rw[oW,<-hL,hn,OB]
 rw[<-hL,hn]at hsize hlen;rw[<-hsp]at hlen
 --the entries
 obtain⟨e,he⟩:∃e,e=sQ L n:=⟨_,rfl⟩;have hem:e∈L:=by rw[he];exact NI aD
 obtain⟨he1,he2⟩:=hnm e hem;have TV:=h.QA hd;rw[<-hsp]at TV;have al0:=h.nodup dir hd;rw[<-hsp]at al0;obtain⟨S1,hS1⟩:∃S1,S1=S.iC (sp.getD (i/16) 0) i e.1 e.2:=⟨_,rfl⟩;obtain⟨S2,hS2⟩:∃S2,S2=S1.iC (sp.getD (n/16) 0) n [] 0:=⟨_,rfl⟩;have aDG:i/16<sp.length:=by omega
 have hn16:n/16<sp.length:=by omega
 have hu1:dY S1:=by rw[hS1];exact h.use.iC (TV _ (uV aDG)).1 _ _ he1
 have hm1:Mid S S1:=by rw[hS1]at hu1 ⊢;exact Mid.laid (Laid.iC S _ _ _ _) hu1
 have hu2:dY S2:=by rw[hS2];exact hu1.iC (by rw[hm1.count];exact(TV _ (uV hn16)).1) _ _ bL
 have hm2:Mid S S2:=by rw[hS2]at hu2 ⊢;exact hm1.trans (Mid.laid (Laid.iC S1 _ _ _ _) hu2)
 have aIB:S2.nodes=S.nodes:=by rw[hS2,hS1];rfl
 have ayH:∀j,S2.bit j=S.bit j:=fun j=>by rw[hS2,PX hu1,hS1,PX h.use]
 have hblk2:∀s,s∉sp->bk S2.cur (S.data+s)=bk S.cur (S.data+s):=fun s hs=>by(have e1:bk S2.cur (S1.data+s)=bk S1.cur (S1.data+s):=by rw[hS2];exact H6 S1 _ _ _ fun e=>hs (by rw[e];exact uV hn16));(have e2:bk S1.cur (S.data+s)=bk S.cur (S.data+s):=by rw[hS1];exact H6 S _ _ _ fun e=>hs (by rw[e];exact uV aDG));rw[hm1.data]at e1;rw[e1,e2]
 have aDH:∀k,k<n->∀x:VI,x.aB=sp->gT S2.cur S.data x k=if k=i then zQ e.1 e.2 else gT S.cur S.data x k:=fun k hk2 x hxs=>by(have k16:k<16*sp.length:=by omega);(have e1:gT S2.cur S1.data x k=if k=n then zQ [] 0 else gT S1.cur S1.data x k:=by have:=PY (S:=S1) hu1 (x:=x) (by rw[hxs];exact al0) (i:=n) (k:=k) (n:=0) (name:=[]) (by rw[hxs];omega) (by rw[hxs];omega) (by rw[hxs,hm1.count];exact fun s hs=>(TV s hs).1) bL;rw[hxs]at this;rw[hS2];exact this);(have e2:gT S1.cur S.data x k=if k=i then zQ e.1 e.2 else gT S.cur S.data x k:=by have:=PY (S:=S) h.use (x:=x) (by rw[hxs];exact al0) (i:=i) (k:=k) (n:=e.2) (name:=e.1) (by rw[hxs];omega) (by rw[hxs];omega) (by rw[hxs];exact fun s hs=>(TV s hs).1) he1;rw[hxs]at this;rw[hS1];exact this);rw[hm1.data]at e1;rw[e1,if_neg aD,e2]
 --the fit
 have aDI:dY (S2.node (S2.nodes-1)):=(Mid.node hu2 _).use;obtain⟨S4,kD⟩:∃S4,jV (S2.node (S2.nodes-1)) sp (max 1 ((n+15)/16))=some (S4,sp.take (max 1 ((n+15)/16))):=by(obtain⟨S4,h4,_⟩:=ab6 aDI (l:=sp) (n:=max 1 ((n+15)/16)) aD fun s hs=>by(show s<S2.count);rw[hm2.count];exact(TV s hs).1);exact⟨S4,h4⟩
 obtain⟨hu4,hl4,aDJ,aDK,aIC,hb4⟩:=YY aDI (l:=sp) (fun s hs=>⟨by show s<S2.count;rw[hm2.count];exact(TV s hs).1,by show S2.bit s=true;rw[ayH];exact(TV s hs).2⟩) al0 kD;have NG:=(jQ kD).1;have hm4:Mid S S4:=hm2.trans ((Mid.node hu2 _).trans (Mid.used NG hu4));obtain⟨l,hl⟩:∃l,l=sp.take (max 1 ((n+15)/16)):=⟨_,rfl⟩;rw[<-hl]at hl4 aDJ aDK aIC hb4 kD;have hleave:cO S dir name=S4.keep dir (((g dir).less i).vi l):=by unfold cO FE;simp only;rw[acI,hf,mW,hsize,OB,<-hsp,<-he,<-hS1,<-hS2,show n+1+14=n+15 by omega,kD];simp only;congr 1;rw[hx];unfold LI.vi LI.less;simp only[VI.mk.injEq,true_and,and_true];unfold LI.size;rw[if_pos hk,oW,<-hL,hn];rfl
 rw[hleave];have hlt:∀s∈l,s<S.count:=fun s hs=>by have:=aDJ s hs;rw[show(S2.node (S2.nodes-1)).count=S2.count from rfl,hm2.count]at this;exact this
 have hsub:∀s∈l,s∈sp:=fun s hs=>by rw[hl]at hs;exact zX hs
 refine h.step hd (Step.keep h hd hm4 hfair (by rw[H7];exact hl4) hlt aDK (h.YZ hd fun s hs=>.inl (by rw[<-hsp];exact hsub s hs)) (fun j hj=>h.QB hd (l1:=l) (fun t=>?_) hj) (fun m hmm e2 s hs=>?_) (fun _=>?_) (fun k2=>?_) ?_)
 ·rw[hb4];(show((S2.bit t&& !decide (t∈sp))||decide (t∈l))=_);rw[ayH,<-hsp]
 ·(have h1:bk S4.cur (S.data+s)=bk S2.cur (S.data+s):=by have:=uB NG s;rw[show(S2.node (S2.nodes-1)).data=S2.data from rfl,hm2.data]at this;exact this);rw[h1];exact hblk2 s fun h2=>h.others hd m hmm e2 s hs (by rw[<-hsp];exact h2)
 ·(have hvs:(((g dir).less i).vi l).size=n:=by(show((g dir).less i).size=n);unfold LI.size;rw[if_pos (show((g dir).less i).kind=1 from hk)];(show(j6 (g dir).bG i).length=n);rw[oW,<-hL,hn];rfl);unfold jU;rw[hvs];(show _=j6 (g dir).bG i);rw[<-hL,acH hn];(refine uH fun k hk3=>?_);have hk4:=List.mem_range.1 hk3;(have hkl:k/16<l.length:=by rw[hl4];omega);(have h1:gT S4.cur S.data (((g dir).less i).vi l) k=gT S2.cur S.data (aG S.cur dir) k:=by unfold gT;(show zP (bk S4.cur (S.data+l.getD (k/16) 0)) k=zP (bk S2.cur (S.data+(aG S.cur dir).aB.getD (k/16) 0)) k);(have e3:l.getD (k/16) 0=sp.getD (k/16) 0:=by rw[hl,gH,gH,vO,if_pos (by rw[hl4]at hkl;exact hkl)]);(have e4:bk S4.cur (S.data+sp.getD (k/16) 0)=bk S2.cur (S.data+sp.getD (k/16) 0):=by have:=uB NG (sp.getD (k/16) 0);rw[show(S2.node (S2.nodes-1)).data=S2.data from rfl,hm2.data]at this;exact this);rw[e3,e4,hsp]);rw[h1,aDH k hk4 _ hsp.symm];(have hLk:(enN (gT S.cur S.data (aG S.cur dir) k),enI (gT S.cur S.data (aG S.cur dir) k))=sQ L k:=by rw[<-acI,CR (by rw[hsize];omega)]);by_cases e5:k=i
  ·rw[if_pos e5,if_pos e5,ab9 he1,acA he1 he2,<-he]
  rw[if_neg e5,if_neg e5];exact hLk
 ·exact absurd (show(g dir).kind=2 from k2) aD
 show S4.nodes=S.nodes-((g dir).bG.length:Nat)+((j6 (g dir).bG i).length:Nat)
 rw[NG.nodes,oW,<-hL,hn];show S2.nodes-1=_
 rw[aIB];omega
theorem acJ :LI0.fair:=⟨by decide,fun _=>rfl,fun _=>rfl,by decide,by decide,by decide,by decide,fun e he=>by cases he⟩
theorem dC.drop {S:VS} {g:LT} (h:dC S g) {n:Nat} (hn:n<S.names) (he:(g n).bG=[]):dC (mP S n) (dO g n LI0):=by
 obtain⟨S1,h1,h2⟩:=AY (S:=S) (n:=n);rw[h2];obtain⟨hu,hl,hlt,hnd,hor,hb⟩:=YY h.use (h.QA hn) (h.nodup n hn) h1;have NG:=(jQ h1).1;have hm:Mid S S1:=Mid.used NG hu;refine h.step (x:=LI0) (l:=[]) hn (Step.keep (x:=LI0) (l:=[]) h hn hm acJ rfl (fun s hs=>by cases hs) .nil (h.YZ hn fun s hs=>by cases hs) (fun j hj=>h.QB hn hb hj) (fun m hmm e s hs=>uB NG s) (fun k=>by cases k) (fun k=>by cases k) ?_);rw[NG.nodes,he];show S.nodes=S.nodes-0+0
 omega
theorem ap8 :bX.length=512:=fV
theorem dC.ap9 {S:VS} {g:LT} (h:dC S g) {n mode links:Nat} (hn:n<S.names) (h0:(g n).kind=0) (hm:mode<65536) (hl:links<65536):
  (∀j,jX (bk S.cur 1) S.count=some j->dC (kJ S n ⟨1,mode,links,0,[]⟩ j) (dO g n ⟨1,mode,links,[],[]⟩))/\
  (jX (bk S.cur 1) S.count=none->S.count<oV (dO g n ⟨1,mode,links,[],[]⟩) S.names):=by
 have he:(g n).bG=[]:=(h.fair n hn).bG aD;have hz:(aG S.cur n).aB=[]:=vL (by rw[h.len n hn];unfold LI.need;rw[if_neg aD,if_neg aD]);have hf:(⟨1,mode,links,[],[]⟩:LI).fair:=⟨Nat.le_succ 1,fun e=>absurd rfl e,fun _=>rfl,gI _,gI _,hm,hl,fun e he=>by cases he⟩;constructor
 ·intro j hj;obtain⟨hj1,hj2,_⟩:=yC hj;have aDL:S.bit j=false:=hj2;have hu1:=h.use.set j;have hm1:Mid S (S.put 1 (kU (bk S.cur 1) j)):=⟨hu1,rfl,rfl,fun m _=>by unfold aG;(show CU (((bk (S.cur.set 1 _) (2+m/8)).drop (m%8*64)).take 64)=_);rw[dJ _ _ aD],rfl,rfl⟩;have hu2:dY (gN S j):=hu1.put _ ap8;have hm2:Mid S (gN S j):=hm1.trans ⟨hu2,rfl,rfl,fun m hmm=>by unfold aG gN;(show CU (((bk ((S.put 1 (kU (bk S.cur 1) j)).cur.set ((S.put 1 (kU (bk S.cur 1) j)).data+j) bX) (2+m/8)).drop (m%8*64)).take 64)=_);rw[dJ _ _ (by have:m<S.names:=hmm;show 2+m/8≠S.data+j;unfold VS.data;omega)],rfl,rfl⟩;(have hbit:∀i,(gN S j).bit i=(decide (i=j)||S.bit i):=fun i=>by(have e1:(gN S j).bit i=(S.put 1 (kU (bk S.cur 1) j)).bit i:=by(show pG (bk ((S.put 1 (kU (bk S.cur 1) j)).cur.set (S.data+j) bX) 1) i=_);rw[dJ _ _ (by unfold VS.data;omega)];rfl);rw[e1,HZ h.use hj1]);(have hblk:∀s,s≠j->bk (gN S j).cur (S.data+s)=bk S.cur (S.data+s):=fun s hs=>by(show bk ((S.cur.set 1 _).set (S.data+j) bX) (S.data+s)=_);rw[dJ _ _ aD,dJ _ _ (by unfold VS.data;omega)]);refine h.step (x:=⟨1,mode,links,[],[]⟩) (l:=[j]) hn (Step.keep (x:=⟨1,mode,links,[],[]⟩) (l:=[j]) h hn hm2 hf (by simp[LI.need]) (fun s hs=>by rw[sW]at hs;rw[hs];exact hj1) bL (fun m hmm e s hs hs2=>?_) (fun i hi=>?_) (fun m hmm e s hs=>hblk s fun e2=>?_) (fun _=>rfl) (fun k=>by cases k) ?_)
  ·rw[sW]at hs2;have:=h.uA hmm hs;rw[hs2,aDL]at this;cases this
  ·rw[hbit,MO,tX,h.acB hn hi,hz,sW];simp
  ·have:=h.uA hmm hs;rw[e2,aDL]at this;cases this
  rw[he];(show S.nodes=S.nodes-0+0);omega
 intro hno;have h1:=h.used [] fun j hj=>.inl (PT hno j hj)
 have h2:=xE hn (⟨1,mode,links,[],[]⟩:LI) (g:=g);have h3:(g n).need=0:=by unfold LI.need;rw[if_neg aD,if_neg aD]
 have h4:(⟨1,mode,links,[],[]⟩:LI).need=1:=by simp[LI.need]
 rw[h3,h4]at h2;simp at h1;omega
end Go.Proofs.YtmjomdkleikgbaaGreat
