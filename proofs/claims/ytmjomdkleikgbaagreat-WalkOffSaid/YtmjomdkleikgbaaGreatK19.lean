/- Parts. -/
import Derived.Test.YtmjomdkleikgbaaGreatK17
import Derived.Test.YtmjomdkleikgbaaGreatK18
set_option linter.unusedVariables false
set_option linter.unusedSimpArgs false
set_option maxRecDepth 100000
set_option maxHeartbeats 20000000
namespace Go.Proofs.YtmjomdkleikgbaaGreat
open Go.RowKit
def mG (S:VS) (n:Nat) (x:VI) (bs:List UInt8) (dir:Nat) (name:List UInt8):Option VS:=
 match mU (S.keep n x) n bs with
 |none=>none
 |some S2=>gV S2 dir name n
def gN (S:VS) (j:Nat):VS:=(S.put 1 (kZ (bk S.cur 1) j)).put ((S.put 1 (kZ (bk S.cur 1) j)).data+j) bX
def kN (S:VS) (n:Nat) (x:VI) (j:Nat):VS:=(gN S j).keep n {x with aB:=[j]}
def lK (S:VS) (x:VI) (bs:List UInt8) (dir:Nat) (name:List UInt8):Option VS:=
 match l8 S.cur S.names with
 |none=>none
 |some n=>if x.kind=1 then
   match j5 (bk S.cur 1) S.count with
   |none=>none
   |some j=>gV (kN S n x j) dir name n
  else mG S n x bs dir name
theorem QM {c:gI} {names n:Nat} (h:l8 c names=some n):n<names:=by have:=UH h;exact List.mem_range.1 this
theorem WK {bs:List UInt8} {m j:Nat} (h:j5 bs m=some j):j<m:=by have:=UH h;exact List.mem_range.1 this
section
variable {w0 w:World} {R:List aW} {f q p:Nat} {S:VS} {a:VA}
theorem ag6 {bf bx bb bd bp:Nat} (hbf:∀W Y,Sep w0 W (Y++R)->W.cell? ⟨bf,0,none⟩=some (pV f))
  (hC:VC S a) (hF:VF S) (hT:QN S.cur S.names) (hfr:l8 S.cur S.names=none) (h:Sep w0 w (aF f q p S a::R)):
  Calls Tryz.prog 140 #[pV bf,pV bx,pV bb,pV bd,pV bp] w (fQ f q p S none w0 R):=by
 have hc:w.cell? ⟨bf,0,none⟩=some (pV f):=hbf w [_] h;have hun:Calls Tryz.prog 141 #[pV f] w (fQ f q p S none w0 R):=by refine(QO hC hF hT h).mono ?_;intro e w' ho;unfold rF at ho;rw[hfr]at ho;obtain⟨rfl,a',h1,h2⟩:=ho;unfold fQ;exact⟨rfl,S,a',.refl _,h1.ok,h2⟩
 clear hbf hC hF hT hfr h;unfold fQ at*;go_enter Tryz.func140,Tryz.ntmps140;go_wp2_with(go_at_call 141;refine hun.mono ?_;rintro e w9 ⟨rfl,hend⟩;replace hend:=Lh hend;clear hun);exact⟨rfl,rfl,hend.out⟩
theorem Z65 {P:Prop} (h:P:=by refine(QO hC hF hT h).mono ?_;intro e w' ho;unfold rF at ho;rw[hfr]at ho;obtain⟨rfl,a',h1,h2⟩:=ho;exact⟨rfl,a',h1.ok,h2⟩):P:=h
theorem ag7 {bf bx bb bd bp n dir L c0:Nat} {A0:Option Addr} {x:VI} {bs path:List UInt8} (hR0:∀W Y,Sep w0 W (Y++R)->W.cell? ⟨bf,0,none⟩=some (pV f)/\W.cell? ⟨bb,0,none⟩=some (.slice A0 L c0)/\W.cell? ⟨bd,0,none⟩=some (iV dir)/\W.cell? ⟨bp,0,none⟩=some (aC path)/\W.cell? ⟨bx,0,none⟩=some (iV 2)/\W.cell? ⟨bx,1,none⟩=some (iV (x.mode:Nat))/\W.cell? ⟨bx,2,none⟩=some (iV (x.links:Nat))/\W.cell? ⟨bx,3,none⟩=some (iV (x.size:Nat))/\W.cell? ⟨bx,4,none⟩=some (.slice none 0 0))
  (hC:VC S a) (hF:VF S) (hT:QN S.cur S.names) (hx:x.ok) (hk:x.kind=2) (hx0:x.aB=[]) (hbs:bs.length<=8192) (hv:jI w0 R (.slice A0 L c0) bs) (hv2:aV path=true) (hp2:path.length<=1048576) (hs:gK S) (h0:zN w0 R (.slice none 0 0) [])
  (hfr:l8 S.cur S.names=some n) (hn2:p8 (S.keep n x) n) (hs2:gK (S.keep n x)) (aq0:∀S2,mU (S.keep n x) n bs=some S2->fC S S2/\oG S2 dir n (aL path)/\lW S2) (h:Sep w0 w (aF f q p S a::R)):
  Calls Tryz.prog 140 #[pV bf,pV bx,pV bb,pV bd,pV bp] w (fQ f q p S (mG S n x bs dir (aL path)) w0 R):=by
 have hR:=Lh hR0;obtain⟨SK,hSK⟩:∃SK,SK=S.keep n x:=⟨_,rfl⟩;have QL:Hid (fC S SK):=by rw[hSK];exact Lh ((fC.refl S).keep _ _)
 have hun:Hid (Calls Tryz.prog 141 #[pV f] w fun e w'=>e= .returned (iV n)/\∃a',VC S a'/\Sep w0 w' (aF f q p S a'::R)):=Lh (by exact Z65);have hkp:Hid (∀W a1,VC S a1->Sep w0 W (aF f q p S a1::R)->Calls Tryz.prog 100 #[pV f,iV n,.agg #[iV 2,iV (x.mode:Nat),iV (x.links:Nat),iV (x.size:Nat),.slice none 0 0]] W fun e w'=>e= .returned (.tuple #[])/\∃a',VC SK a'/\Sep w0 w' (aF f q p SK a'::R)):=Lh fun W a1 h1 h2=>by rw[hSK];have h3:=uV (x:=x) (v:=.slice none 0 0) h1 hF (QM hfr) hx (hT n (QM hfr)) hs (by rw[hx0];exact h0) h2;unfold fM aN at h3;rw[hk]at h3;exact h3
 rw[<-hSK]at hn2 hs2 aq0;have NC:Hid (∀W,Calls Tryz.prog 121 #[aC path] W fun e w'=>e= .returned (aC (aL path))/\Below W.heap.size W w'):=Lh fun W=>uZ hv2 hp2 W
 have hfi:Hid (∀W a1,VC SK a1->Sep w0 W (aF f q p SK a1::R)->Calls Tryz.prog 75 #[pV f,iV n,.slice A0 L c0] W (fQ f q p SK (mU SK n bs) w0 R)):=Lh fun W a1 h1 h2=>
  ap6 h1 (QL.out.vf hF) hn2.lt hn2.few hn2.sp hs2 hbs hv h2
 have hX0:=Lh h;have hF':=Lh hF;have hres:Hid (mG S n x bs dir (aL path)=match mU SK n bs with|none=>none|some S2=>gV S2 dir (aL path) n):=Lh (by unfold mG;rw[<-hSK]);obtain⟨rA,hrA⟩:∃r,r=mG S n x bs dir (aL path):=⟨_,rfl⟩;rw[<-hrA]at hres ⊢;obtain⟨b2,hb2⟩:∃b,b=aL path:=⟨_,rfl⟩;rw[<-hb2]at NC aq0 hres;clear hR0 hC hF hT hx hx0 hbs hv hv2 hp2 hs h0 hfr hn2 hs2 h hSK hrA hb2 hk;cases hfp:mU SK n bs with
 |none=>rw[hfp]at hfi hres;have hrr:rA=none:=hres.out;subst hrr;clear aq0 hres NC hF' hfp;unfold fQ at hfi;unfold aC at*;go_enter Tryz.func140,Tryz.ntmps140;have hc:=hR.out w [_] hX0.out;go_wp2_with(go_at_call 141;refine hun.out.mono ?_;rintro e w9 ⟨rfl,a9,eX,h9⟩;clear hc;have hc:=hR.out w9 [_] h9;have hV:=Lh eX;have hX:=Lh h9;clear eX h9 hun hX0);have iA:=hR.out w9.drew [_] hX.out.drew;clear hc;refine aP (S:=fun w'=>w'.cell? ⟨bf,0,none⟩=some (pV f)/\w'.cell? ⟨bb,0,none⟩=some (.slice A0 L c0)/\w'.cell? ⟨bd,0,none⟩=some (iV dir)/\w'.cell? ⟨bp,0,none⟩=some (.string ⟨path.toArray⟩)/\w'.cell? ⟨bx,0,none⟩=some (iV 2)/\w'.cell? ⟨bx,1,none⟩=some (iV (x.mode:Nat))/\w'.cell? ⟨bx,2,none⟩=some (iV (x.links:Nat))/\w'.cell? ⟨bx,3,none⟩=some (iV (x.size:Nat))/\w'.cell? ⟨bx,4,none⟩=some (.slice none 0 0)) 7 ?_;refine aA 0 iA ?_;refine aA 1 iA ?_;refine aA 2 iA ?_;refine aA 3 iA ?_;refine aA 4 iA ?_;refine aA 5 iA ?_;(refine bI 6 fun K hK=>?_);go_simp;go_at_call 100;refine(hkp.out _ _ hV.out hX.out.drew).mono ?_;rintro e w8 ⟨rfl,aK,hCK,h8⟩;clear iA;have hc8:=hR.out w8 [_] h8;replace hX:=Lh h8;replace hV:=Lh hCK;clear hCK h8 hkp;dsimp only;refine hK _ _ (fun _=>hc8) ?_;clear hK K;(try simp only[Act.put,gD]);refine aQ fE ?_ _;go_wp2_with fail;clear hc8;have iA:=hR.out w8.drew [_] hX.out.drew;refine aP (S:=fun w'=>w'.cell? ⟨bf,0,none⟩=some (pV f)/\w'.cell? ⟨bb,0,none⟩=some (.slice A0 L c0)/\w'.cell? ⟨bd,0,none⟩=some (iV dir)/\w'.cell? ⟨bp,0,none⟩=some (.string ⟨path.toArray⟩)/\w'.cell? ⟨bx,0,none⟩=some (iV 2)/\w'.cell? ⟨bx,1,none⟩=some (iV (x.mode:Nat))/\w'.cell? ⟨bx,2,none⟩=some (iV (x.links:Nat))/\w'.cell? ⟨bx,3,none⟩=some (iV (x.size:Nat))/\w'.cell? ⟨bx,4,none⟩=some (.slice none 0 0)) 7 ?_;refine aA 0 iA ?_;refine aA 1 iA ?_;refine aA 2 iA ?_;refine aA 3 iA ?_;refine aA 4 iA ?_;refine aA 5 iA ?_;(refine bI 6 fun K hK=>?_);go_simp;go_at_call 75;refine(hfi.out _ _ hV.out hX.out.drew).mono ?_;rintro e w7 ⟨rfl,T,aT,hLT,hCT,hT⟩;unfold fQ;exact⟨rfl,rfl,T,aT,QL.out.trans hLT,hCT,hT⟩
 |some S2=>
  obtain⟨hl2,he2,hs2⟩:=aq0 S2 hfp;rw[hfp]at hfi hres;obtain⟨rX,wN⟩:∃r,r=gV S2 dir b2 n:=⟨_,rfl⟩;(have hrr:rA=rX:=by rw[wN];exact hres.out);subst hrr;(have hen:Hid (∀W a1,VC S2 a1->Sep w0 W (aF f q p S2 a1::R)->Calls Tryz.prog 125 #[pV f,iV dir,aC b2,iV n] W (fQ f q p S2 rA w0 R)):=Lh fun W a1 h1 h2=>by rw[wN];exact IB h1 (hl2.vf hF'.out) he2 hs2 h2);replace hl2:=Lh hl2;clear aq0 hres hF' hfp he2 hs2 wN;unfold fQ at hfi;unfold aC at*;obtain⟨rX,wN⟩:∃r,r=rA:=⟨_,rfl⟩;subst wN;go_enter Tryz.func140,Tryz.ntmps140;have hc:=hR.out w [_] hX0.out;go_wp2_with(go_at_call 141;refine hun.out.mono ?_;rintro e w9 ⟨rfl,a9,eX,h9⟩;clear hc;have hc:=hR.out w9 [_] h9;have hV:=Lh eX;have hX:=Lh h9;clear eX h9 hun hX0);have iA:=hR.out w9.drew [_] hX.out.drew;clear hc;refine aP (S:=fun w'=>w'.cell? ⟨bf,0,none⟩=some (pV f)/\w'.cell? ⟨bb,0,none⟩=some (.slice A0 L c0)/\w'.cell? ⟨bd,0,none⟩=some (iV dir)/\w'.cell? ⟨bp,0,none⟩=some (.string ⟨path.toArray⟩)/\w'.cell? ⟨bx,0,none⟩=some (iV 2)/\w'.cell? ⟨bx,1,none⟩=some (iV (x.mode:Nat))/\w'.cell? ⟨bx,2,none⟩=some (iV (x.links:Nat))/\w'.cell? ⟨bx,3,none⟩=some (iV (x.size:Nat))/\w'.cell? ⟨bx,4,none⟩=some (.slice none 0 0)) 7 ?_;refine aA 0 iA ?_;refine aA 1 iA ?_;refine aA 2 iA ?_;refine aA 3 iA ?_;refine aA 4 iA ?_;refine aA 5 iA ?_;(refine bI 6 fun K hK=>?_);go_simp;go_at_call 100;refine(hkp.out _ _ hV.out hX.out.drew).mono ?_;rintro e w8 ⟨rfl,aK,hCK,h8⟩;clear iA;have hc8:=hR.out w8 [_] h8;replace hX:=Lh h8;replace hV:=Lh hCK;clear hCK h8 hkp;dsimp only;refine hK _ _ (fun _=>hc8) ?_;clear hK K;(try simp only[Act.put,gD]);refine aQ fE ?_ _;go_wp2_with fail;clear hc8;have iA:=hR.out w8.drew [_] hX.out.drew;refine aP (S:=fun w'=>w'.cell? ⟨bf,0,none⟩=some (pV f)/\w'.cell? ⟨bb,0,none⟩=some (.slice A0 L c0)/\w'.cell? ⟨bd,0,none⟩=some (iV dir)/\w'.cell? ⟨bp,0,none⟩=some (.string ⟨path.toArray⟩)/\w'.cell? ⟨bx,0,none⟩=some (iV 2)/\w'.cell? ⟨bx,1,none⟩=some (iV (x.mode:Nat))/\w'.cell? ⟨bx,2,none⟩=some (iV (x.links:Nat))/\w'.cell? ⟨bx,3,none⟩=some (iV (x.size:Nat))/\w'.cell? ⟨bx,4,none⟩=some (.slice none 0 0)) 7 ?_;refine aA 0 iA ?_;refine aA 1 iA ?_;refine aA 2 iA ?_;refine aA 3 iA ?_;refine aA 4 iA ?_;refine aA 5 iA ?_;(refine bI 6 fun K hK=>?_);go_simp;go_at_call 75;refine(hfi.out _ _ hV.out hX.out.drew).mono ?_;rintro e w7 ⟨rfl,aT,hCT,hT⟩;have hc7:=hR.out w7 [_] hT;replace hX:=Lh hT;replace hV:=Lh hCT;clear hT hCT hfi iA;dsimp only;refine hK _ _ (fun _=>hc7) ?_;clear hK K;(try simp only[Act.put,gD]);refine aQ fE ?_ _;clear hc7;go_wp2_with fail;have hc:=hR.out w7.drew [_] hX.out.drew;refine aP (S:=fun w'=>w'.cell? ⟨bf,0,none⟩=some (pV f)/\w'.cell? ⟨bb,0,none⟩=some (.slice A0 L c0)/\w'.cell? ⟨bd,0,none⟩=some (iV dir)/\w'.cell? ⟨bp,0,none⟩=some (.string ⟨path.toArray⟩)/\w'.cell? ⟨bx,0,none⟩=some (iV 2)/\w'.cell? ⟨bx,1,none⟩=some (iV (x.mode:Nat))/\w'.cell? ⟨bx,2,none⟩=some (iV (x.links:Nat))/\w'.cell? ⟨bx,3,none⟩=some (iV (x.size:Nat))/\w'.cell? ⟨bx,4,none⟩=some (.slice none 0 0)) 8 ?_;refine aA 0 hc ?_;refine aA 1 hc ?_;refine aA 2 hc ?_;refine aA 3 hc ?_;refine aA 4 hc ?_;refine aA 6 hc ?_;(refine bI 5 fun K hK=>?_);go_simp;go_at_call 121;refine(NC.out _).mono ?_;rintro e v9 ⟨rfl,xL⟩;replace hX:=Lh (hX.out.drew.pure xL);have iA:=hR.out v9 [_] hX.out;clear hc xL;dsimp only;refine hK _ _ (fun _=>iA) ?_;clear hK K;(try simp only[Act.put,gD]);(refine bI 7 fun K hK=>?_);go_simp;go_at_call 125;refine(hen.out _ _ hV.out hX.out).mono ?_;intro e v8 ho;cases rX with
  |none=>unfold fQ at ho;obtain⟨rfl,T,aT,hLT,hCT,hT⟩:=ho;unfold fQ;exact⟨rfl,rfl,T,aT,hl2.out.trans hLT,hCT,hT⟩
  |some T=>exact Z9
theorem QP {S:VS}:jY S [] 1=match j5 (bk S.cur 1) S.count with|none=>none|some j=>some (S.put 1 (kZ (bk S.cur 1) j),[j]):=by
 unfold jY;simp only[qQ,nN,Nat.zero_sub,Nat.sub_zero];show NT 1 S []=_
 unfold NT;cases j5 (bk S.cur 1) S.count<;>rfl
theorem Z90 {P:Prop} (h:P:=by have h3:=hW.bC Y.length (by rw[vT (iC _),FP];rfl) 0;rw[h3];unfold aN;rw[hk];rfl):P:=h
theorem ag8 {bf bx bb bd bp n:Nat} {x:VI} (hR0:∀W Y,Sep w0 W (Y++R)->W.cell? ⟨bf,0,none⟩=some (pV f))
  (hC:VC S a) (hF:VF S) (hT:QN S.cur S.names) (hk:x.kind=1) (hx0:x.aB=[])
  (hfr:l8 S.cur S.names=some n) (hfl:j5 (bk S.cur 1) S.count=none) (h:Sep w0 w (aF f q p S a:: .box bx 129 (aN x (.slice none 0 0))::aS (.slice none 0 0) []::R)):
  Calls Tryz.prog 140 #[pV bf,pV bx,pV bb,pV bd,pV bp] w (fQ f q p S none w0 R):=by
 have hR:=Lh hR0;have hun:Hid (Calls Tryz.prog 141 #[pV f] w fun e w'=>e= .returned (iV n)/\∃a',VC S a'/\Sep w0 w' (aF f q p S a':: .box bx 129 (aN x (.slice none 0 0))::aS (.slice none 0 0) []::R)):=Lh (by exact Z65);have hft:Hid (∀W a1,VC S a1->Sep w0 W (aF f q p S a1:: .box bx 129 (aN x (.slice none 0 0))::aS (.slice none 0 0) []::R)->Calls Tryz.prog 99 #[pV f,pV bx,iV 1] W (fQ f q p S none w0 R)):=Lh fun W a1 h1 h2=>by have h3:=yS (n:=1) (x:=x) h1 hF (by rw[hx0];decide) aR (by rw[hx0];intro s hs;cases hs) (by rw[hx0];exact h2);refine h3.mono ?_;intro e w' ho;unfold pW at ho;rw[hx0,QP,hfl]at ho;unfold fQ;exact ho
 have hck:Hid (∀W Y,Sep w0 W (Y++(.box bx 129 (aN x (.slice none 0 0))::aS (.slice none 0 0) []::R))->W.cell? ⟨bf,0,none⟩=some (pV f)/\W.cell? ⟨bx,0,none⟩=some (iV 1)):=Lh fun W Y hW=>by refine⟨hR0 W (Y++[_,_]) (by rw[pG];exact hW),?_⟩;exact Z90
 have hX0:=Lh h;clear hR0 hC hF hT hk hx0 hfr hfl h hR;have hc:=hck.out w [_] hX0.out;unfold fQ at*;go_enter Tryz.func140,Tryz.ntmps140;go_wp2_with(first |(go_at_call 141;refine hun.out.mono ?_;rintro e w9 ⟨rfl,a9,eX,h9⟩;clear hc;have hc:=hck.out w9 [_] h9;have FR:=hft.out _ _ eX h9;clear eX h9 hun hX0)|(go_at_call 99;refine FR.mono ?_;rintro e w8 ⟨rfl,hend⟩;replace hend:=Lh hend));exact⟨rfl,rfl,hend.out⟩
theorem amT {bf bx bb bd bp n dir j:Nat} {x:VI} {path:List UInt8} (hR0:∀W Y,Sep w0 W (Y++R)->W.cell? ⟨bf,0,none⟩=some (pV f)/\W.cell? ⟨bd,0,none⟩=some (iV dir)/\W.cell? ⟨bp,0,none⟩=some (aC path))
  (hC:VC S a) (hF:VF S) (hT:QN S.cur S.names) (hx:({x with aB:=[j]}:VI).ok) (hk:x.kind=1) (hx0:x.aB=[]) (hv2:aV path=true) (hp2:path.length<=1048576)
  (hfr:l8 S.cur S.names=some n) (hfl:j5 (bk S.cur 1) S.count=some j) (hn2:p8 (gN S j) n) (hs2:gK (gN S j)) (he:oG (kN S n x j) dir n (aL path)) (hs3:lW (kN S n x j)) (h:Sep w0 w (aF f q p S a:: .box bx 129 (aN x (.slice none 0 0))::aS (.slice none 0 0) []::R)):
  Calls Tryz.prog 140 #[pV bf,pV bx,pV bb,pV bd,pV bp] w (fQ f q p S (gV (kN S n x j) dir (aL path) n) w0 R):=by
 have hR:=Lh hR0;obtain⟨S1,hS1⟩:∃S1,S1=S.put 1 (kZ (bk S.cur 1) j):=⟨_,rfl⟩;have KN:fC S S1:=by rw[hS1];exact(fC.refl S).put _ _
 obtain⟨SB,hSB⟩:∃SB,SB=gN S j:=⟨_,rfl⟩;have aAD:SB=S1.put (S1.data+j) bX:=by rw[hSB,hS1];rfl
 have ag9:fC S SB:=by rw[aAD];exact KN.put _ _
 obtain⟨SD,hSD⟩:∃SD,SD=kN S n x j:=⟨_,rfl⟩;have aAE:SD=SB.keep n {x with aB:=[j]}:=by rw[hSD,hSB];rfl
 have zR:Hid (fC S SD):=by rw[aAE];exact Lh (ag9.keep _ _)
 have hun:Hid (Calls Tryz.prog 141 #[pV f] w fun e w'=>e= .returned (iV n)/\∃a',VC S a'/\Sep w0 w' (aF f q p S a':: .box bx 129 (aN x (.slice none 0 0))::aS (.slice none 0 0) []::R)):=Lh (by exact Z65);have hft:Hid (∀W a1,VC S a1->Sep w0 W (aF f q p S a1:: .box bx 129 (aN x (.slice none 0 0))::aS (.slice none 0 0) []::R)->Calls Tryz.prog 99 #[pV f,pV bx,iV 1] W fun e w'=>e= .returned (.tuple #[])/\∃a2 ad c9,VC S1 a2/\Sep w0 w' (aF f q p S1 a2::aW.box bx 129 (aN {x with aB:=[j]} (.slice (some ad) 1 c9))::aS (.slice (some ad) 1 c9) [(j:Int)]::R)):=Lh fun W a1 h1 h2=>by have h3:=yS (n:=1) (x:=x) h1 hF (by rw[hx0];decide) aR (by rw[hx0];intro s hs;cases hs) (by rw[hx0];exact h2);refine h3.mono ?_;intro e w' ho;unfold pW at ho;rw[hx0,QP,hfl]at ho;obtain⟨rfl,a2,v2,_,h4,h5⟩:=ho;obtain⟨ad,c9,u9,e9,_,_⟩:=Rd.at_ (h5.rd 2 rfl) (k:=0) (by show 0<1;decide);rw[<-hS1]at h4 h5;have e8:v2= .slice (some ad) 1 c9:=e9;rw[e8]at h5;exact⟨rfl,a2,ad,c9,h4,h5⟩
 have hjc:=WK hfl;have NA:Hid (∀W a1 Y,VC S1 a1->Sep w0 W (Y++(aF f q p S1 a1::R))->Calls Tryz.prog 142 #[pV f] W fun e w'=>e= .returned (iV (S1.data:Nat))/\w'=W):=Lh fun W a1 Y h1 h2=>by have h3:Sep w0 W (aF f q p S1 a1::(Y++R)):=h2.perm lD;exact BA h1 (KN.vf hF) h3.fO.c3
 have hpu:Hid (∀W a1 ad c9 g,VC S1 a1->Sep w0 W (aI (sV g 512 512) bX::aF f q p S1 a1::aW.box bx 129 (aN {x with aB:=[j]} (.slice (some ad) 1 c9))::aS (.slice (some ad) 1 c9) [(j:Int)]::R)->Calls Tryz.prog 98 #[pV f,iV ((S1.data:Int)+j),sV g 512 512] W fun e w'=>e= .returned (.tuple #[])/\∃a2,VC SB a2/\Sep w0 w' (aF f q p SB a2::aW.box bx 129 (aN {x with aB:=[j]} (.slice (some ad) 1 c9))::aS (.slice (some ad) 1 c9) [(j:Int)]::R)):=Lh fun W a1 ad c9 g h1 h2=>by(have hbound:S1.data+j<S1.nb-96:=by rw[<-KN.count]at hjc;unfold VS.count at hjc;omega);have h3:Sep w0 W (aF f q p S1 a1::aI (sV g 512 512) bX::aW.box bx 129 (aN {x with aB:=[j]} (.slice (some ad) 1 c9))::aS (.slice (some ad) 1 c9) [(j:Int)]::R):=h2.perm (List.Perm.swap _ _ _);have h4:=yP (v:=sV g 512 512) (bs:=bX) h1 hbound ((h3.Y9 h1 (S1.data+j)).perm (List.Perm.swap _ _ _));rw[show((S1.data+j:Nat):Int)=(S1.data:Int)+j by omega]at h4;refine h4.mono ?_;rintro e w' ⟨rfl,h5⟩;rw[aAD];exact⟨rfl,_,h1.put _ hbound fV,h5⟩
 have hd5:(S1.data:Int)+j<1000000:=by have h1:=hC.nV.few;rw[<-KN.count]at hjc;unfold VS.count at hjc;have:=KN.nb;omega
 have hkp:Hid (∀W a1 ad c9,VC SB a1->Sep w0 W (aF f q p SB a1::aW.box bx 129 (aN {x with aB:=[j]} (.slice (some ad) 1 c9))::aS (.slice (some ad) 1 c9) [(j:Int)]::R)->Calls Tryz.prog 100 #[pV f,iV n,.agg #[iV 1,iV (x.mode:Nat),iV (x.links:Nat),iV (x.size:Nat),.slice (some ad) 1 c9]] W fun e w'=>e= .returned (.tuple #[])/\∃a',VC SD a'/\Sep w0 w' (aF f q p SD a'::aW.box bx 129 (aN {x with aB:=[j]} (.slice (some ad) 1 c9))::aS (.slice (some ad) 1 c9) [(j:Int)]::R)):=Lh fun W a1 ad c9 h1 h2=>by have h3:=NY (n:=n) (y:= {x with aB:=[j]}) (v:=.slice (some ad) 1 c9) h1 (ag9.vf hF) (by rw[hSB];exact hn2) hx (by rw[hSB];exact hs2) 1 rfl h2;rw[<-aAE]at h3;unfold fM aN at h3;simp only at h3;rw[hk]at h3;unfold aN;simp only;rw[hk];exact h3
 have NC:Hid (∀W,Calls Tryz.prog 121 #[aC path] W fun e w'=>e= .returned (aC (aL path))/\Below W.heap.size W w'):=Lh fun W=>uZ hv2 hp2 W
 obtain⟨rX,wN⟩:∃rX,rX=gV (kN S n x j) dir (aL path) n:=⟨_,rfl⟩;have hen:Hid (∀W a1,VC SD a1->Sep w0 W (aF f q p SD a1::R)->Calls Tryz.prog 125 #[pV f,iV dir,aC (aL path),iV n] W (fQ f q p SD rX w0 R)):=Lh fun W a1 h1 h2=>by rw[wN,<-hSD];exact IB h1 (zR.out.vf hF) (by rw[hSD];exact he) (by rw[hSD];exact hs3) h2
 obtain⟨b2,hb2⟩:∃b,b=aL path:=⟨_,rfl⟩;rw[<-wN];rw[<-hb2]at NC hen;have hck:Hid (∀W Y,Sep w0 W (Y++(.box bx 129 (aN x (.slice none 0 0))::aS (.slice none 0 0) []::R))->W.cell? ⟨bf,0,none⟩=some (pV f)/\W.cell? ⟨bx,0,none⟩=some (iV 1)):=Lh fun W Y hW=>by refine⟨(hR0 W (Y++[_,_]) (by rw[pG];exact hW)).1,?_⟩;exact Z90
 have hcd:Hid (∀W a1 SS ad c9,Sep w0 W (aF f q p SS a1::aW.box bx 129 (aN {x with aB:=[j]} (.slice (some ad) 1 c9))::aS (.slice (some ad) 1 c9) [(j:Int)]::R)->W.cell? ⟨bf,0,none⟩=some (pV f)/\W.cell? ⟨bd,0,none⟩=some (iV dir)/\W.cell? ⟨bp,0,none⟩=some (.string ⟨path.toArray⟩)/\W.cell? ⟨bx,0,none⟩=some (iV 1)/\W.cell? ⟨bx,1,none⟩=some (iV (x.mode:Nat))/\W.cell? ⟨bx,2,none⟩=some (iV (x.links:Nat))/\W.cell? ⟨bx,3,none⟩=some (iV (x.size:Nat))/\W.cell? ⟨bx,4,none⟩=some (.slice (some ad) 1 c9)):=Lh fun W a1 SS ad c9 hW=>by have k1:=hR0 W [_,_,_] hW;have k2:=hW.dL 1 rfl;simp only at k2;rw[hk]at k2;exact⟨k1.1,k1.2.1,k1.2.2,k2.1,k2.2.1,k2.2.2.1,k2.2.2.2.1,k2.2.2.2.2⟩
 have hat:Hid (∀W a1 ad c9,Sep w0 W (aF f q p S1 a1::aW.box bx 129 (aN {x with aB:=[j]} (.slice (some ad) 1 c9))::aS (.slice (some ad) 1 c9) [(j:Int)]::R)->W.cell? (ad.add 0)=some (iV j)):=Lh fun W a1 ad c9 hW=>by obtain⟨ad2,c8,u9,e9,h1,h2⟩:=Rd.at_ (hW.rd 2 rfl) (k:=0) (by show 0<1;decide);cases e9;cases h1;exact h2
 obtain⟨k0,pR,hk0,hk1,hk2⟩:=iR mE;have hX0:=Lh h;obtain⟨d,hd⟩:∃d,d=S1.data:=⟨_,rfl⟩;rw[<-hd]at NA hpu hd5;have q3:IntKind.i64.wrap ((d:Int)+j)=d+j:=IntWalk.i64_in _ aD;have hc:=hck.out w [_] hX0.out;clear hR0 hC hF hT hx hk hx0 hv2 hp2 hfr hfl hn2 hs2 he hs3 h hS1 KN hSB aAD ag9 hSD aAE hjc wN hb2 hd hd5;unfold aC at*;go_enter Tryz.func140,Tryz.ntmps140;go_wp2_with(first |(go_at_call 141;refine hun.out.mono ?_;rintro e w9 ⟨rfl,a9,eX,h9⟩;clear hc;have hc:=hck.out w9 [_] h9;have FR:=hft.out _ _ eX h9;clear eX h9 hun hX0 hft)|(go_at_call 99;refine FR.mono ?_;rintro e w8 ⟨rfl,a8,ad,c9,zS,h8⟩;clear hc;have hc:=(hcd.out _ _ _ _ _ h8).2.2.2.2.2.2.2;have hV:=Lh zS;have hX:=Lh h8;clear zS h8 FR hck));have hI0:Hid (∃a8,VC S1 a8/\Sep w0 w8 (aF f q p S1 a8::aW.box bx 129 (aN {x with aB:=[j]} (.slice (some ad) 1 c9))::aS (.slice (some ad) 1 c9) [(j:Int)]::R)):=Lh ⟨_,hV.out,hX.out⟩;clear hV hX hc;go_loopw[24] (fun i wr=>∃k:Nat,k<=1/\i=iV k/\Hid (k=0->∃a8,VC S1 a8/\Sep w0 wr (aF f q p S1 a8::aW.box bx 129 (aN {x with aB:=[j]} (.slice (some ad) 1 c9))::aS (.slice (some ad) 1 c9) [(j:Int)]::R))/\Hid (k=1->∃a8,VC SB a8/\Sep w0 wr (aF f q p SB a8::aW.box bx 129 (aN {x with aB:=[j]} (.slice (some ad) 1 c9))::aS (.slice (some ad) 1 c9) [(j:Int)]::R))) (fun i _=>1-(intOf i).toNat)
 case atStart=>exact⟨0,fZ _,rfl,Lh fun _=>hI0.out,Lh fun h=>absurd h aR⟩
 obtain⟨k,hk,rfl,hI,hJ⟩:=hrel;clear hI0;by_cases hlt:k<1
 ·(have hk0':k=0:=by omega);obtain⟨a8,zS,h8⟩:=hI.out hk0';have hcj:=hat.out _ _ _ _ h8;rw[<-hk0']at hcj;(have q1:(k:Int)<1:=by omega);(have q0:(0:Int)<=k:=by omega);replace hk0':=Lh hk0';have hV:=Lh zS;have hX:=Lh h8;clear zS h8 hI hJ;go_wp2_with fail;refine eU (S:=fun w'=>w'.cell? ⟨bf,0,none⟩=some (pV f)) 15 fE ?_;intro wq hwq;(have hX2:Hid (Sep w0 wq (aF f q p S1 a8::aW.box bx 129 (aN {x with aB:=[j]} (.slice (some ad) 1 c9))::aS (.slice (some ad) 1 c9) [(j:Int)]::R)):=by rw[hwq];exact Lh hX.out.drew);clear hwq hX hcj;have hc:=(hcd.out _ _ _ _ _ hX2.out).1;simp only[uB,kH,qQ,Nat.reduceAdd];refine aA 0 hc ?_;refine aA 1 hc ?_;refine aA 2 hc ?_;refine aA 3 hc ?_;refine aA 4 hc ?_;refine aA 5 hc ?_;refine aA 6 hc ?_;refine aA 7 hc ?_;refine aA 8 hc ?_;refine aA 9 hc ?_;refine aA 11 hc ?_;have hmk:(Instr.makeSlice 69 (.int .i64 512) (.int .i64 512)).run Tryz.prog wq= .ok (sV wq.heap.size 512 512) (wq.alloc (.cells (madeCells #[.int .u8 0] 512) 5)):=qX (P:=Tryz.prog) 69 5 k0 (.int .u8 0) 1 Tryz.underlying69 pR hk0 hk1 hk2 rfl .i64 .i64 512 aD vX wq;have hS1:=hX2.out.made 5 (.int .u8 0) 512 vX;have h9:Hid (Sep w0 (wq.alloc (.cells (madeCells #[.int .u8 0] 512) 5)) (aI (sV wq.heap.size 512 512) bX::aF f q p S1 a8::aW.box bx 129 (aN {x with aB:=[j]} (.slice (some ad) 1 c9))::aS (.slice (some ad) 1 c9) [(j:Int)]::R)):=Lh (by rw[bV fV,DN];exact hS1);clear hS1;refine iX (i:=10) (j:=13) fE rfl rfl (fun K hK=>?_) (fun K hK=>?_)
  focus
   go_simp
   go_at_call 142
   refine(NA.out wq a8 [] hV.out ((hX2.out.dB [1,2,0] aR bK).drop 2)).mono ?_
   rintro e w6 ⟨rfl,h6⟩
   obtain rfl:=h6.symm
   dsimp only
   refine hK _ _ (fun _=>hc) ?_
   clear hK K
   try simp only[Act.put,gD]
   refine aA 12 hc ?_
   have hc8:=(hcd.out _ _ _ _ _ (h9.out.drop 1)).1
   refine bA 13 (fun _=>hc8) ?_
   clear hmk hc hc8
  rotate_left
  focus
   go_simp
   have hc8:=(hcd.out _ _ _ _ _ (h9.out.drop 1)).1
   try dsimp only
   refine hK _ _ (fun _=>hc8) ?_
   clear hK K
   try simp only[Act.put,gD]
   clear hmk hc
   refine bI 10 fun K hK=>?_
   go_simp
   go_at_call 142
   refine(NA.out _ a8 [] hV.out ((h9.out.dB [0,2,3,1] aR bK).drop 3)).mono ?_
   rintro e w6 ⟨rfl,h6⟩
   obtain rfl:=h6.symm
   dsimp only
   refine hK _ _ (fun _=>hc8) ?_
   clear hK K
   try simp only[Act.put,gD]
   refine aA 12 hc8 ?_
   clear hc8
  all_goals
   obtain⟨g,hg⟩:∃g,g=wq.heap.size:=⟨_,rfl⟩
   obtain⟨w7,hw7⟩:∃w7,w7=wq.alloc (.cells (madeCells #[.int .u8 0] 512) 5):=⟨_,rfl⟩
   rw[<-hw7,<-hg]at h9 ⊢
   clear hw7 hg hX2
   refine bI 14 fun K hK=>?_
   go_simp
   go_at_call 98
   refine(hpu.out _ _ _ _ _ hV.out h9.out).mono ?_
   rintro e w5 ⟨rfl,a5,hC5,h5⟩
   have hc5:=(hcd.out _ _ _ _ _ h5).1
   replace hC5:=Lh hC5
   replace h5:=Lh h5
   dsimp only
   refine hK _ _ (fun _=>hc5) ?_
   clear hK K
   try simp only[Act.put,gD]
   refine aQ fE ?_ _
   clear h9 hV hc5
   go_wp2_with fail
   exact⟨⟨k+1,by omega,rfl,Lh fun h=>absurd h aD,Lh fun _=>⟨_,hC5.out,h5.out⟩⟩,by simp[intOf];omega⟩
 obtain rfl:k=1:=by omega
 obtain⟨a8,zS,h8⟩:=hJ.out rfl;have hc:=hcd.out _ _ _ _ _ h8.drew;have sS:=hkp.out _ _ _ _ zS h8.drew;clear zS h8 hI hJ;go_wp2_with fail;refine aP (S:=fun w'=>w'.cell? ⟨bf,0,none⟩=some (pV f)/\w'.cell? ⟨bd,0,none⟩=some (iV dir)/\w'.cell? ⟨bp,0,none⟩=some (.string ⟨path.toArray⟩)/\w'.cell? ⟨bx,0,none⟩=some (iV 1)/\w'.cell? ⟨bx,1,none⟩=some (iV (x.mode:Nat))/\w'.cell? ⟨bx,2,none⟩=some (iV (x.links:Nat))/\w'.cell? ⟨bx,3,none⟩=some (iV (x.size:Nat))/\w'.cell? ⟨bx,4,none⟩=some (.slice (some ad) 1 c9)) 7 ?_;refine aA 0 hc ?_;refine aA 1 hc ?_;refine aA 2 hc ?_;refine aA 3 hc ?_;refine aA 4 hc ?_;refine aA 5 hc ?_;refine bI 6 fun K hK=>?_
 go_simp;go_at_call 100;refine sS.mono ?_;rintro e w7 ⟨rfl,aK,hCK,h7⟩;clear hc sS;have hc7:=hcd.out _ _ _ _ _ h7;have hV:=Lh hCK;have hX:Hid (Sep w0 w7 (aF f q p SD aK::R)):=Lh ((h7.dB [1,2,0] aR bK).drop 2);clear hCK h7;dsimp only;refine hK _ _ (fun _=>hc7) ?_;clear hK K;try simp only[Act.put,gD]
 refine aQ fE ?_ _;have hc0:=hc7.2.2.2.1;clear hc7;go_wp2_with fail;clear hc0;have hc:=hR.out w7.drew [_] hX.out.drew;refine aP (S:=fun w'=>w'.cell? ⟨bf,0,none⟩=some (pV f)/\w'.cell? ⟨bd,0,none⟩=some (iV dir)/\w'.cell? ⟨bp,0,none⟩=some (.string ⟨path.toArray⟩)) 8 ?_;refine aA 0 hc ?_;refine aA 1 hc ?_;refine aA 2 hc ?_;refine aA 3 hc ?_;refine aA 4 hc ?_;refine aA 6 hc ?_;refine bI 5 fun K hK=>?_
 go_simp;go_at_call 121;refine(NC.out _).mono ?_;rintro e v9 ⟨rfl,xL⟩;replace hX:=Lh (hX.out.drew.pure xL);have iA:=hR.out v9 [_] hX.out;clear hc xL;dsimp only;refine hK _ _ (fun _=>iA) ?_;clear hK K;try simp only[Act.put,gD]
 refine bI 7 fun K hK=>?_
 exact Z79
end
end Go.Proofs.YtmjomdkleikgbaaGreat
namespace Go.Proofs.YtmjomdkleikgbaaGreat
def kD (L:uS) (i:Nat):uS:=(L.set i (tC L (L.length-1))).dropLast
theorem awI {L:uS} {i:Nat} (h:i<L.length):L[i]? =some (tC L i):=by rw[gE h,uT h]
theorem o6 {L:uS} {i:Nat}:(kD L i).length=L.length-1:=by unfold kD;rw[abN,J7]
theorem ac7 {L:uS} {i n:Nat} (hn:L.length=n+1):kD L i=(List.range n).map fun k=>if k=i then tC L n else tC L k:=by
 unfold kD;apply GV;intro k;rw[List.getElem?_dropLast,J7,lC,hn,OU];by_cases hk:k<n
 ·rw[if_pos hk,VN hk,UL,List.getElem?_set];by_cases e:i=k
  ·rw[if_pos e,if_pos e.symm,if_pos aD]
  rw[if_neg e,if_neg (fun h=>e h.symm),awI aD]
 rw[if_neg hk,FK (by rw[LW];omega)];rfl
theorem aq1 {A:uS} {z:List UInt8×Nat} {i:Nat} (h:i<A.length):(A++[z]).Perm (tC A i::A.set i z):=by
 have e1:A=A.take i++tC A i::A.drop (i+1):=by
  conv=>lhs;rw[<-EJ i A]
  congr 1;rw[abL h,uT h]
 have e2:A.set i z=A.take i++z::A.drop (i+1):=by rw[List.set_eq_take_append_cons_drop,if_pos h]
 rw[e2]
 conv=>lhs;rw[e1]
 rw[pG,kI];refine lD.trans (List.Perm.cons _ ?_);refine abM _ ?_;exact abP _ _
theorem tQ {L:uS} {i:Nat} (h:i<L.length):L.Perm (tC L i::kD L i):=by
 rcases abS L with e|⟨A,z,e⟩
 ·subst e;simp at h
 rw[abT]at e;subst e;rw[jM,oL]at h;have ez:tC (A++[z]) A.length=z:=by unfold tC;rw[gH,vT (iC _),FP];rfl
 unfold kD;rw[jM,oL,OU,ez];by_cases e:i=A.length
 ·rw[e,abU _ _ (iC _),FP,GU,UI,ez];exact abP _ _
 have hi:i<A.length:=by omega
 rw[List.set_append_left _ _ hi,UI];have e2:tC (A++[z]) i=tC A i:=by unfold tC;rw[gH,gH,EI hi]
 rw[e2];exact aq1 hi
theorem ZO {S S1:VS} {l l1:List Nat} {n:Nat} (h:dZ S) (hl:∀s∈l,s<S.count/\S.bit s=true) (hn:l.Nodup) (hf:jY S l n=some (S1,l1)):
  dZ S1/\l1.length=n/\(∀s∈l1,s<S.count)/\l1.Nodup/\(∀s∈l1,s∈l\/S.bit s=false)/\∀i,S1.bit i=((S.bit i&& !decide (i∈l))||decide (i∈l1)):=by
 have hlen:=(jR hf).2;by_cases hle:n<=l.length
 ·(obtain⟨S2,h1,h2,h3⟩:=acW h hle fun s hs=>(hl s hs).1);rw[h1]at hf;cases hf;refine⟨h2,hlen,fun s hs=>(hl s (AJ hs)).1,hn.sublist (aj3 _ _),fun s hs=>.inl (AJ hs),fun i=>?_⟩;rw[h3];have hsp:l.take n++l.drop n=l:=EJ n l;by_cases h4:i∈l.take n
  ·(have h5:i∉l.drop n:=fun h6=>by have:=hn;rw[<-hsp,tK]at this;exact this.2.2 i h4 i h6 rfl);have h7:S.bit i=true:=(hl i (AJ h4)).2;simp[h4,h5,h7]
  by_cases h5:i∈l.drop n
  ·have h6:i∈l:=List.mem_of_mem_drop h5;simp[h4,h5,h6]
  have h6:i∉l:=fun h7=>by
   rw[<-hsp,iM]at h7;rcases h7 with h7|h7
   ·exact h4 h7
   exact h5 h7
  simp[h4,h5,h6]
 obtain⟨h1,t,h2,h3,h4,h5,h6⟩:=(QF h aD).1 S1 l1 hf;have hdj:∀s∈l,s∉t:=fun s hs hs2=>by have:=(hl s hs).2;rw[(h5 s hs2).2]at this;cases this
 refine⟨h1,hlen,fun s hs=>?_,?_,fun s hs=>?_,fun i=>?_⟩
 ·rw[h2]at hs;rcases iM.1 hs with hs|hs
  ·exact(hl s hs).1
  exact(h5 s hs).1
 ·rw[h2,tK];exact⟨hn,h4,fun a ha b hb e=>hdj a ha (by rw[e];exact hb)⟩
 ·rw[h2]at hs;rcases iM.1 hs with hs|hs
  ·exact .inl hs
  exact .inr (h5 s hs).2
 rw[h6,h2];by_cases h7:i∈l
 ·have:=(hl i h7).2;simp[h7,this]
 simp[h7]
theorem dD.QQ {S:VS} {g:LT} (h:dD S g) {n:Nat} (hn:n<S.names):∀s∈(aH S.cur n).aB,s<S.count/\S.bit s=true:=fun s hs=>⟨h.lt n hn s hs,h.uE hn hs⟩
theorem dD.QR {S T:VS} {g:LT} (h:dD S g) {n:Nat} (hn:n<S.names) {l1:List Nat} (hb:∀i,T.bit i=((S.bit i&& !decide (i∈(aH S.cur n).aB))||decide (i∈l1))) {j:Nat} (hj:j<S.count):
  T.bit j=true↔j∈l1\/∃m<S.names,m≠n/\j∈(aH S.cur m).aB:=by
 rw[hb,M8,sP,jN,h.ac1 hn hj];constructor
 ·rintro(⟨h1|h1,h2⟩|h1)
  ·simp[h1]at h2
  ·exact .inr h1
  exact .inl h1
 rintro(h1|⟨m,hm,e,h1⟩)
 ·exact .inr h1
 refine .inl ⟨.inr ⟨m,hm,e,h1⟩,?_⟩;have:=h.others hn m hm e j h1;simp[this]
theorem dD.ZP {S:VS} {g:LT} (h:dD S g) {n:Nat} (hn:n<S.names) {l1:List Nat} (hb:∀s∈l1,s∈(aH S.cur n).aB\/S.bit s=false):∀m<S.names,m≠n->∀s∈(aH S.cur m).aB,s∉l1:=fun m hm e s hs hs2=>by
 rcases hb s hs2 with h1|h1
 ·exact h.others hn m hm e s hs h1
 rw[h.uE hm hs]at h1;cases h1
def LI.less (x:LI) (i:Nat):LI:= {x with bH:=kD x.bH i}
theorem NZ {L:uS} {i:Nat} (h:i<L.length):tC L i∈L:=by rw[<-uT h];exact nW h
theorem LI.amU {x:LI} (h:x.fair) (hk:x.kind=1) {i:Nat} (hi:i<x.bH.length):(x.less i).fair:=
 ⟨h.kind,fun e=>absurd hk e,h.data,by show(kD x.bH i).length<=448;rw[o6];have:=h.few;omega,h.short,h.mode,h.links,fun e he=>h.names e ((tQ hi).mem_iff.2 (vR _ he))⟩
theorem dD.leave {S:VS} {g:LT} (h:dD S g) {dir i:Nat} {name:List UInt8} (hd:dir<S.names) (hk:(g dir).kind=1) (hi:i<(g dir).bH.length) (hf:(kJ (g dir).bH name).1=i):
  dD (cO S dir name) (dP g dir ((g dir).less i)):=by
 have hx:=h.head dir hd;have hsize:(aH S.cur dir).size=(g dir).bH.length:=by rw[h.size hd,vE hk]
 have hlen:(aH S.cur dir).aB.length=max 1 (((g dir).bH.length+15)/16):=by rw[h.len dir hd,lF hk]
 have ac8:=h.bH dir hd hk;have hfair:=LI.amU (h.fair dir hd) hk hi;have l7:=(h.fair dir hd).few;have hnm:=(h.fair dir hd).names;obtain⟨n,hn⟩:∃n,(g dir).bH.length=n+1:=⟨(g dir).bH.length-1,by omega⟩;obtain⟨L,hL⟩:∃L,L=(g dir).bH:=⟨_,rfl⟩;rw[<-hL]at hn ac8 hnm hi hf;obtain⟨sp,hsp⟩:∃sp,sp=(aH S.cur dir).aB:=⟨_,rfl⟩;have IJ:((g dir).less i).need=max 1 ((n+15)/16):=by rw[lF (show((g dir).less i).kind=1 from hk)];(show max 1 (((kD (g dir).bH i).length+15)/16)=_);rw[o6,<-hL,hn,OU]
 rw[<-hL,hn]at hsize hlen;rw[<-hsp]at hlen
 --the entries
 obtain⟨e,he⟩:∃e,e=tC L n:=⟨_,rfl⟩;have hem:e∈L:=by rw[he];exact NZ aD
 obtain⟨he1,he2⟩:=hnm e hem;have UR:=h.QQ hd;rw[<-hsp]at UR;have amV:=h.nodup dir hd;rw[<-hsp]at amV;obtain⟨S1,hS1⟩:∃S1,S1=S.iD (sp.getD (i/16) 0) i e.1 e.2:=⟨_,rfl⟩;obtain⟨S2,hS2⟩:∃S2,S2=S1.iD (sp.getD (n/16) 0) n [] 0:=⟨_,rfl⟩;have aD8:i/16<sp.length:=by omega
 have hn16:n/16<sp.length:=by omega
 have hu1:dZ S1:=by rw[hS1];exact h.use.iD (UR _ (vD aD8)).1 _ _ he1
 have hm1:Mid S S1:=by rw[hS1]at hu1 ⊢;exact Mid.laid (Laid.iD S _ _ _ _) hu1
 have hu2:dZ S2:=by rw[hS2];exact hu1.iD (by rw[hm1.count];exact(UR _ (vD hn16)).1) _ _ bK
 have hm2:Mid S S2:=by rw[hS2]at hu2 ⊢;exact hm1.trans (Mid.laid (Laid.iD S1 _ _ _ _) hu2)
 have aI8:S2.nodes=S.nodes:=by rw[hS2,hS1];rfl
 have azE:∀j,S2.bit j=S.bit j:=fun j=>by rw[hS2,QI hu1,hS1,QI h.use]
 have hblk2:∀s,s∉sp->bk S2.cur (S.data+s)=bk S.cur (S.data+s):=fun s hs=>by(have e1:bk S2.cur (S1.data+s)=bk S1.cur (S1.data+s):=by rw[hS2];exact II S1 _ _ _ fun e=>hs (by rw[e];exact vD hn16));(have e2:bk S1.cur (S.data+s)=bk S.cur (S.data+s):=by rw[hS1];exact II S _ _ _ fun e=>hs (by rw[e];exact vD aD8));rw[hm1.data]at e1;rw[e1,e2]
 have aD9:∀k,k<n->∀x:VI,x.aB=sp->gT S2.cur S.data x k=if k=i then AO e.1 e.2 else gT S.cur S.data x k:=fun k hk2 x hxs=>by(have k16:k<16*sp.length:=by omega);(have e1:gT S2.cur S1.data x k=if k=n then AO [] 0 else gT S1.cur S1.data x k:=by have:=QJ (S:=S1) hu1 (x:=x) (by rw[hxs];exact amV) (i:=n) (k:=k) (n:=0) (name:=[]) (by rw[hxs];omega) (by rw[hxs];omega) (by rw[hxs,hm1.count];exact fun s hs=>(UR s hs).1) bK;rw[hxs]at this;rw[hS2];exact this);(have e2:gT S1.cur S.data x k=if k=i then AO e.1 e.2 else gT S.cur S.data x k:=by have:=QJ (S:=S) h.use (x:=x) (by rw[hxs];exact amV) (i:=i) (k:=k) (n:=e.2) (name:=e.1) (by rw[hxs];omega) (by rw[hxs];omega) (by rw[hxs];exact fun s hs=>(UR s hs).1) he1;rw[hxs]at this;rw[hS1];exact this);rw[hm1.data]at e1;rw[e1,if_neg aD,e2]
 --the fit
 have aEA:dZ (S2.node (S2.nodes-1)):=(Mid.node hu2 _).use;obtain⟨S4,jT⟩:∃S4,jY (S2.node (S2.nodes-1)) sp (max 1 ((n+15)/16))=some (S4,sp.take (max 1 ((n+15)/16))):=by(obtain⟨S4,h4,_⟩:=acW aEA (l:=sp) (n:=max 1 ((n+15)/16)) aD fun s hs=>by(show s<S2.count);rw[hm2.count];exact(UR s hs).1);exact⟨S4,h4⟩
 obtain⟨hu4,hl4,aEB,aEC,aI9,hb4⟩:=ZO aEA (l:=sp) (fun s hs=>⟨by show s<S2.count;rw[hm2.count];exact(UR s hs).1,by show S2.bit s=true;rw[azE];exact(UR s hs).2⟩) amV jT;have NW:=(jR jT).1;have hm4:Mid S S4:=hm2.trans ((Mid.node hu2 _).trans (Mid.used NW hu4));obtain⟨l,hl⟩:∃l,l=sp.take (max 1 ((n+15)/16)):=⟨_,rfl⟩;rw[<-hl]at hl4 aEB aEC aI9 hb4 jT;have hleave:cO S dir name=S4.keep dir (((g dir).less i).vi l):=by unfold cO FU;simp only;rw[ac8,hf,nA,hsize,OU,<-hsp,<-he,<-hS1,<-hS2,show n+1+14=n+15 by omega,jT];simp only;congr 1;rw[hx];unfold LI.vi LI.less;simp only[VI.mk.injEq,true_and,and_true];unfold LI.size;rw[if_pos hk,o6,<-hL,hn];rfl
 rw[hleave];have hlt:∀s∈l,s<S.count:=fun s hs=>by have:=aEB s hs;rw[show(S2.node (S2.nodes-1)).count=S2.count from rfl,hm2.count]at this;exact this
 have hsub:∀s∈l,s∈sp:=fun s hs=>by rw[hl]at hs;exact AJ hs
 refine h.step hd (Step.keep h hd hm4 hfair (by rw[IJ];exact hl4) hlt aEC (h.ZP hd fun s hs=>.inl (by rw[<-hsp];exact hsub s hs)) (fun j hj=>h.QR hd (l1:=l) (fun t=>?_) hj) (fun m hmm e2 s hs=>?_) (fun _=>?_) (fun k2=>?_) ?_)
 ·rw[hb4];(show((S2.bit t&& !decide (t∈sp))||decide (t∈l))=_);rw[azE,<-hsp]
 ·(have h1:bk S4.cur (S.data+s)=bk S2.cur (S.data+s):=by have:=uF NW s;rw[show(S2.node (S2.nodes-1)).data=S2.data from rfl,hm2.data]at this;exact this);rw[h1];exact hblk2 s fun h2=>h.others hd m hmm e2 s hs (by rw[<-hsp];exact h2)
 ·(have hvs:(((g dir).less i).vi l).size=n:=by(show((g dir).less i).size=n);unfold LI.size;rw[if_pos (show((g dir).less i).kind=1 from hk)];(show(kD (g dir).bH i).length=n);rw[o6,<-hL,hn];rfl);unfold jX;rw[hvs];(show _=kD (g dir).bH i);rw[<-hL,ac7 hn];(refine uO fun k hk3=>?_);have hk4:=List.mem_range.1 hk3;(have hkl:k/16<l.length:=by rw[hl4];omega);(have h1:gT S4.cur S.data (((g dir).less i).vi l) k=gT S2.cur S.data (aH S.cur dir) k:=by unfold gT;(show AL (bk S4.cur (S.data+l.getD (k/16) 0)) k=AL (bk S2.cur (S.data+(aH S.cur dir).aB.getD (k/16) 0)) k);(have e3:l.getD (k/16) 0=sp.getD (k/16) 0:=by rw[hl,gH,gH,vV,if_pos (by rw[hl4]at hkl;exact hkl)]);(have e4:bk S4.cur (S.data+sp.getD (k/16) 0)=bk S2.cur (S.data+sp.getD (k/16) 0):=by have:=uF NW (sp.getD (k/16) 0);rw[show(S2.node (S2.nodes-1)).data=S2.data from rfl,hm2.data]at this;exact this);rw[e3,e4,hsp]);rw[h1,aD9 k hk4 _ hsp.symm];(have hLk:(enN (gT S.cur S.data (aH S.cur dir) k),enI (gT S.cur S.data (aH S.cur dir) k))=tC L k:=by rw[<-ac8,DF (by rw[hsize];omega)]);by_cases e5:k=i
  ·rw[if_pos e5,if_pos e5,acZ he1,ac0 he1 he2,<-he]
  rw[if_neg e5,if_neg e5];exact hLk
 ·exact absurd (show(g dir).kind=2 from k2) aD
 show S4.nodes=S.nodes-((g dir).bH.length:Nat)+((kD (g dir).bH i).length:Nat)
 rw[NW.nodes,o6,<-hL,hn];show S2.nodes-1=_
 rw[aI8];omega
theorem ac9 :LI0.fair:=⟨by decide,fun _=>rfl,fun _=>rfl,by decide,by decide,by decide,by decide,fun e he=>by cases he⟩
theorem dD.drop {S:VS} {g:LT} (h:dD S g) {n:Nat} (hn:n<S.names) (he:(g n).bH=[]):dD (mV S n) (dP g n LI0):=by
 obtain⟨S1,h1,h2⟩:=BL (S:=S) (n:=n);rw[h2];obtain⟨hu,hl,hlt,hnd,hor,hb⟩:=ZO h.use (h.QQ hn) (h.nodup n hn) h1;have NW:=(jR h1).1;have hm:Mid S S1:=Mid.used NW hu;refine h.step (x:=LI0) (l:=[]) hn (Step.keep (x:=LI0) (l:=[]) h hn hm ac9 rfl (fun s hs=>by cases hs) .nil (h.ZP hn fun s hs=>by cases hs) (fun j hj=>h.QR hn hb hj) (fun m hmm e s hs=>uF NW s) (fun k=>by cases k) (fun k=>by cases k) ?_);rw[NW.nodes,he];show S.nodes=S.nodes-0+0
 omega
theorem aq2 :bX.length=512:=fV
theorem dD.aq3 {S:VS} {g:LT} (h:dD S g) {n mode links:Nat} (hn:n<S.names) (h0:(g n).kind=0) (hm:mode<65536) (hl:links<65536):
  (∀j,j5 (bk S.cur 1) S.count=some j->dD (kN S n ⟨1,mode,links,0,[]⟩ j) (dP g n ⟨1,mode,links,[],[]⟩))/\
  (j5 (bk S.cur 1) S.count=none->S.count<oZ (dP g n ⟨1,mode,links,[],[]⟩) S.names):=by
 have he:(g n).bH=[]:=(h.fair n hn).bH aD;have hz:(aH S.cur n).aB=[]:=vS (by rw[h.len n hn];unfold LI.need;rw[if_neg aD,if_neg aD]);have hf:(⟨1,mode,links,[],[]⟩:LI).fair:=⟨Nat.le_succ 1,fun e=>absurd rfl e,fun _=>rfl,fZ _,fZ _,hm,hl,fun e he=>by cases he⟩;constructor
 ·intro j hj;obtain⟨hj1,hj2,_⟩:=yQ hj;have aED:S.bit j=false:=hj2;have hu1:=h.use.set j;have hm1:Mid S (S.put 1 (kZ (bk S.cur 1) j)):=⟨hu1,rfl,rfl,fun m _=>by unfold aH;(show DJ (((bk (S.cur.set 1 _) (2+m/8)).drop (m%8*64)).take 64)=_);rw[dK _ _ aD],rfl,rfl⟩;have hu2:dZ (gN S j):=hu1.put _ aq2;have hm2:Mid S (gN S j):=hm1.trans ⟨hu2,rfl,rfl,fun m hmm=>by unfold aH gN;(show DJ (((bk ((S.put 1 (kZ (bk S.cur 1) j)).cur.set ((S.put 1 (kZ (bk S.cur 1) j)).data+j) bX) (2+m/8)).drop (m%8*64)).take 64)=_);rw[dK _ _ (by have:m<S.names:=hmm;show 2+m/8≠S.data+j;unfold VS.data;omega)],rfl,rfl⟩;(have hbit:∀i,(gN S j).bit i=(decide (i=j)||S.bit i):=fun i=>by(have e1:(gN S j).bit i=(S.put 1 (kZ (bk S.cur 1) j)).bit i:=by(show pJ (bk ((S.put 1 (kZ (bk S.cur 1) j)).cur.set (S.data+j) bX) 1) i=_);rw[dK _ _ (by unfold VS.data;omega)];rfl);rw[e1,IE h.use hj1]);(have hblk:∀s,s≠j->bk (gN S j).cur (S.data+s)=bk S.cur (S.data+s):=fun s hs=>by(show bk ((S.cur.set 1 _).set (S.data+j) bX) (S.data+s)=_);rw[dK _ _ aD,dK _ _ (by unfold VS.data;omega)]);refine h.step (x:=⟨1,mode,links,[],[]⟩) (l:=[j]) hn (Step.keep (x:=⟨1,mode,links,[],[]⟩) (l:=[j]) h hn hm2 hf (by simp[LI.need]) (fun s hs=>by rw[tJ]at hs;rw[hs];exact hj1) bK (fun m hmm e s hs hs2=>?_) (fun i hi=>?_) (fun m hmm e s hs=>hblk s fun e2=>?_) (fun _=>rfl) (fun k=>by cases k) ?_)
  ·rw[tJ]at hs2;have:=h.uE hmm hs;rw[hs2,aED]at this;cases this
  ·rw[hbit,M8,jN,h.ac1 hn hi,hz,tJ];simp
  ·have:=h.uE hmm hs;rw[e2,aED]at this;cases this
  rw[he];(show S.nodes=S.nodes-0+0);omega
 intro hno;have h1:=h.used [] fun j hj=>.inl (QE hno j hj)
 have h2:=xV hn (⟨1,mode,links,[],[]⟩:LI) (g:=g);have h3:(g n).need=0:=by unfold LI.need;rw[if_neg aD,if_neg aD]
 have h4:(⟨1,mode,links,[],[]⟩:LI).need=1:=by simp[LI.need]
 rw[h3,h4]at h2;simp at h1;omega
end Go.Proofs.YtmjomdkleikgbaaGreat
