/- Parts. -/
import Derived.Test.YtmjomdkleikgbaaGreatJ17
import Derived.Test.YtmjomdkleikgbaaGreatJ18
set_option linter.unusedVariables false
set_option linter.unusedSimpArgs false
set_option maxRecDepth 100000
set_option maxHeartbeats 20000000
namespace Go.Proofs.YtmjomdkleikgbaaGreat
open Go.RowKit
def lY (S:VS) (n:Nat) (x:VI) (bs:List UInt8) (dir:Nat) (name:List UInt8):Option VS:=
 match iF (S.keep n x) n bs with
 |none=>none
 |some S2=>gL S2 dir name n
def fV (S:VS) (j:Nat):VS:=(S.put 1 (kL (bk S.cur 1) j)).put ((S.put 1 (kL (bk S.cur 1) j)).data+j) bV
def j6 (S:VS) (n:Nat) (x:VI) (j:Nat):VS:=(fV S j).keep n {x with aB:=[j]}
def jV (S:VS) (x:VI) (bs:List UInt8) (dir:Nat) (name:List UInt8):Option VS:=
 match lU S.cur S.names with
 |none=>none
 |some n=>if x.kind=1 then
   match jO (bk S.cur 1) S.count with
   |none=>none
   |some j=>gL (j6 S n x j) dir name n
  else lY S n x bs dir name
theorem OX {c:fK} {names n:Nat} (h:lU c names=some n):n<names:=by have:=RF h;exact List.mem_range.1 this
theorem UI {bs:List UInt8} {m j:Nat} (h:jO bs m=some j):j<m:=by have:=RF h;exact List.mem_range.1 this
section
variable {w0 w:World} {R:List aV} {f q p:Nat} {S:VS} {a:VA}
theorem aeJ {bf bx bb bd bp:Nat} (hbf:∀W Y,Sep w0 W (Y++R)->W.cell? ⟨bf,0,none⟩=some (pV f))
  (hC:VC S a) (hF:VF S) (hT:OY S.cur S.names) (hfr:lU S.cur S.names=none) (h:Sep w0 w (aD f q p S a::R)):
  Calls Tryz.prog 140 #[pV bf,pV bx,pV bb,pV bd,pV bp] w (dY f q p S none w0 R):=by
 have hc:w.cell? ⟨bf,0,none⟩=some (pV f):=hbf w [_] h;have hun:Calls Tryz.prog 141 #[pV f] w (dY f q p S none w0 R):=by refine(OZ hC hF hT h).mono ?_;intro e w' ho;unfold qG at ho;rw[hfr]at ho;obtain⟨rfl,a',h1,h2⟩:=ho;unfold dY;exact⟨rfl,S,a',.refl _,h1.ok,h2⟩
 clear hbf hC hF hT hfr h;unfold dY at*;go_enter Tryz.func140,Tryz.ntmps140;go_wp2_with(go_at_call 141;refine hun.mono ?_;rintro e w9 ⟨rfl,hend⟩;replace hend:=Lh hend;clear hun);exact⟨rfl,rfl,hend.out⟩
theorem Z56 {P:Prop} (h:P:=by refine(OZ hC hF hT h).mono ?_;intro e w' ho;unfold qG at ho;rw[hfr]at ho;obtain⟨rfl,a',h1,h2⟩:=ho;exact⟨rfl,a',h1.ok,h2⟩):P:=h
theorem aeK {bf bx bb bd bp n dir L c0:Nat} {A0:Option Addr} {x:VI} {bs path:List UInt8} (hR0:∀W Y,Sep w0 W (Y++R)->W.cell? ⟨bf,0,none⟩=some (pV f)/\W.cell? ⟨bb,0,none⟩=some (.slice A0 L c0)/\W.cell? ⟨bd,0,none⟩=some (iV dir)/\W.cell? ⟨bp,0,none⟩=some (aC path)/\W.cell? ⟨bx,0,none⟩=some (iV 2)/\W.cell? ⟨bx,1,none⟩=some (iV (x.mode:Nat))/\W.cell? ⟨bx,2,none⟩=some (iV (x.links:Nat))/\W.cell? ⟨bx,3,none⟩=some (iV (x.size:Nat))/\W.cell? ⟨bx,4,none⟩=some (.slice none 0 0))
  (hC:VC S a) (hF:VF S) (hT:OY S.cur S.names) (hx:x.ok) (hk:x.kind=2) (hx0:x.aB=[]) (hbs:bs.length<=8192) (hv:iG w0 R (.slice A0 L c0) bs) (hv2:aU path=true) (hp2:path.length<=1048576) (hs:fF S) (h0:yM w0 R (.slice none 0 0) [])
  (hfr:lU S.cur S.names=some n) (hn2:mZ (S.keep n x) n) (hs2:fF (S.keep n x)) (an8:∀S2,iF (S.keep n x) n bs=some S2->eX S S2/\nV S2 dir n (aL path)/\lI S2) (h:Sep w0 w (aD f q p S a::R)):
  Calls Tryz.prog 140 #[pV bf,pV bx,pV bb,pV bd,pV bp] w (dY f q p S (lY S n x bs dir (aL path)) w0 R):=by
 have hR:=Lh hR0;obtain⟨SK,hSK⟩:∃SK,SK=S.keep n x:=⟨_,rfl⟩;have OW:Hid (eX S SK):=by rw[hSK];exact Lh ((eX.refl S).keep _ _)
 have hun:Hid (Calls Tryz.prog 141 #[pV f] w fun e w'=>e= .returned (iV n)/\∃a',VC S a'/\Sep w0 w' (aD f q p S a'::R)):=Lh (by exact Z56);have hkp:Hid (∀W a1,VC S a1->Sep w0 W (aD f q p S a1::R)->Calls Tryz.prog 100 #[pV f,iV n,.agg #[iV 2,iV (x.mode:Nat),iV (x.links:Nat),iV (x.size:Nat),.slice none 0 0]] W fun e w'=>e= .returned (.tuple #[])/\∃a',VC SK a'/\Sep w0 w' (aD f q p SK a'::R)):=Lh fun W a1 h1 h2=>by rw[hSK];have h3:=tN (x:=x) (v:=.slice none 0 0) h1 hF (OX hfr) hx (hT n (OX hfr)) hs (by rw[hx0];exact h0) h2;unfold fB aM at h3;rw[hk]at h3;exact h3
 rw[<-hSK]at hn2 hs2 an8;have LK:Hid (∀W,Calls Tryz.prog 121 #[aC path] W fun e w'=>e= .returned (aC (aL path))/\Below W.heap.size W w'):=Lh fun W=>tV hv2 hp2 W
 have hfi:Hid (∀W a1,VC SK a1->Sep w0 W (aD f q p SK a1::R)->Calls Tryz.prog 75 #[pV f,iV n,.slice A0 L c0] W (dY f q p SK (iF SK n bs) w0 R)):=Lh fun W a1 h1 h2=>
  ZU h1 (OW.out.vf hF) hn2.lt hn2.few hn2.sp hs2 hbs hv h2
 have hX0:=Lh h;have hF':=Lh hF;have hres:Hid (lY S n x bs dir (aL path)=match iF SK n bs with|none=>none|some S2=>gL S2 dir (aL path) n):=Lh (by unfold lY;rw[<-hSK]);obtain⟨rA,hrA⟩:∃r,r=lY S n x bs dir (aL path):=⟨_,rfl⟩;rw[<-hrA]at hres ⊢;obtain⟨b2,hb2⟩:∃b,b=aL path:=⟨_,rfl⟩;rw[<-hb2]at LK an8 hres;clear hR0 hC hF hT hx hx0 hbs hv hv2 hp2 hs h0 hfr hn2 hs2 h hSK hrA hb2 hk;cases hfp:iF SK n bs with
 |none=>rw[hfp]at hfi hres;have hrr:rA=none:=hres.out;subst hrr;clear an8 hres LK hF' hfp;unfold dY at hfi;unfold aC at*;go_enter Tryz.func140,Tryz.ntmps140;have hc:=hR.out w [_] hX0.out;go_wp2_with(go_at_call 141;refine hun.out.mono ?_;rintro e w9 ⟨rfl,a9,dQ,h9⟩;clear hc;have hc:=hR.out w9 [_] h9;have hV:=Lh dQ;have hX:=Lh h9;clear dQ h9 hun hX0);have gU:=hR.out w9.drew [_] hX.out.drew;clear hc;refine aO (S:=fun w'=>w'.cell? ⟨bf,0,none⟩=some (pV f)/\w'.cell? ⟨bb,0,none⟩=some (.slice A0 L c0)/\w'.cell? ⟨bd,0,none⟩=some (iV dir)/\w'.cell? ⟨bp,0,none⟩=some (.string ⟨path.toArray⟩)/\w'.cell? ⟨bx,0,none⟩=some (iV 2)/\w'.cell? ⟨bx,1,none⟩=some (iV (x.mode:Nat))/\w'.cell? ⟨bx,2,none⟩=some (iV (x.links:Nat))/\w'.cell? ⟨bx,3,none⟩=some (iV (x.size:Nat))/\w'.cell? ⟨bx,4,none⟩=some (.slice none 0 0)) 7 ?_;refine aA 0 gU ?_;refine aA 1 gU ?_;refine aA 2 gU ?_;refine aA 3 gU ?_;refine aA 4 gU ?_;refine aA 5 gU ?_;(refine bH 6 fun K hK=>?_);go_simp;go_at_call 100;refine(hkp.out _ _ hV.out hX.out.drew).mono ?_;rintro e w8 ⟨rfl,aK,hCK,h8⟩;clear gU;have hc8:=hR.out w8 [_] h8;replace hX:=Lh h8;replace hV:=Lh hCK;clear hCK h8 hkp;dsimp only;refine hK _ _ (fun _=>hc8) ?_;clear hK K;(try simp only[Act.put,gD]);refine aS fT ?_ _;go_wp2_with fail;clear hc8;have gU:=hR.out w8.drew [_] hX.out.drew;refine aO (S:=fun w'=>w'.cell? ⟨bf,0,none⟩=some (pV f)/\w'.cell? ⟨bb,0,none⟩=some (.slice A0 L c0)/\w'.cell? ⟨bd,0,none⟩=some (iV dir)/\w'.cell? ⟨bp,0,none⟩=some (.string ⟨path.toArray⟩)/\w'.cell? ⟨bx,0,none⟩=some (iV 2)/\w'.cell? ⟨bx,1,none⟩=some (iV (x.mode:Nat))/\w'.cell? ⟨bx,2,none⟩=some (iV (x.links:Nat))/\w'.cell? ⟨bx,3,none⟩=some (iV (x.size:Nat))/\w'.cell? ⟨bx,4,none⟩=some (.slice none 0 0)) 7 ?_;refine aA 0 gU ?_;refine aA 1 gU ?_;refine aA 2 gU ?_;refine aA 3 gU ?_;refine aA 4 gU ?_;refine aA 5 gU ?_;(refine bH 6 fun K hK=>?_);go_simp;go_at_call 75;refine(hfi.out _ _ hV.out hX.out.drew).mono ?_;rintro e w7 ⟨rfl,T,aT,hLT,hCT,hT⟩;unfold dY;exact⟨rfl,rfl,T,aT,OW.out.trans hLT,hCT,hT⟩
 |some S2=>
  obtain⟨hl2,he2,hs2⟩:=an8 S2 hfp;rw[hfp]at hfi hres;obtain⟨rX,vN⟩:∃r,r=gL S2 dir b2 n:=⟨_,rfl⟩;(have hrr:rA=rX:=by rw[vN];exact hres.out);subst hrr;(have hen:Hid (∀W a1,VC S2 a1->Sep w0 W (aD f q p S2 a1::R)->Calls Tryz.prog 125 #[pV f,iV dir,aC b2,iV n] W (dY f q p S2 rA w0 R)):=Lh fun W a1 h1 h2=>by rw[vN];exact F7 h1 (hl2.vf hF'.out) he2 hs2 h2);replace hl2:=Lh hl2;clear an8 hres hF' hfp he2 hs2 vN;unfold dY at hfi;unfold aC at*;obtain⟨rX,vN⟩:∃r,r=rA:=⟨_,rfl⟩;subst vN;go_enter Tryz.func140,Tryz.ntmps140;have hc:=hR.out w [_] hX0.out;go_wp2_with(go_at_call 141;refine hun.out.mono ?_;rintro e w9 ⟨rfl,a9,dQ,h9⟩;clear hc;have hc:=hR.out w9 [_] h9;have hV:=Lh dQ;have hX:=Lh h9;clear dQ h9 hun hX0);have gU:=hR.out w9.drew [_] hX.out.drew;clear hc;refine aO (S:=fun w'=>w'.cell? ⟨bf,0,none⟩=some (pV f)/\w'.cell? ⟨bb,0,none⟩=some (.slice A0 L c0)/\w'.cell? ⟨bd,0,none⟩=some (iV dir)/\w'.cell? ⟨bp,0,none⟩=some (.string ⟨path.toArray⟩)/\w'.cell? ⟨bx,0,none⟩=some (iV 2)/\w'.cell? ⟨bx,1,none⟩=some (iV (x.mode:Nat))/\w'.cell? ⟨bx,2,none⟩=some (iV (x.links:Nat))/\w'.cell? ⟨bx,3,none⟩=some (iV (x.size:Nat))/\w'.cell? ⟨bx,4,none⟩=some (.slice none 0 0)) 7 ?_;refine aA 0 gU ?_;refine aA 1 gU ?_;refine aA 2 gU ?_;refine aA 3 gU ?_;refine aA 4 gU ?_;refine aA 5 gU ?_;(refine bH 6 fun K hK=>?_);go_simp;go_at_call 100;refine(hkp.out _ _ hV.out hX.out.drew).mono ?_;rintro e w8 ⟨rfl,aK,hCK,h8⟩;clear gU;have hc8:=hR.out w8 [_] h8;replace hX:=Lh h8;replace hV:=Lh hCK;clear hCK h8 hkp;dsimp only;refine hK _ _ (fun _=>hc8) ?_;clear hK K;(try simp only[Act.put,gD]);refine aS fT ?_ _;go_wp2_with fail;clear hc8;have gU:=hR.out w8.drew [_] hX.out.drew;refine aO (S:=fun w'=>w'.cell? ⟨bf,0,none⟩=some (pV f)/\w'.cell? ⟨bb,0,none⟩=some (.slice A0 L c0)/\w'.cell? ⟨bd,0,none⟩=some (iV dir)/\w'.cell? ⟨bp,0,none⟩=some (.string ⟨path.toArray⟩)/\w'.cell? ⟨bx,0,none⟩=some (iV 2)/\w'.cell? ⟨bx,1,none⟩=some (iV (x.mode:Nat))/\w'.cell? ⟨bx,2,none⟩=some (iV (x.links:Nat))/\w'.cell? ⟨bx,3,none⟩=some (iV (x.size:Nat))/\w'.cell? ⟨bx,4,none⟩=some (.slice none 0 0)) 7 ?_;refine aA 0 gU ?_;refine aA 1 gU ?_;refine aA 2 gU ?_;refine aA 3 gU ?_;refine aA 4 gU ?_;refine aA 5 gU ?_;(refine bH 6 fun K hK=>?_);go_simp;go_at_call 75;refine(hfi.out _ _ hV.out hX.out.drew).mono ?_;rintro e w7 ⟨rfl,aT,hCT,hT⟩;have hc7:=hR.out w7 [_] hT;replace hX:=Lh hT;replace hV:=Lh hCT;clear hT hCT hfi gU;dsimp only;refine hK _ _ (fun _=>hc7) ?_;clear hK K;(try simp only[Act.put,gD]);refine aS fT ?_ _;clear hc7;go_wp2_with fail;have hc:=hR.out w7.drew [_] hX.out.drew;refine aO (S:=fun w'=>w'.cell? ⟨bf,0,none⟩=some (pV f)/\w'.cell? ⟨bb,0,none⟩=some (.slice A0 L c0)/\w'.cell? ⟨bd,0,none⟩=some (iV dir)/\w'.cell? ⟨bp,0,none⟩=some (.string ⟨path.toArray⟩)/\w'.cell? ⟨bx,0,none⟩=some (iV 2)/\w'.cell? ⟨bx,1,none⟩=some (iV (x.mode:Nat))/\w'.cell? ⟨bx,2,none⟩=some (iV (x.links:Nat))/\w'.cell? ⟨bx,3,none⟩=some (iV (x.size:Nat))/\w'.cell? ⟨bx,4,none⟩=some (.slice none 0 0)) 8 ?_;refine aA 0 hc ?_;refine aA 1 hc ?_;refine aA 2 hc ?_;refine aA 3 hc ?_;refine aA 4 hc ?_;refine aA 6 hc ?_;(refine bH 5 fun K hK=>?_);go_simp;go_at_call 121;refine(LK.out _).mono ?_;rintro e v9 ⟨rfl,zO⟩;replace hX:=Lh (hX.out.drew.pure zO);have gU:=hR.out v9 [_] hX.out;clear hc zO;dsimp only;refine hK _ _ (fun _=>gU) ?_;clear hK K;(try simp only[Act.put,gD]);(refine bH 7 fun K hK=>?_);go_simp;go_at_call 125;refine(hen.out _ _ hV.out hX.out).mono ?_;intro e v8 ho;cases rX with
  |none=>unfold dY at ho;obtain⟨rfl,T,aT,hLT,hCT,hT⟩:=ho;unfold dY;exact⟨rfl,rfl,T,aT,hl2.out.trans hLT,hCT,hT⟩
  |some T=>exact Z8
theorem O0 {S:VS}:jM S [] 1=match jO (bk S.cur 1) S.count with|none=>none|some j=>some (S.put 1 (kL (bk S.cur 1) j),[j]):=by
 unfold jM;simp only[rF,mX,Nat.zero_sub,Nat.sub_zero];show MG 1 S []=_
 unfold MG;cases jO (bk S.cur 1) S.count<;>rfl
theorem Z74 {P:Prop} (h:P:=by have h3:=hW.bC Y.length (by rw[uS (iU _),DI];rfl) 0;rw[h3];unfold aM;rw[hk];rfl):P:=h
theorem aeL {bf bx bb bd bp n:Nat} {x:VI} (hR0:∀W Y,Sep w0 W (Y++R)->W.cell? ⟨bf,0,none⟩=some (pV f))
  (hC:VC S a) (hF:VF S) (hT:OY S.cur S.names) (hk:x.kind=1) (hx0:x.aB=[])
  (hfr:lU S.cur S.names=some n) (hfl:jO (bk S.cur 1) S.count=none) (h:Sep w0 w (aD f q p S a:: .box bx 129 (aM x (.slice none 0 0))::aQ (.slice none 0 0) []::R)):
  Calls Tryz.prog 140 #[pV bf,pV bx,pV bb,pV bd,pV bp] w (dY f q p S none w0 R):=by
 have hR:=Lh hR0;have hun:Hid (Calls Tryz.prog 141 #[pV f] w fun e w'=>e= .returned (iV n)/\∃a',VC S a'/\Sep w0 w' (aD f q p S a':: .box bx 129 (aM x (.slice none 0 0))::aQ (.slice none 0 0) []::R)):=Lh (by exact Z56);have hft:Hid (∀W a1,VC S a1->Sep w0 W (aD f q p S a1:: .box bx 129 (aM x (.slice none 0 0))::aQ (.slice none 0 0) []::R)->Calls Tryz.prog 99 #[pV f,pV bx,iV 1] W (dY f q p S none w0 R)):=Lh fun W a1 h1 h2=>by have h3:=xS (n:=1) (x:=x) h1 hF (by rw[hx0];decide) aR (by rw[hx0];intro s hs;cases hs) (by rw[hx0];exact h2);refine h3.mono ?_;intro e w' ho;unfold o9 at ho;rw[hx0,O0,hfl]at ho;unfold dY;exact ho
 have hck:Hid (∀W Y,Sep w0 W (Y++(.box bx 129 (aM x (.slice none 0 0))::aQ (.slice none 0 0) []::R))->W.cell? ⟨bf,0,none⟩=some (pV f)/\W.cell? ⟨bx,0,none⟩=some (iV 1)):=Lh fun W Y hW=>by refine⟨hR0 W (Y++[_,_]) (by rw[nT];exact hW),?_⟩;exact Z74
 have hX0:=Lh h;clear hR0 hC hF hT hk hx0 hfr hfl h hR;have hc:=hck.out w [_] hX0.out;unfold dY at*;go_enter Tryz.func140,Tryz.ntmps140;go_wp2_with(first |(go_at_call 141;refine hun.out.mono ?_;rintro e w9 ⟨rfl,a9,dQ,h9⟩;clear hc;have hc:=hck.out w9 [_] h9;have EH:=hft.out _ _ dQ h9;clear dQ h9 hun hX0)|(go_at_call 99;refine EH.mono ?_;rintro e w8 ⟨rfl,hend⟩;replace hend:=Lh hend));exact⟨rfl,rfl,hend.out⟩
theorem ajY {bf bx bb bd bp n dir j:Nat} {x:VI} {path:List UInt8} (hR0:∀W Y,Sep w0 W (Y++R)->W.cell? ⟨bf,0,none⟩=some (pV f)/\W.cell? ⟨bd,0,none⟩=some (iV dir)/\W.cell? ⟨bp,0,none⟩=some (aC path))
  (hC:VC S a) (hF:VF S) (hT:OY S.cur S.names) (hx:({x with aB:=[j]}:VI).ok) (hk:x.kind=1) (hx0:x.aB=[]) (hv2:aU path=true) (hp2:path.length<=1048576)
  (hfr:lU S.cur S.names=some n) (hfl:jO (bk S.cur 1) S.count=some j) (hn2:mZ (fV S j) n) (hs2:fF (fV S j)) (he:nV (j6 S n x j) dir n (aL path)) (hs3:lI (j6 S n x j)) (h:Sep w0 w (aD f q p S a:: .box bx 129 (aM x (.slice none 0 0))::aQ (.slice none 0 0) []::R)):
  Calls Tryz.prog 140 #[pV bf,pV bx,pV bb,pV bd,pV bp] w (dY f q p S (gL (j6 S n x j) dir (aL path) n) w0 R):=by
 have hR:=Lh hR0;obtain⟨S1,hS1⟩:∃S1,S1=S.put 1 (kL (bk S.cur 1) j):=⟨_,rfl⟩;have JH:eX S S1:=by rw[hS1];exact(eX.refl S).put _ _
 obtain⟨SB,hSB⟩:∃SB,SB=fV S j:=⟨_,rfl⟩;have awT:SB=S1.put (S1.data+j) bV:=by rw[hSB,hS1];rfl
 have aeM:eX S SB:=by rw[awT];exact JH.put _ _
 obtain⟨SD,hSD⟩:∃SD,SD=j6 S n x j:=⟨_,rfl⟩;have awU:SD=SB.keep n {x with aB:=[j]}:=by rw[hSD,hSB];rfl
 have yQ:Hid (eX S SD):=by rw[awU];exact Lh (aeM.keep _ _)
 have hun:Hid (Calls Tryz.prog 141 #[pV f] w fun e w'=>e= .returned (iV n)/\∃a',VC S a'/\Sep w0 w' (aD f q p S a':: .box bx 129 (aM x (.slice none 0 0))::aQ (.slice none 0 0) []::R)):=Lh (by exact Z56);have hft:Hid (∀W a1,VC S a1->Sep w0 W (aD f q p S a1:: .box bx 129 (aM x (.slice none 0 0))::aQ (.slice none 0 0) []::R)->Calls Tryz.prog 99 #[pV f,pV bx,iV 1] W fun e w'=>e= .returned (.tuple #[])/\∃a2 ad c9,VC S1 a2/\Sep w0 w' (aD f q p S1 a2::aV.box bx 129 (aM {x with aB:=[j]} (.slice (some ad) 1 c9))::aQ (.slice (some ad) 1 c9) [(j:Int)]::R)):=Lh fun W a1 h1 h2=>by have h3:=xS (n:=1) (x:=x) h1 hF (by rw[hx0];decide) aR (by rw[hx0];intro s hs;cases hs) (by rw[hx0];exact h2);refine h3.mono ?_;intro e w' ho;unfold o9 at ho;rw[hx0,O0,hfl]at ho;obtain⟨rfl,a2,v2,_,h4,h5⟩:=ho;obtain⟨ad,c9,u9,e9,_,_⟩:=Rd.at_ (h5.rd 2 rfl) (k:=0) (by show 0<1;decide);rw[<-hS1]at h4 h5;have e8:v2= .slice (some ad) 1 c9:=e9;rw[e8]at h5;exact⟨rfl,a2,ad,c9,h4,h5⟩
 have hjc:=UI hfl;have LG:Hid (∀W a1 Y,VC S1 a1->Sep w0 W (Y++(aD f q p S1 a1::R))->Calls Tryz.prog 142 #[pV f] W fun e w'=>e= .returned (iV (S1.data:Nat))/\w'=W):=Lh fun W a1 Y h1 h2=>by have h3:Sep w0 W (aD f q p S1 a1::(Y++R)):=h2.perm lN;exact zQ h1 (JH.vf hF) h3.fC.c3
 have ZW:Hid (∀W a1 ad c9 g,VC S1 a1->Sep w0 W (aJ (sV g 512 512) bV::aD f q p S1 a1::aV.box bx 129 (aM {x with aB:=[j]} (.slice (some ad) 1 c9))::aQ (.slice (some ad) 1 c9) [(j:Int)]::R)->Calls Tryz.prog 98 #[pV f,iV ((S1.data:Int)+j),sV g 512 512] W fun e w'=>e= .returned (.tuple #[])/\∃a2,VC SB a2/\Sep w0 w' (aD f q p SB a2::aV.box bx 129 (aM {x with aB:=[j]} (.slice (some ad) 1 c9))::aQ (.slice (some ad) 1 c9) [(j:Int)]::R)):=Lh fun W a1 ad c9 g h1 h2=>by(have hbound:S1.data+j<S1.nb-96:=by rw[<-JH.count]at hjc;unfold VS.count at hjc;omega);have h3:Sep w0 W (aD f q p S1 a1::aJ (sV g 512 512) bV::aV.box bx 129 (aM {x with aB:=[j]} (.slice (some ad) 1 c9))::aQ (.slice (some ad) 1 c9) [(j:Int)]::R):=h2.perm (List.Perm.swap _ _ _);have h4:=xP (v:=sV g 512 512) (bs:=bV) h1 hbound ((h3.WL h1 (S1.data+j)).perm (List.Perm.swap _ _ _));rw[show((S1.data+j:Nat):Int)=(S1.data:Int)+j by omega]at h4;refine h4.mono ?_;rintro e w' ⟨rfl,h5⟩;rw[awT];exact⟨rfl,_,h1.put _ hbound fH,h5⟩
 have hd5:(S1.data:Int)+j<1000000:=by have h1:=hC.oU.few;rw[<-JH.count]at hjc;unfold VS.count at hjc;have:=JH.nb;omega
 have hkp:Hid (∀W a1 ad c9,VC SB a1->Sep w0 W (aD f q p SB a1::aV.box bx 129 (aM {x with aB:=[j]} (.slice (some ad) 1 c9))::aQ (.slice (some ad) 1 c9) [(j:Int)]::R)->Calls Tryz.prog 100 #[pV f,iV n,.agg #[iV 1,iV (x.mode:Nat),iV (x.links:Nat),iV (x.size:Nat),.slice (some ad) 1 c9]] W fun e w'=>e= .returned (.tuple #[])/\∃a',VC SD a'/\Sep w0 w' (aD f q p SD a'::aV.box bx 129 (aM {x with aB:=[j]} (.slice (some ad) 1 c9))::aQ (.slice (some ad) 1 c9) [(j:Int)]::R)):=Lh fun W a1 ad c9 h1 h2=>by have h3:=MI (n:=n) (y:= {x with aB:=[j]}) (v:=.slice (some ad) 1 c9) h1 (aeM.vf hF) (by rw[hSB];exact hn2) hx (by rw[hSB];exact hs2) 1 rfl h2;rw[<-awU]at h3;unfold fB aM at h3;simp only at h3;rw[hk]at h3;unfold aM;simp only;rw[hk];exact h3
 have LK:Hid (∀W,Calls Tryz.prog 121 #[aC path] W fun e w'=>e= .returned (aC (aL path))/\Below W.heap.size W w'):=Lh fun W=>tV hv2 hp2 W
 obtain⟨rX,vN⟩:∃rX,rX=gL (j6 S n x j) dir (aL path) n:=⟨_,rfl⟩;have hen:Hid (∀W a1,VC SD a1->Sep w0 W (aD f q p SD a1::R)->Calls Tryz.prog 125 #[pV f,iV dir,aC (aL path),iV n] W (dY f q p SD rX w0 R)):=Lh fun W a1 h1 h2=>by rw[vN,<-hSD];exact F7 h1 (yQ.out.vf hF) (by rw[hSD];exact he) (by rw[hSD];exact hs3) h2
 obtain⟨b2,hb2⟩:∃b,b=aL path:=⟨_,rfl⟩;rw[<-vN];rw[<-hb2]at LK hen;have hck:Hid (∀W Y,Sep w0 W (Y++(.box bx 129 (aM x (.slice none 0 0))::aQ (.slice none 0 0) []::R))->W.cell? ⟨bf,0,none⟩=some (pV f)/\W.cell? ⟨bx,0,none⟩=some (iV 1)):=Lh fun W Y hW=>by refine⟨(hR0 W (Y++[_,_]) (by rw[nT];exact hW)).1,?_⟩;exact Z74
 have hcd:Hid (∀W a1 SS ad c9,Sep w0 W (aD f q p SS a1::aV.box bx 129 (aM {x with aB:=[j]} (.slice (some ad) 1 c9))::aQ (.slice (some ad) 1 c9) [(j:Int)]::R)->W.cell? ⟨bf,0,none⟩=some (pV f)/\W.cell? ⟨bd,0,none⟩=some (iV dir)/\W.cell? ⟨bp,0,none⟩=some (.string ⟨path.toArray⟩)/\W.cell? ⟨bx,0,none⟩=some (iV 1)/\W.cell? ⟨bx,1,none⟩=some (iV (x.mode:Nat))/\W.cell? ⟨bx,2,none⟩=some (iV (x.links:Nat))/\W.cell? ⟨bx,3,none⟩=some (iV (x.size:Nat))/\W.cell? ⟨bx,4,none⟩=some (.slice (some ad) 1 c9)):=Lh fun W a1 SS ad c9 hW=>by have k1:=hR0 W [_,_,_] hW;have k2:=hW.dK 1 rfl;simp only at k2;rw[hk]at k2;exact⟨k1.1,k1.2.1,k1.2.2,k2.1,k2.2.1,k2.2.2.1,k2.2.2.2.1,k2.2.2.2.2⟩
 have hat:Hid (∀W a1 ad c9,Sep w0 W (aD f q p S1 a1::aV.box bx 129 (aM {x with aB:=[j]} (.slice (some ad) 1 c9))::aQ (.slice (some ad) 1 c9) [(j:Int)]::R)->W.cell? (ad.add 0)=some (iV j)):=Lh fun W a1 ad c9 hW=>by obtain⟨ad2,c8,u9,e9,h1,h2⟩:=Rd.at_ (hW.rd 2 rfl) (k:=0) (by show 0<1;decide);cases e9;cases h1;exact h2
 obtain⟨k0,o7,hk0,hk1,hk2⟩:=iN lW;have hX0:=Lh h;obtain⟨d,hd⟩:∃d,d=S1.data:=⟨_,rfl⟩;rw[<-hd]at LG ZW hd5;have q3:IntKind.i64.wrap ((d:Int)+j)=d+j:=IntWalk.i64_in _ aI;have hc:=hck.out w [_] hX0.out;clear hR0 hC hF hT hx hk hx0 hv2 hp2 hfr hfl hn2 hs2 he hs3 h hS1 JH hSB awT aeM hSD awU hjc vN hb2 hd hd5;unfold aC at*;go_enter Tryz.func140,Tryz.ntmps140;go_wp2_with(first |(go_at_call 141;refine hun.out.mono ?_;rintro e w9 ⟨rfl,a9,dQ,h9⟩;clear hc;have hc:=hck.out w9 [_] h9;have EH:=hft.out _ _ dQ h9;clear dQ h9 hun hX0 hft)|(go_at_call 99;refine EH.mono ?_;rintro e w8 ⟨rfl,a8,ad,c9,yR,h8⟩;clear hc;have hc:=(hcd.out _ _ _ _ _ h8).2.2.2.2.2.2.2;have hV:=Lh yR;have hX:=Lh h8;clear yR h8 EH hck));have hI0:Hid (∃a8,VC S1 a8/\Sep w0 w8 (aD f q p S1 a8::aV.box bx 129 (aM {x with aB:=[j]} (.slice (some ad) 1 c9))::aQ (.slice (some ad) 1 c9) [(j:Int)]::R)):=Lh ⟨_,hV.out,hX.out⟩;clear hV hX hc;go_loopw[24] (fun i wr=>∃k:Nat,k<=1/\i=iV k/\Hid (k=0->∃a8,VC S1 a8/\Sep w0 wr (aD f q p S1 a8::aV.box bx 129 (aM {x with aB:=[j]} (.slice (some ad) 1 c9))::aQ (.slice (some ad) 1 c9) [(j:Int)]::R))/\Hid (k=1->∃a8,VC SB a8/\Sep w0 wr (aD f q p SB a8::aV.box bx 129 (aM {x with aB:=[j]} (.slice (some ad) 1 c9))::aQ (.slice (some ad) 1 c9) [(j:Int)]::R))) (fun i _=>1-(intOf i).toNat)
 case atStart=>exact⟨0,fZ _,rfl,Lh fun _=>hI0.out,Lh fun h=>absurd h aR⟩
 obtain⟨k,hk,rfl,hI,hJ⟩:=hrel;clear hI0;by_cases hlt:k<1
 ·(have hk0':k=0:=by omega);obtain⟨a8,yR,h8⟩:=hI.out hk0';have hcj:=hat.out _ _ _ _ h8;rw[<-hk0']at hcj;(have q1:(k:Int)<1:=by omega);(have q0:(0:Int)<=k:=by omega);replace hk0':=Lh hk0';have hV:=Lh yR;have hX:=Lh h8;clear yR h8 hI hJ;go_wp2_with fail;refine eO (S:=fun w'=>w'.cell? ⟨bf,0,none⟩=some (pV f)) 15 fT ?_;intro wq hwq;(have hX2:Hid (Sep w0 wq (aD f q p S1 a8::aV.box bx 129 (aM {x with aB:=[j]} (.slice (some ad) 1 c9))::aQ (.slice (some ad) 1 c9) [(j:Int)]::R)):=by rw[hwq];exact Lh hX.out.drew);clear hwq hX hcj;have hc:=(hcd.out _ _ _ _ _ hX2.out).1;simp only[kJ,kM,rF,Nat.reduceAdd];refine aA 0 hc ?_;refine aA 1 hc ?_;refine aA 2 hc ?_;refine aA 3 hc ?_;refine aA 4 hc ?_;refine aA 5 hc ?_;refine aA 6 hc ?_;refine aA 7 hc ?_;refine aA 8 hc ?_;refine aA 9 hc ?_;refine aA 11 hc ?_;have hmk:(Instr.makeSlice 69 (.int .i64 512) (.int .i64 512)).run Tryz.prog wq= .ok (sV wq.heap.size 512 512) (wq.alloc (.cells (madeCells #[.int .u8 0] 512) 5)):=qB (P:=Tryz.prog) 69 5 k0 (.int .u8 0) 1 Tryz.underlying69 o7 hk0 hk1 hk2 rfl .i64 .i64 512 aI vE wq;have hS1:=hX2.out.made 5 (.int .u8 0) 512 vE;have h9:Hid (Sep w0 (wq.alloc (.cells (madeCells #[.int .u8 0] 512) 5)) (aJ (sV wq.heap.size 512 512) bV::aD f q p S1 a8::aV.box bx 129 (aM {x with aB:=[j]} (.slice (some ad) 1 c9))::aQ (.slice (some ad) 1 c9) [(j:Int)]::R)):=Lh (by rw[bT fH,BZ];exact hS1);clear hS1;refine j5 (i:=10) (j:=13) fT rfl rfl (fun K hK=>?_) (fun K hK=>?_)
  focus
   go_simp
   go_at_call 142
   refine(LG.out wq a8 [] hV.out ((hX2.out.dC [1,2,0] aR bK).drop 2)).mono ?_
   rintro e w6 ⟨rfl,h6⟩
   obtain rfl:=h6.symm
   dsimp only
   refine hK _ _ (fun _=>hc) ?_
   clear hK K
   try simp only[Act.put,gD]
   refine aA 12 hc ?_
   have hc8:=(hcd.out _ _ _ _ _ (h9.out.drop 1)).1
   refine bG 13 (fun _=>hc8) ?_
   clear hmk hc hc8
  rotate_left
  focus
   go_simp
   have hc8:=(hcd.out _ _ _ _ _ (h9.out.drop 1)).1
   try dsimp only
   refine hK _ _ (fun _=>hc8) ?_
   clear hK K
   try simp only[Act.put,gD]
   clear hmk hc
   refine bH 10 fun K hK=>?_
   go_simp
   go_at_call 142
   refine(LG.out _ a8 [] hV.out ((h9.out.dC [0,2,3,1] aR bK).drop 3)).mono ?_
   rintro e w6 ⟨rfl,h6⟩
   obtain rfl:=h6.symm
   dsimp only
   refine hK _ _ (fun _=>hc8) ?_
   clear hK K
   try simp only[Act.put,gD]
   refine aA 12 hc8 ?_
   clear hc8
  all_goals
   obtain⟨g,hg⟩:∃g,g=wq.heap.size:=⟨_,rfl⟩
   obtain⟨w7,hw7⟩:∃w7,w7=wq.alloc (.cells (madeCells #[.int .u8 0] 512) 5):=⟨_,rfl⟩
   rw[<-hw7,<-hg]at h9 ⊢
   clear hw7 hg hX2
   refine bH 14 fun K hK=>?_
   go_simp
   go_at_call 98
   refine(ZW.out _ _ _ _ _ hV.out h9.out).mono ?_
   rintro e w5 ⟨rfl,a5,LH,h5⟩
   have hc5:=(hcd.out _ _ _ _ _ h5).1
   replace LH:=Lh LH
   replace h5:=Lh h5
   dsimp only
   refine hK _ _ (fun _=>hc5) ?_
   clear hK K
   try simp only[Act.put,gD]
   refine aS fT ?_ _
   clear h9 hV hc5
   go_wp2_with fail
   exact⟨⟨k+1,by omega,rfl,Lh fun h=>absurd h aI,Lh fun _=>⟨_,LH.out,h5.out⟩⟩,by simp[intOf];omega⟩
 obtain rfl:k=1:=by omega
 obtain⟨a8,yR,h8⟩:=hJ.out rfl;have hc:=hcd.out _ _ _ _ _ h8.drew;have rM:=hkp.out _ _ _ _ yR h8.drew;clear yR h8 hI hJ;go_wp2_with fail;refine aO (S:=fun w'=>w'.cell? ⟨bf,0,none⟩=some (pV f)/\w'.cell? ⟨bd,0,none⟩=some (iV dir)/\w'.cell? ⟨bp,0,none⟩=some (.string ⟨path.toArray⟩)/\w'.cell? ⟨bx,0,none⟩=some (iV 1)/\w'.cell? ⟨bx,1,none⟩=some (iV (x.mode:Nat))/\w'.cell? ⟨bx,2,none⟩=some (iV (x.links:Nat))/\w'.cell? ⟨bx,3,none⟩=some (iV (x.size:Nat))/\w'.cell? ⟨bx,4,none⟩=some (.slice (some ad) 1 c9)) 7 ?_;refine aA 0 hc ?_;refine aA 1 hc ?_;refine aA 2 hc ?_;refine aA 3 hc ?_;refine aA 4 hc ?_;refine aA 5 hc ?_;refine bH 6 fun K hK=>?_
 go_simp;go_at_call 100;refine rM.mono ?_;rintro e w7 ⟨rfl,aK,hCK,h7⟩;clear hc rM;have hc7:=hcd.out _ _ _ _ _ h7;have hV:=Lh hCK;have hX:Hid (Sep w0 w7 (aD f q p SD aK::R)):=Lh ((h7.dC [1,2,0] aR bK).drop 2);clear hCK h7;dsimp only;refine hK _ _ (fun _=>hc7) ?_;clear hK K;try simp only[Act.put,gD]
 refine aS fT ?_ _;have hc0:=hc7.2.2.2.1;clear hc7;go_wp2_with fail;clear hc0;have hc:=hR.out w7.drew [_] hX.out.drew;refine aO (S:=fun w'=>w'.cell? ⟨bf,0,none⟩=some (pV f)/\w'.cell? ⟨bd,0,none⟩=some (iV dir)/\w'.cell? ⟨bp,0,none⟩=some (.string ⟨path.toArray⟩)) 8 ?_;refine aA 0 hc ?_;refine aA 1 hc ?_;refine aA 2 hc ?_;refine aA 3 hc ?_;refine aA 4 hc ?_;refine aA 6 hc ?_;refine bH 5 fun K hK=>?_
 go_simp;go_at_call 121;refine(LK.out _).mono ?_;rintro e v9 ⟨rfl,zO⟩;replace hX:=Lh (hX.out.drew.pure zO);have gU:=hR.out v9 [_] hX.out;clear hc zO;dsimp only;refine hK _ _ (fun _=>gU) ?_;clear hK K;try simp only[Act.put,gD]
 refine bH 7 fun K hK=>?_
 exact Z66
end
end Go.Proofs.YtmjomdkleikgbaaGreat
namespace Go.Proofs.YtmjomdkleikgbaaGreat
def jT (L:tJ) (i:Nat):tJ:=(L.set i (rT L (L.length-1))).dropLast
theorem asY {L:tJ} {i:Nat} (h:i<L.length):L[i]? =some (rT L i):=by rw[gE h,tK h]
theorem oM {L:tJ} {i:Nat}:(jT L i).length=L.length-1:=by unfold jT;rw[YY,IY]
theorem aaY {L:tJ} {i n:Nat} (hn:L.length=n+1):jT L i=(List.range n).map fun k=>if k=i then rT L n else rT L k:=by
 unfold jT;apply FI;intro k;rw[List.getElem?_dropLast,IY,kX,hn,M5];by_cases hk:k<n
 ·rw[if_pos hk,TD hk,RL,List.getElem?_set];by_cases e:i=k
  ·rw[if_pos e,if_pos e.symm,if_pos aI]
  rw[if_neg e,if_neg (fun h=>e h.symm),asY aI]
 rw[if_neg hk,EE (by rw[KD];omega)];rfl
theorem an9 {A:tJ} {z:List UInt8×Nat} {i:Nat} (h:i<A.length):(A++[z]).Perm (rT A i::A.set i z):=by
 have e1:A=A.take i++rT A i::A.drop (i+1):=by
  conv=>lhs;rw[<-DC i A]
  congr 1;rw[YX h,tK h]
 have e2:A.set i z=A.take i++z::A.drop (i+1):=by rw[List.set_eq_take_append_cons_drop,if_pos h]
 rw[e2]
 conv=>lhs;rw[e1]
 rw[nT,kN];refine lN.trans (List.Perm.cons _ ?_);refine adY _ ?_;exact Y5 _ _
theorem sF {L:tJ} {i:Nat} (h:i<L.length):L.Perm (rT L i::jT L i):=by
 rcases Y8 L with e|⟨A,z,e⟩
 ·subst e;simp at h
 rw[Y9]at e;subst e;rw[jJ,nZ]at h;have ez:rT (A++[z]) A.length=z:=by unfold rT;rw[gH,uS (iU _),DI];rfl
 unfold jT;rw[jJ,nZ,M5,ez];by_cases e:i=A.length
 ·rw[e,TC _ _ (iU _),DI,IU,YZ,ez];exact Y5 _ _
 have hi:i<A.length:=by omega
 rw[List.set_append_left _ _ hi,YZ];have e2:rT (A++[z]) i=rT A i:=by unfold rT;rw[gH,gH,C9 hi]
 rw[e2];exact an9 hi
theorem WZ {S S1:VS} {l l1:List Nat} {n:Nat} (h:dW S) (hl:∀s∈l,s<S.count/\S.bit s=true) (hn:l.Nodup) (hf:jM S l n=some (S1,l1)):
  dW S1/\l1.length=n/\(∀s∈l1,s<S.count)/\l1.Nodup/\(∀s∈l1,s∈l\/S.bit s=false)/\∀i,S1.bit i=((S.bit i&& !decide (i∈l))||decide (i∈l1)):=by
 have hlen:=(iX hf).2;by_cases hle:n<=l.length
 ·(obtain⟨S2,h1,h2,h3⟩:=aaN h hle fun s hs=>(hl s hs).1);rw[h1]at hf;cases hf;refine⟨h2,hlen,fun s hs=>(hl s (DD hs)).1,hn.sublist (ahC _ _),fun s hs=>.inl (DD hs),fun i=>?_⟩;rw[h3];have hsp:l.take n++l.drop n=l:=DC n l;by_cases h4:i∈l.take n
  ·(have h5:i∉l.drop n:=fun h6=>by have:=hn;rw[<-hsp,uW]at this;exact this.2.2 i h4 i h6 rfl);have h7:S.bit i=true:=(hl i (DD h4)).2;simp[h4,h5,h7]
  by_cases h5:i∈l.drop n
  ·have h6:i∈l:=List.mem_of_mem_drop h5;simp[h4,h5,h6]
  have h6:i∉l:=fun h7=>by
   rw[<-hsp,iM]at h7;rcases h7 with h7|h7
   ·exact h4 h7
   exact h5 h7
  simp[h4,h5,h6]
 obtain⟨h1,t,h2,h3,h4,h5,h6⟩:=(OO h aI).1 S1 l1 hf;have hdj:∀s∈l,s∉t:=fun s hs hs2=>by have:=(hl s hs).2;rw[(h5 s hs2).2]at this;cases this
 refine⟨h1,hlen,fun s hs=>?_,?_,fun s hs=>?_,fun i=>?_⟩
 ·rw[h2]at hs;rcases iM.1 hs with hs|hs
  ·exact(hl s hs).1
  exact(h5 s hs).1
 ·rw[h2,uW];exact⟨hn,h4,fun a ha b hb e=>hdj a ha (by rw[e];exact hb)⟩
 ·rw[h2]at hs;rcases iM.1 hs with hs|hs
  ·exact .inl hs
  exact .inr (h5 s hs).2
 rw[h6,h2];by_cases h7:i∈l
 ·have:=(hl i h7).2;simp[h7,this]
 simp[h7]
theorem dB.O1 {S:VS} {g:LT} (h:dB S g) {n:Nat} (hn:n<S.names):∀s∈(aF S.cur n).aB,s<S.count/\S.bit s=true:=fun s hs=>⟨h.lt n hn s hs,h.sN hn hs⟩
theorem dB.O3 {S T:VS} {g:LT} (h:dB S g) {n:Nat} (hn:n<S.names) {l1:List Nat} (hb:∀i,T.bit i=((S.bit i&& !decide (i∈(aF S.cur n).aB))||decide (i∈l1))) {j:Nat} (hj:j<S.count):
  T.bit j=true↔j∈l1\/∃m<S.names,m≠n/\j∈(aF S.cur m).aB:=by
 rw[hb,LC,rH,uQ,h.aaS hn hj];constructor
 ·rintro(⟨h1|h1,h2⟩|h1)
  ·simp[h1]at h2
  ·exact .inr h1
  exact .inl h1
 rintro(h1|⟨m,hm,e,h1⟩)
 ·exact .inr h1
 refine .inl ⟨.inr ⟨m,hm,e,h1⟩,?_⟩;have:=h.others hn m hm e j h1;simp[this]
theorem dB.XA {S:VS} {g:LT} (h:dB S g) {n:Nat} (hn:n<S.names) {l1:List Nat} (hb:∀s∈l1,s∈(aF S.cur n).aB\/S.bit s=false):∀m<S.names,m≠n->∀s∈(aF S.cur m).aB,s∉l1:=fun m hm e s hs hs2=>by
 rcases hb s hs2 with h1|h1
 ·exact h.others hn m hm e s hs h1
 rw[h.sN hm hs]at h1;cases h1
def LI.less (x:LI) (i:Nat):LI:= {x with bB:=jT x.bB i}
theorem MJ {L:tJ} {i:Nat} (h:i<L.length):rT L i∈L:=by rw[<-tK h];exact nJ h
theorem LI.ajZ {x:LI} (h:x.fair) (hk:x.kind=1) {i:Nat} (hi:i<x.bB.length):(x.less i).fair:=
 ⟨h.kind,fun e=>absurd hk e,h.data,by show(jT x.bB i).length<=448;rw[oM];have:=h.few;omega,h.short,h.mode,h.links,fun e he=>h.names e ((sF hi).mem_iff.2 (vD _ he))⟩
theorem dB.leave {S:VS} {g:LT} (h:dB S g) {dir i:Nat} {name:List UInt8} (hd:dir<S.names) (hk:(g dir).kind=1) (hi:i<(g dir).bB.length) (hf:(jY (g dir).bB name).1=i):
  dB (bZ S dir name) (dM g dir ((g dir).less i)):=by
 have hx:=h.head dir hd;have hsize:(aF S.cur dir).size=(g dir).bB.length:=by rw[h.size hd,uA hk]
 have hlen:(aF S.cur dir).aB.length=max 1 (((g dir).bB.length+15)/16):=by rw[h.len dir hd,kQ hk]
 have aaZ:=h.bB dir hd hk;have hfair:=LI.ajZ (h.fair dir hd) hk hi;have lS:=(h.fair dir hd).few;have hnm:=(h.fair dir hd).names;obtain⟨n,hn⟩:∃n,(g dir).bB.length=n+1:=⟨(g dir).bB.length-1,by omega⟩;obtain⟨L,hL⟩:∃L,L=(g dir).bB:=⟨_,rfl⟩;rw[<-hL]at hn aaZ hnm hi hf;obtain⟨sp,hsp⟩:∃sp,sp=(aF S.cur dir).aB:=⟨_,rfl⟩;have GG:((g dir).less i).need=max 1 ((n+15)/16):=by rw[kQ (show((g dir).less i).kind=1 from hk)];(show max 1 (((jT (g dir).bB i).length+15)/16)=_);rw[oM,<-hL,hn,M5]
 rw[<-hL,hn]at hsize hlen;rw[<-hsp]at hlen
 --the entries
 obtain⟨e,he⟩:∃e,e=rT L n:=⟨_,rfl⟩;have hem:e∈L:=by rw[he];exact MJ aI
 obtain⟨he1,he2⟩:=hnm e hem;have RU:=h.O1 hd;rw[<-hsp]at RU;have aj0:=h.nodup dir hd;rw[<-hsp]at aj0;obtain⟨S1,hS1⟩:∃S1,S1=S.gZ (sp.getD (i/16) 0) i e.1 e.2:=⟨_,rfl⟩;obtain⟨S2,hS2⟩:∃S2,S2=S1.gZ (sp.getD (n/16) 0) n [] 0:=⟨_,rfl⟩;have az9:i/16<sp.length:=by omega
 have hn16:n/16<sp.length:=by omega
 have hu1:dW S1:=by rw[hS1];exact h.use.gZ (RU _ (tZ az9)).1 _ _ he1
 have hm1:Mid S S1:=by rw[hS1]at hu1 ⊢;exact Mid.laid (Laid.gZ S _ _ _ _) hu1
 have hu2:dW S2:=by rw[hS2];exact hu1.gZ (by rw[hm1.count];exact(RU _ (tZ hn16)).1) _ _ bK
 have hm2:Mid S S2:=by rw[hS2]at hu2 ⊢;exact hm1.trans (Mid.laid (Laid.gZ S1 _ _ _ _) hu2)
 have aEZ:S2.nodes=S.nodes:=by rw[hS2,hS1];rfl
 have avR:∀j,S2.bit j=S.bit j:=fun j=>by rw[hS2,OT hu1,hS1,OT h.use]
 have hblk2:∀s,s∉sp->bk S2.cur (S.data+s)=bk S.cur (S.data+s):=fun s hs=>by(have e1:bk S2.cur (S1.data+s)=bk S1.cur (S1.data+s):=by rw[hS2];exact GD S1 _ _ _ fun e=>hs (by rw[e];exact tZ hn16));(have e2:bk S1.cur (S.data+s)=bk S.cur (S.data+s):=by rw[hS1];exact GD S _ _ _ fun e=>hs (by rw[e];exact tZ az9));rw[hm1.data]at e1;rw[e1,e2]
 have aAA:∀k,k<n->∀x:VI,x.aB=sp->gJ S2.cur S.data x k=if k=i then zC e.1 e.2 else gJ S.cur S.data x k:=fun k hk2 x hxs=>by(have k16:k<16*sp.length:=by omega);(have e1:gJ S2.cur S1.data x k=if k=n then zC [] 0 else gJ S1.cur S1.data x k:=by have:=OU (S:=S1) hu1 (x:=x) (by rw[hxs];exact aj0) (i:=n) (k:=k) (n:=0) (name:=[]) (by rw[hxs];omega) (by rw[hxs];omega) (by rw[hxs,hm1.count];exact fun s hs=>(RU s hs).1) bK;rw[hxs]at this;rw[hS2];exact this);(have e2:gJ S1.cur S.data x k=if k=i then zC e.1 e.2 else gJ S.cur S.data x k:=by have:=OU (S:=S) h.use (x:=x) (by rw[hxs];exact aj0) (i:=i) (k:=k) (n:=e.2) (name:=e.1) (by rw[hxs];omega) (by rw[hxs];omega) (by rw[hxs];exact fun s hs=>(RU s hs).1) he1;rw[hxs]at this;rw[hS1];exact this);rw[hm1.data]at e1;rw[e1,if_neg aI,e2]
 --the fit
 have aAB:dW (S2.node (S2.nodes-1)):=(Mid.node hu2 _).use;obtain⟨S4,lX⟩:∃S4,jM (S2.node (S2.nodes-1)) sp (max 1 ((n+15)/16))=some (S4,sp.take (max 1 ((n+15)/16))):=by(obtain⟨S4,h4,_⟩:=aaN aAB (l:=sp) (n:=max 1 ((n+15)/16)) aI fun s hs=>by(show s<S2.count);rw[hm2.count];exact(RU s hs).1);exact⟨S4,h4⟩
 obtain⟨hu4,hl4,aAC,aAD,aE0,hb4⟩:=WZ aAB (l:=sp) (fun s hs=>⟨by show s<S2.count;rw[hm2.count];exact(RU s hs).1,by show S2.bit s=true;rw[avR];exact(RU s hs).2⟩) aj0 lX;have MH:=(iX lX).1;have hm4:Mid S S4:=hm2.trans ((Mid.node hu2 _).trans (Mid.used MH hu4));obtain⟨l,hl⟩:∃l,l=sp.take (max 1 ((n+15)/16)):=⟨_,rfl⟩;rw[<-hl]at hl4 aAC aAD aE0 hb4 lX;have hleave:bZ S dir name=S4.keep dir (((g dir).less i).vi l):=by unfold bZ EI;simp only;rw[aaZ,hf,lM,hsize,M5,<-hsp,<-he,<-hS1,<-hS2,show n+1+14=n+15 by omega,lX];simp only;congr 1;rw[hx];unfold LI.vi LI.less;simp only[VI.mk.injEq,true_and,and_true];unfold LI.size;rw[if_pos hk,oM,<-hL,hn];rfl
 rw[hleave];have hlt:∀s∈l,s<S.count:=fun s hs=>by have:=aAC s hs;rw[show(S2.node (S2.nodes-1)).count=S2.count from rfl,hm2.count]at this;exact this
 have hsub:∀s∈l,s∈sp:=fun s hs=>by rw[hl]at hs;exact DD hs
 refine h.step hd (Step.keep h hd hm4 hfair (by rw[GG];exact hl4) hlt aAD (h.XA hd fun s hs=>.inl (by rw[<-hsp];exact hsub s hs)) (fun j hj=>h.O3 hd (l1:=l) (fun t=>?_) hj) (fun m hmm e2 s hs=>?_) (fun _=>?_) (fun k2=>?_) ?_)
 ·rw[hb4];(show((S2.bit t&& !decide (t∈sp))||decide (t∈l))=_);rw[avR,<-hsp]
 ·(have h1:bk S4.cur (S.data+s)=bk S2.cur (S.data+s):=by have:=sO MH s;rw[show(S2.node (S2.nodes-1)).data=S2.data from rfl,hm2.data]at this;exact this);rw[h1];exact hblk2 s fun h2=>h.others hd m hmm e2 s hs (by rw[<-hsp];exact h2)
 ·(have hvs:(((g dir).less i).vi l).size=n:=by(show((g dir).less i).size=n);unfold LI.size;rw[if_pos (show((g dir).less i).kind=1 from hk)];(show(jT (g dir).bB i).length=n);rw[oM,<-hL,hn];rfl);unfold jL;rw[hvs];(show _=jT (g dir).bB i);rw[<-hL,aaY hn];(refine vW fun k hk3=>?_);have hk4:=List.mem_range.1 hk3;(have hkl:k/16<l.length:=by rw[hl4];omega);(have h1:gJ S4.cur S.data (((g dir).less i).vi l) k=gJ S2.cur S.data (aF S.cur dir) k:=by unfold gJ;(show zB (bk S4.cur (S.data+l.getD (k/16) 0)) k=zB (bk S2.cur (S.data+(aF S.cur dir).aB.getD (k/16) 0)) k);(have e3:l.getD (k/16) 0=sp.getD (k/16) 0:=by rw[hl,gH,gH,uU,if_pos (by rw[hl4]at hkl;exact hkl)]);(have e4:bk S4.cur (S.data+sp.getD (k/16) 0)=bk S2.cur (S.data+sp.getD (k/16) 0):=by have:=sO MH (sp.getD (k/16) 0);rw[show(S2.node (S2.nodes-1)).data=S2.data from rfl,hm2.data]at this;exact this);rw[e3,e4,hsp]);rw[h1,aAA k hk4 _ hsp.symm];(have hLk:(enN (gJ S.cur S.data (aF S.cur dir) k),enI (gJ S.cur S.data (aF S.cur dir) k))=rT L k:=by rw[<-aaZ,BS (by rw[hsize];omega)]);by_cases e5:k=i
  ·rw[if_pos e5,if_pos e5,aaQ he1,aaR he1 he2,<-he]
  rw[if_neg e5,if_neg e5];exact hLk
 ·exact absurd (show(g dir).kind=2 from k2) aI
 show S4.nodes=S.nodes-((g dir).bB.length:Nat)+((jT (g dir).bB i).length:Nat)
 rw[MH.nodes,oM,<-hL,hn];show S2.nodes-1=_
 rw[aEZ];omega
theorem aa0 :LI0.fair:=⟨by decide,fun _=>rfl,fun _=>rfl,by decide,by decide,by decide,by decide,fun e he=>by cases he⟩
theorem dB.drop {S:VS} {g:LT} (h:dB S g) {n:Nat} (hn:n<S.names) (he:(g n).bB=[]):dB (l9 S n) (dM g n LI0):=by
 obtain⟨S1,h1,h2⟩:=zZ (S:=S) (n:=n);rw[h2];obtain⟨hu,hl,hlt,hnd,hor,hb⟩:=WZ h.use (h.O1 hn) (h.nodup n hn) h1;have MH:=(iX h1).1;have hm:Mid S S1:=Mid.used MH hu;refine h.step (x:=LI0) (l:=[]) hn (Step.keep (x:=LI0) (l:=[]) h hn hm aa0 rfl (fun s hs=>by cases hs) .nil (h.XA hn fun s hs=>by cases hs) (fun j hj=>h.O3 hn hb hj) (fun m hmm e s hs=>sO MH s) (fun k=>by cases k) (fun k=>by cases k) ?_);rw[MH.nodes,he];show S.nodes=S.nodes-0+0
 omega
theorem aoA :bV.length=512:=fH
theorem dB.aoB {S:VS} {g:LT} (h:dB S g) {n mode links:Nat} (hn:n<S.names) (h0:(g n).kind=0) (hm:mode<65536) (hl:links<65536):
  (∀j,jO (bk S.cur 1) S.count=some j->dB (j6 S n ⟨1,mode,links,0,[]⟩ j) (dM g n ⟨1,mode,links,[],[]⟩))/\
  (jO (bk S.cur 1) S.count=none->S.count<oL (dM g n ⟨1,mode,links,[],[]⟩) S.names):=by
 have he:(g n).bB=[]:=(h.fair n hn).bB aI;have hz:(aF S.cur n).aB=[]:=uR (by rw[h.len n hn];unfold LI.need;rw[if_neg aI,if_neg aI]);have hf:(⟨1,mode,links,[],[]⟩:LI).fair:=⟨Nat.le_succ 1,fun e=>absurd rfl e,fun _=>rfl,fZ _,fZ _,hm,hl,fun e he=>by cases he⟩;constructor
 ·intro j hj;obtain⟨hj1,hj2,_⟩:=xQ hj;have aAE:S.bit j=false:=hj2;have hu1:=h.use.set j;have hm1:Mid S (S.put 1 (kL (bk S.cur 1) j)):=⟨hu1,rfl,rfl,fun m _=>by unfold aF;(show BV (((bk (S.cur.set 1 _) (2+m/8)).drop (m%8*64)).take 64)=_);rw[dJ _ _ aI],rfl,rfl⟩;have hu2:dW (fV S j):=hu1.put _ aoA;have hm2:Mid S (fV S j):=hm1.trans ⟨hu2,rfl,rfl,fun m hmm=>by unfold aF fV;(show BV (((bk ((S.put 1 (kL (bk S.cur 1) j)).cur.set ((S.put 1 (kL (bk S.cur 1) j)).data+j) bV) (2+m/8)).drop (m%8*64)).take 64)=_);rw[dJ _ _ (by have:m<S.names:=hmm;show 2+m/8≠S.data+j;unfold VS.data;omega)],rfl,rfl⟩;(have hbit:∀i,(fV S j).bit i=(decide (i=j)||S.bit i):=fun i=>by(have e1:(fV S j).bit i=(S.put 1 (kL (bk S.cur 1) j)).bit i:=by(show oV (bk ((S.put 1 (kL (bk S.cur 1) j)).cur.set (S.data+j) bV) 1) i=_);rw[dJ _ _ (by unfold VS.data;omega)];rfl);rw[e1,F9 h.use hj1]);(have hblk:∀s,s≠j->bk (fV S j).cur (S.data+s)=bk S.cur (S.data+s):=fun s hs=>by(show bk ((S.cur.set 1 _).set (S.data+j) bV) (S.data+s)=_);rw[dJ _ _ aI,dJ _ _ (by unfold VS.data;omega)]);refine h.step (x:=⟨1,mode,links,[],[]⟩) (l:=[j]) hn (Step.keep (x:=⟨1,mode,links,[],[]⟩) (l:=[j]) h hn hm2 hf (by simp[LI.need]) (fun s hs=>by rw[rW]at hs;rw[hs];exact hj1) bK (fun m hmm e s hs hs2=>?_) (fun i hi=>?_) (fun m hmm e s hs=>hblk s fun e2=>?_) (fun _=>rfl) (fun k=>by cases k) ?_)
  ·rw[rW]at hs2;have:=h.sN hmm hs;rw[hs2,aAE]at this;cases this
  ·rw[hbit,LC,uQ,h.aaS hn hi,hz,rW];simp
  ·have:=h.sN hmm hs;rw[e2,aAE]at this;cases this
  rw[he];(show S.nodes=S.nodes-0+0);omega
 intro hno;have h1:=h.used [] fun j hj=>.inl (OM hno j hj)
 have h2:=wU hn (⟨1,mode,links,[],[]⟩:LI) (g:=g);have h3:(g n).need=0:=by unfold LI.need;rw[if_neg aI,if_neg aI]
 have h4:(⟨1,mode,links,[],[]⟩:LI).need=1:=by simp[LI.need]
 rw[h3,h4]at h2;simp at h1;omega
end Go.Proofs.YtmjomdkleikgbaaGreat
