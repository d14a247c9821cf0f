/- Parts. -/
import Derived.Test.YtmjomdkleikgbaaGreatJ10
set_option linter.unusedVariables false
set_option linter.unusedSimpArgs false
set_option maxRecDepth 100000
set_option maxHeartbeats 20000000
namespace Go.Proofs.YtmjomdkleikgbaaGreat
open Go.RowKit
theorem LK :∀(k:Nat) (S:VS) (l:List Nat),(nL k S l).1.count=S.count
 |0,_,_=>rfl
 |k+1,S,l=>(LK k _ _).trans rfl
theorem apC :∀(k:Nat) (S:VS) (l:List Nat) {S1:VS} {l1:List Nat},NC k S l=some (S1,l1)->(∀s∈l,s<S.count)->∀s∈l1,s<S.count
 |0,S,l,S1,l1,h,hl=>by cases h;exact hl
 |k+1,S,l,S1,l1,h,hl=>by
  unfold NC at h;split at h
  ·cases h
  rename_i j hj;have h1:=apC k (S.put 1 (kU (bk S.cur 1) j)) (l++[j]) h;refine h1 (fun s hs=>?_);rcases iN.1 hs with hs|hs
  ·exact hl s hs
  rw[sW]at hs;subst hs;exact(yC hj).1
theorem YJ {S S1:VS} {l l1:List Nat} {n:Nat} (h:jV S l n=some (S1,l1)) (hl:∀s∈l,s<S.count):∀s∈l1,s<S.count:=by
 unfold jV at h;have h1:=apC _ _ _ h;rw[LK]at h1;refine h1 fun s hs=>hl s ?_
 rw[uN]at hs;exact zX hs
theorem qQ {S S1:VS} {l l1:List Nat} {n:Nat} (h:jV S l n=some (S1,l1)):eZ S S1:=by
 have hd:∀(k:Nat) (S:VS) (l:List Nat),eZ S (nL k S l).1:=fun k=>by
  induction k with
  |zero=>exact fun S l=>.refl S
  |succ k ih=>exact fun S l=>((eZ.refl S).put 1 _).trans (ih _ _)
 have hu:∀(k:Nat) (S:VS) (l:List Nat) {S1:VS} {l1:List Nat},NC k S l=some (S1,l1)->eZ S S1:=fun k=>by
  induction k with
  |zero=>intro S l S1 l1 h;cases h;exact .refl S
  |succ k ih=>
   intro S l S1 l1 h;unfold NC at h;split at h
   ·cases h
   exact((eZ.refl S).put 1 _).trans (ih _ _ h)
 unfold jV at h;exact(hd _ _ _).trans (hu _ _ _ h)
def jC (bs:List UInt8) (k:Nat):List UInt8:=dP bX 0 ((bs.drop (512*k)).take 512)
theorem yD (bs:List UInt8) (k:Nat):(jC bs k).length=512:=by unfold jC;rw[fM,fV];rw[fV,qL];omega
def mK (bs:List UInt8):List Nat->Nat->VS->VS
 |[],_,S=>S
 |s::l,k,S=>mK bs l (k+1) (S.put (S.data+s) (jC bs k))
def mM (S:VS) (n:Nat) (bs:List UInt8):Option VS:=
 match jV S (aG S.cur n).aB ((bs.length+511)/512)with
 |none=>none
 |some (S1,l)=>some ((mK bs l 0 S1).keep n {aG S.cur n with size:=bs.length,aB:=l})
structure Laid (S S':VS) (k:Nat):Prop where
 like:eZ S S'
 wB:S'.wB=S.wB
 wI:S'.wI=S.wI
 nodes:S'.nodes=S.nodes
 blk:∀j,j<S.data->bk S'.cur j=bk S.cur j
 m:S'.m=S.m+k
theorem Laid.refl (S:VS):Laid S S 0:=⟨.refl S,rfl,rfl,rfl,fun _ _=>rfl,rfl⟩
theorem eZ.data {S T:VS} (h:eZ S T):T.data=S.data:=by unfold VS.data;rw[h.names]
theorem Laid.put {S T:VS} {k:Nat} (h:Laid S T k) (s:Nat) (bs:List UInt8):Laid S (T.put (T.data+s) bs) (k+1):=
 ⟨h.like.put _ _,h.wB,h.wI,h.nodes,fun j hj=>(dJ _ _ (by rw[h.like.data];omega)).trans (h.blk j hj),by show T.m+1=_;rw[h.m];omega⟩
theorem Laid.trans {S T U:VS} {i j:Nat} (h:Laid S T i) (g:Laid T U j):Laid S U (i+j):=
 ⟨h.like.trans g.like,g.wB.trans h.wB,g.wI.trans h.wI,g.nodes.trans h.nodes,fun k hk=>(g.blk k (by rw[h.like.data];exact hk)).trans (h.blk k hk),by rw[g.m,h.m];omega⟩
theorem qR (bs:List UInt8):∀(l:List Nat) (k:Nat) (S:VS),Laid S (mK bs l k S) l.length
 |[],_,S=>.refl S
 |s::l,k,S=>by have h:=(Laid.put (.refl S) s (jC bs k)).trans (qR bs l (k+1) _);rw[kR,show l.length+1=0+1+l.length by omega];exact h
theorem Laid.ino {S T:VS} {k:Nat} (h:Laid S T k) {n:Nat} (hn:n<S.names):aG T.cur n=aG S.cur n:=by unfold aG;rw[h.blk _ (by unfold VS.data;omega)]
def fO (f q p:Nat) (S:VS) (r:Option VS) (w0:World) (R:List aZ) (e:Ending) (w':World):Prop:=
 match r with
 |some S1=>e= .returned (.tuple #[])/\∃a1,VC S1 a1/\Sep w0 w' (aF f q p S1 a1::R)
 |none=>e= .panicked (fP 27)/\∃S1 a1,eZ S S1/\VC S1 a1/\Sep w0 w' (aF f q p S1 a1::R)
theorem JW {b:List UInt8} (h:(CU b).aB.length<=28):(CU b).ok:=
 ⟨(b.getD 0 0).toNat_lt,VL _ _,VL _ _,VL _ _,h,fun k hk=>by unfold CU at hk;obtain⟨j,_,rfl⟩:=List.mem_map.1 hk;exact VL _ _⟩
structure apD (f q p:Nat) (S1:VS) (bs:List UInt8) (l:List Nat) (k:Nat) (w0 wr:World) (R:List aZ) (T:VS) (a:VA):Prop where
 eq:mK bs (l.drop k) k T=mK bs l 0 S1
 like:eZ S1 T
 ok:VC T a
 sep:Sep w0 wr (aF f q p T a::R)
section
variable {w0 w:World} {R:List aZ} {f q p:Nat} {S:VS} {a:VA}
theorem Sep.YK (h:Sep w0 w (aF f q p S a::R)) (hC:VC S a) (k:Nat):Sep w0 w (zR f q p S a k::R):=by
 cases hf:dN a.FM k with
 |some x=>have hx:=(hC.fresh _ (lN hf)).2;have h1:CV f q p S a k x.1 w0 w R:=.inl ⟨by rw[hf,<-hx],h⟩;exact h1.out.drop 1
 |none=>have h1:=h.bE;have h2:Sep w0 w (jI a.fb a.FM::kX f q S a.sb (.map (some a.fb)) false::aH q p false::aO p S.D::eU a.sb a.SM::R):=Sep.dE [4,0,1,2,3] h1 aV (by simp[pQ]);have h3:=h2.GY hf;have h4:Sep w0 w ([kX f q S a.sb (.map (some a.fb)) false,aH q p false,aO p S.D,eU a.sb a.SM,TS a.fb a.FM k]++R):=Sep.dE [1,2,3,4,0] h3 aV bL;exact h4.dB
theorem apE {n:Nat} {v:Value} {bs:List UInt8} (hC:VC S a) (hF:VF S) (hn:n<S.names) (hok:(aG S.cur n).aB.length<=28) (hsp:∀s∈(aG S.cur n).aB,s<S.count) (hW:gL S) (hbs:bs.length<=8192) (hv:jG w0 R v bs) (h:Sep w0 w (aF f q p S a::R)):
  Calls Tryz.prog 75 #[pV f,iV n,v] w (fO f q p S (mM S n bs) w0 R):=by
 have hin:=jP hC hF hn hok h;obtain⟨x,hx⟩:∃x,x=aG S.cur n:=⟨_,rfl⟩;obtain⟨L,hL⟩:∃L,L=bs.length:=⟨_,rfl⟩;obtain⟨m,hm⟩:∃m,m=(L+511)/512:=⟨_,rfl⟩;have hxo:x.ok:=by rw[hx];exact JW (by have:=hok;unfold aG at this;exact this)
 have aHW:m<=16:=by rw[hm];omega
 obtain⟨A0,c0,hv0⟩:∃A c,v= .slice A L c:=by obtain⟨_,A,c,e,_⟩:=hv w [_] h;exact⟨A,c,by rw[e,hL]⟩
 have hpt:=fun w=>xA (n:=L) (by':=512) aD aD aD w
 rw[show L+512-1=L+511 by omega,<-hm]at hpt;have hft:Hid (∀W bx u a1,Reads S a a1->Sep w0 W (aF f q p S a1:: .box bx 129 (aN x u)::aR u (dZ x.aB)::R)->
   Calls Tryz.prog 99 #[pV f,pV bx,iV m] W (pR f q p S x m bx w0 R)):=Lh fun W bx u a1 hR hS=>
  yE (n:=m) hR.ok hF (by rw[hx];exact hok) aD (by rw[hx];exact hsp) hS
 have hno:Hid (jV S x.aB m=none->mM S n bs=none):=Lh fun h1=>by unfold mM;rw[<-hx,<-hL,<-hm,h1]
 have EA:Hid (∀S1 l,jV S x.aB m=some (S1,l)->mM S n bs=some ((mK bs l 0 S1).keep n {x with size:=L,aB:=l})/\l.length=m/\eZ S S1/\(∀s∈l,s<S.count)/\({x with size:=L,aB:=l}:VI).ok/\
   ∀T W bx u a1,T=mK bs l 0 S1->VC T a1->Sep w0 W (aF f q p T a1:: .box bx 129 (aN {x with size:=L,aB:=l} u)::aR u (dZ l)::R)->
    Calls Tryz.prog 100 #[pV f,iV n,fJ {x with size:=L,aB:=l} u] W fun e w'=>e= .returned (.tuple #[])/\∃a',VC (T.keep n {x with size:=L,aB:=l}) a'/\Sep w0 w' (aF f q p (T.keep n {x with size:=L,aB:=l}) a'::R)):=Lh fun S1 l h1=>by
  have hU:=jQ h1
  have hk:=qQ h1
  have hlt:=YJ h1 (by rw[hx];exact hsp)
  have aCM:({x with size:=L,aB:=l}:VI).ok:=⟨hxo.kind,hxo.mode,hxo.links,by show L<65536;omega,by show l.length<=28;rw[hU.2];omega,fun s hs=>by have h2:=hlt s hs;have h3:=hC.pF.few;unfold VS.count at h2;omega⟩
  refine⟨by unfold mM;rw[<-hx,<-hL,<-hm,h1],hU.2,hk,hlt,aCM,fun T W bx u a1 hT kH hS=>?_⟩
  have hLd:=qR bs l 0 S1
  rw[<-hT]at hLd
  have hi:aG T.cur n=x:=by rw[hLd.ino (by rw[hk.names];exact hn),hU.1.ino,hx]
  have hS2:Sep w0 W (aF f q p T a1::aR u (dZ l):: .box bx 129 (aN {x with size:=L,aB:=l} u)::R):=Sep.dE [0,2,1] hS aV bL
  have hrow:yZ w0 (aR u (dZ l):: .box bx 129 (aN {x with size:=L,aB:=l} u)::R) u l:=fun w' X hX=>by have:=hX.rd (X.length) (by rw[vM (iB _),FB];rfl);unfold dZ at this;rw[iM]at this;exact this
  refine(uO (x:= {x with size:=L,aB:=l}) kH ((hk.trans hLd.like).vf hF) (by rw[(hk.trans hLd.like).names];exact hn) aCM (by rw[hi,hx];exact hok) ⟨by rw[hLd.wB,hU.1.wB];exact hW.b0,by rw[hLd.wB,hU.1.wB];exact hW.b1,by rw[hLd.wI,hU.1.wI];exact hW.i0,by rw[hLd.wI,hU.1.wI];exact hW.i1⟩ hrow hS2).mono ?_
  rintro e w' ⟨rfl,a',h5,h6⟩
  have h7:Sep w0 w' (aR u (dZ l):: .box bx 129 (aN {x with size:=L,aB:=l} u)::aF f q p (T.keep n {x with size:=L,aB:=l}) a'::R):=Sep.dE [1,2,0] h6 aV bL
  exact⟨rfl,a',h5,h7.drop 2⟩
 rw[<-hx]at hin;have hF':=Lh hF;have hv':=Lh hv;have hL':=Lh hL;have hm':=Lh hm;have L1:(L:Int)<=8192:=by omega
 have L0:(0:Int)<=L:=by omega
 have m1:(m:Int)<=16:=by omega
 obtain⟨k0,pO,hk0,hk1,hk2⟩:=iU l8;subst hv0;clear hC hF hn hok hsp hW hbs hv h hx hxo hL hm aHW;unfold fJ at hin;cases hfp:jV S x.aB m with
 |none=>
  have OX:Hid (∀W bx u a1,Reads S a a1->Sep w0 W (aF f q p S a1:: .box bx 129 (aN x u)::aR u (dZ x.aB)::R)->
   Calls Tryz.prog 99 #[pV f,pV bx,iV m] W fun e w'=>e= .panicked (fP 27)/\∃S1 a1,eZ S S1/\VC S1 a1/\Sep w0 w' (aF f q p S1 a1::R)):=Lh fun W bx u a1 hR hS=>by
   have:=hft.out W bx u a1 hR hS
   unfold pR at this
   rw[hfp]at this
   exact this
  rw[hno.out hfp];clear hft EA hno hfp;go_enter Tryz.func75,Tryz.ntmps75;go_wp2_with(first |(go_at_call 72;refine hin.mono ?_;rintro e w9 ⟨v,a1,rfl,hR,h9⟩;obtain⟨A9,c9,e9⟩:=h9.dS 0 rfl;subst e9;have hs:=h9.bN 129 (aN x (.slice A9 (dZ x.aB).length c9));have FD:=OX.out _ _ _ _ hR (Sep.dE [2,0,1] hs aV bL);clear hs h9 hR hin OX;unfold aN at*)|(go_at_call 95;refine(hpt _).mono ?_;rintro e w9b ⟨rfl,h9b⟩;obtain rfl:=h9b.symm;clear hpt)|(go_at_call 99;refine FD.mono ?_;rintro e w8 ⟨rfl,hend⟩;replace hend:=Lh hend;clear FD));unfold fO;exact⟨rfl,rfl,hend.out⟩
 |some r=>
  obtain⟨S1,l⟩:=r;obtain⟨y1,y2,y3,y4,y5,y6⟩:=EA.out S1 l hfp;have OX:Hid (∀W bx u a1,Reads S a a1->Sep w0 W (aF f q p S a1:: .box bx 129 (aN x u)::aR u (dZ x.aB)::R)->
   Calls Tryz.prog 99 #[pV f,pV bx,iV m] W fun e w'=>e= .returned (.tuple #[])/\∃a1 A c,VC S1 a1/\Sep w0 w' (aF f q p S1 a1:: .box bx 129 (aN x (.slice A m c))::aR (.slice A m c) (dZ l)::R)):=Lh fun W bx u a1 hR hS=>by
   refine(hft.out W bx u a1 hR hS).mono ?_
   intro e w' ho
   unfold pR at ho
   rw[hfp]at ho
   obtain⟨rfl,a2,v2,_,h2,h3⟩:=ho
   obtain⟨A,c,e⟩:=h3.dS 2 rfl
   have hl:(dZ l).length=m:=by unfold dZ;rw[iM];exact y2
   rw[hl]at e
   subst e
   exact⟨rfl,a2,A,c,h2,h3⟩
  rw[y1];have y2':=Lh y2;have y3':=Lh y3;have y4':=Lh y4;have y6':=Lh y6;clear hft EA hno hfp y1 y2 y3 y4 y5 y6;go_enter Tryz.func75,Tryz.ntmps75;go_wp2_with(first |(go_at_call 72;refine hin.mono ?_;rintro e w9 ⟨v,a1,rfl,hR,h9⟩;obtain⟨A9,c9,e9⟩:=h9.dS 0 rfl;subst e9;have hs:=h9.bN 129 (aN x (.slice A9 (dZ x.aB).length c9));have FD:=OX.out _ _ _ _ hR (Sep.dE [2,0,1] hs aV bL);clear hs h9 hR hin OX;unfold aN at*)|(go_at_call 95;refine(hpt _).mono ?_;rintro e w9b ⟨rfl,h9b⟩;obtain rfl:=h9b.symm;clear hpt)|(go_at_call 99;refine FD.mono ?_;rintro e w8 ⟨rfl,a2,A8,c8,hC2,h8⟩;(have b3:w8.cell? ⟨w9.heap.size,3,none⟩=some (iV (x.size:Nat)):=h8.bC 1 rfl 3);(have f3:=h8.bF 1 rfl 3);(have h8s:=h8.bS 1 rfl 3 (.int .i64 (L:Nat)));(have b4:(w8.setCell ⟨w9.heap.size,3,none⟩ (.int .i64 (L:Nat))).cell? ⟨w9.heap.size,4,none⟩=some (.slice A8 m c8):=h8s.bC 1 rfl 4);replace h8s:=Lh h8s;replace hC2:=Lh hC2;clear FD h8));have hI0:Hid (∃T a',apD f q p S1 bs l 0 w0 (w8.setCell ⟨w9.heap.size,3,none⟩ (.int .i64 (L:Nat))) (.box w9.heap.size 129 (aN {x with size:=L,aB:=l} (.slice A8 m c8))::aR (.slice A8 m c8) (dZ l)::R) T a'):=Lh ⟨S1,a2,rfl,.refl _,hC2.out,h8s.out⟩;obtain⟨bx,hbx⟩:∃bx,bx=w9.heap.size:=⟨_,rfl⟩;rw[<-hbx]at hI0 b4 ⊢;clear h8s hC2 b4 b3 f3 hbx;go_loopw[24] (fun i wr=>∃k:Nat,k<=m/\i=iV k/\Hid (∃T a',apD f q p S1 bs l k w0 wr (.box bx 129 (aN {x with size:=L,aB:=l} (.slice A8 m c8))::aR (.slice A8 m c8) (dZ l)::R) T a')) (fun i _=>m-(intOf i).toNat)
  case atStart=>exact⟨0,gI _,rfl,hI0⟩
  obtain⟨k,hk,rfl,hI⟩:=hrel;clear hI0;obtain⟨T,a3,hT⟩:=hI.out;clear hI;by_cases hlt:k<m
  ·(have hll:(dZ l).length=m:=by unfold dZ;rw[iM];exact y2'.out);(have hlx:k<l.length:=by rw[y2'.out];exact hlt);obtain⟨s,hs⟩:∃s,s=l[k]:=⟨_,rfl⟩;(have hsk:l[k]? =some s:=by rw[gE hlx,hs]);have hsc:s<S.count:=y4'.out s (by rw[hs];exact nT hlx);(have hcj:∃ad,A8=some ad/\wr.cell? (ad.add k)=some (iV (s:Nat)):=by obtain⟨ad,c8,u9,e,h1,h2⟩:=Rd.at_ (hT.sep.rd 2 rfl) (k:=k) (by rw[hll];exact hlt);exact Z52);obtain⟨ad,rfl,hcj⟩:=hcj;(have hkL:512*k<L:=by have:=hm'.out;omega);obtain⟨o,ho⟩:∃o,o=k*512:=⟨_,rfl⟩
   --the new block
   have hmk:(Instr.makeSlice 69 (.int .i64 512) (.int .i64 512)).run Tryz.prog wr= .ok (sV wr.heap.size 512 512) (wr.alloc (.cells (madeCells #[.int .u8 0] 512) 5)):=qP (P:=Tryz.prog) 69 5 k0 (.int .u8 0) 1 Tryz.underlying69 pO hk0 hk1 hk2 rfl .i64 .i64 512 aD vQ wr;have hS1:=hT.sep.made 5 (.int .u8 0) 512 vQ;have hby:=hv'.out.now (X:=[_,_,_,_]) hS1;(obtain⟨ad0,rfl,hsub⟩:∃ad0,A0=some ad0/\BytesAt (wr.alloc (.cells (madeCells #[.int .u8 0] 512) 5)) (.slice (some (ad0.add o)) (L-o) (c0-o)) ((bs.drop o).take (L-o)):=by obtain⟨ad0,e,_⟩:=hby.byte (j:=0) (by rw[<-hL'.out];omega);subst e;exact⟨ad0,rfl,hby.sub (by rw[<-hL'.out];omega)⟩);(have hsl:((bs.drop o).take (L-o)).length=L-o:=by rw[qL,rU,<-hL'.out];omega);obtain⟨w7,hcp,qG,hz7⟩:=hS1.abN (P:=Tryz.prog) 0 rfl 69 69 3 Tryz.underlying69 wZ 0 512 512 (.slice (some (ad0.add o)) (L-o) (c0-o)) (L-o) (((bs.drop o).take (L-o)).map kT) (by unfold BytesAt at hsub;rw[hsl]at hsub;exact hsub) rM aD;have hch:oL (List.replicate 512 (Value.int .u8 0)) 0 ((((bs.drop o).take (L-o)).map kT).take (min (L-o) 512))=(jC bs k).map kT:=by
    rw[<-CW,<-abH,<-AL];unfold jC;congr 1;unfold dP oL;have e:((bs.drop o).take (L-o)).take (min (L-o) 512)=(bs.drop (512*k)).take 512:=by
     rw[List.take_take,ho,OJ];apply GI;intro j;rw[vO,vO];by_cases hj:j<512
     ·by_cases hj2:j<L-512*k
      ·rw[if_pos aD,if_pos hj]
      rw[if_neg aD,if_pos hj,zY,EZ (by rw[<-hL'.out];omega)]
     rw[if_neg aD,if_neg hj]
    rw[e]
   (have zS:Sep w0 w7 (aI (sV wr.heap.size 512 512) (jC bs k)::aF f q p T a3:: .box bx 129 (aN {x with size:=L,aB:=l} (.slice (some ad) m c8))::aR (.slice (some ad) m c8) (dZ l)::R):=by rw[bW (yD bs k),<-hch];exact qG);have hV:Sep w0 w7.drew (aF f q p T a3::aI (sV wr.heap.size 512 512) (jC bs k):: .box bx 129 (aN {x with size:=L,aB:=l} (.slice (some ad) m c8))::aR (.slice (some ad) m c8) (dZ l)::R):=(zS.perm (List.Perm.swap _ _ _)).drew;have hLk:=y3'.out.trans hT.like;have hF2:=hLk.vf hF'.out;have MQ:=AB hT.ok hF2 hV.fK.c3;(have hbound:T.data+s<T.nb-96:=by rw[<-hLk.count]at hsc;unfold VS.count at hsc;omega);(have hd4:(T.data+s:Nat)<=4096:=by have:=hT.ok.pF.few;omega);have hpu:=yB (v:=sV wr.heap.size 512 512) (bs:=jC bs k) hT.ok hbound ((hV.YK hT.ok (T.data+s)).perm (List.Perm.swap _ _ _));have hnx:apD f q p S1 bs l (k+1) w0 w7 R (T.put (T.data+s) (jC bs k)) (a3.put (T.data+s) (sV wr.heap.size 512 512) (jC bs k))\/True:=.inr trivial;(have heq:mK bs (l.drop (k+1)) (k+1) (T.put (T.data+s) (jC bs k))=mK bs l 0 S1:=by rw[<-hT.eq,aaV hlx,<-hs];rfl);have TH:=hT.ok.put (sV wr.heap.size 512 512) hbound (yD bs k);have hL4:=hT.like.put (T.data+s) (jC bs k);obtain⟨d,hd⟩:∃d,d=T.data:=⟨_,rfl⟩;rw[<-hd]at MQ hd4 hpu TH hL4 heq;rw[show((d+s:Nat):Int)=(d:Int)+s by omega]at hpu;(have q1:(k:Int)<m:=by omega);(have q0:(0:Int)<=k:=by omega);(have q2:(k:Int)*512<=L:=by omega);have q3:IntKind.i64.wrap ((d:Int)+s)=d+s:=IntWalk.i64_in _ aD;(have q6:¬c0=k*512:=by obtain⟨_,A,c,e,h1,_⟩:=hby;cases e;have:=hL'.out;omega);(have q5:(L:Int)<=c0:=by obtain⟨_,A,c,e,h1,_⟩:=hby;cases e;have:=hL'.out;omega);replace TH:=Lh TH;replace hL4:=Lh hL4;replace heq:=Lh heq;replace MQ:=Lh MQ;replace hpu:=Lh hpu;subst ho;clear hT hll hlx hs hsk hsc hkL hS1 hby hsub hsl qG hch zS hV hLk hF2 hbound hd4 hd hnx hz7;have hds:Hid (d=d):=Lh rfl;go_wp2_with fail;refine aP (S:=fun _=>True) 11 ?_;refine aA 0 trivial ?_;refine aA 1 trivial ?_;refine aA 2 trivial ?_;refine aA 3 trivial ?_;refine aA 4 trivial ?_;refine aA 5 trivial ?_;refine aA 7 trivial ?_;refine aA 9 trivial ?_;(refine bI 6 fun K hK=>?_);go_simp;go_at_call 142;refine MQ.out.mono ?_;rintro e w6 ⟨rfl,h6⟩;obtain rfl:=h6.symm;dsimp only;refine hK _ _ (fun _=>trivial) ?_;clear hK K;(try simp only[Act.put,gD]);refine bB 8 (fun _=>trivial) ?_;(refine bI 10 fun K hK=>?_);go_simp;go_at_call 98;refine hpu.out.mono ?_;rintro e w5 ⟨rfl,h5⟩;replace h5:=Lh h5;dsimp only;refine hK _ _ (fun _=>trivial) ?_;clear hK K;(try simp only[Act.put,gD]);refine aQ fH ?_ _;go_wp2_with fail;exact⟨⟨k+1,by omega,rfl,Lh ⟨_,_,heq.out,hL4.out,TH.out,h5.out⟩⟩,by simp[intOf];omega⟩
  (obtain rfl:k=m:=by omega);have e1:=hT.eq;rw[List.drop_of_length_le (by rw[y2'.out];exact iB _)]at e1;have e2:T=mK bs l 0 S1:=e1;(have c:=fun j=>hT.sep.bC 1 rfl j);have c0':wr.cell? ⟨bx,0,none⟩=some (iV (x.kind:Nat)):=c 0;have c1':wr.cell? ⟨bx,1,none⟩=some (iV (x.mode:Nat)):=c 1;have c2':wr.cell? ⟨bx,2,none⟩=some (iV (x.links:Nat)):=c 2;have c3':wr.cell? ⟨bx,3,none⟩=some (iV (L:Nat)):=c 3;have c4':wr.cell? ⟨bx,4,none⟩=some (.slice A8 k c8):=c 4;have hkp:=y6'.out T wr bx _ a3 e2 hT.ok hT.sep;unfold fJ aN at hkp;have e2':=Lh e2;clear hT e1 e2 c;go_wp2_with(go_at_call 100;refine hkp.mono ?_;rintro e w5 ⟨rfl,h5⟩;replace h5:=Lh h5)
  go_end0
  rw[e2'.out]at h5;unfold fO;exact⟨rfl,h5.out⟩
end
def VS.node (S:VS) (z:Int):VS:= {S with nodes:=z}
def gV (S:VS) (dir:Nat) (name:List UInt8) (n:Nat):Option VS:=
 match jV (S.node (S.nodes+1)) (aG S.cur dir).aB (((aG S.cur dir).size+16)/16)with
 |none=>none
 |some (S1,l)=>some ((S1.keep dir {aG S.cur dir with size:=(aG S.cur dir).size+1,aB:=l}).iC (l.getD ((aG S.cur dir).size/16) 0) (aG S.cur dir).size name n)
theorem jD {w0:World} {R:List aZ} {v:Value} {l:List Nat} (i:Nat) (h:R[i]? =some (aR v (dZ l))):yZ w0 R v l:=fun w' X hX=>by have:=hX.rd (X.length+i) ((vM aD).trans (by rw[JM];exact h));unfold dZ at this;rw[iM]at this;exact this
section
variable {w0 w:World} {R:List aZ} {f q p:Nat} {S:VS} {a:VA}
theorem VC.node (h:VC S a) (z:Int):VC (S.node z) a:=⟨h.pF,h.big,h.on,h.cur,h.seen,h.fresh,h.rest,h.few,h.none⟩
theorem VF.node (h:VF S) (z:Int):VF (S.node z):=⟨h.names,h.room⟩
theorem Sep.abP (h:Sep w0 w (aF f q p S a::R)) (z:Int):Sep w0 (w.setCell ⟨f,6,none⟩ (.int .i64 z)) (aF f q p (S.node z) a::R):=by have h1:=h.bE.bS 0 rfl 6 (.int .i64 z);have h2:Sep w0 (w.setCell ⟨f,6,none⟩ (.int .i64 z)) (pQ f q p (S.node z) a++R):=h1;exact h2.dB
theorem Sep.OY (h:Sep w0 w (aF f q p S a::R)) (j:Nat):w.frozen? ⟨f,j,none⟩=false:=h.bE.bF 0 rfl j
theorem Sep.dK {As:List aZ} {b:Nat} {x:VI} {v:Value} (i:Nat) (h:Sep w0 w As) (hi:As[i]? =some (.box b 129 (aN x v))):
  w.cell? ⟨b,0,none⟩=some (iV (x.kind:Nat))/\w.cell? ⟨b,1,none⟩=some (iV (x.mode:Nat))/\w.cell? ⟨b,2,none⟩=some (iV (x.links:Nat))/\w.cell? ⟨b,3,none⟩=some (iV (x.size:Nat))/\w.cell? ⟨b,4,none⟩=some v:=by
 have z:=fun j=>h.bC i hi j
 exact⟨z 0,z 1,z 2,z 3,z 4⟩
theorem Used.small {T:VS} {k:Nat} (h:Used S T k) (hW:gL S):gL T:=⟨by rw[h.wB];exact hW.b0,by rw[h.wB];exact hW.b1,by rw[h.wI];exact hW.i0,by rw[h.wI];exact hW.i1⟩
theorem alA {dir n:Nat} {name:List UInt8} (hC:VC S a) (hF:VF S) (YL:dir<S.names) (hok:(aG S.cur dir).aB.length<=28) (hsp:∀s∈(aG S.cur dir).aB,s<S.count) (hsz:(aG S.cur dir).size<448) (hW:gL S) (hnd: -1000000<=S.nodes/\S.nodes<=1000000) (hname:name.length<=15) (hn:n<=65535) (h:Sep w0 w (aF f q p S a::R)):
  Calls Tryz.prog 125 #[pV f,iV dir,aC name,iV n] w (fO f q p S (gV S dir name n) w0 R):=by
 have hin:=jP hC hF YL hok h;obtain⟨x,hx⟩:∃x,x=aG S.cur dir:=⟨_,rfl⟩;have hxo:x.ok:=by rw[hx];exact JW (by have:=hok;unfold aG at this;exact this)
 rw[<-hx]at hin hok hsp hsz;obtain⟨m,hm⟩:∃m,m=(x.size+16)/16:=⟨_,rfl⟩;have au0:m<=28:=by omega
 have hpt:=fun w=>xA (n:=x.size+1) (by':=16) aD aD aD w
 rw[show x.size+1+16-1=x.size+16 by omega,<-hm,show((x.size+1:Nat):Int)=(x.size:Int)+1 by omega]at hpt;obtain⟨S0,hS0⟩:∃S0,S0=S.node (S.nodes+1):=⟨_,rfl⟩;have hL0:eZ S S0:=by rw[hS0];exact⟨rfl,rfl,rfl,rfl,rfl⟩
 have hft:Hid (∀W bx u a1,VC S a1->Sep w0 W (aF f q p S0 a1:: .box bx 129 (aN {x with size:=x.size+1} u)::aR u (dZ x.aB)::R)->
   Calls Tryz.prog 99 #[pV f,pV bx,iV m] W (pR f q p S0 {x with size:=x.size+1} m bx w0 R)):=Lh fun W bx u a1 kH hS=>
  yE (x:= {x with size:=x.size+1}) (n:=m) (by rw[hS0];exact kH.node _) (by rw[hS0];exact hF.node _) hok au0 (fun s hs=>by rw[hL0.count];exact hsp s hs) hS
 have OZ:Hid (∀W a1 R',Sep w0 W (aF f q p S a1::R')->(W.cell? ⟨f,6,none⟩=some (iV S.nodes)/\W.frozen? ⟨f,6,none⟩=false)/\Sep w0 (W.setCell ⟨f,6,none⟩ (.int .i64 (S.nodes+1))) (aF f q p S0 a1::R')):=Lh fun W a1 R' hS=>⟨⟨hS.fK.c6,hS.OY 6⟩,by rw[hS0];exact hS.abP _⟩
 obtain⟨nd,hnd'⟩:∃nd,nd=S.nodes:=⟨_,rfl⟩;rw[<-hnd']at hnd OZ;have n1:=hnd.1;have n2:=hnd.2;have x1:(x.size:Int)<448:=by omega
 have x0:(0:Int)<=x.size:=by omega
 have e1:(((x.size+1:Nat)):Int)=(x.size:Int)+1:=by omega
 cases hfp:jV S0 x.aB m with
 |none=>
  (have hres:gV S dir name n=none:=by unfold gV;rw[<-hx,<-hm,<-hS0,hfp]);rw[hres];have OX:Hid (∀W bx u a1,VC S a1->Sep w0 W (aF f q p S0 a1:: .box bx 129 (aN {x with size:=x.size+1} u)::aR u (dZ x.aB)::R)->
   Calls Tryz.prog 99 #[pV f,pV bx,iV m] W fun e w'=>e= .panicked (fP 27)/\∃S1 a1,eZ S S1/\VC S1 a1/\Sep w0 w' (aF f q p S1 a1::R)):=Lh fun W bx u a1 kH hS=>by
   refine(hft.out W bx u a1 kH hS).mono ?_
   intro e w' ho
   unfold pR at ho
   have EB:jV S0 ({x with size:=x.size+1}:VI).aB m=none:=hfp
   rw[EB]at ho
   obtain⟨rfl,S1,a1,g1,g2,g3⟩:=ho
   exact⟨rfl,S1,a1,hL0.trans g1,g2,g3⟩
  clear hC hF YL hok hsp hsz hW hnd h hx hxo hm au0 hS0 hL0 hft hfp hres hname hn hnd';unfold fJ aC at*;go_enter Tryz.func125,Tryz.ntmps125;go_wp2_with(first |(go_at_call 72;refine hin.mono ?_;rintro e w9 ⟨v,a1,rfl,hR,h9⟩;(obtain⟨A9,c9,e9⟩:=h9.dS 0 rfl);subst e9;(have hs:Sep w0 (w9.alloc (.cells #[iV (x.kind:Nat),iV (x.mode:Nat),iV (x.links:Nat),iV ((x.size:Int)+1),.slice A9 (dZ x.aB).length c9] 129)) (.box w9.heap.size 129 (aN {x with size:=x.size+1} (.slice A9 (dZ x.aB).length c9))::aR (.slice A9 (dZ x.aB).length c9) (dZ x.aB)::aF f q p S a1::R):=h9.bN 129 _);(obtain⟨⟨k6,f6⟩,hs3⟩:=OZ.out _ _ _ (Sep.dE [2,0,1] hs aV bL));(have k3:=(hs3.drew.dK 1 rfl).2.2.2.1);(have alB:=OX.out _ _ _ _ hR.ok hs3.drew);replace hs3:=Lh hs3;clear hs h9 hR hin OZ OX;unfold aN at alB ⊢));rw[e1]at k3;refine aP (S:=fun w'=>w'.cell? ⟨w9.heap.size,3,none⟩=some (iV ((x.size:Int)+1))) 7 ?_;refine aA 0 k3 ?_;refine aA 1 k3 ?_;refine aA 2 k3 ?_;refine aA 3 k3 ?_;refine aA 4 k3 ?_;(refine bI 5 fun K hK=>?_);go_simp;go_at_call 95;refine(hpt _).mono ?_;rintro e w8 ⟨rfl,h8⟩;obtain rfl:=h8.symm;dsimp only;refine hK _ _ (fun _=>k3) ?_;clear hK K;(try simp only[Act.put,gD]);(refine bI 6 fun K hK=>?_);go_simp;go_at_call 99;refine alB.mono ?_;rintro e w7 ⟨rfl,hend⟩;exact⟨rfl,rfl,hend⟩
 |some r=>
  obtain⟨S1,l⟩:=r;have hU:=jQ hfp;have hk1:=qQ hfp;have hlt:=YJ hfp (fun s hs=>by rw[hL0.count];exact hsp s hs);(have hi0:aG S1.cur dir=x:=by rw[hU.1.ino,hS0];exact hx.symm);obtain⟨y,hy⟩:∃y:VI,y= {x with size:=x.size+1,aB:=l}:=⟨_,rfl⟩;(have hyo:y.ok:=by rw[hy];exact⟨hxo.kind,hxo.mode,hxo.links,by show x.size+1<65536;omega,by show l.length<=28;rw[hU.2];exact au0,fun s hs=>by have h2:=hlt s hs;have h3:=hC.pF.few;rw[hL0.count]at h2;unfold VS.count at h2;omega⟩);(have hil:x.size/16<l.length:=by rw[hU.2,hm];omega);obtain⟨s,hs⟩:∃s,s=l.getD (x.size/16) 0:=⟨_,rfl⟩;(have hsl:l[x.size/16]? =some s:=by rw[hs,gH,gE hil];rfl);(have hres:gV S dir name n=some ((S1.keep dir y).iC s x.size name n):=by unfold gV;rw[<-hx,<-hm,<-hS0,hfp,hy,hs]);rw[hres];have hF1:VF S1:=(hL0.trans hk1).vf hF;have hn1:S1.names=S.names:=(hL0.trans hk1).names;have hW1:gL S1:=hU.1.small (by rw[hS0];exact⟨hW.b0,hW.b1,hW.i0,hW.i1⟩);have OX:Hid (∀W bx u a1,VC S a1->Sep w0 W (aF f q p S0 a1:: .box bx 129 (aN {x with size:=x.size+1} u)::aR u (dZ x.aB)::R)->
   Calls Tryz.prog 99 #[pV f,pV bx,iV m] W fun e w'=>e= .returned (.tuple #[])/\∃a1 A c,VC S1 a1/\Sep w0 w' (aF f q p S1 a1:: .box bx 129 (aN y (.slice A m c))::aR (.slice A m c) (dZ l)::R)):=Lh fun W bx u a1 kH hS=>by
   refine(hft.out W bx u a1 kH hS).mono ?_
   intro e w' ho
   unfold pR at ho
   have EB:jV S0 ({x with size:=x.size+1}:VI).aB m=some (S1,l):=hfp
   rw[EB]at ho
   obtain⟨rfl,a2,v2,_,h2,h3⟩:=ho
   obtain⟨A,c,e⟩:=h3.dS 2 rfl
   have hl:(dZ l).length=m:=by unfold dZ;rw[iM];exact hU.2
   rw[hl]at e
   subst e
   rw[hy]
   exact⟨rfl,a2,A,c,h2,h3⟩
  have hkp:Hid (∀W bx u a2,VC S1 a2->Sep w0 W (aF f q p S1 a2:: .box bx 129 (aN y u)::aR u (dZ l)::R)->
   Calls Tryz.prog 100 #[pV f,iV dir,fJ y u] W fun e w'=>e= .returned (.tuple #[])/\∃a',VC (S1.keep dir y) a'/\Sep w0 w' (aF f q p (S1.keep dir y) a':: .box bx 129 (aN y u)::aR u (dZ l)::R)):=Lh fun W bx u a2 kH hS=>
   uO kH hF1 (by rw[hn1];exact YL) hyo (by rw[hi0];exact hok) hW1 (jD 1 (by rw[hy];rfl)) hS
  have hst:Hid (∀W bx u a2,VC (S1.keep dir y) a2->Sep w0 W (aF f q p (S1.keep dir y) a2:: .box bx 129 (aN y u)::aR u (dZ l)::R)->
   Calls Tryz.prog 179 #[pV f,fJ y u,iV x.size,aC name,iV n] W fun e w'=>e= .returned (.tuple #[])/\∃a',VC ((S1.keep dir y).iC s x.size name n) a'/\Sep w0 w' (aF f q p ((S1.keep dir y).iC s x.size name n) a'::R)):=Lh fun W bx u a2 kH hS=>by
   refine(YI kH hF1.keep (jD (l:=y.aB) 1 (by rw[hy];rfl)) (i:=x.size) (s:=s) (by rw[hy];exact hsl) (by have:=hlt s (gG hsl);rw[<-hk1.count]at this;exact this) hyo.few hname hn hS).mono ?_
   rintro e w' ⟨rfl,a',h5,h6⟩
   have h7:Sep w0 w' (.box bx 129 (aN y u)::aR u (dZ l)::aF f q p ((S1.keep dir y).iC s x.size name n) a'::R):=Sep.dE [1,2,0] h6 aV bL
   exact⟨rfl,a',h5,h7.drop 2⟩
  (have hyc:Hid (∀W As bx u,As[1]? =some (.box bx 129 (aN y u))->Sep w0 W As->W.cell? ⟨bx,0,none⟩=some (iV (x.kind:Nat))/\W.cell? ⟨bx,1,none⟩=some (iV (x.mode:Nat))/\W.cell? ⟨bx,2,none⟩=some (iV (x.links:Nat))/\W.cell? ⟨bx,3,none⟩=some (iV ((x.size:Int)+1))/\W.cell? ⟨bx,4,none⟩=some u):=Lh fun W As bx u hi hS=>by have:=hS.dK 1 hi;rw[hy]at this;exact this);(have hyv:Hid (∀u,fJ y u= .agg #[iV (x.kind:Nat),iV (x.mode:Nat),iV (x.links:Nat),iV ((x.size:Int)+1),u]):=Lh fun u=>by rw[hy];rfl);clear hC hF YL hok hsp hsz hW hnd h hx hxo hm au0 hS0 hL0 hft hfp hres hname hn hnd' hU hk1 hlt hi0 hyo hil hs hsl hF1 hn1 hW1;clear hy;unfold aC at*;unfold fJ at hin;go_enter Tryz.func125,Tryz.ntmps125;go_wp2_with(first |(go_at_call 72;refine hin.mono ?_;rintro e w9 ⟨v,a1,rfl,hR,h9⟩;(obtain⟨A9,c9,e9⟩:=h9.dS 0 rfl);subst e9;(have hs:Sep w0 (w9.alloc (.cells #[iV (x.kind:Nat),iV (x.mode:Nat),iV (x.links:Nat),iV ((x.size:Int)+1),.slice A9 (dZ x.aB).length c9] 129)) (.box w9.heap.size 129 (aN {x with size:=x.size+1} (.slice A9 (dZ x.aB).length c9))::aR (.slice A9 (dZ x.aB).length c9) (dZ x.aB)::aF f q p S a1::R):=h9.bN 129 _);(obtain⟨⟨k6,f6⟩,hs3⟩:=OZ.out _ _ _ (Sep.dE [2,0,1] hs aV bL));(have k3:=(hs3.drew.dK 1 rfl).2.2.2.1);(have alB:=OX.out _ _ _ _ hR.ok hs3.drew);replace hs3:=Lh hs3;clear hs h9 hR hin OZ OX;unfold aN at alB ⊢));rw[e1]at k3;refine aP (S:=fun w'=>w'.cell? ⟨w9.heap.size,3,none⟩=some (iV ((x.size:Int)+1))) 7 ?_;refine aA 0 k3 ?_;refine aA 1 k3 ?_;refine aA 2 k3 ?_;refine aA 3 k3 ?_;refine aA 4 k3 ?_;(refine bI 5 fun K hK=>?_);go_simp;go_at_call 95;refine(hpt _).mono ?_;rintro e w8 ⟨rfl,h8⟩;obtain rfl:=h8.symm;dsimp only;refine hK _ _ (fun _=>k3) ?_;clear hK K;(try simp only[Act.put,gD]);(refine bI 6 fun K hK=>?_);go_simp;go_at_call 99;refine alB.mono ?_;rintro e w7 ⟨rfl,a2,A7,c7,hC2,h7⟩;have k4:=hyc.out _ _ _ _ rfl h7;have k5:w7.cell? ⟨w9.heap.size,3,none⟩=some (iV ((x.size:Int)+1)):=k4.2.2.2.1;have sN:=hkp.out _ _ _ _ hC2 h7.drew;rw[hyv.out]at sN;replace h7:=Lh h7;clear alB hC2 hkp k3;dsimp only;refine hK _ _ (fun _=>k5) ?_;clear hK K;(try simp only[Act.put,gD]);refine aQ fH ?_ _;clear k5;go_wp2_with fail;refine aP (S:=fun w'=>w'.cell? ⟨w9.heap.size,0,none⟩=some (iV (x.kind:Nat))/\w'.cell? ⟨w9.heap.size,1,none⟩=some (iV (x.mode:Nat))/\w'.cell? ⟨w9.heap.size,2,none⟩=some (iV (x.links:Nat))/\w'.cell? ⟨w9.heap.size,3,none⟩=some (iV ((x.size:Int)+1))/\w'.cell? ⟨w9.heap.size,4,none⟩=some (.slice A7 m c7)) 6 ?_;(have k4':=show w7.drew.cell? ⟨w9.heap.size,0,none⟩=some (iV (x.kind:Nat))/\w7.drew.cell? ⟨w9.heap.size,1,none⟩=some (iV (x.mode:Nat))/\w7.drew.cell? ⟨w9.heap.size,2,none⟩=some (iV (x.links:Nat))/\w7.drew.cell? ⟨w9.heap.size,3,none⟩=some (iV ((x.size:Int)+1))/\w7.drew.cell? ⟨w9.heap.size,4,none⟩=some (.slice A7 m c7)from k4);refine aA 0 k4' ?_;refine aA 1 k4' ?_;refine aA 2 k4' ?_;refine aA 3 k4' ?_;refine aA 4 k4' ?_;(refine bI 5 fun K hK=>?_);go_simp;go_at_call 100;refine sN.mono ?_;rintro e w6 ⟨rfl,a3,YM,h6⟩;have k6':=hyc.out _ _ _ _ rfl h6;have aCQ:=hst.out _ _ _ _ YM h6;rw[hyv.out]at aCQ;clear k4 k4' sN h7 YM h6 hst;dsimp only;refine hK _ _ (fun _=>k6') ?_;clear hK K;(try simp only[Act.put,gD]);refine aQ fH ?_ _;obtain⟨d0,d1,d2,d3,d4⟩:=k6';go_wp2_with(go_at_call 179;refine aCQ.mono ?_;rintro e w5 ⟨rfl,h5⟩;replace h5:=Lh h5)
  go_end0
  unfold fO;exact⟨rfl,h5.out⟩
end
end Go.Proofs.YtmjomdkleikgbaaGreat
