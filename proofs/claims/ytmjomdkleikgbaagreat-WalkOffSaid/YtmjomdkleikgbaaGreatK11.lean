/- Parts. -/
import Derived.Test.YtmjomdkleikgbaaGreatK10
set_option linter.unusedVariables false
set_option linter.unusedSimpArgs false
set_option maxRecDepth 100000
set_option maxHeartbeats 20000000
namespace Go.Proofs.YtmjomdkleikgbaaGreat
open Go.RowKit
theorem MF :∀(k:Nat) (S:VS) (l:List Nat),(nN k S l).1.count=S.count
 |0,_,_=>rfl
 |k+1,S,l=>(MF k _ _).trans rfl
theorem ap4 :∀(k:Nat) (S:VS) (l:List Nat) {S1:VS} {l1:List Nat},NT k S l=some (S1,l1)->(∀s∈l,s<S.count)->∀s∈l1,s<S.count
 |0,S,l,S1,l1,h,hl=>by cases h;exact hl
 |k+1,S,l,S1,l1,h,hl=>by
  unfold NT at h;split at h
  ·cases h
  rename_i j hj;have h1:=ap4 k (S.put 1 (kZ (bk S.cur 1) j)) (l++[j]) h;refine h1 (fun s hs=>?_);rcases iM.1 hs with hs|hs
  ·exact hl s hs
  rw[tJ]at hs;subst hs;exact(yQ hj).1
theorem Y8 {S S1:VS} {l l1:List Nat} {n:Nat} (h:jY S l n=some (S1,l1)) (hl:∀s∈l,s<S.count):∀s∈l1,s<S.count:=by
 unfold jY at h;have h1:=ap4 _ _ _ h;rw[MF]at h1;refine h1 fun s hs=>hl s ?_
 rw[uU]at hs;exact AJ hs
theorem qY {S S1:VS} {l l1:List Nat} {n:Nat} (h:jY S l n=some (S1,l1)):fC S S1:=by
 have hd:∀(k:Nat) (S:VS) (l:List Nat),fC S (nN k S l).1:=fun k=>by
  induction k with
  |zero=>exact fun S l=>.refl S
  |succ k ih=>exact fun S l=>((fC.refl S).put 1 _).trans (ih _ _)
 have hu:∀(k:Nat) (S:VS) (l:List Nat) {S1:VS} {l1:List Nat},NT k S l=some (S1,l1)->fC S S1:=fun k=>by
  induction k with
  |zero=>intro S l S1 l1 h;cases h;exact .refl S
  |succ k ih=>
   intro S l S1 l1 h;unfold NT at h;split at h
   ·cases h
   exact((fC.refl S).put 1 _).trans (ih _ _ h)
 unfold jY at h;exact(hd _ _ _).trans (hu _ _ _ h)
def jE (bs:List UInt8) (k:Nat):List UInt8:=dR bX 0 ((bs.drop (512*k)).take 512)
theorem yR (bs:List UInt8) (k:Nat):(jE bs k).length=512:=by unfold jE;rw[fP,fV];rw[fV,qP];omega
def mR (bs:List UInt8):List Nat->Nat->VS->VS
 |[],_,S=>S
 |s::l,k,S=>mR bs l (k+1) (S.put (S.data+s) (jE bs k))
def mU (S:VS) (n:Nat) (bs:List UInt8):Option VS:=
 match jY S (aH S.cur n).aB ((bs.length+511)/512)with
 |none=>none
 |some (S1,l)=>some ((mR bs l 0 S1).keep n {aH S.cur n with size:=bs.length,aB:=l})
structure Laid (S S':VS) (k:Nat):Prop where
 like:fC S S'
 wB:S'.wB=S.wB
 wI:S'.wI=S.wI
 nodes:S'.nodes=S.nodes
 blk:∀j,j<S.data->bk S'.cur j=bk S.cur j
 m:S'.m=S.m+k
theorem Laid.refl (S:VS):Laid S S 0:=⟨.refl S,rfl,rfl,rfl,fun _ _=>rfl,rfl⟩
theorem fC.data {S T:VS} (h:fC S T):T.data=S.data:=by unfold VS.data;rw[h.names]
theorem Laid.put {S T:VS} {k:Nat} (h:Laid S T k) (s:Nat) (bs:List UInt8):Laid S (T.put (T.data+s) bs) (k+1):=
 ⟨h.like.put _ _,h.wB,h.wI,h.nodes,fun j hj=>(dK _ _ (by rw[h.like.data];omega)).trans (h.blk j hj),by show T.m+1=_;rw[h.m];omega⟩
theorem Laid.trans {S T U:VS} {i j:Nat} (h:Laid S T i) (g:Laid T U j):Laid S U (i+j):=
 ⟨h.like.trans g.like,g.wB.trans h.wB,g.wI.trans h.wI,g.nodes.trans h.nodes,fun k hk=>(g.blk k (by rw[h.like.data];exact hk)).trans (h.blk k hk),by rw[g.m,h.m];omega⟩
theorem qZ (bs:List UInt8):∀(l:List Nat) (k:Nat) (S:VS),Laid S (mR bs l k S) l.length
 |[],_,S=>.refl S
 |s::l,k,S=>by have h:=(Laid.put (.refl S) s (jE bs k)).trans (qZ bs l (k+1) _);rw[kH,show l.length+1=0+1+l.length by omega];exact h
theorem Laid.ino {S T:VS} {k:Nat} (h:Laid S T k) {n:Nat} (hn:n<S.names):aH T.cur n=aH S.cur n:=by unfold aH;rw[h.blk _ (by unfold VS.data;omega)]
def fQ (f q p:Nat) (S:VS) (r:Option VS) (w0:World) (R:List aW) (e:Ending) (w':World):Prop:=
 match r with
 |some S1=>e= .returned (.tuple #[])/\∃a1,VC S1 a1/\Sep w0 w' (aF f q p S1 a1::R)
 |none=>e= .panicked (fA 27)/\∃S1 a1,fC S S1/\VC S1 a1/\Sep w0 w' (aF f q p S1 a1::R)
theorem KC {b:List UInt8} (h:(DJ b).aB.length<=28):(DJ b).ok:=
 ⟨(b.getD 0 0).toNat_lt,V9 _ _,V9 _ _,V9 _ _,h,fun k hk=>by unfold DJ at hk;obtain⟨j,_,rfl⟩:=List.mem_map.1 hk;exact V9 _ _⟩
structure ap5 (f q p:Nat) (S1:VS) (bs:List UInt8) (l:List Nat) (k:Nat) (w0 wr:World) (R:List aW) (T:VS) (a:VA):Prop where
 eq:mR bs (l.drop k) k T=mR bs l 0 S1
 like:fC S1 T
 ok:VC T a
 sep:Sep w0 wr (aF f q p T a::R)
section
variable {w0 w:World} {R:List aW} {f q p:Nat} {S:VS} {a:VA}
theorem Sep.Y9 (h:Sep w0 w (aF f q p S a::R)) (hC:VC S a) (k:Nat):Sep w0 w (AP f q p S a k::R):=by
 cases hf:dO a.FM k with
 |some x=>have hx:=(hC.fresh _ (lQ hf)).2;have h1:DL f q p S a k x.1 w0 w R:=.inl ⟨by rw[hf,<-hx],h⟩;exact h1.out.drop 1
 |none=>have h1:=h.bG;have h2:Sep w0 w (jK a.fb a.FM::kF f q S a.sb (.map (some a.fb)) false::aG q p false::aO p S.D::dY a.sb a.SM::R):=Sep.dB [4,0,1,2,3] h1 aR (by simp[pU]);have h3:=h2.HZ hf;have h4:Sep w0 w ([kF f q S a.sb (.map (some a.fb)) false,aG q p false,aO p S.D,dY a.sb a.SM,UM a.fb a.FM k]++R):=Sep.dB [1,2,3,4,0] h3 aR bK;exact h4.dC
theorem ap6 {n:Nat} {v:Value} {bs:List UInt8} (hC:VC S a) (hF:VF S) (hn:n<S.names) (hok:(aH S.cur n).aB.length<=28) (hsp:∀s∈(aH S.cur n).aB,s<S.count) (hW:gK S) (hbs:bs.length<=8192) (hv:jI w0 R v bs) (h:Sep w0 w (aF f q p S a::R)):
  Calls Tryz.prog 75 #[pV f,iV n,v] w (fQ f q p S (mU S n bs) w0 R):=by
 have hin:=jQ hC hF hn hok h;obtain⟨x,hx⟩:∃x,x=aH S.cur n:=⟨_,rfl⟩;obtain⟨L,hL⟩:∃L,L=bs.length:=⟨_,rfl⟩;obtain⟨m,hm⟩:∃m,m=(L+511)/512:=⟨_,rfl⟩;have hxo:x.ok:=by rw[hx];exact KC (by have:=hok;unfold aH at this;exact this)
 have aIT:m<=16:=by rw[hm];omega
 obtain⟨A0,c0,hv0⟩:∃A c,v= .slice A L c:=by obtain⟨_,A,c,e,_⟩:=hv w [_] h;exact⟨A,c,by rw[e,hL]⟩
 have hpt:=fun w=>xP (n:=L) (by':=512) aD aD aD w
 rw[show L+512-1=L+511 by omega,<-hm]at hpt;have hft:Hid (∀W bx u a1,Reads S a a1->Sep w0 W (aF f q p S a1:: .box bx 129 (aN x u)::aS u (eB x.aB)::R)->
   Calls Tryz.prog 99 #[pV f,pV bx,iV m] W (pW f q p S x m bx w0 R)):=Lh fun W bx u a1 hR hS=>
  yS (n:=m) hR.ok hF (by rw[hx];exact hok) aD (by rw[hx];exact hsp) hS
 have hno:Hid (jY S x.aB m=none->mU S n bs=none):=Lh fun h1=>by unfold mU;rw[<-hx,<-hL,<-hm,h1]
 have EM:Hid (∀S1 l,jY S x.aB m=some (S1,l)->mU S n bs=some ((mR bs l 0 S1).keep n {x with size:=L,aB:=l})/\l.length=m/\fC S S1/\(∀s∈l,s<S.count)/\({x with size:=L,aB:=l}:VI).ok/\
   ∀T W bx u a1,T=mR bs l 0 S1->VC T a1->Sep w0 W (aF f q p T a1:: .box bx 129 (aN {x with size:=L,aB:=l} u)::aS u (eB l)::R)->
    Calls Tryz.prog 100 #[pV f,iV n,fM {x with size:=L,aB:=l} u] W fun e w'=>e= .returned (.tuple #[])/\∃a',VC (T.keep n {x with size:=L,aB:=l}) a'/\Sep w0 w' (aF f q p (T.keep n {x with size:=L,aB:=l}) a'::R)):=Lh fun S1 l h1=>by
  have hU:=jR h1
  have hk:=qY h1
  have hlt:=Y8 h1 (by rw[hx];exact hsp)
  have aDE:({x with size:=L,aB:=l}:VI).ok:=⟨hxo.kind,hxo.mode,hxo.links,by show L<65536;omega,by show l.length<=28;rw[hU.2];omega,fun s hs=>by have h2:=hlt s hs;have h3:=hC.nV.few;unfold VS.count at h2;omega⟩
  refine⟨by unfold mU;rw[<-hx,<-hL,<-hm,h1],hU.2,hk,hlt,aDE,fun T W bx u a1 hT kK hS=>?_⟩
  have hLd:=qZ bs l 0 S1
  rw[<-hT]at hLd
  have hi:aH T.cur n=x:=by rw[hLd.ino (by rw[hk.names];exact hn),hU.1.ino,hx]
  have hS2:Sep w0 W (aF f q p T a1::aS u (eB l):: .box bx 129 (aN {x with size:=L,aB:=l} u)::R):=Sep.dB [0,2,1] hS aR bK
  have hrow:zN w0 (aS u (eB l):: .box bx 129 (aN {x with size:=L,aB:=l} u)::R) u l:=fun w' X hX=>by have:=hX.rd (X.length) (by rw[vT (iC _),FP];rfl);unfold eB at this;rw[iJ]at this;exact this
  refine(uV (x:= {x with size:=L,aB:=l}) kK ((hk.trans hLd.like).vf hF) (by rw[(hk.trans hLd.like).names];exact hn) aDE (by rw[hi,hx];exact hok) ⟨by rw[hLd.wB,hU.1.wB];exact hW.b0,by rw[hLd.wB,hU.1.wB];exact hW.b1,by rw[hLd.wI,hU.1.wI];exact hW.i0,by rw[hLd.wI,hU.1.wI];exact hW.i1⟩ hrow hS2).mono ?_
  rintro e w' ⟨rfl,a',h5,h6⟩
  have h7:Sep w0 w' (aS u (eB l):: .box bx 129 (aN {x with size:=L,aB:=l} u)::aF f q p (T.keep n {x with size:=L,aB:=l}) a'::R):=Sep.dB [1,2,0] h6 aR bK
  exact⟨rfl,a',h5,h7.drop 2⟩
 rw[<-hx]at hin;have hF':=Lh hF;have hv':=Lh hv;have hL':=Lh hL;have hm':=Lh hm;have L1:(L:Int)<=8192:=by omega
 have L0:(0:Int)<=L:=by omega
 have m1:(m:Int)<=16:=by omega
 obtain⟨k0,pR,hk0,hk1,hk2⟩:=iR mE;subst hv0;clear hC hF hn hok hsp hW hbs hv h hx hxo hL hm aIT;unfold fM at hin;cases hfp:jY S x.aB m with
 |none=>
  have PI:Hid (∀W bx u a1,Reads S a a1->Sep w0 W (aF f q p S a1:: .box bx 129 (aN x u)::aS u (eB x.aB)::R)->
   Calls Tryz.prog 99 #[pV f,pV bx,iV m] W fun e w'=>e= .panicked (fA 27)/\∃S1 a1,fC S S1/\VC S1 a1/\Sep w0 w' (aF f q p S1 a1::R)):=Lh fun W bx u a1 hR hS=>by
   have:=hft.out W bx u a1 hR hS
   unfold pW at this
   rw[hfp]at this
   exact this
  rw[hno.out hfp];clear hft EM hno hfp;go_enter Tryz.func75,Tryz.ntmps75;go_wp2_with(first |(go_at_call 72;refine hin.mono ?_;rintro e w9 ⟨v,a1,rfl,hR,h9⟩;obtain⟨A9,c9,e9⟩:=h9.dV 0 rfl;subst e9;have hs:=h9.bN 129 (aN x (.slice A9 (eB x.aB).length c9));have FR:=PI.out _ _ _ _ hR (Sep.dB [2,0,1] hs aR bK);clear hs h9 hR hin PI;unfold aN at*)|(go_at_call 95;refine(hpt _).mono ?_;rintro e w9b ⟨rfl,h9b⟩;obtain rfl:=h9b.symm;clear hpt)|(go_at_call 99;refine FR.mono ?_;rintro e w8 ⟨rfl,hend⟩;replace hend:=Lh hend;clear FR));unfold fQ;exact⟨rfl,rfl,hend.out⟩
 |some r=>
  obtain⟨S1,l⟩:=r;obtain⟨y1,y2,y3,y4,y5,y6⟩:=EM.out S1 l hfp;have PI:Hid (∀W bx u a1,Reads S a a1->Sep w0 W (aF f q p S a1:: .box bx 129 (aN x u)::aS u (eB x.aB)::R)->
   Calls Tryz.prog 99 #[pV f,pV bx,iV m] W fun e w'=>e= .returned (.tuple #[])/\∃a1 A c,VC S1 a1/\Sep w0 w' (aF f q p S1 a1:: .box bx 129 (aN x (.slice A m c))::aS (.slice A m c) (eB l)::R)):=Lh fun W bx u a1 hR hS=>by
   refine(hft.out W bx u a1 hR hS).mono ?_
   intro e w' ho
   unfold pW at ho
   rw[hfp]at ho
   obtain⟨rfl,a2,v2,_,h2,h3⟩:=ho
   obtain⟨A,c,e⟩:=h3.dV 2 rfl
   have hl:(eB l).length=m:=by unfold eB;rw[iJ];exact y2
   rw[hl]at e
   subst e
   exact⟨rfl,a2,A,c,h2,h3⟩
  rw[y1];have y2':=Lh y2;have y3':=Lh y3;have y4':=Lh y4;have y6':=Lh y6;clear hft EM hno hfp y1 y2 y3 y4 y5 y6;go_enter Tryz.func75,Tryz.ntmps75;go_wp2_with(first |(go_at_call 72;refine hin.mono ?_;rintro e w9 ⟨v,a1,rfl,hR,h9⟩;obtain⟨A9,c9,e9⟩:=h9.dV 0 rfl;subst e9;have hs:=h9.bN 129 (aN x (.slice A9 (eB x.aB).length c9));have FR:=PI.out _ _ _ _ hR (Sep.dB [2,0,1] hs aR bK);clear hs h9 hR hin PI;unfold aN at*)|(go_at_call 95;refine(hpt _).mono ?_;rintro e w9b ⟨rfl,h9b⟩;obtain rfl:=h9b.symm;clear hpt)|(go_at_call 99;refine FR.mono ?_;rintro e w8 ⟨rfl,a2,A8,c8,hC2,h8⟩;(have b3:w8.cell? ⟨w9.heap.size,3,none⟩=some (iV (x.size:Nat)):=h8.bC 1 rfl 3);(have f3:=h8.bF 1 rfl 3);(have h8s:=h8.bS 1 rfl 3 (.int .i64 (L:Nat)));(have b4:(w8.setCell ⟨w9.heap.size,3,none⟩ (.int .i64 (L:Nat))).cell? ⟨w9.heap.size,4,none⟩=some (.slice A8 m c8):=h8s.bC 1 rfl 4);replace h8s:=Lh h8s;replace hC2:=Lh hC2;clear FR h8));have hI0:Hid (∃T a',ap5 f q p S1 bs l 0 w0 (w8.setCell ⟨w9.heap.size,3,none⟩ (.int .i64 (L:Nat))) (.box w9.heap.size 129 (aN {x with size:=L,aB:=l} (.slice A8 m c8))::aS (.slice A8 m c8) (eB l)::R) T a'):=Lh ⟨S1,a2,rfl,.refl _,hC2.out,h8s.out⟩;obtain⟨bx,hbx⟩:∃bx,bx=w9.heap.size:=⟨_,rfl⟩;rw[<-hbx]at hI0 b4 ⊢;clear h8s hC2 b4 b3 f3 hbx;go_loopw[24] (fun i wr=>∃k:Nat,k<=m/\i=iV k/\Hid (∃T a',ap5 f q p S1 bs l k w0 wr (.box bx 129 (aN {x with size:=L,aB:=l} (.slice A8 m c8))::aS (.slice A8 m c8) (eB l)::R) T a')) (fun i _=>m-(intOf i).toNat)
  case atStart=>exact⟨0,fZ _,rfl,hI0⟩
  obtain⟨k,hk,rfl,hI⟩:=hrel;clear hI0;obtain⟨T,a3,hT⟩:=hI.out;clear hI;by_cases hlt:k<m
  ·(have hll:(eB l).length=m:=by unfold eB;rw[iJ];exact y2'.out);(have hlx:k<l.length:=by rw[y2'.out];exact hlt);obtain⟨s,hs⟩:∃s,s=l[k]:=⟨_,rfl⟩;(have hsk:l[k]? =some s:=by rw[gE hlx,hs]);have hsc:s<S.count:=y4'.out s (by rw[hs];exact nW hlx);(have hcj:∃ad,A8=some ad/\wr.cell? (ad.add k)=some (iV (s:Nat)):=by obtain⟨ad,c8,u9,e,h1,h2⟩:=Rd.at_ (hT.sep.rd 2 rfl) (k:=k) (by rw[hll];exact hlt);exact Z56);obtain⟨ad,rfl,hcj⟩:=hcj;(have hkL:512*k<L:=by have:=hm'.out;omega);obtain⟨o,ho⟩:∃o,o=k*512:=⟨_,rfl⟩
   --the new block
   have hmk:(Instr.makeSlice 69 (.int .i64 512) (.int .i64 512)).run Tryz.prog wr= .ok (sV wr.heap.size 512 512) (wr.alloc (.cells (madeCells #[.int .u8 0] 512) 5)):=qX (P:=Tryz.prog) 69 5 k0 (.int .u8 0) 1 Tryz.underlying69 pR hk0 hk1 hk2 rfl .i64 .i64 512 aD vX wr;have hS1:=hT.sep.made 5 (.int .u8 0) 512 vX;have hby:=hv'.out.now (X:=[_,_,_,_]) hS1;(obtain⟨ad0,rfl,hsub⟩:∃ad0,A0=some ad0/\BytesAt (wr.alloc (.cells (madeCells #[.int .u8 0] 512) 5)) (.slice (some (ad0.add o)) (L-o) (c0-o)) ((bs.drop o).take (L-o)):=by obtain⟨ad0,e,_⟩:=hby.byte (j:=0) (by rw[<-hL'.out];omega);subst e;exact⟨ad0,rfl,hby.sub (by rw[<-hL'.out];omega)⟩);(have hsl:((bs.drop o).take (L-o)).length=L-o:=by rw[qP,rZ,<-hL'.out];omega);obtain⟨w7,hcp,nI,hz7⟩:=hS1.acD (P:=Tryz.prog) 0 rfl 69 69 3 Tryz.underlying69 xO 0 512 512 (.slice (some (ad0.add o)) (L-o) (c0-o)) (L-o) (((bs.drop o).take (L-o)).map kY) (by unfold BytesAt at hsub;rw[hsl]at hsub;exact hsub) rT aD;have hch:oM (List.replicate 512 (Value.int .u8 0)) 0 ((((bs.drop o).take (L-o)).map kY).take (min (L-o) 512))=(jE bs k).map kY:=by
    rw[<-DN,<-ab7,<-BC];unfold jE;congr 1;unfold dR oM;have e:((bs.drop o).take (L-o)).take (min (L-o) 512)=(bs.drop (512*k)).take 512:=by
     rw[List.take_take,ho,O4];apply GV;intro j;rw[vV,vV];by_cases hj:j<512
     ·by_cases hj2:j<L-512*k
      ·rw[if_pos aD,if_pos hj]
      rw[if_neg aD,if_pos hj,AV,FK (by rw[<-hL'.out];omega)]
     rw[if_neg aD,if_neg hj]
    rw[e]
   (have vY:Sep w0 w7 (aI (sV wr.heap.size 512 512) (jE bs k)::aF f q p T a3:: .box bx 129 (aN {x with size:=L,aB:=l} (.slice (some ad) m c8))::aS (.slice (some ad) m c8) (eB l)::R):=by rw[bV (yR bs k),<-hch];exact nI);have hV:Sep w0 w7.drew (aF f q p T a3::aI (sV wr.heap.size 512 512) (jE bs k):: .box bx 129 (aN {x with size:=L,aB:=l} (.slice (some ad) m c8))::aS (.slice (some ad) m c8) (eB l)::R):=(vY.perm (List.Perm.swap _ _ _)).drew;have hLk:=y3'.out.trans hT.like;have hF2:=hLk.vf hF'.out;have NA:=BA hT.ok hF2 hV.fO.c3;(have hbound:T.data+s<T.nb-96:=by rw[<-hLk.count]at hsc;unfold VS.count at hsc;omega);(have hd4:(T.data+s:Nat)<=4096:=by have:=hT.ok.nV.few;omega);have hpu:=yP (v:=sV wr.heap.size 512 512) (bs:=jE bs k) hT.ok hbound ((hV.Y9 hT.ok (T.data+s)).perm (List.Perm.swap _ _ _));have hnx:ap5 f q p S1 bs l (k+1) w0 w7 R (T.put (T.data+s) (jE bs k)) (a3.put (T.data+s) (sV wr.heap.size 512 512) (jE bs k))\/True:=.inr trivial;(have heq:mR bs (l.drop (k+1)) (k+1) (T.put (T.data+s) (jE bs k))=mR bs l 0 S1:=by rw[<-hT.eq,abL hlx,<-hs];rfl);have UG:=hT.ok.put (sV wr.heap.size 512 512) hbound (yR bs k);have hL4:=hT.like.put (T.data+s) (jE bs k);obtain⟨d,hd⟩:∃d,d=T.data:=⟨_,rfl⟩;rw[<-hd]at NA hd4 hpu UG hL4 heq;rw[show((d+s:Nat):Int)=(d:Int)+s by omega]at hpu;(have q1:(k:Int)<m:=by omega);(have q0:(0:Int)<=k:=by omega);(have q2:(k:Int)*512<=L:=by omega);have q3:IntKind.i64.wrap ((d:Int)+s)=d+s:=IntWalk.i64_in _ aD;(have q6:¬c0=k*512:=by obtain⟨_,A,c,e,h1,_⟩:=hby;cases e;have:=hL'.out;omega);(have q5:(L:Int)<=c0:=by obtain⟨_,A,c,e,h1,_⟩:=hby;cases e;have:=hL'.out;omega);replace UG:=Lh UG;replace hL4:=Lh hL4;replace heq:=Lh heq;replace NA:=Lh NA;replace hpu:=Lh hpu;subst ho;clear hT hll hlx hs hsk hsc hkL hS1 hby hsub hsl nI hch vY hV hLk hF2 hbound hd4 hd hnx hz7;have hds:Hid (d=d):=Lh rfl;go_wp2_with fail;refine aP (S:=fun _=>True) 11 ?_;refine aA 0 trivial ?_;refine aA 1 trivial ?_;refine aA 2 trivial ?_;refine aA 3 trivial ?_;refine aA 4 trivial ?_;refine aA 5 trivial ?_;refine aA 7 trivial ?_;refine aA 9 trivial ?_;(refine bI 6 fun K hK=>?_);go_simp;go_at_call 142;refine NA.out.mono ?_;rintro e w6 ⟨rfl,h6⟩;obtain rfl:=h6.symm;dsimp only;refine hK _ _ (fun _=>trivial) ?_;clear hK K;(try simp only[Act.put,gD]);refine bA 8 (fun _=>trivial) ?_;(refine bI 10 fun K hK=>?_);go_simp;go_at_call 98;refine hpu.out.mono ?_;rintro e w5 ⟨rfl,h5⟩;replace h5:=Lh h5;dsimp only;refine hK _ _ (fun _=>trivial) ?_;clear hK K;(try simp only[Act.put,gD]);refine aQ fE ?_ _;go_wp2_with fail;exact⟨⟨k+1,by omega,rfl,Lh ⟨_,_,heq.out,hL4.out,UG.out,h5.out⟩⟩,by simp[intOf];omega⟩
  (obtain rfl:k=m:=by omega);have e1:=hT.eq;rw[List.drop_of_length_le (by rw[y2'.out];exact iC _)]at e1;have e2:T=mR bs l 0 S1:=e1;(have c:=fun j=>hT.sep.bC 1 rfl j);have c0':wr.cell? ⟨bx,0,none⟩=some (iV (x.kind:Nat)):=c 0;have c1':wr.cell? ⟨bx,1,none⟩=some (iV (x.mode:Nat)):=c 1;have c2':wr.cell? ⟨bx,2,none⟩=some (iV (x.links:Nat)):=c 2;have c3':wr.cell? ⟨bx,3,none⟩=some (iV (L:Nat)):=c 3;have c4':wr.cell? ⟨bx,4,none⟩=some (.slice A8 k c8):=c 4;have hkp:=y6'.out T wr bx _ a3 e2 hT.ok hT.sep;unfold fM aN at hkp;have e2':=Lh e2;clear hT e1 e2 c;go_wp2_with(go_at_call 100;refine hkp.mono ?_;rintro e w5 ⟨rfl,h5⟩;replace h5:=Lh h5)
  go_end0
  rw[e2'.out]at h5;unfold fQ;exact⟨rfl,h5.out⟩
end
def VS.node (S:VS) (z:Int):VS:= {S with nodes:=z}
def gV (S:VS) (dir:Nat) (name:List UInt8) (n:Nat):Option VS:=
 match jY (S.node (S.nodes+1)) (aH S.cur dir).aB (((aH S.cur dir).size+16)/16)with
 |none=>none
 |some (S1,l)=>some ((S1.keep dir {aH S.cur dir with size:=(aH S.cur dir).size+1,aB:=l}).iD (l.getD ((aH S.cur dir).size/16) 0) (aH S.cur dir).size name n)
theorem jF {w0:World} {R:List aW} {v:Value} {l:List Nat} (i:Nat) (h:R[i]? =some (aS v (eB l))):zN w0 R v l:=fun w' X hX=>by have:=hX.rd (X.length+i) ((vT aD).trans (by rw[J2];exact h));unfold eB at this;rw[iJ]at this;exact this
section
variable {w0 w:World} {R:List aW} {f q p:Nat} {S:VS} {a:VA}
theorem VC.node (h:VC S a) (z:Int):VC (S.node z) a:=⟨h.nV,h.big,h.on,h.cur,h.seen,h.fresh,h.rest,h.few,h.none⟩
theorem VF.node (h:VF S) (z:Int):VF (S.node z):=⟨h.names,h.room⟩
theorem Sep.acF (h:Sep w0 w (aF f q p S a::R)) (z:Int):Sep w0 (w.setCell ⟨f,6,none⟩ (.int .i64 z)) (aF f q p (S.node z) a::R):=by have h1:=h.bG.bS 0 rfl 6 (.int .i64 z);have h2:Sep w0 (w.setCell ⟨f,6,none⟩ (.int .i64 z)) (pU f q p (S.node z) a++R):=h1;exact h2.dC
theorem Sep.PK (h:Sep w0 w (aF f q p S a::R)) (j:Nat):w.frozen? ⟨f,j,none⟩=false:=h.bG.bF 0 rfl j
theorem Sep.dL {As:List aW} {b:Nat} {x:VI} {v:Value} (i:Nat) (h:Sep w0 w As) (hi:As[i]? =some (.box b 129 (aN x v))):
  w.cell? ⟨b,0,none⟩=some (iV (x.kind:Nat))/\w.cell? ⟨b,1,none⟩=some (iV (x.mode:Nat))/\w.cell? ⟨b,2,none⟩=some (iV (x.links:Nat))/\w.cell? ⟨b,3,none⟩=some (iV (x.size:Nat))/\w.cell? ⟨b,4,none⟩=some v:=by
 have z:=fun j=>h.bC i hi j
 exact⟨z 0,z 1,z 2,z 3,z 4⟩
theorem Used.small {T:VS} {k:Nat} (h:Used S T k) (hW:gK S):gK T:=⟨by rw[h.wB];exact hW.b0,by rw[h.wB];exact hW.b1,by rw[h.wI];exact hW.i0,by rw[h.wI];exact hW.i1⟩
theorem al5 {dir n:Nat} {name:List UInt8} (hC:VC S a) (hF:VF S) (ZA:dir<S.names) (hok:(aH S.cur dir).aB.length<=28) (hsp:∀s∈(aH S.cur dir).aB,s<S.count) (hsz:(aH S.cur dir).size<448) (hW:gK S) (hnd: -1000000<=S.nodes/\S.nodes<=1000000) (hname:name.length<=15) (hn:n<=65535) (h:Sep w0 w (aF f q p S a::R)):
  Calls Tryz.prog 125 #[pV f,iV dir,aC name,iV n] w (fQ f q p S (gV S dir name n) w0 R):=by
 have hin:=jQ hC hF ZA hok h;obtain⟨x,hx⟩:∃x,x=aH S.cur dir:=⟨_,rfl⟩;have hxo:x.ok:=by rw[hx];exact KC (by have:=hok;unfold aH at this;exact this)
 rw[<-hx]at hin hok hsp hsz;obtain⟨m,hm⟩:∃m,m=(x.size+16)/16:=⟨_,rfl⟩;have av3:m<=28:=by omega
 have hpt:=fun w=>xP (n:=x.size+1) (by':=16) aD aD aD w
 rw[show x.size+1+16-1=x.size+16 by omega,<-hm,show((x.size+1:Nat):Int)=(x.size:Int)+1 by omega]at hpt;obtain⟨S0,hS0⟩:∃S0,S0=S.node (S.nodes+1):=⟨_,rfl⟩;have hL0:fC S S0:=by rw[hS0];exact⟨rfl,rfl,rfl,rfl,rfl⟩
 have hft:Hid (∀W bx u a1,VC S a1->Sep w0 W (aF f q p S0 a1:: .box bx 129 (aN {x with size:=x.size+1} u)::aS u (eB x.aB)::R)->
   Calls Tryz.prog 99 #[pV f,pV bx,iV m] W (pW f q p S0 {x with size:=x.size+1} m bx w0 R)):=Lh fun W bx u a1 kK hS=>
  yS (x:= {x with size:=x.size+1}) (n:=m) (by rw[hS0];exact kK.node _) (by rw[hS0];exact hF.node _) hok av3 (fun s hs=>by rw[hL0.count];exact hsp s hs) hS
 have PL:Hid (∀W a1 R',Sep w0 W (aF f q p S a1::R')->(W.cell? ⟨f,6,none⟩=some (iV S.nodes)/\W.frozen? ⟨f,6,none⟩=false)/\Sep w0 (W.setCell ⟨f,6,none⟩ (.int .i64 (S.nodes+1))) (aF f q p S0 a1::R')):=Lh fun W a1 R' hS=>⟨⟨hS.fO.c6,hS.PK 6⟩,by rw[hS0];exact hS.acF _⟩
 obtain⟨nd,hnd'⟩:∃nd,nd=S.nodes:=⟨_,rfl⟩;rw[<-hnd']at hnd PL;have n1:=hnd.1;have n2:=hnd.2;have x1:(x.size:Int)<448:=by omega
 have x0:(0:Int)<=x.size:=by omega
 have e1:(((x.size+1:Nat)):Int)=(x.size:Int)+1:=by omega
 cases hfp:jY S0 x.aB m with
 |none=>
  (have hres:gV S dir name n=none:=by unfold gV;rw[<-hx,<-hm,<-hS0,hfp]);rw[hres];have PI:Hid (∀W bx u a1,VC S a1->Sep w0 W (aF f q p S0 a1:: .box bx 129 (aN {x with size:=x.size+1} u)::aS u (eB x.aB)::R)->
   Calls Tryz.prog 99 #[pV f,pV bx,iV m] W fun e w'=>e= .panicked (fA 27)/\∃S1 a1,fC S S1/\VC S1 a1/\Sep w0 w' (aF f q p S1 a1::R)):=Lh fun W bx u a1 kK hS=>by
   refine(hft.out W bx u a1 kK hS).mono ?_
   intro e w' ho
   unfold pW at ho
   have EN:jY S0 ({x with size:=x.size+1}:VI).aB m=none:=hfp
   rw[EN]at ho
   obtain⟨rfl,S1,a1,g1,g2,g3⟩:=ho
   exact⟨rfl,S1,a1,hL0.trans g1,g2,g3⟩
  clear hC hF ZA hok hsp hsz hW hnd h hx hxo hm av3 hS0 hL0 hft hfp hres hname hn hnd';unfold fM aC at*;go_enter Tryz.func125,Tryz.ntmps125;go_wp2_with(first |(go_at_call 72;refine hin.mono ?_;rintro e w9 ⟨v,a1,rfl,hR,h9⟩;(obtain⟨A9,c9,e9⟩:=h9.dV 0 rfl);subst e9;(have hs:Sep w0 (w9.alloc (.cells #[iV (x.kind:Nat),iV (x.mode:Nat),iV (x.links:Nat),iV ((x.size:Int)+1),.slice A9 (eB x.aB).length c9] 129)) (.box w9.heap.size 129 (aN {x with size:=x.size+1} (.slice A9 (eB x.aB).length c9))::aS (.slice A9 (eB x.aB).length c9) (eB x.aB)::aF f q p S a1::R):=h9.bN 129 _);(obtain⟨⟨k6,f6⟩,hs3⟩:=PL.out _ _ _ (Sep.dB [2,0,1] hs aR bK));(have k3:=(hs3.drew.dL 1 rfl).2.2.2.1);(have al6:=PI.out _ _ _ _ hR.ok hs3.drew);replace hs3:=Lh hs3;clear hs h9 hR hin PL PI;unfold aN at al6 ⊢));rw[e1]at k3;refine aP (S:=fun w'=>w'.cell? ⟨w9.heap.size,3,none⟩=some (iV ((x.size:Int)+1))) 7 ?_;refine aA 0 k3 ?_;refine aA 1 k3 ?_;refine aA 2 k3 ?_;refine aA 3 k3 ?_;refine aA 4 k3 ?_;(refine bI 5 fun K hK=>?_);go_simp;go_at_call 95;refine(hpt _).mono ?_;rintro e w8 ⟨rfl,h8⟩;obtain rfl:=h8.symm;dsimp only;refine hK _ _ (fun _=>k3) ?_;clear hK K;(try simp only[Act.put,gD]);(refine bI 6 fun K hK=>?_);go_simp;go_at_call 99;refine al6.mono ?_;rintro e w7 ⟨rfl,hend⟩;exact⟨rfl,rfl,hend⟩
 |some r=>
  obtain⟨S1,l⟩:=r;have hU:=jR hfp;have hk1:=qY hfp;have hlt:=Y8 hfp (fun s hs=>by rw[hL0.count];exact hsp s hs);(have hi0:aH S1.cur dir=x:=by rw[hU.1.ino,hS0];exact hx.symm);obtain⟨y,hy⟩:∃y:VI,y= {x with size:=x.size+1,aB:=l}:=⟨_,rfl⟩;(have hyo:y.ok:=by rw[hy];exact⟨hxo.kind,hxo.mode,hxo.links,by show x.size+1<65536;omega,by show l.length<=28;rw[hU.2];exact av3,fun s hs=>by have h2:=hlt s hs;have h3:=hC.nV.few;rw[hL0.count]at h2;unfold VS.count at h2;omega⟩);(have hil:x.size/16<l.length:=by rw[hU.2,hm];omega);obtain⟨s,hs⟩:∃s,s=l.getD (x.size/16) 0:=⟨_,rfl⟩;(have hsl:l[x.size/16]? =some s:=by rw[hs,gH,gE hil];rfl);(have hres:gV S dir name n=some ((S1.keep dir y).iD s x.size name n):=by unfold gV;rw[<-hx,<-hm,<-hS0,hfp,hy,hs]);rw[hres];have hF1:VF S1:=(hL0.trans hk1).vf hF;have hn1:S1.names=S.names:=(hL0.trans hk1).names;have hW1:gK S1:=hU.1.small (by rw[hS0];exact⟨hW.b0,hW.b1,hW.i0,hW.i1⟩);have PI:Hid (∀W bx u a1,VC S a1->Sep w0 W (aF f q p S0 a1:: .box bx 129 (aN {x with size:=x.size+1} u)::aS u (eB x.aB)::R)->
   Calls Tryz.prog 99 #[pV f,pV bx,iV m] W fun e w'=>e= .returned (.tuple #[])/\∃a1 A c,VC S1 a1/\Sep w0 w' (aF f q p S1 a1:: .box bx 129 (aN y (.slice A m c))::aS (.slice A m c) (eB l)::R)):=Lh fun W bx u a1 kK hS=>by
   refine(hft.out W bx u a1 kK hS).mono ?_
   intro e w' ho
   unfold pW at ho
   have EN:jY S0 ({x with size:=x.size+1}:VI).aB m=some (S1,l):=hfp
   rw[EN]at ho
   obtain⟨rfl,a2,v2,_,h2,h3⟩:=ho
   obtain⟨A,c,e⟩:=h3.dV 2 rfl
   have hl:(eB l).length=m:=by unfold eB;rw[iJ];exact hU.2
   rw[hl]at e
   subst e
   rw[hy]
   exact⟨rfl,a2,A,c,h2,h3⟩
  have hkp:Hid (∀W bx u a2,VC S1 a2->Sep w0 W (aF f q p S1 a2:: .box bx 129 (aN y u)::aS u (eB l)::R)->
   Calls Tryz.prog 100 #[pV f,iV dir,fM y u] W fun e w'=>e= .returned (.tuple #[])/\∃a',VC (S1.keep dir y) a'/\Sep w0 w' (aF f q p (S1.keep dir y) a':: .box bx 129 (aN y u)::aS u (eB l)::R)):=Lh fun W bx u a2 kK hS=>
   uV kK hF1 (by rw[hn1];exact ZA) hyo (by rw[hi0];exact hok) hW1 (jF 1 (by rw[hy];rfl)) hS
  have hst:Hid (∀W bx u a2,VC (S1.keep dir y) a2->Sep w0 W (aF f q p (S1.keep dir y) a2:: .box bx 129 (aN y u)::aS u (eB l)::R)->
   Calls Tryz.prog 179 #[pV f,fM y u,iV x.size,aC name,iV n] W fun e w'=>e= .returned (.tuple #[])/\∃a',VC ((S1.keep dir y).iD s x.size name n) a'/\Sep w0 w' (aF f q p ((S1.keep dir y).iD s x.size name n) a'::R)):=Lh fun W bx u a2 kK hS=>by
   refine(Y7 kK hF1.keep (jF (l:=y.aB) 1 (by rw[hy];rfl)) (i:=x.size) (s:=s) (by rw[hy];exact hsl) (by have:=hlt s (gG hsl);rw[<-hk1.count]at this;exact this) hyo.few hname hn hS).mono ?_
   rintro e w' ⟨rfl,a',h5,h6⟩
   have h7:Sep w0 w' (.box bx 129 (aN y u)::aS u (eB l)::aF f q p ((S1.keep dir y).iD s x.size name n) a'::R):=Sep.dB [1,2,0] h6 aR bK
   exact⟨rfl,a',h5,h7.drop 2⟩
  (have hyc:Hid (∀W As bx u,As[1]? =some (.box bx 129 (aN y u))->Sep w0 W As->W.cell? ⟨bx,0,none⟩=some (iV (x.kind:Nat))/\W.cell? ⟨bx,1,none⟩=some (iV (x.mode:Nat))/\W.cell? ⟨bx,2,none⟩=some (iV (x.links:Nat))/\W.cell? ⟨bx,3,none⟩=some (iV ((x.size:Int)+1))/\W.cell? ⟨bx,4,none⟩=some u):=Lh fun W As bx u hi hS=>by have:=hS.dL 1 hi;rw[hy]at this;exact this);(have hyv:Hid (∀u,fM y u= .agg #[iV (x.kind:Nat),iV (x.mode:Nat),iV (x.links:Nat),iV ((x.size:Int)+1),u]):=Lh fun u=>by rw[hy];rfl);clear hC hF ZA hok hsp hsz hW hnd h hx hxo hm av3 hS0 hL0 hft hfp hres hname hn hnd' hU hk1 hlt hi0 hyo hil hs hsl hF1 hn1 hW1;clear hy;unfold aC at*;unfold fM at hin;go_enter Tryz.func125,Tryz.ntmps125;go_wp2_with(first |(go_at_call 72;refine hin.mono ?_;rintro e w9 ⟨v,a1,rfl,hR,h9⟩;(obtain⟨A9,c9,e9⟩:=h9.dV 0 rfl);subst e9;(have hs:Sep w0 (w9.alloc (.cells #[iV (x.kind:Nat),iV (x.mode:Nat),iV (x.links:Nat),iV ((x.size:Int)+1),.slice A9 (eB x.aB).length c9] 129)) (.box w9.heap.size 129 (aN {x with size:=x.size+1} (.slice A9 (eB x.aB).length c9))::aS (.slice A9 (eB x.aB).length c9) (eB x.aB)::aF f q p S a1::R):=h9.bN 129 _);(obtain⟨⟨k6,f6⟩,hs3⟩:=PL.out _ _ _ (Sep.dB [2,0,1] hs aR bK));(have k3:=(hs3.drew.dL 1 rfl).2.2.2.1);(have al6:=PI.out _ _ _ _ hR.ok hs3.drew);replace hs3:=Lh hs3;clear hs h9 hR hin PL PI;unfold aN at al6 ⊢));rw[e1]at k3;refine aP (S:=fun w'=>w'.cell? ⟨w9.heap.size,3,none⟩=some (iV ((x.size:Int)+1))) 7 ?_;refine aA 0 k3 ?_;refine aA 1 k3 ?_;refine aA 2 k3 ?_;refine aA 3 k3 ?_;refine aA 4 k3 ?_;(refine bI 5 fun K hK=>?_);go_simp;go_at_call 95;refine(hpt _).mono ?_;rintro e w8 ⟨rfl,h8⟩;obtain rfl:=h8.symm;dsimp only;refine hK _ _ (fun _=>k3) ?_;clear hK K;(try simp only[Act.put,gD]);(refine bI 6 fun K hK=>?_);go_simp;go_at_call 99;refine al6.mono ?_;rintro e w7 ⟨rfl,a2,A7,c7,hC2,h7⟩;have k4:=hyc.out _ _ _ _ rfl h7;have k5:w7.cell? ⟨w9.heap.size,3,none⟩=some (iV ((x.size:Int)+1)):=k4.2.2.2.1;have sS:=hkp.out _ _ _ _ hC2 h7.drew;rw[hyv.out]at sS;replace h7:=Lh h7;clear al6 hC2 hkp k3;dsimp only;refine hK _ _ (fun _=>k5) ?_;clear hK K;(try simp only[Act.put,gD]);refine aQ fE ?_ _;clear k5;go_wp2_with fail;refine aP (S:=fun w'=>w'.cell? ⟨w9.heap.size,0,none⟩=some (iV (x.kind:Nat))/\w'.cell? ⟨w9.heap.size,1,none⟩=some (iV (x.mode:Nat))/\w'.cell? ⟨w9.heap.size,2,none⟩=some (iV (x.links:Nat))/\w'.cell? ⟨w9.heap.size,3,none⟩=some (iV ((x.size:Int)+1))/\w'.cell? ⟨w9.heap.size,4,none⟩=some (.slice A7 m c7)) 6 ?_;(have k4':=show w7.drew.cell? ⟨w9.heap.size,0,none⟩=some (iV (x.kind:Nat))/\w7.drew.cell? ⟨w9.heap.size,1,none⟩=some (iV (x.mode:Nat))/\w7.drew.cell? ⟨w9.heap.size,2,none⟩=some (iV (x.links:Nat))/\w7.drew.cell? ⟨w9.heap.size,3,none⟩=some (iV ((x.size:Int)+1))/\w7.drew.cell? ⟨w9.heap.size,4,none⟩=some (.slice A7 m c7)from k4);refine aA 0 k4' ?_;refine aA 1 k4' ?_;refine aA 2 k4' ?_;refine aA 3 k4' ?_;refine aA 4 k4' ?_;(refine bI 5 fun K hK=>?_);go_simp;go_at_call 100;refine sS.mono ?_;rintro e w6 ⟨rfl,a3,ZB,h6⟩;have k6':=hyc.out _ _ _ _ rfl h6;have aDI:=hst.out _ _ _ _ ZB h6;rw[hyv.out]at aDI;clear k4 k4' sS h7 ZB h6 hst;dsimp only;refine hK _ _ (fun _=>k6') ?_;clear hK K;(try simp only[Act.put,gD]);refine aQ fE ?_ _;obtain⟨d0,d1,d2,d3,d4⟩:=k6';go_wp2_with(go_at_call 179;refine aDI.mono ?_;rintro e w5 ⟨rfl,h5⟩;replace h5:=Lh h5)
  go_end0
  unfold fQ;exact⟨rfl,h5.out⟩
end
end Go.Proofs.YtmjomdkleikgbaaGreat
