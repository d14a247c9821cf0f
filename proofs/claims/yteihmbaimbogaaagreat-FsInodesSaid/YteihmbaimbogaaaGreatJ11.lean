/- Parts. -/
import Derived.Test.YteihmbaimbogaaaGreatJ10
set_option linter.unusedVariables false
set_option linter.unusedSimpArgs false
set_option maxRecDepth 100000
set_option maxHeartbeats 20000000
namespace Go.Proofs.YteihmbaimbogaaaGreat
open Go.RowKit
theorem OG :∀(k:Nat) (S:VS) (l:List Nat),(o6 k S l).1.count=S.count
 |0,_,_=>rfl
 |k+1,S,l=>(OG k _ _).trans rfl
theorem asA :∀(k:Nat) (S:VS) (l:List Nat) {S1:VS} {l1:List Nat},QB k S l=some (S1,l1)->(∀s∈l,s<S.count)->∀s∈l1,s<S.count
 |0,S,l,S1,l1,h,hl=>by cases h;exact hl
 |k+1,S,l,S1,l1,h,hl=>by
  unfold QB at h;split at h
  ·cases h
  rename_i j hj;have h1:=asA k (S.put 1 (mI (bk S.cur 1) j)) (l++[j]) h;refine h1 (fun s hs=>?_);rcases gX.1 hs with hs|hs
  ·exact hl s hs
  rw[BB]at hs;subst hs;exact(BI hj).1
theorem aa9 {S S1:VS} {l l1:List Nat} {n:Nat} (h:lD S l n=some (S1,l1)) (hl:∀s∈l,s<S.count):∀s∈l1,s<S.count:=by
 unfold lD at h;have h1:=asA _ _ _ h;rw[OG]at h1;refine h1 fun s hs=>hl s ?_
 rw[wO]at hs;exact MP hs
theorem tL {S S1:VS} {l l1:List Nat} {n:Nat} (h:lD S l n=some (S1,l1)):gI S S1:=by
 have hd:∀(k:Nat) (S:VS) (l:List Nat),gI S (o6 k S l).1:=fun k=>by
  induction k with
  |zero=>exact fun S l=>.refl S
  |succ k ih=>exact fun S l=>((gI.refl S).put 1 _).trans (ih _ _)
 have hu:∀(k:Nat) (S:VS) (l:List Nat) {S1:VS} {l1:List Nat},QB k S l=some (S1,l1)->gI S S1:=fun k=>by
  induction k with
  |zero=>intro S l S1 l1 h;cases h;exact .refl S
  |succ k ih=>
   intro S l S1 l1 h;unfold QB at h;split at h
   ·cases h
   exact((gI.refl S).put 1 _).trans (ih _ _ h)
 unfold lD at h;exact(hd _ _ _).trans (hu _ _ _ h)
def kK (bs:List UInt8) (k:Nat):List UInt8:=dQ cZ 0 ((bs.drop (512*k)).take 512)
theorem BJ (bs:List UInt8) (k:Nat):(kK bs k).length=512:=by unfold kK;rw[fK,eT];rw[eT,tF];omega
def nN (bs:List UInt8):List Nat->Nat->VS->VS
 |[],_,S=>S
 |s::l,k,S=>nN bs l (k+1) (S.put (S.data+s) (kK bs k))
def jI (S:VS) (n:Nat) (bs:List UInt8):Option VS:=
 match lD S (aH S.cur n).aB ((bs.length+511)/512)with
 |none=>none
 |some (S1,l)=>some ((nN bs l 0 S1).keep n {aH S.cur n with size:=bs.length,aB:=l})
structure Laid (S S':VS) (k:Nat):Prop where
 like:gI S S'
 wB:S'.wB=S.wB
 wI:S'.wI=S.wI
 nodes:S'.nodes=S.nodes
 blk:∀j,j<S.data->bk S'.cur j=bk S.cur j
 m:S'.m=S.m+k
theorem Laid.refl (S:VS):Laid S S 0:=⟨.refl S,rfl,rfl,rfl,fun _ _=>rfl,rfl⟩
theorem gI.data {S T:VS} (h:gI S T):T.data=S.data:=by unfold VS.data;rw[h.names]
theorem Laid.put {S T:VS} {k:Nat} (h:Laid S T k) (s:Nat) (bs:List UInt8):Laid S (T.put (T.data+s) bs) (k+1):=
 ⟨h.like.put _ _,h.wB,h.wI,h.nodes,fun j hj=>(dN _ _ (by rw[h.like.data];omega)).trans (h.blk j hj),by show T.m+1=_;rw[h.m];omega⟩
theorem Laid.trans {S T U:VS} {i j:Nat} (h:Laid S T i) (g:Laid T U j):Laid S U (i+j):=
 ⟨h.like.trans g.like,g.wB.trans h.wB,g.wI.trans h.wI,g.nodes.trans h.nodes,fun k hk=>(g.blk k (by rw[h.like.data];exact hk)).trans (h.blk k hk),by rw[g.m,h.m];omega⟩
theorem qI (bs:List UInt8):∀(l:List Nat) (k:Nat) (S:VS),Laid S (nN bs l k S) l.length
 |[],_,S=>.refl S
 |s::l,k,S=>by have h:=(Laid.put (.refl S) s (kK bs k)).trans (qI bs l (k+1) _);rw[nV,show l.length+1=0+1+l.length by omega];exact h
theorem Laid.ino {S T:VS} {k:Nat} (h:Laid S T k) {n:Nat} (hn:n<S.names):aH T.cur n=aH S.cur n:=by unfold aH;rw[h.blk _ (by unfold VS.data;omega)]
def fD (f q p:Nat) (S:VS) (r:Option VS) (w0:World) (R:List bK) (e:Ending) (w':World):Prop:=
 match r with
 |some S1=>e= .returned (.tuple #[])/\∃a1,VC S1 a1/\Sep w0 w' (aF f q p S1 a1::R)
 |none=>e= .panicked (gJ 27)/\∃S1 a1,gI S S1/\VC S1 a1/\Sep w0 w' (aF f q p S1 a1::R)
theorem MW {b:List UInt8} (h:(FY b).aB.length<=28):(FY b).ok:=
 ⟨(b.getD 0 0).toNat_lt,YU _ _,YU _ _,YU _ _,h,fun k hk=>by unfold FY at hk;obtain⟨j,_,rfl⟩:=List.mem_map.1 hk;exact YU _ _⟩
structure asB (f q p:Nat) (S1:VS) (bs:List UInt8) (l:List Nat) (k:Nat) (w0 wr:World) (R:List bK) (T:VS) (a:VA):Prop where
 eq:nN bs (l.drop k) k T=nN bs l 0 S1
 like:gI S1 T
 ok:VC T a
 sep:Sep w0 wr (aF f q p T a::R)
section
variable {w0 w:World} {R:List bK} {f q p:Nat} {S:VS} {a:VA}
theorem Sep.abA (h:Sep w0 w (aF f q p S a::R)) (hC:VC S a) (k:Nat):Sep w0 w (DV f q p S a k::R):=by
 cases hf:dV a.FM k with
 |some x=>have hx:=(hC.fresh _ (nC hf)).2;have h1:EC f q p S a k x.1 w0 w R:=.inl ⟨by rw[hf,<-hx],h⟩;exact h1.out.drop 1
 |none=>have h1:=h.bE;have h2:Sep w0 w (jJ a.fb a.FM::l7 f q S a.sb (.map (some a.fb)) false::aG q p false::aN p S.D::fH a.sb a.SM::R):=Sep.dE [4,0,1,2,3] h1 aQ (by simp[pK]);have h3:=h2.KJ hf;have h4:Sep w0 w ([l7 f q S a.sb (.map (some a.fb)) false,aG q p false,aN p S.D,fH a.sb a.SM,XF a.fb a.FM k]++R):=Sep.dE [1,2,3,4,0] h3 aQ bM;exact h4.dG
theorem aeO {n:Nat} {v:Value} {bs:List UInt8} (hC:VC S a) (hF:VF S) (hn:n<S.names) (hok:(aH S.cur n).aB.length<=28) (hsp:∀s∈(aH S.cur n).aB,s<S.count) (hW:gM S) (hbs:bs.length<=8192) (hv:jB w0 R v bs) (h:Sep w0 w (aF f q p S a::R)):
  Calls Tryz.prog 67 #[pV f,iV n,v] w (fD f q p S (jI S n bs) w0 R):=by
 have hin:=jM hC hF hn hok h;obtain⟨x,hx⟩:∃x,x=aH S.cur n:=⟨_,rfl⟩;obtain⟨L,hL⟩:∃L,L=bs.length:=⟨_,rfl⟩;obtain⟨m,hm⟩:∃m,m=(L+511)/512:=⟨_,rfl⟩;have hxo:x.ok:=by rw[hx];exact MW (by have:=hok;unfold aH at this;exact this)
 have aMP:m<=16:=by rw[hm];omega
 obtain⟨A0,c0,hv0⟩:∃A c,v= .slice A L c:=by obtain⟨_,A,c,e,_⟩:=hv w [_] h;exact⟨A,c,by rw[e,hL]⟩
 have hpt:=fun w=>zM (n:=L) (by':=512) aD aD aD w
 rw[show L+512-1=L+511 by omega,<-hm]at hpt;have hft:Hid (∀W bx u a1,Reads S a a1->Sep w0 W (aF f q p S a1:: .box bx 118 (aO x u)::bA u (fB x.aB)::R)->
   Calls Tryz.prog 89 #[pV f,pV bx,iV m] W (rO f q p S x m bx w0 R)):=Lh fun W bx u a1 hR hS=>
  BK (n:=m) hR.ok hF (by rw[hx];exact hok) aD (by rw[hx];exact hsp) hS
 have hno:Hid (lD S x.aB m=none->jI S n bs=none):=Lh fun h1=>by unfold jI;rw[<-hx,<-hL,<-hm,h1]
 have asC:Hid (∀S1 l,lD S x.aB m=some (S1,l)->jI S n bs=some ((nN bs l 0 S1).keep n {x with size:=L,aB:=l})/\l.length=m/\gI S S1/\(∀s∈l,s<S.count)/\({x with size:=L,aB:=l}:VI).ok/\
   ∀T W bx u a1,T=nN bs l 0 S1->VC T a1->Sep w0 W (aF f q p T a1:: .box bx 118 (aO {x with size:=L,aB:=l} u)::bA u (fB l)::R)->
    Calls Tryz.prog 90 #[pV f,iV n,gK {x with size:=L,aB:=l} u] W fun e w'=>e= .returned (.tuple #[])/\∃a',VC (T.keep n {x with size:=L,aB:=l}) a'/\Sep w0 w' (aF f q p (T.keep n {x with size:=L,aB:=l}) a'::R)):=Lh fun S1 l h1=>by
  have hU:=kF h1
  have hk:=tL h1
  have hlt:=aa9 h1 (by rw[hx];exact hsp)
  have aGK:({x with size:=L,aB:=l}:VI).ok:=⟨hxo.kind,hxo.mode,hxo.links,by show L<65536;omega,by show l.length<=28;rw[hU.2];omega,fun s hs=>by have h2:=hlt s hs;have h3:=hC.pI.few;unfold VS.count at h2;omega⟩
  refine⟨by unfold jI;rw[<-hx,<-hL,<-hm,h1],hU.2,hk,hlt,aGK,fun T W bx u a1 hT lU hS=>?_⟩
  have hLd:=qI bs l 0 S1
  rw[<-hT]at hLd
  have hi:aH T.cur n=x:=by rw[hLd.ino (by rw[hk.names];exact hn),hU.1.ino,hx]
  have hS2:Sep w0 W (aF f q p T a1::bA u (fB l):: .box bx 118 (aO {x with size:=L,aB:=l} u)::R):=Sep.dE [0,2,1] hS aQ bM
  have hrow:CW w0 (bA u (fB l):: .box bx 118 (aO {x with size:=L,aB:=l} u)::R) u l:=fun w' X hX=>by have:=hX.rd (X.length) (by rw[D6 (jL _),oO];rfl);unfold fB at this;rw[kV]at this;exact this
  refine(wP (x:= {x with size:=L,aB:=l}) lU ((hk.trans hLd.like).vf hF) (by rw[(hk.trans hLd.like).names];exact hn) aGK (by rw[hi,hx];exact hok) ⟨by rw[hLd.wB,hU.1.wB];exact hW.b0,by rw[hLd.wB,hU.1.wB];exact hW.b1,by rw[hLd.wI,hU.1.wI];exact hW.i0,by rw[hLd.wI,hU.1.wI];exact hW.i1⟩ hrow hS2).mono ?_
  rintro e w' ⟨rfl,a',h5,h6⟩
  have h7:Sep w0 w' (bA u (fB l):: .box bx 118 (aO {x with size:=L,aB:=l} u)::aF f q p (T.keep n {x with size:=L,aB:=l}) a'::R):=Sep.dE [1,2,0] h6 aQ bM
  exact⟨rfl,a',h5,h7.drop 2⟩
 rw[<-hx]at hin;have hF':=Lh hF;have hv':=Lh hv;have hL':=Lh hL;have hm':=Lh hm;have L1:(L:Int)<=8192:=by omega
 have L0:(0:Int)<=L:=by omega
 have m1:(m:Int)<=16:=by omega
 obtain⟨k0,gN,hk0,hk1,hk2⟩:=lM nX;subst hv0;clear hC hF hn hok hsp hW hbs hv h hx hxo hL hm aMP;unfold gK at hin;cases hfp:lD S x.aB m with
 |none=>
  have RL:Hid (∀W bx u a1,Reads S a a1->Sep w0 W (aF f q p S a1:: .box bx 118 (aO x u)::bA u (fB x.aB)::R)->
   Calls Tryz.prog 89 #[pV f,pV bx,iV m] W fun e w'=>e= .panicked (gJ 27)/\∃S1 a1,gI S S1/\VC S1 a1/\Sep w0 w' (aF f q p S1 a1::R)):=Lh fun W bx u a1 hR hS=>by
   have:=hft.out W bx u a1 hR hS
   unfold rO at this
   rw[hfp]at this
   exact this
  rw[hno.out hfp];clear hft asC hno hfp;go_enter Tryz.func67,Tryz.ntmps67;go_wp2_with(first |(go_at_call 64;refine hin.mono ?_;rintro e w9 ⟨v,a1,rfl,hR,h9⟩;obtain⟨A9,c9,e9⟩:=h9.eF 0 rfl;subst e9;have hs:=h9.bN 118 (aO x (.slice A9 (fB x.aB).length c9));have JC:=RL.out _ _ _ _ hR (Sep.dE [2,0,1] hs aQ bM);clear hs h9 hR hin RL;unfold aO at*)|(go_at_call 85;refine(hpt _).mono ?_;rintro e w9b ⟨rfl,h9b⟩;obtain rfl:=h9b.symm;clear hpt)|(go_at_call 89;refine JC.mono ?_;rintro e w8 ⟨rfl,hend⟩;replace hend:=Lh hend;clear JC));unfold fD;exact⟨rfl,rfl,hend.out⟩
 |some r=>
  obtain⟨S1,l⟩:=r;obtain⟨y1,y2,y3,y4,y5,y6⟩:=asC.out S1 l hfp;have RL:Hid (∀W bx u a1,Reads S a a1->Sep w0 W (aF f q p S a1:: .box bx 118 (aO x u)::bA u (fB x.aB)::R)->
   Calls Tryz.prog 89 #[pV f,pV bx,iV m] W fun e w'=>e= .returned (.tuple #[])/\∃a1 A c,VC S1 a1/\Sep w0 w' (aF f q p S1 a1:: .box bx 118 (aO x (.slice A m c))::bA (.slice A m c) (fB l)::R)):=Lh fun W bx u a1 hR hS=>by
   refine(hft.out W bx u a1 hR hS).mono ?_
   intro e w' ho
   unfold rO at ho
   rw[hfp]at ho
   obtain⟨rfl,a2,v2,_,h2,h3⟩:=ho
   obtain⟨A,c,e⟩:=h3.eF 2 rfl
   have hl:(fB l).length=m:=by unfold fB;rw[kV];exact y2
   rw[hl]at e
   subst e
   exact⟨rfl,a2,A,c,h2,h3⟩
  rw[y1];have y2':=Lh y2;have y3':=Lh y3;have y4':=Lh y4;have y6':=Lh y6;clear hft asC hno hfp y1 y2 y3 y4 y5 y6;go_enter Tryz.func67,Tryz.ntmps67;go_wp2_with(first |(go_at_call 64;refine hin.mono ?_;rintro e w9 ⟨v,a1,rfl,hR,h9⟩;obtain⟨A9,c9,e9⟩:=h9.eF 0 rfl;subst e9;have hs:=h9.bN 118 (aO x (.slice A9 (fB x.aB).length c9));have JC:=RL.out _ _ _ _ hR (Sep.dE [2,0,1] hs aQ bM);clear hs h9 hR hin RL;unfold aO at*)|(go_at_call 85;refine(hpt _).mono ?_;rintro e w9b ⟨rfl,h9b⟩;obtain rfl:=h9b.symm;clear hpt)|(go_at_call 89;refine JC.mono ?_;rintro e w8 ⟨rfl,a2,A8,c8,hC2,h8⟩;(have b3:w8.cell? ⟨w9.heap.size,3,none⟩=some (iV (x.size:Nat)):=h8.bC 1 rfl 3);(have f3:=h8.bF 1 rfl 3);(have h8s:=h8.bS 1 rfl 3 (.int .i64 (L:Nat)));(have b4:(w8.setCell ⟨w9.heap.size,3,none⟩ (.int .i64 (L:Nat))).cell? ⟨w9.heap.size,4,none⟩=some (.slice A8 m c8):=h8s.bC 1 rfl 4);replace h8s:=Lh h8s;replace hC2:=Lh hC2;clear JC h8));have hI0:Hid (∃T a',asB f q p S1 bs l 0 w0 (w8.setCell ⟨w9.heap.size,3,none⟩ (.int .i64 (L:Nat))) (.box w9.heap.size 118 (aO {x with size:=L,aB:=l} (.slice A8 m c8))::bA (.slice A8 m c8) (fB l)::R) T a'):=Lh ⟨S1,a2,rfl,.refl _,hC2.out,h8s.out⟩;obtain⟨bx,hbx⟩:∃bx,bx=w9.heap.size:=⟨_,rfl⟩;rw[<-hbx]at hI0 b4 ⊢;clear h8s hC2 b4 b3 f3 hbx;go_loopw[24] (fun i wr=>∃k:Nat,k<=m/\i=iV k/\Hid (∃T a',asB f q p S1 bs l k w0 wr (.box bx 118 (aO {x with size:=L,aB:=l} (.slice A8 m c8))::bA (.slice A8 m c8) (fB l)::R) T a')) (fun i _=>m-(intOf i).toNat)
  case atStart=>exact⟨0,iF _,rfl,hI0⟩
  obtain⟨k,hk,rfl,hI⟩:=hrel;clear hI0;obtain⟨T,a3,hT⟩:=hI.out;clear hI;by_cases hlt:k<m
  ·(have hll:(fB l).length=m:=by unfold fB;rw[kV];exact y2'.out);(have hlx:k<l.length:=by rw[y2'.out];exact hlt);obtain⟨s,hs⟩:∃s,s=l[k]:=⟨_,rfl⟩;(have hsk:l[k]? =some s:=by rw[gE hlx,hs]);have hsc:s<S.count:=y4'.out s (by rw[hs];exact tK hlx);(have hcj:∃ad,A8=some ad/\wr.cell? (ad.add k)=some (iV (s:Nat)):=by obtain⟨ad,c8,u9,e,h1,h2⟩:=Rd.at_ (hT.sep.rd 2 rfl) (k:=k) (by rw[hll];exact hlt);exact Z60);obtain⟨ad,rfl,hcj⟩:=hcj;(have hkL:512*k<L:=by have:=hm'.out;omega);obtain⟨o,ho⟩:∃o,o=k*512:=⟨_,rfl⟩
   --the new block
   have hmk:(Instr.makeSlice 35 (.int .i64 512) (.int .i64 512)).run Tryz.prog wr= .ok (sV wr.heap.size 512 512) (wr.alloc (.cells (madeCells #[.int .u8 0] 512) 5)):=qG (P:=Tryz.prog) 35 5 k0 (.int .u8 0) 1 Tryz.underlying35 gN hk0 hk1 hk2 rfl .i64 .i64 512 aD oH wr;have hS1:=hT.sep.made 5 (.int .u8 0) 512 oH;have hby:=hv'.out.now (X:=[_,_,_,_]) hS1;(obtain⟨ad0,rfl,hsub⟩:∃ad0,A0=some ad0/\BytesAt (wr.alloc (.cells (madeCells #[.int .u8 0] 512) 5)) (.slice (some (ad0.add o)) (L-o) (c0-o)) ((bs.drop o).take (L-o)):=by obtain⟨ad0,e,_⟩:=hby.byte (j:=0) (by rw[<-hL'.out];omega);subst e;exact⟨ad0,rfl,hby.sub (by rw[<-hL'.out];omega)⟩);(have hsl:((bs.drop o).take (L-o)).length=L-o:=by rw[tF,pU,<-hL'.out];omega);obtain⟨w7,hcp,mJ,hz7⟩:=hS1.aeP (P:=Tryz.prog) 0 rfl 35 35 3 Tryz.underlying35 zL 0 512 512 (.slice (some (ad0.add o)) (L-o) (c0-o)) (L-o) (((bs.drop o).take (L-o)).map mR) (by unfold BytesAt at hsub;rw[hsl]at hsub;exact hsub) vJ aD;have hch:qH (List.replicate 512 (Value.int .u8 0)) 0 ((((bs.drop o).take (L-o)).map mR).take (min (L-o) 512))=(kK bs k).map mR:=by
    rw[<-FZ,<-YM,<-EA];unfold kK;congr 1;unfold dQ qH;have e:((bs.drop o).take (L-o)).take (min (L-o) 512)=(bs.drop (512*k)).take 512:=by
     rw[List.take_take,ho,Nat.mul_comm];apply DN;intro j;rw[vI,vI];by_cases hj:j<512
     ·by_cases hj2:j<L-512*k
      ·rw[if_pos aD,if_pos hj]
      rw[if_neg aD,if_pos hj,zD,D7 (by rw[<-hL'.out];omega)]
     rw[if_neg aD,if_neg hj]
    rw[e]
   (have vD:Sep w0 w7 (aL (sV wr.heap.size 512 512) (kK bs k)::aF f q p T a3:: .box bx 118 (aO {x with size:=L,aB:=l} (.slice (some ad) m c8))::bA (.slice (some ad) m c8) (fB l)::R):=by rw[dB (BJ bs k),<-hch];exact mJ);have hV:Sep w0 w7.drew (aF f q p T a3::aL (sV wr.heap.size 512 512) (kK bs k):: .box bx 118 (aO {x with size:=L,aB:=l} (.slice (some ad) m c8))::bA (.slice (some ad) m c8) (fB l)::R):=(vD.perm (List.Perm.swap _ _ _)).drew;have hLk:=y3'.out.trans hT.like;have hF2:=hLk.vf hF'.out;have OE:=D8 hT.ok hF2 hV.gL.c3;(have hbound:T.data+s<T.nb-96:=by rw[<-hLk.count]at hsc;unfold VS.count at hsc;omega);(have hd4:(T.data+s:Nat)<=4096:=by have:=hT.ok.pI.few;omega);have hpu:=BH (v:=sV wr.heap.size 512 512) (bs:=kK bs k) hT.ok hbound ((hV.abA hT.ok (T.data+s)).perm (List.Perm.swap _ _ _));have hnx:asB f q p S1 bs l (k+1) w0 w7 R (T.put (T.data+s) (kK bs k)) (a3.put (T.data+s) (sV wr.heap.size 512 512) (kK bs k))\/True:=.inr trivial;(have heq:nN bs (l.drop (k+1)) (k+1) (T.put (T.data+s) (kK bs k))=nN bs l 0 S1:=by rw[<-hT.eq,WX hlx,<-hs];rfl);have WH:=hT.ok.put (sV wr.heap.size 512 512) hbound (BJ bs k);have hL4:=hT.like.put (T.data+s) (kK bs k);obtain⟨d,hd⟩:∃d,d=T.data:=⟨_,rfl⟩;rw[<-hd]at OE hd4 hpu WH hL4 heq;rw[show((d+s:Nat):Int)=(d:Int)+s by omega]at hpu;(have q1:(k:Int)<m:=by omega);(have q0:(0:Int)<=k:=by omega);(have q2:(k:Int)*512<=L:=by omega);have q3:IntKind.i64.wrap ((d:Int)+s)=d+s:=IntWalk.i64_in _ aD;(have q6:¬c0=k*512:=by obtain⟨_,A,c,e,h1,_⟩:=hby;cases e;have:=hL'.out;omega);(have q5:(L:Int)<=c0:=by obtain⟨_,A,c,e,h1,_⟩:=hby;cases e;have:=hL'.out;omega);replace WH:=Lh WH;replace hL4:=Lh hL4;replace heq:=Lh heq;replace OE:=Lh OE;replace hpu:=Lh hpu;subst ho;clear hT hll hlx hs hsk hsc hkL hS1 hby hsub hsl mJ hch vD hV hLk hF2 hbound hd4 hd hnx hz7;have hds:Hid (d=d):=Lh rfl;go_wp2_with fail;refine aJ (S:=fun _=>True) 11 ?_;refine aA 0 trivial ?_;refine aA 1 trivial ?_;refine aA 2 trivial ?_;refine aA 3 trivial ?_;refine aA 4 trivial ?_;refine aA 5 trivial ?_;refine aA 7 trivial ?_;refine aA 9 trivial ?_;(refine bG 6 fun K hK=>?_);go_simp;go_at_call 120;refine OE.out.mono ?_;rintro e w6 ⟨rfl,h6⟩;obtain rfl:=h6.symm;dsimp only;refine hK _ _ (fun _=>trivial) ?_;clear hK K;(try simp only[Act.put,gD]);refine aW 8 (fun _=>trivial) ?_;(refine bG 10 fun K hK=>?_);go_simp;go_at_call 88;refine hpu.out.mono ?_;rintro e w5 ⟨rfl,h5⟩;replace h5:=Lh h5;dsimp only;refine hK _ _ (fun _=>trivial) ?_;clear hK K;(try simp only[Act.put,gD]);refine aR fZ ?_ _;go_wp2_with fail;exact⟨⟨k+1,by omega,rfl,Lh ⟨_,_,heq.out,hL4.out,WH.out,h5.out⟩⟩,by simp[intOf];omega⟩
  (obtain rfl:k=m:=by omega);have e1:=hT.eq;rw[List.drop_of_length_le (by rw[y2'.out];exact jL _)]at e1;have e2:T=nN bs l 0 S1:=e1;(have c:=fun j=>hT.sep.bC 1 rfl j);have c0':wr.cell? ⟨bx,0,none⟩=some (iV (x.kind:Nat)):=c 0;have c1':wr.cell? ⟨bx,1,none⟩=some (iV (x.mode:Nat)):=c 1;have c2':wr.cell? ⟨bx,2,none⟩=some (iV (x.links:Nat)):=c 2;have c3':wr.cell? ⟨bx,3,none⟩=some (iV (L:Nat)):=c 3;have c4':wr.cell? ⟨bx,4,none⟩=some (.slice A8 k c8):=c 4;have hkp:=y6'.out T wr bx _ a3 e2 hT.ok hT.sep;unfold gK aO at hkp;have e2':=Lh e2;clear hT e1 e2 c;go_wp2_with(go_at_call 90;refine hkp.mono ?_;rintro e w5 ⟨rfl,h5⟩;replace h5:=Lh h5)
  go_end0
  rw[e2'.out]at h5;unfold fD;exact⟨rfl,h5.out⟩
end
def VS.node (S:VS) (z:Int):VS:= {S with nodes:=z}
def iN (S:VS) (dir:Nat) (name:List UInt8) (n:Nat):Option VS:=
 match lD (S.node (S.nodes+1)) (aH S.cur dir).aB (((aH S.cur dir).size+16)/16)with
 |none=>none
 |some (S1,l)=>some ((S1.keep dir {aH S.cur dir with size:=(aH S.cur dir).size+1,aB:=l}).jA (l.getD ((aH S.cur dir).size/16) 0) (aH S.cur dir).size name n)
theorem kL {w0:World} {R:List bK} {v:Value} {l:List Nat} (i:Nat) (h:R[i]? =some (bA v (fB l))):CW w0 R v l:=fun w' X hX=>by have:=hX.rd (X.length+i) ((D6 aD).trans (by rw[PN];exact h));unfold fB at this;rw[kV]at this;exact this
section
variable {w0 w:World} {R:List bK} {f q p:Nat} {S:VS} {a:VA}
theorem VC.node (h:VC S a) (z:Int):VC (S.node z) a:=⟨h.pI,h.big,h.on,h.cur,h.seen,h.fresh,h.rest,h.few,h.none⟩
theorem VF.node (h:VF S) (z:Int):VF (S.node z):=⟨h.names,h.room⟩
theorem Sep.aeR (h:Sep w0 w (aF f q p S a::R)) (z:Int):Sep w0 (w.setCell ⟨f,6,none⟩ (.int .i64 z)) (aF f q p (S.node z) a::R):=by have h1:=h.bE.bS 0 rfl 6 (.int .i64 z);have h2:Sep w0 (w.setCell ⟨f,6,none⟩ (.int .i64 z)) (pK f q p (S.node z) a++R):=h1;exact h2.dG
theorem Sep.RN (h:Sep w0 w (aF f q p S a::R)) (j:Nat):w.frozen? ⟨f,j,none⟩=false:=h.bE.bF 0 rfl j
theorem Sep.dR {As:List bK} {b:Nat} {x:VI} {v:Value} (i:Nat) (h:Sep w0 w As) (hi:As[i]? =some (.box b 118 (aO x v))):
  w.cell? ⟨b,0,none⟩=some (iV (x.kind:Nat))/\w.cell? ⟨b,1,none⟩=some (iV (x.mode:Nat))/\w.cell? ⟨b,2,none⟩=some (iV (x.links:Nat))/\w.cell? ⟨b,3,none⟩=some (iV (x.size:Nat))/\w.cell? ⟨b,4,none⟩=some v:=by
 have z:=fun j=>h.bC i hi j
 exact⟨z 0,z 1,z 2,z 3,z 4⟩
theorem Used.small {T:VS} {k:Nat} (h:Used S T k) (hW:gM S):gM T:=⟨by rw[h.wB];exact hW.b0,by rw[h.wB];exact hW.b1,by rw[h.wI];exact hW.i0,by rw[h.wI];exact hW.i1⟩
theorem an1 {dir n:Nat} {name:List UInt8} (hC:VC S a) (hF:VF S) (abB:dir<S.names) (hok:(aH S.cur dir).aB.length<=28) (hsp:∀s∈(aH S.cur dir).aB,s<S.count) (hsz:(aH S.cur dir).size<448) (hW:gM S) (hnd: -1000000<=S.nodes/\S.nodes<=1000000) (hname:name.length<=15) (hn:n<=65535) (h:Sep w0 w (aF f q p S a::R)):
  Calls Tryz.prog 104 #[pV f,iV dir,aC name,iV n] w (fD f q p S (iN S dir name n) w0 R):=by
 have hin:=jM hC hF abB hok h;obtain⟨x,hx⟩:∃x,x=aH S.cur dir:=⟨_,rfl⟩;have hxo:x.ok:=by rw[hx];exact MW (by have:=hok;unfold aH at this;exact this)
 rw[<-hx]at hin hok hsp hsz;obtain⟨m,hm⟩:∃m,m=(x.size+16)/16:=⟨_,rfl⟩;have axX:m<=28:=by omega
 have hpt:=fun w=>zM (n:=x.size+1) (by':=16) aD aD aD w
 rw[show x.size+1+16-1=x.size+16 by omega,<-hm,show((x.size+1:Nat):Int)=(x.size:Int)+1 by omega]at hpt;obtain⟨S0,hS0⟩:∃S0,S0=S.node (S.nodes+1):=⟨_,rfl⟩;have hL0:gI S S0:=by rw[hS0];exact⟨rfl,rfl,rfl,rfl,rfl⟩
 have hft:Hid (∀W bx u a1,VC S a1->Sep w0 W (aF f q p S0 a1:: .box bx 118 (aO {x with size:=x.size+1} u)::bA u (fB x.aB)::R)->
   Calls Tryz.prog 89 #[pV f,pV bx,iV m] W (rO f q p S0 {x with size:=x.size+1} m bx w0 R)):=Lh fun W bx u a1 lU hS=>
  BK (x:= {x with size:=x.size+1}) (n:=m) (by rw[hS0];exact lU.node _) (by rw[hS0];exact hF.node _) hok axX (fun s hs=>by rw[hL0.count];exact hsp s hs) hS
 have RO:Hid (∀W a1 R',Sep w0 W (aF f q p S a1::R')->(W.cell? ⟨f,6,none⟩=some (iV S.nodes)/\W.frozen? ⟨f,6,none⟩=false)/\Sep w0 (W.setCell ⟨f,6,none⟩ (.int .i64 (S.nodes+1))) (aF f q p S0 a1::R')):=Lh fun W a1 R' hS=>⟨⟨hS.gL.c6,hS.RN 6⟩,by rw[hS0];exact hS.aeR _⟩
 obtain⟨nd,hnd'⟩:∃nd,nd=S.nodes:=⟨_,rfl⟩;rw[<-hnd']at hnd RO;have n1:=hnd.1;have n2:=hnd.2;have x1:(x.size:Int)<448:=by omega
 have x0:(0:Int)<=x.size:=by omega
 have e1:(((x.size+1:Nat)):Int)=(x.size:Int)+1:=by omega
 cases hfp:lD S0 x.aB m with
 |none=>
  (have hres:iN S dir name n=none:=by unfold iN;rw[<-hx,<-hm,<-hS0,hfp]);rw[hres];have RL:Hid (∀W bx u a1,VC S a1->Sep w0 W (aF f q p S0 a1:: .box bx 118 (aO {x with size:=x.size+1} u)::bA u (fB x.aB)::R)->
   Calls Tryz.prog 89 #[pV f,pV bx,iV m] W fun e w'=>e= .panicked (gJ 27)/\∃S1 a1,gI S S1/\VC S1 a1/\Sep w0 w' (aF f q p S1 a1::R)):=Lh fun W bx u a1 lU hS=>by
   refine(hft.out W bx u a1 lU hS).mono ?_
   intro e w' ho
   unfold rO at ho
   have mO:lD S0 ({x with size:=x.size+1}:VI).aB m=none:=hfp
   rw[mO]at ho
   obtain⟨rfl,S1,a1,g1,g2,g3⟩:=ho
   exact⟨rfl,S1,a1,hL0.trans g1,g2,g3⟩
  clear hC hF abB hok hsp hsz hW hnd h hx hxo hm axX hS0 hL0 hft hfp hres hname hn hnd';unfold gK aC at*;go_enter Tryz.func104,Tryz.ntmps104;go_wp2_with(first |(go_at_call 64;refine hin.mono ?_;rintro e w9 ⟨v,a1,rfl,hR,h9⟩;(obtain⟨A9,c9,e9⟩:=h9.eF 0 rfl);subst e9;(have hs:Sep w0 (w9.alloc (.cells #[iV (x.kind:Nat),iV (x.mode:Nat),iV (x.links:Nat),iV ((x.size:Int)+1),.slice A9 (fB x.aB).length c9] 118)) (.box w9.heap.size 118 (aO {x with size:=x.size+1} (.slice A9 (fB x.aB).length c9))::bA (.slice A9 (fB x.aB).length c9) (fB x.aB)::aF f q p S a1::R):=h9.bN 118 _);(obtain⟨⟨k6,f6⟩,hs3⟩:=RO.out _ _ _ (Sep.dE [2,0,1] hs aQ bM));(have k3:=(hs3.drew.dR 1 rfl).2.2.2.1);(have an2:=RL.out _ _ _ _ hR.ok hs3.drew);replace hs3:=Lh hs3;clear hs h9 hR hin RO RL;unfold aO at an2 ⊢));rw[e1]at k3;refine aJ (S:=fun w'=>w'.cell? ⟨w9.heap.size,3,none⟩=some (iV ((x.size:Int)+1))) 7 ?_;refine aA 0 k3 ?_;refine aA 1 k3 ?_;refine aA 2 k3 ?_;refine aA 3 k3 ?_;refine aA 4 k3 ?_;(refine bG 5 fun K hK=>?_);go_simp;go_at_call 85;refine(hpt _).mono ?_;rintro e w8 ⟨rfl,h8⟩;obtain rfl:=h8.symm;dsimp only;refine hK _ _ (fun _=>k3) ?_;clear hK K;(try simp only[Act.put,gD]);(refine bG 6 fun K hK=>?_);go_simp;go_at_call 89;refine an2.mono ?_;rintro e w7 ⟨rfl,hend⟩;exact⟨rfl,rfl,hend⟩
 |some r=>
  obtain⟨S1,l⟩:=r;have hU:=kF hfp;have hk1:=tL hfp;have hlt:=aa9 hfp (fun s hs=>by rw[hL0.count];exact hsp s hs);(have hi0:aH S1.cur dir=x:=by rw[hU.1.ino,hS0];exact hx.symm);obtain⟨y,hy⟩:∃y:VI,y= {x with size:=x.size+1,aB:=l}:=⟨_,rfl⟩;(have hyo:y.ok:=by rw[hy];exact⟨hxo.kind,hxo.mode,hxo.links,by show x.size+1<65536;omega,by show l.length<=28;rw[hU.2];exact axX,fun s hs=>by have h2:=hlt s hs;have h3:=hC.pI.few;rw[hL0.count]at h2;unfold VS.count at h2;omega⟩);(have hil:x.size/16<l.length:=by rw[hU.2,hm];omega);obtain⟨s,hs⟩:∃s,s=l.getD (x.size/16) 0:=⟨_,rfl⟩;(have hsl:l[x.size/16]? =some s:=by rw[hs,gH,gE hil];rfl);(have hres:iN S dir name n=some ((S1.keep dir y).jA s x.size name n):=by unfold iN;rw[<-hx,<-hm,<-hS0,hfp,hy,hs]);rw[hres];have hF1:VF S1:=(hL0.trans hk1).vf hF;have hn1:S1.names=S.names:=(hL0.trans hk1).names;have hW1:gM S1:=hU.1.small (by rw[hS0];exact⟨hW.b0,hW.b1,hW.i0,hW.i1⟩);have RL:Hid (∀W bx u a1,VC S a1->Sep w0 W (aF f q p S0 a1:: .box bx 118 (aO {x with size:=x.size+1} u)::bA u (fB x.aB)::R)->
   Calls Tryz.prog 89 #[pV f,pV bx,iV m] W fun e w'=>e= .returned (.tuple #[])/\∃a1 A c,VC S1 a1/\Sep w0 w' (aF f q p S1 a1:: .box bx 118 (aO y (.slice A m c))::bA (.slice A m c) (fB l)::R)):=Lh fun W bx u a1 lU hS=>by
   refine(hft.out W bx u a1 lU hS).mono ?_
   intro e w' ho
   unfold rO at ho
   have mO:lD S0 ({x with size:=x.size+1}:VI).aB m=some (S1,l):=hfp
   rw[mO]at ho
   obtain⟨rfl,a2,v2,_,h2,h3⟩:=ho
   obtain⟨A,c,e⟩:=h3.eF 2 rfl
   have hl:(fB l).length=m:=by unfold fB;rw[kV];exact hU.2
   rw[hl]at e
   subst e
   rw[hy]
   exact⟨rfl,a2,A,c,h2,h3⟩
  have hkp:Hid (∀W bx u a2,VC S1 a2->Sep w0 W (aF f q p S1 a2:: .box bx 118 (aO y u)::bA u (fB l)::R)->
   Calls Tryz.prog 90 #[pV f,iV dir,gK y u] W fun e w'=>e= .returned (.tuple #[])/\∃a',VC (S1.keep dir y) a'/\Sep w0 w' (aF f q p (S1.keep dir y) a':: .box bx 118 (aO y u)::bA u (fB l)::R)):=Lh fun W bx u a2 lU hS=>
   wP lU hF1 (by rw[hn1];exact abB) hyo (by rw[hi0];exact hok) hW1 (kL 1 (by rw[hy];rfl)) hS
  have hst:Hid (∀W bx u a2,VC (S1.keep dir y) a2->Sep w0 W (aF f q p (S1.keep dir y) a2:: .box bx 118 (aO y u)::bA u (fB l)::R)->
   Calls Tryz.prog 151 #[pV f,gK y u,iV x.size,aC name,iV n] W fun e w'=>e= .returned (.tuple #[])/\∃a',VC ((S1.keep dir y).jA s x.size name n) a'/\Sep w0 w' (aF f q p ((S1.keep dir y).jA s x.size name n) a'::R)):=Lh fun W bx u a2 lU hS=>by
   refine(aa8 lU hF1.keep (kL (l:=y.aB) 1 (by rw[hy];rfl)) (i:=x.size) (s:=s) (by rw[hy];exact hsl) (by have:=hlt s (gG hsl);rw[<-hk1.count]at this;exact this) hyo.few hname hn hS).mono ?_
   rintro e w' ⟨rfl,a',h5,h6⟩
   have h7:Sep w0 w' (.box bx 118 (aO y u)::bA u (fB l)::aF f q p ((S1.keep dir y).jA s x.size name n) a'::R):=Sep.dE [1,2,0] h6 aQ bM
   exact⟨rfl,a',h5,h7.drop 2⟩
  (have hyc:Hid (∀W As bx u,As[1]? =some (.box bx 118 (aO y u))->Sep w0 W As->W.cell? ⟨bx,0,none⟩=some (iV (x.kind:Nat))/\W.cell? ⟨bx,1,none⟩=some (iV (x.mode:Nat))/\W.cell? ⟨bx,2,none⟩=some (iV (x.links:Nat))/\W.cell? ⟨bx,3,none⟩=some (iV ((x.size:Int)+1))/\W.cell? ⟨bx,4,none⟩=some u):=Lh fun W As bx u hi hS=>by have:=hS.dR 1 hi;rw[hy]at this;exact this);(have hyv:Hid (∀u,gK y u= .agg #[iV (x.kind:Nat),iV (x.mode:Nat),iV (x.links:Nat),iV ((x.size:Int)+1),u]):=Lh fun u=>by rw[hy];rfl);clear hC hF abB hok hsp hsz hW hnd h hx hxo hm axX hS0 hL0 hft hfp hres hname hn hnd' hU hk1 hlt hi0 hyo hil hs hsl hF1 hn1 hW1;clear hy;unfold aC at*;unfold gK at hin;go_enter Tryz.func104,Tryz.ntmps104;go_wp2_with(first |(go_at_call 64;refine hin.mono ?_;rintro e w9 ⟨v,a1,rfl,hR,h9⟩;(obtain⟨A9,c9,e9⟩:=h9.eF 0 rfl);subst e9;(have hs:Sep w0 (w9.alloc (.cells #[iV (x.kind:Nat),iV (x.mode:Nat),iV (x.links:Nat),iV ((x.size:Int)+1),.slice A9 (fB x.aB).length c9] 118)) (.box w9.heap.size 118 (aO {x with size:=x.size+1} (.slice A9 (fB x.aB).length c9))::bA (.slice A9 (fB x.aB).length c9) (fB x.aB)::aF f q p S a1::R):=h9.bN 118 _);(obtain⟨⟨k6,f6⟩,hs3⟩:=RO.out _ _ _ (Sep.dE [2,0,1] hs aQ bM));(have k3:=(hs3.drew.dR 1 rfl).2.2.2.1);(have an2:=RL.out _ _ _ _ hR.ok hs3.drew);replace hs3:=Lh hs3;clear hs h9 hR hin RO RL;unfold aO at an2 ⊢));rw[e1]at k3;refine aJ (S:=fun w'=>w'.cell? ⟨w9.heap.size,3,none⟩=some (iV ((x.size:Int)+1))) 7 ?_;refine aA 0 k3 ?_;refine aA 1 k3 ?_;refine aA 2 k3 ?_;refine aA 3 k3 ?_;refine aA 4 k3 ?_;(refine bG 5 fun K hK=>?_);go_simp;go_at_call 85;refine(hpt _).mono ?_;rintro e w8 ⟨rfl,h8⟩;obtain rfl:=h8.symm;dsimp only;refine hK _ _ (fun _=>k3) ?_;clear hK K;(try simp only[Act.put,gD]);(refine bG 6 fun K hK=>?_);go_simp;go_at_call 89;refine an2.mono ?_;rintro e w7 ⟨rfl,a2,A7,c7,hC2,h7⟩;have k4:=hyc.out _ _ _ _ rfl h7;have k5:w7.cell? ⟨w9.heap.size,3,none⟩=some (iV ((x.size:Int)+1)):=k4.2.2.2.1;have uT:=hkp.out _ _ _ _ hC2 h7.drew;rw[hyv.out]at uT;replace h7:=Lh h7;clear an2 hC2 hkp k3;dsimp only;refine hK _ _ (fun _=>k5) ?_;clear hK K;(try simp only[Act.put,gD]);refine aR fZ ?_ _;clear k5;go_wp2_with fail;refine aJ (S:=fun w'=>w'.cell? ⟨w9.heap.size,0,none⟩=some (iV (x.kind:Nat))/\w'.cell? ⟨w9.heap.size,1,none⟩=some (iV (x.mode:Nat))/\w'.cell? ⟨w9.heap.size,2,none⟩=some (iV (x.links:Nat))/\w'.cell? ⟨w9.heap.size,3,none⟩=some (iV ((x.size:Int)+1))/\w'.cell? ⟨w9.heap.size,4,none⟩=some (.slice A7 m c7)) 6 ?_;(have k4':=show w7.drew.cell? ⟨w9.heap.size,0,none⟩=some (iV (x.kind:Nat))/\w7.drew.cell? ⟨w9.heap.size,1,none⟩=some (iV (x.mode:Nat))/\w7.drew.cell? ⟨w9.heap.size,2,none⟩=some (iV (x.links:Nat))/\w7.drew.cell? ⟨w9.heap.size,3,none⟩=some (iV ((x.size:Int)+1))/\w7.drew.cell? ⟨w9.heap.size,4,none⟩=some (.slice A7 m c7)from k4);refine aA 0 k4' ?_;refine aA 1 k4' ?_;refine aA 2 k4' ?_;refine aA 3 k4' ?_;refine aA 4 k4' ?_;(refine bG 5 fun K hK=>?_);go_simp;go_at_call 90;refine uT.mono ?_;rintro e w6 ⟨rfl,a3,WI,h6⟩;have k6':=hyc.out _ _ _ _ rfl h6;have aGN:=hst.out _ _ _ _ WI h6;rw[hyv.out]at aGN;clear k4 k4' uT h7 WI h6 hst;dsimp only;refine hK _ _ (fun _=>k6') ?_;clear hK K;(try simp only[Act.put,gD]);refine aR fZ ?_ _;obtain⟨d0,d1,d2,d3,d4⟩:=k6';go_wp2_with(go_at_call 151;refine aGN.mono ?_;rintro e w5 ⟨rfl,h5⟩;replace h5:=Lh h5)
  go_end0
  unfold fD;exact⟨rfl,h5.out⟩
end
end Go.Proofs.YteihmbaimbogaaaGreat
