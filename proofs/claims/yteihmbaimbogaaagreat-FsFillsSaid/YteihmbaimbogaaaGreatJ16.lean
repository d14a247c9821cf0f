/- FtK, laid together. -/
import Derived.Test.YteihmbaimbogaaaGreatJ14
namespace Go.Proofs.YteihmbaimbogaaaGreat
open Go.RowKit
set_option linter.unusedVariables false
set_option linter.unusedSimpArgs false
theorem DI :∀(k:Nat) (S:VS) (l:List Nat),(kQ k S l).1.count=S.count
 |0,_,_=>rfl
 |k+1,S,l=>(DI k _ _).trans rfl
theorem ad6 :∀(k:Nat) (S:VS) (l:List Nat) {S1:VS} {l1:List Nat},FI k S l=some (S1,l1)→(∀s∈l,s<S.count)→∀s∈l1,s<S.count
 |0,S,l,S1,l1,h,hl=>by cases h;exact hl
 |k+1,S,l,S1,l1,h,hl=>by
  unfold FI at h;split at h
  ·cases h
  rename_i j hj;have h1:=ad6 k (S.put 1 (jB (bk S.cur 1) j)) (l++[j]) h;refine h1 (fun s hs=>?_);rcases List.mem_append.1 hs with hs|hs
  ·exact hl s hs
  rw[List.mem_singleton]at hs;subst hs;exact(tF hj).1
theorem OH {S S1:VS} {l l1:List Nat} {n:Nat} (h:iD S l n=some (S1,l1)) (hl:∀s∈l,s<S.count):∀s∈l1,s<S.count:=by
 unfold iD at h;have h1:=ad6 _ _ _ h;rw[DI]at h1;refine h1 fun s hs=>hl s ?_
 rw[pE]at hs;exact List.mem_of_mem_take hs
theorem mW {S S1:VS} {l l1:List Nat} {n:Nat} (h:iD S l n=some (S1,l1)):dY S S1:=by
 have hd:∀(k:Nat) (S:VS) (l:List Nat),dY S (kQ k S l).1:=fun k=>by
  induction k with
  |zero=>exact fun S l=>.refl S
  |succ k ih=>exact fun S l=>((dY.refl S).put 1 _).trans (ih _ _)
 have hu:∀(k:Nat) (S:VS) (l:List Nat) {S1:VS} {l1:List Nat},FI k S l=some (S1,l1)→dY S S1:=fun k=>by
  induction k with
  |zero=>intro S l S1 l1 h;cases h;exact .refl S
  |succ k ih=>
   intro S l S1 l1 h;unfold FI at h;split at h
   ·cases h
   exact((dY.refl S).put 1 _).trans (ih _ _ h)
 unfold iD at h;exact(hd _ _ _).trans (hu _ _ _ h)
def gM (bs:List UInt8) (k:Nat):List UInt8:=bW bB 0 ((bs.drop (512*k)).take 512)
theorem tJ (bs:List UInt8) (k:Nat):(gM bs k).length=512:=by unfold gM;rw[dL,dP];rw[dP,List.length_take];omega
def j4 (bs:List UInt8):List Nat→Nat→VS→VS
 |[],_,S=>S
 |s::l,k,S=>j4 bs l (k+1) (S.put (S.data+s) (gM bs k))
def j5 (S:VS) (n:Nat) (bs:List UInt8):Option VS:=
 match iD S (aF S.cur n).aB ((bs.length+511)/512)with
 |none=>none
 |some (S1,l)=>some ((j4 bs l 0 S1).keep n {aF S.cur n with size:=bs.length,aB:=l})
structure Laid (S S':VS) (k:Nat):Prop where
 like:dY S S'
 wB:S'.wB=S.wB
 wI:S'.wI=S.wI
 nodes:S'.nodes=S.nodes
 blk:∀j,j<S.data→bk S'.cur j=bk S.cur j
 m:S'.m=S.m+k
theorem Laid.refl (S:VS):Laid S S 0:=⟨.refl S,rfl,rfl,rfl,fun _ _=>rfl,rfl⟩
theorem dY.data {S T:VS} (h:dY S T):T.data=S.data:=by unfold VS.data;rw[h.names]
theorem Laid.put {S T:VS} {k:Nat} (h:Laid S T k) (s:Nat) (bs:List UInt8):Laid S (T.put (T.data+s) bs) (k+1):=
 ⟨h.like.put _ _,h.wB,h.wI,h.nodes,fun j hj=>(bR _ _ (by rw[h.like.data];omega)).trans (h.blk j hj),by show T.m+1=_;rw[h.m];omega⟩
theorem Laid.trans {S T U:VS} {i j:Nat} (h:Laid S T i) (g:Laid T U j):Laid S U (i+j):=
 ⟨h.like.trans g.like,g.wB.trans h.wB,g.wI.trans h.wI,g.nodes.trans h.nodes,fun k hk=>(g.blk k (by rw[h.like.data];exact hk)).trans (h.blk k hk),by rw[g.m,h.m];omega⟩
theorem mX (bs:List UInt8):∀(l:List Nat) (k:Nat) (S:VS),Laid S (j4 bs l k S) l.length
 |[],_,S=>.refl S
 |s::l,k,S=>by have h:=(Laid.put (.refl S) s (gM bs k)).trans (mX bs l (k+1) _);rw[List.length_cons,show l.length+1=0+1+l.length by omega];exact h
theorem Laid.ino {S T:VS} {k:Nat} (h:Laid S T k) {n:Nat} (hn:n<S.names):aF T.cur n=aF S.cur n:=by unfold aF;rw[h.blk _ (by unfold VS.data;omega)]
def fA (f q p:Nat) (S:VS) (r:Option VS) (w0:World) (R:List aU) (e:Ending) (w':World):Prop:=
 match r with
 |some S1=>e= .returned (.tuple #[])∧∃a1,VC S1 a1∧Sep w0 w' (aG f q p S1 a1::R)
 |none=>e= .panicked (eH 27)∧∃S1 a1,dY S S1∧VC S1 a1∧Sep w0 w' (aG f q p S1 a1::R)
theorem OI {b:List UInt8} (h:(wQ b).aB.length≤28):(wQ b).ok:=
 ⟨(b.getD 0 0).toNat_lt,LW _ _,LW _ _,LW _ _,h,fun k hk=>by unfold wQ at hk;obtain⟨j,_,rfl⟩:=List.mem_map.1 hk;exact LW _ _⟩
structure ad7 (f q p:Nat) (S1:VS) (bs:List UInt8) (l:List Nat) (k:Nat) (w0 wr:World) (R:List aU) (T:VS) (a:VA):Prop where
 eq:j4 bs (l.drop k) k T=j4 bs l 0 S1
 like:dY S1 T
 ok:VC T a
 sep:Sep w0 wr (aG f q p T a::R)
section
variable {w0 w:World} {R:List aU} {f q p:Nat} {S:VS} {a:VA}
theorem Sep.OJ (h:Sep w0 w (aG f q p S a::R)) (hC:VC S a) (k:Nat):Sep w0 w (uQ f q p S a k::R):=by
 cases hf:bV a.FM k with
 |some x=>have hx:=(hC.fresh _ (jL hf)).2;have h1:wO f q p S a k x.1 w0 w R:=.inl ⟨by rw[hf,←hx],h⟩;exact h1.out.drop 1
 |none=>have h1:=h.aS;have h2:Sep w0 w (iI a.fb a.FM::jG f q S a.sb (.map (some a.fb)) false::aD q p false::aJ p S.D::dH a.sb a.SM::R):=Sep.bZ [4,0,1,2,3] h1 (by decide) (by simp[oH]);have h3:=h2.zJ hf;have h4:Sep w0 w ([jG f q S a.sb (.map (some a.fb)) false,aD q p false,aJ p S.D,dH a.sb a.SM,KL a.fb a.FM k]++R):=Sep.bZ [1,2,3,4,0] h3 (by decide) (by simp);exact h4.bM
set_option maxRecDepth 100000 in
set_option maxHeartbeats 4000000 in
theorem ad8 {n:Nat} {v:Value} {bs:List UInt8} (hC:VC S a) (hF:VF S) (hn:n<S.names) (hok:(aF S.cur n).aB.length≤28) (hsp:∀s∈(aF S.cur n).aB,s<S.count) (hW:fD S) (hbs:bs.length≤8192) (hv:iB w0 R v bs) (h:Sep w0 w (aG f q p S a::R)):
  Calls Tryz.prog 67 #[.pointer (some ⟨f,0,none⟩),.int .i64 n,v] w (fA f q p S (j5 S n bs) w0 R):=by
 have hin:=jD hC hF hn hok h;obtain⟨x,hx⟩:∃x,x=aF S.cur n:=⟨_,rfl⟩;obtain⟨L,hL⟩:∃L,L=bs.length:=⟨_,rfl⟩;obtain⟨m,hm⟩:∃m,m=(L+511)/512:=⟨_,rfl⟩;have hxo:x.ok:=by rw[hx];exact OI (by have:=hok;unfold aF at this;exact this)
 have avT:m≤16:=by rw[hm];omega
 obtain⟨A0,c0,hv0⟩:∃A c,v= .slice A L c:=by obtain⟨_,A,c,e,_⟩:=hv w [_] h;exact⟨A,c,by rw[e,hL]⟩
 have hpt:=fun w=>rM (n:=L) (by':=512) (by omega) (by omega) (by omega) w
 rw[show L+512-1=L+511 by omega,←hm]at hpt;have hft:Hid (∀W bx u a1,Reads S a a1→Sep w0 W (aG f q p S a1:: .box bx 118 (aL x u)::aQ u (dR x.aB)::R)→
   Calls Tryz.prog 89 #[.pointer (some ⟨f,0,none⟩),.pointer (some ⟨bx,0,none⟩),.int .i64 m] W (mD f q p S x m bx w0 R)):=Lh fun W bx u a1 hR hS=>
  tC (n:=m) hR.ok hF (by rw[hx];exact hok) (by omega) (by rw[hx];exact hsp) hS
 have hno:Hid (iD S x.aB m=none→j5 S n bs=none):=Lh fun h1=>by unfold j5;rw[←hx,←hL,←hm,h1]
 have ad9:Hid (∀S1 l,iD S x.aB m=some (S1,l)→j5 S n bs=some ((j4 bs l 0 S1).keep n {x with size:=L,aB:=l})∧l.length=m∧dY S S1∧(∀s∈l,s<S.count)∧({x with size:=L,aB:=l}:VI).ok∧
   ∀T W bx u a1,T=j4 bs l 0 S1→VC T a1→Sep w0 W (aG f q p T a1:: .box bx 118 (aL {x with size:=L,aB:=l} u)::aQ u (dR l)::R)→
    Calls Tryz.prog 90 #[.pointer (some ⟨f,0,none⟩),.int .i64 n,dZ {x with size:=L,aB:=l} u] W fun e w'=>e= .returned (.tuple #[])∧∃a',VC (T.keep n {x with size:=L,aB:=l}) a'∧Sep w0 w' (aG f q p (T.keep n {x with size:=L,aB:=l}) a'::R)):=Lh fun S1 l h1=>by
  have hU:=iA h1
  have hk:=mW h1
  have hlt:=OH h1 (by rw[hx];exact hsp)
  have aqG:({x with size:=L,aB:=l}:VI).ok:=⟨hxo.kind,hxo.mode,hxo.links,by show L<65536;omega,by show l.length≤28;rw[hU.2];omega,fun s hs=>by have h2:=hlt s hs;have h3:=hC.l8.few;unfold VS.count at h2;omega⟩
  refine⟨by unfold j5;rw[←hx,←hL,←hm,h1],hU.2,hk,hlt,aqG,fun T W bx u a1 hT jY hS=>?_⟩
  have hLd:=mX bs l 0 S1
  rw[←hT]at hLd
  have hi:aF T.cur n=x:=by rw[hLd.ino (by rw[hk.names];exact hn),hU.1.ino,hx]
  have hS2:Sep w0 W (aG f q p T a1::aQ u (dR l):: .box bx 118 (aL {x with size:=L,aB:=l} u)::R):=Sep.bZ [0,2,1] hS (by decide) (by simp)
  have hrow:uJ w0 (aQ u (dR l):: .box bx 118 (aL {x with size:=L,aB:=l} u)::R) u l:=fun w' X hX=>by have:=hX.rd (X.length) (by rw[List.getElem?_append_right (Nat.le_refl _),Nat.sub_self];rfl);unfold dR at this;rw[List.length_map]at this;exact this
  refine(o9 (x:= {x with size:=L,aB:=l}) jY ((hk.trans hLd.like).vf hF) (by rw[(hk.trans hLd.like).names];exact hn) aqG (by rw[hi,hx];exact hok) ⟨by rw[hLd.wB,hU.1.wB];exact hW.b0,by rw[hLd.wB,hU.1.wB];exact hW.b1,by rw[hLd.wI,hU.1.wI];exact hW.i0,by rw[hLd.wI,hU.1.wI];exact hW.i1⟩ hrow hS2).mono ?_
  rintro e w' ⟨rfl,a',h5,h6⟩
  have h7:Sep w0 w' (aQ u (dR l):: .box bx 118 (aL {x with size:=L,aB:=l} u)::aG f q p (T.keep n {x with size:=L,aB:=l}) a'::R):=Sep.bZ [1,2,0] h6 (by decide) (by simp)
  exact⟨rfl,a',h5,h7.drop 2⟩
 rw[←hx]at hin;have hF':=Lh hF;have hv':=Lh hv;have hL':=Lh hL;have hm':=Lh hm;have L1:(L:Int)≤8192:=by omega
 have L0:(0:Int)≤L:=by omega
 have m1:(m:Int)≤16:=by omega
 obtain⟨k0,iM,hk0,hk1,hk2⟩:=iQ jV;subst hv0;clear hC hF hn hok hsp hW hbs hv h hx hxo hL hm avT;unfold dZ at hin;cases hfp:iD S x.aB m with
 |none=>
  have GL:Hid (∀W bx u a1,Reads S a a1→Sep w0 W (aG f q p S a1:: .box bx 118 (aL x u)::aQ u (dR x.aB)::R)→
   Calls Tryz.prog 89 #[.pointer (some ⟨f,0,none⟩),.pointer (some ⟨bx,0,none⟩),.int .i64 m] W fun e w'=>e= .panicked (eH 27)∧∃S1 a1,dY S S1∧VC S1 a1∧Sep w0 w' (aG f q p S1 a1::R)):=Lh fun W bx u a1 hR hS=>by
   have:=hft.out W bx u a1 hR hS
   unfold mD at this
   rw[hfp]at this
   exact this
  rw[hno.out hfp];clear hft ad9 hno hfp;go_enter Tryz.func67,Tryz.ntmps67;go_wp2_with(first |(go_at_call 64;refine hin.mono ?_;rintro e w9 ⟨v,a1,rfl,hR,h9⟩;obtain⟨A9,c9,e9⟩:=h9.dA 0 rfl;subst e9;have hs:=h9.bN 118 (aL x (.slice A9 (dR x.aB).length c9));have yI:=GL.out _ _ _ _ hR (Sep.bZ [2,0,1] hs (by decide) (by simp));clear hs h9 hR hin GL;unfold aL at*)|(go_at_call 85;refine(hpt _).mono ?_;rintro e w9b ⟨rfl,h9b⟩;obtain rfl:=h9b.symm;clear hpt)|(go_at_call 89;refine yI.mono ?_;rintro e w8 ⟨rfl,hend⟩;replace hend:=Lh hend;clear yI));unfold fA;exact⟨rfl,rfl,hend.out⟩
 |some r=>
  obtain⟨S1,l⟩:=r;obtain⟨y1,y2,y3,y4,y5,y6⟩:=ad9.out S1 l hfp;have GL:Hid (∀W bx u a1,Reads S a a1→Sep w0 W (aG f q p S a1:: .box bx 118 (aL x u)::aQ u (dR x.aB)::R)→
   Calls Tryz.prog 89 #[.pointer (some ⟨f,0,none⟩),.pointer (some ⟨bx,0,none⟩),.int .i64 m] W fun e w'=>e= .returned (.tuple #[])∧∃a1 A c,VC S1 a1∧Sep w0 w' (aG f q p S1 a1:: .box bx 118 (aL x (.slice A m c))::aQ (.slice A m c) (dR l)::R)):=Lh fun W bx u a1 hR hS=>by
   refine(hft.out W bx u a1 hR hS).mono ?_
   intro e w' ho
   unfold mD at ho
   rw[hfp]at ho
   obtain⟨rfl,a2,v2,_,h2,h3⟩:=ho
   obtain⟨A,c,e⟩:=h3.dA 2 rfl
   have hl:(dR l).length=m:=by unfold dR;rw[List.length_map];exact y2
   rw[hl]at e
   subst e
   exact⟨rfl,a2,A,c,h2,h3⟩
  rw[y1];have y2':=Lh y2;have y3':=Lh y3;have y4':=Lh y4;have y6':=Lh y6;clear hft ad9 hno hfp y1 y2 y3 y4 y5 y6;go_enter Tryz.func67,Tryz.ntmps67;go_wp2_with(first |(go_at_call 64;refine hin.mono ?_;rintro e w9 ⟨v,a1,rfl,hR,h9⟩;obtain⟨A9,c9,e9⟩:=h9.dA 0 rfl;subst e9;have hs:=h9.bN 118 (aL x (.slice A9 (dR x.aB).length c9));have yI:=GL.out _ _ _ _ hR (Sep.bZ [2,0,1] hs (by decide) (by simp));clear hs h9 hR hin GL;unfold aL at*)|(go_at_call 85;refine(hpt _).mono ?_;rintro e w9b ⟨rfl,h9b⟩;obtain rfl:=h9b.symm;clear hpt)|(go_at_call 89;refine yI.mono ?_;rintro e w8 ⟨rfl,a2,A8,c8,hC2,h8⟩;(have b3:w8.cell? ⟨w9.heap.size,3,none⟩=some (.int .i64 (x.size:Nat)):=h8.bC 1 rfl 3);(have f3:=h8.bF 1 rfl 3);(have h8s:=h8.bS 1 rfl 3 (.int .i64 (L:Nat)));(have b4:(w8.setCell ⟨w9.heap.size,3,none⟩ (.int .i64 (L:Nat))).cell? ⟨w9.heap.size,4,none⟩=some (.slice A8 m c8):=h8s.bC 1 rfl 4);replace h8s:=Lh h8s;replace hC2:=Lh hC2;clear yI h8));have hI0:Hid (∃T a',ad7 f q p S1 bs l 0 w0 (w8.setCell ⟨w9.heap.size,3,none⟩ (.int .i64 (L:Nat))) (.box w9.heap.size 118 (aL {x with size:=L,aB:=l} (.slice A8 m c8))::aQ (.slice A8 m c8) (dR l)::R) T a'):=Lh ⟨S1,a2,rfl,.refl _,hC2.out,h8s.out⟩;obtain⟨bx,hbx⟩:∃bx,bx=w9.heap.size:=⟨_,rfl⟩;rw[←hbx]at hI0 b4 ⊢;clear h8s hC2 b4 b3 f3 hbx;go_loopw[24] (fun i wr=>∃k:Nat,k≤m∧i= .int .i64 k∧Hid (∃T a',ad7 f q p S1 bs l k w0 wr (.box bx 118 (aL {x with size:=L,aB:=l} (.slice A8 m c8))::aQ (.slice A8 m c8) (dR l)::R) T a')) (fun i _=>m-(intOf i).toNat)
  case atStart=>exact⟨0,Nat.zero_le _,rfl,hI0⟩
  obtain⟨k,hk,rfl,hI⟩:=hrel;clear hI0;obtain⟨T,a3,hT⟩:=hI.out;clear hI;by_cases hlt:k<m
  ·(have hll:(dR l).length=m:=by unfold dR;rw[List.length_map];exact y2'.out);(have hlx:k<l.length:=by rw[y2'.out];exact hlt);obtain⟨s,hs⟩:∃s,s=l[k]:=⟨_,rfl⟩;(have hsk:l[k]? =some s:=by rw[gE hlx,hs]);have hsc:s<S.count:=y4'.out s (by rw[hs];exact List.getElem_mem hlx);(have hcj:∃ad,A8=some ad∧wr.cell? (ad.add k)=some (.int .i64 (s:Nat)):=by obtain⟨ad,c8,u9,e,h1,h2⟩:=Rd.at_ (hT.sep.rd 2 rfl) (k:=k) (by rw[hll];exact hlt);cases e;unfold dR at h1;rw[List.getElem?_map,List.getElem?_map,hsk]at h1;cases h1;exact⟨ad,rfl,h2⟩);obtain⟨ad,rfl,hcj⟩:=hcj;(have hkL:512*k<L:=by have:=hm'.out;omega);obtain⟨o,ho⟩:∃o,o=k*512:=⟨_,rfl⟩
   --the new block
   have hmk:(Instr.makeSlice 35 (.int .i64 512) (.int .i64 512)).run Tryz.prog wr= .ok (.slice (some ⟨wr.heap.size,0,none⟩) 512 512) (wr.alloc (.cells (madeCells #[.int .u8 0] 512) 5)):=kF (P:=Tryz.prog) 35 5 k0 (.int .u8 0) 1 Tryz.underlying35 iM hk0 hk1 hk2 rfl .i64 .i64 512 (by omega) (by unfold maxLen;omega) wr;have hS1:=hT.sep.made 5 (.int .u8 0) 512 (by unfold maxLen;omega);have hby:=hv'.out.now (X:=[_,_,_,_]) hS1;(obtain⟨ad0,rfl,hsub⟩:∃ad0,A0=some ad0∧BytesAt (wr.alloc (.cells (madeCells #[.int .u8 0] 512) 5)) (.slice (some (ad0.add o)) (L-o) (c0-o)) ((bs.drop o).take (L-o)):=by obtain⟨ad0,e,_⟩:=hby.byte (j:=0) (by rw[←hL'.out];omega);subst e;exact⟨ad0,rfl,hby.sub (by rw[←hL'.out];omega)⟩);(have hsl:((bs.drop o).take (L-o)).length=L-o:=by rw[List.length_take,List.length_drop,←hL'.out];omega);obtain⟨w7,hcp,rR,ZX⟩:=hS1.QS (P:=Tryz.prog) 0 rfl 35 35 3 Tryz.underlying35 rQ 0 512 512 (.slice (some (ad0.add o)) (L-o) (c0-o)) (L-o) (((bs.drop o).take (L-o)).map jP) (by unfold BytesAt at hsub;rw[hsl]at hsub;exact hsub) sU (by omega);have hch:kV (List.replicate 512 (Value.int .u8 0)) 0 ((((bs.drop o).take (L-o)).map jP).take (min (L-o) 512))=(gM bs k).map jP:=by
    rw[←wS,←List.map_take,←vG];unfold gM;congr 1;unfold bW kV;have e:((bs.drop o).take (L-o)).take (min (L-o) 512)=(bs.drop (512*k)).take 512:=by
     rw[List.take_take,ho,Nat.mul_comm];apply List.ext_getElem?;intro j;rw[List.getElem?_take,List.getElem?_take];by_cases hj:j<512
     ·by_cases hj2:j<L-512*k
      ·rw[if_pos (by omega),if_pos hj]
      rw[if_neg (by omega),if_pos hj,List.getElem?_drop,List.getElem?_eq_none (by rw[←hL'.out];omega)]
     rw[if_neg (by omega),if_neg hj]
    rw[e]
   (have BZ:Sep w0 w7 (aH (.slice (some ⟨wr.heap.size,0,none⟩) 512 512) (gM bs k)::aG f q p T a3:: .box bx 118 (aL {x with size:=L,aB:=l} (.slice (some ad) m c8))::aQ (.slice (some ad) m c8) (dR l)::R):=by rw[bE (tJ bs k),←hch];exact rR);have hV:Sep w0 w7.drew (aG f q p T a3::aH (.slice (some ⟨wr.heap.size,0,none⟩) 512 512) (gM bs k):: .box bx 118 (aL {x with size:=L,aB:=l} (.slice (some ad) m c8))::aQ (.slice (some ad) m c8) (dR l)::R):=(BZ.perm (List.Perm.swap _ _ _)).drew;have hLk:=y3'.out.trans hT.like;have hF2:=hLk.vf hF'.out;have QP:=zL hT.ok hF2 hV.dK.c3;(have hbound:T.data+s<T.nb-96:=by rw[←hLk.count]at hsc;unfold VS.count at hsc;omega);(have hd4:(T.data+s:Nat)≤4096:=by have:=hT.ok.l8.few;omega);have QK:=sV (v:=.slice (some ⟨wr.heap.size,0,none⟩) 512 512) (bs:=gM bs k) hT.ok hbound ((hV.OJ hT.ok (T.data+s)).perm (List.Perm.swap _ _ _));have hnx:ad7 f q p S1 bs l (k+1) w0 w7 R (T.put (T.data+s) (gM bs k)) (a3.put (T.data+s) (.slice (some ⟨wr.heap.size,0,none⟩) 512 512) (gM bs k))∨True:=.inr trivial;(have heq:j4 bs (l.drop (k+1)) (k+1) (T.put (T.data+s) (gM bs k))=j4 bs l 0 S1:=by rw[←hT.eq,List.drop_eq_getElem_cons hlx,←hs];rfl);have KH:=hT.ok.put (.slice (some ⟨wr.heap.size,0,none⟩) 512 512) hbound (tJ bs k);have hL4:=hT.like.put (T.data+s) (gM bs k);obtain⟨d,hd⟩:∃d,d=T.data:=⟨_,rfl⟩;rw[←hd]at QP hd4 QK KH hL4 heq;rw[show((d+s:Nat):Int)=(d:Int)+s by omega]at QK;(have q1:(k:Int)<m:=by omega);(have q0:(0:Int)≤k:=by omega);(have q2:(k:Int)*512≤L:=by omega);have q3:IntKind.i64.wrap ((d:Int)+s)=d+s:=IntWalk.i64_in _ (by omega);(have q6:¬c0=k*512:=by obtain⟨_,A,c,e,h1,_⟩:=hby;cases e;have:=hL'.out;omega);(have q5:(L:Int)≤c0:=by obtain⟨_,A,c,e,h1,_⟩:=hby;cases e;have:=hL'.out;omega);replace KH:=Lh KH;replace hL4:=Lh hL4;replace heq:=Lh heq;replace QP:=Lh QP;replace QK:=Lh QK;subst ho;clear hT hll hlx hs hsk hsc hkL hS1 hby hsub hsl rR hch BZ hV hLk hF2 hbound hd4 hd hnx ZX;have hds:Hid (d=d):=Lh rfl;go_wp2_with fail;refine aN (S:=fun _=>True) 11 (by kernel_rfl) ?_;simp only[List.size_toArray,List.length_cons,List.length_nil,Nat.reduceAdd];refine aA (i:=0) (v:=?_) trivial rfl ?_ ?_;rotate_left
   ·rintro w e1;go_simp;try with_reducible rfl
   simp only[Act.put,gD];refine aA (i:=1) (v:=?_) trivial rfl ?_ ?_;rotate_left
   ·rintro w e1;go_simp;try with_reducible rfl
   simp only[Act.put,gD];refine aA (i:=2) (v:=?_) trivial rfl ?_ ?_;rotate_left
   ·rintro w e1;go_simp;try with_reducible rfl
   simp only[Act.put,gD];refine aA (i:=3) (v:=?_) trivial rfl ?_ ?_;rotate_left
   ·rintro w e1;go_simp;try with_reducible rfl
   simp only[Act.put,gD];refine aA (i:=4) (v:=?_) trivial rfl ?_ ?_;rotate_left
   ·rintro w e1;go_simp;try with_reducible rfl
   simp only[Act.put,gD];refine aA (i:=5) (v:=?_) trivial rfl ?_ ?_;rotate_left
   ·rintro w e1;go_simp;try with_reducible rfl
   simp only[Act.put,gD];refine aA (i:=7) (v:=?_) trivial rfl ?_ ?_;rotate_left
   ·rintro w e1;go_simp;try with_reducible rfl
   simp only[Act.put,gD];refine aA (i:=9) (v:=?_) trivial rfl ?_ ?_;rotate_left
   ·rintro w e1;go_simp;try with_reducible rfl
   simp only[Act.put,gD];refine aC (i:=6) (by kernel_rfl) rfl (fun K hK=>?_);go_simp;go_at_call 120;refine QP.out.mono ?_;rintro e w6 ⟨rfl,h6⟩;obtain rfl:=h6.symm;dsimp only;refine hK _ _ (fun _=>trivial) ?_;clear hK K;(try simp only[Act.put,gD]);refine aC (i:=8) (by kernel_rfl) rfl (fun K hK=>?_);go_simp;refine hK _ _ (fun _=>trivial) ?_;clear hK K;(try simp only[Act.put,gD]);refine aC (i:=10) (by kernel_rfl) rfl (fun K hK=>?_);go_simp;go_at_call 88;refine QK.out.mono ?_;rintro e w5 ⟨rfl,h5⟩;replace h5:=Lh h5;dsimp only;refine hK _ _ (fun _=>trivial) ?_;clear hK K;(try simp only[Act.put,gD]);refine aO (by kernel_rfl) ?_ _;go_wp2_with fail;exact⟨⟨k+1,by omega,rfl,Lh ⟨_,_,heq.out,hL4.out,KH.out,h5.out⟩⟩,by simp[intOf];omega⟩
  (obtain rfl:k=m:=by omega);have e1:=hT.eq;rw[List.drop_of_length_le (by rw[y2'.out];exact Nat.le_refl _)]at e1;have e2:T=j4 bs l 0 S1:=e1;(have c:=fun j=>hT.sep.bC 1 rfl j);have c0':wr.cell? ⟨bx,0,none⟩=some (.int .i64 (x.kind:Nat)):=c 0;have c1':wr.cell? ⟨bx,1,none⟩=some (.int .i64 (x.mode:Nat)):=c 1;have c2':wr.cell? ⟨bx,2,none⟩=some (.int .i64 (x.links:Nat)):=c 2;have c3':wr.cell? ⟨bx,3,none⟩=some (.int .i64 (L:Nat)):=c 3;have c4':wr.cell? ⟨bx,4,none⟩=some (.slice A8 k c8):=c 4;have hkp:=y6'.out T wr bx _ a3 e2 hT.ok hT.sep;unfold dZ aL at hkp;have e2':=Lh e2;clear hT e1 e2 c;go_wp2_with(go_at_call 90;refine hkp.mono ?_;rintro e w5 ⟨rfl,h5⟩;replace h5:=Lh h5)
  go_end0
  rw[e2'.out]at h5;unfold fA;exact⟨rfl,h5.out⟩
end
end Go.Proofs.YteihmbaimbogaaaGreat
