/- FtK, laid together. -/
import Derived.Test.YteihmbaimbogaaaGreatJ15
namespace Go.Proofs.YteihmbaimbogaaaGreat
open Go.RowKit
set_option linter.unusedVariables false
set_option linter.unusedSimpArgs false
theorem downP_count :∀(k:Nat) (S:VS) (l:List Nat),(downP k S l).1.count=S.count
 |0,_,_=>rfl
 |k+1,S,l=>(downP_count k _ _).trans rfl
theorem upP_lt :∀(k:Nat) (S:VS) (l:List Nat) {S1:VS} {l1:List Nat},upP k S l=some (S1,l1)→(∀s∈l,s<S.count)→∀s∈l1,s<S.count
 |0,S,l,S1,l1,h,hl=>by cases h;exact hl
 |k+1,S,l,S1,l1,h,hl=>by
  unfold upP at h;split at h
  ·cases h
  rename_i j hj;have h1:=upP_lt k (S.put 1 (setB (bk S.cur 1) j)) (l++[j]) h;refine h1 (fun s hs=>?_);rcases List.mem_append.1 hs with hs|hs
  ·exact hl s hs
  rw[List.mem_singleton]at hs;subst hs;exact(freeL_some hj).1
theorem fitP_lt {S S1:VS} {l l1:List Nat} {n:Nat} (h:fitP S l n=some (S1,l1)) (hl:∀s∈l,s<S.count):∀s∈l1,s<S.count:=by
 unfold fitP at h;have h1:=upP_lt _ _ _ h;rw[downP_count]at h1;refine h1 fun s hs=>hl s ?_
 rw[downP_list]at hs;exact List.mem_of_mem_take hs
theorem fitP_like {S S1:VS} {l l1:List Nat} {n:Nat} (h:fitP S l n=some (S1,l1)):Like S S1:=by
 have hd:∀(k:Nat) (S:VS) (l:List Nat),Like S (downP k S l).1:=fun k=>by
  induction k with
  |zero=>exact fun S l=>.refl S
  |succ k ih=>exact fun S l=>((Like.refl S).put 1 _).trans (ih _ _)
 have hu:∀(k:Nat) (S:VS) (l:List Nat) {S1:VS} {l1:List Nat},upP k S l=some (S1,l1)→Like S S1:=fun k=>by
  induction k with
  |zero=>intro S l S1 l1 h;cases h;exact .refl S
  |succ k ih=>
   intro S l S1 l1 h;unfold upP at h;split at h
   ·cases h
   exact((Like.refl S).put 1 _).trans (ih _ _ h)
 unfold fitP at h;exact(hd _ _ _).trans (hu _ _ _ h)
def chunkB (bs:List UInt8) (k:Nat):List UInt8:=layB zeroB 0 ((bs.drop (512*k)).take 512)
theorem chunkB_len (bs:List UInt8) (k:Nat):(chunkB bs k).length=512:=by unfold chunkB;rw[layB_len,zeroB_len];rw[zeroB_len,List.length_take];omega
def laysP (bs:List UInt8):List Nat→Nat→VS→VS
 |[],_,S=>S
 |s::l,k,S=>laysP bs l (k+1) (S.put (S.data+s) (chunkB bs k))
def fillP (S:VS) (n:Nat) (bs:List UInt8):Option VS:=
 match fitP S (inoP S.cur n).spots ((bs.length+511)/512)with
 |none=>none
 |some (S1,l)=>some ((laysP bs l 0 S1).keep n {inoP S.cur n with size:=bs.length,spots:=l})
structure Laid (S S':VS) (k:Nat):Prop where
 like:Like S S'
 wB:S'.wB=S.wB
 wI:S'.wI=S.wI
 nodes:S'.nodes=S.nodes
 blk:∀j,j<S.data→bk S'.cur j=bk S.cur j
 m:S'.m=S.m+k
theorem Laid.refl (S:VS):Laid S S 0:=⟨.refl S,rfl,rfl,rfl,fun _ _=>rfl,rfl⟩
theorem Like.data {S T:VS} (h:Like S T):T.data=S.data:=by unfold VS.data;rw[h.names]
theorem Laid.put {S T:VS} {k:Nat} (h:Laid S T k) (s:Nat) (bs:List UInt8):Laid S (T.put (T.data+s) bs) (k+1):=
 ⟨h.like.put _ _,h.wB,h.wI,h.nodes,fun j hj=>(bk_set_ne _ _ (by rw[h.like.data];omega)).trans (h.blk j hj),by show T.m+1=_;rw[h.m];omega⟩
theorem Laid.trans {S T U:VS} {i j:Nat} (h:Laid S T i) (g:Laid T U j):Laid S U (i+j):=
 ⟨h.like.trans g.like,g.wB.trans h.wB,g.wI.trans h.wI,g.nodes.trans h.nodes,fun k hk=>(g.blk k (by rw[h.like.data];exact hk)).trans (h.blk k hk),by rw[g.m,h.m];omega⟩
theorem laysP_laid (bs:List UInt8):∀(l:List Nat) (k:Nat) (S:VS),Laid S (laysP bs l k S) l.length
 |[],_,S=>.refl S
 |s::l,k,S=>by have h:=(Laid.put (.refl S) s (chunkB bs k)).trans (laysP_laid bs l (k+1) _);rw[List.length_cons,show l.length+1=0+1+l.length by omega];exact h
theorem Laid.ino {S T:VS} {k:Nat} (h:Laid S T k) {n:Nat} (hn:n<S.names):inoP T.cur n=inoP S.cur n:=by unfold inoP;rw[h.blk _ (by unfold VS.data;omega)]
def opOut (f q p:Nat) (S:VS) (r:Option VS) (w0:World) (R:List Asn) (e:Ending) (w':World):Prop:=
 match r with
 |some S1=>e= .returned (.tuple #[])∧∃a1,VC S1 a1∧Sep w0 w' (volR f q p S1 a1::R)
 |none=>e= .panicked (stopF 27)∧∃S1 a1,Like S S1∧VC S1 a1∧Sep w0 w' (volR f q p S1 a1::R)
theorem viD_ok {b:List UInt8} (h:(viD b).spots.length≤28):(viD b).ok:=
 ⟨(b.getD 0 0).toNat_lt,r2_lt _ _,r2_lt _ _,r2_lt _ _,h,fun k hk=>by unfold viD at hk;obtain⟨j,_,rfl⟩:=List.mem_map.1 hk;exact r2_lt _ _⟩
structure FillI (f q p:Nat) (S1:VS) (bs:List UInt8) (l:List Nat) (k:Nat) (w0 wr:World) (R:List Asn) (T:VS) (a:VA):Prop where
 eq:laysP bs (l.drop k) k T=laysP bs l 0 S1
 like:Like S1 T
 ok:VC T a
 sep:Sep w0 wr (volR f q p T a::R)
section
variable {w0 w:World} {R:List Asn} {f q p:Nat} {S:VS} {a:VA}
theorem Sep.vol_cut (h:Sep w0 w (volR f q p S a::R)) (hC:VC S a) (k:Nat):Sep w0 w (volO f q p S a k::R):=by
 cases hf:findB a.FM k with
 |some x=>have hx:=(hC.fresh _ (findB_some hf)).2;have h1:Got f q p S a k x.1 w0 w R:=.inl ⟨by rw[hf,←hx],h⟩;exact h1.out.drop 1
 |none=>have h1:=h.starL_open;have h2:Sep w0 w (blkM a.fb a.FM::fsB f q S a.sb (.map (some a.fb)) false::ledgerR q p false::diskR p S.D::seenR a.sb a.SM::R):=Sep.sel [4,0,1,2,3] h1 (by decide) (by simp[volP]);have h3:=h2.blk_out_none hf;have h4:Sep w0 w ([fsB f q S a.sb (.map (some a.fb)) false,ledgerR q p false,diskR p S.D,seenR a.sb a.SM,blkO a.fb a.FM k]++R):=Sep.sel [1,2,3,4,0] h3 (by decide) (by simp);exact h4.starL_shut
set_option maxRecDepth 100000 in
set_option maxHeartbeats 4000000 in
theorem fill_any {n:Nat} {v:Value} {bs:List UInt8} (hC:VC S a) (hF:VF S) (hn:n<S.names) (hok:(inoP S.cur n).spots.length≤28) (hsp:∀s∈(inoP S.cur n).spots,s<S.count) (hW:SmallW S) (hbs:bs.length≤8192) (hv:Tells w0 R v bs) (h:Sep w0 w (volR f q p S a::R)):
  Calls Tryz.prog 67 #[.pointer (some ⟨f,0,none⟩),.int .i64 n,v] w (opOut f q p S (fillP S n bs) w0 R):=by
 have hin:=inode_any hC hF hn hok h;obtain⟨x,hx⟩:∃x,x=inoP S.cur n:=⟨_,rfl⟩;obtain⟨L,hL⟩:∃L,L=bs.length:=⟨_,rfl⟩;obtain⟨m,hm⟩:∃m,m=(L+511)/512:=⟨_,rfl⟩;have hxo:x.ok:=by rw[hx];exact viD_ok (by have:=hok;unfold inoP at this;exact this)
 have hm17:m≤16:=by rw[hm];omega
 obtain⟨A0,c0,hv0⟩:∃A c,v= .slice A L c:=by obtain⟨_,A,c,e,_⟩:=hv w [_] h;exact⟨A,c,by rw[e,hL]⟩
 have hpt:=fun w=>parts_fs (n:=L) (by':=512) (by omega) (by omega) (by omega) w
 rw[show L+512-1=L+511 by omega,←hm]at hpt;have hft:Hid (∀W bx u a1,Reads S a a1→Sep w0 W (volR f q p S a1:: .box bx 118 (infoC x u)::intsR u (spI x.spots)::R)→
   Calls Tryz.prog 89 #[.pointer (some ⟨f,0,none⟩),.pointer (some ⟨bx,0,none⟩),.int .i64 m] W (fitOut f q p S x m bx w0 R)):=Lh fun W bx u a1 hR hS=>
  fit_any (n:=m) hR.ok hF (by rw[hx];exact hok) (by omega) (by rw[hx];exact hsp) hS
 have hno:Hid (fitP S x.spots m=none→fillP S n bs=none):=Lh fun h1=>by unfold fillP;rw[←hx,←hL,←hm,h1]
 have hyes:Hid (∀S1 l,fitP S x.spots m=some (S1,l)→fillP S n bs=some ((laysP bs l 0 S1).keep n {x with size:=L,spots:=l})∧l.length=m∧Like S S1∧(∀s∈l,s<S.count)∧({x with size:=L,spots:=l}:VI).ok∧
   ∀T W bx u a1,T=laysP bs l 0 S1→VC T a1→Sep w0 W (volR f q p T a1:: .box bx 118 (infoC {x with size:=L,spots:=l} u)::intsR u (spI l)::R)→
    Calls Tryz.prog 90 #[.pointer (some ⟨f,0,none⟩),.int .i64 n,infoV {x with size:=L,spots:=l} u] W fun e w'=>e= .returned (.tuple #[])∧∃a',VC (T.keep n {x with size:=L,spots:=l}) a'∧Sep w0 w' (volR f q p (T.keep n {x with size:=L,spots:=l}) a'::R)):=Lh fun S1 l h1=>by
  have hU:=fitP_used h1
  have hk:=fitP_like h1
  have hlt:=fitP_lt h1 (by rw[hx];exact hsp)
  have hxo2:({x with size:=L,spots:=l}:VI).ok:=⟨hxo.kind,hxo.mode,hxo.links,by show L<65536;omega,by show l.length≤28;rw[hU.2];omega,fun s hs=>by have h2:=hlt s hs;have h3:=hC.dok.few;unfold VS.count at h2;omega⟩
  refine⟨by unfold fillP;rw[←hx,←hL,←hm,h1],hU.2,hk,hlt,hxo2,fun T W bx u a1 hT hC1 hS=>?_⟩
  have hLd:=laysP_laid bs l 0 S1
  rw[←hT]at hLd
  have hi:inoP T.cur n=x:=by rw[hLd.ino (by rw[hk.names];exact hn),hU.1.ino,hx]
  have hS2:Sep w0 W (volR f q p T a1::intsR u (spI l):: .box bx 118 (infoC {x with size:=L,spots:=l} u)::R):=Sep.sel [0,2,1] hS (by decide) (by simp)
  have hrow:intsT w0 (intsR u (spI l):: .box bx 118 (infoC {x with size:=L,spots:=l} u)::R) u l:=fun w' X hX=>by have:=hX.rd (X.length) (by rw[List.getElem?_append_right (Nat.le_refl _),Nat.sub_self];rfl);unfold spI at this;rw[List.length_map]at this;exact this
  refine(keep_any (x:= {x with size:=L,spots:=l}) hC1 ((hk.trans hLd.like).vf hF) (by rw[(hk.trans hLd.like).names];exact hn) hxo2 (by rw[hi,hx];exact hok) ⟨by rw[hLd.wB,hU.1.wB];exact hW.b0,by rw[hLd.wB,hU.1.wB];exact hW.b1,by rw[hLd.wI,hU.1.wI];exact hW.i0,by rw[hLd.wI,hU.1.wI];exact hW.i1⟩ hrow hS2).mono ?_
  rintro e w' ⟨rfl,a',h5,h6⟩
  have h7:Sep w0 w' (intsR u (spI l):: .box bx 118 (infoC {x with size:=L,spots:=l} u)::volR f q p (T.keep n {x with size:=L,spots:=l}) a'::R):=Sep.sel [1,2,0] h6 (by decide) (by simp)
  exact⟨rfl,a',h5,h7.drop 2⟩
 rw[←hx]at hin;have hF':=Lh hF;have hv':=Lh hv;have hL':=Lh hL;have hm':=Lh hm;have L1:(L:Int)≤8192:=by omega
 have L0:(0:Int)≤L:=by omega
 have m1:(m:Int)≤16:=by omega
 obtain⟨k0,hknf,hk0,hk1,hk2⟩:=info_of info_byte;subst hv0;clear hC hF hn hok hsp hW hbs hv h hx hxo hL hm hm17;unfold infoV at hin;cases hfp:fitP S x.spots m with
 |none=>
  have hft3:Hid (∀W bx u a1,Reads S a a1→Sep w0 W (volR f q p S a1:: .box bx 118 (infoC x u)::intsR u (spI x.spots)::R)→
   Calls Tryz.prog 89 #[.pointer (some ⟨f,0,none⟩),.pointer (some ⟨bx,0,none⟩),.int .i64 m] W fun e w'=>e= .panicked (stopF 27)∧∃S1 a1,Like S S1∧VC S1 a1∧Sep w0 w' (volR f q p S1 a1::R)):=Lh fun W bx u a1 hR hS=>by
   have:=hft.out W bx u a1 hR hS
   unfold fitOut at this
   rw[hfp]at this
   exact this
  rw[hno.out hfp];clear hft hyes hno hfp;go_enter Tryz.func67,Tryz.ntmps67;go_wp2_with(first |(go_at_call 64;refine hin.mono ?_;rintro e w9 ⟨v,a1,rfl,hR,h9⟩;obtain⟨A9,c9,e9⟩:=h9.sl_shape 0 rfl;subst e9;have hs:=h9.bN 118 (infoC x (.slice A9 (spI x.spots).length c9));have hft2:=hft3.out _ _ _ _ hR (Sep.sel [2,0,1] hs (by decide) (by simp));clear hs h9 hR hin hft3;unfold infoC at*)|(go_at_call 85;refine(hpt _).mono ?_;rintro e w9b ⟨rfl,h9b⟩;obtain rfl:=h9b.symm;clear hpt)|(go_at_call 89;refine hft2.mono ?_;rintro e w8 ⟨rfl,hend⟩;replace hend:=Lh hend;clear hft2));unfold opOut;exact⟨rfl,rfl,hend.out⟩
 |some r=>
  obtain⟨S1,l⟩:=r;obtain⟨y1,y2,y3,y4,y5,y6⟩:=hyes.out S1 l hfp;have hft3:Hid (∀W bx u a1,Reads S a a1→Sep w0 W (volR f q p S a1:: .box bx 118 (infoC x u)::intsR u (spI x.spots)::R)→
   Calls Tryz.prog 89 #[.pointer (some ⟨f,0,none⟩),.pointer (some ⟨bx,0,none⟩),.int .i64 m] W fun e w'=>e= .returned (.tuple #[])∧∃a1 A c,VC S1 a1∧Sep w0 w' (volR f q p S1 a1:: .box bx 118 (infoC x (.slice A m c))::intsR (.slice A m c) (spI l)::R)):=Lh fun W bx u a1 hR hS=>by
   refine(hft.out W bx u a1 hR hS).mono ?_
   intro e w' ho
   unfold fitOut at ho
   rw[hfp]at ho
   obtain⟨rfl,a2,v2,_,h2,h3⟩:=ho
   obtain⟨A,c,e⟩:=h3.sl_shape 2 rfl
   have hl:(spI l).length=m:=by unfold spI;rw[List.length_map];exact y2
   rw[hl]at e
   subst e
   exact⟨rfl,a2,A,c,h2,h3⟩
  rw[y1];have y2':=Lh y2;have y3':=Lh y3;have y4':=Lh y4;have y6':=Lh y6;clear hft hyes hno hfp y1 y2 y3 y4 y5 y6;go_enter Tryz.func67,Tryz.ntmps67;go_wp2_with(first |(go_at_call 64;refine hin.mono ?_;rintro e w9 ⟨v,a1,rfl,hR,h9⟩;obtain⟨A9,c9,e9⟩:=h9.sl_shape 0 rfl;subst e9;have hs:=h9.bN 118 (infoC x (.slice A9 (spI x.spots).length c9));have hft2:=hft3.out _ _ _ _ hR (Sep.sel [2,0,1] hs (by decide) (by simp));clear hs h9 hR hin hft3;unfold infoC at*)|(go_at_call 85;refine(hpt _).mono ?_;rintro e w9b ⟨rfl,h9b⟩;obtain rfl:=h9b.symm;clear hpt)|(go_at_call 89;refine hft2.mono ?_;rintro e w8 ⟨rfl,a2,A8,c8,hC2,h8⟩;(have b3:w8.cell? ⟨w9.heap.size,3,none⟩=some (.int .i64 (x.size:Nat)):=h8.bC 1 rfl 3);(have f3:=h8.bF 1 rfl 3);(have h8s:=h8.bS 1 rfl 3 (.int .i64 (L:Nat)));(have b4:(w8.setCell ⟨w9.heap.size,3,none⟩ (.int .i64 (L:Nat))).cell? ⟨w9.heap.size,4,none⟩=some (.slice A8 m c8):=h8s.bC 1 rfl 4);replace h8s:=Lh h8s;replace hC2:=Lh hC2;clear hft2 h8));have hI0:Hid (∃T a',FillI f q p S1 bs l 0 w0 (w8.setCell ⟨w9.heap.size,3,none⟩ (.int .i64 (L:Nat))) (.box w9.heap.size 118 (infoC {x with size:=L,spots:=l} (.slice A8 m c8))::intsR (.slice A8 m c8) (spI l)::R) T a'):=Lh ⟨S1,a2,rfl,.refl _,hC2.out,h8s.out⟩;obtain⟨bx,hbx⟩:∃bx,bx=w9.heap.size:=⟨_,rfl⟩;rw[←hbx]at hI0 b4 ⊢;clear h8s hC2 b4 b3 f3 hbx;go_loopw[24] (fun i wr=>∃k:Nat,k≤m∧i= .int .i64 k∧Hid (∃T a',FillI f q p S1 bs l k w0 wr (.box bx 118 (infoC {x with size:=L,spots:=l} (.slice A8 m c8))::intsR (.slice A8 m c8) (spI l)::R) T a')) (fun i _=>m-(intOf i).toNat)
  case atStart=>exact⟨0,Nat.zero_le _,rfl,hI0⟩
  obtain⟨k,hk,rfl,hI⟩:=hrel;clear hI0;obtain⟨T,a3,hT⟩:=hI.out;clear hI;by_cases hlt:k<m
  ·(have hll:(spI l).length=m:=by unfold spI;rw[List.length_map];exact y2'.out);(have hlx:k<l.length:=by rw[y2'.out];exact hlt);obtain⟨s,hs⟩:∃s,s=l[k]:=⟨_,rfl⟩;(have hsk:l[k]? =some s:=by rw[gE hlx,hs]);have hsc:s<S.count:=y4'.out s (by rw[hs];exact List.getElem_mem hlx);(have hcj:∃ad,A8=some ad∧wr.cell? (ad.add k)=some (.int .i64 (s:Nat)):=by obtain⟨ad,c8,u9,e,h1,h2⟩:=Rd.at_ (hT.sep.rd 2 rfl) (k:=k) (by rw[hll];exact hlt);cases e;unfold spI at h1;rw[List.getElem?_map,List.getElem?_map,hsk]at h1;cases h1;exact⟨ad,rfl,h2⟩);obtain⟨ad,rfl,hcj⟩:=hcj;(have hkL:512*k<L:=by have:=hm'.out;omega);obtain⟨o,ho⟩:∃o,o=k*512:=⟨_,rfl⟩
   --the new block
   have hmk:(Instr.makeSlice 35 (.int .i64 512) (.int .i64 512)).run Tryz.prog wr= .ok (.slice (some ⟨wr.heap.size,0,none⟩) 512 512) (wr.alloc (.cells (madeCells #[.int .u8 0] 512) 5)):=run_make_n (P:=Tryz.prog) 35 5 k0 (.int .u8 0) 1 Tryz.underlying35 hknf hk0 hk1 hk2 rfl .i64 .i64 512 (by omega) (by unfold maxLen;omega) wr;have hS1:=hT.sep.made 5 (.int .u8 0) 512 (by unfold maxLen;omega);have hby:=hv'.out.now (X:=[_,_,_,_]) hS1;(obtain⟨ad0,rfl,hsub⟩:∃ad0,A0=some ad0∧BytesAt (wr.alloc (.cells (madeCells #[.int .u8 0] 512) 5)) (.slice (some (ad0.add o)) (L-o) (c0-o)) ((bs.drop o).take (L-o)):=by obtain⟨ad0,e,_⟩:=hby.byte (j:=0) (by rw[←hL'.out];omega);subst e;exact⟨ad0,rfl,hby.sub (by rw[←hL'.out];omega)⟩);(have hsl:((bs.drop o).take (L-o)).length=L-o:=by rw[List.length_take,List.length_drop,←hL'.out];omega);obtain⟨w7,hcp,hS7,hz7⟩:=hS1.copy_run (P:=Tryz.prog) 0 rfl 35 35 3 Tryz.underlying35 size_byte 0 512 512 (.slice (some (ad0.add o)) (L-o) (c0-o)) (L-o) (((bs.drop o).take (L-o)).map byt) (by unfold BytesAt at hsub;rw[hsl]at hsub;exact hsub) byt_one (by omega);have hch:layC (List.replicate 512 (Value.int .u8 0)) 0 ((((bs.drop o).take (L-o)).map byt).take (min (L-o) 512))=(chunkB bs k).map byt:=by
    rw[←zeroB_map,←List.map_take,←layC_map];unfold chunkB;congr 1;unfold layB layC;have e:((bs.drop o).take (L-o)).take (min (L-o) 512)=(bs.drop (512*k)).take 512:=by
     rw[List.take_take,ho,Nat.mul_comm];apply List.ext_getElem?;intro j;rw[List.getElem?_take,List.getElem?_take];by_cases hj:j<512
     ·by_cases hj2:j<L-512*k
      ·rw[if_pos (by omega),if_pos hj]
      rw[if_neg (by omega),if_pos hj,List.getElem?_drop,List.getElem?_eq_none (by rw[←hL'.out];omega)]
     rw[if_neg (by omega),if_neg hj]
    rw[e]
   (have hS8:Sep w0 w7 (bytesR (.slice (some ⟨wr.heap.size,0,none⟩) 512 512) (chunkB bs k)::volR f q p T a3:: .box bx 118 (infoC {x with size:=L,spots:=l} (.slice (some ad) m c8))::intsR (.slice (some ad) m c8) (spI l)::R):=by rw[bytesR_of (chunkB_len bs k),←hch];exact hS7);have hV:Sep w0 w7.drew (volR f q p T a3::bytesR (.slice (some ⟨wr.heap.size,0,none⟩) 512 512) (chunkB bs k):: .box bx 118 (infoC {x with size:=L,spots:=l} (.slice (some ad) m c8))::intsR (.slice (some ad) m c8) (spI l)::R):=(hS8.perm (List.Perm.swap _ _ _)).drew;have hLk:=y3'.out.trans hT.like;have hF2:=hLk.vf hF'.out;have hda:=data_any hT.ok hF2 hV.fs_cells.c3;(have hbound:T.data+s<T.nb-96:=by rw[←hLk.count]at hsc;unfold VS.count at hsc;omega);(have hd4:(T.data+s:Nat)≤4096:=by have:=hT.ok.dok.few;omega);have hpu:=put_blk (v:=.slice (some ⟨wr.heap.size,0,none⟩) 512 512) (bs:=chunkB bs k) hT.ok hbound ((hV.vol_cut hT.ok (T.data+s)).perm (List.Perm.swap _ _ _));have hnx:FillI f q p S1 bs l (k+1) w0 w7 R (T.put (T.data+s) (chunkB bs k)) (a3.put (T.data+s) (.slice (some ⟨wr.heap.size,0,none⟩) 512 512) (chunkB bs k))∨True:=.inr trivial;(have heq:laysP bs (l.drop (k+1)) (k+1) (T.put (T.data+s) (chunkB bs k))=laysP bs l 0 S1:=by rw[←hT.eq,List.drop_eq_getElem_cons hlx,←hs];rfl);have hC4:=hT.ok.put (.slice (some ⟨wr.heap.size,0,none⟩) 512 512) hbound (chunkB_len bs k);have hL4:=hT.like.put (T.data+s) (chunkB bs k);obtain⟨d,hd⟩:∃d,d=T.data:=⟨_,rfl⟩;rw[←hd]at hda hd4 hpu hC4 hL4 heq;rw[show((d+s:Nat):Int)=(d:Int)+s by omega]at hpu;(have q1:(k:Int)<m:=by omega);(have q0:(0:Int)≤k:=by omega);(have q2:(k:Int)*512≤L:=by omega);have q3:IntKind.i64.wrap ((d:Int)+s)=d+s:=IntWalk.i64_in _ (by omega);(have q6:¬c0=k*512:=by obtain⟨_,A,c,e,h1,_⟩:=hby;cases e;have:=hL'.out;omega);(have q5:(L:Int)≤c0:=by obtain⟨_,A,c,e,h1,_⟩:=hby;cases e;have:=hL'.out;omega);replace hC4:=Lh hC4;replace hL4:=Lh hL4;replace heq:=Lh heq;replace hda:=Lh hda;replace hpu:=Lh hpu;subst ho;clear hT hll hlx hs hsk hsc hkL hS1 hby hsub hsl hS7 hch hS8 hV hLk hF2 hbound hd4 hd hnx hz7;have hds:Hid (d=d):=Lh rfl;go_wp2_with fail;refine wp_region_E (S:=fun _=>True) 11 (by kernel_rfl) ?_;simp only[List.size_toArray,List.length_cons,List.length_nil,Nat.reduceAdd];refine wpE_tk (i:=0) (v:=?_) trivial rfl ?_ ?_;rotate_left
   ·rintro w e1;go_simp;try with_reducible rfl
   simp only[Act.put,gD];refine wpE_tk (i:=1) (v:=?_) trivial rfl ?_ ?_;rotate_left
   ·rintro w e1;go_simp;try with_reducible rfl
   simp only[Act.put,gD];refine wpE_tk (i:=2) (v:=?_) trivial rfl ?_ ?_;rotate_left
   ·rintro w e1;go_simp;try with_reducible rfl
   simp only[Act.put,gD];refine wpE_tk (i:=3) (v:=?_) trivial rfl ?_ ?_;rotate_left
   ·rintro w e1;go_simp;try with_reducible rfl
   simp only[Act.put,gD];refine wpE_tk (i:=4) (v:=?_) trivial rfl ?_ ?_;rotate_left
   ·rintro w e1;go_simp;try with_reducible rfl
   simp only[Act.put,gD];refine wpE_tk (i:=5) (v:=?_) trivial rfl ?_ ?_;rotate_left
   ·rintro w e1;go_simp;try with_reducible rfl
   simp only[Act.put,gD];refine wpE_tk (i:=7) (v:=?_) trivial rfl ?_ ?_;rotate_left
   ·rintro w e1;go_simp;try with_reducible rfl
   simp only[Act.put,gD];refine wpE_tk (i:=9) (v:=?_) trivial rfl ?_ ?_;rotate_left
   ·rintro w e1;go_simp;try with_reducible rfl
   simp only[Act.put,gD];refine wpE_one (i:=6) (by kernel_rfl) rfl (fun K hK=>?_);go_simp;go_at_call 120;refine hda.out.mono ?_;rintro e w6 ⟨rfl,h6⟩;obtain rfl:=h6.symm;dsimp only;refine hK _ _ (fun _=>trivial) ?_;clear hK K;(try simp only[Act.put,gD]);refine wpE_one (i:=8) (by kernel_rfl) rfl (fun K hK=>?_);go_simp;refine hK _ _ (fun _=>trivial) ?_;clear hK K;(try simp only[Act.put,gD]);refine wpE_one (i:=10) (by kernel_rfl) rfl (fun K hK=>?_);go_simp;go_at_call 88;refine hpu.out.mono ?_;rintro e w5 ⟨rfl,h5⟩;replace h5:=Lh h5;dsimp only;refine hK _ _ (fun _=>trivial) ?_;clear hK K;(try simp only[Act.put,gD]);refine wpE_done (by kernel_rfl) ?_ _;go_wp2_with fail;exact⟨⟨k+1,by omega,rfl,Lh ⟨_,_,heq.out,hL4.out,hC4.out,h5.out⟩⟩,by simp[intOf];omega⟩
  (obtain rfl:k=m:=by omega);have e1:=hT.eq;rw[List.drop_of_length_le (by rw[y2'.out];exact Nat.le_refl _)]at e1;have e2:T=laysP bs l 0 S1:=e1;(have c:=fun j=>hT.sep.bC 1 rfl j);have c0':wr.cell? ⟨bx,0,none⟩=some (.int .i64 (x.kind:Nat)):=c 0;have c1':wr.cell? ⟨bx,1,none⟩=some (.int .i64 (x.mode:Nat)):=c 1;have c2':wr.cell? ⟨bx,2,none⟩=some (.int .i64 (x.links:Nat)):=c 2;have c3':wr.cell? ⟨bx,3,none⟩=some (.int .i64 (L:Nat)):=c 3;have c4':wr.cell? ⟨bx,4,none⟩=some (.slice A8 k c8):=c 4;have hkp:=y6'.out T wr bx _ a3 e2 hT.ok hT.sep;unfold infoV infoC at hkp;have e2':=Lh e2;clear hT e1 e2 c;go_wp2_with(go_at_call 90;refine hkp.mono ?_;rintro e w5 ⟨rfl,h5⟩;replace h5:=Lh h5)
  go_end0
  rw[e2'.out]at h5;unfold opOut;exact⟨rfl,h5.out⟩
end
end Go.Proofs.YteihmbaimbogaaaGreat
