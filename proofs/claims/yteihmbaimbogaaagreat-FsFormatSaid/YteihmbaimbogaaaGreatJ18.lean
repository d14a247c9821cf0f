/- FtO, FtP, laid together. -/
import Derived.Test.YteihmbaimbogaaaGreatJ16
import Derived.Test.YteihmbaimbogaaaGreatJ17
namespace Go.Proofs.YteihmbaimbogaaaGreat
open Go.RowKit
set_option linter.unusedVariables false
set_option linter.unusedSimpArgs false
def VS.node (S:VS) (z:Int):VS:= {S with nodes:=z}
def enterP (S:VS) (dir:Nat) (name:List UInt8) (n:Nat):Option VS:=
 match fitP (S.node (S.nodes+1)) (inoP S.cur dir).spots (((inoP S.cur dir).size+16)/16)with
 |none=>none
 |some (S1,l)=>some ((S1.keep dir {inoP S.cur dir with size:=(inoP S.cur dir).size+1,spots:=l}).setE (l.getD ((inoP S.cur dir).size/16) 0) (inoP S.cur dir).size name n)
theorem intsT_part {w0:World} {R:List Asn} {v:Value} {l:List Nat} (i:Nat) (h:R[i]? =some (intsR v (spI l))):intsT w0 R v l:=fun w' X hX=>by have:=hX.rd (X.length+i) ((List.getElem?_append_right (by omega)).trans (by rw[Nat.add_sub_cancel_left];exact h));unfold spI at this;rw[List.length_map]at this;exact this
section
variable {w0 w:World} {R:List Asn} {f q p:Nat} {S:VS} {a:VA}
theorem VC.node (h:VC S a) (z:Int):VC (S.node z) a:=⟨h.dok,h.big,h.on,h.cur,h.seen,h.fresh,h.rest,h.few,h.none⟩
theorem VF.node (h:VF S) (z:Int):VF (S.node z):=⟨h.names,h.room⟩
theorem Sep.vol_node (h:Sep w0 w (volR f q p S a::R)) (z:Int):Sep w0 (w.setCell ⟨f,6,none⟩ (.int .i64 z)) (volR f q p (S.node z) a::R):=by have h1:=h.starL_open.bS 0 rfl 6 (.int .i64 z);have h2:Sep w0 (w.setCell ⟨f,6,none⟩ (.int .i64 z)) (volP f q p (S.node z) a++R):=h1;exact h2.starL_shut
theorem Sep.vol_frozen (h:Sep w0 w (volR f q p S a::R)) (j:Nat):w.frozen? ⟨f,j,none⟩=false:=h.starL_open.bF 0 rfl j
theorem Sep.info_cells {As:List Asn} {b:Nat} {x:VI} {v:Value} (i:Nat) (h:Sep w0 w As) (hi:As[i]? =some (.box b 118 (infoC x v))):
  w.cell? ⟨b,0,none⟩=some (.int .i64 (x.kind:Nat))∧w.cell? ⟨b,1,none⟩=some (.int .i64 (x.mode:Nat))∧w.cell? ⟨b,2,none⟩=some (.int .i64 (x.links:Nat))∧w.cell? ⟨b,3,none⟩=some (.int .i64 (x.size:Nat))∧w.cell? ⟨b,4,none⟩=some v:=by
 have z:=fun j=>h.bC i hi j
 exact⟨z 0,z 1,z 2,z 3,z 4⟩
theorem Used.small {T:VS} {k:Nat} (h:Used S T k) (hW:SmallW S):SmallW T:=⟨by rw[h.wB];exact hW.b0,by rw[h.wB];exact hW.b1,by rw[h.wI];exact hW.i0,by rw[h.wI];exact hW.i1⟩
set_option maxRecDepth 100000 in
set_option maxHeartbeats 4000000 in
theorem enter_any {dir n:Nat} {name:List UInt8} (hC:VC S a) (hF:VF S) (hdir:dir<S.names) (hok:(inoP S.cur dir).spots.length≤28) (hsp:∀s∈(inoP S.cur dir).spots,s<S.count) (hsz:(inoP S.cur dir).size<448) (hW:SmallW S) (hnd: -1000000≤S.nodes∧S.nodes≤1000000) (hname:name.length≤15) (hn:n≤65535) (h:Sep w0 w (volR f q p S a::R)):
  Calls Tryz.prog 104 #[.pointer (some ⟨f,0,none⟩),.int .i64 dir,strV name,.int .i64 n] w (opOut f q p S (enterP S dir name n) w0 R):=by
 have hin:=inode_any hC hF hdir hok h;obtain⟨x,hx⟩:∃x,x=inoP S.cur dir:=⟨_,rfl⟩;have hxo:x.ok:=by rw[hx];exact viD_ok (by have:=hok;unfold inoP at this;exact this)
 rw[←hx]at hin hok hsp hsz;obtain⟨m,hm⟩:∃m,m=(x.size+16)/16:=⟨_,rfl⟩;have hm28:m≤28:=by omega
 have hpt:=fun w=>parts_fs (n:=x.size+1) (by':=16) (by omega) (by omega) (by omega) w
 rw[show x.size+1+16-1=x.size+16 by omega,←hm,show((x.size+1:Nat):Int)=(x.size:Int)+1 by omega]at hpt;obtain⟨S0,hS0⟩:∃S0,S0=S.node (S.nodes+1):=⟨_,rfl⟩;have hL0:Like S S0:=by rw[hS0];exact⟨rfl,rfl,rfl,rfl,rfl⟩
 have hft:Hid (∀W bx u a1,VC S a1→Sep w0 W (volR f q p S0 a1:: .box bx 118 (infoC {x with size:=x.size+1} u)::intsR u (spI x.spots)::R)→
   Calls Tryz.prog 89 #[.pointer (some ⟨f,0,none⟩),.pointer (some ⟨bx,0,none⟩),.int .i64 m] W (fitOut f q p S0 {x with size:=x.size+1} m bx w0 R)):=Lh fun W bx u a1 hC1 hS=>
  fit_any (x:= {x with size:=x.size+1}) (n:=m) (by rw[hS0];exact hC1.node _) (by rw[hS0];exact hF.node _) hok hm28 (fun s hs=>by rw[hL0.count];exact hsp s hs) hS
 have hvol:Hid (∀W a1 R',Sep w0 W (volR f q p S a1::R')→(W.cell? ⟨f,6,none⟩=some (.int .i64 S.nodes)∧W.frozen? ⟨f,6,none⟩=false)∧Sep w0 (W.setCell ⟨f,6,none⟩ (.int .i64 (S.nodes+1))) (volR f q p S0 a1::R')):=Lh fun W a1 R' hS=>⟨⟨hS.fs_cells.c6,hS.vol_frozen 6⟩,by rw[hS0];exact hS.vol_node _⟩
 obtain⟨nd,hnd'⟩:∃nd,nd=S.nodes:=⟨_,rfl⟩;rw[←hnd']at hnd hvol;have n1:=hnd.1;have n2:=hnd.2;have x1:(x.size:Int)<448:=by omega
 have x0:(0:Int)≤x.size:=by omega
 have e1:(((x.size+1:Nat)):Int)=(x.size:Int)+1:=by omega
 cases hfp:fitP S0 x.spots m with
 |none=>
  (have hres:enterP S dir name n=none:=by unfold enterP;rw[←hx,←hm,←hS0,hfp]);rw[hres];have hft3:Hid (∀W bx u a1,VC S a1→Sep w0 W (volR f q p S0 a1:: .box bx 118 (infoC {x with size:=x.size+1} u)::intsR u (spI x.spots)::R)→
   Calls Tryz.prog 89 #[.pointer (some ⟨f,0,none⟩),.pointer (some ⟨bx,0,none⟩),.int .i64 m] W fun e w'=>e= .panicked (stopF 27)∧∃S1 a1,Like S S1∧VC S1 a1∧Sep w0 w' (volR f q p S1 a1::R)):=Lh fun W bx u a1 hC1 hS=>by
   refine(hft.out W bx u a1 hC1 hS).mono ?_
   intro e w' ho
   unfold fitOut at ho
   have hfp':fitP S0 ({x with size:=x.size+1}:VI).spots m=none:=hfp
   rw[hfp']at ho
   obtain⟨rfl,S1,a1,g1,g2,g3⟩:=ho
   exact⟨rfl,S1,a1,hL0.trans g1,g2,g3⟩
  clear hC hF hdir hok hsp hsz hW hnd h hx hxo hm hm28 hS0 hL0 hft hfp hres hname hn hnd';unfold infoV strV at*;go_enter Tryz.func104,Tryz.ntmps104;go_wp2_with(first |(go_at_call 64;refine hin.mono ?_;rintro e w9 ⟨v,a1,rfl,hR,h9⟩;(obtain⟨A9,c9,e9⟩:=h9.sl_shape 0 rfl);subst e9;(have hs:Sep w0 (w9.alloc (.cells #[.int .i64 (x.kind:Nat),.int .i64 (x.mode:Nat),.int .i64 (x.links:Nat),.int .i64 ((x.size:Int)+1),.slice A9 (spI x.spots).length c9] 118)) (.box w9.heap.size 118 (infoC {x with size:=x.size+1} (.slice A9 (spI x.spots).length c9))::intsR (.slice A9 (spI x.spots).length c9) (spI x.spots)::volR f q p S a1::R):=h9.bN 118 _);(obtain⟨⟨k6,f6⟩,hs3⟩:=hvol.out _ _ _ (Sep.sel [2,0,1] hs (by decide) (by simp)));(have k3:=(hs3.drew.info_cells 1 rfl).2.2.2.1);(have hft4:=hft3.out _ _ _ _ hR.ok hs3.drew);replace hs3:=Lh hs3;clear hs h9 hR hin hvol hft3;unfold infoC at hft4 ⊢));rw[e1]at k3;refine wp_region_E (S:=fun w'=>w'.cell? ⟨w9.heap.size,3,none⟩=some (.int .i64 ((x.size:Int)+1))) 7 (by kernel_rfl) ?_;simp only[List.size_toArray,List.length_cons,List.length_nil,Nat.reduceAdd];refine wpE_tk (i:=0) (v:=?_) k3 rfl ?_ ?_;rotate_left
  ·rintro w e1;go_simp;try with_reducible rfl
  simp only[Act.put,gD];refine wpE_tk (i:=1) (v:=?_) k3 rfl ?_ ?_;rotate_left
  ·rintro w e1;go_simp;try with_reducible rfl
  simp only[Act.put,gD];refine wpE_tk (i:=2) (v:=?_) k3 rfl ?_ ?_;rotate_left
  ·rintro w e1;go_simp;try with_reducible rfl
  simp only[Act.put,gD];refine wpE_tk (i:=3) (v:=?_) k3 rfl ?_ ?_;rotate_left
  ·rintro w e1;go_simp;try with_reducible rfl
  simp only[Act.put,gD];refine wpE_tk (i:=4) (v:=?_) k3 rfl ?_ ?_;rotate_left
  ·rintro w e1;go_simp;try with_reducible rfl
  simp only[Act.put,gD];refine wpE_one (i:=5) (by kernel_rfl) rfl (fun K hK=>?_);go_simp;go_at_call 85;refine(hpt _).mono ?_;rintro e w8 ⟨rfl,h8⟩;obtain rfl:=h8.symm;dsimp only;refine hK _ _ (fun _=>k3) ?_;clear hK K;(try simp only[Act.put,gD]);refine wpE_one (i:=6) (by kernel_rfl) rfl (fun K hK=>?_);go_simp;go_at_call 89;refine hft4.mono ?_;rintro e w7 ⟨rfl,hend⟩;exact⟨rfl,rfl,hend⟩
 |some r=>
  obtain⟨S1,l⟩:=r;have hU:=fitP_used hfp;have hk1:=fitP_like hfp;have hlt:=fitP_lt hfp (fun s hs=>by rw[hL0.count];exact hsp s hs);(have hi0:inoP S1.cur dir=x:=by rw[hU.1.ino,hS0];exact hx.symm);obtain⟨y,hy⟩:∃y:VI,y= {x with size:=x.size+1,spots:=l}:=⟨_,rfl⟩;(have hyo:y.ok:=by rw[hy];exact⟨hxo.kind,hxo.mode,hxo.links,by show x.size+1<65536;omega,by show l.length≤28;rw[hU.2];exact hm28,fun s hs=>by have h2:=hlt s hs;have h3:=hC.dok.few;rw[hL0.count]at h2;unfold VS.count at h2;omega⟩);(have hil:x.size/16<l.length:=by rw[hU.2,hm];omega);obtain⟨s,hs⟩:∃s,s=l.getD (x.size/16) 0:=⟨_,rfl⟩;(have hsl:l[x.size/16]? =some s:=by rw[hs,gH,gE hil];rfl);(have hres:enterP S dir name n=some ((S1.keep dir y).setE s x.size name n):=by unfold enterP;rw[←hx,←hm,←hS0,hfp,hy,hs]);rw[hres];have hF1:VF S1:=(hL0.trans hk1).vf hF;have hn1:S1.names=S.names:=(hL0.trans hk1).names;have hW1:SmallW S1:=hU.1.small (by rw[hS0];exact⟨hW.b0,hW.b1,hW.i0,hW.i1⟩);have hft3:Hid (∀W bx u a1,VC S a1→Sep w0 W (volR f q p S0 a1:: .box bx 118 (infoC {x with size:=x.size+1} u)::intsR u (spI x.spots)::R)→
   Calls Tryz.prog 89 #[.pointer (some ⟨f,0,none⟩),.pointer (some ⟨bx,0,none⟩),.int .i64 m] W fun e w'=>e= .returned (.tuple #[])∧∃a1 A c,VC S1 a1∧Sep w0 w' (volR f q p S1 a1:: .box bx 118 (infoC y (.slice A m c))::intsR (.slice A m c) (spI l)::R)):=Lh fun W bx u a1 hC1 hS=>by
   refine(hft.out W bx u a1 hC1 hS).mono ?_
   intro e w' ho
   unfold fitOut at ho
   have hfp':fitP S0 ({x with size:=x.size+1}:VI).spots m=some (S1,l):=hfp
   rw[hfp']at ho
   obtain⟨rfl,a2,v2,_,h2,h3⟩:=ho
   obtain⟨A,c,e⟩:=h3.sl_shape 2 rfl
   have hl:(spI l).length=m:=by unfold spI;rw[List.length_map];exact hU.2
   rw[hl]at e
   subst e
   rw[hy]
   exact⟨rfl,a2,A,c,h2,h3⟩
  have hkp:Hid (∀W bx u a2,VC S1 a2→Sep w0 W (volR f q p S1 a2:: .box bx 118 (infoC y u)::intsR u (spI l)::R)→
   Calls Tryz.prog 90 #[.pointer (some ⟨f,0,none⟩),.int .i64 dir,infoV y u] W fun e w'=>e= .returned (.tuple #[])∧∃a',VC (S1.keep dir y) a'∧Sep w0 w' (volR f q p (S1.keep dir y) a':: .box bx 118 (infoC y u)::intsR u (spI l)::R)):=Lh fun W bx u a2 hC1 hS=>
   keep_any hC1 hF1 (by rw[hn1];exact hdir) hyo (by rw[hi0];exact hok) hW1 (intsT_part 1 (by rw[hy];rfl)) hS
  have hst:Hid (∀W bx u a2,VC (S1.keep dir y) a2→Sep w0 W (volR f q p (S1.keep dir y) a2:: .box bx 118 (infoC y u)::intsR u (spI l)::R)→
   Calls Tryz.prog 151 #[.pointer (some ⟨f,0,none⟩),infoV y u,.int .i64 x.size,strV name,.int .i64 n] W fun e w'=>e= .returned (.tuple #[])∧∃a',VC ((S1.keep dir y).setE s x.size name n) a'∧Sep w0 w' (volR f q p ((S1.keep dir y).setE s x.size name n) a'::R)):=Lh fun W bx u a2 hC1 hS=>by
   refine(set_any hC1 hF1.keep (intsT_part (l:=y.spots) 1 (by rw[hy];rfl)) (i:=x.size) (s:=s) (by rw[hy];exact hsl) (by have:=hlt s (gG hsl);rw[←hk1.count]at this;exact this) hyo.few hname hn hS).mono ?_
   rintro e w' ⟨rfl,a',h5,h6⟩
   have h7:Sep w0 w' (.box bx 118 (infoC y u)::intsR u (spI l)::volR f q p ((S1.keep dir y).setE s x.size name n) a'::R):=Sep.sel [1,2,0] h6 (by decide) (by simp)
   exact⟨rfl,a',h5,h7.drop 2⟩
  (have hyc:Hid (∀W As bx u,As[1]? =some (.box bx 118 (infoC y u))→Sep w0 W As→W.cell? ⟨bx,0,none⟩=some (.int .i64 (x.kind:Nat))∧W.cell? ⟨bx,1,none⟩=some (.int .i64 (x.mode:Nat))∧W.cell? ⟨bx,2,none⟩=some (.int .i64 (x.links:Nat))∧W.cell? ⟨bx,3,none⟩=some (.int .i64 ((x.size:Int)+1))∧W.cell? ⟨bx,4,none⟩=some u):=Lh fun W As bx u hi hS=>by have:=hS.info_cells 1 hi;rw[hy]at this;exact this);(have hyv:Hid (∀u,infoV y u= .agg #[.int .i64 (x.kind:Nat),.int .i64 (x.mode:Nat),.int .i64 (x.links:Nat),.int .i64 ((x.size:Int)+1),u]):=Lh fun u=>by rw[hy];rfl);clear hC hF hdir hok hsp hsz hW hnd h hx hxo hm hm28 hS0 hL0 hft hfp hres hname hn hnd' hU hk1 hlt hi0 hyo hil hs hsl hF1 hn1 hW1;clear hy;unfold strV at*;unfold infoV at hin;go_enter Tryz.func104,Tryz.ntmps104;go_wp2_with(first |(go_at_call 64;refine hin.mono ?_;rintro e w9 ⟨v,a1,rfl,hR,h9⟩;(obtain⟨A9,c9,e9⟩:=h9.sl_shape 0 rfl);subst e9;(have hs:Sep w0 (w9.alloc (.cells #[.int .i64 (x.kind:Nat),.int .i64 (x.mode:Nat),.int .i64 (x.links:Nat),.int .i64 ((x.size:Int)+1),.slice A9 (spI x.spots).length c9] 118)) (.box w9.heap.size 118 (infoC {x with size:=x.size+1} (.slice A9 (spI x.spots).length c9))::intsR (.slice A9 (spI x.spots).length c9) (spI x.spots)::volR f q p S a1::R):=h9.bN 118 _);(obtain⟨⟨k6,f6⟩,hs3⟩:=hvol.out _ _ _ (Sep.sel [2,0,1] hs (by decide) (by simp)));(have k3:=(hs3.drew.info_cells 1 rfl).2.2.2.1);(have hft4:=hft3.out _ _ _ _ hR.ok hs3.drew);replace hs3:=Lh hs3;clear hs h9 hR hin hvol hft3;unfold infoC at hft4 ⊢));rw[e1]at k3;refine wp_region_E (S:=fun w'=>w'.cell? ⟨w9.heap.size,3,none⟩=some (.int .i64 ((x.size:Int)+1))) 7 (by kernel_rfl) ?_;simp only[List.size_toArray,List.length_cons,List.length_nil,Nat.reduceAdd];refine wpE_tk (i:=0) (v:=?_) k3 rfl ?_ ?_;rotate_left
  ·rintro w e1;go_simp;try with_reducible rfl
  simp only[Act.put,gD];refine wpE_tk (i:=1) (v:=?_) k3 rfl ?_ ?_;rotate_left
  ·rintro w e1;go_simp;try with_reducible rfl
  simp only[Act.put,gD];refine wpE_tk (i:=2) (v:=?_) k3 rfl ?_ ?_;rotate_left
  ·rintro w e1;go_simp;try with_reducible rfl
  simp only[Act.put,gD];refine wpE_tk (i:=3) (v:=?_) k3 rfl ?_ ?_;rotate_left
  ·rintro w e1;go_simp;try with_reducible rfl
  simp only[Act.put,gD];refine wpE_tk (i:=4) (v:=?_) k3 rfl ?_ ?_;rotate_left
  ·rintro w e1;go_simp;try with_reducible rfl
  simp only[Act.put,gD];refine wpE_one (i:=5) (by kernel_rfl) rfl (fun K hK=>?_);go_simp;go_at_call 85;refine(hpt _).mono ?_;rintro e w8 ⟨rfl,h8⟩;obtain rfl:=h8.symm;dsimp only;refine hK _ _ (fun _=>k3) ?_;clear hK K;(try simp only[Act.put,gD]);refine wpE_one (i:=6) (by kernel_rfl) rfl (fun K hK=>?_);go_simp;go_at_call 89;refine hft4.mono ?_;rintro e w7 ⟨rfl,a2,A7,c7,hC2,h7⟩;have k4:=hyc.out _ _ _ _ rfl h7;have k5:w7.cell? ⟨w9.heap.size,3,none⟩=some (.int .i64 ((x.size:Int)+1)):=k4.2.2.2.1;have hkp2:=hkp.out _ _ _ _ hC2 h7.drew;rw[hyv.out]at hkp2;replace h7:=Lh h7;clear hft4 hC2 hkp k3;dsimp only;refine hK _ _ (fun _=>k5) ?_;clear hK K;(try simp only[Act.put,gD]);refine wpE_done (by kernel_rfl) ?_ _;clear k5;go_wp2_with fail;refine wp_region_E (S:=fun w'=>w'.cell? ⟨w9.heap.size,0,none⟩=some (.int .i64 (x.kind:Nat))∧w'.cell? ⟨w9.heap.size,1,none⟩=some (.int .i64 (x.mode:Nat))∧w'.cell? ⟨w9.heap.size,2,none⟩=some (.int .i64 (x.links:Nat))∧w'.cell? ⟨w9.heap.size,3,none⟩=some (.int .i64 ((x.size:Int)+1))∧w'.cell? ⟨w9.heap.size,4,none⟩=some (.slice A7 m c7)) 6 (by kernel_rfl) ?_;simp only[List.size_toArray,List.length_cons,List.length_nil,Nat.reduceAdd];(have k4':=show w7.drew.cell? ⟨w9.heap.size,0,none⟩=some (.int .i64 (x.kind:Nat))∧w7.drew.cell? ⟨w9.heap.size,1,none⟩=some (.int .i64 (x.mode:Nat))∧w7.drew.cell? ⟨w9.heap.size,2,none⟩=some (.int .i64 (x.links:Nat))∧w7.drew.cell? ⟨w9.heap.size,3,none⟩=some (.int .i64 ((x.size:Int)+1))∧w7.drew.cell? ⟨w9.heap.size,4,none⟩=some (.slice A7 m c7)from k4);refine wpE_tk (i:=0) (v:=?_) k4' rfl ?_ ?_;rotate_left
  ·rintro w ⟨e1,e2,e3,e4,e5⟩;go_simp;try with_reducible rfl
  simp only[Act.put,gD];refine wpE_tk (i:=1) (v:=?_) k4' rfl ?_ ?_;rotate_left
  ·rintro w ⟨e1,e2,e3,e4,e5⟩;go_simp;try with_reducible rfl
  simp only[Act.put,gD];refine wpE_tk (i:=2) (v:=?_) k4' rfl ?_ ?_;rotate_left
  ·rintro w ⟨e1,e2,e3,e4,e5⟩;go_simp;try with_reducible rfl
  simp only[Act.put,gD];refine wpE_tk (i:=3) (v:=?_) k4' rfl ?_ ?_;rotate_left
  ·rintro w ⟨e1,e2,e3,e4,e5⟩;go_simp;try with_reducible rfl
  simp only[Act.put,gD];refine wpE_tk (i:=4) (v:=?_) k4' rfl ?_ ?_;rotate_left
  ·rintro w ⟨e1,e2,e3,e4,e5⟩;go_simp;try with_reducible rfl
  simp only[Act.put,gD];refine wpE_one (i:=5) (by kernel_rfl) rfl (fun K hK=>?_);go_simp;go_at_call 90;refine hkp2.mono ?_;rintro e w6 ⟨rfl,a3,hC3,h6⟩;have k6':=hyc.out _ _ _ _ rfl h6;have hst2:=hst.out _ _ _ _ hC3 h6;rw[hyv.out]at hst2;clear k4 k4' hkp2 h7 hC3 h6 hst;dsimp only;refine hK _ _ (fun _=>k6') ?_;clear hK K;(try simp only[Act.put,gD]);refine wpE_done (by kernel_rfl) ?_ _;obtain⟨d0,d1,d2,d3,d4⟩:=k6';go_wp2_with(go_at_call 151;refine hst2.mono ?_;rintro e w5 ⟨rfl,h5⟩;replace h5:=Lh h5)
  go_end0
  unfold opOut;exact⟨rfl,h5.out⟩
end
def leave2 (S:VS) (x:VI) (name:List UInt8):VS:=
 let L:=dirL S.cur S.data x
 let i:=(lookE L name).1.toNat
 let e:=eat L (x.size-1)
 (S.setE (x.spots.getD (i/16) 0) i e.1 e.2).setE (x.spots.getD ((x.size-1)/16) 0) (x.size-1) [] 0
def leaveP (S:VS) (dir:Nat) (name:List UInt8):VS:=
 let x:=inoP S.cur dir
 let S2:=leave2 S x name
 match fitP (S2.node (S2.nodes-1)) x.spots (max 1 ((x.size+14)/16))with
 |none=>S2
 |some (S4,l)=>S4.keep dir {x with size:=x.size-1,spots:=l}
theorem Laid.setE (S:VS) (s i:Nat) (name:List UInt8) (n:Nat):Laid S (S.setE s i name n) 1:=(Laid.refl S).put s _
theorem leave2_laid (S:VS) (x:VI) (name:List UInt8):Laid S (leave2 S x name) 2:=(Laid.setE S _ _ _ _).trans (Laid.setE _ _ _ _ _)
section
variable {w0 w:World} {R:List Asn} {f q p:Nat} {S:VS} {a:VA}
set_option maxRecDepth 100000 in
set_option maxHeartbeats 4000000 in
theorem leave_any {dir:Nat} {name:List UInt8} (hC:VC S a) (hF:VF S) (hdir:dir<S.names) (hD:DirOk S (inoP S.cur dir)) (hW:SmallW S) (hnd: -1000000≤S.nodes∧S.nodes≤1000000) (hname:name.length≤15)
  (hfound:∃i:Nat,i<(inoP S.cur dir).size∧(lookE (dirL S.cur S.data (inoP S.cur dir)) name).1=i) (hlast:(eat (dirL S.cur S.data (inoP S.cur dir)) ((inoP S.cur dir).size-1)).1.length≤15) (hroom:(inoP S.cur dir).spots.length=max 1 (((inoP S.cur dir).size+15)/16)) (h:Sep w0 w (volR f q p S a::R)):
  Calls Tryz.prog 100 #[.pointer (some ⟨f,0,none⟩),.int .i64 dir,strV name] w fun e w'=>e= .returned (.tuple #[])∧∃a',VC (leaveP S dir name) a'∧Sep w0 w' (volR f q p (leaveP S dir name) a'::R):=by
 have hok:=hD.few;have hin:=inode_any hC hF hdir hok h;obtain⟨x,hx⟩:∃x,x=inoP S.cur dir:=⟨_,rfl⟩;have hxo:x.ok:=by rw[hx];exact viD_ok (by have:=hok;unfold inoP at this;exact this)
 rw[←hx]at hin hok hD hfound hlast hroom;obtain⟨i,hi,hfi⟩:=hfound;obtain⟨L,hL⟩:∃L,L=dirL S.cur S.data x:=⟨_,rfl⟩;have hfd:Hid (∀W u bx a1,VC S a1→Sep w0 W (volR f q p S a1:: .box bx 118 (infoC x u)::intsR u (spI x.spots)::R)→Calls Tryz.prog 117 #[.pointer (some ⟨f,0,none⟩),infoV x u,strV name] W fun e w'=>e= .returned (.tuple #[.int .i64 i,.int .i64 ((lookE L name).2:Nat)])∧∃a',VC S a'∧Sep w0 w' (volR f q p S a':: .box bx 118 (infoC x u)::intsR u (spI x.spots)::R)):=Lh fun W u bx a1 hC1 hS=>by refine(find_any (name:=name) hC1 hF (intsT_part 1 rfl) hD hS).mono ?_;rintro e w' ⟨rfl,a',hR,h9⟩;exact⟨by rw[hfi,hL],a',hR.ok,h9⟩
 rw[←hL]at hfi hlast;obtain⟨k,hk⟩:∃k,k=x.size-1:=⟨_,rfl⟩;have hks:x.size=k+1:=by omega
 have hk5:k<448:=by have:=hD.room;omega
 obtain⟨E,hE⟩:∃E,E=eat L k:=⟨_,rfl⟩;have hen:Hid (∀W u bx a1,VC S a1→Sep w0 W (volR f q p S a1:: .box bx 118 (infoC x u)::intsR u (spI x.spots)::R)→Calls Tryz.prog 69 #[.pointer (some ⟨f,0,none⟩),infoV x u,.int .i64 k] W fun e w'=>e= .returned (.tuple #[strV E.1,.int .i64 (E.2:Nat)])∧∃a',VC S a'∧Sep w0 w' (volR f q p S a':: .box bx 118 (infoC x u)::intsR u (spI x.spots)::R)):=Lh fun W u bx a1 hC1 hS=>by refine(entry_dir (i:=k) hC1 hF (intsT_part 1 rfl) hD (by omega) hS).mono ?_;rintro e w' ⟨rfl,a',hR,h9⟩;exact⟨by rw[hE,hL,dirL_at (by omega)],a',hR.ok,h9⟩
 have hE2:E.2≤65535:=by rw[hE,hL,dirL_at (by omega)];have:=r2_lt (entAt S.cur S.data x k) 16;unfold enI;omega
 have hE1:E.1.length≤15:=by rw[hE,hk];exact hlast
 obtain⟨s1,hs1a,hs1b,hs1c⟩:=hD.spot hi;obtain⟨s2,hs2a,hs2b,hs2c⟩:=hD.spot (i:=k) (by omega);obtain⟨S1,hS1⟩:∃S1,S1=S.setE s1 i E.1 E.2:=⟨_,rfl⟩;obtain⟨S2,hS2⟩:∃S2,S2=S1.setE s2 k [] 0:=⟨_,rfl⟩;have hl1:Laid S S1 1:=by rw[hS1];exact Laid.setE _ _ _ _ _
 have hl2:Laid S S2 2:=by rw[hS2];exact hl1.trans (Laid.setE _ _ _ _ _)
 have hse1:Hid (∀W u bx a1,VC S a1→Sep w0 W (volR f q p S a1:: .box bx 118 (infoC x u)::intsR u (spI x.spots)::R)→Calls Tryz.prog 151 #[.pointer (some ⟨f,0,none⟩),infoV x u,.int .i64 i,strV E.1,.int .i64 (E.2:Nat)] W fun e w'=>e= .returned (.tuple #[])∧∃a',VC S1 a'∧Sep w0 w' (volR f q p S1 a':: .box bx 118 (infoC x u)::intsR u (spI x.spots)::R)):=Lh fun W u bx a1 hC1 hS=>by rw[hS1];exact set_any hC1 hF (intsT_part 1 rfl) hs1a hs1b hok hE1 hE2 hS
 have hse2:Hid (∀W u bx a1,VC S1 a1→Sep w0 W (volR f q p S1 a1:: .box bx 118 (infoC x u)::intsR u (spI x.spots)::R)→Calls Tryz.prog 151 #[.pointer (some ⟨f,0,none⟩),infoV x u,.int .i64 k,.string ⟨#[]⟩,.int .i64 0] W fun e w'=>e= .returned (.tuple #[])∧∃a',VC S2 a'∧Sep w0 w' (volR f q p S2 a':: .box bx 118 (infoC x u)::intsR u (spI x.spots)::R)):=Lh fun W u bx a1 hC1 hS=>by rw[hS2];exact set_any (name:=[]) (n:=0) hC1 (hl1.like.vf hF) (intsT_part 1 rfl) hs2a (by rw[hl1.like.count];exact hs2b) hok (by decide) (by decide) hS
 obtain⟨S3,hS3⟩:∃S3,S3=S2.node (S2.nodes-1):=⟨_,rfl⟩;have hL3:Like S S3:=by rw[hS3];exact hl2.like.trans ⟨rfl,rfl,rfl,rfl,rfl⟩
 have hvol:Hid (∀W a1 R',Sep w0 W (volR f q p S2 a1::R')→(W.cell? ⟨f,6,none⟩=some (.int .i64 S.nodes)∧W.frozen? ⟨f,6,none⟩=false)∧Sep w0 (W.setCell ⟨f,6,none⟩ (.int .i64 (S.nodes-1))) (volR f q p S3 a1::R')):=Lh fun W a1 R' hS=>⟨⟨by rw[←hl2.nodes];exact hS.fs_cells.c6,hS.vol_frozen 6⟩,by rw[hS3,←hl2.nodes];exact hS.vol_node _⟩
 obtain⟨m,hm⟩:∃m,m=(k+15)/16:=⟨_,rfl⟩;have hpt:=fun w=>parts_fs (n:=k) (by':=16) (by omega) (by omega) (by omega) w
 rw[show k+16-1=k+15 by omega,←hm]at hpt;have hmm:max 1 m≤x.spots.length:=by rw[hroom,hks,hm];omega
 obtain⟨S4,hfp⟩:=fitP_down (S:=S3) hmm;have hU:=fitP_used hfp;have hk1:=fitP_like hfp;have hlt:=fitP_lt hfp (fun s hs=>by rw[hL3.count];exact hD.lt s hs);obtain⟨l,hl⟩:∃l,l=x.spots.take (max 1 m):=⟨_,rfl⟩;rw[←hl]at hfp hU hlt;obtain⟨y,hy⟩:∃y:VI,y= {x with size:=k,spots:=l}:=⟨_,rfl⟩;have hyo:y.ok:=by rw[hy];exact⟨hxo.kind,hxo.mode,hxo.links,by show k<65536;omega,by show l.length≤28;rw[hU.2];omega,fun s hs=>by have h2:=hlt s hs;have h3:=hC.dok.few;rw[hL3.count]at h2;unfold VS.count at h2;omega⟩
 have hi0:inoP S4.cur dir=x:=by rw[hU.1.ino,hS3];exact(hl2.ino hdir).trans hx.symm
 have hres:leaveP S dir name=S4.keep dir y:=by unfold leaveP;(have e2:leave2 S x name=S2:=by unfold leave2;rw[hS2,hS1,hE,hk];simp only[←hL,hfi,Int.toNat_natCast];rw[←hk,hs1c,hs2c]);rw[←hx];simp only[e2,←hS3];rw[show max 1 ((x.size+14)/16)=max 1 m by rw[hm,hks],hfp,hy,hk]
 rw[hres];have hF4:VF S4:=(hL3.trans hk1).vf hF;have hn4:S4.names=S.names:=(hL3.trans hk1).names;have hW4:SmallW S4:=hU.1.small (by rw[hS3];exact⟨by show _≤S2.wB;rw[hl2.wB];exact hW.b0,by show S2.wB≤_;rw[hl2.wB];exact hW.b1,by show _≤S2.wI;rw[hl2.wI];exact hW.i0,by show S2.wI≤_;rw[hl2.wI];exact hW.i1⟩);have hft:Hid (∀W bx u a1,VC S2 a1→Sep w0 W (volR f q p S3 a1:: .box bx 118 (infoC {x with size:=k} u)::intsR u (spI x.spots)::R)→
   Calls Tryz.prog 89 #[.pointer (some ⟨f,0,none⟩),.pointer (some ⟨bx,0,none⟩),.int .i64 (max 1 m:Nat)] W fun e w'=>e= .returned (.tuple #[])∧∃a1 A c,VC S4 a1∧Sep w0 w' (volR f q p S4 a1:: .box bx 118 (infoC y (.slice A l.length c))::intsR (.slice A l.length c) (spI l)::R)):=Lh fun W bx u a1 hC1 hS=>by
  refine(fit_any (x:= {x with size:=k}) (n:=max 1 m) (by rw[hS3];exact hC1.node _) (hL3.vf hF) hok (by omega) (fun s hs=>by rw[hL3.count];exact hD.lt s hs) hS).mono ?_;intro e w' ho;unfold fitOut at ho;have hfp':fitP S3 ({x with size:=k}:VI).spots (max 1 m)=some (S4,l):=hfp;rw[hfp']at ho;obtain⟨rfl,a2,v2,_,h2,h3⟩:=ho;obtain⟨A,c,e⟩:=h3.sl_shape 2 rfl;(have hll:(spI l).length=l.length:=by unfold spI;rw[List.length_map]);rw[hll]at e;subst e;rw[hy];exact⟨rfl,a2,A,c,h2,h3⟩
 have hkp:Hid (∀W bx u a2,VC S4 a2→Sep w0 W (volR f q p S4 a2:: .box bx 118 (infoC y u)::intsR u (spI l)::R)→
   Calls Tryz.prog 90 #[.pointer (some ⟨f,0,none⟩),.int .i64 dir,infoV y u] W fun e w'=>e= .returned (.tuple #[])∧∃a',VC (S4.keep dir y) a'∧Sep w0 w' (volR f q p (S4.keep dir y) a':: .box bx 118 (infoC y u)::intsR u (spI l)::R)):=Lh fun W bx u a2 hC1 hS=>
  keep_any hC1 hF4 (by rw[hn4];exact hdir) hyo (by rw[hi0];exact hok) hW4 (intsT_part 1 (by rw[hy];rfl)) hS
 have hll:l.length=max 1 m:=hU.2;have hyv:Hid (∀u,infoV y u= .agg #[.int .i64 (x.kind:Nat),.int .i64 (x.mode:Nat),.int .i64 (x.links:Nat),.int .i64 (k:Nat),u]):=Lh fun u=>by rw[hy];rfl
 have hyc:Hid (∀W As bx u,As[1]? =some (.box bx 118 (infoC y u))→Sep w0 W As→W.cell? ⟨bx,0,none⟩=some (.int .i64 (x.kind:Nat))∧W.cell? ⟨bx,1,none⟩=some (.int .i64 (x.mode:Nat))∧W.cell? ⟨bx,2,none⟩=some (.int .i64 (x.links:Nat))∧W.cell? ⟨bx,3,none⟩=some (.int .i64 (k:Nat))∧W.cell? ⟨bx,4,none⟩=some u):=Lh fun W As bx u hi hS=>by have:=hS.info_cells 1 hi;rw[hy]at this;exact this
 obtain⟨nd,hnd'⟩:∃nd,nd=S.nodes:=⟨_,rfl⟩;rw[←hnd']at hnd hvol;have n1:=hnd.1;have n2:=hnd.2;have x1:(k:Int)<448:=by omega
 have x0:(0:Int)≤k:=by omega
 have hz:(x.size:Int)=(k:Int)+1:=by omega
 have hmi:(if(1:Int)<(m:Int)then(m:Int)else 1)=((max 1 m:Nat):Int):=by split<;>omega
 obtain⟨M,hM⟩:∃M,M=max 1 m:=⟨_,rfl⟩;rw[hll]at hft;rw[←hM]at hft hmi;have hM28:(M:Int)≤28:=by omega
 have hinf:Hid (∀u,infoV x u= .agg #[.int .i64 (x.kind:Nat),.int .i64 (x.mode:Nat),.int .i64 (x.links:Nat),.int .i64 ((k:Int)+1),u]∧infoC x u=#[.int .i64 (x.kind:Nat),.int .i64 (x.mode:Nat),.int .i64 (x.links:Nat),.int .i64 ((k:Int)+1),u]):=Lh fun u=>by unfold infoV infoC;rw[hz];exact⟨rfl,rfl⟩
 have hxc:Hid (∀W As bx u,As[1]? =some (.box bx 118 (infoC x u))→Sep w0 W As→W.cell? ⟨bx,0,none⟩=some (.int .i64 (x.kind:Nat))∧W.cell? ⟨bx,1,none⟩=some (.int .i64 (x.mode:Nat))∧W.cell? ⟨bx,2,none⟩=some (.int .i64 (x.links:Nat))∧W.cell? ⟨bx,3,none⟩=some (.int .i64 ((k:Int)+1))∧W.cell? ⟨bx,4,none⟩=some u):=Lh fun W As bx u hi hS=>by rw[←hz];exact hS.info_cells 1 hi
 have hin':Calls Tryz.prog 64 #[.pointer (some ⟨f,0,none⟩),.int .i64 dir] w fun e w'=>∃A c a1,e= .returned (.agg #[.int .i64 (x.kind:Nat),.int .i64 (x.mode:Nat),.int .i64 (x.links:Nat),.int .i64 ((k:Int)+1),.slice A x.spots.length c])∧VC S a1∧Sep w0 (w'.alloc (.cells #[.int .i64 (x.kind:Nat),.int .i64 (x.mode:Nat),.int .i64 (x.links:Nat),.int .i64 ((k:Int)+1),.slice A x.spots.length c] 118)) (volR f q p S a1:: .box w'.heap.size 118 (infoC x (.slice A x.spots.length c))::intsR (.slice A x.spots.length c) (spI x.spots)::R):=by refine hin.mono ?_;rintro e w' ⟨v,a1,rfl,hR,h9⟩;obtain⟨A,c,e9⟩:=h9.sl_shape 0 rfl;(have hll:(spI x.spots).length=x.spots.length:=by unfold spI;rw[List.length_map]);rw[hll]at e9;subst e9;refine⟨A,c,a1,by rw[(hinf.out _).1],hR.ok,?_⟩;rw[←(hinf.out _).2];exact Sep.sel [2,0,1] (h9.bN 118 (infoC x (.slice A x.spots.length c))) (by decide) (by simp)
 have hfin:Hid (∀W bx u a1,VC S2 a1→Sep w0 W (volR f q p S2 a1:: .box bx 118 (infoC x u)::intsR u (spI x.spots)::R)→W.frozen? ⟨bx,3,none⟩=false∧((W.setCell ⟨bx,3,none⟩ (.int .i64 k)).cell? ⟨f,6,none⟩=some (.int .i64 nd)∧(W.setCell ⟨bx,3,none⟩ (.int .i64 k)).frozen? ⟨f,6,none⟩=false)∧
   (∀W',W'=((W.setCell ⟨bx,3,none⟩ (.int .i64 k)).setCell ⟨f,6,none⟩ (.int .i64 (nd-1))).drew→W'.cell? ⟨bx,3,none⟩=some (.int .i64 k)∧Calls Tryz.prog 89 #[.pointer (some ⟨f,0,none⟩),.pointer (some ⟨bx,0,none⟩),.int .i64 (M:Nat)] W' fun e w'=>e= .returned (.tuple #[])∧∃a1 A c,VC S4 a1∧Sep w0 w' (volR f q p S4 a1:: .box bx 118 (infoC y (.slice A M c))::intsR (.slice A M c) (spI l)::R))):=Lh fun W bx u a1 hC1 hS=>by
  have h1:=hS.bS 1 rfl 3 (.int .i64 (k:Nat));have h2:Sep w0 (W.setCell ⟨bx,3,none⟩ (.int .i64 k)) (volR f q p S2 a1:: .box bx 118 (infoC {x with size:=k} u)::intsR u (spI x.spots)::R):=h1;obtain⟨h3,h4⟩:=hvol.out _ _ _ h2;refine⟨hS.bF 1 rfl 3,h3,?_⟩;rintro W' rfl;exact⟨h4.drew.bC 1 rfl 3,hft.out _ _ _ _ hC1 h4.drew⟩
 clear hC hF hdir hD hW hnd hname hroom h hin hx hxo hok hi hfi hL hk hks hk5 hE hE2 hE1 hs1a hs1b hs1c hs2a hs2b hs2c hS1 hS2 hl1 hl2 hS3 hL3 hvol hm hmm hfp hU hk1 hlt hl hyo hi0 hres hF4 hn4 hW4 hft hnd' hlast hll hM hz hy;unfold strV at*;go_enter Tryz.func100,Tryz.ntmps100;go_wp2_with(first |(go_at_call 64;refine hin'.mono ?_;rintro e w9 ⟨A9,c9,a1,rfl,hC1,h9⟩;(obtain⟨d0,d1,d2,d3,d4⟩:=hxc.out _ _ _ _ rfl h9);(have hc:=hfd.out _ _ _ _ hC1 h9);rw[(hinf.out _).1]at hc;clear hC1 h9 hin' hfd)|(go_at_call 117;refine hc.mono ?_;rintro e w8 ⟨rfl,a2,hC2,h8⟩;clear d0 d1 d2 d3 d4 hc;(obtain⟨d0,d1,d2,d3,d4⟩:=hxc.out _ _ _ _ rfl h8);(have hc:=hen.out _ _ _ _ hC2 h8);rw[(hinf.out _).1]at hc;clear hC2 h8 hen)|(go_at_call 69;refine hc.mono ?_;rintro e w7 ⟨rfl,a3,hC3,h7⟩;clear d0 d1 d2 d3 d4 hc;(obtain⟨d0,d1,d2,d3,d4⟩:=hxc.out _ _ _ _ rfl h7);(have hc:=hse1.out _ _ _ _ hC3 h7);rw[(hinf.out _).1]at hc;clear hC3 h7 hse1)|(go_at_call 151;refine hc.mono ?_;rintro e w6 ⟨rfl,a4,hC4,h6⟩;clear d0 d1 d2 d3 d4 hc;(obtain⟨d0,d1,d2,d3,d4⟩:=hxc.out _ _ _ _ rfl h6);(have hc2:=hse2.out _ _ _ _ hC4 h6);rw[(hinf.out _).1]at hc2;clear hC4 h6 hse2)|(go_at_call 151;refine hc2.mono ?_;rintro e w5 ⟨rfl,a5,hC5,h5⟩;clear d0 d1 d2 d3 d4 hc2;(obtain⟨d0,d1,d2,d3,d4⟩:=hxc.out _ _ _ _ rfl h5);(obtain⟨f3,⟨k6,f6⟩,hnx⟩:=hfin.out _ _ _ _ hC5 h5);replace hnx:=Lh hnx;clear hC5 h5 hfin));obtain⟨k3,hc⟩:=hnx.out _ rfl;clear hnx d0 d1 d2 d3 d4 k6 f6 f3;refine wp_region_E (S:=fun w'=>w'.cell? ⟨w9.heap.size,3,none⟩=some (.int .i64 (k:Nat))) 8 (by kernel_rfl) ?_;simp only[List.size_toArray,List.length_cons,List.length_nil,Nat.reduceAdd];refine wpE_tk (i:=0) (v:=?_) k3 rfl ?_ ?_;rotate_left
 ·rintro w e1;go_simp;try with_reducible rfl
 simp only[Act.put,gD];refine wpE_tk (i:=1) (v:=?_) k3 rfl ?_ ?_;rotate_left
 ·rintro w e1;go_simp;try with_reducible rfl
 simp only[Act.put,gD];refine wpE_tk (i:=2) (v:=?_) k3 rfl ?_ ?_;rotate_left
 ·rintro w e1;go_simp;try with_reducible rfl
 simp only[Act.put,gD];refine wpE_tk (i:=3) (v:=?_) k3 rfl ?_ ?_;rotate_left
 ·rintro w e1;go_simp;try with_reducible rfl
 simp only[Act.put,gD];refine wpE_tk (i:=4) (v:=?_) k3 rfl ?_ ?_;rotate_left
 ·rintro w e1;go_simp;try with_reducible rfl
 simp only[Act.put,gD];refine wpE_one (i:=5) (by kernel_rfl) rfl (fun K hK=>?_);go_simp;go_at_call 85;refine(hpt _).mono ?_;rintro e w4 ⟨rfl,h4⟩;obtain rfl:=h4.symm;dsimp only;refine hK _ _ (fun _=>k3) ?_;clear hK K;try simp only[Act.put,gD]
 refine wpE_one (i:=6) (by kernel_rfl) rfl (fun K hK=>?_);go_simp;refine hK _ _ (fun _=>k3) ?_;clear hK K;try simp only[Act.put,gD]
 refine wpE_one (i:=7) (by kernel_rfl) rfl (fun K hK=>?_);go_simp;try simp only[hmi]
 go_at_call 89;refine hc.mono ?_;rintro e w3 ⟨rfl,a6,A6,c6,hC6,h3⟩;have k4:=hyc.out _ _ _ _ rfl h3;have k5:w3.cell? ⟨w9.heap.size,3,none⟩=some (.int .i64 (k:Nat)):=k4.2.2.2.1;have hkp2:=hkp.out _ _ _ _ hC6 h3.drew;rw[hyv.out]at hkp2;clear hC6 hkp k3 hc h3;dsimp only;refine hK _ _ (fun _=>k5) ?_;clear hK K;try simp only[Act.put,gD]
 refine wpE_done (by kernel_rfl) ?_ _;clear k5;go_wp2_with fail;refine wp_region_E (S:=fun w'=>w'.cell? ⟨w9.heap.size,0,none⟩=some (.int .i64 (x.kind:Nat))∧w'.cell? ⟨w9.heap.size,1,none⟩=some (.int .i64 (x.mode:Nat))∧w'.cell? ⟨w9.heap.size,2,none⟩=some (.int .i64 (x.links:Nat))∧w'.cell? ⟨w9.heap.size,3,none⟩=some (.int .i64 (k:Nat))∧w'.cell? ⟨w9.heap.size,4,none⟩=some (.slice A6 M c6)) 6 (by kernel_rfl) ?_;simp only[List.size_toArray,List.length_cons,List.length_nil,Nat.reduceAdd];have k4':=show w3.drew.cell? ⟨w9.heap.size,0,none⟩=some (.int .i64 (x.kind:Nat))∧w3.drew.cell? ⟨w9.heap.size,1,none⟩=some (.int .i64 (x.mode:Nat))∧w3.drew.cell? ⟨w9.heap.size,2,none⟩=some (.int .i64 (x.links:Nat))∧w3.drew.cell? ⟨w9.heap.size,3,none⟩=some (.int .i64 (k:Nat))∧w3.drew.cell? ⟨w9.heap.size,4,none⟩=some (.slice A6 M c6)from k4
 refine wpE_tk (i:=0) (v:=?_) k4' rfl ?_ ?_;rotate_left
 ·rintro w ⟨e1,e2,e3,e4,e5⟩;go_simp;try with_reducible rfl
 simp only[Act.put,gD];refine wpE_tk (i:=1) (v:=?_) k4' rfl ?_ ?_;rotate_left
 ·rintro w ⟨e1,e2,e3,e4,e5⟩;go_simp;try with_reducible rfl
 simp only[Act.put,gD];refine wpE_tk (i:=2) (v:=?_) k4' rfl ?_ ?_;rotate_left
 ·rintro w ⟨e1,e2,e3,e4,e5⟩;go_simp;try with_reducible rfl
 simp only[Act.put,gD];refine wpE_tk (i:=3) (v:=?_) k4' rfl ?_ ?_;rotate_left
 ·rintro w ⟨e1,e2,e3,e4,e5⟩;go_simp;try with_reducible rfl
 simp only[Act.put,gD];refine wpE_tk (i:=4) (v:=?_) k4' rfl ?_ ?_;rotate_left
 ·rintro w ⟨e1,e2,e3,e4,e5⟩;go_simp;try with_reducible rfl
 simp only[Act.put,gD];refine wpE_one (i:=5) (by kernel_rfl) rfl (fun K hK=>?_);go_simp;go_at_call 90;refine hkp2.mono ?_;rintro e w2 ⟨rfl,a7,hC7,h2⟩;have k6':=hyc.out _ _ _ _ rfl h2;have h8:Sep w0 w2 (.box w9.heap.size 118 (infoC y (.slice A6 M c6))::intsR (.slice A6 M c6) (spI l)::volR f q p (S4.keep dir y) a7::R):=Sep.sel [1,2,0] h2 (by decide) (by simp);have h9:=Lh (And.intro hC7 (h8.drop 2));clear h8 h2 hC7 hkp2;dsimp only;refine hK _ _ (fun _=>k6') ?_;clear hK K;try simp only[Act.put,gD]
 refine wpE_done (by kernel_rfl) ?_ _;go_wp2_with fail
 go_end0
 exact⟨rfl,a7,h9.out.1,h9.out.2⟩
end
end Go.Proofs.YteihmbaimbogaaaGreat
